import Derived.Test.YtciphecegkfaiaaGreatP3
namespace Go.Proofs.YtciphecegkfaiaaGreat.Am
open Go
attribute [local irreducible] awp B5 BR Bx B3 Bw Bn BS B1 itK
set_option maxRecDepth 100000
set_option maxHeartbeats 8000000
set_option linter.unusedSimpArgs false
set_option linter.unusedVariables false
attribute [local go_sem] MP
def EJ (N:Nat) (af:Int) (ae:Int):List ((Int×Int)×(Int×Int))→Int→Option Int
 |[],aa=>
  some aa
 |((aq,an),(am,ak))::ys,aa=>
  (Dk N aq an am ak af ae).bind fun ai=>
  EJ N af ae ys (min aa ai)
def GJ (N:Nat) (l97:List (Int×Int)) (af:Int) (ae:Int):Option Int:=
 gd (l97.length≤1000000000)<|
 (EJ N af ae (Bm l97) 4611686018427387903).bind fun ab=>
 (CU N ab 0).bind fun au=>
 some au
@[go_sem] def oP (N:Nat):Spec:=p0<|pS Ap fun l97=>pG<|pI fun af=>pI fun ae=>pE<|pE<|pF (GJ N l97 af ae) 0 fun r=> .i r
theorem VZ (N:Nat):FOK Tryz.prog 100 (oP N):=by
 refine Al x100.ok<|A3 fun l97=>AW<|Ac fun af=>Ac fun ae=>Ah<|Ah<|An fun r h=>wx x100 (Aa KM<|Aa (Mz N)<|Aa (QR N)<|Aj) fun _ hS F=> ?_
 dsimp only[x100,mkX,Ap]
 unfold GJ at h
 obtain⟨bg,h⟩:=un h
 obtain⟨av,bb,h⟩:=un h
 refine go hS F ?_
 refine Au av (fun z:Int×Nat=>⟨[(5,.box (100,2) 0)],[(.c (100,2) 0,.i z.1)],z.2⟩) (fun z=>(z.1:Int)) .n ?_ ?_
 ·refine Kd (fun y:Nat×Int×Nat=>([(.c (100,2) 0,.i y.2.1),(.c (0,1) 0,.i af),(.c (0,1) 1,.i ae)],y.2.2)) (fun y=>EJ N af ae ((Bm l97).drop y.1) y.2.1=some av∧y.1≤(Bm l97).length) (fun y=>y.1) (0,4611686018427387903,3) (ev F) (Kl l97 false (by assumption)) x150.ok ⟨rfl,rfl⟩ (by simp[x100,mkX]) (by intro a ha;obtain⟨y,_,rfl⟩:=List.mem_map.1 ha;exact⟨rfl,rfl⟩) ⟨bb,Nat.zero_le _⟩ rfl ?_ ?_ ?_
  ·exact leF F
  ·rintro l ⟨n,aa,aj⟩ ⟨ah,hle⟩ args ba
   obtain⟨⟨⟨aq,an⟩,⟨am,ak⟩⟩,az,rfl,hlt⟩:=Iv ba
   simp only[az,EJ] at ah
   clear ba az
   simp only[edA,FF]
   obtain⟨ai,ay,ah⟩:=un ah
   exact grg hS (fc ay F) (n+1,min aa ai,aj+1+1+1) ah
  ·rintro⟨n,aa,aj⟩ ⟨ah,hle⟩ hk
   rw[show n=_ from hk,Io] at ah
   simp only[EJ] at ah
   exact gck hS F (aa,aj) ah
 ·rintro⟨ab,be⟩ rfl
  obtain⟨au,aw,h⟩:=un h
  exact Ad hS (fc aw F) h
end Go.Proofs.YtciphecegkfaiaaGreat.Am
namespace Go.Proofs.YtciphecegkfaiaaGreat.Am
open Go
attribute [local irreducible] awp B5 BR Bx B3 Bw Bn BS B1 itK
set_option maxRecDepth 100000
set_option maxHeartbeats 8000000
set_option linter.unusedSimpArgs false
set_option linter.unusedVariables false
attribute [local go_sem] MP
def AQ (N:Nat) (s122:List (Int×Int)):Nat→Int→Option (Sum Unit Int)
 |0,_=>none
 |n+1,Ij=>
  bif decide (Ij<(s122.length:Int)) then(
   (nth s122 Ij).bind fun(x131,x132)=>
   (Fw N x131 x132).bind fun fr=>
   bif fr then(
    some (.inr Ij))
   else(
    gd (I64 (Ij+1))<|
    AQ N s122 n (Ij+1)))
  else(
   some (.inl ()))
def Cl (N:Nat) (s122:List (Int×Int)):Option Int:=
 (AQ N s122 N 0).bind fun dt=>match dt with
  | .inl ()=>(
   some (-1))
  | .inr jb=>(
   some jb)
@[go_sem] def Yd (N:Nat):Spec:=p0<|pS Ap fun s122=>pL 99<|pE<|pE<|pF (Cl N s122) 0 fun r=> .i r
theorem Uu (N:Nat):FOK Tryz.prog 167 (Yd N):=by
 refine Al x167.ok<|A3 fun s122=>JJ<|Ah<|Ah<|An fun r h=>wx x167 (Aa (YY N)<|Aj) fun _ hS F=> ?_
 dsimp only[x167,mkX,Ap]
 unfold Cl at h
 obtain⟨dt,jd,h⟩:=un h
 refine go hS F ?_
 refine Au dt (fun z:Nat=>⟨[],[],z⟩) (fun z=>(.inl ():Sum Unit Int)) (.x 0) ?_ ?_
 ·refine Aq (fun n (y:Int×Nat)=>AQ N s122 n y.1) (fun y=>⟨[(0,A1 s122),(1,.clo (.func 99) [] []),(7,.i (s122.length:Int)),(8,.i y.1)],[],y.2⟩) (0,2) jd (leF F) ?_
  rintro n ⟨Ij,iy⟩ aj
  simp only[AQ] at aj
  refine gcb hS F aj (fun _ aj=> ?_) (fun _ aj=> ?_)
  ·obtain⟨⟨x131,x132⟩,ip,aj⟩:=un aj
   obtain⟨jm,F⟩:=rqG Br ip F
   obtain⟨fr,ic,aj⟩:=un aj
   replace F:=fc ic F
   refine gcb hS F aj (fun _ aj=> ?_) (fun _ aj=> ?_)
   ·obtain rfl:=yJ aj
    exact Ad hS F h
   ·obtain⟨jo,aj⟩:=un aj
    exact gbk hS F (n,Ij+1,iy+1+1+1+1) aj
  ·exact gck hS F (iy+1) aj
 ·rintro jy rfl
  exact Ad hS F h
def A2 (N:Nat) (PE:List (Int×Int)):Option Bool:=
 (Cl N PE).bind fun fq=>
 some (decide (0≤fq))
@[go_sem] def Ye (N:Nat):Spec:=p0<|pS Ap fun PE=>pL 99<|pE<|pE<|pF (A2 N PE) false fun r=> .b r
theorem OS (N:Nat):FOK Tryz.prog 138 (Ye N):=by
 refine Al x138.ok<|A3 fun PE=>JJ<|Ah<|Ah<|An fun r h=>wx x138 (Aa (Uu N)<|Aj) fun _ hS F=> ?_
 dsimp only[x138,mkX,Ap]
 unfold A2 at h
 obtain⟨fq,ib,h⟩:=un h
 exact Ad hS (fc ib F) h
def Ho (N:Nat) (cj:Int) (ci:Int) (x146:Int) (x147:Int) (bz:Int) (x149:Int):Option Bool:=
 (Dk N x146 x147 bz x149 cj ci).bind fun fp=>
 some (decide (0<fp))
@[go_sem] def oQ (N:Nat):Spec:=p0<|pG<|pI fun cj=>pI fun ci=>pE<|pO<|pI fun x146=>pI fun x147=>pE<|pO<|pI fun bz=>pI fun x149=>pE<|pE<|pF (Ho N cj ci x146 x147 bz x149) false fun r=> .b r
theorem gC (N:Nat):FOK Tryz.prog 171 (oQ N):=by
 refine Al x171.ok<|AW<|Ac fun cj=>Ac fun ci=>Ah<|JI<|Ac fun x146=>Ac fun x147=>Ah<|JI<|Ac fun bz=>Ac fun x149=>Ah<|Ah<|An fun r h=>wx x171 (Aa (Mz N)<|Aj) fun _ hS F=> ?_
 dsimp only[x171,mkX]
 unfold Ho at h
 obtain⟨fp,g9,h⟩:=un h
 exact Ad hS (fc g9 F) h
def As (N:Nat) (s152:List (Int×Int)) (au:Int) (aq:Int) (an:Int) (am:Int):Nat→Int→Option (Sum Unit Int)
 |0,_=>none
 |n+1,x164=>
  bif decide (x164<(s152.length:Int)) then(
   (nth s152 x164).bind fun(x165,x166)=>
   (Ho N x165 x166 au aq an am).bind fun fo=>
   bif fo then(
    some (.inr x164))
   else(
    gd (I64 (x164+1))<|
    As N s152 au aq an am n (x164+1)))
  else(
   some (.inl ()))
def Ch (N:Nat) (s152:List (Int×Int)) (au:Int) (aq:Int) (an:Int) (am:Int):Option Int:=
 (As N s152 au aq an am N 0).bind fun dq=>match dq with
  | .inl ()=>(
   some (-1))
  | .inr ja=>(
   some ja)
@[go_sem] def V0 (N:Nat):Spec:=p0<|pS Ap fun s152=>pL 171<|pO<|pI fun au=>pI fun aq=>pE<|pO<|pI fun an=>pI fun am=>pE<|pE<|pE<|pF (Ch N s152 au aq an am) 0 fun r=> .i r
theorem SQ (N:Nat):FOK Tryz.prog 167 (V0 N):=by
 refine Al x167.ok<|A3 fun s152=>JJ<|JI<|Ac fun au=>Ac fun aq=>Ah<|JI<|Ac fun an=>Ac fun am=>Ah<|Ah<|Ah<|An fun r h=>wx x167 (Aa (gC N)<|Aj) fun _ hS F=> ?_
 dsimp only[x167,mkX,Ap]
 unfold Ch at h
 obtain⟨dq,jd,h⟩:=un h
 refine go hS F ?_
 refine Au dq (fun z:Nat=>⟨[],[],z⟩) (fun z=>(.inl ():Sum Unit Int)) (.x 0) ?_ ?_
 ·refine Aq (fun n (y:Int×Nat)=>As N s152 au aq an am n y.1) (fun y=>⟨[(0,A1 s152),(1,.clo (.func 171) [] [.ro [.i au,.i aq] 0,.ro [.i an,.i am] 0]),(7,.i (s152.length:Int)),(8,.i y.1)],[],y.2⟩) (0,2) jd (leF F) ?_
  rintro n ⟨x164,iw⟩ aj
  simp only[As] at aj
  refine gcb hS F aj (fun _ aj=> ?_) (fun _ aj=> ?_)
  ·obtain⟨⟨x165,x166⟩,im,aj⟩:=un aj
   obtain⟨jl,F⟩:=rqG Br im F
   obtain⟨fo,g8,aj⟩:=un aj
   replace F:=fc g8 F
   refine gcb hS F aj (fun _ aj=> ?_) (fun _ aj=> ?_)
   ·obtain rfl:=yJ aj
    exact Ad hS F h
   ·obtain⟨jo,aj⟩:=un aj
    exact gbk hS F (n,x164+1,iw+1+1+1+1) aj
  ·exact gck hS F (iw+1) aj
 ·rintro jx rfl
  exact Ad hS F h
def BE (N:Nat) (b9:List (Int×Int)) (cr:Int) (cq:Int) (co:Int) (cn:Int):Option Bool:=
 (Ch N b9 cr cq co cn).bind fun fm=>
 some (decide (0≤fm))
@[go_sem] def V1 (N:Nat):Spec:=p0<|pS Ap fun b9=>pL 171<|pO<|pI fun cr=>pI fun cq=>pE<|pO<|pI fun co=>pI fun cn=>pE<|pE<|pE<|pF (BE N b9 cr cq co cn) false fun r=> .b r
theorem SR (N:Nat):FOK Tryz.prog 138 (V1 N):=by
 refine Al x138.ok<|A3 fun b9=>JJ<|JI<|Ac fun cr=>Ac fun cq=>Ah<|JI<|Ac fun co=>Ac fun cn=>Ah<|Ah<|Ah<|An fun r h=>wx x138 (Aa (SQ N)<|Aj) fun _ hS F=> ?_
 dsimp only[x138,mkX,Ap]
 unfold BE at h
 obtain⟨fm,gz,h⟩:=un h
 exact Ad hS (fc gz F) h
def CO (N:Nat) (l182:List (Int×Int)) (ab:Int) (aw:Int) (av:Int):Nat→Int→Option (Sum Unit Bool)
 |0,_=>none
 |n+1,ak=>
  bif decide (ak<(l182.length:Int)) then(
   (nth l182 ak).bind fun(db,cz)=>
   gd (((decide (ak≠ab))&&(decide (ak≠(ab+1).tmod (l182.length:Int))))=true→(0≤(ab+1).tmod (l182.length:Int)∧(ab+1).tmod (l182.length:Int)<(l182.length:Int)))<|
   gd (((decide (ak≠ab))&&(decide (ak≠(ab+1).tmod (l182.length:Int))))=true→((Dk N aw av ((l182.getD ((ab+1).tmod (l182.length:Int)).toNat (0,0)).1) ((l182.getD ((ab+1).tmod (l182.length:Int)).toNat (0,0)).2) db cz).isSome=true))<|
   bif ((decide (ak≠ab))&&(decide (ak≠(ab+1).tmod (l182.length:Int))))&&(decide ((Dk N aw av ((l182.getD ((ab+1).tmod (l182.length:Int)).toNat (0,0)).1) ((l182.getD ((ab+1).tmod (l182.length:Int)).toNat (0,0)).2) db cz).getD 0≤0)) then(
    some (.inr false))
   else(
    gd (I64 (ak+1))<|
    CO N l182 ab aw av n (ak+1)))
  else(
   some (.inl ()))
def Dg (N:Nat) (l182:List (Int×Int)):Nat→Int→Option (Sum Unit Bool)
 |0,_=>none
 |n+1,ab=>
  bif decide (ab<(l182.length:Int)) then(
   (nth l182 ab).bind fun(aw,av)=>
   gd (I64 (ab+1))<|
   gd ((l182.length:Int)≠0)<|
   (CO N l182 ab aw av N 0).bind fun dp=>match dp with
    | .inl ()=>(
     gd (I64 (ab+1))<|
     Dg N l182 n (ab+1))
    | .inr i9=>(
     some (.inr i9)))
  else(
   some (.inl ()))
def BC (N:Nat) (l182:List (Int×Int)):Option Bool:=
 gd ((!((decide ((l182.length:Int)<3))||(decide (8<(l182.length:Int)))))=true→((A2 N l182).isSome=true))<|
 bif ((decide ((l182.length:Int)<3))||(decide (8<(l182.length:Int))))||((A2 N l182).getD false) then(
  some false)
 else(
  (Dg N l182 N 0).bind fun dm=>match dm with
   | .inl ()=>(
    some true)
   | .inr i8=>(
    some i8))
@[go_sem] def s98 (N:Nat):Spec:=p0<|pS Ap fun l182=>pE<|pF (BC N l182) false fun r=> .b r
theorem KF (N:Nat):FOK Tryz.prog 98 (s98 N):=by
 refine Al x98.ok<|A3 fun l182=>Ah<|An fun r h=>wx x98 (Aa (OS N)<|Aa (Mz N)<|Aj) fun _ hS F=> ?_
 dsimp only[x98,mkX,Ap]
 unfold BC at h
 obtain⟨d5,h⟩:=un h
 refine gcb hS F h (fun _ h=> ?_) (fun _ h=> ?_)
 ·exact Ad hS F h
 ·obtain⟨dm,ir,h⟩:=un h
  refine go hS F ?_
  refine Au dm (fun z:Nat=>⟨[],[],z⟩) (fun z=>(.inl ():Sum Unit Bool)) (.x 0) ?_ ?_
  ·refine Aq (fun n (y:Int×Nat)=>Dg N l182 n y.1) (fun y=>⟨[(0,A1 l182),(20,A1 l182),(21,.i (l182.length:Int)),(22,.i y.1)],[],y.2⟩) (0,3) ir (leF F) ?_
   rintro n ⟨ab,bu⟩ af
   simp only[Dg] at af
   refine gcb hS F af (fun _ af=> ?_) (fun _ af=> ?_)
   ·obtain⟨⟨aw,av⟩,il,af⟩:=un af
    obtain⟨jk,F⟩:=rqG Br il F
    obtain⟨j6,jn,af⟩:=un af
    obtain⟨dp,jr,af⟩:=un af
    refine go hS F ?_
    refine Au dp (fun z:Nat=>⟨[(0,A1 l182),(20,A1 l182),(21,.i (l182.length:Int)),(22,.i ab)],[],z⟩) (fun z=>(.inl ():Sum Unit Bool)) (.x 2) ?_ ?_
    ·refine Aq (fun n (y:Int×Nat)=>CO N l182 ab aw av n y.1) (fun y=>⟨[(0,A1 l182),(3,.i ab),(4,.box (503,bu+1+1) 0),(5,.i ((ab+1).tmod (l182.length:Int))),(20,A1 l182),(21,.i (l182.length:Int)),(22,.i ab),(32,A1 l182),(33,.i (l182.length:Int)),(34,.i y.1)],[(.c (503,bu+1+1) 0,.i aw),(.c (503,bu+1+1) 1,.i av)],y.2⟩) (0,bu+1+1+1+1) jr (leF F) ?_
     rintro n ⟨ak,iv⟩ ay
     simp only[CO] at ay
     refine gcb hS F ay (fun _ ay=> ?_) (fun _ ay=> ?_)
     ·obtain⟨⟨db,cz⟩,ij,ay⟩:=un ay
      obtain⟨jj,F⟩:=rqG Br ij F
      obtain⟨j4,jz,ay⟩:=un ay
      refine gcb hS F ay (fun _ ay=> ?_) (fun _ ay=> ?_)
      ·obtain rfl:=yJ ay
       obtain rfl:=yJ af
       exact Ad hS F h
      ·obtain⟨jq,ay⟩:=un ay
       exact gbk hS F (n,ak+1,iv+1+1+1+1) ay
     ·exact gck hS F (iv+1) ay
    ·rintro je rfl
     obtain⟨jp,af⟩:=un af
     exact gbk hS F (n,ab+1,je+1) af
   ·exact gck hS F (bu+1) af
  ·rintro jw rfl
   exact Ad hS F h
def DO (N:Nat) (l222:List (Int×Int)):List ((Int×Int)×(Int×Int))→Int→Option Int
 |[],ai=>
  some ai
 |((em,ej),(ei,eh))::ys,ai=>
  (nth l222 0).bind fun(ez,eu)=>
  (Dk N ez eu em ej ei eh).bind fun ce=>
  gd (I64 (ai+ce))<|
  DO N l222 ys (ai+ce)
def Fx (N:Nat) (l222:List (Int×Int)):Option Int:=
 (BC N l222).bind fun fj=>
 bif !fj then(
  some 0)
 else(
  gd (l222.length≤1000000000)<|
  (DO N l222 (Bm l222) 0).bind fun bp=>
  some bp)
@[go_sem] def s83 (N:Nat):Spec:=p0<|pS Ap fun l222=>pE<|pF (Fx N l222) 0 fun r=> .i r
theorem lG (N:Nat):FOK Tryz.prog 83 (s83 N):=by
 refine Al x83.ok<|A3 fun l222=>Ah<|An fun r h=>wx x83 (Aa (KF N)<|Aa KM<|Aa (Mz N)<|Aj) fun _ hS F=> ?_
 dsimp only[x83,mkX,Ap]
 unfold Fx at h
 obtain⟨fj,gy,h⟩:=un h
 replace F:=fc gy F
 refine gcb hS F h (fun _ h=> ?_) (fun _ h=> ?_)
 ·exact Ad hS F h
 ·obtain⟨d5,h⟩:=un h
  obtain⟨fx,ir,h⟩:=un h
  refine go hS F ?_
  refine Au fx (fun z:Int×Nat=>⟨[(3,.box (300,3) 0)],[(.c (300,3) 0,.i z.1)],z.2⟩) (fun z=>(z.1:Int)) .n ?_ ?_
  ·refine Kd (fun y:Nat×Int×Nat=>([(.c (300,3) 0,.i y.2.1),(.c (0,1) 0,A1 l222)],y.2.2)) (fun y=>DO N l222 ((Bm l222).drop y.1) y.2.1=some fx∧y.1≤(Bm l222).length) (fun y=>y.1) (0,0,4) (ev F) (Kl l222 false (by assumption)) x150.ok ⟨rfl,rfl⟩ (by simp[x83,mkX]) (by intro a ha;obtain⟨y,_,rfl⟩:=List.mem_map.1 ha;exact⟨rfl,rfl⟩) ⟨ir,Nat.zero_le _⟩ rfl ?_ ?_ ?_
   ·exact leF F
   ·rintro l ⟨n,ai,dz⟩ ⟨af,hle⟩ args iq
    obtain⟨⟨⟨em,ej⟩,⟨ei,eh⟩⟩,fy,rfl,hlt⟩:=Iv iq
    simp only[fy,DO] at af
    clear iq fy
    simp only[edA,FF]
    obtain⟨⟨ez,eu⟩,ig,af⟩:=un af
    obtain⟨ji,F⟩:=rqN 0 Br ig F
    obtain⟨ce,gx,jf,af⟩:=un af
    exact grg hS (fc gx F) (n+1,ai+ce,dz+1+1+1) af
   ·rintro⟨n,ai,dz⟩ ⟨af,hle⟩ hk
    rw[show n=_ from hk,Io] at af
    simp only[DO] at af
    exact gck hS F (ai,dz) af
  ·rintro⟨bp,jv⟩ rfl
   exact Ad hS F h
def GK (N:Nat) (bq:List (Int×Int)) (bh:Int) (bg:Int):Option Int:=
 (BC N bq).bind fun dl=>
 gd ((!(!dl))=true→((Fw N bh bg).isSome=true))<|
 bif (!dl)||((Fw N bh bg).getD false) then(
  some (-1))
 else(
  (GJ N bq bh bg).bind fun fh=>
  some fh)
@[go_sem] def s44 (N:Nat):Spec:=p0<|pS Ap fun bq=>pG<|pI fun bh=>pI fun bg=>pE<|pE<|pF (GK N bq bh bg) 0 fun r=> .i r
theorem lH (N:Nat):FOK Tryz.prog 44 (s44 N):=by
 refine Al x44.ok<|A3 fun bq=>AW<|Ac fun bh=>Ac fun bg=>Ah<|Ah<|An fun r h=>wx x44 (Aa (KF N)<|Aa (YY N)<|Aa (VZ N)<|Aj) fun _ hS F=> ?_
 dsimp only[x44,mkX,Ap]
 unfold GK at h
 obtain⟨dl,gw,d5,h⟩:=un h
 replace F:=fc gw F
 refine gcb hS F h (fun _ h=> ?_) (fun _ h=> ?_)
 ·exact Ad hS F h
 ·obtain⟨fh,gu,h⟩:=un h
  exact Ad hS (fc gu F) h
def DP (N:Nat) (aa:List (Int×Int)):List ((Int×Int)×(Int×Int))→Int→Option (Sum Unit Int)
 |[],ba=>
  some (.inl ())
 |((d9,d8),(d7,d6))::ys,ba=>
  (BE N aa d9 d8 d7 d6).bind fun fg=>
  bif !fg then(
   some (.inr ba))
  else(
   gd (I64 (ba+1))<|
   DP N aa ys (ba+1))
def F1 (N:Nat) (l258:List (Int×Int)) (aa:List (Int×Int)):Option Int:=
 gd (l258.length≤1000000000)<|
 (DP N aa (Bm l258) 0).bind fun ck=>match ck with
  | .inl ()=>(
   some (-1))
  | .inr i7=>(
   some i7)
@[go_sem] def oR (N:Nat):Spec:=p0<|pS Ap fun l258=>pS Ap fun aa=>pE<|pF (F1 N l258 aa) 0 fun r=> .i r
theorem gE (N:Nat):FOK Tryz.prog 149 (oR N):=by
 refine Al x149.ok<|A3 fun l258=>A3 fun aa=>Ah<|An fun r h=>wx x149 (Aa KM<|Aa (SR N)<|Aj) fun _ hS F=> ?_
 dsimp only[x149,mkX,Ap]
 unfold F1 at h
 obtain⟨d5,h⟩:=un h
 obtain⟨ck,ir,h⟩:=un h
 refine go hS F ?_
 refine Au ck (fun z:Nat=>⟨[(4,.box (1,1) 0)],[(.c (1,1) 0,.i 0)],z⟩) (fun z=>(.inl ():Sum Unit Int)) .n ?_ ?_
 ·refine Kd (fun y:Nat×Int×Nat=>([(.c (100,2) 0,.i y.2.1),(.c (1,1) 0,.i 0),(.c (0,1) 0,A1 aa)],y.2.2)) (fun y=>DP N aa ((Bm l258).drop y.1) y.2.1=some ck∧y.1≤(Bm l258).length) (fun y=>y.1) (0,0,3) (ev F) (Kl l258 false (by assumption)) x150.ok ⟨rfl,rfl⟩ (by simp[x149,mkX]) (by intro a ha;obtain⟨y,_,rfl⟩:=List.mem_map.1 ha;exact⟨rfl,rfl⟩) ⟨ir,Nat.zero_le _⟩ rfl ?_ ?_ ?_
  ·exact leF F
  ·rintro l ⟨n,ba,dw⟩ ⟨af,hle⟩ args iq
   obtain⟨⟨⟨d9,d8⟩,⟨d7,d6⟩⟩,fy,rfl,hlt⟩:=Iv iq
   simp only[fy,DP] at af
   clear iq fy
   simp only[edA,FF]
   obtain⟨fg,gt,af⟩:=un af
   replace F:=fc gt F
   refine gcb hS F af (fun _ af=> ?_) (fun _ af=> ?_)
   ·obtain rfl:=yJ af
    exact Ad hS F h
   ·obtain⟨jf,af⟩:=un af
    exact grg hS F (n+1,ba+1,dw+1+1+1+1+1) af
  ·rintro⟨n,ba,dw⟩ ⟨af,hle⟩ hk
   rw[show n=_ from hk,Io] at af
   simp only[DP] at af
   exact gck hS F dw af
 ·rintro ju rfl
  exact Ad hS F h
def FT (N:Nat) (bj:List (Int×Int)) (bb:List (Int×Int)):Option (Int×Int×Bool):=
 (BC N bj).bind fun dh=>
 gd ((!(!dh))=true→((BC N bb).isSome=true))<|
 bif (!dh)||(!((BC N bb).getD false)) then(
  some (0,0,false))
 else(
  (F1 N bj bb).bind fun r284=>
  bif decide (0≤r284) then(
   some (0,r284,true))
  else(
   (F1 N bb bj).bind fun dg=>
   bif decide (0≤dg) then(
    some (1,dg,true))
   else(
    some (0,0,false))))
@[go_sem] def oS (N:Nat):Spec:=p0<|pS Ap fun bj=>pS Ap fun bb=>pE<|pF (FT N bj bb) (0,0,false) fun r=> .tup [.i r.1,.i r.2.1,.b r.2.2]
theorem gF (N:Nat):FOK Tryz.prog 121 (oS N):=by
 refine Al x121.ok<|A3 fun bj=>A3 fun bb=>Ah<|An fun r h=>wx x121 (Aa (KF N)<|Aa (gE N)<|Aj) fun _ hS F=> ?_
 dsimp only[x121,mkX,Ap]
 unfold FT at h
 obtain⟨dh,gr,d5,h⟩:=un h
 replace F:=fc gr F
 refine gcb hS F h (fun _ h=> ?_) (fun _ h=> ?_)
 ·exact Ad hS F h
 ·obtain⟨r284,gj,h⟩:=un h
  replace F:=fc gj F
  refine gcb hS F h (fun _ h=> ?_) (fun _ h=> ?_)
  ·exact Ad hS F h
  ·obtain⟨dg,gi,h⟩:=un h
   replace F:=fc gi F
   refine gcb hS F h (fun _ h=> ?_) (fun _ h=> ?_)
   ·exact Ad hS F h
   ·exact Ad hS F h
def CL (N:Nat) (bv:List (Int×Int)) (bi:List (Int×Int)):Option Bool:=
 (FT N bv bi).bind fun(i6,iz,fb)=>
 (BC N bv).bind fun de=>
 gd (de=true→((BC N bi).isSome=true))<|
 some ((de&&((BC N bi).getD false))&&(!fb))
@[go_sem] def s81 (N:Nat):Spec:=p0<|pS Ap fun bv=>pS Ap fun bi=>pE<|pF (CL N bv bi) false fun r=> .b r
theorem YZ (N:Nat):FOK Tryz.prog 81 (s81 N):=by
 refine Al x81.ok<|A3 fun bv=>A3 fun bi=>Ah<|An fun r h=>wx x81 (Aa (gF N)<|Aa (KF N)<|Aj) fun _ hS F=> ?_
 dsimp only[x81,mkX,Ap]
 unfold CL at h
 obtain⟨⟨i6,iz,fb⟩,gh,h⟩:=un h
 obtain⟨de,gg,d5,h⟩:=un h
 exact Ad hS (fc gg (fc gh F)) h
def Fi (N:Nat) (l296:List (Int×Int)) (ae:Int) (ah:Int):Nat→Int→(List (Int×Int))→Option ((List (Int×Int)))
 |0,_,_=>none
 |n+1,x309,l310=>
  bif decide (x309<(l296.length:Int)) then(
   (nth l310 x309).bind fun(az,be)=>
   gd (I64 (az+ae))<|
   (nth (l310.set x309.toNat (az+ae,be)) x309).bind fun(bw,bo)=>
   gd (I64 (bo+ah))<|
   gd (I64 (x309+1))<|
   Fi N l296 ae ah n (x309+1) ((l310.set x309.toNat (az+ae,be)).set x309.toNat (bw,bo+ah)))
  else(
   some l310)
def E9 (N:Nat) (l296:List (Int×Int)) (ae:Int) (ah:Int):Option ((List (Int×Int))×Int):=
 (BC N l296).bind fun e9=>
 bif ((!e9)||(decide (40<max ae ah)))||(decide (min ae ah<(-40))) then(
  some ([],70))
 else(
  gd (l296≠[])<|
  gd ((l296.length)*16≤140737488355328)<|
  (Fi N l296 ae ah N 0 l296).bind fun du=>
  (A2 N du).bind fun e8=>
  bif e8 then(
   some ([],70))
  else(
   some (du,0)))
@[go_sem] def oT (N:Nat):Spec:=p0<|pS Ap fun l296=>pI fun ae=>pI fun ah=>pE<|pF (E9 N l296 ae ah) ([],0) fun r=> .tup [A1 r.1,.i r.2]
theorem gH (N:Nat):FOK Tryz.prog 134 (oT N):=by
 refine Al x134.ok<|A3 fun l296=>Ac fun ae=>Ac fun ah=>Ah<|An fun r h=>wx x134 (Aa (KF N)<|Aa (OS N)<|Aj) fun _ hS F=> ?_
 dsimp only[x134,mkX,Ap]
 unfold E9 at h
 obtain⟨e9,gf,h⟩:=un h
 replace F:=fc gf F
 refine gcb hS F h (fun _ h=> ?_) (fun _ h=> ?_)
 ·exact Ad hS F h
 ·refine go hS F ?_
  refine Df hS 1 x78.hf x78.hc x78.hn x78.ok rfl (ev F) (ev F) ?_ rfl (ev F) (Nat.le_of_ble_eq_true rfl) fun hb=> ?_
  ·exact goc hS F
  dsimp only[x78,mkX]
  obtain⟨d5,h⟩:=un h
  refine gcf hS F ?_
  obtain⟨j7,h⟩:=un h
  obtain⟨jc,js,h⟩:=un h
  refine go hS F ?_
  refine Au jc (fun z:(List (Int×Int))×Nat=>⟨[(8,.own (300,6) z.1.length)],[(.a (300,6),Gw z.1)],z.2⟩) (fun z=>(z.1:(List (Int×Int)))) (.x 0) ?_ ?_
  ·refine Aq (fun n (y:Int×(List (Int×Int))×Nat)=>Fi N l296 ae ah n y.1 y.2.1) (fun y=>⟨[(1,.i ae),(2,.i ah),(8,.own (300,6) y.2.1.length),(28,.i (l296.length:Int)),(29,.i y.1)],[(.a (300,6),Gw y.2.1)],y.2.2⟩) (0,l296,8) js (leF F) ?_
   rintro n ⟨x309,l310,iu⟩ bm
   simp only[Fi] at bm
   refine gcb hS F bm (fun _ bm=> ?_) (fun _ bm=> ?_)
   ·obtain⟨⟨az,be⟩,ie,bm⟩:=un bm
    obtain⟨jh,F⟩:=rqG Br ie F
    obtain⟨jn,⟨bw,bo⟩,cy,bm⟩:=un bm
    have cu:(l310.set x309.toNat (az+ae,be)).getD x309.toNat (0,0)=(bw,bo):=ixs cy _
    have br:=LR (l310.set x309.toNat (az+ae,be)) x309.toNat
    rw[cu] at br
    simp only[List.map_set,Br] at br
    have jg:=(I5 cy).1
    obtain⟨jf,j5,bm⟩:=un bm
    exact gbk hS (fc br (fc cu F)) (n,x309+1,(l310.set x309.toNat (az+ae,be)).set x309.toNat (bw,bo+ah),iu+1+1+1+1+1) bm
   ·exact gck hS F (l310,iu+1) bm
  ·rintro⟨du,jt⟩ rfl
   obtain⟨e8,gc,h⟩:=un h
   replace F:=fc gc F
   refine gcb hS F h (fun _ h=> ?_) (fun _ h=> ?_)
   ·exact Ad hS F h
   ·exact Ad hS F h
end Go.Proofs.YtciphecegkfaiaaGreat.Am
namespace Go.Proofs.YtciphecegkfaiaaGreat.Am
open Go
attribute [local irreducible] awp B5 BR Bx B3 Bw Bn BS B1 itK
set_option maxRecDepth 100000
set_option maxHeartbeats 8000000
set_option linter.unusedSimpArgs false
set_option linter.unusedVariables false
attribute [local go_sem] U4
def Aw (N:Nat) (x325:List (Int×Int)):Nat→Int→Int→Int→Option (Int×Int)
 |0,_,_,_=>none
 |n+1,aj,ay,aw=>
  bif decide (aj<(x325.length:Int)) then(
   (nth x325 aj).bind fun(be,bb)=>
   (CW N be bb ay aw).bind fun de=>
   bif decide (0<de) then(
    gd (I64 (aj+1))<|
    Aw N x325 n (aj+1) be bb)
   else(
    gd (I64 (aj+1))<|
    Aw N x325 n (aj+1) ay aw))
  else(
   some (ay,aw))
def AX (N:Nat) (x325:List (Int×Int)):Option (Int×Int):=
 gd ((decide ((x325.length:Int)<1))=false)<|
 (nth x325 0).bind fun(bj,bi)=>
 (Aw N x325 N 1 bj bi).bind fun(dm,dl)=>
 some (dm,dl)
@[go_sem] def V2 (N:Nat):Spec:=p0<|pS Ap fun x325=>pL 132<|pE<|pE<|pF (AX N x325) (0,0) fun r=> .agg [.i r.1,.i r.2]
theorem SS (N:Nat):FOK Tryz.prog 163 (V2 N):=by
 refine Al x163.ok<|A3 fun x325=>JJ<|Ah<|Ah<|An fun r h=>wx x163 (Aa (OR N)<|Aj) fun _ hS F=> ?_
 dsimp only[x163,mkX,Ap]
 unfold AX at h
 obtain⟨fb,h⟩:=un h
 refine go hS F ?_
 refine cb F (decide ((x325.length:Int)<1)) (fun hc2=> ?_) (fun hc2=> ?_)
 ·exact Bool.noConfusion (hc2.symm.trans fb)
 obtain⟨⟨bj,bi⟩,e8,h⟩:=un h
 obtain⟨fy,F⟩:=rqN 0 Br e8 F
 obtain⟨fj,fm,h⟩:=un h
 refine go hS F ?_
 refine Au fj (fun z:Int×Int×Nat=>⟨[(4,.box (0,1) 0),(5,.box (303,3) 0)],[(.c (303,3) 0,.i z.1),(.c (303,3) 1,.i z.2.1),(.c (0,1) 0,.i 0),(.c (0,1) 1,.i 0)],z.2.2⟩) (fun z=>((z.1,z.2.1):Int×Int)) (.x 0) ?_ ?_
 ·refine Aq (fun n (y:Int×Int×Int×Nat)=>Aw N x325 n y.1 y.2.1 y.2.2.1) (fun y=>⟨[(0,A1 x325),(1,.clo (.func 132) [] []),(4,.box (0,1) 0),(5,.box (303,3) 0),(6,.i y.1)],[(.c (303,3) 0,.i y.2.1),(.c (303,3) 1,.i y.2.2.1),(.c (0,1) 0,.i 0),(.c (0,1) 1,.i 0)],y.2.2.2⟩) (1,bj,bi,4) fm (leF F) ?_
  rintro n ⟨aj,ay,aw,bo⟩ aa
  simp only[Aw] at aa
  refine gcb hS F aa (fun _ aa=> ?_) (fun _ aa=> ?_)
  ·obtain⟨⟨be,bb⟩,ez,aa⟩:=un aa
   obtain⟨fx,F⟩:=rqG Br ez F
   obtain⟨de,ej,aa⟩:=un aa
   replace F:=fc ej F
   refine gcb hS F aa (fun _ aa=> ?_) (fun _ aa=> ?_)
   ·obtain⟨fp,aa⟩:=un aa
    exact gbk hS F (n,aj+1,be,bb,bo+1+1+1+1) aa
   ·obtain⟨fo,aa⟩:=un aa
    exact gbk hS F (n,aj+1,ay,aw,bo+1+1+1) aa
  ·exact gck hS F (ay,aw,bo+1) aa
 ·rintro⟨dm,dl,gf⟩ rfl
  exact Ad hS F h
def Ax (N:Nat) (x352:List (Int×Int)):Nat→Int→Int→Int→Option (Int×Int)
 |0,_,_,_=>none
 |n+1,ai,av,au=>
  bif decide (ai<(x352.length:Int)) then(
   (nth x352 ai).bind fun(ba,az)=>
   (CW N ba az av au).bind fun db=>
   bif decide (db<0) then(
    gd (I64 (ai+1))<|
    Ax N x352 n (ai+1) ba az)
   else(
    gd (I64 (ai+1))<|
    Ax N x352 n (ai+1) av au))
  else(
   some (av,au))
def AY (N:Nat) (x352:List (Int×Int)):Option (Int×Int):=
 gd ((decide ((x352.length:Int)<1))=false)<|
 (nth x352 0).bind fun(bh,bg)=>
 (Ax N x352 N 1 bh bg).bind fun(dh,dg)=>
 some (dh,dg)
@[go_sem] def V3 (N:Nat):Spec:=p0<|pS Ap fun x352=>pL 132<|pE<|pE<|pF (AY N x352) (0,0) fun r=> .agg [.i r.1,.i r.2]
theorem ST (N:Nat):FOK Tryz.prog 164 (V3 N):=by
 refine Al x164.ok<|A3 fun x352=>JJ<|Ah<|Ah<|An fun r h=>wx x164 (Aa (OR N)<|Aj) fun _ hS F=> ?_
 dsimp only[x164,mkX,Ap]
 unfold AY at h
 obtain⟨fb,h⟩:=un h
 refine go hS F ?_
 refine cb F (decide ((x352.length:Int)<1)) (fun hc2=> ?_) (fun hc2=> ?_)
 ·exact Bool.noConfusion (hc2.symm.trans fb)
 obtain⟨⟨bh,bg⟩,eu,h⟩:=un h
 obtain⟨fr,F⟩:=rqN 0 Br eu F
 obtain⟨fh,fm,h⟩:=un h
 refine go hS F ?_
 refine Au fh (fun z:Int×Int×Nat=>⟨[(4,.box (0,1) 0),(5,.box (303,3) 0)],[(.c (303,3) 0,.i z.1),(.c (303,3) 1,.i z.2.1),(.c (0,1) 0,.i 0),(.c (0,1) 1,.i 0)],z.2.2⟩) (fun z=>((z.1,z.2.1):Int×Int)) (.x 0) ?_ ?_
 ·refine Aq (fun n (y:Int×Int×Int×Nat)=>Ax N x352 n y.1 y.2.1 y.2.2.1) (fun y=>⟨[(0,A1 x352),(1,.clo (.func 132) [] []),(4,.box (0,1) 0),(5,.box (303,3) 0),(6,.i y.1)],[(.c (303,3) 0,.i y.2.1),(.c (303,3) 1,.i y.2.2.1),(.c (0,1) 0,.i 0),(.c (0,1) 1,.i 0)],y.2.2.2⟩) (1,bh,bg,4) fm (leF F) ?_
  rintro n ⟨ai,av,au,bm⟩ aa
  simp only[Ax] at aa
  refine gcb hS F aa (fun _ aa=> ?_) (fun _ aa=> ?_)
  ·obtain⟨⟨ba,az⟩,em,aa⟩:=un aa
   obtain⟨fq,F⟩:=rqG Br em F
   obtain⟨db,ei,aa⟩:=un aa
   replace F:=fc ei F
   refine gcb hS F aa (fun _ aa=> ?_) (fun _ aa=> ?_)
   ·obtain⟨fp,aa⟩:=un aa
    exact gbk hS F (n,ai+1,ba,az,bm+1+1+1+1) aa
   ·obtain⟨fo,aa⟩:=un aa
    exact gbk hS F (n,ai+1,av,au,bm+1+1+1) aa
  ·exact gck hS F (av,au,bm+1) aa
 ·rintro⟨dh,dg,gc⟩ rfl
  exact Ad hS F h
def GL (N:Nat) (aq:Int) (an:Int) (am:Int) (ak:Int) (ah:Int) (af:Int) (ae:Int) (ab:Int):Option ((Int×Int)×(Int×Int)):=
 gd (0≤IntKind.wrap .u64 2)<|
 gd (IntKind.wrap .u64 2≤1000000)<|
 (some ((Lib.bitLen (IntKind.wrap .u64 2:Int).toNat:Int))).bind fun fg=>
 (CW N am ak aq an).bind fun cz=>
 bif decide (cz<0) then(
  gd (0≤IntKind.wrap .u64 2)<|
  gd (IntKind.wrap .u64 2≤1000000)<|
  (CW N ae ab ah af).bind fun cy=>
  bif decide (cy<0) then(
   (AX N [(am,ak),(ae,ab)]).bind fun(cu,cr)=>
   (AY N [(aq,an),(ah,af)]).bind fun(cq,co)=>
   some ((cu,cr),(cq,co)))
  else(
   (AX N [(am,ak),(ah,af)]).bind fun(cn,ck)=>
   (AY N [(aq,an),(ae,ab)]).bind fun(cj,ci)=>
   some ((cn,ck),(cj,ci))))
 else(
  gd (0≤IntKind.wrap .u64 2)<|
  gd (IntKind.wrap .u64 2≤1000000)<|
  (CW N ae ab ah af).bind fun ce=>
  bif decide (ce<0) then(
   (AX N [(aq,an),(ae,ab)]).bind fun(b9,bz)=>
   (AY N [(am,ak),(ah,af)]).bind fun(bw,bv)=>
   some ((b9,bz),(bw,bv)))
  else(
   (AX N [(aq,an),(ah,af)]).bind fun(bu,br)=>
   (AY N [(am,ak),(ae,ab)]).bind fun(bq,bp)=>
   some ((bu,br),(bq,bp))))
@[go_sem] def oU (N:Nat):Spec:=p0<|pG<|pI fun aq=>pI fun an=>pE<|pG<|pI fun am=>pI fun ak=>pE<|pG<|pI fun ah=>pI fun af=>pE<|pG<|pI fun ae=>pI fun ab=>pE<|pE<|pF (GL N aq an am ak ah af ae ab) ((0,0),(0,0)) fun r=> .tup [.agg [.i r.1.1,.i r.1.2],.agg [.i r.2.1,.i r.2.2]]
theorem gJ (N:Nat):FOK Tryz.prog 131 (oU N):=by
 refine Al x131.ok<|AW<|Ac fun aq=>Ac fun an=>Ah<|AW<|Ac fun am=>Ac fun ak=>Ah<|AW<|Ac fun ah=>Ac fun af=>Ah<|AW<|Ac fun ae=>Ac fun ab=>Ah<|Ah<|An fun r h=>wx x131 (Aa YG<|Aa (OR N)<|Aa (SS N)<|Aa (ST N)<|Aj) fun _ hS F=> ?_
 dsimp only[x131,mkX]
 unfold GL at h
 refine go hS F ?_
 refine Df hS 1 x162.hf x162.hc x162.hn x162.ok rfl (ev F) (ev F) ?_ rfl (ev F) (Nat.le_of_ble_eq_true rfl) fun hb=> ?_
 ·exact goc hS F
 dsimp only[x162,mkX]
 obtain⟨fb,gi,fg,eh,h⟩:=un h
 have e9:=yJ eh
 replace F:=fc e9 F
 refine go hS F ?_
 refine Df hS 6 x185.hf x185.hc x185.hn x185.ok rfl (ev F) (ev F) ?_ rfl (ev F) (Nat.le_of_ble_eq_true rfl) fun hb=> ?_
 ·exact goc hS F
 dsimp only[x185,mkX]
 refine go hS F ?_
 refine E4 30 ?_
 refine gct hS F ?_
 refine go hS F ?_
 refine Df hS 4 x191.hf x191.hc x191.hn x191.ok rfl (ev F) (ev F) ?_ rfl (ev F) (Nat.le_of_ble_eq_true rfl) fun hb=> ?_
 ·exact goc hS F
 dsimp only[x191,mkX]
 refine go hS F ?_
 refine E4 30 ?_
 refine gct hS F ?_
 refine go hS F ?_
 refine E4 30 ?_
 obtain⟨cz,d9,h⟩:=un h
 replace F:=fc d9 F
 refine gcb hS F h (fun _ h=> ?_) (fun _ h=> ?_)
 ·refine gcf hS F ?_
  refine gcf hS F ?_
  refine go hS F ?_
  refine Df hS 1 x162.hf x162.hc x162.hn x162.ok rfl (ev F) (ev F) ?_ rfl (ev F) (Nat.le_of_ble_eq_true rfl) fun hb=> ?_
  ·exact goc hS F
  dsimp only[x162,mkX]
  obtain⟨gh,gg,h⟩:=un h
  refine go hS F ?_
  refine Df hS 6 x185.hf x185.hc x185.hn x185.ok rfl (ev F) (ev F) ?_ rfl (ev F) (Nat.le_of_ble_eq_true rfl) fun hb=> ?_
  ·exact goc hS F
  dsimp only[x185,mkX]
  refine go hS F ?_
  refine E4 30 ?_
  refine gct hS F ?_
  refine go hS F ?_
  refine Df hS 4 x191.hf x191.hc x191.hn x191.ok rfl (ev F) (ev F) ?_ rfl (ev F) (Nat.le_of_ble_eq_true rfl) fun hb=> ?_
  ·exact goc hS F
  dsimp only[x191,mkX]
  refine go hS F ?_
  refine E4 30 ?_
  refine gct hS F ?_
  refine go hS F ?_
  refine E4 30 ?_
  obtain⟨cy,d8,h⟩:=un h
  replace F:=fc d8 F
  refine gcb hS F h (fun _ h=> ?_) (fun _ h=> ?_)
  ·refine gcf hS F ?_
   refine gcf hS F ?_
   obtain⟨⟨cu,cr⟩,d7,h⟩:=un h
   obtain⟨⟨cq,co⟩,d6,h⟩:=un h
   exact Ad hS (fc d6 (fc d7 F)) h
  ·refine gcf hS F ?_
   obtain⟨⟨cn,ck⟩,d5,h⟩:=un h
   obtain⟨⟨cj,ci⟩,dz,h⟩:=un h
   exact Ad hS (fc dz (fc d5 F)) h
 ·refine gcf hS F ?_
  refine go hS F ?_
  refine Df hS 1 x162.hf x162.hc x162.hn x162.ok rfl (ev F) (ev F) ?_ rfl (ev F) (Nat.le_of_ble_eq_true rfl) fun hb=> ?_
  ·exact goc hS F
  dsimp only[x162,mkX]
  obtain⟨fp,fo,h⟩:=un h
  refine go hS F ?_
  refine Df hS 6 x185.hf x185.hc x185.hn x185.ok rfl (ev F) (ev F) ?_ rfl (ev F) (Nat.le_of_ble_eq_true rfl) fun hb=> ?_
  ·exact goc hS F
  dsimp only[x185,mkX]
  refine go hS F ?_
  refine E4 30 ?_
  refine gct hS F ?_
  refine go hS F ?_
  refine Df hS 4 x191.hf x191.hc x191.hn x191.ok rfl (ev F) (ev F) ?_ rfl (ev F) (Nat.le_of_ble_eq_true rfl) fun hb=> ?_
  ·exact goc hS F
  dsimp only[x191,mkX]
  refine go hS F ?_
  refine E4 30 ?_
  refine gct hS F ?_
  refine go hS F ?_
  refine E4 30 ?_
  obtain⟨ce,dw,h⟩:=un h
  replace F:=fc dw F
  refine gcb hS F h (fun _ h=> ?_) (fun _ h=> ?_)
  ·refine gcf hS F ?_
   refine gcf hS F ?_
   obtain⟨⟨b9,bz⟩,du,h⟩:=un h
   obtain⟨⟨bw,bv⟩,dt,h⟩:=un h
   exact Ad hS (fc dt (fc du F)) h
  ·refine gcf hS F ?_
   obtain⟨⟨bu,br⟩,dq,h⟩:=un h
   obtain⟨⟨bq,bp⟩,dp,h⟩:=un h
   exact Ad hS (fc dp (fc dq F)) h
end Go.Proofs.YtciphecegkfaiaaGreat.Am
namespace Go.Proofs.YtciphecegkfaiaaGreat.Am
open Go
attribute [local irreducible] awp B5 BR Bx B3 Bw Bn BS B1 itK
set_option maxRecDepth 100000
set_option maxHeartbeats 8000000
set_option linter.unusedSimpArgs false
set_option linter.unusedVariables false
attribute [local go_sem] MP
def Dx (N:Nat) (ah:Int) (af:Int) (ae:Int) (ab:Int):List ((Int×Int)×(Int×Int))→Option (Sum Unit ((((Int×Int)×(Int×Int))×Bool)))
 |[]=>
  some (.inl ())
 |((be,bb),(av,au))::ys=>
  (Dk N ah af ae ab be bb).bind fun bg=>
  gd ((!(decide (bg≠0)))=true→((Dk N ah af ae ab av au).isSome=true))<|
  bif (decide (bg≠0))||(decide ((Dk N ah af ae ab av au).getD 0≠0)) then(
   Dx N ah af ae ab ys)
  else(
   (GL N ah af ae ab be bb av au).bind fun((an,am),(ak,aj))=>
   gd ((!(decide (an=ak)&&decide (am=aj)))=true→((CW N an am ak aj).isSome=true))<|
   bif (decide (an=ak)&&decide (am=aj))||(decide (0<(CW N an am ak aj).getD 0)) then(
    Dx N ah af ae ab ys)
   else(
    (CW N ah af ae ab).bind fun bh=>
    bif decide (0<bh) then(
     some (.inr (((ak,aj),(an,am)),true)))
    else(
     some (.inr (((an,am),(ak,aj)),true)))))
def Eb (N:Nat) (b422:List (Int×Int)):List ((Int×Int)×(Int×Int))→Option (Sum Unit ((((Int×Int)×(Int×Int))×Bool)))
 |[]=>
  some (.inl ())
 |((ah,af),(ae,ab))::ys=>
  gd (b422.length≤1000000000)<|
  (Dx N ah af ae ab (Bm b422)).bind fun az=>match az with
   | .inl ()=>(
    Eb N b422 ys)
   | .inr bu=>(
    some (.inr bu))
def Fb (N:Nat) (a421:List (Int×Int)) (b422:List (Int×Int)):Option (((Int×Int)×(Int×Int))×Bool):=
 (BC N a421).bind fun aw=>
 gd ((!(!aw))=true→((BC N b422).isSome=true))<|
 gd ((!((!aw)||(!((BC N b422).getD false))))=true→((CL N a421 b422).isSome=true))<|
 bif ((!aw)||(!((BC N b422).getD false)))||((CL N a421 b422).getD false) then(
  some (((0,0),(0,0)),false))
 else(
  gd (a421.length≤1000000000)<|
  (Eb N b422 (Bm a421)).bind fun ay=>match ay with
   | .inl ()=>(
    some (((0,0),(0,0)),false))
   | .inr br=>(
    some br))
@[go_sem] def s91 (N:Nat):Spec:=p0<|pS Ap fun a421=>pS Ap fun b422=>pE<|pF (Fb N a421 b422) (((0,0),(0,0)),false) fun r=> .tup [.agg [.i r.1.1.1,.i r.1.1.2,.i r.1.2.1,.i r.1.2.2],.b r.2]
theorem lI (N:Nat):FOK Tryz.prog 91 (s91 N):=by
 refine Al x91.ok<|A3 fun a421=>A3 fun b422=>Ah<|An fun r h=>wx x91 (Aa (KF N)<|Aa (YZ N)<|Aa KM<|Aa (Mz N)<|Aa (gJ N)<|Aa (OR N)<|Aj) fun _ hS F=> ?_
 dsimp only[x91,mkX,Ap]
 unfold Fb at h
 obtain⟨aw,bp,cr,cq,h⟩:=un h
 replace F:=fc bp F
 refine gcb hS F h (fun _ h=> ?_) (fun _ h=> ?_)
 ·exact Ad hS F h
 ·obtain⟨co,h⟩:=un h
  obtain⟨ay,cj,h⟩:=un h
  refine go hS F ?_
  refine Au ay (fun z:Nat=>⟨[(4,.box (1,1) 0),(5,.box (2,1) 0)],[(.c (2,1) 0,.b false),(.c (1,1) 0,.i 0),(.c (1,1) 1,.i 0),(.c (1,1) 2,.i 0),(.c (1,1) 3,.i 0)],z⟩) (fun z=>(.inl ():Sum Unit ((((Int×Int)×(Int×Int))×Bool)))) .n ?_ ?_
  ·refine Vf (fun y:Nat×Nat=>([(.c (2,1) 0,.b false),(.c (1,1) 0,.i 0),(.c (1,1) 1,.i 0),(.c (1,1) 2,.i 0),(.c (1,1) 3,.i 0),(.c (0,1) 0,A1 b422)],y.2)) (fun y=>Eb N b422 ((Bm a421).drop y.1)=some ay∧y.1≤(Bm a421).length) (fun y=>y.1) (0,3) (ev F) (Kl a421 false (by assumption)) x150.ok ⟨rfl,rfl⟩ (by simp[x91,mkX]) (by intro a ha;obtain⟨y,_,rfl⟩:=List.mem_map.1 ha;exact⟨rfl,rfl⟩) ⟨cj,Nat.zero_le _⟩ rfl ?_ ?_ ?_
   ·exact leF F
   ·rintro l ⟨n,ai⟩ ⟨aq,hle⟩ args bz
    obtain⟨⟨⟨ah,af⟩,⟨ae,ab⟩⟩,bw,rfl,hlt⟩:=Iv bz
    simp only[bw,Eb] at aq
    clear bz bw
    simp only[edA,FF]
    obtain⟨cn,aq⟩:=un aq
    obtain⟨az,ci,aq⟩:=un aq
    refine go hS F ?_
    refine Au az (fun z:Nat=>⟨[(3,.box (0,1) 0),(4,.box (1,1) 0),(5,.box (2,1) 0),(6,.box (400,ai+1) 0),(7,.box (500,ai+1+1) 0),(27,.clo (.func 150) [] [.ro [A1 a421] 0]),(28,.agg [.i ah,.i af]),(29,.agg [.i ae,.i ab])],[(.c (500,ai+1+1) 0,.i ae),(.c (500,ai+1+1) 1,.i ab),(.c (400,ai+1) 0,.i ah),(.c (400,ai+1) 1,.i af),(.c (2,1) 0,.b false),(.c (1,1) 0,.i 0),(.c (1,1) 1,.i 0),(.c (1,1) 2,.i 0),(.c (1,1) 3,.i 0),(.c (0,1) 0,A1 b422)],z⟩) (fun z=>(.inl ():Sum Unit ((((Int×Int)×(Int×Int))×Bool)))) .n ?_ ?_
    ·refine Vg (fun y:Nat×Nat=>([(.c (500,ai+1+1) 0,.i ae),(.c (500,ai+1+1) 1,.i ab),(.c (400,ai+1) 0,.i ah),(.c (400,ai+1) 1,.i af),(.c (2,1) 0,.b false),(.c (1,1) 0,.i 0),(.c (1,1) 1,.i 0),(.c (1,1) 2,.i 0),(.c (1,1) 3,.i 0),(.c (0,1) 0,A1 b422)],y.2)) (fun y=>Dx N ah af ae ab ((Bm b422).drop y.1)=some az∧y.1≤(Bm b422).length) (fun y=>y.1) (0,ai+1+1+1) (ev F) (Kl b422 false (by assumption)) x150.ok ⟨rfl,rfl⟩ (by simp[x91,mkX]) (by intro a ha;obtain⟨y,_,rfl⟩:=List.mem_map.1 ha;exact⟨rfl,rfl⟩) (YH b422 false _) ⟨ci,Nat.zero_le _⟩ rfl ?_ ?_ ?_
     ·exact leF F
     ·rintro l ⟨n,ba⟩ ⟨aa,hle⟩ args bq
      obtain⟨⟨⟨be,bb⟩,⟨av,au⟩⟩,bi,rfl,hlt⟩:=Iv bq
      simp only[bi,Dx] at aa
      clear bq bi
      simp only[edA,FF]
      obtain⟨bg,bo,ce,aa⟩:=un aa
      replace F:=fc bo F
      refine gcb hS F aa (fun _ aa=> ?_) (fun _ aa=> ?_)
      ·exact grg hS F (n+1,ba+1+1+1) aa
      ·obtain⟨⟨⟨an,am⟩,⟨ak,aj⟩⟩,bm,aa⟩:=un aa
       obtain⟨b9,aa⟩:=un aa
       replace F:=fc bm F
       refine gcb hS F aa (fun _ aa=> ?_) (fun _ aa=> ?_)
       ·exact grg hS F (n+1,ba+1+1+1+1+1) aa
       ·obtain⟨bh,bj,aa⟩:=un aa
        replace F:=fc bj F
        refine gcb hS F aa (fun _ aa=> ?_) (fun _ aa=> ?_)
        ·obtain rfl:=yJ aa
         obtain rfl:=yJ aq
         exact Ad hS F h
        ·obtain rfl:=yJ aa
         obtain rfl:=yJ aq
         exact Ad hS F h
     ·rintro⟨n,ba⟩ ⟨aa,hle⟩ hk
      rw[show n=_ from hk,Io] at aa
      simp only[Dx] at aa
      exact gck hS F ba aa
    ·rintro bv rfl
     exact grg hS F (n+1,bv) aq
   ·rintro⟨n,ai⟩ ⟨aq,hle⟩ hk
    rw[show n=_ from hk,Io] at aq
    simp only[Eb] at aq
    exact gck hS F ai aq
  ·rintro ck rfl
   exact Ad hS F h
end Go.Proofs.YtciphecegkfaiaaGreat.Am
namespace Go.Proofs.YtciphecegkfaiaaGreat.Am
open Go
attribute [local irreducible] awp B5 BR Bx B3 Bw Bn BS B1 itK
set_option maxRecDepth 100000
set_option maxHeartbeats 8000000
set_option linter.unusedSimpArgs false
set_option linter.unusedVariables false
def Fj (N:Nat) (l1:List (Int×Int)):Nat→Int→(List (Int×Int))→Option ((List (Int×Int)))
 |0,_,_=>none
 |n+1,x14,l15=>
  bif decide (x14<(l1.length:Int)) then(
   (nth l15 x14).bind fun(x16,x17)=>
   gd (I64 (x16*2))<|
   (nth (l15.set x14.toNat (x16*2,x17)) x14).bind fun(x19,x20)=>
   gd (I64 (x20*2))<|
   gd (I64 (x14+1))<|
   Fj N l1 n (x14+1) ((l15.set x14.toNat (x16*2,x17)).set x14.toNat (x19,x20*2)))
  else(
   some l15)
def HC (N:Nat) (l1:List (Int×Int)) (x2:Int) (y3:Int):Option Int:=
 (BC N l1).bind fun r4=>
 bif ((!r4)||(decide (min x2 y3<0)))||(decide (40≤max x2 y3)) then(
  some (-1))
 else(
  gd (l1≠[])<|
  gd ((l1.length)*16≤140737488355328)<|
  (Fj N l1 N 0 l1).bind fun ak=>
  gd (I64 (2*x2))<|
  gd (I64 ((2*x2)+1))<|
  gd (I64 (2*y3))<|
  gd (I64 ((2*y3)+1))<|
  (GJ N ak ((2*x2)+1) ((2*y3)+1)).bind fun aj=>
  some aj)
@[go_sem] def s45 (N:Nat):Spec:=p0<|pS Ap fun l1=>pI fun x2=>pI fun y3=>pE<|pF (HC N l1 x2 y3) 0 fun r=> .i r
theorem lJ (N:Nat):FOK Tryz.prog 45 (s45 N):=by
 refine Al x45.ok<|A3 fun l1=>Ac fun x2=>Ac fun y3=>Ah<|An fun r h=>wx x45 (Aa (KF N)<|Aa (VZ N)<|Aj) fun _ hS F=> ?_
 dsimp only[x45,mkX,Ap]
 unfold HC at h
 obtain⟨r4,av,h⟩:=un h
 replace F:=fc av F
 refine gcb hS F h (fun _ h=> ?_) (fun _ h=> ?_)
 ·exact Ad hS F h
 ·refine go hS F ?_
  refine Df hS 1 x78.hf x78.hc x78.hn x78.ok rfl (ev F) (ev F) ?_ rfl (ev F) (Nat.le_of_ble_eq_true rfl) fun hb=> ?_
  ·exact goc hS F
  dsimp only[x78,mkX]
  obtain⟨bj,h⟩:=un h
  refine gcf hS F ?_
  obtain⟨bi,h⟩:=un h
  obtain⟨an,az,h⟩:=un h
  refine go hS F ?_
  refine Au an (fun z:(List (Int×Int))×Nat=>⟨[(1,.i x2),(2,.i y3),(7,.own (300,6) z.1.length)],[(.a (300,6),Gw z.1)],z.2⟩) (fun z=>(z.1:(List (Int×Int)))) (.x 0) ?_ ?_
  ·refine Aq (fun n (y:Int×(List (Int×Int))×Nat)=>Fj N l1 n y.1 y.2.1) (fun y=>⟨[(1,.i x2),(2,.i y3),(7,.own (300,6) y.2.1.length),(27,.i (l1.length:Int)),(28,.i y.1)],[(.a (300,6),Gw y.2.1)],y.2.2⟩) (0,l1,8) az (leF F) ?_
   rintro n ⟨x14,l15,am⟩ aa
   simp only[Fj] at aa
   refine gcb hS F aa (fun _ aa=> ?_) (fun _ aa=> ?_)
   ·obtain⟨⟨x16,x17⟩,ai,aa⟩:=un aa
    obtain⟨ay,F⟩:=rqG Br ai F
    obtain⟨bh,⟨x19,x20⟩,af,aa⟩:=un aa
    have ae:(l15.set x14.toNat (x16*2,x17)).getD x14.toNat (0,0)=(x19,x20):=ixs af _
    have ab:=LR (l15.set x14.toNat (x16*2,x17)) x14.toNat
    rw[ae] at ab
    simp only[List.map_set,Br] at ab
    have aw:=(I5 af).1
    obtain⟨bg,be,aa⟩:=un aa
    exact gbk hS (fc ab (fc ae F)) (n,x14+1,(l15.set x14.toNat (x16*2,x17)).set x14.toNat (x19,x20*2),am+1+1+1+1+1) aa
   ·exact gck hS F (l15,am+1) aa
  ·rintro⟨ak,bm⟩ rfl
   obtain⟨bb,ba,au,aq,aj,ah,h⟩:=un h
   exact Ad hS (fc ah F) h
end Go.Proofs.YtciphecegkfaiaaGreat.Am
