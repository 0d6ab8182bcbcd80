import Derived.Test.YtciphecegkfaiaaGreatP3
namespace Go.Proofs.YtciphecegkfaiaaGreat.Am
open Go
attribute [local irreducible] awp B5 BR Bx B3 Bw Bn BS B1 itK
set_option maxRecDepth 100000
set_option maxHeartbeats 8000000
set_option linter.unusedSimpArgs false
set_option linter.unusedVariables false
attribute [local go_sem] MP
def EJ (N:Nat) (ah:Int) (af:Int):List ((Int×Int)×(Int×Int))→Int→Option Int
 |[],aa=>
  some aa
 |((au,aq),(an,am))::ys,aa=>
  (Dk N au aq an am ah af).bind fun aj=>
  EJ N ah af ys (min aa aj)
def GJ (N:Nat) (l97:List (Int×Int)) (ah:Int) (af:Int):Option Int:=
 gd (l97.length≤1000000000)<|
 (EJ N ah af (Bm l97) 4611686018427387903).bind fun ae=>
 (CU N ae 0).bind fun av=>
 some av
@[go_sem] def oP (N:Nat):Spec:=p0<|pS Ap fun l97=>pG<|pI fun ah=>pI fun af=>pE<|pE<|pF (GJ N l97 ah af) 0 fun r=> .i r
end Go.Proofs.YtciphecegkfaiaaGreat.Am
namespace Go.Proofs.YtciphecegkfaiaaGreat.Am
open Go
attribute [local irreducible] awp B5 BR Bx B3 Bw Bn BS B1 itK
set_option maxRecDepth 100000
set_option maxHeartbeats 8000000
set_option linter.unusedSimpArgs false
set_option linter.unusedVariables false
attribute [local go_sem] MP
def AQ (N:Nat) (s122:List (Int×Int)):Nat→Int→Option (Sum Unit Int)
 |0,_=>none
 |n+1,Ij=>
  bif decide (Ij<(s122.length:Int)) then(
   (nth s122 Ij).bind fun(x131,x132)=>
   (Fw N x131 x132).bind fun ie=>
   bif ie then(
    some (.inr Ij))
   else(
    gd (I64 (Ij+1))<|
    AQ N s122 n (Ij+1)))
  else(
   some (.inl ()))
def Cl (N:Nat) (s122:List (Int×Int)):Option Int:=
 (AQ N s122 N 0).bind fun d7=>match d7 with
  | .inl ()=>(
   some (-1))
  | .inr j5=>(
   some j5)
@[go_sem] def Yd (N:Nat):Spec:=p0<|pS Ap fun s122=>pL 99<|pE<|pE<|pF (Cl N s122) 0 fun r=> .i r
theorem Uu (N:Nat):FOK Tryz.prog 167 (Yd N):=by
 refine Al x167.ok<|A3 fun s122=>JJ<|Ah<|Ah<|An fun r h=>wx x167 (Aa (YY N)<|Aj) fun _ hS F=> ?_
 dsimp only[x167,mkX,Ap]
 unfold Cl at h
 obtain⟨d7,j7,h⟩:=un h
 refine go hS F ?_
 refine Au d7 (fun z:Nat=>⟨[],[],z⟩) (fun z=>(.inl ():Sum Unit Int)) (.x 0) ?_ ?_
 ·refine Aq (fun n (y:Int×Nat)=>AQ N s122 n y.1) (fun y=>⟨[(0,A1 s122),(1,.clo (.func 99) [] []),(7,.i (s122.length:Int)),(8,.i y.1)],[],y.2⟩) (0,2) j7 (leF F) ?_
  rintro n ⟨Ij,jt⟩ ak
  simp only[AQ] at ak
  refine gcb hS F ak (fun _ ak=> ?_) (fun _ ak=> ?_)
  ·obtain⟨⟨x131,x132⟩,jn,ak⟩:=un ak
   obtain⟨kl,F⟩:=rqG Br jn F
   obtain⟨ie,jg,ak⟩:=un ak
   replace F:=fc jg F
   refine gcb hS F ak (fun _ ak=> ?_) (fun _ ak=> ?_)
   ·obtain rfl:=yJ ak
    exact Ad hS F h
   ·obtain⟨kq,ak⟩:=un ak
    exact gbk hS F (n,Ij+1,jt+1+1+1+1) ak
  ·exact gck hS F (jt+1) ak
 ·rintro lm rfl
  exact Ad hS F h
def A2 (N:Nat) (PE:List (Int×Int)):Option Bool:=
 (Cl N PE).bind fun ic=>
 some (decide (0≤ic))
@[go_sem] def Ye (N:Nat):Spec:=p0<|pS Ap fun PE=>pL 99<|pE<|pE<|pF (A2 N PE) false fun r=> .b r
theorem OS (N:Nat):FOK Tryz.prog 138 (Ye N):=by
 refine Al x138.ok<|A3 fun PE=>JJ<|Ah<|Ah<|An fun r h=>wx x138 (Aa (Uu N)<|Aj) fun _ hS F=> ?_
 dsimp only[x138,mkX,Ap]
 unfold A2 at h
 obtain⟨ic,jf,h⟩:=un h
 exact Ad hS (fc jf F) h
def Ho (N:Nat) (cu:Int) (cr:Int) (x146:Int) (x147:Int) (ce:Int) (x149:Int):Option Bool:=
 (Dk N x146 x147 ce x149 cu cr).bind fun g9=>
 some (decide (0<g9))
@[go_sem] def oQ (N:Nat):Spec:=p0<|pG<|pI fun cu=>pI fun cr=>pE<|pO<|pI fun x146=>pI fun x147=>pE<|pO<|pI fun ce=>pI fun x149=>pE<|pE<|pF (Ho N cu cr x146 x147 ce x149) false fun r=> .b r
theorem gC (N:Nat):FOK Tryz.prog 171 (oQ N):=by
 refine Al x171.ok<|AW<|Ac fun cu=>Ac fun cr=>Ah<|JI<|Ac fun x146=>Ac fun x147=>Ah<|JI<|Ac fun ce=>Ac fun x149=>Ah<|Ah<|An fun r h=>wx x171 (Aa (Mz N)<|Aj) fun _ hS F=> ?_
 dsimp only[x171,mkX]
 unfold Ho at h
 obtain⟨g9,je,h⟩:=un h
 exact Ad hS (fc je F) h
def As (N:Nat) (s152:List (Int×Int)) (av:Int) (au:Int) (aq:Int) (an:Int):Nat→Int→Option (Sum Unit Int)
 |0,_=>none
 |n+1,x164=>
  bif decide (x164<(s152.length:Int)) then(
   (nth s152 x164).bind fun(x165,x166)=>
   (Ho N x165 x166 av au aq an).bind fun g8=>
   bif g8 then(
    some (.inr x164))
   else(
    gd (I64 (x164+1))<|
    As N s152 av au aq an n (x164+1)))
  else(
   some (.inl ()))
def Ch (N:Nat) (s152:List (Int×Int)) (av:Int) (au:Int) (aq:Int) (an:Int):Option Int:=
 (As N s152 av au aq an N 0).bind fun d6=>match d6 with
  | .inl ()=>(
   some (-1))
  | .inr jz=>(
   some jz)
@[go_sem] def V0 (N:Nat):Spec:=p0<|pS Ap fun s152=>pL 171<|pO<|pI fun av=>pI fun au=>pE<|pO<|pI fun aq=>pI fun an=>pE<|pE<|pE<|pF (Ch N s152 av au aq an) 0 fun r=> .i r
theorem SQ (N:Nat):FOK Tryz.prog 167 (V0 N):=by
 refine Al x167.ok<|A3 fun s152=>JJ<|JI<|Ac fun av=>Ac fun au=>Ah<|JI<|Ac fun aq=>Ac fun an=>Ah<|Ah<|Ah<|An fun r h=>wx x167 (Aa (gC N)<|Aj) fun _ hS F=> ?_
 dsimp only[x167,mkX,Ap]
 unfold Ch at h
 obtain⟨d6,j7,h⟩:=un h
 refine go hS F ?_
 refine Au d6 (fun z:Nat=>⟨[],[],z⟩) (fun z=>(.inl ():Sum Unit Int)) (.x 0) ?_ ?_
 ·refine Aq (fun n (y:Int×Nat)=>As N s152 av au aq an n y.1) (fun y=>⟨[(0,A1 s152),(1,.clo (.func 171) [] [.ro [.i av,.i au] 0,.ro [.i aq,.i an] 0]),(7,.i (s152.length:Int)),(8,.i y.1)],[],y.2⟩) (0,2) j7 (leF F) ?_
  rintro n ⟨x164,js⟩ ak
  simp only[As] at ak
  refine gcb hS F ak (fun _ ak=> ?_) (fun _ ak=> ?_)
  ·obtain⟨⟨x165,x166⟩,jm,ak⟩:=un ak
   obtain⟨kj,F⟩:=rqG Br jm F
   obtain⟨g8,jd,ak⟩:=un ak
   replace F:=fc jd F
   refine gcb hS F ak (fun _ ak=> ?_) (fun _ ak=> ?_)
   ·obtain rfl:=yJ ak
    exact Ad hS F h
   ·obtain⟨kq,ak⟩:=un ak
    exact gbk hS F (n,x164+1,js+1+1+1+1) ak
  ·exact gck hS F (js+1) ak
 ·rintro lj rfl
  exact Ad hS F h
def BE (N:Nat) (co:List (Int×Int)) (dg:Int) (de:Int) (db:Int) (cz:Int):Option Bool:=
 (Ch N co dg de db cz).bind fun gz=>
 some (decide (0≤gz))
@[go_sem] def V1 (N:Nat):Spec:=p0<|pS Ap fun co=>pL 171<|pO<|pI fun dg=>pI fun de=>pE<|pO<|pI fun db=>pI fun cz=>pE<|pE<|pE<|pF (BE N co dg de db cz) false fun r=> .b r
theorem SR (N:Nat):FOK Tryz.prog 138 (V1 N):=by
 refine Al x138.ok<|A3 fun co=>JJ<|JI<|Ac fun dg=>Ac fun de=>Ah<|JI<|Ac fun db=>Ac fun cz=>Ah<|Ah<|Ah<|An fun r h=>wx x138 (Aa (SQ N)<|Aj) fun _ hS F=> ?_
 dsimp only[x138,mkX,Ap]
 unfold BE at h
 obtain⟨gz,jc,h⟩:=un h
 exact Ad hS (fc jc F) h
def CO (N:Nat) (l182:List (Int×Int)) (ae:Int) (ay:Int) (aw:Int):Nat→Int→Option (Sum Unit Bool)
 |0,_=>none
 |n+1,am=>
  bif decide (am<(l182.length:Int)) then(
   (nth l182 am).bind fun(dp,dm)=>
   gd (((decide (am≠ae))&&(decide (am≠(ae+1).tmod (l182.length:Int))))=true→(0≤(ae+1).tmod (l182.length:Int)∧(ae+1).tmod (l182.length:Int)<(l182.length:Int)))<|
   gd (((decide (am≠ae))&&(decide (am≠(ae+1).tmod (l182.length:Int))))=true→((Dk N ay aw ((l182.getD ((ae+1).tmod (l182.length:Int)).toNat (0,0)).1) ((l182.getD ((ae+1).tmod (l182.length:Int)).toNat (0,0)).2) dp dm).isSome=true))<|
   bif ((decide (am≠ae))&&(decide (am≠(ae+1).tmod (l182.length:Int))))&&(decide ((Dk N ay aw ((l182.getD ((ae+1).tmod (l182.length:Int)).toNat (0,0)).1) ((l182.getD ((ae+1).tmod (l182.length:Int)).toNat (0,0)).2) dp dm).getD 0≤0)) then(
    some (.inr false))
   else(
    gd (I64 (am+1))<|
    CO N l182 ae ay aw n (am+1)))
  else(
   some (.inl ()))
def Dg (N:Nat) (l182:List (Int×Int)):Nat→Int→Option (Sum Unit Bool)
 |0,_=>none
 |n+1,ae=>
  bif decide (ae<(l182.length:Int)) then(
   (nth l182 ae).bind fun(ay,aw)=>
   gd (I64 (ae+1))<|
   gd ((l182.length:Int)≠0)<|
   (CO N l182 ae ay aw N 0).bind fun d5=>match d5 with
    | .inl ()=>(
     gd (I64 (ae+1))<|
     Dg N l182 n (ae+1))
    | .inr jy=>(
     some (.inr jy)))
  else(
   some (.inl ()))
def BC (N:Nat) (l182:List (Int×Int)):Option Bool:=
 gd ((!((decide ((l182.length:Int)<3))||(decide (8<(l182.length:Int)))))=true→((A2 N l182).isSome=true))<|
 bif ((decide ((l182.length:Int)<3))||(decide (8<(l182.length:Int))))||((A2 N l182).getD false) then(
  some false)
 else(
  (Dg N l182 N 0).bind fun dz=>match dz with
   | .inl ()=>(
    some true)
   | .inr jx=>(
    some jx))
@[go_sem] def s98 (N:Nat):Spec:=p0<|pS Ap fun l182=>pE<|pF (BC N l182) false fun r=> .b r
theorem KF (N:Nat):FOK Tryz.prog 98 (s98 N):=by
 refine Al x98.ok<|A3 fun l182=>Ah<|An fun r h=>wx x98 (Aa (OS N)<|Aa (Mz N)<|Aj) fun _ hS F=> ?_
 dsimp only[x98,mkX,Ap]
 unfold BC at h
 obtain⟨ez,h⟩:=un h
 refine gcb hS F h (fun _ h=> ?_) (fun _ h=> ?_)
 ·exact Ad hS F h
 ·obtain⟨dz,jp,h⟩:=un h
  refine go hS F ?_
  refine Au dz (fun z:Nat=>⟨[],[],z⟩) (fun z=>(.inl ():Sum Unit Bool)) (.x 0) ?_ ?_
  ·refine Aq (fun n (y:Int×Nat)=>Dg N l182 n y.1) (fun y=>⟨[(0,A1 l182),(20,A1 l182),(21,.i (l182.length:Int)),(22,.i y.1)],[],y.2⟩) (0,3) jp (leF F) ?_
   rintro n ⟨ae,bw⟩ ah
   simp only[Dg] at ah
   refine gcb hS F ah (fun _ ah=> ?_) (fun _ ah=> ?_)
   ·obtain⟨⟨ay,aw⟩,jk,ah⟩:=un ah
    obtain⟨ki,F⟩:=rqG Br jk F
    obtain⟨lz,km,ah⟩:=un ah
    obtain⟨d5,kw,ah⟩:=un ah
    refine go hS F ?_
    refine Au d5 (fun z:Nat=>⟨[(0,A1 l182),(20,A1 l182),(21,.i (l182.length:Int)),(22,.i ae)],[],z⟩) (fun z=>(.inl ():Sum Unit Bool)) (.x 2) ?_ ?_
    ·refine Aq (fun n (y:Int×Nat)=>CO N l182 ae ay aw n y.1) (fun y=>⟨[(0,A1 l182),(3,.i ae),(4,.box (503,bw+1+1) 0),(5,.i ((ae+1).tmod (l182.length:Int))),(20,A1 l182),(21,.i (l182.length:Int)),(22,.i ae),(32,A1 l182),(33,.i (l182.length:Int)),(34,.i y.1)],[(.c (503,bw+1+1) 0,.i ay),(.c (503,bw+1+1) 1,.i aw)],y.2⟩) (0,bw+1+1+1+1) kw (leF F) ?_
     rintro n ⟨am,jr⟩ az
     simp only[CO] at az
     refine gcb hS F az (fun _ az=> ?_) (fun _ az=> ?_)
     ·obtain⟨⟨dp,dm⟩,jj,az⟩:=un az
      obtain⟨kh,F⟩:=rqG Br jj F
      obtain⟨lr,lq,az⟩:=un az
      refine gcb hS F az (fun _ az=> ?_) (fun _ az=> ?_)
      ·obtain rfl:=yJ az
       obtain rfl:=yJ ah
       exact Ad hS F h
      ·obtain⟨kv,az⟩:=un az
       exact gbk hS F (n,am+1,jr+1+1+1+1) az
     ·exact gck hS F (jr+1) az
    ·rintro j8 rfl
     obtain⟨kr,ah⟩:=un ah
     exact gbk hS F (n,ae+1,j8+1) ah
   ·exact gck hS F (bw+1) ah
  ·rintro li rfl
   exact Ad hS F h
def DO (N:Nat) (l222:List (Int×Int)):List ((Int×Int)×(Int×Int))→Int→Option Int
 |[],aj=>
  some aj
 |((gf,gc),(fq,fj))::ys,aj=>
  (nth l222 0).bind fun(gi,gh)=>
  (Dk N gi gh gf gc fq fj).bind fun cq=>
  gd (I64 (aj+cq))<|
  DO N l222 ys (aj+cq)
def Fx (N:Nat) (l222:List (Int×Int)):Option Int:=
 (BC N l222).bind fun gy=>
 bif !gy then(
  some 0)
 else(
  gd (l222.length≤1000000000)<|
  (DO N l222 (Bm l222) 0).bind fun br=>
  some br)
@[go_sem] def s83 (N:Nat):Spec:=p0<|pS Ap fun l222=>pE<|pF (Fx N l222) 0 fun r=> .i r
theorem lG (N:Nat):FOK Tryz.prog 83 (s83 N):=by
 refine Al x83.ok<|A3 fun l222=>Ah<|An fun r h=>wx x83 (Aa (KF N)<|Aa KM<|Aa (Mz N)<|Aj) fun _ hS F=> ?_
 dsimp only[x83,mkX,Ap]
 unfold Fx at h
 obtain⟨gy,jb,h⟩:=un h
 replace F:=fc jb F
 refine gcb hS F h (fun _ h=> ?_) (fun _ h=> ?_)
 ·exact Ad hS F h
 ·obtain⟨ez,h⟩:=un h
  obtain⟨ig,jp,h⟩:=un h
  refine go hS F ?_
  refine Au ig (fun z:Int×Nat=>⟨[(3,.box (300,3) 0)],[(.c (300,3) 0,.i z.1)],z.2⟩) (fun z=>(z.1:Int)) .n ?_ ?_
  ·refine Kd (fun y:Nat×Int×Nat=>([(.c (300,3) 0,.i y.2.1),(.c (0,1) 0,A1 l222)],y.2.2)) (fun y=>DO N l222 ((Bm l222).drop y.1) y.2.1=some ig∧y.1≤(Bm l222).length) (fun y=>y.1) (0,0,4) (ev F) (Kl l222 false (by assumption)) x150.ok ⟨rfl,rfl⟩ (by simp[x83,mkX]) (by intro a ha;obtain⟨y,_,rfl⟩:=List.mem_map.1 ha;exact⟨rfl,rfl⟩) ⟨jp,Nat.zero_le _⟩ rfl ?_ ?_ ?_
   ·exact leF F
   ·rintro l ⟨n,aj,eh⟩ ⟨ah,hle⟩ args jo
    obtain⟨⟨⟨gf,gc⟩,⟨fq,fj⟩⟩,ij,rfl,hlt⟩:=Iv jo
    simp only[ij,DO] at ah
    clear jo ij
    simp only[edA,FF]
    obtain⟨⟨gi,gh⟩,ji,ah⟩:=un ah
    obtain⟨kg,F⟩:=rqN 0 Br ji F
    obtain⟨cq,ja,j9,ah⟩:=un ah
    exact grg hS (fc ja F) (n+1,aj+cq,eh+1+1+1) ah
   ·rintro⟨n,aj,eh⟩ ⟨ah,hle⟩ hk
    rw[show n=_ from hk,Io] at ah
    simp only[DO] at ah
    exact gck hS F (aj,eh) ah
  ·rintro⟨br,lh⟩ rfl
   exact Ad hS F h
def GK (N:Nat) (bu:List (Int×Int)) (bj:Int) (bi:Int):Option Int:=
 (BC N bu).bind fun dw=>
 gd ((!(!dw))=true→((Fw N bj bi).isSome=true))<|
 bif (!dw)||((Fw N bj bi).getD false) then(
  some (-1))
 else(
  (GJ N bu bj bi).bind fun gx=>
  some gx)
@[go_sem] def s44 (N:Nat):Spec:=p0<|pS Ap fun bu=>pG<|pI fun bj=>pI fun bi=>pE<|pE<|pF (GK N bu bj bi) 0 fun r=> .i r
def DP (N:Nat) (aa:List (Int×Int)):List ((Int×Int)×(Int×Int))→Int→Option (Sum Unit Int)
 |[],be=>
  some (.inl ())
 |((fh,fg),(fb,e9))::ys,be=>
  (BE N aa fh fg fb e9).bind fun gw=>
  bif !gw then(
   some (.inr be))
  else(
   gd (I64 (be+1))<|
   DP N aa ys (be+1))
def F1 (N:Nat) (l258:List (Int×Int)) (aa:List (Int×Int)):Option Int:=
 gd (l258.length≤1000000000)<|
 (DP N aa (Bm l258) 0).bind fun cy=>match cy with
  | .inl ()=>(
   some (-1))
  | .inr jw=>(
   some jw)
@[go_sem] def oR (N:Nat):Spec:=p0<|pS Ap fun l258=>pS Ap fun aa=>pE<|pF (F1 N l258 aa) 0 fun r=> .i r
theorem gE (N:Nat):FOK Tryz.prog 149 (oR N):=by
 refine Al x149.ok<|A3 fun l258=>A3 fun aa=>Ah<|An fun r h=>wx x149 (Aa KM<|Aa (SR N)<|Aj) fun _ hS F=> ?_
 dsimp only[x149,mkX,Ap]
 unfold F1 at h
 obtain⟨ez,h⟩:=un h
 obtain⟨cy,jp,h⟩:=un h
 refine go hS F ?_
 refine Au cy (fun z:Nat=>⟨[(4,.box (1,1) 0)],[(.c (1,1) 0,.i 0)],z⟩) (fun z=>(.inl ():Sum Unit Int)) .n ?_ ?_
 ·refine Kd (fun y:Nat×Int×Nat=>([(.c (100,2) 0,.i y.2.1),(.c (1,1) 0,.i 0),(.c (0,1) 0,A1 aa)],y.2.2)) (fun y=>DP N aa ((Bm l258).drop y.1) y.2.1=some cy∧y.1≤(Bm l258).length) (fun y=>y.1) (0,0,3) (ev F) (Kl l258 false (by assumption)) x150.ok ⟨rfl,rfl⟩ (by simp[x149,mkX]) (by intro a ha;obtain⟨y,_,rfl⟩:=List.mem_map.1 ha;exact⟨rfl,rfl⟩) ⟨jp,Nat.zero_le _⟩ rfl ?_ ?_ ?_
  ·exact leF F
  ·rintro l ⟨n,be,d9⟩ ⟨ah,hle⟩ args jo
   obtain⟨⟨⟨fh,fg⟩,⟨fb,e9⟩⟩,ij,rfl,hlt⟩:=Iv jo
   simp only[ij,DP] at ah
   clear jo ij
   simp only[edA,FF]
   obtain⟨gw,i7,ah⟩:=un ah
   replace F:=fc i7 F
   refine gcb hS F ah (fun _ ah=> ?_) (fun _ ah=> ?_)
   ·obtain rfl:=yJ ah
    exact Ad hS F h
   ·obtain⟨j9,ah⟩:=un ah
    exact grg hS F (n+1,be+1,d9+1+1+1+1+1) ah
  ·rintro⟨n,be,d9⟩ ⟨ah,hle⟩ hk
   rw[show n=_ from hk,Io] at ah
   simp only[DP] at ah
   exact gck hS F d9 ah
 ·rintro lg rfl
  exact Ad hS F h
def FT (N:Nat) (bo:List (Int×Int)) (bg:List (Int×Int)):Option (Int×Int×Bool):=
 (BC N bo).bind fun du=>
 gd ((!(!du))=true→((BC N bg).isSome=true))<|
 bif (!du)||(!((BC N bg).getD false)) then(
  some (0,0,false))
 else(
  (F1 N bo bg).bind fun r284=>
  bif decide (0≤r284) then(
   some (0,r284,true))
  else(
   (F1 N bg bo).bind fun dt=>
   bif decide (0≤dt) then(
    some (1,dt,true))
   else(
    some (0,0,false))))
@[go_sem] def oS (N:Nat):Spec:=p0<|pS Ap fun bo=>pS Ap fun bg=>pE<|pF (FT N bo bg) (0,0,false) fun r=> .tup [.i r.1,.i r.2.1,.b r.2.2]
theorem gF (N:Nat):FOK Tryz.prog 121 (oS N):=by
 refine Al x121.ok<|A3 fun bo=>A3 fun bg=>Ah<|An fun r h=>wx x121 (Aa (KF N)<|Aa (gE N)<|Aj) fun _ hS F=> ?_
 dsimp only[x121,mkX,Ap]
 unfold FT at h
 obtain⟨du,i6,ez,h⟩:=un h
 replace F:=fc i6 F
 refine gcb hS F h (fun _ h=> ?_) (fun _ h=> ?_)
 ·exact Ad hS F h
 ·obtain⟨r284,iz,h⟩:=un h
  replace F:=fc iz F
  refine gcb hS F h (fun _ h=> ?_) (fun _ h=> ?_)
  ·exact Ad hS F h
  ·obtain⟨dt,iy,h⟩:=un h
   replace F:=fc iy F
   refine gcb hS F h (fun _ h=> ?_) (fun _ h=> ?_)
   ·exact Ad hS F h
   ·exact Ad hS F h
def CL (N:Nat) (bz:List (Int×Int)) (bm:List (Int×Int)):Option Bool:=
 (FT N bz bm).bind fun(jv,ju,gu)=>
 (BC N bz).bind fun dq=>
 gd (dq=true→((BC N bm).isSome=true))<|
 some ((dq&&((BC N bm).getD false))&&(!gu))
@[go_sem] def s81 (N:Nat):Spec:=p0<|pS Ap fun bz=>pS Ap fun bm=>pE<|pF (CL N bz bm) false fun r=> .b r
theorem YZ (N:Nat):FOK Tryz.prog 81 (s81 N):=by
 refine Al x81.ok<|A3 fun bz=>A3 fun bm=>Ah<|An fun r h=>wx x81 (Aa (gF N)<|Aa (KF N)<|Aj) fun _ hS F=> ?_
 dsimp only[x81,mkX,Ap]
 unfold CL at h
 obtain⟨⟨jv,ju,gu⟩,iw,h⟩:=un h
 obtain⟨dq,iv,ez,h⟩:=un h
 exact Ad hS (fc iv (fc iw F)) h
def Fi (N:Nat) (l296:List (Int×Int)) (af:Int) (ai:Int):Nat→Int→(List (Int×Int))→Option ((List (Int×Int)))
 |0,_,_=>none
 |n+1,x309,l310=>
  bif decide (x309<(l296.length:Int)) then(
   (nth l310 x309).bind fun(bb,bh)=>
   gd (I64 (bb+af))<|
   (nth (l310.set x309.toNat (bb+af,bh)) x309).bind fun(b9,bq)=>
   gd (I64 (bq+ai))<|
   gd (I64 (x309+1))<|
   Fi N l296 af ai n (x309+1) ((l310.set x309.toNat (bb+af,bh)).set x309.toNat (b9,bq+ai)))
  else(
   some l310)
def E9 (N:Nat) (l296:List (Int×Int)) (af:Int) (ai:Int):Option ((List (Int×Int))×Int):=
 (BC N l296).bind fun gt=>
 bif ((!gt)||(decide (40<max af ai)))||(decide (min af ai<(-40))) then(
  some ([],70))
 else(
  gd (l296≠[])<|
  gd ((l296.length)*16≤140737488355328)<|
  (Fi N l296 af ai N 0 l296).bind fun d8=>
  (A2 N d8).bind fun gj=>
  bif gj then(
   some ([],70))
  else(
   some (d8,0)))
@[go_sem] def oT (N:Nat):Spec:=p0<|pS Ap fun l296=>pI fun af=>pI fun ai=>pE<|pF (E9 N l296 af ai) ([],0) fun r=> .tup [A1 r.1,.i r.2]
theorem gH (N:Nat):FOK Tryz.prog 134 (oT N):=by
 refine Al x134.ok<|A3 fun l296=>Ac fun af=>Ac fun ai=>Ah<|An fun r h=>wx x134 (Aa (KF N)<|Aa (OS N)<|Aj) fun _ hS F=> ?_
 dsimp only[x134,mkX,Ap]
 unfold E9 at h
 obtain⟨gt,iq,h⟩:=un h
 replace F:=fc iq F
 refine gcb hS F h (fun _ h=> ?_) (fun _ h=> ?_)
 ·exact Ad hS F h
 ·refine go hS F ?_
  refine Df hS 1 x78.hf x78.hc x78.hn x78.ok rfl (ev F) (ev F) ?_ rfl (ev F) (Nat.le_of_ble_eq_true rfl) fun hb=> ?_
  ·exact goc hS F
  dsimp only[x78,mkX]
  obtain⟨ez,h⟩:=un h
  refine gcf hS F ?_
  obtain⟨l5,h⟩:=un h
  obtain⟨j6,k9,h⟩:=un h
  refine go hS F ?_
  refine Au j6 (fun z:(List (Int×Int))×Nat=>⟨[(8,.own (300,6) z.1.length)],[(.a (300,6),Gw z.1)],z.2⟩) (fun z=>(z.1:(List (Int×Int)))) (.x 0) ?_ ?_
  ·refine Aq (fun n (y:Int×(List (Int×Int))×Nat)=>Fi N l296 af ai n y.1 y.2.1) (fun y=>⟨[(1,.i af),(2,.i ai),(8,.own (300,6) y.2.1.length),(28,.i (l296.length:Int)),(29,.i y.1)],[(.a (300,6),Gw y.2.1)],y.2.2⟩) (0,l296,8) k9 (leF F) ?_
   rintro n ⟨x309,l310,jq⟩ bp
   simp only[Fi] at bp
   refine gcb hS F bp (fun _ bp=> ?_) (fun _ bp=> ?_)
   ·obtain⟨⟨bb,bh⟩,jh,bp⟩:=un bp
    obtain⟨kf,F⟩:=rqG Br jh F
    obtain⟨km,⟨b9,bq⟩,dl,bp⟩:=un bp
    have dh:(l310.set x309.toNat (bb+af,bh)).getD x309.toNat (0,0)=(b9,bq):=ixs dl _
    have bv:=LR (l310.set x309.toNat (bb+af,bh)) x309.toNat
    rw[dh] at bv
    simp only[List.map_set,Br] at bv
    have ke:=(I5 dl).1
    obtain⟨j9,lw,bp⟩:=un bp
    exact gbk hS (fc bv (fc dh F)) (n,x309+1,(l310.set x309.toNat (bb+af,bh)).set x309.toNat (b9,bq+ai),jq+1+1+1+1+1) bp
   ·exact gck hS F (l310,jq+1) bp
  ·rintro⟨d8,lf⟩ rfl
   obtain⟨gj,ip,h⟩:=un h
   replace F:=fc ip F
   refine gcb hS F h (fun _ h=> ?_) (fun _ h=> ?_)
   ·exact Ad hS F h
   ·exact Ad hS F h
end Go.Proofs.YtciphecegkfaiaaGreat.Am
namespace Go.Proofs.YtciphecegkfaiaaGreat.Am
open Go
attribute [local irreducible] awp B5 BR Bx B3 Bw Bn BS B1 itK
set_option maxRecDepth 100000
set_option maxHeartbeats 8000000
set_option linter.unusedSimpArgs false
set_option linter.unusedVariables false
attribute [local go_sem] U4
def Aw (N:Nat) (x325:List (Int×Int)):Nat→Int→Int→Int→Option (Int×Int)
 |0,_,_,_=>none
 |n+1,ak,az,ay=>
  bif decide (ak<(x325.length:Int)) then(
   (nth x325 ak).bind fun(bh,bg)=>
   (CW N bh bg az ay).bind fun dq=>
   bif decide (0<dq) then(
    gd (I64 (ak+1))<|
    Aw N x325 n (ak+1) bh bg)
   else(
    gd (I64 (ak+1))<|
    Aw N x325 n (ak+1) az ay))
  else(
   some (az,ay))
def AX (N:Nat) (x325:List (Int×Int)):Option (Int×Int):=
 gd ((decide ((x325.length:Int)<1))=false)<|
 (nth x325 0).bind fun(bo,bm)=>
 (Aw N x325 N 1 bo bm).bind fun(dz,dw)=>
 some (dz,dw)
@[go_sem] def V2 (N:Nat):Spec:=p0<|pS Ap fun x325=>pL 132<|pE<|pE<|pF (AX N x325) (0,0) fun r=> .agg [.i r.1,.i r.2]
theorem SS (N:Nat):FOK Tryz.prog 163 (V2 N):=by
 refine Al x163.ok<|A3 fun x325=>JJ<|Ah<|Ah<|An fun r h=>wx x163 (Aa (OR N)<|Aj) fun _ hS F=> ?_
 dsimp only[x163,mkX,Ap]
 unfold AX at h
 obtain⟨gu,h⟩:=un h
 refine go hS F ?_
 refine cb F (decide ((x325.length:Int)<1)) (fun hc2=> ?_) (fun hc2=> ?_)
 ·exact Bool.noConfusion (hc2.symm.trans gu)
 obtain⟨⟨bo,bm⟩,gj,h⟩:=un h
 obtain⟨ij,F⟩:=rqN 0 Br gj F
 obtain⟨gy,gz,h⟩:=un h
 refine go hS F ?_
 refine Au gy (fun z:Int×Int×Nat=>⟨[(4,.box (0,1) 0),(5,.box (303,3) 0)],[(.c (303,3) 0,.i z.1),(.c (303,3) 1,.i z.2.1),(.c (0,1) 0,.i 0),(.c (0,1) 1,.i 0)],z.2.2⟩) (fun z=>((z.1,z.2.1):Int×Int)) (.x 0) ?_ ?_
 ·refine Aq (fun n (y:Int×Int×Int×Nat)=>Aw N x325 n y.1 y.2.1 y.2.2.1) (fun y=>⟨[(0,A1 x325),(1,.clo (.func 132) [] []),(4,.box (0,1) 0),(5,.box (303,3) 0),(6,.i y.1)],[(.c (303,3) 0,.i y.2.1),(.c (303,3) 1,.i y.2.2.1),(.c (0,1) 0,.i 0),(.c (0,1) 1,.i 0)],y.2.2.2⟩) (1,bo,bm,4) gz (leF F) ?_
  rintro n ⟨ak,az,ay,bq⟩ aa
  simp only[Aw] at aa
  refine gcb hS F aa (fun _ aa=> ?_) (fun _ aa=> ?_)
  ·obtain⟨⟨bh,bg⟩,gi,aa⟩:=un aa
   obtain⟨ig,F⟩:=rqG Br gi F
   obtain⟨dq,gc,aa⟩:=un aa
   replace F:=fc gc F
   refine gcb hS F aa (fun _ aa=> ?_) (fun _ aa=> ?_)
   ·obtain⟨g9,aa⟩:=un aa
    exact gbk hS F (n,ak+1,bh,bg,bq+1+1+1+1) aa
   ·obtain⟨g8,aa⟩:=un aa
    exact gbk hS F (n,ak+1,az,ay,bq+1+1+1) aa
  ·exact gck hS F (az,ay,bq+1) aa
 ·rintro⟨dz,dw,iq⟩ rfl
  exact Ad hS F h
def Ax (N:Nat) (x352:List (Int×Int)):Nat→Int→Int→Int→Option (Int×Int)
 |0,_,_,_=>none
 |n+1,aj,aw,av=>
  bif decide (aj<(x352.length:Int)) then(
   (nth x352 aj).bind fun(be,bb)=>
   (CW N be bb aw av).bind fun dp=>
   bif decide (dp<0) then(
    gd (I64 (aj+1))<|
    Ax N x352 n (aj+1) be bb)
   else(
    gd (I64 (aj+1))<|
    Ax N x352 n (aj+1) aw av))
  else(
   some (aw,av))
def AY (N:Nat) (x352:List (Int×Int)):Option (Int×Int):=
 gd ((decide ((x352.length:Int)<1))=false)<|
 (nth x352 0).bind fun(bj,bi)=>
 (Ax N x352 N 1 bj bi).bind fun(du,dt)=>
 some (du,dt)
@[go_sem] def V3 (N:Nat):Spec:=p0<|pS Ap fun x352=>pL 132<|pE<|pE<|pF (AY N x352) (0,0) fun r=> .agg [.i r.1,.i r.2]
theorem ST (N:Nat):FOK Tryz.prog 164 (V3 N):=by
 refine Al x164.ok<|A3 fun x352=>JJ<|Ah<|Ah<|An fun r h=>wx x164 (Aa (OR N)<|Aj) fun _ hS F=> ?_
 dsimp only[x164,mkX,Ap]
 unfold AY at h
 obtain⟨gu,h⟩:=un h
 refine go hS F ?_
 refine cb F (decide ((x352.length:Int)<1)) (fun hc2=> ?_) (fun hc2=> ?_)
 ·exact Bool.noConfusion (hc2.symm.trans gu)
 obtain⟨⟨bj,bi⟩,gh,h⟩:=un h
 obtain⟨ie,F⟩:=rqN 0 Br gh F
 obtain⟨gx,gz,h⟩:=un h
 refine go hS F ?_
 refine Au gx (fun z:Int×Int×Nat=>⟨[(4,.box (0,1) 0),(5,.box (303,3) 0)],[(.c (303,3) 0,.i z.1),(.c (303,3) 1,.i z.2.1),(.c (0,1) 0,.i 0),(.c (0,1) 1,.i 0)],z.2.2⟩) (fun z=>((z.1,z.2.1):Int×Int)) (.x 0) ?_ ?_
 ·refine Aq (fun n (y:Int×Int×Int×Nat)=>Ax N x352 n y.1 y.2.1 y.2.2.1) (fun y=>⟨[(0,A1 x352),(1,.clo (.func 132) [] []),(4,.box (0,1) 0),(5,.box (303,3) 0),(6,.i y.1)],[(.c (303,3) 0,.i y.2.1),(.c (303,3) 1,.i y.2.2.1),(.c (0,1) 0,.i 0),(.c (0,1) 1,.i 0)],y.2.2.2⟩) (1,bj,bi,4) gz (leF F) ?_
  rintro n ⟨aj,aw,av,bp⟩ aa
  simp only[Ax] at aa
  refine gcb hS F aa (fun _ aa=> ?_) (fun _ aa=> ?_)
  ·obtain⟨⟨be,bb⟩,gf,aa⟩:=un aa
   obtain⟨ic,F⟩:=rqG Br gf F
   obtain⟨dp,fq,aa⟩:=un aa
   replace F:=fc fq F
   refine gcb hS F aa (fun _ aa=> ?_) (fun _ aa=> ?_)
   ·obtain⟨g9,aa⟩:=un aa
    exact gbk hS F (n,aj+1,be,bb,bp+1+1+1+1) aa
   ·obtain⟨g8,aa⟩:=un aa
    exact gbk hS F (n,aj+1,aw,av,bp+1+1+1) aa
  ·exact gck hS F (aw,av,bp+1) aa
 ·rintro⟨du,dt,ip⟩ rfl
  exact Ad hS F h
def GL (N:Nat) (au:Int) (aq:Int) (an:Int) (am:Int) (ai:Int) (ah:Int) (af:Int) (ae:Int):Option ((Int×Int)×(Int×Int)):=
 gd (0≤IntKind.wrap .u64 2)<|
 gd (IntKind.wrap .u64 2≤1000000)<|
 (some ((Lib.bitLen (IntKind.wrap .u64 2:Int).toNat:Int))).bind fun gw=>
 (CW N an am au aq).bind fun dm=>
 bif decide (dm<0) then(
  gd (0≤IntKind.wrap .u64 2)<|
  gd (IntKind.wrap .u64 2≤1000000)<|
  (CW N af ae ai ah).bind fun dl=>
  bif decide (dl<0) then(
   (AX N [(an,am),(af,ae)]).bind fun(dh,dg)=>
   (AY N [(au,aq),(ai,ah)]).bind fun(de,db)=>
   some ((dh,dg),(de,db)))
  else(
   (AX N [(an,am),(ai,ah)]).bind fun(cz,cy)=>
   (AY N [(au,aq),(af,ae)]).bind fun(cu,cr)=>
   some ((cz,cy),(cu,cr))))
 else(
  gd (0≤IntKind.wrap .u64 2)<|
  gd (IntKind.wrap .u64 2≤1000000)<|
  (CW N af ae ai ah).bind fun cq=>
  bif decide (cq<0) then(
   (AX N [(au,aq),(af,ae)]).bind fun(co,ce)=>
   (AY N [(an,am),(ai,ah)]).bind fun(b9,bz)=>
   some ((co,ce),(b9,bz)))
  else(
   (AX N [(au,aq),(ai,ah)]).bind fun(bw,bv)=>
   (AY N [(an,am),(af,ae)]).bind fun(bu,br)=>
   some ((bw,bv),(bu,br))))
@[go_sem] def oU (N:Nat):Spec:=p0<|pG<|pI fun au=>pI fun aq=>pE<|pG<|pI fun an=>pI fun am=>pE<|pG<|pI fun ai=>pI fun ah=>pE<|pG<|pI fun af=>pI fun ae=>pE<|pE<|pF (GL N au aq an am ai ah af ae) ((0,0),(0,0)) fun r=> .tup [.agg [.i r.1.1,.i r.1.2],.agg [.i r.2.1,.i r.2.2]]
theorem gJ (N:Nat):FOK Tryz.prog 131 (oU N):=by
 refine Al x131.ok<|AW<|Ac fun au=>Ac fun aq=>Ah<|AW<|Ac fun an=>Ac fun am=>Ah<|AW<|Ac fun ai=>Ac fun ah=>Ah<|AW<|Ac fun af=>Ac fun ae=>Ah<|Ah<|An fun r h=>wx x131 (Aa YG<|Aa (OR N)<|Aa (SS N)<|Aa (ST N)<|Aj) fun _ hS F=> ?_
 dsimp only[x131,mkX]
 unfold GL at h
 refine go hS F ?_
 refine Df hS 1 x162.hf x162.hc x162.hn x162.ok rfl (ev F) (ev F) ?_ rfl (ev F) (Nat.le_of_ble_eq_true rfl) fun hb=> ?_
 ·exact goc hS F
 dsimp only[x162,mkX]
 obtain⟨gu,iy,gw,fj,h⟩:=un h
 have gt:=yJ fj
 replace F:=fc gt F
 refine go hS F ?_
 refine Df hS 6 x185.hf x185.hc x185.hn x185.ok rfl (ev F) (ev F) ?_ rfl (ev F) (Nat.le_of_ble_eq_true rfl) fun hb=> ?_
 ·exact goc hS F
 dsimp only[x185,mkX]
 refine go hS F ?_
 refine E4 30 ?_
 refine gct hS F ?_
 refine go hS F ?_
 refine Df hS 4 x191.hf x191.hc x191.hn x191.ok rfl (ev F) (ev F) ?_ rfl (ev F) (Nat.le_of_ble_eq_true rfl) fun hb=> ?_
 ·exact goc hS F
 dsimp only[x191,mkX]
 refine go hS F ?_
 refine E4 30 ?_
 refine gct hS F ?_
 refine go hS F ?_
 refine E4 30 ?_
 obtain⟨dm,fh,h⟩:=un h
 replace F:=fc fh F
 refine gcb hS F h (fun _ h=> ?_) (fun _ h=> ?_)
 ·refine gcf hS F ?_
  refine gcf hS F ?_
  refine go hS F ?_
  refine Df hS 1 x162.hf x162.hc x162.hn x162.ok rfl (ev F) (ev F) ?_ rfl (ev F) (Nat.le_of_ble_eq_true rfl) fun hb=> ?_
  ·exact goc hS F
  dsimp only[x162,mkX]
  obtain⟨iw,iv,h⟩:=un h
  refine go hS F ?_
  refine Df hS 6 x185.hf x185.hc x185.hn x185.ok rfl (ev F) (ev F) ?_ rfl (ev F) (Nat.le_of_ble_eq_true rfl) fun hb=> ?_
  ·exact goc hS F
  dsimp only[x185,mkX]
  refine go hS F ?_
  refine E4 30 ?_
  refine gct hS F ?_
  refine go hS F ?_
  refine Df hS 4 x191.hf x191.hc x191.hn x191.ok rfl (ev F) (ev F) ?_ rfl (ev F) (Nat.le_of_ble_eq_true rfl) fun hb=> ?_
  ·exact goc hS F
  dsimp only[x191,mkX]
  refine go hS F ?_
  refine E4 30 ?_
  refine gct hS F ?_
  refine go hS F ?_
  refine E4 30 ?_
  obtain⟨dl,fg,h⟩:=un h
  replace F:=fc fg F
  refine gcb hS F h (fun _ h=> ?_) (fun _ h=> ?_)
  ·refine gcf hS F ?_
   refine gcf hS F ?_
   obtain⟨⟨dh,dg⟩,fb,h⟩:=un h
   obtain⟨⟨de,db⟩,e9,h⟩:=un h
   exact Ad hS (fc e9 (fc fb F)) h
  ·refine gcf hS F ?_
   obtain⟨⟨cz,cy⟩,ez,h⟩:=un h
   obtain⟨⟨cu,cr⟩,eh,h⟩:=un h
   exact Ad hS (fc eh (fc ez F)) h
 ·refine gcf hS F ?_
  refine go hS F ?_
  refine Df hS 1 x162.hf x162.hc x162.hn x162.ok rfl (ev F) (ev F) ?_ rfl (ev F) (Nat.le_of_ble_eq_true rfl) fun hb=> ?_
  ·exact goc hS F
  dsimp only[x162,mkX]
  obtain⟨g9,g8,h⟩:=un h
  refine go hS F ?_
  refine Df hS 6 x185.hf x185.hc x185.hn x185.ok rfl (ev F) (ev F) ?_ rfl (ev F) (Nat.le_of_ble_eq_true rfl) fun hb=> ?_
  ·exact goc hS F
  dsimp only[x185,mkX]
  refine go hS F ?_
  refine E4 30 ?_
  refine gct hS F ?_
  refine go hS F ?_
  refine Df hS 4 x191.hf x191.hc x191.hn x191.ok rfl (ev F) (ev F) ?_ rfl (ev F) (Nat.le_of_ble_eq_true rfl) fun hb=> ?_
  ·exact goc hS F
  dsimp only[x191,mkX]
  refine go hS F ?_
  refine E4 30 ?_
  refine gct hS F ?_
  refine go hS F ?_
  refine E4 30 ?_
  obtain⟨cq,d9,h⟩:=un h
  replace F:=fc d9 F
  refine gcb hS F h (fun _ h=> ?_) (fun _ h=> ?_)
  ·refine gcf hS F ?_
   refine gcf hS F ?_
   obtain⟨⟨co,ce⟩,d8,h⟩:=un h
   obtain⟨⟨b9,bz⟩,d7,h⟩:=un h
   exact Ad hS (fc d7 (fc d8 F)) h
  ·refine gcf hS F ?_
   obtain⟨⟨bw,bv⟩,d6,h⟩:=un h
   obtain⟨⟨bu,br⟩,d5,h⟩:=un h
   exact Ad hS (fc d5 (fc d6 F)) h
end Go.Proofs.YtciphecegkfaiaaGreat.Am
namespace Go.Proofs.YtciphecegkfaiaaGreat.Am
open Go
attribute [local irreducible] awp B5 BR Bx B3 Bw Bn BS B1 itK
set_option maxRecDepth 100000
set_option maxHeartbeats 8000000
set_option linter.unusedSimpArgs false
set_option linter.unusedVariables false
attribute [local go_sem] MP
def Dx (N:Nat) (ai:Int) (ah:Int) (af:Int) (ae:Int):List ((Int×Int)×(Int×Int))→Option (Sum Unit ((((Int×Int)×(Int×Int))×Bool)))
 |[]=>
  some (.inl ())
 |((bh,bg),(aw,av))::ys=>
  (Dk N ai ah af ae bh bg).bind fun bi=>
  gd ((!(decide (bi≠0)))=true→((Dk N ai ah af ae aw av).isSome=true))<|
  bif (decide (bi≠0))||(decide ((Dk N ai ah af ae aw av).getD 0≠0)) then(
   Dx N ai ah af ae ys)
  else(
   (GL N ai ah af ae bh bg aw av).bind fun((aq,an),(am,ak))=>
   gd ((!(decide (aq=am)&&decide (an=ak)))=true→((CW N aq an am ak).isSome=true))<|
   bif (decide (aq=am)&&decide (an=ak))||(decide (0<(CW N aq an am ak).getD 0)) then(
    Dx N ai ah af ae ys)
   else(
    (CW N ai ah af ae).bind fun bj=>
    bif decide (0<bj) then(
     some (.inr (((am,ak),(aq,an)),true)))
    else(
     some (.inr (((aq,an),(am,ak)),true)))))
def Eb (N:Nat) (b422:List (Int×Int)):List ((Int×Int)×(Int×Int))→Option (Sum Unit ((((Int×Int)×(Int×Int))×Bool)))
 |[]=>
  some (.inl ())
 |((ai,ah),(af,ae))::ys=>
  gd (b422.length≤1000000000)<|
  (Dx N ai ah af ae (Bm b422)).bind fun bb=>match bb with
   | .inl ()=>(
    Eb N b422 ys)
   | .inr bw=>(
    some (.inr bw))
def Fb (N:Nat) (a421:List (Int×Int)) (b422:List (Int×Int)):Option (((Int×Int)×(Int×Int))×Bool):=
 (BC N a421).bind fun ay=>
 gd ((!(!ay))=true→((BC N b422).isSome=true))<|
 gd ((!((!ay)||(!((BC N b422).getD false))))=true→((CL N a421 b422).isSome=true))<|
 bif ((!ay)||(!((BC N b422).getD false)))||((CL N a421 b422).getD false) then(
  some (((0,0),(0,0)),false))
 else(
  gd (a421.length≤1000000000)<|
  (Eb N b422 (Bm a421)).bind fun az=>match az with
   | .inl ()=>(
    some (((0,0),(0,0)),false))
   | .inr bv=>(
    some bv))
@[go_sem] def s91 (N:Nat):Spec:=p0<|pS Ap fun a421=>pS Ap fun b422=>pE<|pF (Fb N a421 b422) (((0,0),(0,0)),false) fun r=> .tup [.agg [.i r.1.1.1,.i r.1.1.2,.i r.1.2.1,.i r.1.2.2],.b r.2]
theorem lI (N:Nat):FOK Tryz.prog 91 (s91 N):=by
 refine Al x91.ok<|A3 fun a421=>A3 fun b422=>Ah<|An fun r h=>wx x91 (Aa (KF N)<|Aa (YZ N)<|Aa KM<|Aa (Mz N)<|Aa (gJ N)<|Aa (OR N)<|Aj) fun _ hS F=> ?_
 dsimp only[x91,mkX,Ap]
 unfold Fb at h
 obtain⟨ay,br,dg,de,h⟩:=un h
 replace F:=fc br F
 refine gcb hS F h (fun _ h=> ?_) (fun _ h=> ?_)
 ·exact Ad hS F h
 ·obtain⟨db,h⟩:=un h
  obtain⟨az,cu,h⟩:=un h
  refine go hS F ?_
  refine Au az (fun z:Nat=>⟨[(4,.box (1,1) 0),(5,.box (2,1) 0)],[(.c (2,1) 0,.b false),(.c (1,1) 0,.i 0),(.c (1,1) 1,.i 0),(.c (1,1) 2,.i 0),(.c (1,1) 3,.i 0)],z⟩) (fun z=>(.inl ():Sum Unit ((((Int×Int)×(Int×Int))×Bool)))) .n ?_ ?_
  ·refine Vf (fun y:Nat×Nat=>([(.c (2,1) 0,.b false),(.c (1,1) 0,.i 0),(.c (1,1) 1,.i 0),(.c (1,1) 2,.i 0),(.c (1,1) 3,.i 0),(.c (0,1) 0,A1 b422)],y.2)) (fun y=>Eb N b422 ((Bm a421).drop y.1)=some az∧y.1≤(Bm a421).length) (fun y=>y.1) (0,3) (ev F) (Kl a421 false (by assumption)) x150.ok ⟨rfl,rfl⟩ (by simp[x91,mkX]) (by intro a ha;obtain⟨y,_,rfl⟩:=List.mem_map.1 ha;exact⟨rfl,rfl⟩) ⟨cu,Nat.zero_le _⟩ rfl ?_ ?_ ?_
   ·exact leF F
   ·rintro l ⟨n,aj⟩ ⟨au,hle⟩ args ce
    obtain⟨⟨⟨ai,ah⟩,⟨af,ae⟩⟩,b9,rfl,hlt⟩:=Iv ce
    simp only[b9,Eb] at au
    clear ce b9
    simp only[edA,FF]
    obtain⟨cz,au⟩:=un au
    obtain⟨bb,cr,au⟩:=un au
    refine go hS F ?_
    refine Au bb (fun z:Nat=>⟨[(3,.box (0,1) 0),(4,.box (1,1) 0),(5,.box (2,1) 0),(6,.box (400,aj+1) 0),(7,.box (500,aj+1+1) 0),(27,.clo (.func 150) [] [.ro [A1 a421] 0]),(28,.agg [.i ai,.i ah]),(29,.agg [.i af,.i ae])],[(.c (500,aj+1+1) 0,.i af),(.c (500,aj+1+1) 1,.i ae),(.c (400,aj+1) 0,.i ai),(.c (400,aj+1) 1,.i ah),(.c (2,1) 0,.b false),(.c (1,1) 0,.i 0),(.c (1,1) 1,.i 0),(.c (1,1) 2,.i 0),(.c (1,1) 3,.i 0),(.c (0,1) 0,A1 b422)],z⟩) (fun z=>(.inl ():Sum Unit ((((Int×Int)×(Int×Int))×Bool)))) .n ?_ ?_
    ·refine Vg (fun y:Nat×Nat=>([(.c (500,aj+1+1) 0,.i af),(.c (500,aj+1+1) 1,.i ae),(.c (400,aj+1) 0,.i ai),(.c (400,aj+1) 1,.i ah),(.c (2,1) 0,.b false),(.c (1,1) 0,.i 0),(.c (1,1) 1,.i 0),(.c (1,1) 2,.i 0),(.c (1,1) 3,.i 0),(.c (0,1) 0,A1 b422)],y.2)) (fun y=>Dx N ai ah af ae ((Bm b422).drop y.1)=some bb∧y.1≤(Bm b422).length) (fun y=>y.1) (0,aj+1+1+1) (ev F) (Kl b422 false (by assumption)) x150.ok ⟨rfl,rfl⟩ (by simp[x91,mkX]) (by intro a ha;obtain⟨y,_,rfl⟩:=List.mem_map.1 ha;exact⟨rfl,rfl⟩) (YH b422 false _) ⟨cr,Nat.zero_le _⟩ rfl ?_ ?_ ?_
     ·exact leF F
     ·rintro l ⟨n,be⟩ ⟨aa,hle⟩ args bu
      obtain⟨⟨⟨bh,bg⟩,⟨aw,av⟩⟩,bm,rfl,hlt⟩:=Iv bu
      simp only[bm,Dx] at aa
      clear bu bm
      simp only[edA,FF]
      obtain⟨bi,bq,cq,aa⟩:=un aa
      replace F:=fc bq F
      refine gcb hS F aa (fun _ aa=> ?_) (fun _ aa=> ?_)
      ·exact grg hS F (n+1,be+1+1+1) aa
      ·obtain⟨⟨⟨aq,an⟩,⟨am,ak⟩⟩,bp,aa⟩:=un aa
       obtain⟨co,aa⟩:=un aa
       replace F:=fc bp F
       refine gcb hS F aa (fun _ aa=> ?_) (fun _ aa=> ?_)
       ·exact grg hS F (n+1,be+1+1+1+1+1) aa
       ·obtain⟨bj,bo,aa⟩:=un aa
        replace F:=fc bo F
        refine gcb hS F aa (fun _ aa=> ?_) (fun _ aa=> ?_)
        ·obtain rfl:=yJ aa
         obtain rfl:=yJ au
         exact Ad hS F h
        ·obtain rfl:=yJ aa
         obtain rfl:=yJ au
         exact Ad hS F h
     ·rintro⟨n,be⟩ ⟨aa,hle⟩ hk
      rw[show n=_ from hk,Io] at aa
      simp only[Dx] at aa
      exact gck hS F be aa
    ·rintro bz rfl
     exact grg hS F (n+1,bz) au
   ·rintro⟨n,aj⟩ ⟨au,hle⟩ hk
    rw[show n=_ from hk,Io] at au
    simp only[Eb] at au
    exact gck hS F aj au
  ·rintro cy rfl
   exact Ad hS F h
end Go.Proofs.YtciphecegkfaiaaGreat.Am
