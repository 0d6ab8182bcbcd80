import Derived.Test.YtciphecegkfaiaaGreatP3
set_option linter.unusedSimpArgs false
set_option linter.unusedVariables false
namespace Go.Proofs.YtciphecegkfaiaaGreat.Am
open Go
section
attribute [local irreducible] As Cn B6 BK CA BJ Bv Cl Cv Dx
set_option maxRecDepth 100000
set_option maxHeartbeats 8000000
attribute [local go_sem] PG
def HD(N:Nat)(ah:Int)(af:Int):List ((Int×Int)×(Int×Int))->Int->Option Int|[],aa=>some aa|((au,aq),(an,am))::ys,aa=>(Ee N au aq an am ah af).bind λaj=>HD N ah af ys (min aa aj)
def Ml(N:Nat)(l97:List (Int×Int))(ah:Int)(af:Int):Option Int:=gd (l97.length<=1000000000)<|(HD N ah af (Bu l97) 4611686018427387903).bind λae=>(DK N ae 0).bind λav=>some av
@[go_sem] def Ac2(N:Nat):Spec:=p0<|pS AF λl97=>pG<|pI λah=>pI λaf=>pE<|pE<|pF (Ml N l97 ah af) 0 λr=>.i r
end
section
attribute [local irreducible] As Cn B6 BK CA BJ Bv Cl Cv Dx
set_option maxRecDepth 100000
set_option maxHeartbeats 8000000
attribute [local go_sem] PG
def AX(N:Nat)(s122:List (Int×Int)):Nat->Int->Option (Sum Unit Int)|0,_=>none|n+1,JR=>bif decide (JR<(s122.length:Int))then((AA s122 JR).bind λ(x131,x132)=>(Gz N x131 x132).bind λie=>bif ie then(some (.inr JR))else(gd (Ab (JR+1))<|AX N s122 n (JR+1)))else(some (.inl ()))
def CM(N:Nat)(s122:List (Int×Int)):Option Int:=(AX N s122 N 0).bind λd8=>match d8 with|.inl ()=>(some (-1))|.inr jz=>(some jz)
@[go_sem] def kW(N:Nat):Spec:=p0<|pS AF λs122=>pL 99<|pE<|pE<|pF (CM N s122) 0 λr=>.i r
theorem Zj(N:Nat):AZ Tryz.prog 167 (kW N):=by
 refine Ax x167.ok<|Bf λs122=>LG<|Ai<|Ai<|Ay λr h=>wx x167 (Ac (oA N)<|An) λ_ hS F=>?_
 dsimp only[x167,Al,AF];unfold CM at h;obtain⟨d8,j6,h⟩:=un h;refine go hS F ?_;refine AM d8 (λz:Nat=>⟨[],[],z⟩) (λz=>(.inl ():Sum Unit Int)) (.x 0) ?_ ?_
 ·refine AH (λn (y:Int×Nat)=>AX N s122 n y.1) (λy=>⟨[(0,A3 s122),(1,.clo (.func 99) [] []),(7,.i (s122.length:Int)),(8,.i y.1)],[],y.2⟩) (0,2) j6 (Bn F) ?_;rintro n ⟨JR,js⟩ ak;simp only[AX]at ak;refine Ap hS F ak (λ_ ak=>?_) (λ_ ak=>?_)
  ·obtain⟨⟨x131,x132⟩,jm,ak⟩:=un ak;obtain⟨kj,F⟩:=Bt By jm F;obtain⟨ie,jf,ak⟩:=un ak;replace F:=fc jf F;refine Ap hS F ak (λ_ ak=>?_) (λ_ ak=>?_)
   ·obtain rfl:=yJ ak;exact Af hS F h
   ·obtain⟨km,ak⟩:=un ak;exact Bk hS F (n,JR+1,js+1+1+1+1) ak
  ·exact A9 hS F (js+1) ak
 ·rintro lj rfl;exact Af hS F h
def Bc(N:Nat)(S0:List (Int×Int)):Option Bool:=(CM N S0).bind λic=>some (decide (0<=ic))
@[go_sem] def kX(N:Nat):Spec:=p0<|pS AF λS0=>pL 99<|pE<|pE<|pF (Bc N S0) false λr=>.b r
theorem R9(N:Nat):AZ Tryz.prog 138 (kX N):=by
 refine Ax x138.ok<|Bf λS0=>LG<|Ai<|Ai<|Ay λr h=>wx x138 (Ac (Zj N)<|An) λ_ hS F=>?_
 dsimp only[x138,Al,AF];unfold Bc at h;obtain⟨ic,je,h⟩:=un h;exact Af hS (fc je F) h
def IS(N:Nat)(cu:Int)(cr:Int)(x146:Int)(x147:Int)(ce:Int)(x149:Int):Option Bool:=(Ee N x146 x147 ce x149 cu cr).bind λg9=>some (decide (0<g9))
@[go_sem] def Ac3(N:Nat):Spec:=p0<|pG<|pI λcu=>pI λcr=>pE<|pO<|pI λx146=>pI λx147=>pE<|pO<|pI λce=>pI λx149=>pE<|pE<|pF (IS N cu cr x146 x147 ce x149) false λr=>.b r
theorem yK(N:Nat):AZ Tryz.prog 171 (Ac3 N):=by
 refine Ax x171.ok<|A2<|Ad λcu=>Ad λcr=>Ai<|LF<|Ad λx146=>Ad λx147=>Ai<|LF<|Ad λce=>Ad λx149=>Ai<|Ai<|Ay λr h=>wx x171 (Ac (Pm N)<|An) λ_ hS F=>?_
 dsimp only[x171,Al];unfold IS at h;obtain⟨g9,jd,h⟩:=un h;exact Af hS (fc jd F) h
def AI(N:Nat)(s152:List (Int×Int))(av:Int)(au:Int)(aq:Int)(an:Int):Nat->Int->Option (Sum Unit Int)|0,_=>none|n+1,x164=>bif decide (x164<(s152.length:Int))then((AA s152 x164).bind λ(x165,x166)=>(IS N x165 x166 av au aq an).bind λg8=>bif g8 then(some (.inr x164))else(gd (Ab (x164+1))<|AI N s152 av au aq an n (x164+1)))else(some (.inl ()))
def CJ(N:Nat)(s152:List (Int×Int))(av:Int)(au:Int)(aq:Int)(an:Int):Option Int:=(AI N s152 av au aq an N 0).bind λd7=>match d7 with|.inl ()=>(some (-1))|.inr jy=>(some jy)
@[go_sem] def cJ(N:Nat):Spec:=p0<|pS AF λs152=>pL 171<|pO<|pI λav=>pI λau=>pE<|pO<|pI λaq=>pI λan=>pE<|pE<|pE<|pF (CJ N s152 av au aq an) 0 λr=>.i r
theorem Xa(N:Nat):AZ Tryz.prog 167 (cJ N):=by
 refine Ax x167.ok<|Bf λs152=>LG<|LF<|Ad λav=>Ad λau=>Ai<|LF<|Ad λaq=>Ad λan=>Ai<|Ai<|Ai<|Ay λr h=>wx x167 (Ac (yK N)<|An) λ_ hS F=>?_
 dsimp only[x167,Al,AF];unfold CJ at h;obtain⟨d7,j6,h⟩:=un h;refine go hS F ?_;refine AM d7 (λz:Nat=>⟨[],[],z⟩) (λz=>(.inl ():Sum Unit Int)) (.x 0) ?_ ?_
 ·refine AH (λn (y:Int×Nat)=>AI N s152 av au aq an n y.1) (λy=>⟨[(0,A3 s152),(1,.clo (.func 171) [] [.ro [.i av,.i au] 0,.ro [.i aq,.i an] 0]),(7,.i (s152.length:Int)),(8,.i y.1)],[],y.2⟩) (0,2) j6 (Bn F) ?_;rintro n ⟨x164,jr⟩ ak;simp only[AI]at ak;refine Ap hS F ak (λ_ ak=>?_) (λ_ ak=>?_)
  ·obtain⟨⟨x165,x166⟩,jk,ak⟩:=un ak;obtain⟨ki,F⟩:=Bt By jk F;obtain⟨g8,jc,ak⟩:=un ak;replace F:=fc jc F;refine Ap hS F ak (λ_ ak=>?_) (λ_ ak=>?_)
   ·obtain rfl:=yJ ak;exact Af hS F h
   ·obtain⟨km,ak⟩:=un ak;exact Bk hS F (n,x164+1,jr+1+1+1+1) ak
  ·exact A9 hS F (jr+1) ak
 ·rintro li rfl;exact Af hS F h
def BM(N:Nat)(co:List (Int×Int))(dg:Int)(de:Int)(db:Int)(cz:Int):Option Bool:=(CJ N co dg de db cz).bind λgz=>some (decide (0<=gz))
@[go_sem] def cM(N:Nat):Spec:=p0<|pS AF λco=>pL 171<|pO<|pI λdg=>pI λde=>pE<|pO<|pI λdb=>pI λcz=>pE<|pE<|pE<|pF (BM N co dg de db cz) false λr=>.b r
theorem Xb(N:Nat):AZ Tryz.prog 138 (cM N):=by
 refine Ax x138.ok<|Bf λco=>LG<|LF<|Ad λdg=>Ad λde=>Ai<|LF<|Ad λdb=>Ad λcz=>Ai<|Ai<|Ai<|Ay λr h=>wx x138 (Ac (Xa N)<|An) λ_ hS F=>?_
 dsimp only[x138,Al,AF];unfold BM at h;obtain⟨gz,jb,h⟩:=un h;exact Af hS (fc jb F) h
def Dz(N:Nat)(l182:List (Int×Int))(ae:Int)(ay:Int)(aw:Int):Nat->Int->Option (Sum Unit Bool)|0,_=>none|n+1,am=>bif decide (am<(l182.length:Int))then((AA l182 am).bind λ(dp,dm)=>gd (((decide (am≠ae))&&(decide (am≠(ae+1).tmod (l182.length:Int))))=true->(0<=(ae+1).tmod (l182.length:Int)/\(ae+1).tmod (l182.length:Int)<(l182.length:Int)))<|gd (((decide (am≠ae))&&(decide (am≠(ae+1).tmod (l182.length:Int))))=true->((Ee N ay aw ((l182.getD ((ae+1).tmod (l182.length:Int)).toNat (0,0)).1) ((l182.getD ((ae+1).tmod (l182.length:Int)).toNat (0,0)).2) dp dm).isSome=true))<|bif ((decide (am≠ae))&&(decide (am≠(ae+1).tmod (l182.length:Int))))&&(decide ((Ee N ay aw ((l182.getD ((ae+1).tmod (l182.length:Int)).toNat (0,0)).1) ((l182.getD ((ae+1).tmod (l182.length:Int)).toNat (0,0)).2) dp dm).getD 0<=0))then(some (.inr false))else(gd (Ab (am+1))<|Dz N l182 ae ay aw n (am+1)))else(some (.inl ()))
def D9(N:Nat)(l182:List (Int×Int)):Nat->Int->Option (Sum Unit Bool)|0,_=>none|n+1,ae=>bif decide (ae<(l182.length:Int))then((AA l182 ae).bind λ(ay,aw)=>gd (Ab (ae+1))<|gd ((l182.length:Int)≠0)<|(Dz N l182 ae ay aw N 0).bind λd6=>match d6 with|.inl ()=>(gd (Ab (ae+1))<|D9 N l182 n (ae+1))|.inr jx=>(some (.inr jx)))else(some (.inl ()))
def BO(N:Nat)(l182:List (Int×Int)):Option Bool:=gd ((!((decide ((l182.length:Int)<3))||(decide (8<(l182.length:Int)))))=true->((Bc N l182).isSome=true))<|bif ((decide ((l182.length:Int)<3))||(decide (8<(l182.length:Int))))||((Bc N l182).getD false)then(some false)else((D9 N l182 N 0).bind λd5=>match d5 with|.inl ()=>(some true)|.inr jw=>(some jw))
@[go_sem] def s98(N:Nat):Spec:=p0<|pS AF λl182=>pE<|pF (BO N l182) false λr=>.b r
theorem Oi(N:Nat):AZ Tryz.prog 98 (s98 N):=by
 refine Ax x98.ok<|Bf λl182=>Ai<|Ay λr h=>wx x98 (Ac (R9 N)<|Ac (Pm N)<|An) λ_ hS F=>?_
 dsimp only[x98,Al,AF];unfold BO at h;obtain⟨fb,h⟩:=un h;refine Ap hS F h (λ_ h=>?_) (λ_ h=>?_)
 ·exact Af hS F h
 ·obtain⟨d5,jo,h⟩:=un h;refine go hS F ?_;refine AM d5 (λz:Nat=>⟨[],[],z⟩) (λz=>(.inl ():Sum Unit Bool)) (.x 0) ?_ ?_
  ·refine AH (λn (y:Int×Nat)=>D9 N l182 n y.1) (λy=>⟨[(0,A3 l182),(20,A3 l182),(21,.i (l182.length:Int)),(22,.i y.1)],[],y.2⟩) (0,3) jo (Bn F) ?_;rintro n ⟨ae,bw⟩ ah;simp only[D9]at ah;refine Ap hS F ah (λ_ ah=>?_) (λ_ ah=>?_)
   ·obtain⟨⟨ay,aw⟩,jj,ah⟩:=un ah;obtain⟨kh,F⟩:=Bt By jj F;obtain⟨lw,kl,ah⟩:=un ah;obtain⟨d6,kv,ah⟩:=un ah;refine go hS F ?_;refine AM d6 (λz:Nat=>⟨[(0,A3 l182),(20,A3 l182),(21,.i (l182.length:Int)),(22,.i ae)],[],z⟩) (λz=>(.inl ():Sum Unit Bool)) (.x 2) ?_ ?_
    ·refine AH (λn (y:Int×Nat)=>Dz N l182 ae ay aw n y.1) (λy=>⟨[(0,A3 l182),(3,.i ae),(4,.box (503,bw+1+1) 0),(5,.i ((ae+1).tmod (l182.length:Int))),(20,A3 l182),(21,.i (l182.length:Int)),(22,.i ae),(32,A3 l182),(33,.i (l182.length:Int)),(34,.i y.1)],[(.c (503,bw+1+1) 0,.i ay),(.c (503,bw+1+1) 1,.i aw)],y.2⟩) (0,bw+1+1+1+1) kv (Bn F) ?_;rintro n ⟨am,jq⟩ az;simp only[Dz]at az;refine Ap hS F az (λ_ az=>?_) (λ_ az=>?_)
     ·obtain⟨⟨dp,dm⟩,ji,az⟩:=un az;obtain⟨kg,F⟩:=Bt By ji F;obtain⟨lq,lm,az⟩:=un az;refine Ap hS F az (λ_ az=>?_) (λ_ az=>?_)
      ·obtain rfl:=yJ az;obtain rfl:=yJ ah;exact Af hS F h
      ·obtain⟨kr,az⟩:=un az;exact Bk hS F (n,am+1,jq+1+1+1+1) az
     ·exact A9 hS F (jq+1) az
    ·rintro j7 rfl;obtain⟨kq,ah⟩:=un ah;exact Bk hS F (n,ae+1,j7+1) ah
   ·exact A9 hS F (bw+1) ah
  ·rintro lh rfl;exact Af hS F h
def EJ(N:Nat)(l222:List (Int×Int)):List ((Int×Int)×(Int×Int))->Int->Option Int|[],aj=>some aj|((gf,gc),(fq,fp))::ys,aj=>(AA l222 0).bind λ(gi,gh)=>(Ee N gi gh gf gc fq fp).bind λcq=>gd (Ab (aj+cq))<|EJ N l222 ys (aj+cq)
def GA(N:Nat)(l222:List (Int×Int)):Option Int:=(BO N l222).bind λgy=>bif !gy then(some 0)else(gd (l222.length<=1000000000)<|(EJ N l222 (Bu l222) 0).bind λbr=>some br)
@[go_sem] def s83(N:Nat):Spec:=p0<|pS AF λl222=>pE<|pF (GA N l222) 0 λr=>.i r
theorem Abk(N:Nat):AZ Tryz.prog 83 (s83 N):=by
 refine Ax x83.ok<|Bf λl222=>Ai<|Ay λr h=>wx x83 (Ac (Oi N)<|Ac M3<|Ac (Pm N)<|An) λ_ hS F=>?_
 dsimp only[x83,Al,AF];unfold GA at h;obtain⟨gy,ja,h⟩:=un h;replace F:=fc ja F;refine Ap hS F h (λ_ h=>?_) (λ_ h=>?_)
 ·exact Af hS F h
 ·obtain⟨fb,h⟩:=un h;obtain⟨ig,jo,h⟩:=un h;refine go hS F ?_;refine AM ig (λz:Int×Nat=>⟨[(3,.box (300,3) 0)],[(.c (300,3) 0,.i z.1)],z.2⟩) (λz=>(z.1:Int)) .n ?_ ?_
  ·refine Mg (λy:Nat×Int×Nat=>([(.c (300,3) 0,.i y.2.1),(.c (0,1) 0,A3 l222)],y.2.2)) (λy=>EJ N l222 ((Bu l222).drop y.1) y.2.1=some ig/\y.1<=(Bu l222).length) (λy=>y.1) (0,0,4) (ev F) (My l222 false (by assumption)) x150.ok ⟨rfl,rfl⟩ (by simp[x83,Al]) (by intro a ha;obtain⟨y,_,rfl⟩:=tI.1 ha;exact⟨rfl,rfl⟩) ⟨jo,t7 _⟩ rfl ?_ ?_ ?_
   ·exact Bn F
   ·rintro l ⟨n,aj,ez⟩ ⟨ah,hle⟩ args jn;obtain⟨⟨⟨gf,gc⟩,⟨fq,fp⟩⟩,ij,rfl,hlt⟩:=J6 jn;simp only[ij,EJ]at ah;clear jn ij;simp only[Ua,GU];obtain⟨⟨gi,gh⟩,jh,ah⟩:=un ah;obtain⟨kf,F⟩:=Ma 0 By jh F;obtain⟨cq,i9,j8,ah⟩:=un ah;exact RO hS (fc i9 F) (n+1,aj+cq,ez+1+1+1) ah
   ·rintro⟨n,aj,ez⟩ ⟨ah,hle⟩ hk;rw[show n=_ from hk,JU]at ah;simp only[EJ]at ah;exact A9 hS F (aj,ez) ah
  ·rintro⟨br,lg⟩ rfl;exact Af hS F h
def Nt(N:Nat)(bu:List (Int×Int))(bj:Int)(bi:Int):Option Int:=(BO N bu).bind λdz=>gd ((!(!dz))=true->((Gz N bj bi).isSome=true))<|bif (!dz)||((Gz N bj bi).getD false)then(some (-1))else((Ml N bu bj bi).bind λgx=>some gx)
@[go_sem] def s44(N:Nat):Spec:=p0<|pS AF λbu=>pG<|pI λbj=>pI λbi=>pE<|pE<|pF (Nt N bu bj bi) 0 λr=>.i r
def EK(N:Nat)(aa:List (Int×Int)):List ((Int×Int)×(Int×Int))->Int->Option (Sum Unit Int)|[],be=>some (.inl ())|((fo,fj),(fh,fg))::ys,be=>(BM N aa fo fj fh fg).bind λgw=>bif !gw then(some (.inr be))else(gd (Ab (be+1))<|EK N aa ys (be+1))
def Hn(N:Nat)(l258:List (Int×Int))(aa:List (Int×Int)):Option Int:=gd (l258.length<=1000000000)<|(EK N aa (Bu l258) 0).bind λcy=>match cy with|.inl ()=>(some (-1))|.inr jv=>(some jv)
@[go_sem] def Ac4(N:Nat):Spec:=p0<|pS AF λl258=>pS AF λaa=>pE<|pF (Hn N l258 aa) 0 λr=>.i r
theorem yL(N:Nat):AZ Tryz.prog 149 (Ac4 N):=by
 refine Ax x149.ok<|Bf λl258=>Bf λaa=>Ai<|Ay λr h=>wx x149 (Ac M3<|Ac (Xb N)<|An) λ_ hS F=>?_
 dsimp only[x149,Al,AF];unfold Hn at h;obtain⟨fb,h⟩:=un h;obtain⟨cy,jo,h⟩:=un h;refine go hS F ?_;refine AM cy (λz:Nat=>⟨[(4,.box (1,1) 0)],[(.c (1,1) 0,.i 0)],z⟩) (λz=>(.inl ():Sum Unit Int)) .n ?_ ?_
 ·refine Mg (λy:Nat×Int×Nat=>([(.c (100,2) 0,.i y.2.1),(.c (1,1) 0,.i 0),(.c (0,1) 0,A3 aa)],y.2.2)) (λy=>EK N aa ((Bu l258).drop y.1) y.2.1=some cy/\y.1<=(Bu l258).length) (λy=>y.1) (0,0,3) (ev F) (My l258 false (by assumption)) x150.ok ⟨rfl,rfl⟩ (by simp[x149,Al]) (by intro a ha;obtain⟨y,_,rfl⟩:=tI.1 ha;exact⟨rfl,rfl⟩) ⟨jo,t7 _⟩ rfl ?_ ?_ ?_
  ·exact Bn F
  ·rintro l ⟨n,be,eh⟩ ⟨ah,hle⟩ args jn;obtain⟨⟨⟨fo,fj⟩,⟨fh,fg⟩⟩,ij,rfl,hlt⟩:=J6 jn;simp only[ij,EK]at ah;clear jn ij;simp only[Ua,GU];obtain⟨gw,i6,ah⟩:=un ah;replace F:=fc i6 F;refine Ap hS F ah (λ_ ah=>?_) (λ_ ah=>?_)
   ·obtain rfl:=yJ ah;exact Af hS F h
   ·obtain⟨j8,ah⟩:=un ah;exact RO hS F (n+1,be+1,eh+1+1+1+1+1) ah
  ·rintro⟨n,be,eh⟩ ⟨ah,hle⟩ hk;rw[show n=_ from hk,JU]at ah;simp only[EK]at ah;exact A9 hS F eh ah
 ·rintro lf rfl;exact Af hS F h
def G9(N:Nat)(bo:List (Int×Int))(bg:List (Int×Int)):Option (Int×Int×Bool):=(BO N bo).bind λdw=>gd ((!(!dw))=true->((BO N bg).isSome=true))<|bif (!dw)||(!((BO N bg).getD false))then(some (0,0,false))else((Hn N bo bg).bind λdu=>bif decide (0<=du)then(some (0,du,true))else((Hn N bg bo).bind λdt=>bif decide (0<=dt)then(some (1,dt,true))else(some (0,0,false))))
@[go_sem] def Ac5(N:Nat):Spec:=p0<|pS AF λbo=>pS AF λbg=>pE<|pF (G9 N bo bg) (0,0,false) λr=>.tup [.i r.1,.i r.2.1,.b r.2.2]
theorem yM(N:Nat):AZ Tryz.prog 121 (Ac5 N):=by
 refine Ax x121.ok<|Bf λbo=>Bf λbg=>Ai<|Ay λr h=>wx x121 (Ac (Oi N)<|Ac (yL N)<|An) λ_ hS F=>?_
 dsimp only[x121,Al,AF];unfold G9 at h;obtain⟨dw,iz,fb,h⟩:=un h;replace F:=fc iz F;refine Ap hS F h (λ_ h=>?_) (λ_ h=>?_)
 ·exact Af hS F h
 ·obtain⟨du,iy,h⟩:=un h;replace F:=fc iy F;refine Ap hS F h (λ_ h=>?_) (λ_ h=>?_)
  ·exact Af hS F h
  ·obtain⟨dt,iw,h⟩:=un h;replace F:=fc iw F;refine Ap hS F h (λ_ h=>?_) (λ_ h=>?_)
   ·exact Af hS F h
   ·exact Af hS F h
def Dq(N:Nat)(bz:List (Int×Int))(bm:List (Int×Int)):Option Bool:=(G9 N bz bm).bind λ(ju,jt,gu)=>(BO N bz).bind λdq=>gd (dq=true->((BO N bm).isSome=true))<|some ((dq&&((BO N bm).getD false))&&(!gu))
@[go_sem] def s81(N:Nat):Spec:=p0<|pS AF λbz=>pS AF λbm=>pE<|pF (Dq N bz bm) false λr=>.b r
theorem oB(N:Nat):AZ Tryz.prog 81 (s81 N):=by
 refine Ax x81.ok<|Bf λbz=>Bf λbm=>Ai<|Ay λr h=>wx x81 (Ac (yM N)<|Ac (Oi N)<|An) λ_ hS F=>?_
 dsimp only[x81,Al,AF];unfold Dq at h;obtain⟨⟨ju,jt,gu⟩,iv,h⟩:=un h;obtain⟨dq,ir,fb,h⟩:=un h;exact Af hS (fc ir (fc iv F)) h
def Gr(N:Nat)(l296:List (Int×Int))(af:Int)(ai:Int):Nat->Int->(List (Int×Int))->Option ((List (Int×Int)))|0,_,_=>none|n+1,x309,l310=>bif decide (x309<(l296.length:Int))then((AA l310 x309).bind λ(bb,bh)=>gd (Ab (bb+af))<|(AA (l310.set x309.toNat (bb+af,bh)) x309).bind λ(b9,bq)=>gd (Ab (bq+ai))<|gd (Ab (x309+1))<|Gr N l296 af ai n (x309+1) ((l310.set x309.toNat (bb+af,bh)).set x309.toNat (b9,bq+ai)))else(some l310)
def Gf(N:Nat)(l296:List (Int×Int))(af:Int)(ai:Int):Option ((List (Int×Int))×Int):=(BO N l296).bind λgt=>bif ((!gt)||(decide (40<max af ai)))||(decide (min af ai<(-40)))then(some ([],70))else(gd (l296≠[])<|gd ((l296.length)*16<=140737488355328)<|(Gr N l296 af ai N 0 l296).bind λd9=>(Bc N d9).bind λgj=>bif gj then(some ([],70))else(some (d9,0)))
@[go_sem] def Ac6(N:Nat):Spec:=p0<|pS AF λl296=>pI λaf=>pI λai=>pE<|pF (Gf N l296 af ai) ([],0) λr=>.tup [A3 r.1,.i r.2]
theorem yN(N:Nat):AZ Tryz.prog 134 (Ac6 N):=by
 refine Ax x134.ok<|Bf λl296=>Ad λaf=>Ad λai=>Ai<|Ay λr h=>wx x134 (Ac (Oi N)<|Ac (R9 N)<|An) λ_ hS F=>?_
 dsimp only[x134,Al,AF];unfold Gf at h;obtain⟨gt,iq,h⟩:=un h;replace F:=fc iq F;refine Ap hS F h (λ_ h=>?_) (λ_ h=>?_)
 ·exact Af hS F h
 ·refine go hS F ?_;refine DO hS 1 x78.hf x78.hc x78.hn x78.ok rfl (ev F) (ev F) ?_ rfl (ev F) (mO rfl) λhb=>?_
  ·exact Hk hS F
  dsimp only[x78,Al];obtain⟨fb,h⟩:=un h;refine Kg hS F ?_;obtain⟨lz,h⟩:=un h;obtain⟨j5,kw,h⟩:=un h;refine go hS F ?_;refine AM j5 (λz:(List (Int×Int))×Nat=>⟨[(8,.own (300,6) z.1.length)],[(.a (300,6),JS z.1)],z.2⟩) (λz=>(z.1:(List (Int×Int)))) (.x 0) ?_ ?_
  ·refine AH (λn (y:Int×(List (Int×Int))×Nat)=>Gr N l296 af ai n y.1 y.2.1) (λy=>⟨[(1,.i af),(2,.i ai),(8,.own (300,6) y.2.1.length),(28,.i (l296.length:Int)),(29,.i y.1)],[(.a (300,6),JS y.2.1)],y.2.2⟩) (0,l296,8) kw (Bn F) ?_;rintro n ⟨x309,l310,jp⟩ bp;simp only[Gr]at bp;refine Ap hS F bp (λ_ bp=>?_) (λ_ bp=>?_)
   ·obtain⟨⟨bb,bh⟩,jg,bp⟩:=un bp;obtain⟨ke,F⟩:=Bt By jg F;obtain⟨kl,⟨b9,bq⟩,dl,bp⟩:=un bp;have dh:(l310.set x309.toNat (bb+af,bh)).getD x309.toNat (0,0)=(b9,bq):=xT dl _;have bv:=P4 (l310.set x309.toNat (bb+af,bh)) x309.toNat;rw[dh]at bv;simp only[List.map_set,By]at bv;have j9:=(JQ dl).1;obtain⟨j8,lr,bp⟩:=un bp;exact Bk hS (fc bv (fc dh F)) (n,x309+1,(l310.set x309.toNat (bb+af,bh)).set x309.toNat (b9,bq+ai),jp+1+1+1+1+1) bp
   ·exact A9 hS F (l310,jp+1) bp
  ·rintro⟨d9,k9⟩ rfl;obtain⟨gj,ip,h⟩:=un h;replace F:=fc ip F;refine Ap hS F h (λ_ h=>?_) (λ_ h=>?_)
   ·exact Af hS F h
   ·exact Af hS F h
end
section
attribute [local irreducible] As Cn B6 BK CA BJ Bv Cl Cv Dx
set_option maxRecDepth 100000
set_option maxHeartbeats 8000000
attribute [local go_sem] Z0
def AO(N:Nat)(x325:List (Int×Int)):Nat->Int->Int->Int->Option (Int×Int)|0,_,_,_=>none|n+1,ak,az,ay=>bif decide (ak<(x325.length:Int))then((AA x325 ak).bind λ(bh,bg)=>(DL N bh bg az ay).bind λdq=>bif decide (0<dq)then(gd (Ab (ak+1))<|AO N x325 n (ak+1) bh bg)else(gd (Ab (ak+1))<|AO N x325 n (ak+1) az ay))else(some (az,ay))
def Ba(N:Nat)(x325:List (Int×Int)):Option (Int×Int):=gd ((decide ((x325.length:Int)<1))=false)<|(AA x325 0).bind λ(bo,bm)=>(AO N x325 N 1 bo bm).bind λ(dz,dw)=>some (dz,dw)
@[go_sem] def cN(N:Nat):Spec:=p0<|pS AF λx325=>pL 132<|pE<|pE<|pF (Ba N x325) (0,0) λr=>.agg [.i r.1,.i r.2]
theorem Xc(N:Nat):AZ Tryz.prog 163 (cN N):=by
 refine Ax x163.ok<|Bf λx325=>LG<|Ai<|Ai<|Ay λr h=>wx x163 (Ac (R8 N)<|An) λ_ hS F=>?_
 dsimp only[x163,Al,AF];unfold Ba at h;obtain⟨gt,h⟩:=un h;refine go hS F ?_;refine cb F (decide ((x325.length:Int)<1)) (λhc2=>?_) (λhc2=>?_)
 ·exact Bool.noConfusion (hc2.symm.trans gt)
 obtain⟨⟨bo,bm⟩,gi,h⟩:=un h;obtain⟨ig,F⟩:=Ma 0 By gi F;obtain⟨gx,gy,h⟩:=un h;refine go hS F ?_;refine AM gx (λz:Int×Int×Nat=>⟨[(4,.box (0,1) 0),(5,.box (303,3) 0)],[(.c (303,3) 0,.i z.1),(.c (303,3) 1,.i z.2.1),(.c (0,1) 0,.i 0),(.c (0,1) 1,.i 0)],z.2.2⟩) (λz=>((z.1,z.2.1):Int×Int)) (.x 0) ?_ ?_
 ·refine AH (λn (y:Int×Int×Int×Nat)=>AO N x325 n y.1 y.2.1 y.2.2.1) (λy=>⟨[(0,A3 x325),(1,.clo (.func 132) [] []),(4,.box (0,1) 0),(5,.box (303,3) 0),(6,.i y.1)],[(.c (303,3) 0,.i y.2.1),(.c (303,3) 1,.i y.2.2.1),(.c (0,1) 0,.i 0),(.c (0,1) 1,.i 0)],y.2.2.2⟩) (1,bo,bm,4) gy (Bn F) ?_;rintro n ⟨ak,az,ay,bq⟩ aa;simp only[AO]at aa;refine Ap hS F aa (λ_ aa=>?_) (λ_ aa=>?_)
  ·obtain⟨⟨bh,bg⟩,gh,aa⟩:=un aa;obtain⟨ie,F⟩:=Bt By gh F;obtain⟨dq,fq,aa⟩:=un aa;replace F:=fc fq F;refine Ap hS F aa (λ_ aa=>?_) (λ_ aa=>?_)
   ·obtain⟨g8,aa⟩:=un aa;exact Bk hS F (n,ak+1,bh,bg,bq+1+1+1+1) aa
   ·obtain⟨gz,aa⟩:=un aa;exact Bk hS F (n,ak+1,az,ay,bq+1+1+1) aa
  ·exact A9 hS F (az,ay,bq+1) aa
 ·rintro⟨dz,dw,ip⟩ rfl;exact Af hS F h
def AP(N:Nat)(x352:List (Int×Int)):Nat->Int->Int->Int->Option (Int×Int)|0,_,_,_=>none|n+1,aj,aw,av=>bif decide (aj<(x352.length:Int))then((AA x352 aj).bind λ(be,bb)=>(DL N be bb aw av).bind λdp=>bif decide (dp<0)then(gd (Ab (aj+1))<|AP N x352 n (aj+1) be bb)else(gd (Ab (aj+1))<|AP N x352 n (aj+1) aw av))else(some (aw,av))
def Bb(N:Nat)(x352:List (Int×Int)):Option (Int×Int):=gd ((decide ((x352.length:Int)<1))=false)<|(AA x352 0).bind λ(bj,bi)=>(AP N x352 N 1 bj bi).bind λ(du,dt)=>some (du,dt)
@[go_sem] def cQ(N:Nat):Spec:=p0<|pS AF λx352=>pL 132<|pE<|pE<|pF (Bb N x352) (0,0) λr=>.agg [.i r.1,.i r.2]
theorem Xd(N:Nat):AZ Tryz.prog 164 (cQ N):=by
 refine Ax x164.ok<|Bf λx352=>LG<|Ai<|Ai<|Ay λr h=>wx x164 (Ac (R8 N)<|An) λ_ hS F=>?_
 dsimp only[x164,Al,AF];unfold Bb at h;obtain⟨gt,h⟩:=un h;refine go hS F ?_;refine cb F (decide ((x352.length:Int)<1)) (λhc2=>?_) (λhc2=>?_)
 ·exact Bool.noConfusion (hc2.symm.trans gt)
 obtain⟨⟨bj,bi⟩,gf,h⟩:=un h;obtain⟨ic,F⟩:=Ma 0 By gf F;obtain⟨gw,gy,h⟩:=un h;refine go hS F ?_;refine AM gw (λz:Int×Int×Nat=>⟨[(4,.box (0,1) 0),(5,.box (303,3) 0)],[(.c (303,3) 0,.i z.1),(.c (303,3) 1,.i z.2.1),(.c (0,1) 0,.i 0),(.c (0,1) 1,.i 0)],z.2.2⟩) (λz=>((z.1,z.2.1):Int×Int)) (.x 0) ?_ ?_
 ·refine AH (λn (y:Int×Int×Int×Nat)=>AP N x352 n y.1 y.2.1 y.2.2.1) (λy=>⟨[(0,A3 x352),(1,.clo (.func 132) [] []),(4,.box (0,1) 0),(5,.box (303,3) 0),(6,.i y.1)],[(.c (303,3) 0,.i y.2.1),(.c (303,3) 1,.i y.2.2.1),(.c (0,1) 0,.i 0),(.c (0,1) 1,.i 0)],y.2.2.2⟩) (1,bj,bi,4) gy (Bn F) ?_;rintro n ⟨aj,aw,av,bp⟩ aa;simp only[AP]at aa;refine Ap hS F aa (λ_ aa=>?_) (λ_ aa=>?_)
  ·obtain⟨⟨be,bb⟩,gc,aa⟩:=un aa;obtain⟨g9,F⟩:=Bt By gc F;obtain⟨dp,fp,aa⟩:=un aa;replace F:=fc fp F;refine Ap hS F aa (λ_ aa=>?_) (λ_ aa=>?_)
   ·obtain⟨g8,aa⟩:=un aa;exact Bk hS F (n,aj+1,be,bb,bp+1+1+1+1) aa
   ·obtain⟨gz,aa⟩:=un aa;exact Bk hS F (n,aj+1,aw,av,bp+1+1+1) aa
  ·exact A9 hS F (aw,av,bp+1) aa
 ·rintro⟨du,dt,ij⟩ rfl;exact Af hS F h
def H7(N:Nat)(au:Int)(aq:Int)(an:Int)(am:Int)(ai:Int)(ah:Int)(af:Int)(ae:Int):Option ((Int×Int)×(Int×Int)):=gd (0<=IntKind.wrap .u64 2)<|gd (IntKind.wrap .u64 2<=1000000)<|(some ((Lib.bitLen (IntKind.wrap .u64 2:Int).toNat:Int))).bind λgu=>(DL N an am au aq).bind λdm=>bif decide (dm<0)then(gd (0<=IntKind.wrap .u64 2)<|gd (IntKind.wrap .u64 2<=1000000)<|(DL N af ae ai ah).bind λdl=>bif decide (dl<0)then((Ba N [(an,am),(af,ae)]).bind λ(dh,dg)=>(Bb N [(au,aq),(ai,ah)]).bind λ(de,db)=>some ((dh,dg),(de,db)))else((Ba N [(an,am),(ai,ah)]).bind λ(cz,cy)=>(Bb N [(au,aq),(af,ae)]).bind λ(cu,cr)=>some ((cz,cy),(cu,cr))))else(gd (0<=IntKind.wrap .u64 2)<|gd (IntKind.wrap .u64 2<=1000000)<|(DL N af ae ai ah).bind λcq=>bif decide (cq<0)then((Ba N [(au,aq),(af,ae)]).bind λ(co,ce)=>(Bb N [(an,am),(ai,ah)]).bind λ(b9,bz)=>some ((co,ce),(b9,bz)))else((Ba N [(au,aq),(ai,ah)]).bind λ(bw,bv)=>(Bb N [(an,am),(af,ae)]).bind λ(bu,br)=>some ((bw,bv),(bu,br))))
@[go_sem] def Ac7(N:Nat):Spec:=p0<|pG<|pI λau=>pI λaq=>pE<|pG<|pI λan=>pI λam=>pE<|pG<|pI λai=>pI λah=>pE<|pG<|pI λaf=>pI λae=>pE<|pE<|pF (H7 N au aq an am ai ah af ae) ((0,0),(0,0)) λr=>.tup [.agg [.i r.1.1,.i r.1.2],.agg [.i r.2.1,.i r.2.2]]
theorem yO(N:Nat):AZ Tryz.prog 131 (Ac7 N):=by
 refine Ax x131.ok<|A2<|Ad λau=>Ad λaq=>Ai<|A2<|Ad λan=>Ad λam=>Ai<|A2<|Ad λai=>Ad λah=>Ai<|A2<|Ad λaf=>Ad λae=>Ai<|Ai<|Ay λr h=>wx x131 (Ac mT<|Ac (R8 N)<|Ac (Xc N)<|Ac (Xd N)<|An) λ_ hS F=>?_
 dsimp only[x131,Al];unfold H7 at h;refine go hS F ?_;refine DO hS 1 x162.hf x162.hc x162.hn x162.ok rfl (ev F) (ev F) ?_ rfl (ev F) (mO rfl) λhb=>?_
 ·exact Hk hS F
 dsimp only[x162,Al];obtain⟨gt,iv,gu,fo,h⟩:=un h;have gj:=yJ fo;replace F:=fc gj F;refine go hS F ?_;refine DO hS 6 x185.hf x185.hc x185.hn x185.ok rfl (ev F) (ev F) ?_ rfl (ev F) (mO rfl) λhb=>?_
 ·exact Hk hS F
 dsimp only[x185,Al];refine go hS F ?_;refine Fg 30 ?_;refine TB hS F ?_;refine go hS F ?_;refine DO hS 4 x191.hf x191.hc x191.hn x191.ok rfl (ev F) (ev F) ?_ rfl (ev F) (mO rfl) λhb=>?_
 ·exact Hk hS F
 dsimp only[x191,Al];refine go hS F ?_;refine Fg 30 ?_;refine TB hS F ?_;refine go hS F ?_;refine Fg 30 ?_;obtain⟨dm,fj,h⟩:=un h;replace F:=fc fj F;refine Ap hS F h (λ_ h=>?_) (λ_ h=>?_)
 ·refine Kg hS F ?_;refine Kg hS F ?_;refine go hS F ?_;refine DO hS 1 x162.hf x162.hc x162.hn x162.ok rfl (ev F) (ev F) ?_ rfl (ev F) (mO rfl) λhb=>?_
  ·exact Hk hS F
  dsimp only[x162,Al];obtain⟨ir,iq,h⟩:=un h;refine go hS F ?_;refine DO hS 6 x185.hf x185.hc x185.hn x185.ok rfl (ev F) (ev F) ?_ rfl (ev F) (mO rfl) λhb=>?_
  ·exact Hk hS F
  dsimp only[x185,Al];refine go hS F ?_;refine Fg 30 ?_;refine TB hS F ?_;refine go hS F ?_;refine DO hS 4 x191.hf x191.hc x191.hn x191.ok rfl (ev F) (ev F) ?_ rfl (ev F) (mO rfl) λhb=>?_
  ·exact Hk hS F
  dsimp only[x191,Al];refine go hS F ?_;refine Fg 30 ?_;refine TB hS F ?_;refine go hS F ?_;refine Fg 30 ?_;obtain⟨dl,fh,h⟩:=un h;replace F:=fc fh F;refine Ap hS F h (λ_ h=>?_) (λ_ h=>?_)
  ·refine Kg hS F ?_;refine Kg hS F ?_;obtain⟨⟨dh,dg⟩,fg,h⟩:=un h;obtain⟨⟨de,db⟩,fb,h⟩:=un h;exact Af hS (fc fb (fc fg F)) h
  ·refine Kg hS F ?_;obtain⟨⟨cz,cy⟩,ez,h⟩:=un h;obtain⟨⟨cu,cr⟩,eh,h⟩:=un h;exact Af hS (fc eh (fc ez F)) h
 ·refine Kg hS F ?_;refine go hS F ?_;refine DO hS 1 x162.hf x162.hc x162.hn x162.ok rfl (ev F) (ev F) ?_ rfl (ev F) (mO rfl) λhb=>?_
  ·exact Hk hS F
  dsimp only[x162,Al];obtain⟨g8,gz,h⟩:=un h;refine go hS F ?_;refine DO hS 6 x185.hf x185.hc x185.hn x185.ok rfl (ev F) (ev F) ?_ rfl (ev F) (mO rfl) λhb=>?_
  ·exact Hk hS F
  dsimp only[x185,Al];refine go hS F ?_;refine Fg 30 ?_;refine TB hS F ?_;refine go hS F ?_;refine DO hS 4 x191.hf x191.hc x191.hn x191.ok rfl (ev F) (ev F) ?_ rfl (ev F) (mO rfl) λhb=>?_
  ·exact Hk hS F
  dsimp only[x191,Al];refine go hS F ?_;refine Fg 30 ?_;refine TB hS F ?_;refine go hS F ?_;refine Fg 30 ?_;obtain⟨cq,d9,h⟩:=un h;replace F:=fc d9 F;refine Ap hS F h (λ_ h=>?_) (λ_ h=>?_)
  ·refine Kg hS F ?_;refine Kg hS F ?_;obtain⟨⟨co,ce⟩,d8,h⟩:=un h;obtain⟨⟨b9,bz⟩,d7,h⟩:=un h;exact Af hS (fc d7 (fc d8 F)) h
  ·refine Kg hS F ?_;obtain⟨⟨bw,bv⟩,d6,h⟩:=un h;obtain⟨⟨bu,br⟩,d5,h⟩:=un h;exact Af hS (fc d5 (fc d6 F)) h
end
attribute [local irreducible] As Cn B6 BK CA BJ Bv Cl Cv Dx
set_option maxRecDepth 100000
set_option maxHeartbeats 8000000
attribute [local go_sem] PG
def Ew(N:Nat)(ai:Int)(ah:Int)(af:Int)(ae:Int):List ((Int×Int)×(Int×Int))->Option (Sum Unit ((((Int×Int)×(Int×Int))×Bool)))|[]=>some (.inl ())|((bh,bg),(aw,av))::ys=>(Ee N ai ah af ae bh bg).bind λbi=>gd ((!(decide (bi≠0)))=true->((Ee N ai ah af ae aw av).isSome=true))<|bif (decide (bi≠0))||(decide ((Ee N ai ah af ae aw av).getD 0≠0))then(Ew N ai ah af ae ys)else((H7 N ai ah af ae bh bg aw av).bind λ((aq,an),(am,ak))=>gd ((!(decide (aq=am)&&decide (an=ak)))=true->((DL N aq an am ak).isSome=true))<|bif (decide (aq=am)&&decide (an=ak))||(decide (0<(DL N aq an am ak).getD 0))then(Ew N ai ah af ae ys)else((DL N ai ah af ae).bind λbj=>bif decide (0<bj)then(some (.inr (((am,ak),(aq,an)),true)))else(some (.inr (((aq,an),(am,ak)),true)))))
def E6(N:Nat)(b422:List (Int×Int)):List ((Int×Int)×(Int×Int))->Option (Sum Unit ((((Int×Int)×(Int×Int))×Bool)))|[]=>some (.inl ())|((ai,ah),(af,ae))::ys=>gd (b422.length<=1000000000)<|(Ew N ai ah af ae (Bu b422)).bind λbb=>match bb with|.inl ()=>(E6 N b422 ys)|.inr bw=>(some (.inr bw))
def Gg(N:Nat)(a421:List (Int×Int))(b422:List (Int×Int)):Option (((Int×Int)×(Int×Int))×Bool):=(BO N a421).bind λay=>gd ((!(!ay))=true->((BO N b422).isSome=true))<|gd ((!((!ay)||(!((BO N b422).getD false))))=true->((Dq N a421 b422).isSome=true))<|bif ((!ay)||(!((BO N b422).getD false)))||((Dq N a421 b422).getD false)then(some (((0,0),(0,0)),false))else(gd (a421.length<=1000000000)<|(E6 N b422 (Bu a421)).bind λaz=>match az with|.inl ()=>(some (((0,0),(0,0)),false))|.inr bv=>(some bv))
@[go_sem] def oC(N:Nat):Spec:=p0<|pS AF λa421=>pS AF λb422=>pE<|pF (Gg N a421 b422) (((0,0),(0,0)),false) λr=>.tup [.agg [.i r.1.1.1,.i r.1.1.2,.i r.1.2.1,.i r.1.2.2],.b r.2]
theorem Abl(N:Nat):AZ Tryz.prog 91 (oC N):=by
 refine Ax x91.ok<|Bf λa421=>Bf λb422=>Ai<|Ay λr h=>wx x91 (Ac (Oi N)<|Ac (oB N)<|Ac M3<|Ac (Pm N)<|Ac (yO N)<|Ac (R8 N)<|An) λ_ hS F=>?_
 dsimp only[x91,Al,AF];unfold Gg at h;obtain⟨ay,br,dg,de,h⟩:=un h;replace F:=fc br F;refine Ap hS F h (λ_ h=>?_) (λ_ h=>?_)
 ·exact Af hS F h
 ·obtain⟨db,h⟩:=un h;obtain⟨az,cu,h⟩:=un h;refine go hS F ?_;refine AM az (λz:Nat=>⟨[(4,.box (1,1) 0),(5,.box (2,1) 0)],[(.c (2,1) 0,.b false),(.c (1,1) 0,.i 0),(.c (1,1) 1,.i 0),(.c (1,1) 2,.i 0),(.c (1,1) 3,.i 0)],z⟩) (λz=>(.inl ():Sum Unit ((((Int×Int)×(Int×Int))×Bool)))) .n ?_ ?_
  ·refine aC (λy:Nat×Nat=>([(.c (2,1) 0,.b false),(.c (1,1) 0,.i 0),(.c (1,1) 1,.i 0),(.c (1,1) 2,.i 0),(.c (1,1) 3,.i 0),(.c (0,1) 0,A3 b422)],y.2)) (λy=>E6 N b422 ((Bu a421).drop y.1)=some az/\y.1<=(Bu a421).length) (λy=>y.1) (0,3) (ev F) (My a421 false (by assumption)) x150.ok ⟨rfl,rfl⟩ (by simp[x91,Al]) (by intro a ha;obtain⟨y,_,rfl⟩:=tI.1 ha;exact⟨rfl,rfl⟩) ⟨cu,t7 _⟩ rfl ?_ ?_ ?_
   ·exact Bn F
   ·rintro l ⟨n,aj⟩ ⟨au,hle⟩ args ce;obtain⟨⟨⟨ai,ah⟩,⟨af,ae⟩⟩,b9,rfl,hlt⟩:=J6 ce;simp only[b9,E6]at au;clear ce b9;simp only[Ua,GU];obtain⟨cz,au⟩:=un au;obtain⟨bb,cr,au⟩:=un au;refine go hS F ?_;refine AM bb (λz:Nat=>⟨[(3,.box (0,1) 0),(4,.box (1,1) 0),(5,.box (2,1) 0),(6,.box (400,aj+1) 0),(7,.box (500,aj+1+1) 0),(27,.clo (.func 150) [] [.ro [A3 a421] 0]),(28,.agg [.i ai,.i ah]),(29,.agg [.i af,.i ae])],[(.c (500,aj+1+1) 0,.i af),(.c (500,aj+1+1) 1,.i ae),(.c (400,aj+1) 0,.i ai),(.c (400,aj+1) 1,.i ah),(.c (2,1) 0,.b false),(.c (1,1) 0,.i 0),(.c (1,1) 1,.i 0),(.c (1,1) 2,.i 0),(.c (1,1) 3,.i 0),(.c (0,1) 0,A3 b422)],z⟩) (λz=>(.inl ():Sum Unit ((((Int×Int)×(Int×Int))×Bool)))) .n ?_ ?_
    ·refine aD (λy:Nat×Nat=>([(.c (500,aj+1+1) 0,.i af),(.c (500,aj+1+1) 1,.i ae),(.c (400,aj+1) 0,.i ai),(.c (400,aj+1) 1,.i ah),(.c (2,1) 0,.b false),(.c (1,1) 0,.i 0),(.c (1,1) 1,.i 0),(.c (1,1) 2,.i 0),(.c (1,1) 3,.i 0),(.c (0,1) 0,A3 b422)],y.2)) (λy=>Ew N ai ah af ae ((Bu b422).drop y.1)=some bb/\y.1<=(Bu b422).length) (λy=>y.1) (0,aj+1+1+1) (ev F) (My b422 false (by assumption)) x150.ok ⟨rfl,rfl⟩ (by simp[x91,Al]) (by intro a ha;obtain⟨y,_,rfl⟩:=tI.1 ha;exact⟨rfl,rfl⟩) (mU b422 false _) ⟨cr,t7 _⟩ rfl ?_ ?_ ?_
     ·exact Bn F
     ·rintro l ⟨n,be⟩ ⟨aa,hle⟩ args bu;obtain⟨⟨⟨bh,bg⟩,⟨aw,av⟩⟩,bm,rfl,hlt⟩:=J6 bu;simp only[bm,Ew]at aa;clear bu bm;simp only[Ua,GU];obtain⟨bi,bq,cq,aa⟩:=un aa;replace F:=fc bq F;refine Ap hS F aa (λ_ aa=>?_) (λ_ aa=>?_)
      ·exact RO hS F (n+1,be+1+1+1) aa
      ·obtain⟨⟨⟨aq,an⟩,⟨am,ak⟩⟩,bp,aa⟩:=un aa;obtain⟨co,aa⟩:=un aa;replace F:=fc bp F;refine Ap hS F aa (λ_ aa=>?_) (λ_ aa=>?_)
       ·exact RO hS F (n+1,be+1+1+1+1+1) aa
       ·obtain⟨bj,bo,aa⟩:=un aa;replace F:=fc bo F;refine Ap hS F aa (λ_ aa=>?_) (λ_ aa=>?_)
        ·obtain rfl:=yJ aa;obtain rfl:=yJ au;exact Af hS F h
        ·obtain rfl:=yJ aa;obtain rfl:=yJ au;exact Af hS F h
     ·rintro⟨n,be⟩ ⟨aa,hle⟩ hk;rw[show n=_ from hk,JU]at aa;simp only[Ew]at aa;exact A9 hS F be aa
    ·rintro bz rfl;exact RO hS F (n+1,bz) au
   ·rintro⟨n,aj⟩ ⟨au,hle⟩ hk;rw[show n=_ from hk,JU]at au;simp only[E6]at au;exact A9 hS F aj au
  ·rintro cy rfl;exact Af hS F h
