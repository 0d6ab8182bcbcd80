import Derived.Test.YtjdchfljifacoaaGreatE5
set_option linter.all false
set_option maxRecDepth 100000
set_option maxHeartbeats 8000000
namespace Go.Proofs.YtjdchfljifacoaaGreat.Am
section
open Go
attribute [local irreducible] Ax BO BB Bj BC Bk AY BD BK Cq
def GV(x:Int):List AV:=[.i x]
def nR:List AV->Int|[.v (.int _ a1)]=>a1|_=>0
theorem AdY(x:Int):nR (GV x)=x:=by rfl
theorem AdZ(R:List Int):(R.map GV).map nR=R:=by
 induction R with
 |nil=>rfl
 |cons r R ih=>rw[eG,eG,ih,AdY]
theorem yR(R:List Int)(i:Nat):A6 (R.map GV) [.i 0] i=GV (R.getD i 0):=by unfold A6;rw[dM,dM,rA];cases R[i]? <;>rfl
def Ni(x:Int):List AV:=[.v (.int .u8 x)]
def Zy:List AV->Int|[.v (.int _ a1)]=>a1|_=>0
def SD:Rw Int:=⟨1,GV,nR,[.i 0]⟩
def FW(l:List Int):AV:=.sl 1 false (l.map GV) [.i 0]
def SE(l:List Int):AV:=.sl 1 true (l.map GV) [.i 0]
attribute [go_sem] SD FW SE GV nR AdZ yR
def Ad0:Rw Int:=⟨1,Ni,Zy,[.v (.int .u8 0)]⟩
def Ad1(l:List Int):AV:=.sl 1 false (l.map Ni) [.v (.int .u8 0)]
def jI(l:List Int):AV:=.sl 1 true (l.map Ni) [.v (.int .u8 0)]
attribute [go_sem] Ad0 Ad1 jI Ni Zy
theorem Ad2(l:List Int):(l.map Ni).map OL=l.map λx=>UInt8.ofNat x.toNat:=by rw[List.map_map];rfl
theorem Ad3(l:List Int):(l.map Ni).all PF=true:=by induction l with|nil=>rfl|cons x l ih=>simp[Ni,PF]
attribute [local go_sem] List.all_append PF OL Ad2 Ad3
def IC(N:Nat)(ah:Int):Option Int:=bif decide (ah<0)then(gd (Af (-ah))<|gd (IntKind.wrap .u64 ((IntKind.wrap .u64 (-ah))*2)=((IntKind.wrap .u64 (-ah))*2))<|gd (IntKind.wrap .u64 (((IntKind.wrap .u64 (-ah))*2)-1)=(((IntKind.wrap .u64 (-ah))*2)-1))<|some (((IntKind.wrap .u64 (-ah))*2)-1))else(gd (IntKind.wrap .u64 ((IntKind.wrap .u64 ah)*2)=((IntKind.wrap .u64 ah)*2))<|some ((IntKind.wrap .u64 ah)*2))
@[go_sem] def Ad4(N:Nat):Spec:=p0<|(Aoi<|Aof<|Aog 0 λr=>.v (.int .u64 r)) (IC N)
theorem yS(N:Nat):AG Tryz.prog 177 (Ad4 N):=by
 refine fk (Aoq Ak2 (Aj)) ?_;intro ah r h _ hS F;dsimp only[Ak2,Ah];unfold IC at h;refine An hS F h (λ_ h=>?_) (λ_ h=>?_)
 ·obtain⟨i5,iz,fr,h⟩:=un h;exact Ai hS F h
 ·obtain⟨fq,h⟩:=un h;exact Ai hS F h
def F9(N:Nat):Nat->Int->(List Int)->Option (Int×(List Int))|0,_,_=>none|n+1,z1044,l1045=>bif decide (128<=z1044)then(gd (IntKind.wrap .u64 ((z1044.tmod 128)+128)=((z1044.tmod 128)+128))<|gd ((l1045.length+1)*1<=140737488355328)<|gd (IntKind.wrap .u64 (z1044.tdiv 128)=(z1044.tdiv 128))<|F9 N n (z1044.tdiv 128) (l1045++[IntKind.wrap .u8 ((z1044.tmod 128)+128)]))else(some (z1044,l1045))
def EQ(N:Nat)(bp:Int):Option ((List UInt8)×Int):=bif (decide (bp<(-4611686018427387903)))||(decide (4611686018427387903<bp))then(some ([],10))else((IC N bp).bind λb9=>(F9 N N b9 []).bind λ(co,l1051)=>gd ((l1051.length+1)*1<=140737488355328)<|some ((l1051++[IntKind.wrap .u8 co]).map λx=>UInt8.ofNat x.toNat,0))
@[go_sem] def Ad5(N:Nat):Spec:=p0<|(Aoi<|Aof<|Aog ([],0) λr=>.tup [.v (.string (sB r.1)),.i r.2]) (EQ N)
theorem SF(N:Nat):AG Tryz.prog 113 (Ad5 N):=by
 refine fk (Aoq Ajr (Ab (yS N)<|Aj)) ?_;intro bp r h _ hS F;dsimp only[Ajr,Ah,BW];unfold EQ at h;refine An hS F h (λ_ h=>?_) (λ_ h=>?_)
 ·exact Ai hS F h
 ·obtain⟨b9,du,h⟩:=un h;replace F:=fc du F;refine go hS F ?_;refine DT 1000001 5 1 [.v (.int .u8 0)] (by show(5:Nat)<31;omega) (by omega) (ev F) ?_;obtain⟨fo,ep,h⟩:=un h;refine go hS F ?_;refine Bz fo (λz:Int×(List Int)×Nat=>⟨[(4,.v (.int .u64 z.1)),(5,.own (1000001,5) z.2.1.length)],[(.a (1000001,5),jI z.2.1)],z.2.2⟩) (λz=>((z.1,z.2.1):Int×(List Int))) (.x 0) ?_ ?_
  ·refine Bp (λn (y:Int×(List Int)×Nat)=>F9 N n y.1 y.2.1) (λy=>⟨[(4,.v (.int .u64 y.1)),(5,.own (1000001,5) y.2.1.length)],[(.a (1000001,5),jI y.2.1)],y.2.2⟩) (b9,[],5) ep (Ch F) ?_;rintro n ⟨z1044,l1045,dh⟩ ab;simp only[F9]at ab;refine An hS F ab (λ_ ab=>?_) (λ_ ab=>?_)
   ·obtain⟨fr,fq,gz,ab⟩:=un ab;exact Cd hS F (n,z1044.tdiv 128,l1045++[IntKind.wrap .u8 ((z1044.tmod 128)+128)],dh+1+1+1) ab
   ·exact B4 hS F (z1044,l1045,dh+1) ab
  ·rintro⟨co,l1051,ig⟩ rfl;obtain⟨gy,h⟩:=un h;exact Ai hS F h
def G2(N:Nat)(at1054:Int)(s1053:List UInt8):Nat->Int->Int->Option (Sum Unit ((Int×Int×Int)))|0,_,_=>none|n+1,af,aa=>gd ((decide (aa<9))=true->(Af (at1054+aa)))<|bif (decide (aa<9))&&(decide (at1054+aa<(s1053.length:Int)))then(gd (Af (at1054+aa))<|gd (0<=at1054+aa/\at1054+aa<(s1053.length:Int))<|gd (Af (7*aa))<|gd (0<=7*aa)<|gd (IntKind.wrap .u64 (af+(CW .shl .u64 ((IntKind.wrap .u64 ((s1053.getD (at1054+aa).toNat 0).toNat:Int)).tmod 128) (7*aa)))=(af+(CW .shl .u64 ((IntKind.wrap .u64 ((s1053.getD (at1054+aa).toNat 0).toNat:Int)).tmod 128) (7*aa))))<|bif decide (128<=IntKind.wrap .u64 ((s1053.getD (at1054+aa).toNat 0).toNat:Int))then(gd (Af (aa+1))<|G2 N at1054 s1053 n (af+(CW .shl .u64 ((IntKind.wrap .u64 ((s1053.getD (at1054+aa).toNat 0).toNat:Int)).tmod 128) (7*aa))) (aa+1))else(gd (IntKind.wrap .u64 ((af+(CW .shl .u64 ((IntKind.wrap .u64 ((s1053.getD (at1054+aa).toNat 0).toNat:Int)).tmod 128) (7*aa))).tdiv 2)=((af+(CW .shl .u64 ((IntKind.wrap .u64 ((s1053.getD (at1054+aa).toNat 0).toNat:Int)).tmod 128) (7*aa))).tdiv 2))<|(bif decide ((af+(CW .shl .u64 ((IntKind.wrap .u64 ((s1053.getD (at1054+aa).toNat 0).toNat:Int)).tmod 128) (7*aa))).tmod 2=1)then(gd (Af (-(IntKind.wrap .i64 ((af+(CW .shl .u64 ((IntKind.wrap .u64 ((s1053.getD (at1054+aa).toNat 0).toNat:Int)).tmod 128) (7*aa))).tdiv 2))))<|gd (Af ((-(IntKind.wrap .i64 ((af+(CW .shl .u64 ((IntKind.wrap .u64 ((s1053.getD (at1054+aa).toNat 0).toNat:Int)).tmod 128) (7*aa))).tdiv 2)))-1))<|some ((-(IntKind.wrap .i64 ((af+(CW .shl .u64 ((IntKind.wrap .u64 ((s1053.getD (at1054+aa).toNat 0).toNat:Int)).tmod 128) (7*aa))).tdiv 2)))-1))else(some (IntKind.wrap .i64 ((af+(CW .shl .u64 ((IntKind.wrap .u64 ((s1053.getD (at1054+aa).toNat 0).toNat:Int)).tmod 128) (7*aa))).tdiv 2))):Option (Int)).bind λcj=>(EQ N cj).bind λ(cz,bl)=>gd ((!(decide (bl≠0)))=true->(Af (at1054+aa)))<|gd ((!(decide (bl≠0)))=true->(Af ((at1054+aa)+1)))<|gd ((!(decide (bl≠0)))=true->(0<=at1054/\at1054<=(at1054+aa)+1/\(at1054+aa)+1<=(s1053.length:Int)))<|bif (decide (bl≠0))||(!decide (cz=(s1053.drop at1054.toNat).take (((at1054+aa)+1).toNat-at1054.toNat)))then(some (.inr (0,0,10)))else(gd (Af (at1054+aa))<|gd (Af ((at1054+aa)+1))<|some (.inr (cj,(at1054+aa)+1,0)))))else(some (.inl ()))
def F4(N:Nat)(s1053:List UInt8)(at1054:Int):Option (Int×Int×Int):=bif (decide (at1054<0))||(decide ((s1053.length:Int)<at1054))then(some (0,0,2))else((G2 N at1054 s1053 N 0 0).bind λci=>match ci with|.inl ()=>(some (0,0,10))|.inr e9=>(some e9))
@[go_sem] def s81(N:Nat):Spec:=p0<|(Aoo<|Aoi<|Aof<|Aog (0,0,0) λr=>.tup [.i r.1,.i r.2.1,.i r.2.2]) (F4 N)
theorem UX(N:Nat):AG Tryz.prog 81 (s81 N):=by
 refine fk (Aoq x81 (Ab (SF N)<|Aj)) ?_;intro s1053 at1054 r h _ hS F;dsimp only[x81,Ah];unfold F4 at h;refine An hS F h (λ_ h=>?_) (λ_ h=>?_)
 ·exact Ai hS F h
 ·obtain⟨ci,ep,h⟩:=un h;refine go hS F ?_;refine Bz ci (λz:Nat=>⟨[],[],z⟩) (λz=>(.inl ():Sum Unit ((Int×Int×Int)))) (.x 0) ?_ ?_
  ·refine Bp (λn (y:Int×Int×Nat)=>G2 N at1054 s1053 n y.1 y.2.1) (λy=>⟨[(0,.v (.string (sB s1053))),(1,.i at1054),(7,.v (.int .u64 y.1)),(8,.i y.2.1)],[],y.2.2⟩) (0,0,4) ep (Ch F) ?_;rintro n ⟨af,aa,br⟩ ab;simp only[G2]at ab;obtain⟨fr,ab⟩:=un ab;refine An hS F ab (λ_ ab=>?_) (λ_ ab=>?_)
   ·obtain⟨fq,gz,gy,gx,gw,ab⟩:=un ab;refine An hS F ab (λ_ ab=>?_) (λ_ ab=>?_)
    ·obtain⟨iy,ab⟩:=un ab;exact Cd hS F (n,af+(CW .shl .u64 ((IntKind.wrap .u64 ((s1053.getD (at1054+aa).toNat 0).toNat:Int)).tmod 128) (7*aa)),aa+1,br+1+1+1+1+1) ab
    ·obtain⟨ir,ab⟩:=un ab;obtain⟨fm,bn,ab⟩:=un ab;refine go hS F ?_;refine Bz fm (λz:Int×Nat=>⟨[(0,.v (.string (sB s1053))),(1,.i at1054),(8,.i aa),(10,.i z.1)],[],z.2⟩) (λz=>(z.1:Int)) .n ?_ ?_
     ·refine An hS F bn (λ_ bn=>?_) (λ_ bn=>?_)
      ·obtain⟨ge,gc,bn⟩:=un bn;exact B4 hS F ((-(IntKind.wrap .i64 ((af+(CW .shl .u64 ((IntKind.wrap .u64 ((s1053.getD (at1054+aa).toNat 0).toNat:Int)).tmod 128) (7*aa))).tdiv 2)))-1,br+1+1+1+1+1+1+1) bn
      ·exact B4 hS F (IntKind.wrap .i64 ((af+(CW .shl .u64 ((IntKind.wrap .u64 ((s1053.getD (at1054+aa).toNat 0).toNat:Int)).tmod 128) (7*aa))).tdiv 2),br+1+1+1+1+1+1) bn
     ·rintro⟨cj,ic⟩ rfl;obtain⟨⟨cz,bl⟩,dt,ab⟩:=un ab;obtain⟨fx,ip,im,ab⟩:=un ab;replace F:=fc dt F;refine An hS F ab (λ_ ab=>?_) (λ_ ab=>?_)
      ·obtain rfl:=yJ ab;exact Ai hS F h
      ·obtain⟨ij,ii,ab⟩:=un ab;obtain rfl:=yJ ab;exact Ai hS F h
   ·exact B4 hS F (br+1) ab
  ·rintro ib rfl;exact Ai hS F h
def Ga(N:Nat)(u1086:List (Int×Int)):Nat->Int->(List Int)->Option ((List Int))|0,_,_=>none|n+1,ba,l1097=>bif decide (ba<(u1086.length:Int))then((A7 u1086 ba).bind λ(bz,bw)=>gd ((l1097.length+2)*8<=140737488355328)<|gd (Af (ba+1))<|Ga N u1086 n (ba+1) (l1097++[bz,bw]))else(some l1097)
def Gb(N:Nat)(l1105:List Int):Nat->(List UInt8)->Int->Option ((List UInt8))|0,_,_=>none|n+1,ay,az=>bif decide (az<(l1105.length:Int))then((A7 l1105 az).bind λcq=>(EQ N cq).bind λ(bo,e8)=>gd ((ay++bo).length<=140737488355328)<|gd (Af (az+1))<|Gb N l1105 n (ay++bo) (az+1))else(some ay)
def ID(N:Nat)(bi:Int)(bh:Int)(bg:Int)(u1086:List (Int×Int))(bf:Int)(be:Int):Option ((List UInt8)×Int):=(BU N bi bh bg u1086 bf be).bind λcy=>bif !cy then(some ([],80))else((Ga N u1086 N 0 [bi,bh,bg,bf,be,(u1086.length:Int)]).bind λl1105=>(Gb N l1105 N [] 0).bind λcr=>some (cr,0))
@[go_sem] def s69(N:Nat):Spec:=p0<|(Aoh<|Aoi<|Aoi<|Aoi<|Aon Aq<|Aoi<|Aoi<|Aof<|Aof<|Aog ([],0) λr=>.tup [.v (.string (sB r.1)),.i r.2]) (ID N)
theorem Ab5(N:Nat):AG Tryz.prog 69 (s69 N):=by
 refine fk (Aoq x69 (Ab (QQ N)<|Ab (SF N)<|Aj)) ?_;intro bi bh bg u1086 bf be r h _ hS F;dsimp only[x69,Ah,Aq,BW];unfold ID at h;obtain⟨cy,dq,h⟩:=un h;replace F:=fc dq F;refine An hS F h (λ_ h=>?_) (λ_ h=>?_)
 ·exact Ai hS F h
 ·obtain⟨fj,ep,h⟩:=un h;refine go hS F ?_;refine Bz fj (λz:(List Int)×Nat=>⟨[(4,.own (313,3) z.1.length)],[(.a (313,3),SE z.1)],z.2⟩) (λz=>(z.1:(List Int))) (.x 0) ?_ ?_
  ·refine Bp (λn (y:Int×(List Int)×Nat)=>Ga N u1086 n y.1 y.2.1) (λy=>⟨[(1,.box (0,1) 0),(4,.own (313,3) y.2.1.length),(5,.i y.1)],[(.a (313,3),SE y.2.1),(.c (0,1) 0,.i bi),(.c (0,1) 1,.i bh),(.c (0,1) 2,.i bg),(.c (0,1) 3,BP u1086),(.c (0,1) 4,.i bf),(.c (0,1) 5,.i be)],y.2.2⟩) (0,[bi,bh,bg,bf,be,(u1086.length:Int)],4) ep (Ch F) ?_;rintro n ⟨ba,l1097,dg⟩ ab;simp only[Ga]at ab;refine An hS F ab (λ_ ab=>?_) (λ_ ab=>?_)
   ·obtain⟨⟨bz,bw⟩,ej,ab⟩:=un ab;obtain⟨gv,F⟩:=Cb Cz ej F;obtain⟨fr,fq,ab⟩:=un ab;exact Cd hS F (n,ba+1,l1097++[bz,bw],dg+1+1+1) ab
   ·exact B4 hS F (l1097,dg+1) ab
  ·rintro⟨l1105,fp⟩ rfl;obtain⟨fh,iw,h⟩:=un h;refine go hS F ?_;refine Bz fh (λz:(List UInt8)×Nat=>⟨[(6,.v (.string (sB z.1)))],[],z.2⟩) (λz=>(z.1:(List UInt8))) (.x 2) ?_ ?_
   ·refine Bp (λn (y:(List UInt8)×Int×Nat)=>Gb N l1105 n y.1 y.2.1) (λy=>⟨[(4,.own (313,3) l1105.length),(6,.v (.string (sB y.1))),(7,.i y.2.1)],[(.a (313,3),SE l1105)],y.2.2⟩) ([],0,fp+1+1) iw (Ch F) ?_;rintro n ⟨ay,az,de⟩ cn;simp only[Gb]at cn;refine An hS F cn (λ_ cn=>?_) (λ_ cn=>?_)
    ·obtain⟨cq,ei,⟨bo,e8⟩,dm,cn⟩:=un cn;obtain⟨gu,F⟩:=Cb GV ei F;obtain⟨gx,gw,cn⟩:=un cn;exact Cd hS (fc dm F) (n,ay++bo,az+1,de+1+1+1+1) cn
    ·exact B4 hS F (ay,de+1) cn
   ·rintro⟨cr,g9⟩ rfl;exact Ai hS F h
def Gc(N:Nat)(s1127:List UInt8):Nat->Int->Int->(List Int)->Option (Sum (Int×(List Int)) (((Int×Int×Int×(List (Int×Int))×Int×Int)×Int)))|0,_,_,_=>none|n+1,bb,ai,l1142=>gd ((!(decide (ai<6)))=true->(0<=5/\5<(l1142.length:Int)))<|gd ((!(decide (ai<6)))=true->(0<=5/\5<(l1142.length:Int)))<|gd ((!(decide (ai<6)))=true->(Af (2*(l1142.getD 5 0))))<|gd ((!(decide (ai<6)))=true->(Af (6+(2*(l1142.getD 5 0)))))<|bif (decide (ai<6))||(decide (ai<6+(2*(l1142.getD 5 0))))then((F4 N s1127 bb).bind λ(bj,b7,cu)=>bif (decide (cu≠0))||((decide (ai=5))&&((decide (bj<3))||(decide (8<bj))))then(some (.inr ((0,0,0,[],0,0),80)))else(gd ((l1142.length+1)*8<=140737488355328)<|gd (Af (ai+1))<|Gc N s1127 n b7 (ai+1) (l1142++[bj])))else(some (.inl (bb,l1142)))
def Gd(N:Nat)(l1153:List Int):Nat->Int->(List (Int×Int))->Option ((List (Int×Int)))|0,_,_=>none|n+1,aj,l1180=>bif decide (aj<(l1153.length:Int))then((A7 l1153 aj).bind λbv=>gd (Af (aj+1))<|(A7 l1153 (aj+1)).bind λbu=>gd ((l1180.length+1)*16<=140737488355328)<|gd (Af (aj+2))<|Gd N l1153 n (aj+2) (l1180++[(bv,bu)]))else(some l1180)
def IE(N:Nat)(s1127:List UInt8):Option ((Int×Int×Int×(List (Int×Int))×Int×Int)×Int):=(Gc N s1127 N 0 0 []).bind λce=>match ce with|.inl (ak,l1153)=>((A7 l1153 0).bind λav=>(A7 l1153 1).bind λau=>(A7 l1153 2).bind λaq=>(A7 l1153 3).bind λan=>(A7 l1153 4).bind λam=>(Gd N l1153 N 6 []).bind λbq=>gd ((!(decide (ak≠(s1127.length:Int))))=true->((BU N av au aq bq an am).isSome=true))<|bif (decide (ak≠(s1127.length:Int)))||(!((BU N av au aq bq an am).getD false))then(some ((0,0,0,[],0,0),80))else(some ((av,au,aq,bq,an,am),0)))|.inr ez=>(some ez)
@[go_sem] def s83(N:Nat):Spec:=p0<|(Aoo<|Aof<|Aog ((0,0,0,[],0,0),0) λr=>.tup [.agg [.i r.1.1,.i r.1.2.1,.i r.1.2.2.1,BP r.1.2.2.2.1,.i r.1.2.2.2.2.1,.i r.1.2.2.2.2.2],.i r.2]) (IE N)
theorem Ab6(N:Nat):AG Tryz.prog 83 (s83 N):=by
 refine fk (Aoq x83 (Ab (UX N)<|Ab (QQ N)<|Aj)) ?_;intro s1127 r h _ hS F;dsimp only[x83,Ah];unfold IE at h;refine go hS F ?_;refine DT 1000001 4 1 [.i 0] (by show(4:Nat)<100;omega) (by omega) (ev F) ?_;obtain⟨ce,ep,h⟩:=un h;refine go hS F ?_;refine Bz ce (λz:Int×(List Int)×Nat=>⟨[(0,.v (.string (sB s1127))),(2,.box (0,1) 0),(4,.own (1000001,5) z.2.1.length),(5,.i z.1)],[(.a (1000001,5),SE z.2.1),(.c (0,1) 0,.i 0),(.c (0,1) 1,.i 0),(.c (0,1) 2,.i 0),(.c (0,1) 3,.sl 0 true [] []),(.c (0,1) 4,.i 0),(.c (0,1) 5,.i 0)],z.2.2⟩) (λz=>(.inl (z.1,z.2.1):Sum (Int×(List Int)) (((Int×Int×Int×(List (Int×Int))×Int×Int)×Int)))) (.x 0) ?_ ?_
 ·refine Bp (λn (y:Int×Int×(List Int)×Nat)=>Gc N s1127 n y.1 y.2.1 y.2.2.1) (λy=>⟨[(0,.v (.string (sB s1127))),(2,.box (0,1) 0),(4,.own (1000001,5) y.2.2.1.length),(5,.i y.1),(6,.i y.2.1)],[(.a (1000001,5),SE y.2.2.1),(.c (0,1) 0,.i 0),(.c (0,1) 1,.i 0),(.c (0,1) 2,.i 0),(.c (0,1) 3,.sl 0 true [] []),(.c (0,1) 4,.i 0),(.c (0,1) 5,.i 0)],y.2.2.2⟩) (0,0,[],5) ep (Ch F) ?_;rintro n ⟨bb,ai,l1142,db⟩ ab;simp only[Gc]at ab;obtain⟨fr,fq,gz,gy,ab⟩:=un ab;refine An hS F ab (λ_ ab=>?_) (λ_ ab=>?_)
  ·obtain⟨⟨bj,b7,cu⟩,dl,ab⟩:=un ab;replace F:=fc dl F;refine An hS F ab (λ_ ab=>?_) (λ_ ab=>?_)
   ·obtain rfl:=yJ ab;exact Ai hS F h
   ·obtain⟨gx,gw,ab⟩:=un ab;exact Cd hS F (n,b7,ai+1,l1142++[bj],db+1+1+1+1+1+1) ab
  ·exact B4 hS F (bb,l1142,db+1) ab
 ·rintro⟨ak,l1153,ae⟩ rfl;obtain⟨av,eh,au,ee,aq,d9,an,d8,am,d7,h⟩:=un h;obtain⟨gt,F⟩:=KQ 0 GV eh F;obtain⟨gr,F⟩:=KQ 1 GV ee F;obtain⟨gm,F⟩:=KQ 2 GV d9 F;obtain⟨gj,F⟩:=KQ 3 GV d8 F;obtain⟨gi,F⟩:=KQ 4 GV d7 F;refine go hS F ?_;refine Fc 1000002 (1116,ae+1) 3 2 [.i 0,.i 0] (by omega) (ev F) ?_;obtain⟨fg,iv,h⟩:=un h;refine go hS F ?_;refine Bz fg (λz:(List (Int×Int))×Nat=>⟨[(0,.v (.string (sB s1127))),(2,.box (0,1) 0),(5,.i ak),(10,.box (1116,ae+1) 0)],[(.c (1116,ae+1) 0,.i av),(.c (1116,ae+1) 1,.i au),(.c (1116,ae+1) 2,.i aq),(.c (1116,ae+1) 3,.own (1000002,ae+1+1+1) z.1.length),(.c (1116,ae+1) 4,.i an),(.c (1116,ae+1) 5,.i am),(.a (1000002,ae+1+1+1),LK z.1),(.c (0,1) 0,.i 0),(.c (0,1) 1,.i 0),(.c (0,1) 2,.i 0),(.c (0,1) 3,.sl 0 true [] []),(.c (0,1) 4,.i 0),(.c (0,1) 5,.i 0)],z.2⟩) (λz=>(z.1:(List (Int×Int)))) (.x 2) ?_ ?_
  ·refine Bp (λn (y:Int×(List (Int×Int))×Nat)=>Gd N l1153 n y.1 y.2.1) (λy=>⟨[(0,.v (.string (sB s1127))),(2,.box (0,1) 0),(4,.own (1000001,5) l1153.length),(5,.i ak),(10,.box (1116,ae+1) 0),(11,.i y.1)],[(.c (1116,ae+1) 0,.i av),(.c (1116,ae+1) 1,.i au),(.c (1116,ae+1) 2,.i aq),(.c (1116,ae+1) 3,.own (1000002,ae+1+1+1) y.2.1.length),(.c (1116,ae+1) 4,.i an),(.c (1116,ae+1) 5,.i am),(.a (1000002,ae+1+1+1),LK y.2.1),(.a (1000001,5),SE l1153),(.c (0,1) 0,.i 0),(.c (0,1) 1,.i 0),(.c (0,1) 2,.i 0),(.c (0,1) 3,.sl 0 true [] []),(.c (0,1) 4,.i 0),(.c (0,1) 5,.i 0)],y.2.2⟩) (6,[],ae+1+1+1) iv (Ch F) ?_;rintro n ⟨aj,l1180,da⟩ bm;simp only[Gd]at bm;refine An hS F bm (λ_ bm=>?_) (λ_ bm=>?_)
   ·obtain⟨bv,dz,iq,bu,dw,ge,gc,bm⟩:=un bm;obtain⟨gh,F⟩:=Cb GV dz F;obtain⟨gg,F⟩:=Cb GV dw F;exact Cd hS F (n,aj+2,l1180++[(bv,bu)],da+1+1+1) bm
   ·exact B4 hS F (l1180,da+1) bm
  ·rintro⟨bq,g8⟩ rfl;obtain⟨fx,h⟩:=un h;refine An hS F h (λ_ h=>?_) (λ_ h=>?_)
   ·exact Ai hS F h
   ·exact Ai hS F h
end
section
section
variable{N:Nat}(hN:1001<=N)
include hN
theorem OI(a b c:Int)(l:List Pt)(p q:Int):BU N a b c l p q=some (Ji a b c p q&&vB l):=by
 unfold BU Ji;rw[F7 (by omega)];by_cases h:(0<=a/\a<=99)/\(1<=b/\b<=8)/\0<=c/\c<=7
 ·rw[A1 _ (by simp;omega),BR (λ_=>jS),oK];rw[aB h.1.1,aB h.1.2,aB h.2.1.1,aB h.2.1.2,aB h.2.2.1,aB h.2.2.2];rfl
 ·rw[AU _ (by simp;omega)];congr 1;symm;rw[tU];intro hc;simp only[nK,bK]at hc;exact h ⟨hc.1.1.1.1.1.1,hc.1.1.1.1.1.2,hc.1.1.1.1.2⟩
noncomputable def TE(a b c:Int)(l:List Pt)(p q a' b' c':Int)(l':List Pt)(p' q':Int):Bool:=decide (max p p'<min q q')&&(Ji a b c p q&&vB l)&&(Ji a' b' c' p' q'&&vB l')
theorem YW(a b c:Int)(l:List Pt)(p q a' b' c':Int)(l':List Pt)(p' q':Int):IP N a b c l p q a' b' c' l' p' q'=some (max p p',min q q',TE a b c l p q a' b' c' l' p' q')/\FU N a b c l p q a' b' c' l' p' q'=some (TE a b c l p q a' b' c' l' p' q'):=by unfold IP FU TE;rw[K0 (by omega),K0 (by omega),OI hN,OI hN,BR (λ_=>jS),BR (λ_=>jS),bS,BR (λ_=>jS),oK,oK];refine⟨rfl,?_⟩;congr 1;cases(Ji a b c p q&&vB l)<;>cases(Ji a' b' c' p' q'&&vB l')<;>cases decide (max p p'<min q q')<;>rfl
theorem AcR(a b c:Int)(l:List Pt)(p q a' b' c':Int)(l':List Pt)(p' q':Int):∃r,Fy N a b c l p q a' b' c' l' p' q'=some r/\EF N a b c l p q a' b' c' l' p' q'=some r:=by obtain⟨h1,h2⟩:=YW hN a b c l p q a' b' c' l' p' q';obtain⟨r,g1,g2⟩:=Uq hN l l';unfold Fy EF;rw[h1,h2,g1,g2,bS,bS];simp only;rw[BR (λ_=>jS)];exact⟨_,rfl,rfl⟩
theorem AcS(a b c:Int)(l:List Pt)(p q dx dy:Int):∃r,FR N a b c l p q dx dy=some r/\Gx N a b c l p q dx dy=some r/\r.1.2.2.2.1.length<=8:=by
 obtain⟨⟨r,e⟩,g1,g2,g3⟩:=eH (N:=N) (by omega) l dx dy;unfold FR Gx;rw[g1,g2,OI hN,K0 (by omega),bS,bS];simp only;rw[BR (λ_=>jS),oK];cases h:Ji a b c p q&&vB l with
 |false=>exact⟨((0,0,0,[],0,0),80),by rw[AU _ (by simp)],by rw[AU _ (by rfl)],by simp⟩
 |true=>
  rw[A1 (!true) (by rfl),bS];simp only;by_cases he:e=0
  ·rw[A1 _ (by simp[he]),A1 _ (by simp[he])];exact⟨_,rfl,rfl,g3⟩
  ·rw[AU _ (by simp[he]),AU _ (by simp[he])];exact⟨_,rfl,rfl,by simp⟩
end
end
section
open Go
attribute [local irreducible] Ax BO BB Bj BC Bk AY BD BK Cq
def Au(x:Int×Int×Int×(List (Int×Int))×Int×Int):List AV:=[.i x.1,.i x.2.1,.i x.2.2.1,BP x.2.2.2.1,.i x.2.2.2.2.1,.i x.2.2.2.2.2]
def B1:List AV->Int×Int×Int×(List (Int×Int))×Int×Int|[.v (.int _ a1),.v (.int _ a2),.v (.int _ a3),.sl _ _ a4 _,.v (.int _ a5),.v (.int _ a6)]=>(a1,a2,a3,(a4.map Jx),a5,a6)|_=>(0,0,0,[],0,0)
theorem UF(x:Int×Int×Int×(List (Int×Int))×Int×Int):B1 (Au x)=x:=by simp only[Au,B1,BP,MR]
theorem UG(R:List (Int×Int×Int×(List (Int×Int))×Int×Int)):(R.map Au).map B1=R:=by
 induction R with
 |nil=>rfl
 |cons r R ih=>rw[eG,eG,ih,UF]
theorem uO{R:List (Int×Int×Int×(List (Int×Int))×Int×Int)}{i:Int}{x:(Int×Int×Int×(List (Int×Int))×Int×Int)}(h:A7 R i=some x)(d:List AV):A6 (R.map Au) d i.toNat=Au x:=by
 unfold A7 at h;split at h
 ·unfold A6;rw[dM,rA,h];rfl
 ·cases h
def Ak:Rw (Int×Int×Int×(List (Int×Int))×Int×Int):=⟨6,Au,B1,[.i 0,.i 0,.i 0,.sl 0 true [] [],.i 0,.i 0]⟩
def Ap(l:List (Int×Int×Int×(List (Int×Int))×Int×Int)):AV:=.sl 6 false (l.map Au) [.i 0,.i 0,.i 0,.sl 0 true [] [],.i 0,.i 0]
def B7(l:List (Int×Int×Int×(List (Int×Int))×Int×Int)):AV:=.sl 6 true (l.map Au) [.i 0,.i 0,.i 0,.sl 0 true [] [],.i 0,.i 0]
attribute [go_sem] Ak Ap B7 Au B1 UG
@[go_sem] theorem sE(R:List (Int×Int×Int×(List (Int×Int))×Int×Int))(i:Nat):cut 0 1 (A6 (R.map Au) [.i 0,.i 0,.i 0,.sl 0 true [] [],.i 0,.i 0] i)=some [.i (R.getD i (0,0,0,[],0,0)).1]:=by unfold A6;rw[dM,dM,rA];cases R[i]? <;>rfl
def Al(N:Nat)(c1191:Int)(ah:Int):Option Int:=bif decide (c1191<0)then(gd (Af (c1191+1))<|gd (Af (-(c1191+1)))<|gd (ah≠0)<|some ((-(c1191+1)).tmod ah))else(gd (ah≠0)<|some (c1191.tmod ah))
@[go_sem] def s93(N:Nat):Spec:=p0<|(Aoi<|Aoi<|Aof<|Aog 0 .i) (Al N)
theorem nS(N:Nat):AG Tryz.prog 93 (s93 N):=by
 refine fk (Aoq x93 (Aj)) ?_;intro c1191 ah r h _ hS F;dsimp only[x93,Ah];unfold Al at h;refine An hS F h (λ_ h=>?_) (λ_ h=>?_)
 ·obtain⟨ej,ep,dt,h⟩:=un h;exact Ai hS F h
 ·obtain⟨ei,h⟩:=un h;exact Ai hS F h
def BY(N:Nat)(ci:Int)(ce:Int)(b9:Int)(u1196:List (Int×Int))(b7:Int)(bz:Int):Option (Int×Int×Int×(List (Int×Int))×Int×Int):=gd ((u1196.length)*16<=140737488355328)<|some (ci,ce,b9,u1196,b7,bz)
@[go_sem] def s97(N:Nat):Spec:=p0<|(Aoh<|Aoi<|Aoi<|Aoi<|Aon Aq<|Aoi<|Aoi<|Aof<|Aof<|Aog (0,0,0,[],0,0) λr=>.agg [.i r.1,.i r.2.1,.i r.2.2.1,BP r.2.2.2.1,.i r.2.2.2.2.1,.i r.2.2.2.2.2]) (BY N)
theorem UY(N:Nat):AG Tryz.prog 97 (s97 N):=by refine fk (Aoq x97 (Aj)) ?_;intro ci ce b9 u1196 b7 bz r h _ hS F;dsimp only[x97,Ah,Aq];unfold BY at h;obtain⟨ej,h⟩:=un h;exact Ai hS F h
def EG(N:Nat)(f1199:List (Int×Int×Int×(List (Int×Int))×Int×Int)):Nat->Int->(List (Int×Int×Int×(List (Int×Int))×Int×Int))->Option ((List (Int×Int×Int×(List (Int×Int))×Int×Int)))|0,_,_=>none|n+1,af,l1234=>bif decide (af<(f1199.length:Int))then((A7 f1199 af).bind λ(bw,bv,bu,br,bq,bp)=>(BY N bw bv bu br bq bp).bind λ(aq,an,am,ak,aj,ai)=>gd ((l1234.length+1)*64<=140737488355328)<|gd (Af (af+1))<|EG N f1199 n (af+1) (l1234++[(aq,an,am,ak,aj,ai)]))else(some l1234)
def HZ(N:Nat)(f1199:List (Int×Int×Int×(List (Int×Int))×Int×Int)):Option (List (Int×Int×Int×(List (Int×Int))×Int×Int)):=(EG N f1199 N 0 []).bind λcn=>some cn
@[go_sem] def s96(N:Nat):Spec:=p0<|(Aoh<|qD Ak<|Aof<|Aof<|Aog [] λr=>.agg [Ap r]) (HZ N)
theorem Ab7(N:Nat):AG Tryz.prog 96 (s96 N):=by
 refine fk (Aoq x96 (Ab (UY N)<|Aj)) ?_;intro f1199 r h _ hS F;dsimp only[x96,Ah,Ak];unfold HZ at h;refine go hS F ?_;refine Fc 1000001 (100,2) 0 6 [.i 0,.i 0,.i 0,.sl 0 true [] [],.i 0,.i 0] (by omega) (ev F) ?_;obtain⟨dm,dq,h⟩:=un h;refine go hS F ?_;refine Bz dm (λz:(List (Int×Int×Int×(List (Int×Int))×Int×Int))×Nat=>⟨[(2,.box (1,1) 0),(3,.box (100,2) 0)],[(.c (100,2) 0,.own (1000001,4) z.1.length),(.a (1000001,4),B7 z.1),(.c (1,1) 0,.sl 0 true [] [])],z.2⟩) (λz=>(z.1:(List (Int×Int×Int×(List (Int×Int))×Int×Int)))) (.x 0) ?_ ?_
 ·refine Bp (λn (y:Int×(List (Int×Int×Int×(List (Int×Int))×Int×Int))×Nat)=>EG N f1199 n y.1 y.2.1) (λy=>⟨[(1,.box (0,1) 0),(2,.box (1,1) 0),(3,.box (100,2) 0),(4,.i y.1)],[(.c (100,2) 0,.own (1000001,4) y.2.1.length),(.a (1000001,4),B7 y.2.1),(.c (1,1) 0,.sl 0 true [] []),(.c (0,1) 0,Ap f1199)],y.2.2⟩) (0,[],4) dq (Ch F) ?_;rintro n ⟨af,l1234,cr⟩ aa;simp only[EG]at aa;refine An hS F aa (λ_ aa=>?_) (λ_ aa=>?_)
  ·obtain⟨⟨bw,bv,bu,br,bq,bp⟩,dg,aa⟩:=un aa;obtain⟨d8,F⟩:=Cb Au dg F;obtain⟨⟨aq,an,am,ak,aj,ai⟩,cy,aa⟩:=un aa;obtain⟨dt,ei,aa⟩:=un aa;exact Cd hS (fc cy F) (n,af+1,l1234++[(aq,an,am,ak,aj,ai)],cr+1+1+1) aa
  ·exact B4 hS F (l1234,cr+1) aa
 ·rintro⟨cn,eh⟩ rfl;exact Ai hS F h
def CO(N:Nat)(a1255:List (Int×Int×Int×(List (Int×Int))×Int×Int))(b1256:List (Int×Int×Int×(List (Int×Int))×Int×Int)):Nat->Int->Option (Sum Unit Bool)|0,_=>none|n+1,ae=>bif decide (ae<(a1255.length:Int))then((A7 a1255 ae).bind λ(bo,bn,bm,bl,bj,bi)=>(A7 b1256 ae).bind λ(bh,bg,bf,be,bb,ba)=>(C2 N bo bn bm bl bj bi bh bg bf be bb ba).bind λcj=>bif !cj then(some (.inr false))else(gd (Af (ae+1))<|CO N a1255 b1256 n (ae+1)))else(some (.inl ()))
def Gy(N:Nat)(a1255:List (Int×Int×Int×(List (Int×Int))×Int×Int))(b1256:List (Int×Int×Int×(List (Int×Int))×Int×Int)):Option Bool:=bif decide ((a1255.length:Int)≠(b1256.length:Int))then(some false)else((CO N a1255 b1256 N 0).bind λav=>match av with|.inl ()=>(some true)|.inr dl=>(some dl))
@[go_sem] def s46(N:Nat):Spec:=p0<|(Aoh<|qD Ak<|Aof<|Aoh<|qD Ak<|Aof<|Aof<|Aog false .b) (Gy N)
theorem Ab8(N:Nat):AG Tryz.prog 46 (s46 N):=by
 refine fk (Aoq x46 (Ab (Zw N)<|Aj)) ?_;intro a1255 b1256 r h _ hS F;dsimp only[x46,Ah,Ak];unfold Gy at h;refine An hS F h (λ_ h=>?_) (λ_ h=>?_)
 ·exact Ai hS F h
 ·obtain⟨av,dq,h⟩:=un h;refine go hS F ?_;refine Bz av (λz:Nat=>⟨[],[],z⟩) (λz=>(.inl ():Sum Unit Bool)) (.x 0) ?_ ?_
  ·refine Bp (λn (y:Int×Nat)=>CO N a1255 b1256 n y.1) (λy=>⟨[(2,.box (0,1) 0),(3,.box (1,1) 0),(5,.i y.1)],[(.c (1,1) 0,Ap b1256),(.c (0,1) 0,Ap a1255)],y.2⟩) (0,3) dq (Ch F) ?_;rintro n ⟨ae,cq⟩ aa;simp only[CO]at aa;refine An hS F aa (λ_ aa=>?_) (λ_ aa=>?_)
   ·obtain⟨⟨bo,bn,bm,bl,bj,bi⟩,de,aa⟩:=un aa;obtain⟨d7,F⟩:=Cb Au de F;obtain⟨⟨bh,bg,bf,be,bb,ba⟩,db,aa⟩:=un aa;obtain⟨dz,F⟩:=Cb Au db F;obtain⟨cj,cu,aa⟩:=un aa;replace F:=fc cu F;refine An hS F aa (λ_ aa=>?_) (λ_ aa=>?_)
    ·obtain rfl:=yJ aa;exact Ai hS F h
    ·obtain⟨dt,aa⟩:=un aa;exact Cd hS F (n,ae+1,cq+1+1+1) aa
   ·exact B4 hS F (cq+1) aa
  ·rintro ee rfl;exact Ai hS F h
def GG(N:Nat)(a1297:List Int)(b1298:List Int):Nat->Int->Option (Sum Unit Bool)|0,_=>none|n+1,ab=>bif decide (ab<(a1297.length:Int))then((A7 a1297 ab).bind λaz=>(A7 b1298 ab).bind λay=>bif decide (az≠ay)then(some (.inr false))else(gd (Af (ab+1))<|GG N a1297 b1298 n (ab+1)))else(some (.inl ()))
def H0(N:Nat)(a1297:List Int)(b1298:List Int):Option Bool:=bif decide ((a1297.length:Int)≠(b1298.length:Int))then(some false)else((GG N a1297 b1298 N 0).bind λau=>match au with|.inl ()=>(some true)|.inr dh=>(some dh))
@[go_sem] def Yr(N:Nat):Spec:=p0<|(Aon SD<|Aon SD<|Aof<|Aog false .b) (H0 N)
theorem Ab9(N:Nat):AG Tryz.prog 33 (Yr N):=by
 refine fk (Aoq x33 (Aj)) ?_;intro a1297 b1298 r h _ hS F;dsimp only[x33,Ah,SD];unfold H0 at h;refine An hS F h (λ_ h=>?_) (λ_ h=>?_)
 ·exact Ai hS F h
 ·obtain⟨au,dq,h⟩:=un h;refine go hS F ?_;refine Bz au (λz:Nat=>⟨[],[],z⟩) (λz=>(.inl ():Sum Unit Bool)) (.x 0) ?_ ?_
  ·refine Bp (λn (y:Int×Nat)=>GG N a1297 b1298 n y.1) (λy=>⟨[(0,FW a1297),(1,FW b1298),(5,.i y.1)],[],y.2⟩) (0,3) dq (Ch F) ?_;rintro n ⟨ab,co⟩ aa;simp only[GG]at aa;refine An hS F aa (λ_ aa=>?_) (λ_ aa=>?_)
   ·obtain⟨az,da,ay,cz,aa⟩:=un aa;obtain⟨dw,F⟩:=Cb GV da F;obtain⟨du,F⟩:=Cb GV cz F;refine An hS F aa (λ_ aa=>?_) (λ_ aa=>?_)
    ·obtain rfl:=yJ aa;exact Ai hS F h
    ·obtain⟨dt,aa⟩:=un aa;exact Cd hS F (n,ab+1,co+1+1+1) aa
   ·exact B4 hS F (co+1) aa
  ·rintro d9 rfl;exact Ai hS F h
end
open Go
attribute [local irreducible] Ax BO BB Bj BC Bk AY BD BK Cq
abbrev Un:=Int×Int×Int×(List (Int×Int))×Int×Int
def FI{E:Type}:List E->List (E×E)
 |[]=>[]
 |u::r=>r.map (λv=>(u,v))++FI r
def pU(e:Un×Un):List AV:=[.agg (Au e.1),.agg (Au e.2)]
theorem lD{E:Type}{l:List E}{i:Nat}{u:E}(h:l[i]? =some u):FI (l.drop i)=(l.drop (i+1)).map (λv=>(u,v))++FI (l.drop (i+1)):=by obtain⟨h1,h2⟩:=jW.1 h;rw[oH h1,h2,FI]
theorem fF{l:List Un}{i:Nat}{u:Un}(h:l[i]? =some u)(d:List AV):A6 (l.map Au) d i=Au u:=by unfold A6;rw[dM,rA,h];rfl
theorem AaK{E:Type}{l:List E}{k:Nat}{x:E}{r:List E}(h:l.drop k=x::r):l[k]? =some x/\l.drop (k+1)=r/\k<l.length:=by
 have h1:(l.drop k)[0]? =some x:=by rw[h];rfl
 rw[Iw]at h1;refine⟨h1,?_,(jW.1 h1).1⟩;rw[<-w7,h];rfl
section
attribute [local go_sem] Cz MR QO Jx Sx Sy List.set_cons_succ List.isEmpty_map List.map_append List.map_eq_nil_iff ne_eq List.length_replicate X8 X9 List.length_set Option.isSome_some
theorem lE(l:List Un)(f:Bool)(hlen:l.length<=1000000000):T8 Tryz.prog 123 [] [.ro [.sl 6 f (l.map Au) [.i 0,.i 0,.i 0,.sl 0 true [] [],.i 0,.i 0]] 0] ((FI l).map pU):=by
 refine XS (Aj (P:=Tryz.prog)) _ x123.hf x123.hc x123.hn (by simp[x123,Ah,gs]) (oL rfl) λy V hOK hTS hY hYD=>?_
 have hS:=Aj (P:=Tryz.prog);have F:=fc hTS f0;dsimp only[x123,Ah,BW];refine go hOK F ?_;refine IB (λx:Nat×Nat×Nat=>⟨[(10,.i x.1),(9,.i l.length),(8,.sl 6 f (l.map Au) [.i 0,.i 0,.i 0,.sl 0 true [] [],.i 0,.i 0]),(1,.ro [.sl 6 f (l.map Au) [.i 0,.i 0,.i 0,.sl 0 true [] [],.i 0,.i 0]] 0),(gs,CL x.2.1),(0,.clo (.yield y) [] [])],[],x.2.2⟩)
  (λx=>x.1<=l.length/\x.2.1<=(FI l).length/\(FI l).drop x.2.1=FI (l.drop x.1)) (λx=>l.length-x.1) (0,0,50) ?_ ?_ ?_
 ·simp
 ·exact Ch F
 ·rintro⟨i,k,c⟩ ⟨hi,hk,hd⟩;simp only at hi hk hd;refine go hOK F ?_;refine cb F (decide ((i:Int)<l.length)) (λhi1=>?_) (λhi1=>?_)
  ·have hi':i<l.length:=by simpa using hi1
   obtain⟨⟨a1,a2,a3,a4,a5,a6⟩,hu⟩:∃u,l[i]? =some u:=⟨_,dO hi'⟩
   rw[lD hu]at hd;have hrow:=fF hu;simp only[Au]at hrow;have htn:((i:Int)+1).toNat=i+1:=by omega
   replace F:=fc hrow (fc htn F);refine go hOK F ?_;refine IB (λx:Nat×Nat×Nat=>⟨[(21,.i x.1),(20,.i (l.drop (i+1)).length),(19,.sl 6 f ((l.drop (i+1)).map Au) [.i 0,.i 0,.i 0,.sl 0 true [] [],.i 0,.i 0]),(10,.i i),(9,.i l.length),(8,.sl 6 f (l.map Au) [.i 0,.i 0,.i 0,.sl 0 true [] [],.i 0,.i 0]),(4,.box (203,c+1+1) 0),(1,.ro [.sl 6 f (l.map Au) [.i 0,.i 0,.i 0,.sl 0 true [] [],.i 0,.i 0]] 0),(gs,CL x.2.1),(0,.clo (.yield y) [] [])],[(.c (203,c+1+1) 0,.i a1),(.c (203,c+1+1) 1,.i a2),(.c (203,c+1+1) 2,.i a3),(.c (203,c+1+1) 3,.sl 2 false (a4.map Cz) [.i 0,.i 0]),(.c (203,c+1+1) 4,.i a5),(.c (203,c+1+1) 5,.i a6)],x.2.2⟩)
    (λx=>x.1<=(l.drop (i+1)).length/\x.2.1<=(FI l).length/\(FI l).drop x.2.1=((l.drop (i+1)).drop x.1).map (λv=>((a1,a2,a3,a4,a5,a6),v))++FI (l.drop (i+1))) (λx=>(l.drop (i+1)).length-x.1) (0,k,c+50) ?_ ?_ ?_
   ·exact⟨tD _,hk,hd⟩
   ·exact Ch F
   ·rintro⟨j,k2,c2⟩ ⟨hj,hk2,hd2⟩;simp only at hj hk2 hd2;refine go hOK F ?_;refine cb F (decide ((j:Int)<(l.drop (i+1)).length)) (λhj1=>?_) (λhj1=>?_)
    ·have hj':j<(l.drop (i+1)).length:=by simpa using hj1
     obtain⟨⟨b1,b2,b3,b4,b5,b6⟩,hv⟩:∃u,(l.drop (i+1))[j]? =some u:=⟨_,dO hj'⟩
     have hrow2:=fF hv;simp only[Au]at hrow2;have q1:((j+1:Nat):Int)=(j:Int)+1:=rfl;have q2:((k2+1:Nat):Int)=(k2:Int)+1:=rfl;replace F:=fc q1 (fc q2 (fc hrow2 F));rw[oH hj',show(l.drop (i+1))[j]=(b1,b2,b3,b4,b5,b6)from(jW.1 hv).2,eG,sF]at hd2;obtain⟨g1,g2,g3⟩:=AaK hd2;refine go hOK F ?_;refine hY 3 (args:=pU ((a1,a2,a3,a4,a5,a6),(b1,b2,b3,b4,b5,b6))) rfl rfl (by simp only[go_sem,seval,F]<;>eq_refl) ?_ (by simp only[go_sem,seval]<;>eq_refl) (by simp only[go_sem,seval]<;>eq_refl) (by simp only[go_sem,seval]<;>eq_refl) (by simp only[go_sem,seval,Am.pU,Am.Au]<;>eq_refl) ?_ (by simp only[go_sem,seval,F]<;>eq_refl) ?_ ?_ (by simp only[go_sem,seval,F]<;>eq_refl) ?_ ?_
     ·repeat' (first|exact yT|omega|apply And.intro)
     ·rw[rA,g1];rfl
     ·exact yT
     ·refine go hOK F ?_;refine cf F ?_;refine go hOK F ?_;exact JL (j+1,k2+1,c2+50) ⟨by show j+1<=_;omega,by show k2+1<=_;omega,g2⟩ (by show(l.drop (i+1)).length-(j+1)<(l.drop (i+1)).length-j;omega) (Ch F)
     ·exact yT
     ·refine go hOK F ?_;refine ct F ?_;refine go hOK F ?_;refine Sw ?_;simp only[go_sem,seval]
    ·have:j=(l.drop (i+1)).length:=by
      have:¬((j:Int)<(l.drop (i+1)).length):=by simpa using hj1
      omega
     subst this;rw[tM,tV,pA]at hd2;have q1:((i+1:Nat):Int)=(i:Int)+1:=rfl;replace F:=fc q1 F;refine go hOK F ?_;exact JL (i+1,k2,c2+50) ⟨by show i+1<=_;omega,hk2,hd2⟩ (by show l.length-(i+1)<l.length-i;omega) (Ch F)
  ·refine go hOK F ?_;refine nP ?_;have:i=l.length:=by
    have:¬((i:Int)<l.length):=by simpa using hi1
    omega
   subst this;rw[tM,FI]at hd;have:k=(FI l).length:=Nat.le_antisymm hk (List.drop_eq_nil_iff.1 hd);simp only[go_sem,seval,this,qI]
def Xc:Spec|[.agg [.sl z f rows d]]=>some (True,.clo (.func 123) [] [.ro [.sl z f rows d] 0])|_=>none
theorem fG:AG Tryz.prog 101 Xc:=⟨x101.ok,by
 intro args vc r h hv;unfold Xc at h;split at h
 ·cases h
  refine O4 (Aj (P:=Tryz.prog)) _ x101.hf x101.hc x101.hn (oL rfl) λ_=>?_
  have hS:=Aj (P:=Tryz.prog);dsimp only[x101,Ah,BW]
  repeat' (first
  |((with_reducible first|apply DD|apply EA|apply Eu|apply FL|apply DE|apply DF);(·(first|exact Ctx.fn_ok hS|exact Ctx.rd_ok hS|assumption|exact yT));iterate 2 (·(simp only[go_sem,seval]<;>eq_refl)))
  |(with_reducible first|apply Dz|apply En|apply Di|apply Dj|apply CX|apply Cw|apply CK|apply DW|apply Ec|apply Eo|apply Ep|apply Er|apply Es)
  |(with_reducible apply Et;(·first|rfl|decide))
  |(with_reducible first|apply DB|apply DC|apply Ex|apply Ey|apply Ez|apply yT|apply And.intro yT yT)
  |(fail_if_success with_reducible apply G1);(fail_if_success with_reducible apply Ew);first|omega|(simp only[go_sem,seval];done)
  |fail)
  first|refine Ma (by simp only[go_sem,seval]<;>eq_refl) (by simp only[go_sem,seval]) (by simp only[go_sem,seval]) ?_ rfl|refine Mb (by simp only[go_sem,seval]<;>eq_refl) (by simp only[go_sem,seval]) (by simp only[go_sem,seval]) ?_ rfl
  simp only[go_sem,seval]
 ·simp at h⟩
end
