import Derived.Test.YtciphecegkfaiaaGreatA21
import Derived.Test.YtciphecegkfaiaaGreatA15
import Derived.Test.YtciphecegkfaiaaGreatAx5
namespace Go.Proofs.YtciphecegkfaiaaGreat.Am
open Go
attribute [local irreducible] awp B5 BR Bx B3 Bw Bn BS B1 itK
set_option maxRecDepth 100000
set_option maxHeartbeats 8000000
set_option linter.unusedSimpArgs false
set_option linter.unusedVariables false
def Br (x:Int×Int):List AV:=[.i x.1,.i x.2]
def KV:List AV→Int×Int
 |[.v (.int _ a1),.v (.int _ a2)]=>(a1,a2)
 |_=>(0,0)
theorem lD (x:Int×Int):KV (Br x)=x:=by rfl
theorem LQ (R:List (Int×Int)):(R.map Br).map KV=R:=by
 induction R with
 |nil=>rfl
 |cons r R ih=>rw[List.map_cons,List.map_cons,ih,lD]
theorem LR (R:List (Int×Int)) (i:Nat):BJ (R.map Br) [.i 0,.i 0] i=Br (R.getD i (0,0)):=by
 unfold BJ;rw[List.getD_eq_getElem?_getD,List.getD_eq_getElem?_getD,List.getElem?_map];cases R[i]? <;>rfl
def Ap:Rw (Int×Int):=⟨2,Br,KV,[.i 0,.i 0]⟩
def A1 (l:List (Int×Int)):AV:= .sl 2 false (l.map Br) [.i 0,.i 0]
def Gw (l:List (Int×Int)):AV:= .sl 2 true (l.map Br) [.i 0,.i 0]
attribute [go_sem] Ap A1 Gw Br KV LQ LR
def C6 (N:Nat) (a1:Int) (a2:Int) (b3:Int) (b4:Int) (c5:Int) (c6:Int):Option Int:=
 gd (I64 (b3-a1))<|
 gd (I64 (c6-a2))<|
 gd (I64 ((b3-a1)*(c6-a2)))<|
 gd (I64 (b4-a2))<|
 gd (I64 (c5-a1))<|
 gd (I64 ((b4-a2)*(c5-a1)))<|
 gd (I64 (((b3-a1)*(c6-a2))-((b4-a2)*(c5-a1))))<|
 some (((b3-a1)*(c6-a2))-((b4-a2)*(c5-a1)))
@[go_sem] def oD (N:Nat):Spec:=p0<|pG<|pI fun a1=>pI fun a2=>pE<|pG<|pI fun b3=>pI fun b4=>pE<|pG<|pI fun c5=>pI fun c6=>pE<|pE<|pF (C6 N a1 a2 b3 b4 c5 c6) 0 fun r=> .i r
theorem RX (N:Nat):FOK Tryz.prog 142 (oD N):=by
 refine Al x142.ok<|AW<|Ac fun a1=>Ac fun a2=>Ah<|AW<|Ac fun b3=>Ac fun b4=>Ah<|AW<|Ac fun c5=>Ac fun c6=>Ah<|Ah<|An fun r h=>wx x142 (Aj) fun _ hS F=> ?_
 dsimp only[x142,mkX]
 unfold C6 at h
 obtain⟨ai,ah,ak,aj,au,aq,an,h⟩:=un h
 exact Ad hS F h
def EV (N:Nat) (p7:Int) (p8:Int):Option Bool:=
 some ((((decide (0≤p7))&&(decide (p7≤40)))&&(decide (0≤p8)))&&(decide (p8≤40)))
@[go_sem] def PE (N:Nat):Spec:=p0<|pG<|pI fun p7=>pI fun p8=>pE<|pE<|pF (EV N p7 p8) false fun r=> .b r
theorem fS (N:Nat):FOK Tryz.prog 141 (PE N):=by
 refine Al x141.ok<|AW<|Ac fun p7=>Ac fun p8=>Ah<|Ah<|An fun r h=>wx x141 (Aj) fun _ hS F=> ?_
 dsimp only[x141,mkX]
 unfold EV at h
 exact Ad hS F h
def B2 (N:Nat) (l9:List (Int×Int)) (ae:Int):Option (Int×Int):=
 gd (I64 (ae+1))<|
 gd ((l9.length:Int)≠0)<|
 (nth l9 ((ae+1).tmod (l9.length:Int))).bind fun(x11,x12)=>
 some (x11,x12)
@[go_sem] def oE (N:Nat):Spec:=p0<|pS Ap fun l9=>pI fun ae=>pE<|pF (B2 N l9 ae) (0,0) fun r=> .agg [.i r.1,.i r.2]
theorem OQ (N:Nat):FOK Tryz.prog 143 (oE N):=by
 refine Al x143.ok<|A3 fun l9=>Ac fun ae=>Ah<|An fun r h=>wx x143 (Aj) fun _ hS F=> ?_
 dsimp only[x143,mkX,Ap]
 unfold B2 at h
 obtain⟨ai,ah,⟨x11,x12⟩,af,h⟩:=un h
 obtain⟨am,F⟩:=rqG Br af F
 exact Ad hS F h
def DN (N:Nat) (c14:Int) (aa:Int):Option Int:=
 bif decide (c14<0) then(
  gd (I64 (c14+1))<|
  gd (I64 (-(c14+1)))<|
  gd (aa≠0)<|
  some ((-(c14+1)).tmod aa))
 else(
  gd (aa≠0)<|
  some (c14.tmod aa))
@[go_sem] def oF (N:Nat):Spec:=p0<|pI fun c14=>pI fun aa=>pE<|pF (DN N c14 aa) 0 fun r=> .i r
end Go.Proofs.YtciphecegkfaiaaGreat.Am
namespace Go.Proofs.YtciphecegkfaiaaGreat.Am
open Go
attribute [local irreducible] awp B5 BR Bx B3 Bw Bn BS B1 itK
set_option maxRecDepth 100000
set_option maxHeartbeats 8000000
set_option linter.unusedSimpArgs false
set_option linter.unusedVariables false
def Cw (N:Nat) (l16:List (Int×Int)):Nat→Int→Option (Sum Unit Bool)
 |0,_=>none
 |n+1,ah=>
  bif decide (ah<(l16.length:Int)) then(
   (nth l16 ah).bind fun(x25,x26)=>
   (EV N x25 x26).bind fun aq=>
   bif !aq then(
    some (.inr false))
   else(
    gd (I64 (ah+1))<|
    Cw N l16 n (ah+1)))
  else(
   some (.inl ()))
def BY (N:Nat) (l16:List (Int×Int)) (i45:Int):Nat→Int→Option (Sum Unit Bool)
 |0,_=>none
 |n+1,k48=>
  bif decide (k48<(l16.length:Int)) then(
   gd ((decide (k48≠i45))=true→(I64 (i45+1)))<|
   gd ((decide (k48≠i45))=true→((l16.length:Int)≠0))<|
   gd (((decide (k48≠i45))&&(decide (k48≠(i45+1).tmod (l16.length:Int))))=true→(0≤i45∧i45<(l16.length:Int)))<|
   gd (((decide (k48≠i45))&&(decide (k48≠(i45+1).tmod (l16.length:Int))))=true→((B2 N l16 i45).isSome=true))<|
   gd (((decide (k48≠i45))&&(decide (k48≠(i45+1).tmod (l16.length:Int))))=true→(0≤k48∧k48<(l16.length:Int)))<|
   gd (((decide (k48≠i45))&&(decide (k48≠(i45+1).tmod (l16.length:Int))))=true→((C6 N ((l16.getD i45.toNat (0,0)).1) ((l16.getD i45.toNat (0,0)).2) (((B2 N l16 i45).getD (0,0)).1) (((B2 N l16 i45).getD (0,0)).2) ((l16.getD k48.toNat (0,0)).1) ((l16.getD k48.toNat (0,0)).2)).isSome=true))<|
   bif ((decide (k48≠i45))&&(decide (k48≠(i45+1).tmod (l16.length:Int))))&&(decide ((C6 N ((l16.getD i45.toNat (0,0)).1) ((l16.getD i45.toNat (0,0)).2) (((B2 N l16 i45).getD (0,0)).1) (((B2 N l16 i45).getD (0,0)).2) ((l16.getD k48.toNat (0,0)).1) ((l16.getD k48.toNat (0,0)).2)).getD 0≤0)) then(
    some (.inr false))
   else(
    gd (I64 (k48+1))<|
    BY N l16 i45 n (k48+1)))
  else(
   some (.inl ()))
def Cc (N:Nat) (l16:List (Int×Int)):Nat→Int→Option (Sum Unit Bool)
 |0,_=>none
 |n+1,i45=>
  bif decide (i45<(l16.length:Int)) then(
   (BY N l16 i45 N 0).bind fun aj=>match aj with
    | .inl ()=>(
     gd (I64 (i45+1))<|
     Cc N l16 n (i45+1))
    | .inr az=>(
     some (.inr az)))
  else(
   some (.inl ()))
def Bo (N:Nat) (l16:List (Int×Int)):Option Bool:=
 bif (decide ((l16.length:Int)<3))||(decide (8<(l16.length:Int))) then(
  some false)
 else(
  (Cw N l16 N 0).bind fun ak=>match ak with
   | .inl ()=>(
    (Cc N l16 N 0).bind fun ai=>match ai with
     | .inl ()=>(
      some true)
     | .inr ay=>(
      some ay))
   | .inr bb=>(
    some bb))
@[go_sem] def oG (N:Nat):Spec:=p0<|pS Ap fun l16=>pE<|pF (Bo N l16) false fun r=> .b r
theorem My (N:Nat):FOK Tryz.prog 106 (oG N):=by
 refine Al x106.ok<|A3 fun l16=>Ah<|An fun r h=>wx x106 (Aa (fS N)<|Aa (OQ N)<|Aa (RX N)<|Aj) fun _ hS F=> ?_
 dsimp only[x106,mkX,Ap]
 unfold Bo at h
 refine gcb hS F h (fun _ h=> ?_) (fun _ h=> ?_)
 ·exact Ad hS F h
 ·obtain⟨ak,br,h⟩:=un h
  refine go hS F ?_
  refine Au ak (fun z:Nat=>⟨[(0,A1 l16)],[],z⟩) (fun z=>(.inl ():Sum Unit Bool)) (.x 0) ?_ ?_
  ·refine Aq (fun n (y:Int×Nat)=>Cw N l16 n y.1) (fun y=>⟨[(0,A1 l16),(3,.i y.1)],[],y.2⟩) (0,3) br (leF F) ?_
   rintro n ⟨ah,aw⟩ aa
   simp only[Cw] at aa
   refine gcb hS F aa (fun _ aa=> ?_) (fun _ aa=> ?_)
   ·obtain⟨⟨x25,x26⟩,an,aa⟩:=un aa
    obtain⟨bo,F⟩:=rqG Br an F
    obtain⟨aq,am,aa⟩:=un aa
    replace F:=fc am F
    refine gcb hS F aa (fun _ aa=> ?_) (fun _ aa=> ?_)
    ·obtain rfl:=yJ aa
     exact Ad hS F h
    ·obtain⟨b9,aa⟩:=un aa
     exact gbk hS F (n,ah+1,aw+1+1+1) aa
   ·exact gck hS F (aw+1) aa
  ·rintro bv rfl
   obtain⟨ai,bq,h⟩:=un h
   refine go hS F ?_
   refine Au ai (fun z:Nat=>⟨[],[],z⟩) (fun z=>(.inl ():Sum Unit Bool)) (.x 2) ?_ ?_
   ·refine Aq (fun n (y:Int×Nat)=>Cc N l16 n y.1) (fun y=>⟨[(0,A1 l16),(4,.i y.1)],[],y.2⟩) (0,bv+1) bq (leF F) ?_
    rintro n ⟨i45,av⟩ af
    simp only[Cc] at af
    refine gcb hS F af (fun _ af=> ?_) (fun _ af=> ?_)
    ·obtain⟨aj,bp,af⟩:=un af
     refine go hS F ?_
     refine Au aj (fun z:Nat=>⟨[(0,A1 l16),(4,.i i45)],[],z⟩) (fun z=>(.inl ():Sum Unit Bool)) (.x 4) ?_ ?_
     ·refine Aq (fun n (y:Int×Nat)=>BY N l16 i45 n y.1) (fun y=>⟨[(0,A1 l16),(4,.i i45),(5,.i y.1)],[],y.2⟩) (0,av+1+1) bp (leF F) ?_
      rintro n ⟨k48,au⟩ ae
      simp only[BY] at ae
      refine gcb hS F ae (fun _ ae=> ?_) (fun _ ae=> ?_)
      ·obtain⟨bz,bw,bm,bj,bi,bh,ae⟩:=un ae
       refine gcb hS F ae (fun _ ae=> ?_) (fun _ ae=> ?_)
       ·obtain rfl:=yJ ae
        obtain rfl:=yJ af
        exact Ad hS F h
       ·obtain⟨bg,ae⟩:=un ae
        exact gbk hS F (n,k48+1,au+1+1+1) ae
      ·exact gck hS F (au+1) ae
     ·rintro bu rfl
      obtain⟨be,af⟩:=un af
      exact gbk hS F (n,i45+1,bu+1) af
    ·exact gck hS F (av+1) af
   ·rintro ce rfl
    exact Ad hS F h
end Go.Proofs.YtciphecegkfaiaaGreat.Am
namespace Go.Proofs.YtciphecegkfaiaaGreat.Am
open Go
attribute [local irreducible] awp B5 BR Bx B3 Bw Bn BS B1 itK
set_option maxRecDepth 100000
set_option maxHeartbeats 8000000
set_option linter.unusedSimpArgs false
set_option linter.unusedVariables false
def Cd (N:Nat) (l616:List (Int×Int)) (aj:Int) (ai:Int):Nat→Int→Int→Option (Sum Int Int)
 |0,_,_=>none
 |n+1,ah,ak=>
  bif decide (ak<(l616.length:Int)) then(
   (nth l616 ak).bind fun(ce,b9)=>
   (B2 N l616 ak).bind fun(cy,cu)=>
   (C6 N ce b9 cy cu aj ai).bind fun bo=>
   bif decide (bo<0) then(
    some (.inr (-1)))
   else(
    bif decide (bo=0) then(
     gd (I64 (ak+1))<|
     Cd N l616 aj ai n 0 (ak+1))
    else(
     gd (I64 (ak+1))<|
     Cd N l616 aj ai n ah (ak+1))))
  else(
   some (.inl ah))
def CT (N:Nat) (l616:List (Int×Int)) (aj:Int) (ai:Int):Option Int:=
 (Cd N l616 aj ai N 1 0).bind fun bp=>match bp with
  | .inl bh=>(
   some bh)
  | .inr fj=>(
   some fj)
@[go_sem] def oV (N:Nat):Spec:=p0<|pS Ap fun l616=>pG<|pI fun aj=>pI fun ai=>pE<|pE<|pF (CT N l616 aj ai) 0 fun r=> .i r
def Dm (N:Nat) (l646:List (Int×Int)):Nat→Int→Int→Option Int
 |0,_,_=>none
 |n+1,au,av=>
  bif decide (av<(l646.length:Int)) then(
   (nth l646 av).bind fun(aw,bb)=>
   (B2 N l646 av).bind fun(bg,ay)=>
   gd (I64 (aw*ay))<|
   gd (I64 (au+(aw*ay)))<|
   gd (I64 (bb*bg))<|
   gd (I64 ((au+(aw*ay))-(bb*bg)))<|
   gd (I64 (av+1))<|
   Dm N l646 n ((au+(aw*ay))-(bb*bg)) (av+1))
  else(
   some au)
def Du (N:Nat) (l646:List (Int×Int)):Option Int:=
 (Bo N l646).bind fun cr=>
 bif !cr then(
  some 0)
 else(
  (Dm N l646 N 0 0).bind fun cz=>
  some cz)
@[go_sem] def oW (N:Nat):Spec:=p0<|pS Ap fun l646=>pE<|pF (Du N l646) 0 fun r=> .i r
def DE (N:Nat) (l671:List (Int×Int)) (af:Int) (ae:Int):Nat→Int→(List (Int×Int))→Option ((List (Int×Int)))
 |0,_,_=>none
 |n+1,az,l687=>
  bif decide (az<(l671.length:Int)) then(
   (nth l671 az).bind fun(bj,bi)=>
   gd (I64 (bj+af))<|
   gd (I64 (bi+ae))<|
   gd ((l687.length+1)*16≤140737488355328)<|
   gd (I64 (az+1))<|
   DE N l671 af ae n (az+1) (l687++[(bj+af,bi+ae)]))
  else(
   some l687)
def DQ (N:Nat) (l671:List (Int×Int)) (af:Int) (ae:Int):Option ((List (Int×Int))×Int):=
 (Bo N l671).bind fun cq=>
 bif ((((!cq)||(decide (af<(-40))))||(decide (40<af)))||(decide (ae<(-40))))||(decide (40<ae)) then(
  some ([],70))
 else(
  (DE N l671 af ae N 0 []).bind fun bq=>
  (Bo N bq).bind fun co=>
  bif !co then(
   some ([],70))
  else(
   some (bq,0)))
@[go_sem] def s54 (N:Nat):Spec:=p0<|pS Ap fun l671=>pI fun af=>pI fun ae=>pE<|pF (DQ N l671 af ae) ([],0) fun r=> .tup [A1 r.1,.i r.2]
def Fc (N:Nat) (l699:List (Int×Int)) (an:Int) (am:Int) (aq:Int):Option (List (Int×Int)):=
 gd ((l699.length)*16≤140737488355328)<|
 bif decide ((l699.length:Int)=0) then(
  some [(am,am)])
 else(
  (DN N aq (l699.length:Int)).bind fun r703=>
  (DN N an 5).bind fun be=>
  bif decide (be=0) then(
   (nth l699 r703).bind fun(fh,bz)=>
   some (l699.set r703.toNat (am,bz)))
  else(
   bif decide (be=1) then(
    (nth l699 r703).bind fun(bw,fg)=>
    some (l699.set r703.toNat (bw,am)))
   else(
    bif decide (be=2) then(
     gd (I64 (r703+1))<|
     gd ((l699.length:Int)≠0)<|
     (nth l699 ((r703+1).tmod (l699.length:Int))).bind fun(bv,bu)=>
     (nth l699 r703).bind fun(fb,e9)=>
     some (l699.set r703.toNat (bv,bu)))
    else(
     bif decide (be=3) then(
      gd (0≤0∧0≤r703∧r703≤r703∧r703≤(l699.length:Int))<|
      gd (I64 (r703+1))<|
      gd (0≤r703+1∧r703+1≤(l699.length:Int))<|
      gd (((l699.take (r703.toNat-0)).length+(l699.drop (r703+1).toNat).length)*16≤140737488355328)<|
      some (l699.take (r703.toNat-0)++(l699.drop (r703+1).toNat)))
     else(
      gd (0≤0∧0≤r703∧r703≤r703∧r703≤(l699.length:Int))<|
      (DN N aq 50).bind fun bm=>
      gd (I64 (bm-5))<|
      gd (0≤r703∧r703≤(l699.length:Int))<|
      gd ((1+(l699.drop r703.toNat).length)*16≤140737488355328)<|
      gd (((l699.take (r703.toNat-0)).length+([(am,bm-5)]++(l699.drop r703.toNat)).length)*16≤140737488355328)<|
      some (l699.take (r703.toNat-0)++([(am,bm-5)]++(l699.drop r703.toNat))))))))
@[go_sem] def oX (N:Nat):Spec:=p0<|pS Ap fun l699=>pI fun an=>pI fun am=>pI fun aq=>pE<|pF (Fc N l699 an am aq) [] fun r=>A1 r
end Go.Proofs.YtciphecegkfaiaaGreat.Am
