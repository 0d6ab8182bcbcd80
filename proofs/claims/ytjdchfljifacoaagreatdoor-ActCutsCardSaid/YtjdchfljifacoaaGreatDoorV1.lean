import Derived.Test.YtjdchfljifacoaaGreatDoorA7
import Derived.Test.YtjdchfljifacoaaGreatDoorTie
import Derived.Test.YtjdchfljifacoaaGreatDoorCards
import Derived.LaidMore
set_option linter.all false
namespace Go.Proofs.YtjdchfljifacoaaGreatDoor
open Go.ChangeShapes Go.WideShapes Go.ChangeAt Go.RowKit
theorem aM:ownKnob Tryz.prog.godebug=none:=by kernel_rfl
theorem WR:laidOutB Tryz.prog=true:=by kernel_rfl
theorem gStuffs:Tryz.prog.globalNamed "putlog/unit.stuffs" =some 0:=by kernel_rfl
theorem tStuffs:(Tryz.prog.globals[0]?).map (·.type)=some 174:=by kernel_rfl
set_option maxRecDepth 100000 in
theorem stuff_row{φ:Type}{enc:TypeId×Value->φ}{w:World}{base:Nat}{spare:Nat->Bool}{held:Bool}{fuel:Nat}{cs:List Value}{x:DataW φ×List MemPlace}(h:DataW.trod enc Tryz.prog w base spare held fuel 142 cs=some x):∃l:List Int,l.length=5/\cs=l.map (λn=>.int .i64 n)/\x.1=.agg (l.map λn=>.lit (.int .i64 n)):=by
 obtain⟨xs,n,rfl,rfl,hl,hlen,hf⟩:=DataW.trod_struct Tryz.underlying142 h;have c5:Tryz.prog.cellsOf 142=5:=by kernel_rfl
 have c1:Tryz.prog.cellsOf 3=1:=by kernel_rfl
 rw[c5]at hl;have hlen:xs.length=5:=hlen
 match cs,hl,xs,hlen,hf with
 |[k0,k1,k2,k3,k4],_,[y0,y1,y2,y3,y4],_,hf=>have h0:DataW.trod enc Tryz.prog w base spare held n 3 (List.take (Tryz.prog.cellsOf 3) (List.drop 0 [k0,k1,k2,k3,k4]))=some y0:=hf 0 _ rfl;have h1:DataW.trod enc Tryz.prog w base spare held n 3 (List.take (Tryz.prog.cellsOf 3) (List.drop 1 [k0,k1,k2,k3,k4]))=some y1:=hf 1 _ rfl;have h2:DataW.trod enc Tryz.prog w base spare held n 3 (List.take (Tryz.prog.cellsOf 3) (List.drop 2 [k0,k1,k2,k3,k4]))=some y2:=hf 2 _ rfl;have h3:DataW.trod enc Tryz.prog w base spare held n 3 (List.take (Tryz.prog.cellsOf 3) (List.drop 3 [k0,k1,k2,k3,k4]))=some y3:=hf 3 _ rfl;have h4:DataW.trod enc Tryz.prog w base spare held n 3 (List.take (Tryz.prog.cellsOf 3) (List.drop 4 [k0,k1,k2,k3,k4]))=some y4:=hf 4 _ rfl;rw[c1]at h0 h1 h2 h3 h4;obtain⟨a0,e0,rfl,_⟩:=DataW.trod_int Tryz.underlying3 (show DataW.trod enc Tryz.prog w base spare held n 3 [k0]=some y0 from h0);obtain⟨a1,e1,rfl,_⟩:=DataW.trod_int Tryz.underlying3 (show DataW.trod enc Tryz.prog w base spare held n 3 [k1]=some y1 from h1);obtain⟨a2,e2,rfl,_⟩:=DataW.trod_int Tryz.underlying3 (show DataW.trod enc Tryz.prog w base spare held n 3 [k2]=some y2 from h2);obtain⟨a3,e3,rfl,_⟩:=DataW.trod_int Tryz.underlying3 (show DataW.trod enc Tryz.prog w base spare held n 3 [k3]=some y3 from h3);obtain⟨a4,e4,rfl,_⟩:=DataW.trod_int Tryz.underlying3 (show DataW.trod enc Tryz.prog w base spare held n 3 [k4]=some y4 from h4);simp only[List.cons.injEq,and_true]at e0 e1 e2 e3 e4;subst e0 e1 e2 e3 e4;exact⟨[a0,a1,a2,a3,a4],rfl,rfl,rfl⟩
def U4(i:Nat):List Int:=(List.range 5).map λk=>(Am.GT 0).getD (i*5+k) 0
theorem aN:(Rows.laid_putlog_unit_stuffs:DataW Unit)=.agg ((List.range 8).map λi=>.agg ((U4 i).map λn=>.lit (.int .i64 n))):=rfl
theorem XV{ρ:World}(h:laidMetH Tryz.prog [("putlog/unit.stuffs",Rows.laid_putlog_unit_stuffs)] ρ):Am.GlW ρ:=by
 rw[MakeChecks.laidMetH_plain _ _ _ (by kernel_rfl)]at h;obtain⟨ps,⟨g0,t0,cs0,f0,p0,q0,hg0,ht0,hv0,hd0,_,_⟩,_,_⟩:=h;obtain rfl:=Option.some.inj (gStuffs.symm.trans hg0);obtain rfl:=Option.some.inj (tStuffs.symm.trans ht0);obtain⟨xs,m1,rfl,hx1,hlen,hn3,hel⟩:=DataW.trod_array Tryz.underlying174 hd0;have c5:Tryz.prog.cellsOf 142=5:=by kernel_rfl
 rw[c5]at hel;rw[aN]at hx1;simp only[Prod.mk.injEq,DataW.agg.injEq]at hx1;obtain⟨hx1,_⟩:=hx1;have hrow:∀i,i<8->(cs0.toList.drop (i*5)).take 5=(U4 i).map λn=>.int .i64 n:=by
  intro i hi;have h1:=hel i hi;have hxi:i<xs.length:=by omega
  rw[List.getElem?_eq_getElem hxi]at h1;obtain⟨l,l5,e1,e2⟩:=stuff_row h1;have h2:xs[i].1=.agg ((U4 i).map λn=>.lit (.int .i64 n)):=by have:=congrArg (λl=>l[i]?) hx1;simp only[List.getElem?_map,List.getElem?_range hi,List.getElem?_eq_getElem hxi,Option.map_some,Option.some.injEq]at this;exact this.symm
  rw[e2]at h2;simp only[DataW.agg.injEq]at h2;have h3:l=U4 i:=by refine(List.map_inj_right (λa b hab=>?_)).1 h2;simp only[DataW.lit.injEq,Lit.int.injEq,true_and]at hab;exact hab
  rw[e1,h3]
 intro b j hj;cases b with
 |succ b=>exact absurd hj (by simp[Am.GT])
 |zero=>
  have hj:j<40:=hj;have:=World.var?_cell hg0 hv0 j;rw[this];have h1:=hrow (j/5) (by omega);have h2:((cs0.toList.drop (j/5*5)).take 5)[j%5]? =cs0[j]? :=by rw[List.getElem?_take,if_pos (Nat.mod_lt _ (by omega)),List.getElem?_drop,show j/5*5+j%5=j by omega];simp
  rw[<-h2,h1];unfold U4;rw[List.getElem?_map,List.getElem?_map,List.getElem?_range (Nat.mod_lt _ (by omega))];simp only[Option.map_some];rw[show j/5*5+j%5=j by omega]
theorem iD(os:Os)(args:Array Value):laidMetH Tryz.prog [("putlog/unit.stuffs",Rows.laid_putlog_unit_stuffs)] ((World.doorLaid Tryz.prog 400 os).forCall (λ_ _=>0) ⟨#[],args,[]⟩).memory:=laidMetH_of_parts3 (fuel:=8) (laidMet_of_run' 8 (by kernel_rfl) (by kernel_rfl)) (by kernel_rfl) (by kernel_rfl)
