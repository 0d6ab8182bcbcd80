import Derived.Test.YtjdchfljifacoaaGreatDoorYK
import Derived.Test.YtjdchfljifacoaaGreatDoorV1
set_option linter.all false
namespace Go.Proofs.YtjdchfljifacoaaGreatDoor.Am
open Go
theorem Sw{rows:List (List AV)}(h:∀r∈rows,CellsOK [.i,.i,.i,.i,.i,.i] r):∃l:List (Int×Int×Int×Int×Int×Int),rows=l.map HW/\∀n∈l,MH n.1/\MH n.2.1/\MH n.2.2.1/\MH n.2.2.2.1/\MH n.2.2.2.2.1/\MH n.2.2.2.2.2:=by
 induction rows with
 |nil=>exact⟨[],rfl,by simp⟩
 |cons r rows ih=>
  obtain⟨l,rfl,hh⟩:=ih λr hr=>h r (by simp[hr])
  have:=h r (by simp);simp only[CellsOK,CellOK]at this;obtain⟨_,_,rfl,⟨a0,h0,rfl⟩,_,_,rfl,⟨a1,h1,rfl⟩,_,_,rfl,⟨a2,h2,rfl⟩,_,_,rfl,⟨a3,h3,rfl⟩,_,_,rfl,⟨a4,h4,rfl⟩,_,_,rfl,⟨a5,h5,rfl⟩,rfl⟩:=this;exact⟨(a0,a1,a2,a3,a4,a5)::l,rfl,λm hm=>by rcases List.mem_cons.1 hm with rfl|hm;exact⟨h0,h1,h2,h3,h4,h5⟩;exact hh m hm⟩
theorem mM{rows:List (List AV)}(h:∀r∈rows,CellsOK [.i,.i,.i,.i] r):∃l:List (Int×Int×Int×Int),rows=l.map Ky/\∀n∈l,MH n.1/\MH n.2.1/\MH n.2.2.1/\MH n.2.2.2:=by
 induction rows with
 |nil=>exact⟨[],rfl,by simp⟩
 |cons r rows ih=>
  obtain⟨l,rfl,hh⟩:=ih λr hr=>h r (by simp[hr])
  have:=h r (by simp);simp only[CellsOK,CellOK]at this;obtain⟨_,_,rfl,⟨a0,h0,rfl⟩,_,_,rfl,⟨a1,h1,rfl⟩,_,_,rfl,⟨a2,h2,rfl⟩,_,_,rfl,⟨a3,h3,rfl⟩,rfl⟩:=this;exact⟨(a0,a1,a2,a3)::l,rfl,λm hm=>by rcases List.mem_cons.1 hm with rfl|hm;exact⟨h0,h1,h2,h3⟩;exact hh m hm⟩
theorem Xy(cs:List AV)(h:ArgsOK [(true,[.s [.i,.i,.i,.i,.i,.i],.s [.i,.i,.i,.i],.s [.i,.i,.i,.i,.i,.i]]),(false,[.i]),(false,[.i]),(false,[.i]),(false,[.i])] cs):PCall Tryz.prog 3 cs (.b true):=by
 simp only[ArgsOK]at h;obtain⟨a0,_,rfl,ha0,a1,_,rfl,ha1,a2,_,rfl,ha2,a3,_,rfl,ha3,a4,_,rfl,ha4,rfl⟩:=h;simp only[ArgOK,CellsOK,CellOK]at ha0;obtain⟨_,rfl,_,_,rfl,⟨rv0_0,rfl,kv0_0⟩,_,_,rfl,⟨rv0_1,rfl,kv0_1⟩,_,_,rfl,⟨rv0_2,rfl,kv0_2⟩,rfl⟩:=ha0;obtain⟨v0_0,rfl,qv0_0⟩:=Sw (by simpa only[CellsOK,CellOK]using kv0_0);obtain⟨v0_1,rfl,qv0_1⟩:=mM (by simpa only[CellsOK,CellOK]using kv0_1);obtain⟨v0_2,rfl,qv0_2⟩:=Sw (by simpa only[CellsOK,CellOK]using kv0_2);simp only[ArgOK,CellsOK,CellOK]at ha1;obtain⟨_,_,e1,⟨v1_0,kv1_0,rfl⟩,rfl⟩:=ha1;simp at e1;subst e1;simp only[ArgOK,CellsOK,CellOK]at ha2;obtain⟨_,_,e2,⟨v2_0,kv2_0,rfl⟩,rfl⟩:=ha2;simp at e2;subst e2;simp only[ArgOK,CellsOK,CellOK]at ha3;obtain⟨_,_,e3,⟨v3_0,kv3_0,rfl⟩,rfl⟩:=ha3;simp at e3;subst e3;simp only[ArgOK,CellsOK,CellOK]at ha4;obtain⟨_,_,e4,⟨v4_0,kv4_0,rfl⟩,rfl⟩:=ha4;simp at e4;subst e4;refine PCall.arg ?_ (LL 2000 v0_0 v0_1 v0_2 v1_0 v2_0 v3_0 v4_0 true ?_)
 ·simp only[HX,Q0,HX,GW,wk,and_true,true_and,yF,false_implies,implies_true,List.map_map];try (repeat' (first|exact yT|exact rfl|exact .inl rfl|exact .inl yT|apply And.intro))
 ·exact VH v0_0 v0_1 v0_2 v1_0 v2_0 v3_0 v4_0 qv0_0 qv0_1 qv0_2 kv1_0 kv2_0 kv3_0 kv4_0
end Go.Proofs.YtjdchfljifacoaaGreatDoor.Am
namespace Go.Proofs.YtjdchfljifacoaaGreatDoor
open Go.ChangeShapes Go.WideShapes Go.ChangeAt Go.RowKit
set_option maxRecDepth 100000 in
theorem actCuts_lifted(os:Os)(started:os.Started)(φ:Type)(enc:TypeId×Value->φ):ReturnsInHanded {} Tryz.checked os 3 .any (λw args=>(Rows.actCutsSpec.pre enc Tryz.prog Tryz.f3 [] false w args/\laidMetH Tryz.prog [("putlog/unit.stuffs",Rows.laid_putlog_unit_stuffs)] w)/\sizedMet enc Tryz.prog Tryz.f3 (OpenSpec.ofChange Rows.actCutsSpec) false w args)
   (Rows.actCutsSpec.post enc Tryz.prog Tryz.f3 false true false false):=by
 refine returnsInHanded_of_change_and (C:=Tryz.checked) (X:=λw _=>laidMetH Tryz.prog [("putlog/unit.stuffs",Rows.laid_putlog_unit_stuffs)] w) (λ_ _ _ hh h=>h.of_heap hh) aM started (by kernel_rfl) Tryz.func3
  (ChangeSpec.witness_shaped (enc:=enc) (C:=Tryz.checked) (os:=os) (X:=λw _=>laidMetH Tryz.prog [("putlog/unit.stuffs",Rows.laid_putlog_unit_stuffs)] w) false (World.doorLaid Tryz.prog 400 os) #[.agg #[.slice none 0 0,.slice none 0 0,.slice none 0 0],.int .i64 0,.int .i64 0,.int .i64 0,.int .i64 0] 8 rfl (World.shaped_of_RefB (by kernel_rfl) (by kernel_rfl)) (by kernel_rfl) (by kernel_rfl) (by kernel_rfl) (iD os _)) ?_
 intro ρ base args ds gs before hval hW _ _ hL _;exact Am.TZ (P:=Tryz.prog) (fn:=Tryz.f3) (s:=Rows.actCutsSpec) (tb:=4) Am.Xy (by kernel_rfl) rfl
  (λds h=>match ds,h with
   |[_,_,_,_,_],_=>rfl) (by kernel_rfl) (by kernel_rfl) WR (by kernel_rfl) ρ base args ds gs before hval hW (XV hL)
theorem actCuts_row:Rows.ActCutsSaid:=
 OpenClaim.holds_of_wide 3 Tryz.f3 rfl rfl rfl rfl rfl rfl rfl ⟨rfl,rfl,rfl,rfl,rfl⟩ rfl rfl rfl rfl rfl (by kernel_rfl) Tryz.func3 (by kernel_rfl)
  (of_decide_eq_true (by kernel_rfl)) (by unfold Func.isWrapper;first|(rw[if_pos (by decide+kernel)];kernel_rfl)|(rw[if_neg (by decide+kernel)];exact⟨rfl,rfl⟩))
  (λos started φ enc _=>actCuts_lifted os started φ enc)
theorem actCuts_holds:Rows.ActCutsCardSaid:=
 Claim7.holds_tied_plain_at .later [] [.data] true (true, "78ba325fcc1639ad3264abfc53dc6d5349239b4ffe3fde9783f937ad37e1a5f6") true
  actCuts_row (λ_ h=>by cases h) (by kernel_rfl) (λ_ h=>by cases h) actCuts_row_tie rfl ⟨rfl,rfl⟩ (by kernel_rfl) rfl
  (λf fn hf hfn=>by
   obtain rfl:f=3:=Option.some.inj ((show Tryz.prog.funcNamed "putlog/putloglaw17.ActCuts" =some 3 by kernel_rfl).symm.trans hf)|>.symm
   obtain rfl:fn=Tryz.f3:=(Option.some.inj (Tryz.func3.symm.trans hfn)).symm;exact⟨by kernel_rfl,λj t ht=>by
    have hall:(Tryz.f3.params.toList.all λu=> !Tryz.prog.wantsStandIn u)=true:=by kernel_rfl
    have hm:t∈Tryz.f3.params.toList:=by simpa using Array.mem_of_getElem? ht
    exact(show Tryz.prog.wantsStandIn t=false by simpa using List.all_eq_true.1 hall t hm)⟩)
  (by kernel_rfl)
end Go.Proofs.YtjdchfljifacoaaGreatDoor
