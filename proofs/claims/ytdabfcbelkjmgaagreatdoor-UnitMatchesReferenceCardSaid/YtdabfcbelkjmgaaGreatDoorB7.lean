import Derived.Test.YtdabfcbelkjmgaaGreatDoorW7
import Derived.Test.YtdabfcbelkjmgaaGreatDoorA7
import Derived.Test.YtdabfcbelkjmgaaGreatDoorV1
import Derived.SevenTiedAt
import Derived.ProofKit
namespace Go.Proofs.YtdabfcbelkjmgaaGreatDoor.Am
set_option linter.unusedVariables false
set_option linter.unusedSimpArgs false
open Go
theorem wQ {rows:List (List AV)} (h:∀r∈rows,CellsOK [.i,.i] r):∃l:List (Int×Int),rows=l.map R9∧∀n∈l,inJ n.1∧inJ n.2:=by
 induction rows with
 |nil=>exact⟨[],rfl,by simp⟩
 |cons r rows ih=>
  obtain⟨l,rfl,hh⟩:=ih fun r hr=>h r (by simp[hr])
  have:=h r (by simp)
  simp only[CellsOK,CellOK] at this
  obtain⟨_,_,rfl,⟨a0,h0,rfl⟩,_,_,rfl,⟨a1,h1,rfl⟩,rfl⟩:=this
  exact⟨(a0,a1)::l,rfl,fun m hm=>by rcases List.mem_cons.1 hm with rfl|hm;exact⟨h0,h1⟩;exact hh m hm⟩
theorem wP (cs:List AV) (h:ArgsOK [(false,[.s [.i,.i]]),(false,[.s [.i,.i]]),(false,[.i]),(true,[.i,.i,.i,.i]),(true,[.i,.i,.i,.i]),(true,[.i,.i,.i]),(true,[.i,.i,.i,.s [.i,.i],.i,.i]),(false,[.i]),(false,[.i]),(false,[.t]),(false,[.i]),(false,[.y])] cs):PCall Tryz.prog 3 cs (.b true):=by
 simp only[ArgsOK] at h
 obtain⟨a0,_,rfl,ha0,a1,_,rfl,ha1,a2,_,rfl,ha2,a3,_,rfl,ha3,a4,_,rfl,ha4,a5,_,rfl,ha5,a6,_,rfl,ha6,a7,_,rfl,ha7,a8,_,rfl,ha8,a9,_,rfl,ha9,a10,_,rfl,ha10,a11,_,rfl,ha11,rfl⟩:=h
 simp only[ArgOK,CellsOK,CellOK] at ha0
 obtain⟨_,_,e0,⟨rv0_0,rfl,kv0_0⟩,rfl⟩:=ha0
 simp at e0;subst e0
 obtain⟨v0_0,rfl,qv0_0⟩:=wQ (by simpa only[CellsOK,CellOK] using kv0_0)
 simp only[ArgOK,CellsOK,CellOK] at ha1
 obtain⟨_,_,e1,⟨rv1_0,rfl,kv1_0⟩,rfl⟩:=ha1
 simp at e1;subst e1
 obtain⟨v1_0,rfl,qv1_0⟩:=wQ (by simpa only[CellsOK,CellOK] using kv1_0)
 simp only[ArgOK,CellsOK,CellOK] at ha2
 obtain⟨_,_,e2,⟨v2_0,kv2_0,rfl⟩,rfl⟩:=ha2
 simp at e2;subst e2
 simp only[ArgOK,CellsOK,CellOK] at ha3
 obtain⟨_,rfl,_,_,rfl,⟨v3_0,kv3_0,rfl⟩,_,_,rfl,⟨v3_1,kv3_1,rfl⟩,_,_,rfl,⟨v3_2,kv3_2,rfl⟩,_,_,rfl,⟨v3_3,kv3_3,rfl⟩,rfl⟩:=ha3
 simp only[ArgOK,CellsOK,CellOK] at ha4
 obtain⟨_,rfl,_,_,rfl,⟨v4_0,kv4_0,rfl⟩,_,_,rfl,⟨v4_1,kv4_1,rfl⟩,_,_,rfl,⟨v4_2,kv4_2,rfl⟩,_,_,rfl,⟨v4_3,kv4_3,rfl⟩,rfl⟩:=ha4
 simp only[ArgOK,CellsOK,CellOK] at ha5
 obtain⟨_,rfl,_,_,rfl,⟨v5_0,kv5_0,rfl⟩,_,_,rfl,⟨v5_1,kv5_1,rfl⟩,_,_,rfl,⟨v5_2,kv5_2,rfl⟩,rfl⟩:=ha5
 simp only[ArgOK,CellsOK,CellOK] at ha6
 obtain⟨_,rfl,_,_,rfl,⟨v6_0,kv6_0,rfl⟩,_,_,rfl,⟨v6_1,kv6_1,rfl⟩,_,_,rfl,⟨v6_2,kv6_2,rfl⟩,_,_,rfl,⟨rv6_3,rfl,kv6_3⟩,_,_,rfl,⟨v6_4,kv6_4,rfl⟩,_,_,rfl,⟨v6_5,kv6_5,rfl⟩,rfl⟩:=ha6
 obtain⟨v6_3,rfl,qv6_3⟩:=wQ (by simpa only[CellsOK,CellOK] using kv6_3)
 simp only[ArgOK,CellsOK,CellOK] at ha7
 obtain⟨_,_,e7,⟨v7_0,kv7_0,rfl⟩,rfl⟩:=ha7
 simp at e7;subst e7
 simp only[ArgOK,CellsOK,CellOK] at ha8
 obtain⟨_,_,e8,⟨v8_0,kv8_0,rfl⟩,rfl⟩:=ha8
 simp at e8;subst e8
 simp only[ArgOK,CellsOK,CellOK] at ha9
 obtain⟨_,_,e9,⟨v9_0,kv9_0,rfl⟩,rfl⟩:=ha9
 simp at e9;subst e9
 simp only[ArgOK,CellsOK,CellOK] at ha10
 obtain⟨_,_,e10,⟨v10_0,kv10_0,rfl⟩,rfl⟩:=ha10
 simp at e10;subst e10
 simp only[ArgOK,CellsOK,CellOK] at ha11
 obtain⟨_,_,e11,⟨v11_0,kv11_0,rfl⟩,rfl⟩:=ha11
 simp at e11;subst e11
 refine PCall.arg ?_ (Vw 2000 v0_0 v1_0 v2_0 v3_0 v3_1 v3_2 v3_3 v4_0 v4_1 v4_2 v4_3 v5_0 v5_1 v5_2 v6_0 v6_1 v6_2 v6_3 v6_4 v6_5 v7_0 v8_0 v9_0 v10_0 v11_0 true ?_)
 ·simp only[wkL,wk,and_true,true_and,Bool.false_eq_true,false_implies,implies_true,List.map_map]
  try (repeat' (first|exact True.intro|exact rfl|exact .inl rfl|exact .inl True.intro|apply And.intro))
 ·exact wN v0_0 v1_0 v2_0 v3_0 v3_1 v3_2 v3_3 v4_0 v4_1 v4_2 v4_3 v5_0 v5_1 v5_2 v6_0 v6_1 v6_2 v6_3 v6_4 v6_5 v7_0 v8_0 v9_0 v10_0 v11_0 qv0_0 qv1_0 kv2_0 kv3_0 kv3_1 kv3_2 kv3_3 kv4_0 kv4_1 kv4_2 kv4_3 kv5_0 kv5_1 kv5_2 kv6_0 kv6_1 kv6_2 qv6_3 kv6_4 kv6_5 kv7_0 kv8_0 kv9_0 kv10_0 kv11_0
end Go.Proofs.YtdabfcbelkjmgaaGreatDoor.Am
namespace Go.Proofs.YtdabfcbelkjmgaaGreatDoor
open Go.ChangeShapes Go.WideShapes Go.ChangeAt Go.RowKit
set_option linter.unusedVariables false
set_option maxRecDepth 100000 in
theorem unitMatchesReference_lifted (os:Os) (started:os.Started) (H:Type) (enc:TypeId×Value→H):
  ReturnsInHanded {} Tryz.checked os 3 .any (fun w args=>(Rows.unitMatchesReferenceSpec.pre enc Tryz.prog Tryz.f3 [] false w args∧laidMetH Tryz.prog [("putlog/unit.stuffs",Rows.laid_putlog_unit_stuffs)] w)∧sizedMet enc Tryz.prog Tryz.f3 (OpenSpec.ofChange Rows.unitMatchesReferenceSpec) false w args)
   (Rows.unitMatchesReferenceSpec.post enc Tryz.prog Tryz.f3 false true false false):=by
 refine returnsInHanded_of_change_and (C:=Tryz.checked) (X:=fun w _=>laidMetH Tryz.prog [("putlog/unit.stuffs",Rows.laid_putlog_unit_stuffs)] w) (fun _ _ _ hh h=>h.of_heap hh) RY started (by kernel_rfl) Tryz.func3
  (ChangeSpec.witness_shaped (enc:=enc) (C:=Tryz.checked) (os:=os) (X:=fun w _=>laidMetH Tryz.prog [("putlog/unit.stuffs",Rows.laid_putlog_unit_stuffs)] w) false (World.doorLaid Tryz.prog 400 os) #[.slice none 0 0,.slice none 0 0,.int .i64 0,.agg #[.int .i64 0,.int .i64 0,.int .i64 0,.int .i64 0],.agg #[.int .i64 0,.int .i64 0,.int .i64 0,.int .i64 0],.agg #[.int .i64 0,.int .i64 0,.int .i64 0],.agg #[.int .i64 0,.int .i64 0,.int .i64 0,.slice none 0 0,.int .i64 0,.int .i64 0],.int .i64 0,.int .i64 0,.string .empty,.int .i64 0,.int .u8 0] 8 rfl (World.shaped_of_RefB (by kernel_rfl) (by kernel_rfl)) (by kernel_rfl) (by kernel_rfl) (by kernel_rfl) (Rq os _)) ?_
 intro W base args ds gs before hval hW _ _ hL _
 exact Am.PF (P:=Tryz.prog) (fn:=Tryz.f3) (s:=Rows.unitMatchesReferenceSpec) (tb:=4) Am.wP (by kernel_rfl) rfl
  (fun ds h=>match ds,h with
   |[_,_,_,_,_,_,_,_,_,_,_,_],_=>rfl) (by kernel_rfl) (by kernel_rfl) RK (by kernel_rfl) W base args ds gs before hval hW (QF hL)
theorem unitMatchesReference_row:Rows.UnitMatchesReferenceSaid:=
 OpenClaim.holds_of_wide 3 Tryz.f3 rfl rfl rfl rfl rfl rfl rfl ⟨rfl,rfl,rfl,rfl,rfl⟩ rfl rfl rfl rfl rfl (by kernel_rfl) Tryz.func3 (by kernel_rfl)
  (of_decide_eq_true (by kernel_rfl)) (by unfold Func.isWrapper;first|(rw[if_pos (by decide+kernel)];kernel_rfl)|(rw[if_neg (by decide+kernel)];exact⟨rfl,rfl⟩))
  (fun os started H enc _=>unitMatchesReference_lifted os started H enc)
theorem unitMatchesReference_holds:Rows.UnitMatchesReferenceCardSaid:=
 Claim7.holds_tied_plain_at .later [] [.data] true (true, "d261c41431c59ad4504136937da8c03b7cacd7e6bcb6f33c61db9d6a6bf8df2b") true
  unitMatchesReference_row (fun _ h=>by cases h) (by kernel_rfl) (fun _ h=>by cases h) unitMatchesReference_row_tie rfl ⟨rfl,rfl⟩ (by kernel_rfl) rfl
  (fun f fn hf hfn=>by
   obtain rfl:f=3:=Option.some.inj ((show Tryz.prog.funcNamed "putlog/putloglaw08.UnitMatchesReference" =some 3 by kernel_rfl).symm.trans hf)|>.symm
   obtain rfl:fn=Tryz.f3:=(Option.some.inj (Tryz.func3.symm.trans hfn)).symm
   exact⟨by kernel_rfl,fun j t ht=>by
    have hall:(Tryz.f3.params.toList.all fun u=> !Tryz.prog.wantsStandIn u)=true:=by kernel_rfl
    have hm:t∈Tryz.f3.params.toList:=by simpa using Array.mem_of_getElem? ht
    exact(show Tryz.prog.wantsStandIn t=false by simpa using List.all_eq_true.1 hall t hm)⟩)
  (by kernel_rfl)
end Go.Proofs.YtdabfcbelkjmgaaGreatDoor
