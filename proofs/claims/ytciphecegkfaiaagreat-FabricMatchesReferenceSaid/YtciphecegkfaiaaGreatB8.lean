import Derived.Test.YtciphecegkfaiaaGreatN8
import Derived.Test.YtciphecegkfaiaaGreatA7
import Derived.Test.YtciphecegkfaiaaGreatRows
set_option linter.unusedVariables false
set_option linter.unusedSimpArgs false
namespace Go.Proofs.YtciphecegkfaiaaGreat.Am
open Go
theorem bY{rows:List (List AV)}(h:∀r∈rows,CellsOK [.i,.i,.i,.i,.i,.i] r):∃l:List (Int×Int×Int×Int×Int×Int),rows=l.map HS/\∀n∈l,Pj n.1/\Pj n.2.1/\Pj n.2.2.1/\Pj n.2.2.2.1/\Pj n.2.2.2.2.1/\Pj n.2.2.2.2.2:=by
 induction rows with
 |nil=>exact⟨[],rfl,by simp⟩
 |cons r rows ih=>
  obtain⟨l,rfl,hh⟩:=ih λr hr=>h r (by simp[hr])
  have:=h r (by simp);simp only[CellsOK,CellOK]at this;obtain⟨_,_,rfl,⟨a0,h0,rfl⟩,_,_,rfl,⟨a1,h1,rfl⟩,_,_,rfl,⟨a2,h2,rfl⟩,_,_,rfl,⟨a3,h3,rfl⟩,_,_,rfl,⟨a4,h4,rfl⟩,_,_,rfl,⟨a5,h5,rfl⟩,rfl⟩:=this;exact⟨(a0,a1,a2,a3,a4,a5)::l,rfl,λm hm=>by rcases List.mem_cons.1 hm with rfl|hm;exact⟨h0,h1,h2,h3,h4,h5⟩;exact hh m hm⟩
theorem nZ{rows:List (List AV)}(h:∀r∈rows,CellsOK [.i,.i] r):∃l:List (Int×Int),rows=l.map By/\∀n∈l,Pj n.1/\Pj n.2:=by
 induction rows with
 |nil=>exact⟨[],rfl,by simp⟩
 |cons r rows ih=>
  obtain⟨l,rfl,hh⟩:=ih λr hr=>h r (by simp[hr])
  have:=h r (by simp);simp only[CellsOK,CellOK]at this;obtain⟨_,_,rfl,⟨a0,h0,rfl⟩,_,_,rfl,⟨a1,h1,rfl⟩,rfl⟩:=this;exact⟨(a0,a1)::l,rfl,λm hm=>by rcases List.mem_cons.1 hm with rfl|hm;exact⟨h0,h1⟩;exact hh m hm⟩
theorem Uq{rows:List (List AV)}(h:∀r∈rows,CellsOK [.i,.i,.i,.s [.i,.i],.i,.i] r):∃l:List (Int×Int×Int×(List (Int×Int))×Int×Int),J0 rows (l.map Ak):=by
 induction rows with
 |nil=>exact⟨[],by simp[J0]⟩
 |cons r rows ih=>
  obtain⟨l,hl⟩:=ih λr hr=>h r (by simp[hr])
  have:=h r (by simp);simp only[CellsOK,CellOK]at this;obtain⟨_,_,rfl,⟨a0,ha0,rfl⟩,_,_,rfl,⟨a1,ha1,rfl⟩,_,_,rfl,⟨a2,ha2,rfl⟩,_,_,rfl,⟨Ra3,rfl,ha3⟩,_,_,rfl,⟨a4,ha4,rfl⟩,_,_,rfl,⟨a5,ha5,rfl⟩,rfl⟩:=this;obtain⟨a3,rfl,_⟩:=nZ (by simpa only[CellsOK,CellOK]using ha3);refine⟨(a0,a1,a2,a3,a4,a5)::l,?_⟩;rw[List.map_cons];refine⟨?_,hl⟩;simp only[Ak,A3,Ih,wk,and_true,true_and,yF,false_implies,implies_true,List.map_map];try (repeat' (first|exact yT|exact rfl|exact .inl rfl|exact .inl yT|apply And.intro))
theorem LN(cs:List AV)(h:ArgsOK [(false,[.s [.i,.i,.i,.i,.i,.i]]),(true,[.i,.i,.i]),(false,[.s [.i,.i,.i,.s [.i,.i],.i,.i]]),(true,[.i,.i,.i,.s [.i,.i],.i,.i]),(true,[.i,.i,.i,.i,.i,.i]),(false,[.i]),(false,[.i]),(false,[.i]),(false,[.i]),(false,[.y]),(false,[.t])] cs):PCall Tryz.prog 3 cs (.b true):=by
 simp only[ArgsOK]at h;obtain⟨a0,_,rfl,ha0,a1,_,rfl,ha1,a2,_,rfl,ha2,a3,_,rfl,ha3,a4,_,rfl,ha4,a5,_,rfl,ha5,a6,_,rfl,ha6,a7,_,rfl,ha7,a8,_,rfl,ha8,a9,_,rfl,ha9,a10,_,rfl,ha10,rfl⟩:=h;simp only[ArgOK,CellsOK,CellOK]at ha0;obtain⟨_,_,e0,⟨rv0_0,rfl,kv0_0⟩,rfl⟩:=ha0;simp at e0;subst e0;obtain⟨v0_0,rfl,qv0_0⟩:=bY (by simpa only[CellsOK,CellOK]using kv0_0);simp only[ArgOK,CellsOK,CellOK]at ha1;obtain⟨_,rfl,_,_,rfl,⟨v1_0,kv1_0,rfl⟩,_,_,rfl,⟨v1_1,kv1_1,rfl⟩,_,_,rfl,⟨v1_2,kv1_2,rfl⟩,rfl⟩:=ha1;simp only[ArgOK,CellsOK,CellOK]at ha2;obtain⟨_,_,e2,⟨rv2_0,rfl,kv2_0⟩,rfl⟩:=ha2;simp at e2;subst e2;obtain⟨v2_0,qv2_0⟩:=Uq (by simpa only[CellsOK,CellOK]using kv2_0);simp only[ArgOK,CellsOK,CellOK]at ha3;obtain⟨_,rfl,_,_,rfl,⟨v3_0,kv3_0,rfl⟩,_,_,rfl,⟨v3_1,kv3_1,rfl⟩,_,_,rfl,⟨v3_2,kv3_2,rfl⟩,_,_,rfl,⟨rv3_3,rfl,kv3_3⟩,_,_,rfl,⟨v3_4,kv3_4,rfl⟩,_,_,rfl,⟨v3_5,kv3_5,rfl⟩,rfl⟩:=ha3;obtain⟨v3_3,rfl,qv3_3⟩:=nZ (by simpa only[CellsOK,CellOK]using kv3_3);simp only[ArgOK,CellsOK,CellOK]at ha4;obtain⟨_,rfl,_,_,rfl,⟨v4_0,kv4_0,rfl⟩,_,_,rfl,⟨v4_1,kv4_1,rfl⟩,_,_,rfl,⟨v4_2,kv4_2,rfl⟩,_,_,rfl,⟨v4_3,kv4_3,rfl⟩,_,_,rfl,⟨v4_4,kv4_4,rfl⟩,_,_,rfl,⟨v4_5,kv4_5,rfl⟩,rfl⟩:=ha4;simp only[ArgOK,CellsOK,CellOK]at ha5;obtain⟨_,_,e5,⟨v5_0,kv5_0,rfl⟩,rfl⟩:=ha5;simp at e5;subst e5;simp only[ArgOK,CellsOK,CellOK]at ha6;obtain⟨_,_,e6,⟨v6_0,kv6_0,rfl⟩,rfl⟩:=ha6;simp at e6;subst e6;simp only[ArgOK,CellsOK,CellOK]at ha7;obtain⟨_,_,e7,⟨v7_0,kv7_0,rfl⟩,rfl⟩:=ha7;simp at e7;subst e7;simp only[ArgOK,CellsOK,CellOK]at ha8;obtain⟨_,_,e8,⟨v8_0,kv8_0,rfl⟩,rfl⟩:=ha8;simp at e8;subst e8;simp only[ArgOK,CellsOK,CellOK]at ha9;obtain⟨_,_,e9,⟨v9_0,kv9_0,rfl⟩,rfl⟩:=ha9;simp at e9;subst e9;simp only[ArgOK,CellsOK,CellOK]at ha10;obtain⟨_,_,e10,⟨v10_0,kv10_0,rfl⟩,rfl⟩:=ha10;simp at e10;subst e10;refine PCall.argD ?_ (IC 2000 v0_0 v1_0 v1_1 v1_2 v2_0 v3_0 v3_1 v3_2 v3_3 v3_4 v3_5 v4_0 v4_1 v4_2 v4_3 v4_4 v4_5 v5_0 v6_0 v7_0 v8_0 v9_0 v10_0 true ?_)
 ·simp only[KI,Aj,A3,JP,Js,and_true,true_and,yF,false_implies,implies_true]
  repeat' (first|exact yT|exact rfl|exact .inl rfl|exact .inl yT|exact L5 _|exact qv0_0|exact qv2_0|exact qv3_3|apply And.intro)
 ·exact uO v0_0 v1_0 v1_1 v1_2 v2_0 v3_0 v3_1 v3_2 v3_3 v3_4 v3_5 v4_0 v4_1 v4_2 v4_3 v4_4 v4_5 v5_0 v6_0 v7_0 v8_0 v9_0 v10_0 qv0_0 kv1_0 kv1_1 kv1_2 kv4_0 kv4_1 kv4_2 kv4_3 kv4_4 kv4_5 kv5_0 kv6_0 kv7_0 kv8_0
end Go.Proofs.YtciphecegkfaiaaGreat.Am
namespace Go.Proofs.YtciphecegkfaiaaGreat
open Go.ChangeShapes Go.WideShapes Go.ChangeAt Go.RowKit
theorem bZ:ownKnob Tryz.prog.godebug=none:=by kernel_rfl
theorem XR:laidOutB Tryz.prog=true:=by kernel_rfl
set_option maxRecDepth 100000 in
theorem fabricMatchesReference_lifted(os:Os)(started:os.Started)(φ:Type)(enc:TypeId×Value->φ):ReturnsInHanded {} Tryz.checked os 3 .any (Rows.fabricMatchesReferenceSpec.pre6 enc Tryz.prog Tryz.f3 Rows.fabricMatchesReferenceRow.domain false) (Rows.fabricMatchesReferenceSpec.post enc Tryz.prog Tryz.f3 false true false false):=by
 refine returnsInHanded_of_change (C:=Tryz.checked) bZ started (by kernel_rfl) Tryz.func3
  (ChangeSpec.witness6 (enc:=enc) (C:=Tryz.checked) false ⟨#[],#[.slice none 0 0,.agg #[.int .i64 0,.int .i64 0,.int .i64 0],.slice none 0 0,.agg #[.int .i64 0,.int .i64 0,.int .i64 0,.slice none 0 0,.int .i64 0,.int .i64 0],.agg #[.int .i64 0,.int .i64 0,.int .i64 0,.int .i64 0,.int .i64 0,.int .i64 0],.int .i64 0,.int .i64 0,.int .i64 0,.int .i64 0,.int .u8 0,.string .empty],[]⟩ 8 (by kernel_rfl) (by kernel_rfl) (by kernel_rfl) (by kernel_rfl)) ?_
 intro ρ base args ds gs before hval hW _ _;exact Am.VA (P:=Tryz.prog) (fn:=Tryz.f3) (s:=Rows.fabricMatchesReferenceSpec) (tb:=4) Am.LN (by kernel_rfl) rfl
  (λds h=>match ds,h with
   |[_,_,_,_,_,_,_,_,_,_,_],_=>rfl) (by kernel_rfl) (by kernel_rfl) XR (by kernel_rfl) ρ base args ds gs before hval hW (λ_ _ h=>absurd h (Nat.not_lt_zero _))
theorem fabricMatchesReference_holds:Rows.FabricMatchesReferenceSaid:=
 OpenClaim.holds_of_wide 3 Tryz.f3 rfl rfl rfl rfl rfl rfl rfl ⟨rfl,rfl,rfl,rfl,rfl⟩ rfl rfl rfl rfl rfl (by kernel_rfl) Tryz.func3 (by kernel_rfl)
  (of_decide_eq_true (by kernel_rfl)) (by unfold Func.isWrapper;first|(rw[if_pos (by decide+kernel)];kernel_rfl)|(rw[if_neg (by decide+kernel)];exact⟨rfl,rfl⟩))
  (λos started φ enc _=>fabricMatchesReference_lifted os started φ enc)
end Go.Proofs.YtciphecegkfaiaaGreat
