import Derived.Test.YtjdchfljifacoaaGreatYI
import Derived.Test.YtjdchfljifacoaaGreatA7
import Derived.Test.YtjdchfljifacoaaGreatRows
set_option linter.all false
namespace Go.Proofs.YtjdchfljifacoaaGreat.Am
open Go
theorem Ue{rows:List (List AV)}(h:∀r∈rows,CellsOK [.i,.i,.i,.i,.i,.i] r):∃l:List (Int×Int×Int×Int×Int×Int),rows=l.map GQ/\∀n∈l,Oq n.1/\Oq n.2.1/\Oq n.2.2.1/\Oq n.2.2.2.1/\Oq n.2.2.2.2.1/\Oq n.2.2.2.2.2:=by
 induction rows with
 |nil=>exact⟨[],rfl,by simp⟩
 |cons r rows ih=>
  obtain⟨l,rfl,hh⟩:=ih λr hr=>h r (by simp[hr])
  have:=h r (by simp);simp only[CellsOK,CellOK]at this;obtain⟨_,_,rfl,⟨a0,h0,rfl⟩,_,_,rfl,⟨a1,h1,rfl⟩,_,_,rfl,⟨a2,h2,rfl⟩,_,_,rfl,⟨a3,h3,rfl⟩,_,_,rfl,⟨a4,h4,rfl⟩,_,_,rfl,⟨a5,h5,rfl⟩,rfl⟩:=this;exact⟨(a0,a1,a2,a3,a4,a5)::l,rfl,λm hm=>by rcases List.mem_cons.1 hm with rfl|hm;exact⟨h0,h1,h2,h3,h4,h5⟩;exact hh m hm⟩
theorem sC{rows:List (List AV)}(h:∀r∈rows,CellsOK [.i,.i,.i,.i] r):∃l:List (Int×Int×Int×Int),rows=l.map Kf/\∀n∈l,Oq n.1/\Oq n.2.1/\Oq n.2.2.1/\Oq n.2.2.2:=by
 induction rows with
 |nil=>exact⟨[],rfl,by simp⟩
 |cons r rows ih=>
  obtain⟨l,rfl,hh⟩:=ih λr hr=>h r (by simp[hr])
  have:=h r (by simp);simp only[CellsOK,CellOK]at this;obtain⟨_,_,rfl,⟨a0,h0,rfl⟩,_,_,rfl,⟨a1,h1,rfl⟩,_,_,rfl,⟨a2,h2,rfl⟩,_,_,rfl,⟨a3,h3,rfl⟩,rfl⟩:=this;exact⟨(a0,a1,a2,a3)::l,rfl,λm hm=>by rcases List.mem_cons.1 hm with rfl|hm;exact⟨h0,h1,h2,h3⟩;exact hh m hm⟩
theorem AjC{rows:List (List AV)}(h:∀r∈rows,CellsOK [.i,.i] r):∃l:List (Int×Int),rows=l.map Cz/\∀n∈l,Oq n.1/\Oq n.2:=by
 induction rows with
 |nil=>exact⟨[],rfl,by simp⟩
 |cons r rows ih=>
  obtain⟨l,rfl,hh⟩:=ih λr hr=>h r (by simp[hr])
  have:=h r (by simp);simp only[CellsOK,CellOK]at this;obtain⟨_,_,rfl,⟨a0,h0,rfl⟩,_,_,rfl,⟨a1,h1,rfl⟩,rfl⟩:=this;exact⟨(a0,a1)::l,rfl,λm hm=>by rcases List.mem_cons.1 hm with rfl|hm;exact⟨h0,h1⟩;exact hh m hm⟩
theorem AiM{rows:List (List AV)}(h:∀r∈rows,CellsOK [.i,.i,.i,.s [.i,.i],.i,.i] r):∃l:List (Int×Int×Int×(List (Int×Int))×Int×Int),Hk rows (l.map Au):=by
 induction rows with
 |nil=>exact⟨[],by simp[Hk]⟩
 |cons r rows ih=>
  obtain⟨l,hl⟩:=ih λr hr=>h r (by simp[hr])
  have:=h r (by simp);simp only[CellsOK,CellOK]at this;obtain⟨_,_,rfl,⟨a0,ha0,rfl⟩,_,_,rfl,⟨a1,ha1,rfl⟩,_,_,rfl,⟨a2,ha2,rfl⟩,_,_,rfl,⟨Ra3,rfl,ha3⟩,_,_,rfl,⟨a4,ha4,rfl⟩,_,_,rfl,⟨a5,ha5,rfl⟩,rfl⟩:=this;obtain⟨a3,rfl,_⟩:=AjC (by simpa only[CellsOK,CellOK]using ha3);refine⟨(a0,a1,a2,a3,a4,a5)::l,?_⟩;rw[List.map_cons];refine⟨?_,hl⟩;simp only[Au,BP,HS,wk,and_true,true_and,yF,false_implies,implies_true,List.map_map];try (repeat' (first|exact yT|exact rfl|exact .inl rfl|exact .inl yT|apply And.intro))
theorem Ajt{rows:List (List AV)}(h:∀r∈rows,CellsOK [.i,.i,.i,.i,.b] r):∃l:List (Int×Int×Int×Int×Bool),rows=l.map BZ/\∀n∈l,Oq n.1/\Oq n.2.1/\Oq n.2.2.1/\Oq n.2.2.2.1:=by
 induction rows with
 |nil=>exact⟨[],rfl,by simp⟩
 |cons r rows ih=>
  obtain⟨l,rfl,hh⟩:=ih λr hr=>h r (by simp[hr])
  have:=h r (by simp);simp only[CellsOK,CellOK]at this;obtain⟨_,_,rfl,⟨a0,h0,rfl⟩,_,_,rfl,⟨a1,h1,rfl⟩,_,_,rfl,⟨a2,h2,rfl⟩,_,_,rfl,⟨a3,h3,rfl⟩,_,_,rfl,⟨a4,h4,rfl⟩,rfl⟩:=this;exact⟨(a0,a1,a2,a3,a4)::l,rfl,λm hm=>by rcases List.mem_cons.1 hm with rfl|hm;exact⟨h0,h1,h2,h3⟩;exact hh m hm⟩
theorem Aim(cs:List AV)(h:ArgsOK [(true,[.s [.i,.i,.i,.i,.i,.i],.s [.i,.i,.i,.i],.s [.i,.i,.i,.i,.i,.i]]),(true,[.s [.i,.i,.i,.s [.i,.i],.i,.i],.s [.i,.i,.i,.i,.b]]),(true,[.i,.i,.i,.i,.s [.i,.i],.i,.i,.i,.i,.i,.i,.i,.i,.i,.b]),(false,[.i]),(false,[.i]),(false,[.i]),(false,[.t]),(false,[.y])] cs):PCall Tryz.prog 3 cs (.b true):=by
 simp only[ArgsOK]at h;obtain⟨a0,_,rfl,ha0,a1,_,rfl,ha1,a2,_,rfl,ha2,a3,_,rfl,ha3,a4,_,rfl,ha4,a5,_,rfl,ha5,a6,_,rfl,ha6,a7,_,rfl,ha7,rfl⟩:=h;simp only[ArgOK,CellsOK,CellOK]at ha0;obtain⟨_,rfl,_,_,rfl,⟨rv0_0,rfl,kv0_0⟩,_,_,rfl,⟨rv0_1,rfl,kv0_1⟩,_,_,rfl,⟨rv0_2,rfl,kv0_2⟩,rfl⟩:=ha0;obtain⟨v0_0,rfl,qv0_0⟩:=Ue (by simpa only[CellsOK,CellOK]using kv0_0);obtain⟨v0_1,rfl,qv0_1⟩:=sC (by simpa only[CellsOK,CellOK]using kv0_1);obtain⟨v0_2,rfl,qv0_2⟩:=Ue (by simpa only[CellsOK,CellOK]using kv0_2);simp only[ArgOK,CellsOK,CellOK]at ha1;obtain⟨_,rfl,_,_,rfl,⟨rv1_0,rfl,kv1_0⟩,_,_,rfl,⟨rv1_1,rfl,kv1_1⟩,rfl⟩:=ha1;obtain⟨v1_0,qv1_0⟩:=AiM (by simpa only[CellsOK,CellOK]using kv1_0);obtain⟨v1_1,rfl,qv1_1⟩:=Ajt (by simpa only[CellsOK,CellOK]using kv1_1);simp only[ArgOK,CellsOK,CellOK]at ha2;obtain⟨_,rfl,_,_,rfl,⟨v2_0,kv2_0,rfl⟩,_,_,rfl,⟨v2_1,kv2_1,rfl⟩,_,_,rfl,⟨v2_2,kv2_2,rfl⟩,_,_,rfl,⟨v2_3,kv2_3,rfl⟩,_,_,rfl,⟨rv2_4,rfl,kv2_4⟩,_,_,rfl,⟨v2_5,kv2_5,rfl⟩,_,_,rfl,⟨v2_6,kv2_6,rfl⟩,_,_,rfl,⟨v2_7,kv2_7,rfl⟩,_,_,rfl,⟨v2_8,kv2_8,rfl⟩,_,_,rfl,⟨v2_9,kv2_9,rfl⟩,_,_,rfl,⟨v2_10,kv2_10,rfl⟩,_,_,rfl,⟨v2_11,kv2_11,rfl⟩,_,_,rfl,⟨v2_12,kv2_12,rfl⟩,_,_,rfl,⟨v2_13,kv2_13,rfl⟩,_,_,rfl,⟨v2_14,rfl⟩,rfl⟩:=ha2;obtain⟨v2_4,rfl,qv2_4⟩:=AjC (by simpa only[CellsOK,CellOK]using kv2_4);simp only[ArgOK,CellsOK,CellOK]at ha3;obtain⟨_,_,e3,⟨v3_0,kv3_0,rfl⟩,rfl⟩:=ha3;simp at e3;subst e3;simp only[ArgOK,CellsOK,CellOK]at ha4;obtain⟨_,_,e4,⟨v4_0,kv4_0,rfl⟩,rfl⟩:=ha4;simp at e4;subst e4;simp only[ArgOK,CellsOK,CellOK]at ha5;obtain⟨_,_,e5,⟨v5_0,kv5_0,rfl⟩,rfl⟩:=ha5;simp at e5;subst e5;simp only[ArgOK,CellsOK,CellOK]at ha6;obtain⟨_,_,e6,⟨v6_0,kv6_0,rfl⟩,rfl⟩:=ha6;simp at e6;subst e6;simp only[ArgOK,CellsOK,CellOK]at ha7;obtain⟨_,_,e7,⟨v7_0,kv7_0,rfl⟩,rfl⟩:=ha7;simp at e7;subst e7;refine PCall.argD ?_ (Ahn 2000 v0_0 v0_1 v0_2 v1_0 v1_1 v2_0 v2_1 v2_2 v2_3 v2_4 v2_5 v2_6 v2_7 v2_8 v2_9 v2_10 v2_11 v2_12 v2_13 v2_14 v3_0 v4_0 v5_0 v6_0 v7_0 true ?_)
 ·simp only[GS,Ov,Ap,AS,BP,Ib,HD,and_true,true_and,yF,false_implies,implies_true]
  repeat' (first|exact yT|exact rfl|exact .inl rfl|exact .inl yT|exact LH _|exact qv0_0|exact qv0_1|exact qv0_2|exact qv1_0|exact qv1_1|exact qv2_4|apply And.intro)
 ·exact AiN v0_0 v0_1 v0_2 v1_0 v1_1 v2_0 v2_1 v2_2 v2_3 v2_4 v2_5 v2_6 v2_7 v2_8 v2_9 v2_10 v2_11 v2_12 v2_13 v2_14 v3_0 v4_0 v5_0 v6_0 v7_0 qv0_0 qv0_1 qv0_2 qv1_0 qv1_1 kv2_0 kv2_1 kv2_2 kv2_3 qv2_4 kv2_5 kv2_6 kv2_7 kv2_8 kv2_9 kv2_10 kv2_11 kv2_12 kv2_13 trivial kv3_0 kv4_0 kv5_0 kv6_0 kv7_0
end Go.Proofs.YtjdchfljifacoaaGreat.Am
namespace Go.Proofs.YtjdchfljifacoaaGreat
open Go.ChangeShapes Go.WideShapes Go.ChangeAt Go.RowKit
theorem bZ:ownKnob Tryz.prog.godebug=none:=by kernel_rfl
theorem Yp:laidOutB Tryz.prog=true:=by kernel_rfl
set_option maxRecDepth 100000 in
theorem actMatchesReference_lifted(os:Os)(started:os.Started)(φ:Type)(enc:TypeId×Value->φ):ReturnsInHanded {} Tryz.checked os 3 .any (Rows.actMatchesReferenceSpec.pre6 enc Tryz.prog Tryz.f3 Rows.actMatchesReferenceRow.domain false) (Rows.actMatchesReferenceSpec.post enc Tryz.prog Tryz.f3 false true false false):=by
 refine returnsInHanded_of_change (C:=Tryz.checked) bZ started (by kernel_rfl) Tryz.func3
  (ChangeSpec.witness6 (enc:=enc) (C:=Tryz.checked) false ⟨#[],#[.agg #[.slice none 0 0,.slice none 0 0,.slice none 0 0],.agg #[.slice none 0 0,.slice none 0 0],.agg #[.int .i64 0,.int .i64 0,.int .i64 0,.int .i64 0,.slice none 0 0,.int .i64 0,.int .i64 0,.int .i64 0,.int .i64 0,.int .i64 0,.int .i64 0,.int .i64 0,.int .i64 0,.int .i64 0,.bool false],.int .i64 0,.int .i64 0,.int .i64 0,.string .empty,.int .u8 0],[]⟩ 8 (by kernel_rfl) (by kernel_rfl) (by kernel_rfl) (by kernel_rfl)) ?_
 intro ρ base args ds gs before hval hW _ _;exact Am.Wc (P:=Tryz.prog) (fn:=Tryz.f3) (s:=Rows.actMatchesReferenceSpec) (tb:=4) Am.Aim (by kernel_rfl) rfl
  (λds h=>match ds,h with
   |[_,_,_,_,_,_,_,_],_=>rfl) (by kernel_rfl) (by kernel_rfl) Yp (by kernel_rfl) ρ base args ds gs before hval hW (λ_ _ h=>absurd h (Nat.not_lt_zero _))
theorem actMatchesReference_holds:Rows.ActMatchesReferenceSaid:=
 OpenClaim.holds_of_wide 3 Tryz.f3 rfl rfl rfl rfl rfl rfl rfl ⟨rfl,rfl,rfl,rfl,rfl⟩ rfl rfl rfl rfl rfl (by kernel_rfl) Tryz.func3 (by kernel_rfl)
  (of_decide_eq_true (by kernel_rfl)) (by unfold Func.isWrapper;first|(rw[if_pos (by decide+kernel)];kernel_rfl)|(rw[if_neg (by decide+kernel)];exact⟨rfl,rfl⟩))
  (λos started φ enc _=>actMatchesReference_lifted os started φ enc)
end Go.Proofs.YtjdchfljifacoaaGreat
