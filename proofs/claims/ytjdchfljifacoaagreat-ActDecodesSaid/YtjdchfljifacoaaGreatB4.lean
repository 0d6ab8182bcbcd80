import Derived.Test.YtjdchfljifacoaaGreatYF
import Derived.Test.YtjdchfljifacoaaGreatA7
import Derived.Test.YtjdchfljifacoaaGreatRows
set_option linter.all false
namespace Go.Proofs.YtjdchfljifacoaaGreat.Am
open Go
theorem Ue{rows:List (List AV)}(h:∀r∈rows,CellsOK [.i,.i,.i,.i,.i,.i] r):∃l:List (Int×Int×Int×Int×Int×Int),rows=l.map GQ/\∀n∈l,Oq n.1/\Oq n.2.1/\Oq n.2.2.1/\Oq n.2.2.2.1/\Oq n.2.2.2.2.1/\Oq n.2.2.2.2.2:=by
 induction rows with
 |nil=>exact⟨[],rfl,by simp⟩
 |cons r rows ih=>
  obtain⟨l,rfl,hh⟩:=ih λr hr=>h r (by simp[hr])
  have:=h r (by simp);simp only[CellsOK,CellOK]at this;obtain⟨_,_,rfl,⟨a0,h0,rfl⟩,_,_,rfl,⟨a1,h1,rfl⟩,_,_,rfl,⟨a2,h2,rfl⟩,_,_,rfl,⟨a3,h3,rfl⟩,_,_,rfl,⟨a4,h4,rfl⟩,_,_,rfl,⟨a5,h5,rfl⟩,rfl⟩:=this;exact⟨(a0,a1,a2,a3,a4,a5)::l,rfl,λm hm=>by rcases List.mem_cons.1 hm with rfl|hm;exact⟨h0,h1,h2,h3,h4,h5⟩;exact hh m hm⟩
theorem sC{rows:List (List AV)}(h:∀r∈rows,CellsOK [.i,.i,.i,.i] r):∃l:List (Int×Int×Int×Int),rows=l.map Kf/\∀n∈l,Oq n.1/\Oq n.2.1/\Oq n.2.2.1/\Oq n.2.2.2:=by
 induction rows with
 |nil=>exact⟨[],rfl,by simp⟩
 |cons r rows ih=>
  obtain⟨l,rfl,hh⟩:=ih λr hr=>h r (by simp[hr])
  have:=h r (by simp);simp only[CellsOK,CellOK]at this;obtain⟨_,_,rfl,⟨a0,h0,rfl⟩,_,_,rfl,⟨a1,h1,rfl⟩,_,_,rfl,⟨a2,h2,rfl⟩,_,_,rfl,⟨a3,h3,rfl⟩,rfl⟩:=this;exact⟨(a0,a1,a2,a3)::l,rfl,λm hm=>by rcases List.mem_cons.1 hm with rfl|hm;exact⟨h0,h1,h2,h3⟩;exact hh m hm⟩
theorem AhE(cs:List AV)(h:ArgsOK [(true,[.s [.i,.i,.i,.i,.i,.i],.s [.i,.i,.i,.i],.s [.i,.i,.i,.i,.i,.i]]),(false,[.t]),(false,[.i]),(false,[.y])] cs):PCall Tryz.prog 8 cs (.b true):=by
 simp only[ArgsOK]at h;obtain⟨a0,_,rfl,ha0,a1,_,rfl,ha1,a2,_,rfl,ha2,a3,_,rfl,ha3,rfl⟩:=h;simp only[ArgOK,CellsOK,CellOK]at ha0;obtain⟨_,rfl,_,_,rfl,⟨rv0_0,rfl,kv0_0⟩,_,_,rfl,⟨rv0_1,rfl,kv0_1⟩,_,_,rfl,⟨rv0_2,rfl,kv0_2⟩,rfl⟩:=ha0;obtain⟨v0_0,rfl,qv0_0⟩:=Ue (by simpa only[CellsOK,CellOK]using kv0_0);obtain⟨v0_1,rfl,qv0_1⟩:=sC (by simpa only[CellsOK,CellOK]using kv0_1);obtain⟨v0_2,rfl,qv0_2⟩:=Ue (by simpa only[CellsOK,CellOK]using kv0_2);simp only[ArgOK,CellsOK,CellOK]at ha1;obtain⟨_,_,e1,⟨v1_0,kv1_0,rfl⟩,rfl⟩:=ha1;simp at e1;subst e1;simp only[ArgOK,CellsOK,CellOK]at ha2;obtain⟨_,_,e2,⟨v2_0,kv2_0,rfl⟩,rfl⟩:=ha2;simp at e2;subst e2;simp only[ArgOK,CellsOK,CellOK]at ha3;obtain⟨_,_,e3,⟨v3_0,kv3_0,rfl⟩,rfl⟩:=ha3;simp at e3;subst e3;refine PCall.arg ?_ (Ahj 2000 v0_0 v0_1 v0_2 v1_0 v2_0 v3_0 true ?_)
 ·simp only[GS,Ov,GS,HS,wk,and_true,true_and,yF,false_implies,implies_true,List.map_map];try (repeat' (first|exact yT|exact rfl|exact .inl rfl|exact .inl yT|apply And.intro))
 ·exact AhF v0_0 v0_1 v0_2 v1_0 v2_0 v3_0 qv0_0 qv0_1 qv0_2 kv1_0 kv2_0 kv3_0
end Go.Proofs.YtjdchfljifacoaaGreat.Am
namespace Go.Proofs.YtjdchfljifacoaaGreat
open Go.ChangeShapes Go.WideShapes Go.ChangeAt Go.RowKit
theorem bZ:ownKnob Tryz.prog.godebug=none:=by kernel_rfl
theorem Yp:laidOutB Tryz.prog=true:=by kernel_rfl
set_option maxRecDepth 100000 in
theorem actDecodes_lifted(os:Os)(started:os.Started)(φ:Type)(enc:TypeId×Value->φ):ReturnsInHanded {} Tryz.checked os 8 .any (Rows.actDecodesSpec.pre6 enc Tryz.prog Tryz.f8 Rows.actDecodesRow.domain false) (Rows.actDecodesSpec.post enc Tryz.prog Tryz.f8 false true false false):=by
 refine returnsInHanded_of_change (C:=Tryz.checked) bZ started (by kernel_rfl) Tryz.func8
  (ChangeSpec.witness6 (enc:=enc) (C:=Tryz.checked) false ⟨#[],#[.agg #[.slice none 0 0,.slice none 0 0,.slice none 0 0],.string .empty,.int .i64 0,.int .u8 0],[]⟩ 8 (by kernel_rfl) (by kernel_rfl) (by kernel_rfl) (by kernel_rfl)) ?_
 intro ρ base args ds gs before hval hW _ _;exact Am.Wc (P:=Tryz.prog) (fn:=Tryz.f8) (s:=Rows.actDecodesSpec) (tb:=4) Am.AhE (by kernel_rfl) rfl
  (λds h=>match ds,h with
   |[_,_,_,_],_=>rfl) (by kernel_rfl) (by kernel_rfl) Yp (by kernel_rfl) ρ base args ds gs before hval hW (λ_ _ h=>absurd h (Nat.not_lt_zero _))
theorem actDecodes_holds:Rows.ActDecodesSaid:=
 OpenClaim.holds_of_wide 8 Tryz.f8 rfl rfl rfl rfl rfl rfl rfl ⟨rfl,rfl,rfl,rfl,rfl⟩ rfl rfl rfl rfl rfl (by kernel_rfl) Tryz.func8 (by kernel_rfl)
  (of_decide_eq_true (by kernel_rfl)) (by unfold Func.isWrapper;first|(rw[if_pos (by decide+kernel)];kernel_rfl)|(rw[if_neg (by decide+kernel)];exact⟨rfl,rfl⟩))
  (λos started φ enc _=>actDecodes_lifted os started φ enc)
end Go.Proofs.YtjdchfljifacoaaGreat
