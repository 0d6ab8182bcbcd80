import Derived.Test.YtjdchfljifacoaaGreatYC
import Derived.Test.YtjdchfljifacoaaGreatA7
import Derived.Test.YtjdchfljifacoaaGreatRows
set_option linter.all false
namespace Go.Proofs.YtjdchfljifacoaaGreat.Am
open Go
theorem Ue{rows:List (List AV)}(h:∀r∈rows,CellsOK [.i,.i,.i,.i,.i,.i] r):∃l:List (Int×Int×Int×Int×Int×Int),rows=l.map GQ/\∀n∈l,Oq n.1/\Oq n.2.1/\Oq n.2.2.1/\Oq n.2.2.2.1/\Oq n.2.2.2.2.1/\Oq n.2.2.2.2.2:=by
 induction rows with
 |nil=>exact⟨[],rfl,by simp⟩
 |cons r rows ih=>
  obtain⟨l,rfl,hh⟩:=ih λr hr=>h r (by simp[hr])
  have:=h r (by simp);simp only[CellsOK,CellOK]at this;obtain⟨_,_,rfl,⟨a0,h0,rfl⟩,_,_,rfl,⟨a1,h1,rfl⟩,_,_,rfl,⟨a2,h2,rfl⟩,_,_,rfl,⟨a3,h3,rfl⟩,_,_,rfl,⟨a4,h4,rfl⟩,_,_,rfl,⟨a5,h5,rfl⟩,rfl⟩:=this;exact⟨(a0,a1,a2,a3,a4,a5)::l,rfl,λm hm=>by rcases List.mem_cons.1 hm with rfl|hm;exact⟨h0,h1,h2,h3,h4,h5⟩;exact hh m hm⟩
theorem sC{rows:List (List AV)}(h:∀r∈rows,CellsOK [.i,.i,.i,.i] r):∃l:List (Int×Int×Int×Int),rows=l.map Kf/\∀n∈l,Oq n.1/\Oq n.2.1/\Oq n.2.2.1/\Oq n.2.2.2:=by
 induction rows with
 |nil=>exact⟨[],rfl,by simp⟩
 |cons r rows ih=>
  obtain⟨l,rfl,hh⟩:=ih λr hr=>h r (by simp[hr])
  have:=h r (by simp);simp only[CellsOK,CellOK]at this;obtain⟨_,_,rfl,⟨a0,h0,rfl⟩,_,_,rfl,⟨a1,h1,rfl⟩,_,_,rfl,⟨a2,h2,rfl⟩,_,_,rfl,⟨a3,h3,rfl⟩,rfl⟩:=this;exact⟨(a0,a1,a2,a3)::l,rfl,λm hm=>by rcases List.mem_cons.1 hm with rfl|hm;exact⟨h0,h1,h2,h3⟩;exact hh m hm⟩
theorem AfD(cs:List AV)(h:ArgsOK [(true,[.s [.i,.i,.i,.i,.i,.i],.s [.i,.i,.i,.i],.s [.i,.i,.i,.i,.i,.i]])] cs):PCall Tryz.prog 4 cs (.b true):=by
 simp only[ArgsOK]at h;obtain⟨a0,_,rfl,ha0,rfl⟩:=h;simp only[ArgOK,CellsOK,CellOK]at ha0;obtain⟨_,rfl,_,_,rfl,⟨rv0_0,rfl,kv0_0⟩,_,_,rfl,⟨rv0_1,rfl,kv0_1⟩,_,_,rfl,⟨rv0_2,rfl,kv0_2⟩,rfl⟩:=ha0;obtain⟨v0_0,rfl,qv0_0⟩:=Ue (by simpa only[CellsOK,CellOK]using kv0_0);obtain⟨v0_1,rfl,qv0_1⟩:=sC (by simpa only[CellsOK,CellOK]using kv0_1);obtain⟨v0_2,rfl,qv0_2⟩:=Ue (by simpa only[CellsOK,CellOK]using kv0_2);refine PCall.arg ?_ (Aeq 2000 v0_0 v0_1 v0_2 true ?_)
 ·simp only[GS,Ov,GS,HS,wk,and_true,true_and,yF,false_implies,implies_true,List.map_map];try (repeat' (first|exact yT|exact rfl|exact .inl rfl|exact .inl yT|apply And.intro))
 ·exact AfY v0_0 v0_1 v0_2 qv0_0 qv0_1 qv0_2
end Go.Proofs.YtjdchfljifacoaaGreat.Am
namespace Go.Proofs.YtjdchfljifacoaaGreat
open Go.ChangeShapes Go.WideShapes Go.ChangeAt Go.RowKit
theorem bZ:ownKnob Tryz.prog.godebug=none:=by kernel_rfl
theorem Yp:laidOutB Tryz.prog=true:=by kernel_rfl
set_option maxRecDepth 100000 in
theorem actStays_lifted(os:Os)(started:os.Started)(φ:Type)(enc:TypeId×Value->φ):ReturnsInHanded {} Tryz.checked os 4 .any (Rows.actStaysSpec.pre6 enc Tryz.prog Tryz.f4 Rows.actStaysRow.domain false) (Rows.actStaysSpec.post enc Tryz.prog Tryz.f4 false true false false):=by
 refine returnsInHanded_of_change (C:=Tryz.checked) bZ started (by kernel_rfl) Tryz.func4
  (ChangeSpec.witness6 (enc:=enc) (C:=Tryz.checked) false ⟨#[],#[.agg #[.slice none 0 0,.slice none 0 0,.slice none 0 0]],[]⟩ 8 (by kernel_rfl) (by kernel_rfl) (by kernel_rfl) (by kernel_rfl)) ?_
 intro ρ base args ds gs before hval hW _ _;exact Am.Wc (P:=Tryz.prog) (fn:=Tryz.f4) (s:=Rows.actStaysSpec) (tb:=4) Am.AfD (by kernel_rfl) rfl
  (λds h=>match ds,h with
   |[_],_=>rfl) (by kernel_rfl) (by kernel_rfl) Yp (by kernel_rfl) ρ base args ds gs before hval hW (λ_ _ h=>absurd h (Nat.not_lt_zero _))
theorem actStays_holds:Rows.ActStaysSaid:=
 OpenClaim.holds_of_wide 4 Tryz.f4 rfl rfl rfl rfl rfl rfl rfl ⟨rfl,rfl,rfl,rfl,rfl⟩ rfl rfl rfl rfl rfl (by kernel_rfl) Tryz.func4 (by kernel_rfl)
  (of_decide_eq_true (by kernel_rfl)) (by unfold Func.isWrapper;first|(rw[if_pos (by decide+kernel)];kernel_rfl)|(rw[if_neg (by decide+kernel)];exact⟨rfl,rfl⟩))
  (λos started φ enc _=>actStays_lifted os started φ enc)
end Go.Proofs.YtjdchfljifacoaaGreat
