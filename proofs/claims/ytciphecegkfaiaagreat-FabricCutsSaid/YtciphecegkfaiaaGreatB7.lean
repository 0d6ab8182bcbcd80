import Derived.Test.YtciphecegkfaiaaGreatNK
import Derived.Test.YtciphecegkfaiaaGreatA7
import Derived.Test.YtciphecegkfaiaaGreatRows
import Derived.ProofKit
namespace Go.Proofs.YtciphecegkfaiaaGreat.Am
set_option linter.unusedVariables false
set_option linter.unusedSimpArgs false
open Go
theorem VW {rows:List (List AV)} (h:∀r∈rows,CellsOK [.i,.i,.i,.i,.i,.i] r):∃l:List (Int×Int×Int×Int×Int×Int),rows=l.map Gx∧∀n∈l,inJ n.1∧inJ n.2.1∧inJ n.2.2.1∧inJ n.2.2.2.1∧inJ n.2.2.2.2.1∧inJ n.2.2.2.2.2:=by
 induction rows with
 |nil=>exact⟨[],rfl,by simp⟩
 |cons r rows ih=>
  obtain⟨l,rfl,hh⟩:=ih fun r hr=>h r (by simp[hr])
  have:=h r (by simp)
  simp only[CellsOK,CellOK] at this
  obtain⟨_,_,rfl,⟨a0,h0,rfl⟩,_,_,rfl,⟨a1,h1,rfl⟩,_,_,rfl,⟨a2,h2,rfl⟩,_,_,rfl,⟨a3,h3,rfl⟩,_,_,rfl,⟨a4,h4,rfl⟩,_,_,rfl,⟨a5,h5,rfl⟩,rfl⟩:=this
  exact⟨(a0,a1,a2,a3,a4,a5)::l,rfl,fun m hm=>by rcases List.mem_cons.1 hm with rfl|hm;exact⟨h0,h1,h2,h3,h4,h5⟩;exact hh m hm⟩
theorem yS (cs:List AV) (h:ArgsOK [(false,[.s [.i,.i,.i,.i,.i,.i]]),(false,[.i]),(false,[.i])] cs):PCall Tryz.prog 10 cs (.b true):=by
 simp only[ArgsOK] at h
 obtain⟨a0,_,rfl,ha0,a1,_,rfl,ha1,a2,_,rfl,ha2,rfl⟩:=h
 simp only[ArgOK,CellsOK,CellOK] at ha0
 obtain⟨_,_,e0,⟨rv0_0,rfl,kv0_0⟩,rfl⟩:=ha0
 simp at e0;subst e0
 obtain⟨v0_0,rfl,qv0_0⟩:=VW (by simpa only[CellsOK,CellOK] using kv0_0)
 simp only[ArgOK,CellsOK,CellOK] at ha1
 obtain⟨_,_,e1,⟨v1_0,kv1_0,rfl⟩,rfl⟩:=ha1
 simp at e1;subst e1
 simp only[ArgOK,CellsOK,CellOK] at ha2
 obtain⟨_,_,e2,⟨v2_0,kv2_0,rfl⟩,rfl⟩:=ha2
 simp at e2;subst e2
 refine PCall.arg ?_ (wV 2000 v0_0 v1_0 v2_0 true ?_)
 ·simp only[G8,wkL,wk,and_true,true_and,yF,false_implies,implies_true,List.map_map]
  try (repeat' (first|exact yT|exact rfl|exact .inl rfl|exact .inl yT|apply And.intro))
 ·exact AaI v0_0 v1_0 v2_0 qv0_0 kv1_0 kv2_0
end Go.Proofs.YtciphecegkfaiaaGreat.Am
namespace Go.Proofs.YtciphecegkfaiaaGreat
open Go.ChangeShapes Go.WideShapes Go.ChangeAt Go.RowKit
set_option linter.unusedVariables false
theorem fR:ownKnob Tryz.prog.godebug=none:=by kernel_rfl
theorem aG:laidOutB Tryz.prog=true:=by kernel_rfl
set_option maxRecDepth 100000 in
theorem fabricCuts_lifted (os:Os) (started:os.Started) (H:Type) (enc:TypeId×Value→H):
  ReturnsInHanded {} Tryz.checked os 10 .any (Rows.fabricCutsSpec.pre6 enc Tryz.prog Tryz.f10 Rows.fabricCutsRow.domain false) (Rows.fabricCutsSpec.post enc Tryz.prog Tryz.f10 false true false false):=by
 refine returnsInHanded_of_change (C:=Tryz.checked) fR started (by kernel_rfl) Tryz.func10
  (ChangeSpec.witness6 (enc:=enc) (C:=Tryz.checked) false ⟨#[],#[.slice none 0 0,.int .i64 0,.int .i64 0],[]⟩ 8 (by kernel_rfl) (by kernel_rfl) (by kernel_rfl) (by kernel_rfl)) ?_
 intro W base args ds gs before hval hW _ _
 exact Am.RR (P:=Tryz.prog) (fn:=Tryz.f10) (s:=Rows.fabricCutsSpec) (tb:=4) Am.yS (by kernel_rfl) rfl
  (fun ds h=>match ds,h with
   |[_,_,_],_=>rfl) (by kernel_rfl) (by kernel_rfl) aG (by kernel_rfl) W base args ds gs before hval hW (fun _ _ h=>absurd h (Nat.not_lt_zero _))
theorem fabricCuts_holds:Rows.FabricCutsSaid:=
 OpenClaim.holds_of_wide 10 Tryz.f10 rfl rfl rfl rfl rfl rfl rfl ⟨rfl,rfl,rfl,rfl,rfl⟩ rfl rfl rfl rfl rfl (by kernel_rfl) Tryz.func10 (by kernel_rfl)
  (of_decide_eq_true (by kernel_rfl)) (by unfold Func.isWrapper;first|(rw[if_pos (by decide+kernel)];kernel_rfl)|(rw[if_neg (by decide+kernel)];exact⟨rfl,rfl⟩))
  (fun os started H enc _=>fabricCuts_lifted os started H enc)
end Go.Proofs.YtciphecegkfaiaaGreat
