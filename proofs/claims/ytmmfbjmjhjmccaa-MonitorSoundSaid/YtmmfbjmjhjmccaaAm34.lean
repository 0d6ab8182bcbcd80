/-
  The abstract machine, part 34: what its operations are reckoned by.
-/
import Derived.Test.YtmmfbjmjhjmccaaAm30
namespace Go.Proofs.Ytmmfbjmjhjmccaa
set_option linter.unusedSimpArgs false
set_option linter.unusedVariables false
attribute [go_sem] Am.exops Am.exdr Am.unOK Am.disj Am.hasL Am.covB Am.ht Am.hw Am.rdO Am.rdK Am.rdV Am.rdL Am.rdLd Am.rdSt Am.cellLocs Am.own1 List.getD_cons_zero List.getD_cons_succ List.any_cons List.any_nil List.flatMap_cons List.flatMap_nil Am.putps Am.beq_f Am.beq_t Am.exop Am.exK Am.exPick Am.exBox Am.exBuild Am.exBsl Am.exLd Am.exSt Am.exFa Am.exFld Am.exIa Am.exIaA Am.exIdxA Am.exEqs Am.exExt Am.exLen Am.exMm Am.exNil Am.exCnv Am.exCv Am.exCall Am.exApp Am.exSlc Am.slRows Am.loB Am.asI Am.exBin Am.exUn Am.cmpB Am.arB Am.eqCells Am.mmL Am.mm2 Am.fillA Am.fillR Am.over Am.cut Am.hcut Am.sput Am.newc Am.mkv Am.vr Am.srows Am.res Am.resL Am.res1 Am.rvc Am.rvcL Am.rvc1 Am.rvc1L Am.bcells Am.ons Am.onsL Am.nob Am.nobL Am.flat Am.flatL Am.pureA Am.pureL Am.frz Am.putE Am.lk Am.hl Am.ung Am.opv Am.gval Am.gb Am.AV.cells Am.oneC Am.inR Am.envOf Am.imp_self Am.imp_true Am.imp_right Am.imp_false Am.imp_and_left Am.imp_and_right Am.exRV Am.exRVs Am.one Am.wk Am.wkL Am.leE Am.leH Go.undef Am.gs Am.fn_S Am.rd_S Am.it_S Am.tabOf Am.callOf List.take_succ_cons List.take_zero List.drop_succ_cons List.drop_zero List.length_map Option.map_some Option.map_none Option.getD_some Option.getD_none List.map_cons List.map_nil List.length_cons List.length_nil List.append_nil List.nil_append List.cons_append List.isEmpty_cons List.isEmpty_nil List.replicate_succ List.replicate_zero List.all_cons List.all_nil List.set_cons_zero List.set_cons_succ List.getElem?_cons_zero List.getElem?_cons_succ Array.toList_map true_or or_true or_false false_or Am.Loc.c.injEq Am.Loc.a.injEq Prod.mk.injEq and_true true_and and_false false_and if_true if_false ite_true ite_false cond_true cond_false Bool.and_true Bool.true_and Bool.and_false Bool.false_and Bool.not_true Bool.not_false Bool.or_true Bool.or_false Bool.true_or Bool.false_or Bool.cond_false_right Bool.cond_true_left beq_self_eq_true List.length_append Int.toNat_natCast Int.cast_ofNat_Int Nat.zero_add Nat.add_zero eq_self implies_true true_implies false_implies Bool.false_eq_true Bool.true_eq_false decide_true decide_false not_true_eq_false not_false_eq_true
end Go.Proofs.Ytmmfbjmjhjmccaa
namespace Go.Proofs.Ytmmfbjmjhjmccaa.Am
open Go
section
variable {Γ : Ctx}
/-! The rules in one form: what is fit, two reckonings, a condition, what follows. -/
theorem awp_sr5 (hΓ : Γ.OK) {rid : Nat} {ops : List AOp} {b : AC} {Q : AE → St → Prop} {e e' : Env} {h h' : Hp} {c : Nat} {vc : Prop} (hex : exops Γ.S (c + 1) (100 * rid) ops e h = some (vc, e', h')) (_ : True) (hvc : vc)
    (hQ : awp Γ b Q ⟨e', h', c + 1⟩) : awp Γ (.seq (.reg rid ops) b) Q ⟨e, h, c⟩ := awp_sr hΓ hex hvc hQ
theorem awp_r5 (hΓ : Γ.OK) {rid : Nat} {ops : List AOp} {Q : AE → St → Prop} {e e' : Env} {h h' : Hp} {c : Nat} {vc : Prop} (hex : exops Γ.S (c + 1) (100 * rid) ops e h = some (vc, e', h')) (_ : True) (hvc : vc)
    (hQ : Q .n ⟨e', h', c + 1⟩) : awp Γ (.reg rid ops) Q ⟨e, h, c⟩ := awp_r hΓ hex hvc hQ
end
theorem inlR_n5 (_ : True) {S : Tab} {rid i : Nat} {d : Option Nat} {post : List AOp} {e1 : Env} {Q : AE → St → Prop} {rvs : List RV} {e : Env} {h : Hp} {c : Nat} {vc : Prop} {xs : List AV} {vc2 : Prop} {e2 : Env} {h2 : Hp} (h1 : exRVs e h rvs = some (vc, xs))
    (hx : exops S (c + 1) (100 * rid + (i + 1)) post (putE d (one xs) e1) h = some (vc2, e2, h2)) (hv : vc) (hv2 : vc2) (hQ : Q .n ⟨e2, h2, c + 1⟩) : inlK rvs (restK S rid i d post e1 Q) .n ⟨e, h, c⟩ := inlR_n h1 hv hx hv2 hQ
theorem inlR_r5 (_ : True) {S : Tab} {rid i : Nat} {d : Option Nat} {post : List AOp} {e1 : Env} {Q : AE → St → Prop} {rvs : List RV} {e : Env} {h : Hp} {c : Nat} {vc : Prop} {xs : List AV} {vc2 : Prop} {e2 : Env} {h2 : Hp} (h1 : exRVs e h rvs = some (vc, xs))
    (hx : exops S (c + 1) (100 * rid + (i + 1)) post (putE d (one xs) e1) h = some (vc2, e2, h2)) (hv : vc) (hv2 : vc2) (hQ : Q .n ⟨e2, h2, c + 1⟩) : inlK rvs (restK S rid i d post e1 Q) .r ⟨e, h, c⟩ := inlR_r h1 hv hx hv2 hQ
end Go.Proofs.Ytmmfbjmjhjmccaa.Am
