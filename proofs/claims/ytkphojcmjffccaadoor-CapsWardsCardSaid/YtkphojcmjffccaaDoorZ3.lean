/- The walk's equations, all in one. -/
import Derived.Test.YtkphojcmjffccaaDoorE29
import Derived.LaidMore
import Derived.LaidLaws
import Derived.Lay
import Derived.Stop.Joined
import Derived.Test.YtkphojcmjffccaaDoorZ1
import Derived.RangeFuncOwn
import Derived.RangeFuncLeaves
import Derived.RangeFuncCalls
set_option linter.unusedSectionVars false
set_option linter.unusedVariables false
set_option maxRecDepth 100000
namespace Go.Proofs.YtkphojcmjffccaaDoor
open Go.RowKit
theorem wk :
  (type_of% @frzL.eq_4) ∧ (type_of% @Wp_draE) ∧ (type_of% @runT_take) ∧ (type_of% @runT_last) ∧ (type_of% @runT_alt) ∧ (type_of% @runT_done) ∧ (type_of% @runT_stop) ∧ (type_of% @ThenT_eq) ∧ (((((((((type_of% @Wp_seqE) ∧ (type_of% @Wp_reg)) ∧ ((type_of% @Wp_skip) ∧ ((type_of% @Wp_blk) ∧ (type_of% @Wp_exit)))) ∧ (((type_of% @Wp_ret) ∧ ((type_of% @Wp_condE) ∧ (type_of% @Wp_drwE))) ∧ ((type_of% @SufK_eq) ∧ ((type_of% @Then_normal) ∧ (type_of% @Then_exit))))) ∧ ((((type_of% @Then_ret) ∧ (type_of% @InB_normal)) ∧ ((type_of% @InB_exit) ∧ ((type_of% @InB_ret) ∧ (type_of% @runL_nil)))) ∧ (((type_of% @runL_op) ∧ ((type_of% @runL_g) ∧ (type_of% @runL_frz))) ∧ ((type_of% @runL_kill) ∧ ((type_of% @stepL.eq_1) ∧ (type_of% @stepL.eq_2)))))) ∧ (((((type_of% @stepL.eq_3) ∧ (type_of% @stepL.eq_4)) ∧ ((type_of% @stepL.eq_5) ∧ ((type_of% @stepL.eq_6) ∧ (type_of% @runP_nil)))) ∧ (((type_of% @runP_opE) ∧ ((type_of% @runP_g) ∧ (type_of% @stepP.eq_1))) ∧ ((type_of% @stepP.eq_2) ∧ ((type_of% @stepP.eq_3) ∧ (type_of% @GoN_some))))) ∧ ((((type_of% @GoA_some) ∧ ((type_of% @GoG_bool) ∧ (type_of% @GoG_tup))) ∧ ((type_of% @GoC_bool) ∧ ((type_of% @GoC_any) ∧ (type_of% @GoP_some)))) ∧ (((type_of% @GoPG_bool) ∧ ((type_of% @GoPG_tup) ∧ (type_of% @isAct.eq_1))) ∧ ((type_of% @isAct.eq_2) ∧ ((type_of% @isAct.eq_3) ∧ (type_of% @isAct.eq_4))))))) ∧ ((((((type_of% @isAct.eq_5) ∧ (type_of% @neu.eq_1)) ∧ ((type_of% @neu.eq_2) ∧ ((type_of% @neu.eq_3) ∧ (type_of% @neu.eq_4)))) ∧ (((type_of% @neu.eq_5) ∧ ((type_of% @neu.eq_6) ∧ (type_of% @neu.eq_7))) ∧ ((type_of% @neu.eq_8) ∧ ((type_of% @neu.eq_9) ∧ (type_of% @neu.eq_10))))) ∧ ((((type_of% @neu.eq_11) ∧ ((type_of% @neu.eq_12) ∧ (type_of% @neu.eq_13))) ∧ ((type_of% @neu.eq_14) ∧ ((type_of% @neu.eq_15) ∧ (type_of% @neu.eq_16)))) ∧ (((type_of% @neu.eq_17) ∧ ((type_of% @neu.eq_18) ∧ (type_of% @neu.eq_19))) ∧ ((type_of% @neu.eq_20) ∧ ((type_of% @neu.eq_21) ∧ (type_of% @neu.eq_22)))))) ∧ (((((type_of% @neu.eq_23) ∧ (type_of% @neu.eq_24)) ∧ ((type_of% @neu.eq_25) ∧ ((type_of% @neu.eq_26) ∧ (type_of% @neu.eq_27)))) ∧ (((type_of% @neu.eq_28) ∧ ((type_of% @neu.eq_29) ∧ (type_of% @neu.eq_30))) ∧ ((type_of% @neu.eq_31) ∧ ((type_of% @neu.eq_32) ∧ (type_of% @neu.eq_33))))) ∧ ((((type_of% @neu.eq_34) ∧ ((type_of% @neu.eq_35) ∧ (type_of% @neu.eq_36))) ∧ ((type_of% @neu.eq_37) ∧ ((type_of% @neu.eq_38) ∧ (type_of% @neu.eq_39)))) ∧ (((type_of% @neu.eq_40) ∧ ((type_of% @St.get.eq_1) ∧ (type_of% @St.get.eq_2))) ∧ ((type_of% @St.start.eq_1) ∧ ((type_of% @St.put.eq_1) ∧ (type_of% @St.put.eq_2)))))))) ∧ (((((((type_of% @St.eff.eq_1) ∧ (type_of% @dsts.eq_1)) ∧ ((type_of% @dsts.eq_2) ∧ ((type_of% @dsts.eq_3) ∧ (type_of% @upd.eq_1)))) ∧ (((type_of% @idxI.eq_1) ∧ ((type_of% @idxI.eq_2) ∧ (type_of% @binV.eq_1))) ∧ ((type_of% @binV.eq_2) ∧ ((type_of% @binV.eq_3) ∧ (type_of% @binV.eq_4))))) ∧ ((((type_of% @binV.eq_5) ∧ ((type_of% @binV.eq_6) ∧ (type_of% @binI.eq_1))) ∧ ((type_of% @binI.eq_2) ∧ ((type_of% @binI.eq_3) ∧ (type_of% @binI.eq_4)))) ∧ (((type_of% @binI.eq_5) ∧ ((type_of% @binI.eq_6) ∧ (type_of% @binI.eq_7))) ∧ ((type_of% @binI.eq_8) ∧ ((type_of% @binI.eq_9) ∧ (type_of% @binI.eq_10)))))) ∧ (((((type_of% @binI.eq_11) ∧ (type_of% @binI.eq_12)) ∧ ((type_of% @binI.eq_13) ∧ ((type_of% @binI.eq_14) ∧ (type_of% @binI.eq_15)))) ∧ (((type_of% @binI.eq_16) ∧ ((type_of% @isShift.eq_1) ∧ (type_of% @isShift.eq_2))) ∧ ((type_of% @isShift.eq_3) ∧ ((type_of% @unV.eq_1) ∧ (type_of% @unV.eq_2))))) ∧ ((((type_of% @unV.eq_3) ∧ ((type_of% @unV.eq_4) ∧ (type_of% @unV.eq_5))) ∧ ((type_of% @unV.eq_6) ∧ ((type_of% @List.getD_cons_zero.{0}) ∧ (type_of% @List.getD_cons_succ.{0})))) ∧ (((type_of% @IV.isU.eq_1) ∧ ((type_of% @IV.isU.eq_2) ∧ (type_of% @Bool.false_eq_true))) ∧ ((type_of% @if_false.{0}) ∧ ((type_of% @if_false.{1}) ∧ (type_of% @if_true.{0}))))))) ∧ ((((((type_of% @if_true.{1}) ∧ (type_of% @List.length_nil.{0})) ∧ ((type_of% @List.length_cons.{0}) ∧ ((type_of% @true_and) ∧ (type_of% @and_true)))) ∧ (((type_of% @and_self) ∧ ((type_of% @true_or) ∧ (type_of% @or_true))) ∧ ((type_of% @not_true_eq_false) ∧ ((type_of% @not_false_eq_true) ∧ (type_of% @Int.natCast_nonneg))))) ∧ ((((type_of% @Int.toNat_natCast) ∧ ((type_of% @il_length) ∧ (type_of% @Nat.mul_one))) ∧ ((type_of% @decide_true) ∧ ((type_of% @decide_false) ∧ (type_of% @Bool.not_true)))) ∧ (((type_of% @Bool.not_false) ∧ ((type_of% @beq_self_eq_true.{0}) ∧ (type_of% @Post.eq_1))) ∧ ((type_of% @Post.eq_2) ∧ ((type_of% @St.ress.eq_1) ∧ (type_of% @St.ress.eq_2)))))) ∧ (((((type_of% @St.res.eq_1) ∧ (type_of% @St.res.eq_2)) ∧ ((type_of% @St.exp.eq_1) ∧ ((type_of% @St.exp.eq_2) ∧ (type_of% @St.exp.eq_3)))) ∧ (((type_of% @St.exp.eq_4) ∧ ((type_of% @St.exp.eq_5) ∧ (type_of% @List.filter_nil.{0}))) ∧ ((type_of% @List.filter_cons.{0}) ∧ ((type_of% @isOwn.eq_1) ∧ (type_of% @isOwn.eq_2))))) ∧ ((((type_of% @ne_eq.{1}) ∧ ((type_of% @Nat.zero_le) ∧ (type_of% @Nat.lt_irrefl))) ∧ ((type_of% @Int.natCast_zero) ∧ ((type_of% @Int.ofNat_zero) ∧ (type_of% @Nat.lt_add_one)))) ∧ (((type_of% @Nat.zero_lt_one) ∧ ((type_of% @St.nest1.eq_1) ∧ (type_of% @St.nest1.eq_2))) ∧ ((type_of% @St.nest1.eq_3) ∧ ((type_of% @St.nest1.eq_4) ∧ (type_of% @St.nest1.eq_5))))))))) ∧ ((((((((type_of% @St.nest1.eq_6) ∧ (type_of% @St.nest1.eq_7)) ∧ ((type_of% @List.take_succ_cons.{0}) ∧ ((type_of% @List.take_zero.{0}) ∧ (type_of% @Nat.le_add_left)))) ∧ (((type_of% @List.drop_succ_cons.{0}) ∧ ((type_of% @List.drop_zero.{0}) ∧ (type_of% @List.append_nil.{0}))) ∧ ((type_of% @List.nil_append.{0}) ∧ ((type_of% @List.cons_append.{0}) ∧ (type_of% @freshBlk.eq_1))))) ∧ ((((type_of% @St.ok.eq_1) ∧ (type_of% @IV.cells.eq_1)) ∧ ((type_of% @IV.cells.eq_2) ∧ ((type_of% @IV.cells.eq_3) ∧ (type_of% @IV.boxable.eq_1)))) ∧ (((type_of% @IV.boxable.eq_2) ∧ ((type_of% @IV.boxable.eq_3) ∧ (type_of% @IV.one.eq_1))) ∧ ((type_of% @IV.one.eq_2) ∧ ((type_of% @IV.one.eq_3) ∧ (type_of% @IV.one.eq_4)))))) ∧ (((((type_of% @IV.one.eq_5) ∧ (type_of% @IV.one.eq_6)) ∧ ((type_of% @IV.one.eq_7) ∧ ((type_of% @IV.one.eq_8) ∧ (type_of% @IV.one.eq_9)))) ∧ (((type_of% @IV.one.eq_10) ∧ ((type_of% @St.seg.eq_1) ∧ (type_of% @Nat.zero_add))) ∧ ((type_of% @Nat.add_zero) ∧ ((type_of% @Nat.le_refl) ∧ (type_of% @false_implies))))) ∧ ((((type_of% @forall_const.{0}) ∧ ((type_of% @forall_const.{1}) ∧ (type_of% @Bool.and_self))) ∧ ((type_of% @Bool.true_and) ∧ ((type_of% @Bool.and_true) ∧ (type_of% @and_false)))) ∧ (((type_of% @false_and) ∧ ((type_of% @St.snaps.eq_1) ∧ (type_of% @St.snaps.eq_2))) ∧ ((type_of% @St.snap.eq_1) ∧ ((type_of% @St.snap.eq_2) ∧ (type_of% @St.snap.eq_3))))))) ∧ ((((((type_of% @St.snap1.eq_1) ∧ (type_of% @St.snap1.eq_2)) ∧ ((type_of% @St.snapB.eq_1) ∧ ((type_of% @St.snapB.eq_2) ∧ (type_of% @St.snapB.eq_3)))) ∧ (((type_of% @St.snapB.eq_4) ∧ ((type_of% @St.snapB.eq_5) ∧ (type_of% @St.snapB.eq_6))) ∧ ((type_of% @St.snapB.eq_7) ∧ ((type_of% @St.snapB.eq_8) ∧ (type_of% @St.stabs.eq_1))))) ∧ ((((type_of% @St.stabs.eq_2) ∧ ((type_of% @St.stab.eq_1) ∧ (type_of% @St.stab.eq_2))) ∧ ((type_of% @St.stab.eq_3) ∧ ((type_of% @St.stab.eq_4) ∧ (type_of% @St.stab.eq_5)))) ∧ (((type_of% @St.stab.eq_6) ∧ ((type_of% @IV.scalR.eq_1) ∧ (type_of% @IV.scalR.eq_2))) ∧ ((type_of% @IV.scalR.eq_3) ∧ ((type_of% @IV.scalR.eq_4) ∧ (type_of% @IV.scal.eq_1)))))) ∧ (((((type_of% @IV.scal.eq_2) ∧ (type_of% @IV.scal.eq_3)) ∧ ((type_of% @IV.scal.eq_4) ∧ ((type_of% @IV.scal.eq_5) ∧ (type_of% @List.all_nil.{0})))) ∧ (((type_of% @List.all_cons.{0}) ∧ ((type_of% @St.imp.eq_1) ∧ (type_of% @impV.eq_1))) ∧ ((type_of% @impV.eq_2) ∧ ((type_of% @impV.eq_3) ∧ (type_of% @asRes.eq_1))))) ∧ ((((type_of% @asRes.eq_2) ∧ ((type_of% @plainL.eq_1) ∧ (type_of% @plainL.eq_2))) ∧ ((type_of% @plainL.eq_3) ∧ ((type_of% @St.dead.eq_1) ∧ (type_of% @St.more.eq_1)))) ∧ (((type_of% @St.more.eq_2) ∧ ((type_of% @St.elems.eq_1) ∧ (type_of% @St.elems.eq_2))) ∧ ((type_of% @St.elems.eq_3) ∧ ((type_of% @St.parts.eq_1) ∧ (type_of% @St.parts.eq_2)))))))) ∧ (((((((type_of% @St.partsN.eq_1) ∧ (type_of% @St.partsN.eq_2)) ∧ ((type_of% @St.nest.eq_1) ∧ ((type_of% @placed.eq_1) ∧ (type_of% @placed.eq_2)))) ∧ (((type_of% @repl.eq_1) ∧ ((type_of% @List.flatten_cons.{0}) ∧ (type_of% @List.flatten_nil.{0}))) ∧ ((type_of% @IV.purL.eq_1) ∧ ((type_of% @IV.purL.eq_2) ∧ (type_of% @IV.pur.eq_1))))) ∧ ((((type_of% @IV.pur.eq_2) ∧ ((type_of% @IV.pur.eq_3) ∧ (type_of% @IV.pur.eq_4))) ∧ ((type_of% @IV.pur.eq_5) ∧ ((type_of% @IV.pur.eq_6) ∧ (type_of% @IV.pur.eq_7)))) ∧ (((type_of% @IV.pur.eq_8) ∧ ((type_of% @IV.pur.eq_9) ∧ (type_of% @IV.pur.eq_10))) ∧ ((type_of% @IV.pur.eq_11) ∧ ((type_of% @List.take_nil.{0}) ∧ (type_of% @List.drop_nil.{0})))))) ∧ (((((type_of% @or_self) ∧ (type_of% @false_or)) ∧ ((type_of% @or_false) ∧ ((type_of% @Option.isSome_none.{0}) ∧ (type_of% @Option.isSome_some.{0})))) ∧ (((type_of% @Bool.false_and) ∧ ((type_of% @Nat.sub_zero) ∧ (type_of% @Nat.zero_mul))) ∧ ((type_of% @Nat.mul_zero) ∧ ((type_of% @bnds.eq_1) ∧ (type_of% @bnd.eq_1))))) ∧ ((((type_of% @bnd.eq_2) ∧ ((type_of% @implies_true.{0}) ∧ (type_of% @implies_true.{1}))) ∧ ((type_of% @hideH.eq_1) ∧ ((type_of% @List.mem_cons.{0}) ∧ (type_of% @List.not_mem_nil.{0})))) ∧ (((type_of% @St.nestL.eq_1) ∧ ((type_of% @St.nestL.eq_2) ∧ (type_of% @List.getElem?_cons_zero.{0}))) ∧ ((type_of% @List.getElem?_cons_succ.{0}) ∧ ((type_of% @List.getElem?_nil.{0}) ∧ (type_of% @List.isEmpty_nil.{0}))))))) ∧ ((((((type_of% @List.isEmpty_cons.{0}) ∧ (type_of% @St.frz.eq_1)) ∧ ((type_of% @frzL.eq_1) ∧ ((type_of% @frzL.eq_2) ∧ (type_of% @frzL.eq_3)))) ∧ (((type_of% @St.frzH.eq_1) ∧ ((type_of% @hom0) ∧ (type_of% @List.map_cons.{0, 0}))) ∧ ((type_of% @List.map_nil.{0, 0}) ∧ ((type_of% @St.vals.eq_1) ∧ (type_of% @St.vals.eq_2))))) ∧ ((((type_of% @IV.nlit.eq_1) ∧ ((type_of% @IV.nlit.eq_2) ∧ (type_of% @IV.nlit.eq_3))) ∧ ((type_of% @St.raws.eq_1) ∧ ((type_of% @St.raws.eq_2) ∧ (type_of% @St.raw.eq_1)))) ∧ (((type_of% @St.raw.eq_2) ∧ ((type_of% @St.snapPL.eq_1) ∧ (type_of% @St.snapPL.eq_2))) ∧ ((type_of% @St.callee.eq_1) ∧ ((type_of% @fitR.eq_1) ∧ (type_of% @fitR.eq_2)))))) ∧ (((((type_of% @eqL.eq_1) ∧ (type_of% @eqL.eq_2)) ∧ ((type_of% @eqL.eq_3) ∧ ((type_of% @eqC.eq_1) ∧ (type_of% @eqC.eq_2)))) ∧ (((type_of% @eqC.eq_3) ∧ ((type_of% @eqC.eq_4) ∧ (type_of% @CK.fit.eq_1))) ∧ ((type_of% @CK.fit.eq_2) ∧ ((type_of% @CK.fit.eq_3) ∧ (type_of% @CK.fit.eq_4))))) ∧ ((((type_of% @Int.cast_ofNat_Int) ∧ ((type_of% @Int.toNat_zero) ∧ (type_of% @Int.toNat_one))) ∧ ((type_of% @Wp_drcE) ∧ ((type_of% @keepH.eq_1) ∧ (type_of% @St.snapL.eq_1)))) ∧ (((type_of% @St.snapL.eq_2) ∧ ((type_of% @DapB_eq) ∧ (type_of% @Nat.le_add_right))) ∧ ((type_of% @Nat.add_sub_cancel) ∧ ((type_of% @Nat.add_sub_cancel_left) ∧ (type_of% @eq_self.{1})))))))))) := ⟨@frzL.eq_4, @Wp_draE, @runT_take, @runT_last, @runT_alt, @runT_done, @runT_stop, @ThenT_eq, ⟨⟨⟨⟨⟨⟨⟨⟨@Wp_seqE, @Wp_reg⟩, ⟨@Wp_skip, ⟨@Wp_blk, @Wp_exit⟩⟩⟩, ⟨⟨@Wp_ret, ⟨@Wp_condE, @Wp_drwE⟩⟩, ⟨@SufK_eq, ⟨@Then_normal, @Then_exit⟩⟩⟩⟩, ⟨⟨⟨@Then_ret, @InB_normal⟩, ⟨@InB_exit, ⟨@InB_ret, @runL_nil⟩⟩⟩, ⟨⟨@runL_op, ⟨@runL_g, @runL_frz⟩⟩, ⟨@runL_kill, ⟨@stepL.eq_1, @stepL.eq_2⟩⟩⟩⟩⟩, ⟨⟨⟨⟨@stepL.eq_3, @stepL.eq_4⟩, ⟨@stepL.eq_5, ⟨@stepL.eq_6, @runP_nil⟩⟩⟩, ⟨⟨@runP_opE, ⟨@runP_g, @stepP.eq_1⟩⟩, ⟨@stepP.eq_2, ⟨@stepP.eq_3, @GoN_some⟩⟩⟩⟩, ⟨⟨⟨@GoA_some, ⟨@GoG_bool, @GoG_tup⟩⟩, ⟨@GoC_bool, ⟨@GoC_any, @GoP_some⟩⟩⟩, ⟨⟨@GoPG_bool, ⟨@GoPG_tup, @isAct.eq_1⟩⟩, ⟨@isAct.eq_2, ⟨@isAct.eq_3, @isAct.eq_4⟩⟩⟩⟩⟩⟩, ⟨⟨⟨⟨⟨@isAct.eq_5, @neu.eq_1⟩, ⟨@neu.eq_2, ⟨@neu.eq_3, @neu.eq_4⟩⟩⟩, ⟨⟨@neu.eq_5, ⟨@neu.eq_6, @neu.eq_7⟩⟩, ⟨@neu.eq_8, ⟨@neu.eq_9, @neu.eq_10⟩⟩⟩⟩, ⟨⟨⟨@neu.eq_11, ⟨@neu.eq_12, @neu.eq_13⟩⟩, ⟨@neu.eq_14, ⟨@neu.eq_15, @neu.eq_16⟩⟩⟩, ⟨⟨@neu.eq_17, ⟨@neu.eq_18, @neu.eq_19⟩⟩, ⟨@neu.eq_20, ⟨@neu.eq_21, @neu.eq_22⟩⟩⟩⟩⟩, ⟨⟨⟨⟨@neu.eq_23, @neu.eq_24⟩, ⟨@neu.eq_25, ⟨@neu.eq_26, @neu.eq_27⟩⟩⟩, ⟨⟨@neu.eq_28, ⟨@neu.eq_29, @neu.eq_30⟩⟩, ⟨@neu.eq_31, ⟨@neu.eq_32, @neu.eq_33⟩⟩⟩⟩, ⟨⟨⟨@neu.eq_34, ⟨@neu.eq_35, @neu.eq_36⟩⟩, ⟨@neu.eq_37, ⟨@neu.eq_38, @neu.eq_39⟩⟩⟩, ⟨⟨@neu.eq_40, ⟨@St.get.eq_1, @St.get.eq_2⟩⟩, ⟨@St.start.eq_1, ⟨@St.put.eq_1, @St.put.eq_2⟩⟩⟩⟩⟩⟩⟩, ⟨⟨⟨⟨⟨⟨@St.eff.eq_1, @dsts.eq_1⟩, ⟨@dsts.eq_2, ⟨@dsts.eq_3, @upd.eq_1⟩⟩⟩, ⟨⟨@idxI.eq_1, ⟨@idxI.eq_2, @binV.eq_1⟩⟩, ⟨@binV.eq_2, ⟨@binV.eq_3, @binV.eq_4⟩⟩⟩⟩, ⟨⟨⟨@binV.eq_5, ⟨@binV.eq_6, @binI.eq_1⟩⟩, ⟨@binI.eq_2, ⟨@binI.eq_3, @binI.eq_4⟩⟩⟩, ⟨⟨@binI.eq_5, ⟨@binI.eq_6, @binI.eq_7⟩⟩, ⟨@binI.eq_8, ⟨@binI.eq_9, @binI.eq_10⟩⟩⟩⟩⟩, ⟨⟨⟨⟨@binI.eq_11, @binI.eq_12⟩, ⟨@binI.eq_13, ⟨@binI.eq_14, @binI.eq_15⟩⟩⟩, ⟨⟨@binI.eq_16, ⟨@isShift.eq_1, @isShift.eq_2⟩⟩, ⟨@isShift.eq_3, ⟨@unV.eq_1, @unV.eq_2⟩⟩⟩⟩, ⟨⟨⟨@unV.eq_3, ⟨@unV.eq_4, @unV.eq_5⟩⟩, ⟨@unV.eq_6, ⟨@List.getD_cons_zero.{0}, @List.getD_cons_succ.{0}⟩⟩⟩, ⟨⟨@IV.isU.eq_1, ⟨@IV.isU.eq_2, @Bool.false_eq_true⟩⟩, ⟨@if_false.{0}, ⟨@if_false.{1}, @if_true.{0}⟩⟩⟩⟩⟩⟩, ⟨⟨⟨⟨⟨@if_true.{1}, @List.length_nil.{0}⟩, ⟨@List.length_cons.{0}, ⟨@true_and, @and_true⟩⟩⟩, ⟨⟨@and_self, ⟨@true_or, @or_true⟩⟩, ⟨@not_true_eq_false, ⟨@not_false_eq_true, @Int.natCast_nonneg⟩⟩⟩⟩, ⟨⟨⟨@Int.toNat_natCast, ⟨@il_length, @Nat.mul_one⟩⟩, ⟨@decide_true, ⟨@decide_false, @Bool.not_true⟩⟩⟩, ⟨⟨@Bool.not_false, ⟨@beq_self_eq_true.{0}, @Post.eq_1⟩⟩, ⟨@Post.eq_2, ⟨@St.ress.eq_1, @St.ress.eq_2⟩⟩⟩⟩⟩, ⟨⟨⟨⟨@St.res.eq_1, @St.res.eq_2⟩, ⟨@St.exp.eq_1, ⟨@St.exp.eq_2, @St.exp.eq_3⟩⟩⟩, ⟨⟨@St.exp.eq_4, ⟨@St.exp.eq_5, @List.filter_nil.{0}⟩⟩, ⟨@List.filter_cons.{0}, ⟨@isOwn.eq_1, @isOwn.eq_2⟩⟩⟩⟩, ⟨⟨⟨@ne_eq.{1}, ⟨@Nat.zero_le, @Nat.lt_irrefl⟩⟩, ⟨@Int.natCast_zero, ⟨@Int.ofNat_zero, @Nat.lt_add_one⟩⟩⟩, ⟨⟨@Nat.zero_lt_one, ⟨@St.nest1.eq_1, @St.nest1.eq_2⟩⟩, ⟨@St.nest1.eq_3, ⟨@St.nest1.eq_4, @St.nest1.eq_5⟩⟩⟩⟩⟩⟩⟩⟩, ⟨⟨⟨⟨⟨⟨⟨@St.nest1.eq_6, @St.nest1.eq_7⟩, ⟨@List.take_succ_cons.{0}, ⟨@List.take_zero.{0}, @Nat.le_add_left⟩⟩⟩, ⟨⟨@List.drop_succ_cons.{0}, ⟨@List.drop_zero.{0}, @List.append_nil.{0}⟩⟩, ⟨@List.nil_append.{0}, ⟨@List.cons_append.{0}, @freshBlk.eq_1⟩⟩⟩⟩, ⟨⟨⟨@St.ok.eq_1, @IV.cells.eq_1⟩, ⟨@IV.cells.eq_2, ⟨@IV.cells.eq_3, @IV.boxable.eq_1⟩⟩⟩, ⟨⟨@IV.boxable.eq_2, ⟨@IV.boxable.eq_3, @IV.one.eq_1⟩⟩, ⟨@IV.one.eq_2, ⟨@IV.one.eq_3, @IV.one.eq_4⟩⟩⟩⟩⟩, ⟨⟨⟨⟨@IV.one.eq_5, @IV.one.eq_6⟩, ⟨@IV.one.eq_7, ⟨@IV.one.eq_8, @IV.one.eq_9⟩⟩⟩, ⟨⟨@IV.one.eq_10, ⟨@St.seg.eq_1, @Nat.zero_add⟩⟩, ⟨@Nat.add_zero, ⟨@Nat.le_refl, @false_implies⟩⟩⟩⟩, ⟨⟨⟨@forall_const.{0}, ⟨@forall_const.{1}, @Bool.and_self⟩⟩, ⟨@Bool.true_and, ⟨@Bool.and_true, @and_false⟩⟩⟩, ⟨⟨@false_and, ⟨@St.snaps.eq_1, @St.snaps.eq_2⟩⟩, ⟨@St.snap.eq_1, ⟨@St.snap.eq_2, @St.snap.eq_3⟩⟩⟩⟩⟩⟩, ⟨⟨⟨⟨⟨@St.snap1.eq_1, @St.snap1.eq_2⟩, ⟨@St.snapB.eq_1, ⟨@St.snapB.eq_2, @St.snapB.eq_3⟩⟩⟩, ⟨⟨@St.snapB.eq_4, ⟨@St.snapB.eq_5, @St.snapB.eq_6⟩⟩, ⟨@St.snapB.eq_7, ⟨@St.snapB.eq_8, @St.stabs.eq_1⟩⟩⟩⟩, ⟨⟨⟨@St.stabs.eq_2, ⟨@St.stab.eq_1, @St.stab.eq_2⟩⟩, ⟨@St.stab.eq_3, ⟨@St.stab.eq_4, @St.stab.eq_5⟩⟩⟩, ⟨⟨@St.stab.eq_6, ⟨@IV.scalR.eq_1, @IV.scalR.eq_2⟩⟩, ⟨@IV.scalR.eq_3, ⟨@IV.scalR.eq_4, @IV.scal.eq_1⟩⟩⟩⟩⟩, ⟨⟨⟨⟨@IV.scal.eq_2, @IV.scal.eq_3⟩, ⟨@IV.scal.eq_4, ⟨@IV.scal.eq_5, @List.all_nil.{0}⟩⟩⟩, ⟨⟨@List.all_cons.{0}, ⟨@St.imp.eq_1, @impV.eq_1⟩⟩, ⟨@impV.eq_2, ⟨@impV.eq_3, @asRes.eq_1⟩⟩⟩⟩, ⟨⟨⟨@asRes.eq_2, ⟨@plainL.eq_1, @plainL.eq_2⟩⟩, ⟨@plainL.eq_3, ⟨@St.dead.eq_1, @St.more.eq_1⟩⟩⟩, ⟨⟨@St.more.eq_2, ⟨@St.elems.eq_1, @St.elems.eq_2⟩⟩, ⟨@St.elems.eq_3, ⟨@St.parts.eq_1, @St.parts.eq_2⟩⟩⟩⟩⟩⟩⟩, ⟨⟨⟨⟨⟨⟨@St.partsN.eq_1, @St.partsN.eq_2⟩, ⟨@St.nest.eq_1, ⟨@placed.eq_1, @placed.eq_2⟩⟩⟩, ⟨⟨@repl.eq_1, ⟨@List.flatten_cons.{0}, @List.flatten_nil.{0}⟩⟩, ⟨@IV.purL.eq_1, ⟨@IV.purL.eq_2, @IV.pur.eq_1⟩⟩⟩⟩, ⟨⟨⟨@IV.pur.eq_2, ⟨@IV.pur.eq_3, @IV.pur.eq_4⟩⟩, ⟨@IV.pur.eq_5, ⟨@IV.pur.eq_6, @IV.pur.eq_7⟩⟩⟩, ⟨⟨@IV.pur.eq_8, ⟨@IV.pur.eq_9, @IV.pur.eq_10⟩⟩, ⟨@IV.pur.eq_11, ⟨@List.take_nil.{0}, @List.drop_nil.{0}⟩⟩⟩⟩⟩, ⟨⟨⟨⟨@or_self, @false_or⟩, ⟨@or_false, ⟨@Option.isSome_none.{0}, @Option.isSome_some.{0}⟩⟩⟩, ⟨⟨@Bool.false_and, ⟨@Nat.sub_zero, @Nat.zero_mul⟩⟩, ⟨@Nat.mul_zero, ⟨@bnds.eq_1, @bnd.eq_1⟩⟩⟩⟩, ⟨⟨⟨@bnd.eq_2, ⟨@implies_true.{0}, @implies_true.{1}⟩⟩, ⟨@hideH.eq_1, ⟨@List.mem_cons.{0}, @List.not_mem_nil.{0}⟩⟩⟩, ⟨⟨@St.nestL.eq_1, ⟨@St.nestL.eq_2, @List.getElem?_cons_zero.{0}⟩⟩, ⟨@List.getElem?_cons_succ.{0}, ⟨@List.getElem?_nil.{0}, @List.isEmpty_nil.{0}⟩⟩⟩⟩⟩⟩, ⟨⟨⟨⟨⟨@List.isEmpty_cons.{0}, @St.frz.eq_1⟩, ⟨@frzL.eq_1, ⟨@frzL.eq_2, @frzL.eq_3⟩⟩⟩, ⟨⟨@St.frzH.eq_1, ⟨@hom0, @List.map_cons.{0, 0}⟩⟩, ⟨@List.map_nil.{0, 0}, ⟨@St.vals.eq_1, @St.vals.eq_2⟩⟩⟩⟩, ⟨⟨⟨@IV.nlit.eq_1, ⟨@IV.nlit.eq_2, @IV.nlit.eq_3⟩⟩, ⟨@St.raws.eq_1, ⟨@St.raws.eq_2, @St.raw.eq_1⟩⟩⟩, ⟨⟨@St.raw.eq_2, ⟨@St.snapPL.eq_1, @St.snapPL.eq_2⟩⟩, ⟨@St.callee.eq_1, ⟨@fitR.eq_1, @fitR.eq_2⟩⟩⟩⟩⟩, ⟨⟨⟨⟨@eqL.eq_1, @eqL.eq_2⟩, ⟨@eqL.eq_3, ⟨@eqC.eq_1, @eqC.eq_2⟩⟩⟩, ⟨⟨@eqC.eq_3, ⟨@eqC.eq_4, @CK.fit.eq_1⟩⟩, ⟨@CK.fit.eq_2, ⟨@CK.fit.eq_3, @CK.fit.eq_4⟩⟩⟩⟩, ⟨⟨⟨@Int.cast_ofNat_Int, ⟨@Int.toNat_zero, @Int.toNat_one⟩⟩, ⟨@Wp_drcE, ⟨@keepH.eq_1, @St.snapL.eq_1⟩⟩⟩, ⟨⟨@St.snapL.eq_2, ⟨@DapB_eq, @Nat.le_add_right⟩⟩, ⟨@Nat.add_sub_cancel, ⟨@Nat.add_sub_cancel_left, @eq_self.{1}⟩⟩⟩⟩⟩⟩⟩⟩⟩⟩
end Go.Proofs.YtkphojcmjffccaaDoor

/-! The row's step where the row lists variables. -/
set_option linter.unusedSectionVars false
set_option linter.unusedVariables false
set_option linter.unusedSimpArgs false
namespace Go.Proofs.YtkphojcmjffccaaDoor
open Go.RowKit Go.ChangeShapes Go.WideShapes
section
variable {H : Type} {enc : TypeId × Value → H}

theorem law_liftedL {C : Checked} {os : Os} {f : FuncId} {fn : Func} {s : ChangeSpec} {tb : TypeId} {laid : List (String × DataW Unit)}
    (own : ownKnob C.prog.godebug = none) (started : os.Started) (noInit : C.prog.inits.idxOf? f = none) (hfn : C.prog.funcs[f]? = some fn)
    (witness : ∃ (w : World) (tape : Tape) (i : Input), w.os = os ∧ (w.forCall tape i).Shaped C.prog ∧ i.vars = [] ∧ Input.okWide C.prog (w.forCall tape i) .any w.heap.size f i ∧
      ((s.pre enc C.prog fn [] false (w.forCall tape i).memory i.args ∧ laidMetH C.prog laid (w.forCall tape i).memory) ∧ sizedMet enc C.prog fn (OpenSpec.ofChange s) false (w.forCall tape i).memory i.args) ∧ ({} : Assume).holds C.prog (lone (Frame.enter C.prog f i.args .normal) [] (w.forCall tape i)))
    (hl : laidOutB C.prog = true) (hvars : s.vars = []) (hres : fn.resultTypes = #[tb]) (htb : C.prog.underlying tb = some .bool)
    (hps : ∀ t ∈ fn.params.toList, (flat C.prog 10 t).isSome = true ∧ C.prog.readableRec t = true ∧ t < C.prog.types.size)
    (hspec : ∀ ds : List (DataW H), ds.length = fn.params.size → (s.fn H ds).results = [.lit (.bool true)] ∧ (s.fn H ds).args = ds ∧ (s.fn H ds).vars = [])
    (law : ∀ ivs, okArgs C.prog fn.params.toList ivs → RC C.prog f ivs [.bool true]) :
    ReturnsInHanded {} C os f .any (fun w args => (s.pre enc C.prog fn [] false w args ∧ laidMetH C.prog laid w) ∧ sizedMet enc C.prog fn (OpenSpec.ofChange s) false w args) (s.post enc C.prog fn false true false false) := by
  refine returnsInHanded_of_change_and (X := fun w _ => laidMetH C.prog laid w) (fun _ _ _ hh h => h.of_heap hh) own started noInit hfn witness ?_
  intro W base args ds gs before hval hW hcnd _ _ _
  have hW' := hW
  obtain ⟨p, q, hA, hV, rfl, hfz, hnd⟩ := hW
  obtain ⟨ivs, k1, k2, k3, k4⟩ := args_opened (vs := args.toList) (fun t ht => (hps t ht).1) (fun j t v ht hv => hval j t v (by simpa using ht) (by simpa using hv)) hA
  rw [hvars] at hV
  obtain ⟨rfl, rfl⟩ := trodVars_none hV
  refine (law_calls (law ivs k1) k2 k3 k4).mono fun e W' ⟨he, hb⟩ => ?_
  have hlen : ∀ {ts : List TypeId} {vs : List Value} {ds : List (DataW H)} {ps : List MemPlace}, DataW.TrodAll enc C.prog W 0 (fun _ => true) true ts vs ds ps → ds.length = ts.length := by
    intro ts
    induction ts with
    | nil => intro vs ds ps h; cases vs <;> cases ds <;> simp [DataW.TrodAll] at h ⊢
    | cons t ts ih => intro vs ds ps h; cases vs <;> cases ds <;> simp only [DataW.TrodAll] at h; obtain ⟨_, _, _, h2, _⟩ := h; simp [ih h2]
  obtain ⟨s1, s2, s3⟩ := hspec ds (by rw [hlen hA]; simp)
  have hlt : ∀ x ∈ p, x.block < W.heap.size := fun x hx => by
    have := hW'.lt x (by simpa using hx)
    exact this
  refine ⟨_, he, ds, [], p ++ [], [], p, [], hW', ?_, ?_, ?_, ?_, by simp⟩
  · rw [List.append_nil, s1, hres]
    exact trodAll_mk1 (shut_bool htb true)
  · rw [List.append_nil, s2]
    exact args_stay hl hb (fun t ht => (hps t ht).2) hA hlt
  · rw [List.append_nil, s3, hvars]
    exact rfl
  · exact hb.frame _
end
end Go.Proofs.YtkphojcmjffccaaDoor
/- slices.Chunk over bytes, 64 by 64: what it hands back. -/
set_option linter.unusedSimpArgs false
set_option linter.unusedSectionVars false
set_option linter.unusedVariables false
namespace Go.Proofs.YtkphojcmjffccaaDoor
open Go.RowKit Go.Shelf
attribute [local go_sem] Oper.semAt_some

set_option maxRecDepth 100000 in
set_option maxHeartbeats 1000000 in
theorem chunk_in (n : Nat) (a : Option Addr) (len cap : Nat) (w : World) : CallsIn Fence.wide n Tryd.prog 36 #[.slice a len cap, .int .i64 64] w fun e w' =>
    e = .returned (.func (.func 51) #[] #[.pointer (some ⟨w.heap.size, 0, none⟩), .pointer (some ⟨w.heap.size + 1, 0, none⟩)]) ∧ w' = (w.alloc (.cells #[.slice a len cap] 22)).alloc (.cells #[.int .i64 64] 3) := by
  refine callsIn_of_wp Tryd.func36 rfl trivial ?_ rfl
  simp only [Tryd.ntmps36, List.size_toArray, List.length_cons, List.length_nil, Nat.reduceAdd, Nat.reduceSub, Array.replicate_succ, Array.replicate_zero, List.push_toArray, List.append_toArray, List.nil_append, List.cons_append]
  gi_wp2
  go_ret
  exact ⟨rfl, rfl⟩

theorem chunk_ok (f : Fl) (n : Nat) (cs : List IV) : RC Tryd.prog 36 [.sl f n cs, .int .i64 64] [.clo 51 [.addr [.sl f n cs], .addr [.int .i64 64]]] := by
  refine ⟨by kernel_rfl, ?_⟩
  intro w A vals hA hnl hpu hv
  simp only [VRL] at hv
  obtain ⟨u, _, rfl, h1, u2, _, rfl, h2, rfl⟩ := hv
  have h1' := h1
  simp only [VR] at h1 h2
  obtain ⟨Aa, k, us, rfl, hk, hfk, hfb, hp, ho, hus, hat⟩ := h1
  subst h2
  have hfl : ¬ f = .lit := by rintro rfl; simp [IV.nlit] at hnl
  refine Calls.mono ((callsIn_wide (n := 3)).1 (chunk_in 3 Aa n k w)) ?_
  rintro e w' ⟨rfl, rfl⟩
  have hb : Below w.heap.size w ((w.alloc (.cells #[.slice Aa n k] 22)).alloc (.cells #[.int .i64 64] 3)) := ((Below.refl _ w).alloc (Nat.le_refl _) _).alloc (by simp) _
  have hone : (IV.sl f n cs).one = true := by cases f <;> first | rfl | exact absurd rfl hfl
  have hnl1 : (IV.sl f n cs).nlit = true := by cases f <;> first | rfl | exact absurd rfl hfl
  refine ⟨_, rfl, ⟨fun b => A b ∨ b = w.heap.size ∨ b = w.heap.size + 1, [_], rfl, ?_, ?_, by simp [isOwn]⟩, hb⟩
  · rintro b (h | rfl | rfl)
    · exact ⟨fun _ => h, by have := hA b h; simp; omega⟩
    · exact ⟨fun h => absurd h (Nat.lt_irrefl _), by simp; omega⟩
    · exact ⟨fun h => by omega, by simp⟩
  · refine .cons ⟨by simp [IV.pur, IV.purL, hp], rfl, ?_⟩ .nil
    have hev : EvoP (cArg A w) ⟨(w.alloc (.cells #[.slice Aa n k] 22)).alloc (.cells #[.int .i64 64] 3), fun b => A b ∨ b = w.heap.size ∨ b = w.heap.size + 1, deadH, fun _ => none, w.heap.size⟩ :=
      ⟨fun b h => .inl h, fun b h i => hb.cell (p := ⟨b, i, none⟩) (hA b h)⟩
    have hvv := h1'.evoP hev (by simp [IV.pur, hp]) hnl1
    simp only [VR, VRL]
    refine ⟨[_, _], rfl, rfl, _, _, rfl, ⟨_, [_], rfl, rfl, by simp [IV.purL, IV.pur, hp], by simp [hone], ⟨_, _, rfl, hvv, rfl⟩, ?_⟩, _, _, rfl, ⟨_, [_], rfl, rfl, by decide, by decide, ⟨_, _, rfl, rfl, rfl⟩, ?_⟩, rfl⟩
    · intro i hi
      obtain rfl : i = 0 := by simpa using hi
      refine ⟨_, rfl, rfl, .inr (.inl rfl), ?_⟩
      simp
    · intro i hi
      obtain rfl : i = 0 := by simpa using hi
      refine ⟨_, rfl, rfl, .inr (.inr rfl), ?_⟩
      simp
end Go.Proofs.YtkphojcmjffccaaDoor
/- A region's walk within a round of a range over a function. -/
set_option linter.unusedSimpArgs false
set_option linter.unusedSectionVars false
set_option linter.unusedVariables false
namespace Go.Proofs.YtkphojcmjffccaaDoor
open Go Go.RowKit

variable {P : Program} {ops : Array Oper} {Q : Exit → Act → World → Prop} {l n : Nat}

theorem rowsIn_round {row : String} {args : Array Value} {w : World} {R : Value → World → Prop} (h : Rows P row args w R) : RowsIn (Fence.wide.inRound l) n P row args w R := by
  intro c cs _
  obtain ⟨v, w', r, s⟩ := h c cs
  exact ⟨v, w', r, by rw [fenced_inRound]; exact stepsIn_wide.2 s⟩
theorem callsIn_round {f : FuncId} {args : Array Value} {w : World} {R : Ending → World → Prop} (h : Calls P f args w R) : CallsIn (Fence.wide.inRound l) n P f args w R :=
  CallsIn.inRound l (callsIn_wide.2 h)
theorem uponIn_round {o : Oper} {a : Act} {next next' : Act → World → Prop} (hn : ∀ a w, next a w → next' a w) {r : Result Next} (h : o.upon P a next Q r) : o.uponIn (Fence.wide.inRound l) n P a next' Q r := by
  cases r with
  | ok x w =>
    cases x with
    | value v => exact hn _ _ h
    | skip => exact hn _ _ h
    | defer d => exact hn _ _ h
    | enter f args =>
      refine ⟨fun hd => by simp [Fence.wide] at hd, callsIn_round (Calls.mono h fun e w' hr => ?_)⟩
      cases e with
      | returned v => exact hn _ _ hr
      | panicked chain => exact hr
      | outgrown => exact hr
    | row row args => exact ⟨fun hd => by simp [Fence.wide] at hd, rowsIn_round (Rows.mono h fun v w' hr => hn _ _ hr)⟩
    | _ => exact h.elim
  | halt x w =>
    cases x with
    | panic v => exact h
    | _ => exact h.elim
/-- what a region's walk shows, it shows in a round as well -/
theorem opsIn_of_ops (hd : ∀ (i : Nat) (o : Oper), ops[i]? = some o → ∀ c, o.op ≠ .defer c) (hQ : ¬ LetsOut Q) : ∀ (is : List Nat) (a : Act) (w : World), wpOps P ops Q is a w → wpOpsIn (Fence.wide.inRound l) n P ops Q is a w
  | [], _, _, h => h
  | i :: is, a, w, h => by
    simp only [wpOps] at h
    simp only [wpOpsIn]
    cases ho : ops[i]? with
    | none => rw [ho] at h; exact opsIn_of_ops hd hQ is a w h
    | some o =>
      rw [ho] at h
      simp only at h ⊢
      split at h
      · rename_i hw
        rw [if_pos hw]
        refine ⟨fun _ _ => trivial, ?_⟩
        rw [Oper.semAt_eq _ _ _ (hd i o ho)]
        rcases h with h | h
        · exact uponIn_round (fun a w hx => opsIn_of_ops hd hQ is a w hx) h
        · exact absurd h.2 hQ
      · rename_i hw
        rw [if_neg hw]
        exact ⟨fun _ _ => trivial, opsIn_of_ops hd hQ is _ _ h⟩
end Go.Proofs.YtkphojcmjffccaaDoor
/- A region of open order in a round: the engine's part, then what stands behind it by hand. -/
set_option linter.unusedSectionVars false
set_option linter.unusedVariables false
set_option linter.unusedSimpArgs false
namespace Go.Proofs.YtkphojcmjffccaaDoor
open Go.RowKit

section
variable [Off] [Gh] [Old] {P : Program} {w0 : World} {N : Nat} {ops : Array Oper} {Q : Exit → Act → World → Prop}
theorem draw_any {pre hp : List MI} (hc : compL P N ops (ops.toList.take pre.length) hp = some pre) (hop : hp.all MI.isOp = true) (hok : drawOk ops pre = true)
    {s : St} {a : Act} {w : World} {K : St → Prop} (hEnd : ∀ s a w, K s → Rel w0 N s a w → wpOps P ops Q (List.range' pre.length (ops.size - pre.length)) a w) (hr : Rel w0 N s a w)
    (hw : runP (RCs P) { s with h := hideH s.h ((dsts pre).map hom) } (hideH s.h ((dsts pre).map hom)) pre K) : wpAny P .any ops Q ops.size (Array.replicate ops.size false) a { w with drawn := w.drawn + 1 } := by
  have hok := drawOk_spec hok
  obtain ⟨vs, bs, s', k1, k2, k3, k4⟩ := runP_pts (hideH s.h ((dsts pre).map hom)) pre s.t (hideH s.h ((dsts pre).map hom)) _ hw hok.nodup
  obtain ⟨c1, c2, c3⟩ := compL_ops hp _ pre hc hop
  have hnp : pre.length ≤ ops.size := by rw [List.length_take] at c1; simp at c1; omega
  obtain ⟨φ, hrC⟩ := hr.open_
  have hrC' := hrC.called (w' := { w with drawn := w.drawn + 1 }) ⟨rfl, rfl, rfl, Nat.le_refl _, fun _ _ => rfl⟩
  have hrC2 := hrC'.weak (H' := hideH s.h ((dsts pre).map hom)) (fun x => by
    simp only [hideH]
    split
    · exact ⟨rfl, rfl, rfl, fun e => by simp at e, fun h => h⟩
    · exact ⟨rfl, rfl, rfl, fun h => h, fun h => h⟩)
  have := draw_pre (Q := Q) (w0 := w0) (N := N) hc hop hok (t0 := s.t) (h0 := hideH s.h ((dsts pre).map hom)) (vs := vs) (bs := bs) (s' := s') (fun x hx hxd => by simp only [hideH, hxd, if_true, Bool.false_eq_true] at hx) k2 k3 k4
    (fun a w hr' => hEnd _ _ _ k1 hr')
    pre.length (List.range pre.length) (Array.replicate ops.size false) ⟨s.t, hideH s.h ((dsts pre).map hom)⟩ a { w with drawn := w.drawn + 1 } (by simp) List.nodup_range (by simp)
    (fun j hj => by
      have : (Array.replicate ops.size false).getD j false = false := by simp [hj]
      rw [this]
      simp)
    (fun j hj => by simpa using hj)
    (fun j o hj hl => by
      have hl : (Array.replicate ops.size false).getD j false = true := hl
      simp [Array.getElem?_replicate] at hl
      split at hl <;> simp at hl)
    ⟨fun i hi hl => by
      simp [Array.getElem?_replicate] at hl
      split at hl <;> simp at hl, fun x _ => rfl, fun x _ => rfl⟩ hrC2.rel
  rwa [show pre.length + (ops.size - pre.length) = ops.size by omega] at this
end
/-- what no operation writes stays as it is -/
theorem getD_put_ne {a : Act} {d : Option Nat} {z : Nat} (v : Value) (h : d ≠ some z) : (a.put d v).tmps.getD z undef = a.tmps.getD z undef := by
  cases d with
  | none => rfl
  | some d =>
    simp only [Act.put, Array.getD_eq_getD_getElem?, Array.getElem?_setIfInBounds]
    rw [if_neg (fun e => h (by rw [e]))]
theorem ops_frame {P : Program} {ops : Array Oper} {Q Q' : Exit → Act → World → Prop} {z : Nat} {v0 : Value} (hz : ∀ (i : Nat) (o : Oper), ops[i]? = some o → o.dst ≠ some z) (hQ : ¬ LetsOut Q)
    (hQQ : ∀ e a w, Q e a w → a.tmps.getD z undef = v0 → Q' e a w) : ∀ (is : List Nat) (a : Act) (w : World), a.tmps.getD z undef = v0 → wpOps P ops Q is a w → wpOps P ops Q' is a w
  | [], a, w, hv, h => hQQ _ _ _ h hv
  | i :: is, a, w, hv, h => by
    simp only [wpOps] at h ⊢
    cases ho : ops[i]? with
    | none => rw [ho] at h; exact ops_frame hz hQ hQQ is a w hv h
    | some o =>
      rw [ho] at h
      simp only at h ⊢
      have hne := hz i o ho
      split at h
      · rename_i hw
        rw [if_pos hw]
        rcases h with h | h
        · left
          unfold Oper.wp at h ⊢
          have go : ∀ v w', wpOps P ops Q is (a.put o.dst v) w' → wpOps P ops Q' is (a.put o.dst v) w' := fun v w' h' => ops_frame hz hQ hQQ is _ _ ((getD_put_ne v hne).trans hv) h'
          revert h
          generalize (execOp a.eval o).run P w = r
          intro h
          cases r with
          | ok x w' =>
            cases x with
            | value v => exact go _ _ h
            | skip => exact go _ _ h
            | defer d => exact ops_frame hz hQ hQQ is _ _ ((getD_put_ne (a := { a with defers := d :: a.defers }) undef hne).trans hv) h
            | enter f args =>
              refine Calls.mono h fun e w'' hr => ?_
              cases e with
              | returned v => exact go _ _ hr
              | panicked chain => exact hQQ _ _ _ hr hv
              | outgrown => exact absurd hr hQ
            | row row args => exact Rows.mono h fun v w'' hr => go _ _ hr
            | _ => exact h.elim
          | halt x w' =>
            cases x with
            | panic v => exact hQQ _ _ _ h hv
            | _ => exact h.elim
        · exact absurd h.2 hQ
      · rename_i hw
        rw [if_neg hw]
        exact ops_frame hz hQ hQQ is _ _ ((getD_put_ne undef hne).trans hv) h
theorem region_round {P : Program} {ops : Array Oper} {Q Q' : Exit → Act → World → Prop} {l n id z : Nat} {a : Act} {w : World} (hmix : P.follows .mixedOrders = true) (hd : ∀ (i : Nat) (o : Oper), ops[i]? = some o → ∀ c, o.op ≠ .defer c) (hQ : ¬ LetsOut Q) (hQ' : ¬ LetsOut Q') (hz : ∀ (i : Nat) (o : Oper), ops[i]? = some o → o.dst ≠ some z) (hQQ : ∀ e a' w', Q e a' w' → a'.tmps.getD z undef = a.tmps.getD z undef → Q' e a' w')
    (h : wpAny P .any ops Q ops.size (Array.replicate ops.size false) a { w with drawn := w.drawn + 1 }) : (Code.region id ops true).wpIn (Fence.wide.inRound l) n P Q' a w :=
  wpIn_region_draw fun t => by
    simp only [Region.schedule, hmix, Bool.true_or, if_true]
    exact opsIn_of_ops hd hQ' _ _ _ (ops_frame hz hQ hQQ _ _ _ rfl (wpAny_sound ops.size t _ a _ h))
end Go.Proofs.YtkphojcmjffccaaDoor
