/- The law OpsApart. -/
import Derived.Test.YtilbipknodpmmaaDoorO7
import Derived.Test.YtilbipknodpmmaaDoorM35
import Derived.Test.YtilbipknodpmmaaDoorB4
import Derived.Test.YtilbipknodpmmaaDoorB6
import Derived.Test.YtilbipknodpmmaaDoorE31
import Derived.Test.YtilbipknodpmmaaDoorM13
set_option linter.unusedVariables false
set_option linter.unusedSimpArgs false
set_option linter.unusedSectionVars false
set_option maxRecDepth 100000
set_option maxHeartbeats 8000000
namespace Go.Proofs.YtilbipknodpmmaaDoor
open Go.RowKit

theorem allB_at {vs : List Vol} {j : Nat} (h : j < vs.length) : allB vs = allB (vs.take j) ++ (vs[j].blocks ++ allB (vs.drop (j + 1))) := by
  have e : vs = vs.take j ++ vs[j] :: vs.drop (j + 1) := by rw [List.getElem_cons_drop h, List.take_append_drop]
  have : allB vs = allB (vs.take j ++ vs[j] :: vs.drop (j + 1)) := congrArg allB e
  exact this.trans (by unfold allB; rw [List.flatMap_append, List.flatMap_cons])
theorem decV_tab {vs : List Vol} (hg : goodV vs = true) : decV (tabB vs) = vs := (decV_tabB hg).1
theorem find_at {vs : List Vol} (hg : goodV vs = true) {i : Nat} (hi : i < vs.length) : findV vs[i].name vs = (i : Nat) := find_self_nodup hi (goodV_P hg).nms
theorem bl_eq (d : List UInt8) : eqL (bl d) (bl d) = some true := eqO_self (by simp [isEO, bl])
theorem bl_fit {d : List UInt8} (h : d.length = 32) : fitR [(32, .i)] (bl d) = true := by
  have l : (bl d).length = 32 := by rw [bl_length, h]
  have a : (bl d).all CK.i.fit = true := by simp [bl, CK.fit]
  simp only [fitR]
  rw [List.take_of_length_le (by omega), List.drop_of_length_le (by omega), a]
  simp [l]
theorem w64_u8 (a : UInt8) : IntKind.i64.wrap ((a.toNat : Nat) : Int) = (a.toNat : Nat) := by rw [IntKind.wrap_i64]; have := a.toNat_lt; omega
end Go.Proofs.YtilbipknodpmmaaDoor
