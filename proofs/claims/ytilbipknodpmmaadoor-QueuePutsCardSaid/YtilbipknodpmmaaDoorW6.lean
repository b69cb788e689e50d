/- The law QueueOrder. -/
import Derived.Test.YtilbipknodpmmaaDoorW5
import Derived.Test.YtilbipknodpmmaaDoorM39
import Derived.Test.YtilbipknodpmmaaDoorE31
set_option linter.unusedVariables false
set_option linter.unusedSimpArgs false
set_option linter.unusedSectionVars false
set_option maxRecDepth 100000
set_option maxHeartbeats 8000000
namespace Go.Proofs.YtilbipknodpmmaaDoor
open Go.RowKit

theorem RowI.fr {x : Nat} {H H' : Nat → Blk} {v : IV} {l : List Int} (h : RowI x H v l) (e : H' x = H x) : RowI x H' v l:=by
  rcases h with ⟨a,b⟩ | ⟨a,ver,b,c⟩
  · exact .inl ⟨a,b⟩
  · exact .inr ⟨a,ver,b,e.trans c⟩
variable {s : St} {ids : List Int} {pops : List Bool} {i v5 : Nat} {q : List It} {A B : List Int} {Q : Ex → St → Prop}
theorem RowI.nil {x : Nat} {H : Nat → Blk} : RowI x H (.sl .full 0 []) []:=.inl ⟨rfl,rfl⟩
end Go.Proofs.YtilbipknodpmmaaDoor
