/- What the rows of the fates share: the arguments by their types. -/
import Derived.Test.YtfohfnhimgmnlaaE28
import Derived.Test.YtfohfnhimgmnlaaRows
set_option maxRecDepth 100000
namespace Go.Proofs.Ytfohfnhimgmnlaa
open Go.RowKit
theorem own_knob : ownKnob Try.prog.godebug = none := by kernel_rfl
theorem laid_out : laidOutB Try.prog = true := by kernel_rfl
theorem flat3 : flat Try.prog 10 3 = some [.int .i64] := by kernel_rfl
theorem flat5 : flat Try.prog 10 5 = some [.int .u8] := by kernel_rfl
theorem flat44 : flat Try.prog 10 44 = some [.sl [.int .u8]] := by kernel_rfl
end Go.Proofs.Ytfohfnhimgmnlaa
