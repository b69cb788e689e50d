/- sha.Sum: what stands ahead of its loop, and behind, as texts of the ideal machine. -/
import Derived.Test.YtlbilkldjhhopaaZ4
import Derived.Test.YtlbilkldjhhopaaE31
set_option linter.unusedSimpArgs false
set_option linter.unusedSectionVars false
set_option linter.unusedVariables false
namespace Go.Proofs.Ytlbilkldjhhopaa
open Go.RowKit

def ma_0 : MCode := .reg [MI.op (some 2) (.alloc (List.replicate 32 (.int .u8 0))) none]
def ma_1 : MCode := .reg [MI.op (some 10) (.mov (.tmp 0)) none, MI.op (some 11) (.call 38 [(.tmp 10)]) none, MI.op (some 3) (.mov (.tmp 11)) none]
def ma_2 : MCode := .reg [MI.op (some 12) (.call 24 []) none, MI.op (some 4) (.alloc (List.replicate 8 (.int .u32 0))) none, MI.op none (.store 8 (.tmp 4) (.tmp 12)) none]
def ma_3 : MCode := .reg [MI.op (some 13) (.mov (.tmp 3)) none, MI.op (some 14) (.mov (.tmp 3)) none, MI.op (some 15) (.len (.tmp 14)) none, MI.op (some 16) (.toInt .u64 (.tmp 15)) none, MI.op (some 17) (.call 22 [(.tmp 16)]) none,
   MI.op (some 18) (.app 1 1 (.tmp 13) (.tmp 17)) none, MI.frz 18, MI.op (some 19) (.call 39 [(.tmp 18), (.c (.int .i64 64))]) none]

def mb_1 : MCode :=
 (.reg
  [MI.op (some 34) (.mov (.tmp 7)) none,
   MI.op (some 35) (.bin .mul (.c (.int .i64 4)) (.tmp 34)) none,
   MI.op (some 36) (.mov (.tmp 9)) none,
   MI.op (some 37) (.bin .add (.tmp 35) (.tmp 36)) none,
   MI.op (some 38) (.mov (.tmp 8)) none,
   MI.op (some 39) (.mov (.tmp 9)) none,
   MI.op (some 40) (.bin .mul (.c (.int .i64 8)) (.tmp 39)) none,
   MI.op (some 41) (.bin .sub (.c (.int .i64 24)) (.tmp 40)) none,
   MI.op (some 42) (.bin .shr (.tmp 38) (.tmp 41)) none,
   MI.op (some 43) (.toInt .u8 (.tmp 42)) none,
   MI.op (some 44) (.ixArr 32 1 (.tmp 6) (.tmp 37)) none,
   MI.op none (.store 1 (.tmp 44) (.tmp 43)) none])
def mb_2 : MCode :=
 (.seq
  (.blk 5
   (.seq
    (.reg
     [MI.op (some 33) (.mov (.tmp 31)) none,
      MI.op (some 9) (.mov (.tmp 33)) none])
  mb_1))
  (.reg
   [MI.op (some 45) (.bin .add (.tmp 31) (.c (.int .i64 1))) none,
    MI.op (some 31) (.mov (.tmp 45)) none]))
def mb_3 : MCode :=
 (.seq
  (.cond (.tmp 32)
   .skip
   (.exit 4))
  mb_2)
def mb_4 : MCode :=
 (.seq
  (.reg
   [MI.op (some 32) (.bin .lss (.tmp 31) (.c (.int .i64 4))) none])
  mb_3)
def mb_5 : MCode :=
 (.blk 4
  (.loop
  mb_4))
def mb_6 : MCode :=
 (.seq
  (.reg
   [MI.op (some 31) (.mov (.c (.int .i64 0))) none])
  mb_5)
def mb_7 : MCode :=
 (.seq
  (.blk 3
   (.seq
    (.reg
     [MI.op (some 29) (.mov (.tmp 27)) none,
      MI.op (some 30) (.idx 8 1 false (.tmp 26) (.tmp 27)) none,
      MI.op (some 7) (.mov (.tmp 29)) none,
      MI.op (some 8) (.mov (.tmp 30)) none])
  mb_6))
  (.reg
   [MI.op (some 46) (.bin .add (.tmp 27) (.c (.int .i64 1))) none,
    MI.op (some 27) (.mov (.tmp 46)) none]))
def mb_8 : MCode :=
 (.seq
  (.cond (.tmp 28)
   .skip
   (.exit 2))
  mb_7)
def mb_9 : MCode :=
 (.seq
  (.reg
   [MI.op (some 28) (.bin .lss (.tmp 27) (.c (.int .i64 8))) none])
  mb_8)
def mb_10 : MCode :=
 (.blk 2
  (.loop
  mb_9))
def mb_11 : MCode :=
 (.seq
  (.reg
   [MI.op (some 47) (.load true 32 (.tmp 6)) none,
    MI.op none (.store 32 (.tmp 2) (.tmp 47)) none])
  .ret)
def mb_12 : MCode :=
 (.seq
  (.seq
   (.reg
    [MI.op (some 26) (.load true 8 (.tmp 4)) none,
     MI.op (some 27) (.mov (.c (.int .i64 0))) none])
  mb_10)
  mb_11)
def mb_b : MCode :=
 (.seq
  (.reg
   [MI.op (some 6) (.alloc (List.replicate 32 (.int .u8 0))) none])
  mb_12)

theorem ca_0 : compC Try.prog 48 k0 ma_0 = some ma_0 := by kernel_rfl
theorem ca_1 : compC Try.prog 48 k1 ma_1 = some ma_1 := by kernel_rfl
theorem ca_2 : compC Try.prog 48 k2 ma_2 = some ma_2 := by kernel_rfl
theorem ca_3 : compC Try.prog 48 k3 ma_3 = some ma_3 := by kernel_rfl
theorem cb_b : compC Try.prog 48 kD mb_b = some mb_b := by kernel_rfl
end Go.Proofs.Ytlbilkldjhhopaa
