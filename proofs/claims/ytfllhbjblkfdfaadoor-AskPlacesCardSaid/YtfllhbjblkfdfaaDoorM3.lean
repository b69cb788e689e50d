/- The loaded functions as texts of the ideal machine (written by a program of ours), and that they are the loaded ones. -/
import Derived.Test.YtfllhbjblkfdfaaDoorE31
import Derived.Test.YtfllhbjblkfdfaaDoorProg
set_option linter.unusedVariables false
namespace Go.Proofs.YtfllhbjblkfdfaaDoor
open Go.RowKit

/- tollhouse/crc.Check -/
def m16_1 : MCode :=
 (.reg
  [MI.op (some 12) (.mov (.tmp 3)) none,
   MI.op (some 13) (.mov (.tmp 5)) none,
   MI.op (some 14) (.call 29 [(.tmp 12), (.tmp 13)]) none,
   MI.op (some 3) (.mov (.tmp 14)) none])
def m16_2 : MCode :=
 (.seq
  (.blk 1
   (.seq
    (.reg
     [MI.op (some 10) (.ixSl 1 (.tmp 6) (.tmp 8)) none,
      MI.op (some 11) (.load false 1 (.tmp 10)) none,
      MI.op (some 5) (.mov (.tmp 11)) none])
  m16_1))
  (.reg
   [MI.op (some 15) (.bin .add (.tmp 8) (.c (.int .i64 1))) none,
    MI.op (some 8) (.mov (.tmp 15)) none]))
def m16_3 : MCode :=
 (.seq
  (.cond (.tmp 9)
   .skip
   (.exit 0))
  m16_2)
def m16_4 : MCode :=
 (.seq
  (.reg
   [MI.op (some 9) (.bin .lss (.tmp 8) (.tmp 7)) none])
  m16_3)
def m16_5 : MCode :=
 (.blk 0
  (.loop
  m16_4))
def m16_6 : MCode :=
 (.seq
  (.reg
   [MI.op (some 16) (.mov (.tmp 3)) none,
    MI.op (some 17) (.un .xor (.tmp 16)) none,
    MI.op (some 2) (.mov (.tmp 17)) none])
  .ret)
def m16_7 : MCode :=
 (.seq
  (.seq
   (.reg
    [MI.op (some 6) (.mov (.tmp 0)) none,
     MI.op (some 7) (.len (.tmp 6)) none,
     MI.op (some 8) (.mov (.c (.int .i64 0))) none])
  m16_5)
  m16_6)
def m16_8 : MCode :=
 (.seq
  (.reg
   [MI.op (some 3) (.mov (.c (.int .u16 65535))) none])
  m16_7)
def m16_r : List MRes := [.tmp 2]
def m16_b : MCode :=
 (.seq
  (.reg
   [MI.op (some 2) (.mov (.c (.int .u16 0))) none])
  m16_8)
def m16 : MFunc := ⟨1, 18, m16_r, m16_b⟩
theorem c16 : compF Tryd.prog 16 m16 = some m16 := by kernel_rfl

/- tollhouse/tollhouseref04.Sealed -/
def m22_1 : MCode :=
 (.seq
  (.reg
   [MI.op (some 7) (.bsl 0 1 [(.int .u8 0)] []) none,
    MI.op (some 8) (.mov (.tmp 0)) none,
    MI.op (some 9) (.app 1 1 (.tmp 7) (.tmp 8)) none,
    MI.op (some 10) (.mov (.tmp 3)) none,
    MI.op (some 11) (.toInt .u8 (.tmp 10)) none,
    MI.op (some 12) (.mov (.tmp 3)) none,
    MI.op (some 13) (.bin .shr (.tmp 12) (.c (.int .u64 8))) none,
    MI.op (some 14) (.toInt .u8 (.tmp 13)) none,
    MI.op (some 15) (.bsl 2 1 [(.int .u8 0)] [(0, 1, (.tmp 11)), (1, 1, (.tmp 14))]) none,
    MI.op (some 16) (.app 1 1 (.tmp 9) (.tmp 15)) none,
    MI.op (some 2) (.mov (.tmp 16)) none])
  .ret)
def m22_2 : MCode :=
 (.seq
  (.reg
   [MI.op (some 4) (.mov (.tmp 0)) none,
    MI.op (some 5) (.bsl 1 1 [(.sl .full 0 [])] [(0, 1, (.tmp 4))]) none,
    MI.op (some 6) (.call 33 [(.tmp 5)]) none,
    MI.op (some 3) (.mov (.tmp 6)) none])
  m22_1)
def m22_r : List MRes := [.tmp 2]
def m22_b : MCode :=
 (.seq
  (.reg
   [MI.op (some 2) (.mov (.c (.sl .full 0 []))) none])
  m22_2)
def m22 : MFunc := ⟨1, 17, m22_r, m22_b⟩
theorem c22 : compF Tryd.prog 22 m22 = some m22 := by kernel_rfl

/- tollhouse/crc.More -/
def m29_1 : MCode :=
 (.reg
  [MI.op (some 22) (.mov (.tmp 0)) none,
   MI.op (some 23) (.bin .shr (.tmp 22) (.c (.int .u64 1))) none,
   MI.op (some 24) (.mov (.tmp 7)) none,
   MI.op (some 25) (.bin .mul (.c (.int .u16 33800)) (.tmp 24)) none,
   MI.op (some 26) (.bin .xor (.tmp 23) (.tmp 25)) none,
   MI.op (some 0) (.mov (.tmp 26)) none])
def m29_2 : MCode :=
 (.seq
  (.blk 3
   (.seq
    (.reg
     [MI.op (some 20) (.mov (.tmp 0)) none,
      MI.op (some 21) (.bin .and (.tmp 20) (.c (.int .u16 1))) none,
      MI.op (some 7) (.mov (.tmp 21)) none])
  m29_1))
  (.reg
   [MI.op (some 27) (.bin .add (.tmp 18) (.c (.int .i64 1))) none,
    MI.op (some 18) (.mov (.tmp 27)) none]))
def m29_3 : MCode :=
 (.seq
  (.cond (.tmp 19)
   .skip
   (.exit 2))
  m29_2)
def m29_4 : MCode :=
 (.seq
  (.reg
   [MI.op (some 19) (.bin .lss (.tmp 18) (.c (.int .i64 8))) none])
  m29_3)
def m29_5 : MCode :=
 (.blk 2
  (.loop
  m29_4))
def m29_6 : MCode :=
 (.seq
  (.reg
   [MI.op (some 18) (.mov (.c (.int .i64 0))) none])
  m29_5)
def m29_7 : MCode :=
 (.seq
  (.reg
   [MI.op (some 14) (.mov (.tmp 0)) none,
    MI.op (some 15) (.mov (.tmp 6)) none,
    MI.op (some 16) (.toInt .u16 (.tmp 15)) none,
    MI.op (some 17) (.bin .xor (.tmp 14) (.tmp 16)) none,
    MI.op (some 0) (.mov (.tmp 17)) none])
  m29_6)
def m29_8 : MCode :=
 (.seq
  (.blk 1
   (.seq
    (.reg
     [MI.op (some 12) (.ixSl 1 (.tmp 8) (.tmp 10)) none,
      MI.op (some 13) (.load false 1 (.tmp 12)) none,
      MI.op (some 6) (.mov (.tmp 13)) none])
  m29_7))
  (.reg
   [MI.op (some 28) (.bin .add (.tmp 10) (.c (.int .i64 1))) none,
    MI.op (some 10) (.mov (.tmp 28)) none]))
def m29_9 : MCode :=
 (.seq
  (.cond (.tmp 11)
   .skip
   (.exit 0))
  m29_8)
def m29_10 : MCode :=
 (.seq
  (.reg
   [MI.op (some 11) (.bin .lss (.tmp 10) (.tmp 9)) none])
  m29_9)
def m29_11 : MCode :=
 (.blk 0
  (.loop
  m29_10))
def m29_12 : MCode :=
 (.seq
  (.reg
   [MI.op (some 29) (.mov (.tmp 0)) none,
    MI.op (some 4) (.mov (.tmp 29)) none])
  .ret)
def m29_13 : MCode :=
 (.seq
  (.seq
   (.reg
    [MI.op (some 8) (.mov (.tmp 1)) none,
     MI.op (some 9) (.len (.tmp 8)) none,
     MI.op (some 10) (.mov (.c (.int .i64 0))) none])
  m29_11)
  m29_12)
def m29_r : List MRes := [.tmp 4]
def m29_b : MCode :=
 (.seq
  (.reg
   [MI.op (some 4) (.mov (.c (.int .u16 0))) none])
  m29_13)
def m29 : MFunc := ⟨2, 30, m29_r, m29_b⟩
theorem c29 : compF Tryd.prog 29 m29 = some m29 := by kernel_rfl

/- tollhouse/tollhouseref04.Check -/
def m33_1 : MCode :=
 (.seq
  (.blk 1
   (.reg
    [MI.op (some 11) (.mov (.tmp 3)) none,
     MI.op (some 12) (.mov (.tmp 0)) none,
     MI.op (some 13) (.mov (.tmp 4)) none,
     MI.op (some 14) (.ixSl 1 (.tmp 12) (.tmp 13)) none,
     MI.op (some 15) (.load false 1 (.tmp 14)) none,
     MI.op (some 16) (.call 46 [(.tmp 11), (.tmp 15)]) none,
     MI.op (some 3) (.mov (.tmp 16)) none]))
  (.reg
   [MI.op (some 9) (.mov (.tmp 4)) none,
    MI.op (some 10) (.bin .add (.tmp 9) (.c (.int .i64 1))) none,
    MI.op (some 4) (.mov (.tmp 10)) none]))
def m33_2 : MCode :=
 (.seq
  (.seq
   (.reg
    [MI.op (some 5) (.mov (.tmp 4)) none,
     MI.op (some 6) (.mov (.tmp 0)) none,
     MI.op (some 7) (.len (.tmp 6)) none,
     MI.op (some 8) (.bin .lss (.tmp 5) (.tmp 7)) none])
   (.cond (.tmp 8)
    .skip
    (.exit 0)))
  m33_1)
def m33_3 : MCode :=
 (.blk 0
  (.loop
  m33_2))
def m33_4 : MCode :=
 (.seq
  (.reg
   [MI.op (some 17) (.mov (.tmp 3)) none,
    MI.op (some 18) (.un .xor (.tmp 17)) none,
    MI.op (some 2) (.mov (.tmp 18)) none])
  .ret)
def m33_5 : MCode :=
 (.seq
  (.seq
   (.reg
    [MI.op (some 4) (.mov (.c (.int .i64 0))) none])
  m33_3)
  m33_4)
def m33_6 : MCode :=
 (.seq
  (.reg
   [MI.op (some 3) (.mov (.c (.int .u16 65535))) none])
  m33_5)
def m33_r : List MRes := [.tmp 2]
def m33_b : MCode :=
 (.seq
  (.reg
   [MI.op (some 2) (.mov (.c (.int .u16 0))) none])
  m33_6)
def m33 : MFunc := ⟨1, 19, m33_r, m33_b⟩
theorem c33 : compF Tryd.prog 33 m33 = some m33 := by kernel_rfl

/- tollhouse/tollhouseref04.More -/
def m46_1 : MCode :=
 (.cond (.tmp 30)
  (.reg
   [MI.op (some 31) (.mov (.tmp 0)) none,
    MI.op (some 32) (.bin .xor (.tmp 31) (.c (.int .u16 33800))) none,
    MI.op (some 0) (.mov (.tmp 32)) none])
  .skip)
def m46_2 : MCode :=
 (.seq
  (.reg
   [MI.op (some 29) (.mov (.tmp 7)) none,
    MI.op (some 30) (.bin .eql (.tmp 29) (.c (.int .u16 1))) none])
  m46_1)
def m46_3 : MCode :=
 (.seq
  (.reg
   [MI.op (some 27) (.mov (.tmp 0)) none,
    MI.op (some 28) (.bin .shr (.tmp 27) (.c (.int .u64 1))) none,
    MI.op (some 0) (.mov (.tmp 28)) none])
  m46_2)
def m46_4 : MCode :=
 (.seq
  (.blk 3
   (.seq
    (.reg
     [MI.op (some 25) (.mov (.tmp 0)) none,
      MI.op (some 26) (.bin .and (.tmp 25) (.c (.int .u16 1))) none,
      MI.op (some 7) (.mov (.tmp 26)) none])
  m46_3))
  (.reg
   [MI.op (some 23) (.mov (.tmp 6)) none,
    MI.op (some 24) (.bin .add (.tmp 23) (.c (.int .i64 1))) none,
    MI.op (some 6) (.mov (.tmp 24)) none]))
def m46_5 : MCode :=
 (.seq
  (.seq
   (.reg
    [MI.op (some 21) (.mov (.tmp 6)) none,
     MI.op (some 22) (.bin .lss (.tmp 21) (.c (.int .i64 8))) none])
   (.cond (.tmp 22)
    .skip
    (.exit 2)))
  m46_4)
def m46_6 : MCode :=
 (.blk 2
  (.loop
  m46_5))
def m46_7 : MCode :=
 (.seq
  (.reg
   [MI.op (some 6) (.mov (.c (.int .i64 0))) none])
  m46_6)
def m46_8 : MCode :=
 (.seq
  (.blk 1
   (.seq
    (.reg
     [MI.op (some 14) (.mov (.tmp 0)) none,
      MI.op (some 15) (.mov (.tmp 1)) none,
      MI.op (some 16) (.mov (.tmp 5)) none,
      MI.op (some 17) (.ixSl 1 (.tmp 15) (.tmp 16)) none,
      MI.op (some 18) (.load false 1 (.tmp 17)) none,
      MI.op (some 19) (.toInt .u16 (.tmp 18)) none,
      MI.op (some 20) (.bin .xor (.tmp 14) (.tmp 19)) none,
      MI.op (some 0) (.mov (.tmp 20)) none])
  m46_7))
  (.reg
   [MI.op (some 12) (.mov (.tmp 5)) none,
    MI.op (some 13) (.bin .add (.tmp 12) (.c (.int .i64 1))) none,
    MI.op (some 5) (.mov (.tmp 13)) none]))
def m46_9 : MCode :=
 (.seq
  (.seq
   (.reg
    [MI.op (some 8) (.mov (.tmp 5)) none,
     MI.op (some 9) (.mov (.tmp 1)) none,
     MI.op (some 10) (.len (.tmp 9)) none,
     MI.op (some 11) (.bin .lss (.tmp 8) (.tmp 10)) none])
   (.cond (.tmp 11)
    .skip
    (.exit 0)))
  m46_8)
def m46_10 : MCode :=
 (.blk 0
  (.loop
  m46_9))
def m46_11 : MCode :=
 (.seq
  (.reg
   [MI.op (some 33) (.mov (.tmp 0)) none,
    MI.op (some 4) (.mov (.tmp 33)) none])
  .ret)
def m46_12 : MCode :=
 (.seq
  (.seq
   (.reg
    [MI.op (some 5) (.mov (.c (.int .i64 0))) none])
  m46_10)
  m46_11)
def m46_r : List MRes := [.tmp 4]
def m46_b : MCode :=
 (.seq
  (.reg
   [MI.op (some 4) (.mov (.c (.int .u16 0))) none])
  m46_12)
def m46 : MFunc := ⟨2, 34, m46_r, m46_b⟩
theorem c46 : compF Tryd.prog 46 m46 = some m46 := by kernel_rfl

end Go.Proofs.YtfllhbjblkfdfaaDoor
