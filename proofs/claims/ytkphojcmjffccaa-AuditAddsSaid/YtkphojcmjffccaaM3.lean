/- The loaded functions as texts of the ideal machine (written by a program of ours), and that they are the loaded ones. -/
import Derived.Test.YtkphojcmjffccaaE31
import Derived.Test.YtkphojcmjffccaaProg
set_option linter.unusedVariables false
namespace Go.Proofs.Ytkphojcmjffccaa
open Go.RowKit

/- tollhouse/reply.Encode -/
def m28_1 : MCode :=
 (.seq
  (.reg
   [MI.op (some 2) (.mov (.c (.sl .full 0 []))) none,
    MI.op (some 3) (.mov (.c (.int .i64 11))) none])
  .ret)
def m28_2 : MCode :=
 (.cond (.tmp 30)
  m28_1
  .skip)
def m28_3 : MCode :=
 (.seq
  (.reg
   [MI.op (some 60) (.mov (.tmp 5)) none,
    MI.op (some 61) (.mov (.tmp 6)) none,
    MI.op (some 62) (.toInt .u8 (.tmp 61)) none,
    MI.op (some 63) (.mov (.tmp 6)) none,
    MI.op (some 64) (.bin .shr (.tmp 63) (.c (.int .u64 8))) none,
    MI.op (some 65) (.toInt .u8 (.tmp 64)) none,
    MI.op (some 66) (.bsl 2 1 [(.int .u8 0)] [(0, 1, (.tmp 62)), (1, 1, (.tmp 65))]) none,
    MI.op (some 67) (.app 1 1 (.tmp 60) (.tmp 66)) none,
    MI.op (some 2) (.mov (.tmp 67)) none,
    MI.op (some 3) (.mov (.c (.int .i64 0))) none])
  .ret)
def m28_4 : MCode :=
 (.seq
  (.reg
   [MI.op (some 57) (.mov (.tmp 5)) none,
    MI.op (some 58) (.bslR 1 1 [(.sl .full 0 [])] [(0, 1, (.tmp 57))]) none,
    MI.op (some 59) (.call 41 [(.tmp 58)]) none,
    MI.op (some 6) (.mov (.tmp 59)) none])
  m28_3)
def m28_5 : MCode :=
 (.seq
  (.reg
   [MI.op (some 34) (.mov (.tmp 4)) none,
    MI.op (some 35) (.toInt .u8 (.tmp 34)) none,
    MI.op (some 36) (.mov (.tmp 4)) none,
    MI.op (some 37) (.bin .shr (.tmp 36) (.c (.int .u64 8))) none,
    MI.op (some 38) (.toInt .u8 (.tmp 37)) none,
    MI.op (some 39) (.mov (.tmp 4)) none,
    MI.op (some 40) (.bin .shr (.tmp 39) (.c (.int .u64 16))) none,
    MI.op (some 41) (.toInt .u8 (.tmp 40)) none,
    MI.op (some 42) (.mov (.tmp 4)) none,
    MI.op (some 43) (.bin .shr (.tmp 42) (.c (.int .u64 24))) none,
    MI.op (some 44) (.toInt .u8 (.tmp 43)) none,
    MI.op (some 45) (.fa 1 (.tmp 1)) none,
    MI.op (some 46) (.load false 1 (.tmp 45)) none,
    MI.op (some 47) (.toInt .u8 (.tmp 46)) none,
    MI.op (some 48) (.fa 2 (.tmp 1)) none,
    MI.op (some 49) (.load false 1 (.tmp 48)) none,
    MI.op (some 50) (.len (.tmp 49)) none,
    MI.op (some 51) (.toInt .u8 (.tmp 50)) none,
    MI.op (some 52) (.bsl 6 1 [(.int .u8 0)] [(0, 1, (.tmp 35)), (1, 1, (.tmp 38)), (2, 1, (.tmp 41)), (3, 1, (.tmp 44)), (4, 1, (.tmp 47)), (5, 1, (.tmp 51))]) none,
    MI.op (some 53) (.fa 2 (.tmp 1)) none,
    MI.op (some 54) (.load false 1 (.tmp 53)) none,
    MI.op (some 55) (.bsl 2 1 [(.sl .full 0 [])] [(0, 1, (.tmp 52)), (1, 1, (.tmp 54))]) none,
    MI.op (some 56) (.call 33 [(.tmp 55)]) none,
    MI.op (some 5) (.mov (.tmp 56)) none])
  m28_4)
def m28_6 : MCode :=
 (.seq
  (.reg
   [MI.op (some 31) (.fa 0 (.tmp 1)) none,
    MI.op (some 32) (.load false 1 (.tmp 31)) none,
    MI.op (some 33) (.toInt .u32 (.tmp 32)) none,
    MI.op (some 4) (.mov (.tmp 33)) none])
  m28_5)
def m28_7 : MCode :=
 (.seq
  (.seq
   (.reg
    [MI.op (some 7) (.fa 0 (.tmp 1)) none,
     MI.op (some 8) (.load false 1 (.tmp 7)) none,
     MI.op (some 9) (.bin .lss (.tmp 8) (.c (.int .i64 0))) none,
     MI.op (some 10) (.mov (.tmp 9)) none,
     MI.op (some 11) (.fa 0 (.tmp 1)) (some (10, false)),
     MI.op (some 12) (.load false 1 (.tmp 11)) (some (10, false)),
     MI.op (some 13) (.bin .gtr (.tmp 12) (.c (.int .i64 2147483647))) (some (10, false)),
     MI.op (some 14) (.pick (.tmp 10) (.c (.bool true)) (.tmp 13)) none,
     MI.op (some 15) (.mov (.tmp 14)) none,
     MI.op (some 16) (.fa 1 (.tmp 1)) (some (15, false)),
     MI.op (some 17) (.load false 1 (.tmp 16)) (some (15, false)),
     MI.op (some 18) (.bin .lss (.tmp 17) (.c (.int .i64 0))) (some (15, false)),
     MI.op (some 19) (.pick (.tmp 15) (.c (.bool true)) (.tmp 18)) none,
     MI.op (some 20) (.mov (.tmp 19)) none,
     MI.op (some 21) (.fa 1 (.tmp 1)) (some (20, false)),
     MI.op (some 22) (.load false 1 (.tmp 21)) (some (20, false)),
     MI.op (some 23) (.bin .gtr (.tmp 22) (.c (.int .i64 255))) (some (20, false)),
     MI.op (some 24) (.pick (.tmp 20) (.c (.bool true)) (.tmp 23)) none,
     MI.op (some 25) (.mov (.tmp 24)) none,
     MI.op (some 26) (.fa 2 (.tmp 1)) (some (25, false)),
     MI.op (some 27) (.load false 1 (.tmp 26)) (some (25, false)),
     MI.op (some 28) (.len (.tmp 27)) (some (25, false)),
     MI.op (some 29) (.bin .gtr (.tmp 28) (.c (.int .i64 255))) (some (25, false)),
     MI.op (some 30) (.pick (.tmp 25) (.c (.bool true)) (.tmp 29)) none])
  m28_2)
  m28_6)
def m28_r : List MRes := [.tmp 2, .tmp 3]
def m28_b : MCode :=
 (.seq
  (.reg
   [MI.op (some 1) (.box (.tmp 0)) none,
    MI.op (some 2) (.mov (.c (.sl .full 0 []))) none,
    MI.op (some 3) (.mov (.c (.int .i64 0))) none])
  m28_7)
def m28 : MFunc := ⟨1, 68, m28_r, m28_b⟩
theorem c28 : compF Try.prog 28 m28 = some m28 := by kernel_rfl

/- tollhouse/tollhouseref17.Encode -/
def m29_1 : MCode :=
 (.seq
  (.reg
   [MI.op (some 2) (.mov (.c (.sl .full 0 []))) none,
    MI.op (some 3) (.mov (.c (.int .i64 11))) none])
  .ret)
def m29_2 : MCode :=
 (.cond (.tmp 28)
  m29_1
  .skip)
def m29_3 : List MI :=
 [MI.op (some 2) (.mov (.tmp 46)) none,
  MI.op (some 3) (.mov (.c (.int .i64 0))) none]
def m29_4 : MCode :=
 (.seq
  (.reg
   (MI.op (some 42) (.mov (.tmp 4)) none ::
    MI.op (some 43) (.fa 2 (.tmp 1)) none ::
    MI.op (some 44) (.load false 1 (.tmp 43)) none ::
    MI.op (some 45) (.app 1 1 (.tmp 42) (.tmp 44)) none ::
    MI.op (some 46) (.call 43 [(.tmp 45)]) none ::
    m29_3))
  .ret)
def m29_5 : MCode :=
 (.seq
  (.drw
   [MI.op (some 29) (.fa 0 (.tmp 1)) none,
    MI.op (some 30) (.load false 1 (.tmp 29)) none,
    MI.op (some 31) (.toInt .u32 (.tmp 30)) none,
    MI.op (some 32) (.call 42 [(.tmp 31), (.c (.int .i64 4))]) none,
    MI.op (some 33) (.fa 1 (.tmp 1)) none,
    MI.op (some 34) (.load false 1 (.tmp 33)) none,
    MI.op (some 35) (.toInt .u8 (.tmp 34)) none,
    MI.op (some 36) (.fa 2 (.tmp 1)) none,
    MI.op (some 37) (.load false 1 (.tmp 36)) none,
    MI.op (some 38) (.len (.tmp 37)) none,
    MI.op (some 39) (.toInt .u8 (.tmp 38)) none,
    MI.op (some 40) (.bsl 2 1 [(.int .u8 0)] [(0, 1, (.tmp 35)), (1, 1, (.tmp 39))]) none]
   [MI.op (some 41) (.app 1 1 (.tmp 32) (.tmp 40)) none,
    MI.op (some 4) (.mov (.tmp 41)) none])
  m29_4)
def m29_6 : MCode :=
 (.seq
  (.seq
   (.reg
    [MI.op (some 5) (.fa 0 (.tmp 1)) none,
     MI.op (some 6) (.load false 1 (.tmp 5)) none,
     MI.op (some 7) (.bin .lss (.tmp 6) (.c (.int .i64 0))) none,
     MI.op (some 8) (.mov (.tmp 7)) none,
     MI.op (some 9) (.fa 0 (.tmp 1)) (some (8, false)),
     MI.op (some 10) (.load false 1 (.tmp 9)) (some (8, false)),
     MI.op (some 11) (.bin .geq (.tmp 10) (.c (.int .i64 2147483648))) (some (8, false)),
     MI.op (some 12) (.pick (.tmp 8) (.c (.bool true)) (.tmp 11)) none,
     MI.op (some 13) (.mov (.tmp 12)) none,
     MI.op (some 14) (.fa 1 (.tmp 1)) (some (13, false)),
     MI.op (some 15) (.load false 1 (.tmp 14)) (some (13, false)),
     MI.op (some 16) (.bin .lss (.tmp 15) (.c (.int .i64 0))) (some (13, false)),
     MI.op (some 17) (.pick (.tmp 13) (.c (.bool true)) (.tmp 16)) none,
     MI.op (some 18) (.mov (.tmp 17)) none,
     MI.op (some 19) (.fa 1 (.tmp 1)) (some (18, false)),
     MI.op (some 20) (.load false 1 (.tmp 19)) (some (18, false)),
     MI.op (some 21) (.bin .gtr (.tmp 20) (.c (.int .i64 255))) (some (18, false)),
     MI.op (some 22) (.pick (.tmp 18) (.c (.bool true)) (.tmp 21)) none,
     MI.op (some 23) (.mov (.tmp 22)) none,
     MI.op (some 24) (.fa 2 (.tmp 1)) (some (23, false)),
     MI.op (some 25) (.load false 1 (.tmp 24)) (some (23, false)),
     MI.op (some 26) (.len (.tmp 25)) (some (23, false)),
     MI.op (some 27) (.bin .gtr (.tmp 26) (.c (.int .i64 255))) (some (23, false)),
     MI.op (some 28) (.pick (.tmp 23) (.c (.bool true)) (.tmp 27)) none])
  m29_2)
  m29_5)
def m29_r : List MRes := [.tmp 2, .tmp 3]
def m29_b : MCode :=
 (.seq
  (.reg
   [MI.op (some 1) (.box (.tmp 0)) none,
    MI.op (some 2) (.mov (.c (.sl .full 0 []))) none,
    MI.op (some 3) (.mov (.c (.int .i64 0))) none])
  m29_6)
def m29 : MFunc := ⟨1, 47, m29_r, m29_b⟩
theorem c29 : compF Try.prog 29 m29 = some m29 := by kernel_rfl

/- tollhouse/crc.Check -/
def m41_1 : MCode :=
 (.reg
  [MI.op (some 12) (.mov (.tmp 3)) none,
   MI.op (some 13) (.mov (.tmp 5)) none,
   MI.op (some 14) (.call 53 [(.tmp 12), (.tmp 13)]) none,
   MI.op (some 3) (.mov (.tmp 14)) none])
def m41_2 : MCode :=
 (.seq
  (.blk 1
   (.seq
    (.reg
     [MI.op (some 10) (.ixSl 1 (.tmp 6) (.tmp 8)) none,
      MI.op (some 11) (.load false 1 (.tmp 10)) none,
      MI.op (some 5) (.mov (.tmp 11)) none])
  m41_1))
  (.reg
   [MI.op (some 15) (.bin .add (.tmp 8) (.c (.int .i64 1))) none,
    MI.op (some 8) (.mov (.tmp 15)) none]))
def m41_3 : MCode :=
 (.seq
  (.cond (.tmp 9)
   .skip
   (.exit 0))
  m41_2)
def m41_4 : MCode :=
 (.seq
  (.reg
   [MI.op (some 9) (.bin .lss (.tmp 8) (.tmp 7)) none])
  m41_3)
def m41_5 : MCode :=
 (.blk 0
  (.loop
  m41_4))
def m41_6 : MCode :=
 (.seq
  (.reg
   [MI.op (some 16) (.mov (.tmp 3)) none,
    MI.op (some 17) (.un .xor (.tmp 16)) none,
    MI.op (some 2) (.mov (.tmp 17)) none])
  .ret)
def m41_7 : MCode :=
 (.seq
  (.seq
   (.reg
    [MI.op (some 6) (.mov (.tmp 0)) none,
     MI.op (some 7) (.len (.tmp 6)) none,
     MI.op (some 8) (.mov (.c (.int .i64 0))) none])
  m41_5)
  m41_6)
def m41_8 : MCode :=
 (.seq
  (.reg
   [MI.op (some 3) (.mov (.c (.int .u16 65535))) none])
  m41_7)
def m41_r : List MRes := [.tmp 2]
def m41_b : MCode :=
 (.seq
  (.reg
   [MI.op (some 2) (.mov (.c (.int .u16 0))) none])
  m41_8)
def m41 : MFunc := ⟨1, 18, m41_r, m41_b⟩
theorem c41 : compF Try.prog 41 m41 = some m41 := by kernel_rfl

/- tollhouse/tollhouseref06.Put -/
def m42_1 : MCode :=
 (.seq
  (.blk 1
   (.reg
    [MI.op (some 12) (.mov (.tmp 5)) none,
     MI.op (some 13) (.mov (.tmp 0)) none,
     MI.op (some 14) (.mov (.tmp 6)) none,
     MI.op (some 15) (.bin .mul (.c (.int .i64 8)) (.tmp 14)) none,
     MI.op (some 16) (.toInt .u64 (.tmp 15)) none,
     MI.op (some 17) (.bin .shr (.tmp 13) (.tmp 16)) none,
     MI.op (some 18) (.toInt .u8 (.tmp 17)) none,
     MI.op (some 19) (.bsl 1 1 [(.int .u8 0)] [(0, 1, (.tmp 18))]) none,
     MI.op (some 20) (.app 1 1 (.tmp 12) (.tmp 19)) none,
     MI.op (some 5) (.mov (.tmp 20)) none]))
  (.reg
   [MI.op (some 10) (.mov (.tmp 6)) none,
    MI.op (some 11) (.bin .add (.tmp 10) (.c (.int .i64 1))) none,
    MI.op (some 6) (.mov (.tmp 11)) none]))
def m42_2 : MCode :=
 (.seq
  (.seq
   (.reg
    [MI.op (some 7) (.mov (.tmp 6)) none,
     MI.op (some 8) (.mov (.tmp 1)) none,
     MI.op (some 9) (.bin .lss (.tmp 7) (.tmp 8)) none])
   (.cond (.tmp 9)
    .skip
    (.exit 0)))
  m42_1)
def m42_3 : MCode :=
 (.blk 0
  (.loop
  m42_2))
def m42_4 : MCode :=
 (.seq
  (.reg
   [MI.op (some 21) (.mov (.tmp 5)) none,
    MI.op (some 4) (.mov (.tmp 21)) none])
  .ret)
def m42_5 : MCode :=
 (.seq
  (.seq
   (.reg
    [MI.op (some 6) (.mov (.c (.int .i64 0))) none])
  m42_3)
  m42_4)
def m42_6 : MCode :=
 (.seq
  (.reg
   [MI.op (some 5) (.mov (.c (.sl .full 0 []))) none])
  m42_5)
def m42_r : List MRes := [.tmp 4]
def m42_b : MCode :=
 (.seq
  (.reg
   [MI.op (some 4) (.mov (.c (.sl .full 0 []))) none])
  m42_6)
def m42 : MFunc := ⟨2, 22, m42_r, m42_b⟩
theorem c42 : compF Try.prog 42 m42 = some m42 := by kernel_rfl

/- tollhouse/tollhouseref04.Sealed -/
def m43_1 : MCode :=
 (.seq
  (.reg
   [MI.op (some 7) (.bsl 0 1 [(.int .u8 0)] []) none,
    MI.op (some 8) (.mov (.tmp 0)) none,
    MI.op (some 9) (.app 1 1 (.tmp 7) (.tmp 8)) none,
    MI.op (some 10) (.mov (.tmp 3)) none,
    MI.op (some 11) (.toInt .u8 (.tmp 10)) none,
    MI.op (some 12) (.mov (.tmp 3)) none,
    MI.op (some 13) (.bin .shr (.tmp 12) (.c (.int .u64 8))) none,
    MI.op (some 14) (.toInt .u8 (.tmp 13)) none,
    MI.op (some 15) (.bsl 2 1 [(.int .u8 0)] [(0, 1, (.tmp 11)), (1, 1, (.tmp 14))]) none,
    MI.op (some 16) (.app 1 1 (.tmp 9) (.tmp 15)) none,
    MI.op (some 2) (.mov (.tmp 16)) none])
  .ret)
def m43_2 : MCode :=
 (.seq
  (.reg
   [MI.op (some 4) (.mov (.tmp 0)) none,
    MI.op (some 5) (.bsl 1 1 [(.sl .full 0 [])] [(0, 1, (.tmp 4))]) none,
    MI.op (some 6) (.call 54 [(.tmp 5)]) none,
    MI.op (some 3) (.mov (.tmp 6)) none])
  m43_1)
def m43_r : List MRes := [.tmp 2]
def m43_b : MCode :=
 (.seq
  (.reg
   [MI.op (some 2) (.mov (.c (.sl .full 0 []))) none])
  m43_2)
def m43 : MFunc := ⟨1, 17, m43_r, m43_b⟩
theorem c43 : compF Try.prog 43 m43 = some m43 := by kernel_rfl

/- tollhouse/crc.More -/
def m53_1 : MCode :=
 (.reg
  [MI.op (some 22) (.mov (.tmp 0)) none,
   MI.op (some 23) (.bin .shr (.tmp 22) (.c (.int .u64 1))) none,
   MI.op (some 24) (.mov (.tmp 7)) none,
   MI.op (some 25) (.bin .mul (.c (.int .u16 33800)) (.tmp 24)) none,
   MI.op (some 26) (.bin .xor (.tmp 23) (.tmp 25)) none,
   MI.op (some 0) (.mov (.tmp 26)) none])
def m53_2 : MCode :=
 (.seq
  (.blk 3
   (.seq
    (.reg
     [MI.op (some 20) (.mov (.tmp 0)) none,
      MI.op (some 21) (.bin .and (.tmp 20) (.c (.int .u16 1))) none,
      MI.op (some 7) (.mov (.tmp 21)) none])
  m53_1))
  (.reg
   [MI.op (some 27) (.bin .add (.tmp 18) (.c (.int .i64 1))) none,
    MI.op (some 18) (.mov (.tmp 27)) none]))
def m53_3 : MCode :=
 (.seq
  (.cond (.tmp 19)
   .skip
   (.exit 2))
  m53_2)
def m53_4 : MCode :=
 (.seq
  (.reg
   [MI.op (some 19) (.bin .lss (.tmp 18) (.c (.int .i64 8))) none])
  m53_3)
def m53_5 : MCode :=
 (.blk 2
  (.loop
  m53_4))
def m53_6 : MCode :=
 (.seq
  (.reg
   [MI.op (some 18) (.mov (.c (.int .i64 0))) none])
  m53_5)
def m53_7 : MCode :=
 (.seq
  (.reg
   [MI.op (some 14) (.mov (.tmp 0)) none,
    MI.op (some 15) (.mov (.tmp 6)) none,
    MI.op (some 16) (.toInt .u16 (.tmp 15)) none,
    MI.op (some 17) (.bin .xor (.tmp 14) (.tmp 16)) none,
    MI.op (some 0) (.mov (.tmp 17)) none])
  m53_6)
def m53_8 : MCode :=
 (.seq
  (.blk 1
   (.seq
    (.reg
     [MI.op (some 12) (.ixSl 1 (.tmp 8) (.tmp 10)) none,
      MI.op (some 13) (.load false 1 (.tmp 12)) none,
      MI.op (some 6) (.mov (.tmp 13)) none])
  m53_7))
  (.reg
   [MI.op (some 28) (.bin .add (.tmp 10) (.c (.int .i64 1))) none,
    MI.op (some 10) (.mov (.tmp 28)) none]))
def m53_9 : MCode :=
 (.seq
  (.cond (.tmp 11)
   .skip
   (.exit 0))
  m53_8)
def m53_10 : MCode :=
 (.seq
  (.reg
   [MI.op (some 11) (.bin .lss (.tmp 10) (.tmp 9)) none])
  m53_9)
def m53_11 : MCode :=
 (.blk 0
  (.loop
  m53_10))
def m53_12 : MCode :=
 (.seq
  (.reg
   [MI.op (some 29) (.mov (.tmp 0)) none,
    MI.op (some 4) (.mov (.tmp 29)) none])
  .ret)
def m53_13 : MCode :=
 (.seq
  (.seq
   (.reg
    [MI.op (some 8) (.mov (.tmp 1)) none,
     MI.op (some 9) (.len (.tmp 8)) none,
     MI.op (some 10) (.mov (.c (.int .i64 0))) none])
  m53_11)
  m53_12)
def m53_r : List MRes := [.tmp 4]
def m53_b : MCode :=
 (.seq
  (.reg
   [MI.op (some 4) (.mov (.c (.int .u16 0))) none])
  m53_13)
def m53 : MFunc := ⟨2, 30, m53_r, m53_b⟩
theorem c53 : compF Try.prog 53 m53 = some m53 := by kernel_rfl

/- tollhouse/tollhouseref04.Check -/
def m54_1 : MCode :=
 (.seq
  (.blk 1
   (.reg
    [MI.op (some 11) (.mov (.tmp 3)) none,
     MI.op (some 12) (.mov (.tmp 0)) none,
     MI.op (some 13) (.mov (.tmp 4)) none,
     MI.op (some 14) (.ixSl 1 (.tmp 12) (.tmp 13)) none,
     MI.op (some 15) (.load false 1 (.tmp 14)) none,
     MI.op (some 16) (.call 57 [(.tmp 11), (.tmp 15)]) none,
     MI.op (some 3) (.mov (.tmp 16)) none]))
  (.reg
   [MI.op (some 9) (.mov (.tmp 4)) none,
    MI.op (some 10) (.bin .add (.tmp 9) (.c (.int .i64 1))) none,
    MI.op (some 4) (.mov (.tmp 10)) none]))
def m54_2 : MCode :=
 (.seq
  (.seq
   (.reg
    [MI.op (some 5) (.mov (.tmp 4)) none,
     MI.op (some 6) (.mov (.tmp 0)) none,
     MI.op (some 7) (.len (.tmp 6)) none,
     MI.op (some 8) (.bin .lss (.tmp 5) (.tmp 7)) none])
   (.cond (.tmp 8)
    .skip
    (.exit 0)))
  m54_1)
def m54_3 : MCode :=
 (.blk 0
  (.loop
  m54_2))
def m54_4 : MCode :=
 (.seq
  (.reg
   [MI.op (some 17) (.mov (.tmp 3)) none,
    MI.op (some 18) (.un .xor (.tmp 17)) none,
    MI.op (some 2) (.mov (.tmp 18)) none])
  .ret)
def m54_5 : MCode :=
 (.seq
  (.seq
   (.reg
    [MI.op (some 4) (.mov (.c (.int .i64 0))) none])
  m54_3)
  m54_4)
def m54_6 : MCode :=
 (.seq
  (.reg
   [MI.op (some 3) (.mov (.c (.int .u16 65535))) none])
  m54_5)
def m54_r : List MRes := [.tmp 2]
def m54_b : MCode :=
 (.seq
  (.reg
   [MI.op (some 2) (.mov (.c (.int .u16 0))) none])
  m54_6)
def m54 : MFunc := ⟨1, 19, m54_r, m54_b⟩
theorem c54 : compF Try.prog 54 m54 = some m54 := by kernel_rfl

/- tollhouse/tollhouseref04.More -/
def m57_1 : MCode :=
 (.cond (.tmp 30)
  (.reg
   [MI.op (some 31) (.mov (.tmp 0)) none,
    MI.op (some 32) (.bin .xor (.tmp 31) (.c (.int .u16 33800))) none,
    MI.op (some 0) (.mov (.tmp 32)) none])
  .skip)
def m57_2 : MCode :=
 (.seq
  (.reg
   [MI.op (some 29) (.mov (.tmp 7)) none,
    MI.op (some 30) (.bin .eql (.tmp 29) (.c (.int .u16 1))) none])
  m57_1)
def m57_3 : MCode :=
 (.seq
  (.reg
   [MI.op (some 27) (.mov (.tmp 0)) none,
    MI.op (some 28) (.bin .shr (.tmp 27) (.c (.int .u64 1))) none,
    MI.op (some 0) (.mov (.tmp 28)) none])
  m57_2)
def m57_4 : MCode :=
 (.seq
  (.blk 3
   (.seq
    (.reg
     [MI.op (some 25) (.mov (.tmp 0)) none,
      MI.op (some 26) (.bin .and (.tmp 25) (.c (.int .u16 1))) none,
      MI.op (some 7) (.mov (.tmp 26)) none])
  m57_3))
  (.reg
   [MI.op (some 23) (.mov (.tmp 6)) none,
    MI.op (some 24) (.bin .add (.tmp 23) (.c (.int .i64 1))) none,
    MI.op (some 6) (.mov (.tmp 24)) none]))
def m57_5 : MCode :=
 (.seq
  (.seq
   (.reg
    [MI.op (some 21) (.mov (.tmp 6)) none,
     MI.op (some 22) (.bin .lss (.tmp 21) (.c (.int .i64 8))) none])
   (.cond (.tmp 22)
    .skip
    (.exit 2)))
  m57_4)
def m57_6 : MCode :=
 (.blk 2
  (.loop
  m57_5))
def m57_7 : MCode :=
 (.seq
  (.reg
   [MI.op (some 6) (.mov (.c (.int .i64 0))) none])
  m57_6)
def m57_8 : MCode :=
 (.seq
  (.blk 1
   (.seq
    (.reg
     [MI.op (some 14) (.mov (.tmp 0)) none,
      MI.op (some 15) (.mov (.tmp 1)) none,
      MI.op (some 16) (.mov (.tmp 5)) none,
      MI.op (some 17) (.ixSl 1 (.tmp 15) (.tmp 16)) none,
      MI.op (some 18) (.load false 1 (.tmp 17)) none,
      MI.op (some 19) (.toInt .u16 (.tmp 18)) none,
      MI.op (some 20) (.bin .xor (.tmp 14) (.tmp 19)) none,
      MI.op (some 0) (.mov (.tmp 20)) none])
  m57_7))
  (.reg
   [MI.op (some 12) (.mov (.tmp 5)) none,
    MI.op (some 13) (.bin .add (.tmp 12) (.c (.int .i64 1))) none,
    MI.op (some 5) (.mov (.tmp 13)) none]))
def m57_9 : MCode :=
 (.seq
  (.seq
   (.reg
    [MI.op (some 8) (.mov (.tmp 5)) none,
     MI.op (some 9) (.mov (.tmp 1)) none,
     MI.op (some 10) (.len (.tmp 9)) none,
     MI.op (some 11) (.bin .lss (.tmp 8) (.tmp 10)) none])
   (.cond (.tmp 11)
    .skip
    (.exit 0)))
  m57_8)
def m57_10 : MCode :=
 (.blk 0
  (.loop
  m57_9))
def m57_11 : MCode :=
 (.seq
  (.reg
   [MI.op (some 33) (.mov (.tmp 0)) none,
    MI.op (some 4) (.mov (.tmp 33)) none])
  .ret)
def m57_12 : MCode :=
 (.seq
  (.seq
   (.reg
    [MI.op (some 5) (.mov (.c (.int .i64 0))) none])
  m57_10)
  m57_11)
def m57_r : List MRes := [.tmp 4]
def m57_b : MCode :=
 (.seq
  (.reg
   [MI.op (some 4) (.mov (.c (.int .u16 0))) none])
  m57_12)
def m57 : MFunc := ⟨2, 34, m57_r, m57_b⟩
theorem c57 : compF Try.prog 57 m57 = some m57 := by kernel_rfl

end Go.Proofs.Ytkphojcmjffccaa
