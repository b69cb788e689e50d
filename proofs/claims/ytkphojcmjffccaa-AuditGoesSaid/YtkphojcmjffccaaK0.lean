/- The loaded functions as texts of the ideal machine (written by a program of ours), and that they are the loaded ones. -/
import Derived.Test.YtkphojcmjffccaaE31
import Derived.Test.YtkphojcmjffccaaProg
set_option linter.unusedVariables false
namespace Go.Proofs.Ytkphojcmjffccaa
open Go.RowKit

/- tollhouse/reply.Encode -/
def m28_1 : MCode :=
 (.seq
  (.reg
   [MI.op (some 2) (.mov (.c (.sl .full 0 []))) none,
    MI.op (some 3) (.mov (.c (.int .i64 11))) none])
  .ret)
def m28_2 : MCode :=
 (.cond (.tmp 30)
  m28_1
  .skip)
def m28_3 : MCode :=
 (.seq
  (.reg
   [MI.op (some 60) (.mov (.tmp 5)) none,
    MI.op (some 61) (.mov (.tmp 6)) none,
    MI.op (some 62) (.toInt .u8 (.tmp 61)) none,
    MI.op (some 63) (.mov (.tmp 6)) none,
    MI.op (some 64) (.bin .shr (.tmp 63) (.c (.int .u64 8))) none,
    MI.op (some 65) (.toInt .u8 (.tmp 64)) none,
    MI.op (some 66) (.bsl 2 1 [(.int .u8 0)] [(0, 1, (.tmp 62)), (1, 1, (.tmp 65))]) none,
    MI.op (some 67) (.app 1 1 (.tmp 60) (.tmp 66)) none,
    MI.op (some 2) (.mov (.tmp 67)) none,
    MI.op (some 3) (.mov (.c (.int .i64 0))) none])
  .ret)
def m28_4 : MCode :=
 (.seq
  (.reg
   [MI.op (some 57) (.mov (.tmp 5)) none,
    MI.op (some 58) (.bslR 1 1 [(.sl .full 0 [])] [(0, 1, (.tmp 57))]) none,
    MI.op (some 59) (.call 41 [(.tmp 58)]) none,
    MI.op (some 6) (.mov (.tmp 59)) none])
  m28_3)
def m28_5 : MCode :=
 (.seq
  (.reg
   [MI.op (some 34) (.mov (.tmp 4)) none,
    MI.op (some 35) (.toInt .u8 (.tmp 34)) none,
    MI.op (some 36) (.mov (.tmp 4)) none,
    MI.op (some 37) (.bin .shr (.tmp 36) (.c (.int .u64 8))) none,
    MI.op (some 38) (.toInt .u8 (.tmp 37)) none,
    MI.op (some 39) (.mov (.tmp 4)) none,
    MI.op (some 40) (.bin .shr (.tmp 39) (.c (.int .u64 16))) none,
    MI.op (some 41) (.toInt .u8 (.tmp 40)) none,
    MI.op (some 42) (.mov (.tmp 4)) none,
    MI.op (some 43) (.bin .shr (.tmp 42) (.c (.int .u64 24))) none,
    MI.op (some 44) (.toInt .u8 (.tmp 43)) none,
    MI.op (some 45) (.fa 1 (.tmp 1)) none,
    MI.op (some 46) (.load false 1 (.tmp 45)) none,
    MI.op (some 47) (.toInt .u8 (.tmp 46)) none,
    MI.op (some 48) (.fa 2 (.tmp 1)) none,
    MI.op (some 49) (.load false 1 (.tmp 48)) none,
    MI.op (some 50) (.len (.tmp 49)) none,
    MI.op (some 51) (.toInt .u8 (.tmp 50)) none,
    MI.op (some 52) (.bsl 6 1 [(.int .u8 0)] [(0, 1, (.tmp 35)), (1, 1, (.tmp 38)), (2, 1, (.tmp 41)), (3, 1, (.tmp 44)), (4, 1, (.tmp 47)), (5, 1, (.tmp 51))]) none,
    MI.op (some 53) (.fa 2 (.tmp 1)) none,
    MI.op (some 54) (.load false 1 (.tmp 53)) none,
    MI.op (some 55) (.bsl 2 1 [(.sl .full 0 [])] [(0, 1, (.tmp 52)), (1, 1, (.tmp 54))]) none,
    MI.op (some 56) (.call 33 [(.tmp 55)]) none,
    MI.op (some 5) (.mov (.tmp 56)) none])
  m28_4)
def m28_6 : MCode :=
 (.seq
  (.reg
   [MI.op (some 31) (.fa 0 (.tmp 1)) none,
    MI.op (some 32) (.load false 1 (.tmp 31)) none,
    MI.op (some 33) (.toInt .u32 (.tmp 32)) none,
    MI.op (some 4) (.mov (.tmp 33)) none])
  m28_5)
def m28_7 : MCode :=
 (.seq
  (.seq
   (.reg
    [MI.op (some 7) (.fa 0 (.tmp 1)) none,
     MI.op (some 8) (.load false 1 (.tmp 7)) none,
     MI.op (some 9) (.bin .lss (.tmp 8) (.c (.int .i64 0))) none,
     MI.op (some 10) (.mov (.tmp 9)) none,
     MI.op (some 11) (.fa 0 (.tmp 1)) (some (10, false)),
     MI.op (some 12) (.load false 1 (.tmp 11)) (some (10, false)),
     MI.op (some 13) (.bin .gtr (.tmp 12) (.c (.int .i64 2147483647))) (some (10, false)),
     MI.op (some 14) (.pick (.tmp 10) (.c (.bool true)) (.tmp 13)) none,
     MI.op (some 15) (.mov (.tmp 14)) none,
     MI.op (some 16) (.fa 1 (.tmp 1)) (some (15, false)),
     MI.op (some 17) (.load false 1 (.tmp 16)) (some (15, false)),
     MI.op (some 18) (.bin .lss (.tmp 17) (.c (.int .i64 0))) (some (15, false)),
     MI.op (some 19) (.pick (.tmp 15) (.c (.bool true)) (.tmp 18)) none,
     MI.op (some 20) (.mov (.tmp 19)) none,
     MI.op (some 21) (.fa 1 (.tmp 1)) (some (20, false)),
     MI.op (some 22) (.load false 1 (.tmp 21)) (some (20, false)),
     MI.op (some 23) (.bin .gtr (.tmp 22) (.c (.int .i64 255))) (some (20, false)),
     MI.op (some 24) (.pick (.tmp 20) (.c (.bool true)) (.tmp 23)) none,
     MI.op (some 25) (.mov (.tmp 24)) none,
     MI.op (some 26) (.fa 2 (.tmp 1)) (some (25, false)),
     MI.op (some 27) (.load false 1 (.tmp 26)) (some (25, false)),
     MI.op (some 28) (.len (.tmp 27)) (some (25, false)),
     MI.op (some 29) (.bin .gtr (.tmp 28) (.c (.int .i64 255))) (some (25, false)),
     MI.op (some 30) (.pick (.tmp 25) (.c (.bool true)) (.tmp 29)) none])
  m28_2)
  m28_6)
def m28_r : List MRes := [.tmp 2, .tmp 3]
def m28_b : MCode :=
 (.seq
  (.reg
   [MI.op (some 1) (.box (.tmp 0)) none,
    MI.op (some 2) (.mov (.c (.sl .full 0 []))) none,
    MI.op (some 3) (.mov (.c (.int .i64 0))) none])
  m28_7)
def m28 : MFunc := ⟨1, 68, m28_r, m28_b⟩
theorem c28 : compF Try.prog 28 m28 = some m28 := by kernel_rfl

/- tollhouse/tollhouseref17.Encode -/
/- tollhouse/crc.Check -/
def m41_1 : MCode :=
 (.reg
  [MI.op (some 12) (.mov (.tmp 3)) none,
   MI.op (some 13) (.mov (.tmp 5)) none,
   MI.op (some 14) (.call 53 [(.tmp 12), (.tmp 13)]) none,
   MI.op (some 3) (.mov (.tmp 14)) none])
def m41_2 : MCode :=
 (.seq
  (.blk 1
   (.seq
    (.reg
     [MI.op (some 10) (.ixSl 1 (.tmp 6) (.tmp 8)) none,
      MI.op (some 11) (.load false 1 (.tmp 10)) none,
      MI.op (some 5) (.mov (.tmp 11)) none])
  m41_1))
  (.reg
   [MI.op (some 15) (.bin .add (.tmp 8) (.c (.int .i64 1))) none,
    MI.op (some 8) (.mov (.tmp 15)) none]))
def m41_3 : MCode :=
 (.seq
  (.cond (.tmp 9)
   .skip
   (.exit 0))
  m41_2)
def m41_4 : MCode :=
 (.seq
  (.reg
   [MI.op (some 9) (.bin .lss (.tmp 8) (.tmp 7)) none])
  m41_3)
def m41_5 : MCode :=
 (.blk 0
  (.loop
  m41_4))
def m41_6 : MCode :=
 (.seq
  (.reg
   [MI.op (some 16) (.mov (.tmp 3)) none,
    MI.op (some 17) (.un .xor (.tmp 16)) none,
    MI.op (some 2) (.mov (.tmp 17)) none])
  .ret)
def m41_7 : MCode :=
 (.seq
  (.seq
   (.reg
    [MI.op (some 6) (.mov (.tmp 0)) none,
     MI.op (some 7) (.len (.tmp 6)) none,
     MI.op (some 8) (.mov (.c (.int .i64 0))) none])
  m41_5)
  m41_6)
def m41_8 : MCode :=
 (.seq
  (.reg
   [MI.op (some 3) (.mov (.c (.int .u16 65535))) none])
  m41_7)
def m41_r : List MRes := [.tmp 2]
def m41_b : MCode :=
 (.seq
  (.reg
   [MI.op (some 2) (.mov (.c (.int .u16 0))) none])
  m41_8)
def m41 : MFunc := ⟨1, 18, m41_r, m41_b⟩
theorem c41 : compF Try.prog 41 m41 = some m41 := by kernel_rfl

/- tollhouse/tollhouseref06.Put -/
/- tollhouse/tollhouseref04.Sealed -/
/- tollhouse/crc.More -/
def m53_1 : MCode :=
 (.reg
  [MI.op (some 22) (.mov (.tmp 0)) none,
   MI.op (some 23) (.bin .shr (.tmp 22) (.c (.int .u64 1))) none,
   MI.op (some 24) (.mov (.tmp 7)) none,
   MI.op (some 25) (.bin .mul (.c (.int .u16 33800)) (.tmp 24)) none,
   MI.op (some 26) (.bin .xor (.tmp 23) (.tmp 25)) none,
   MI.op (some 0) (.mov (.tmp 26)) none])
def m53_2 : MCode :=
 (.seq
  (.blk 3
   (.seq
    (.reg
     [MI.op (some 20) (.mov (.tmp 0)) none,
      MI.op (some 21) (.bin .and (.tmp 20) (.c (.int .u16 1))) none,
      MI.op (some 7) (.mov (.tmp 21)) none])
  m53_1))
  (.reg
   [MI.op (some 27) (.bin .add (.tmp 18) (.c (.int .i64 1))) none,
    MI.op (some 18) (.mov (.tmp 27)) none]))
def m53_3 : MCode :=
 (.seq
  (.cond (.tmp 19)
   .skip
   (.exit 2))
  m53_2)
def m53_4 : MCode :=
 (.seq
  (.reg
   [MI.op (some 19) (.bin .lss (.tmp 18) (.c (.int .i64 8))) none])
  m53_3)
def m53_5 : MCode :=
 (.blk 2
  (.loop
  m53_4))
def m53_6 : MCode :=
 (.seq
  (.reg
   [MI.op (some 18) (.mov (.c (.int .i64 0))) none])
  m53_5)
def m53_7 : MCode :=
 (.seq
  (.reg
   [MI.op (some 14) (.mov (.tmp 0)) none,
    MI.op (some 15) (.mov (.tmp 6)) none,
    MI.op (some 16) (.toInt .u16 (.tmp 15)) none,
    MI.op (some 17) (.bin .xor (.tmp 14) (.tmp 16)) none,
    MI.op (some 0) (.mov (.tmp 17)) none])
  m53_6)
def m53_8 : MCode :=
 (.seq
  (.blk 1
   (.seq
    (.reg
     [MI.op (some 12) (.ixSl 1 (.tmp 8) (.tmp 10)) none,
      MI.op (some 13) (.load false 1 (.tmp 12)) none,
      MI.op (some 6) (.mov (.tmp 13)) none])
  m53_7))
  (.reg
   [MI.op (some 28) (.bin .add (.tmp 10) (.c (.int .i64 1))) none,
    MI.op (some 10) (.mov (.tmp 28)) none]))
def m53_9 : MCode :=
 (.seq
  (.cond (.tmp 11)
   .skip
   (.exit 0))
  m53_8)
def m53_10 : MCode :=
 (.seq
  (.reg
   [MI.op (some 11) (.bin .lss (.tmp 10) (.tmp 9)) none])
  m53_9)
def m53_11 : MCode :=
 (.blk 0
  (.loop
  m53_10))
def m53_12 : MCode :=
 (.seq
  (.reg
   [MI.op (some 29) (.mov (.tmp 0)) none,
    MI.op (some 4) (.mov (.tmp 29)) none])
  .ret)
def m53_13 : MCode :=
 (.seq
  (.seq
   (.reg
    [MI.op (some 8) (.mov (.tmp 1)) none,
     MI.op (some 9) (.len (.tmp 8)) none,
     MI.op (some 10) (.mov (.c (.int .i64 0))) none])
  m53_11)
  m53_12)
def m53_r : List MRes := [.tmp 4]
def m53_b : MCode :=
 (.seq
  (.reg
   [MI.op (some 4) (.mov (.c (.int .u16 0))) none])
  m53_13)
def m53 : MFunc := ⟨2, 30, m53_r, m53_b⟩
theorem c53 : compF Try.prog 53 m53 = some m53 := by kernel_rfl

/- tollhouse/tollhouseref04.Check -/
/- tollhouse/tollhouseref04.More -/
end Go.Proofs.Ytkphojcmjffccaa
/- The loaded functions as texts of the ideal machine (written by a program of ours), and that they are the loaded ones. -/
set_option linter.unusedVariables false
namespace Go.Proofs.Ytkphojcmjffccaa
open Go.RowKit

/- tollhouse/tollhousekeep.Bytes -/
/- tollhouse/tollhouseref01.Sum -/
/- tollhouse/sha.Turn -/
def m37_1 : List MI :=
 [MI.op (some 5) (.alloc (List.replicate 64 (.int .u32 0))) none,
  MI.op none (.store 64 (.tmp 5) (.tmp 18)) none]
def m37_2 : List MI :=
 [MI.op (some 60) (.mov (.tmp 9)) none,
  MI.op (some 61) (.mov (.tmp 10)) none,
  MI.op (some 62) (.bin .and (.tmp 60) (.tmp 61)) none,
  MI.op (some 63) (.mov (.tmp 9)) none,
  MI.op (some 64) (.mov (.tmp 11)) none,
  MI.op (some 65) (.bin .and (.tmp 63) (.tmp 64)) none,
  MI.op (some 66) (.bin .xor (.tmp 62) (.tmp 65)) none,
  MI.op (some 67) (.mov (.tmp 10)) none,
  MI.op (some 68) (.mov (.tmp 11)) none,
  MI.op (some 69) (.bin .and (.tmp 67) (.tmp 68)) none,
  MI.op (some 70) (.bin .xor (.tmp 66) (.tmp 69)) none,
  MI.op (some 71) (.bin .add (.tmp 59) (.tmp 70)) none,
  MI.op (some 16) (.mov (.tmp 71)) none]
def m37_3 : MCode :=
 (.reg
  [MI.op (some 72) (.mov (.tmp 15)) none,
   MI.op (some 73) (.mov (.tmp 16)) none,
   MI.op (some 74) (.bin .add (.tmp 72) (.tmp 73)) none,
   MI.op (some 75) (.mov (.tmp 9)) none,
   MI.op (some 76) (.mov (.tmp 10)) none,
   MI.op (some 77) (.mov (.tmp 11)) none,
   MI.op (some 78) (.ixArr 8 1 (.tmp 6) (.c (.int .i64 3))) none,
   MI.op (some 79) (.load false 1 (.tmp 78)) none,
   MI.op (some 80) (.mov (.tmp 15)) none,
   MI.op (some 81) (.bin .add (.tmp 79) (.tmp 80)) none,
   MI.op (some 82) (.mov (.tmp 12)) none,
   MI.op (some 83) (.mov (.tmp 13)) none,
   MI.op (some 84) (.mov (.tmp 14)) none,
   MI.op (some 85) (.build (List.replicate 8 (.int .u32 0)) [(0, 1, (.tmp 74)), (1, 1, (.tmp 75)), (2, 1, (.tmp 76)), (3, 1, (.tmp 77)), (4, 1, (.tmp 81)), (5, 1, (.tmp 82)), (6, 1, (.tmp 83)), (7, 1, (.tmp 84))]) none,
   MI.op none (.store 8 (.tmp 6) (.tmp 85)) none])
def m37_4 : MCode :=
 (.seq
  (.reg
   (MI.op (some 58) (.mov (.tmp 9)) none ::
    MI.op (some 59) (.call 50 [(.tmp 58), (.c (.int .i64 2)), (.c (.int .i64 13)), (.c (.int .i64 22)), (.c (.bool false))]) none ::
    m37_2))
  m37_3)
def m37_5 : MCode :=
 (.seq
  (.drw
   [MI.op (some 38) (.ixArr 8 1 (.tmp 6) (.c (.int .i64 7))) none,
    MI.op (some 39) (.load false 1 (.tmp 38)) none,
    MI.op (some 40) (.mov (.tmp 12)) none,
    MI.op (some 41) (.call 50 [(.tmp 40), (.c (.int .i64 6)), (.c (.int .i64 11)), (.c (.int .i64 25)), (.c (.bool false))]) none,
    MI.op (some 42) (.bin .add (.tmp 39) (.tmp 41)) none,
    MI.op (some 43) (.mov (.tmp 12)) none,
    MI.op (some 44) (.mov (.tmp 13)) none,
    MI.op (some 45) (.bin .and (.tmp 43) (.tmp 44)) none,
    MI.op (some 46) (.mov (.tmp 12)) none,
    MI.op (some 47) (.un .xor (.tmp 46)) none,
    MI.op (some 48) (.mov (.tmp 14)) none,
    MI.op (some 49) (.bin .and (.tmp 47) (.tmp 48)) none,
    MI.op (some 50) (.bin .xor (.tmp 45) (.tmp 49)) none,
    MI.op (some 51) (.bin .add (.tmp 42) (.tmp 50)) none,
    MI.op (some 52) (.mov (.tmp 7)) none,
    MI.op (some 53) (.ixArr 64 1 (.tmp 5) (.tmp 52)) none,
    MI.op (some 54) (.load false 1 (.tmp 53)) none,
    MI.op (some 55) (.bin .add (.tmp 51) (.tmp 54)) none,
    MI.op (some 56) (.mov (.tmp 8)) none]
   [MI.op (some 57) (.bin .add (.tmp 55) (.tmp 56)) none,
    MI.op (some 15) (.mov (.tmp 57)) none])
  m37_4)
def m37_6 : MCode :=
 (.seq
  (.drw
   [MI.op (some 26) (.ixArr 8 1 (.tmp 6) (.c (.int .i64 0))) none,
    MI.op (some 27) (.load false 1 (.tmp 26)) none,
    MI.op (some 28) (.ixArr 8 1 (.tmp 6) (.c (.int .i64 1))) none,
    MI.op (some 29) (.load false 1 (.tmp 28)) none,
    MI.op (some 30) (.ixArr 8 1 (.tmp 6) (.c (.int .i64 2))) none,
    MI.op (some 31) (.load false 1 (.tmp 30)) none,
    MI.op (some 32) (.ixArr 8 1 (.tmp 6) (.c (.int .i64 4))) none,
    MI.op (some 33) (.load false 1 (.tmp 32)) none,
    MI.op (some 34) (.ixArr 8 1 (.tmp 6) (.c (.int .i64 5))) none,
    MI.op (some 35) (.load false 1 (.tmp 34)) none,
    MI.op (some 36) (.ixArr 8 1 (.tmp 6) (.c (.int .i64 6))) none,
    MI.op (some 37) (.load false 1 (.tmp 36)) none,
    MI.op (some 9) (.mov (.tmp 27)) none,
    MI.op (some 10) (.mov (.tmp 29)) none,
    MI.op (some 11) (.mov (.tmp 31)) none,
    MI.op (some 12) (.mov (.tmp 33)) none,
    MI.op (some 13) (.mov (.tmp 35)) none]
   [MI.op (some 14) (.mov (.tmp 37)) none])
  m37_5)
def m37_7 : MCode :=
 (.seq
  (.blk 1
   (.seq
    (.reg
     [MI.op (some 24) (.mov (.tmp 22)) none,
      MI.op (some 25) (.idx 64 1 false (.tmp 21) (.tmp 22)) none,
      MI.op (some 7) (.mov (.tmp 24)) none,
      MI.op (some 8) (.mov (.tmp 25)) none])
  m37_6))
  (.reg
   [MI.op (some 86) (.bin .add (.tmp 22) (.c (.int .i64 1))) none,
    MI.op (some 22) (.mov (.tmp 86)) none]))
def m37_8 : MCode :=
 (.seq
  (.cond (.tmp 23)
   .skip
   (.exit 0))
  m37_7)
def m37_9 : MCode :=
 (.seq
  (.reg
   [MI.op (some 23) (.bin .lss (.tmp 22) (.c (.int .i64 64))) none])
  m37_8)
def m37_10 : MCode :=
 (.blk 0
  (.loop
  m37_9))
def m37_11 : MCode :=
 (.drw
  [MI.op (some 90) (.mov (.tmp 17)) none,
   MI.op (some 91) (.ixArr 8 1 (.tmp 6) (.tmp 90)) none,
   MI.op (some 92) (.load false 1 (.tmp 91)) none,
   MI.op (some 93) (.mov (.tmp 17)) none,
   MI.op (some 94) (.ixArr 8 1 (.tmp 2) (.tmp 93)) none,
   MI.op (some 95) (.load false 1 (.tmp 94)) none]
  [MI.op (some 96) (.bin .add (.tmp 92) (.tmp 95)) none,
   MI.op (some 97) (.ixArr 8 1 (.tmp 6) (.tmp 90)) none,
   MI.op none (.store 1 (.tmp 97) (.tmp 96)) none])
def m37_12 : MCode :=
 (.seq
  (.blk 3
   (.seq
    (.reg
     [MI.op (some 89) (.mov (.tmp 87)) none,
      MI.op (some 17) (.mov (.tmp 89)) none])
  m37_11))
  (.reg
   [MI.op (some 98) (.bin .add (.tmp 87) (.c (.int .i64 1))) none,
    MI.op (some 87) (.mov (.tmp 98)) none]))
def m37_13 : MCode :=
 (.seq
  (.cond (.tmp 88)
   .skip
   (.exit 2))
  m37_12)
def m37_14 : MCode :=
 (.seq
  (.reg
   [MI.op (some 88) (.bin .lss (.tmp 87) (.c (.int .i64 8))) none])
  m37_13)
def m37_15 : MCode :=
 (.blk 2
  (.loop
  m37_14))
def m37_16 : MCode :=
 (.seq
  (.reg
   [MI.op (some 99) (.load true 8 (.tmp 6)) none,
    MI.op none (.store 8 (.tmp 4) (.tmp 99)) none])
  .ret)
def m37_17 : MCode :=
 (.seq
  (.seq
   (.reg
    [MI.op (some 87) (.mov (.c (.int .i64 0))) none])
  m37_15)
  m37_16)
def m37_18 : MCode :=
 (.seq
  (.seq
   (.reg
    [MI.op (some 20) (.load true 64 (.tmp 3)) none,
     MI.op (some 21) (.call 49 [(.tmp 20)]) none,
     MI.op (some 22) (.mov (.c (.int .i64 0))) none])
  m37_10)
  m37_17)
def m37_19 : MCode :=
 (.seq
  (.reg
   [MI.op (some 19) (.load true 8 (.tmp 2)) none,
    MI.op (some 6) (.alloc (List.replicate 8 (.int .u32 0))) none,
    MI.op none (.store 8 (.tmp 6) (.tmp 19)) none])
  m37_18)
def m37_20 : MCode :=
 (.seq
  (.reg
   (MI.op (some 18) (.call 48 []) none ::
    m37_1))
  m37_19)
def m37_r : List MRes := [.cell 4 true 8]
def m37_b : MCode :=
 (.seq
  (.reg
   [MI.op (some 2) (.box (.tmp 0)) none,
    MI.op (some 3) (.box (.tmp 1)) none,
    MI.op (some 4) (.alloc (List.replicate 8 (.int .u32 0))) none])
  m37_20)
def m37 : MFunc := ⟨2, 100, m37_r, m37_b⟩
theorem c37 : compF Try.prog 37 m37 = some m37 := by kernel_rfl

/- tollhouse/tollhouseref01.Turn -/
/- tollhouse/sha.Pad -/
def m36_1 : MCode :=
 (.blk 1
  (.reg
   [MI.op (some 15) (.mov (.tmp 3)) none,
    MI.op (some 16) (.bsl 1 1 [(.int .u8 0)] [(0, 1, (.c (.int .u8 0)))]) none,
    MI.op (some 17) (.app 1 1 (.tmp 15) (.tmp 16)) none,
    MI.op (some 3) (.mov (.tmp 17)) none]))
def m36_2 : MCode :=
 (.seq
  (.seq
   (.reg
    [MI.op (some 8) (.mov (.tmp 0)) none,
     MI.op (some 9) (.mov (.tmp 3)) none,
     MI.op (some 10) (.len (.tmp 9)) none,
     MI.op (some 11) (.toInt .u64 (.tmp 10)) none,
     MI.op (some 12) (.bin .add (.tmp 8) (.tmp 11)) none,
     MI.op (some 13) (.bin .rem (.tmp 12) (.c (.int .u64 64))) none,
     MI.op (some 14) (.bin .neq (.tmp 13) (.c (.int .u64 56))) none])
   (.cond (.tmp 14)
    .skip
    (.exit 0)))
  m36_1)
def m36_3 : MCode :=
 (.reg
  [MI.op (some 21) (.mov (.tmp 3)) none,
   MI.op (some 22) (.mov (.tmp 0)) none,
   MI.op (some 23) (.bin .mul (.tmp 22) (.c (.int .u64 8))) none,
   MI.op (some 24) (.mov (.tmp 4)) none,
   MI.op (some 25) (.bin .mul (.c (.int .i64 8)) (.tmp 24)) none,
   MI.op (some 26) (.bin .sub (.c (.int .i64 56)) (.tmp 25)) none,
   MI.op (some 27) (.bin .shr (.tmp 23) (.tmp 26)) none,
   MI.op (some 28) (.toInt .u8 (.tmp 27)) none,
   MI.op (some 29) (.bsl 1 1 [(.int .u8 0)] [(0, 1, (.tmp 28))]) none,
   MI.op (some 30) (.app 1 1 (.tmp 21) (.tmp 29)) none,
   MI.op (some 3) (.mov (.tmp 30)) none])
def m36_4 : MCode :=
 (.seq
  (.blk 3
   (.seq
    (.reg
     [MI.op (some 20) (.mov (.tmp 18)) none,
      MI.op (some 4) (.mov (.tmp 20)) none])
  m36_3))
  (.reg
   [MI.op (some 31) (.bin .add (.tmp 18) (.c (.int .i64 1))) none,
    MI.op (some 18) (.mov (.tmp 31)) none]))
def m36_5 : MCode :=
 (.seq
  (.cond (.tmp 19)
   .skip
   (.exit 2))
  m36_4)
def m36_6 : MCode :=
 (.seq
  (.reg
   [MI.op (some 19) (.bin .lss (.tmp 18) (.c (.int .i64 8))) none])
  m36_5)
def m36_7 : MCode :=
 (.blk 2
  (.loop
  m36_6))
def m36_8 : MCode :=
 (.seq
  (.reg
   [MI.op (some 32) (.mov (.tmp 3)) none,
    MI.op (some 2) (.mov (.tmp 32)) none])
  .ret)
def m36_9 : MCode :=
 (.seq
  (.seq
   (.reg
    [MI.op (some 18) (.mov (.c (.int .i64 0))) none])
  m36_7)
  m36_8)
def m36_10 : MCode :=
 (.seq
  (.blk 0
   (.loop
  m36_2))
  m36_9)
def m36_11 : MCode :=
 (.seq
  (.reg
   [MI.op (some 7) (.bsl 1 1 [(.int .u8 0)] [(0, 1, (.c (.int .u8 128)))]) none,
    MI.op (some 3) (.mov (.tmp 7)) none])
  m36_10)
def m36_12 : MCode :=
 (.seq
  (.reg
   [MI.op (some 5) (.mov (.tmp 0)) none,
    MI.op (some 6) (.bin .rem (.tmp 5) (.c (.int .u64 2305843009213693952))) none,
    MI.op (some 0) (.mov (.tmp 6)) none])
  m36_11)
def m36_r : List MRes := [.tmp 2]
def m36_b : MCode :=
 (.seq
  (.reg
   [MI.op (some 2) (.mov (.c (.sl .full 0 []))) none])
  m36_12)
def m36 : MFunc := ⟨1, 33, m36_r, m36_b⟩
theorem c36 : compF Try.prog 36 m36 = some m36 := by kernel_rfl

/- tollhouse/tollhouseref01.Pad -/
/- tollhouse/sha.Start -/
def m34_1 : MCode :=
 (.seq
  (.reg
   [MI.op (some 1) (.build (List.replicate 8 (.int .u32 0)) [(0, 1, (.c (.int .u32 1779033703))), (1, 1, (.c (.int .u32 3144134277))), (2, 1, (.c (.int .u32 1013904242))), (3, 1, (.c (.int .u32 2773480762))), (4, 1, (.c (.int .u32 1359893119))), (5, 1, (.c (.int .u32 2600822924))), (6, 1, (.c (.int .u32 528734635))), (7, 1, (.c (.int .u32 1541459225)))]) none,
    MI.op none (.store 8 (.tmp 0) (.tmp 1)) none])
  .ret)
def m34_r : List MRes := [.cell 0 true 8]
def m34_b : MCode :=
 (.seq
  (.reg
   [MI.op (some 0) (.alloc (List.replicate 8 (.int .u32 0))) none])
  m34_1)
def m34 : MFunc := ⟨0, 2, m34_r, m34_b⟩
theorem c34 : compF Try.prog 34 m34 = some m34 := by kernel_rfl

/- tollhouse/tollhouseref01.Start -/
/- tollhouse/tollhousekeep.Mod -/
/- slices.Concat[[]byte,byte] -/
def m33_1 : MCode :=
 (.cond (.tmp 20)
  (.reg
   [MI.op (some 21) (.bad) none,
    MI.op none (.bad) none])
  .skip)
def m33_2 : MCode :=
 (.seq
  (.reg
   [MI.op (some 19) (.mov (.tmp 3)) none,
    MI.op (some 20) (.bin .lss (.tmp 19) (.c (.int .i64 0))) none])
  m33_1)
def m33_3 : MCode :=
 (.seq
  (.reg
   [MI.op (some 15) (.mov (.tmp 3)) none,
    MI.op (some 16) (.mov (.tmp 5)) none,
    MI.op (some 17) (.len (.tmp 16)) none,
    MI.op (some 18) (.bin .add (.tmp 15) (.tmp 17)) none,
    MI.op (some 3) (.mov (.tmp 18)) none])
  m33_2)
def m33_4 : MCode :=
 (.seq
  (.blk 1
   (.seq
    (.reg
     [MI.op (some 13) (.ixSl 1 (.tmp 9) (.tmp 11)) none,
      MI.op (some 14) (.load false 1 (.tmp 13)) none,
      MI.op (some 5) (.mov (.tmp 14)) none])
  m33_3))
  (.reg
   [MI.op (some 22) (.bin .add (.tmp 11) (.c (.int .i64 1))) none,
    MI.op (some 11) (.mov (.tmp 22)) none]))
def m33_5 : MCode :=
 (.seq
  (.cond (.tmp 12)
   .skip
   (.exit 0))
  m33_4)
def m33_6 : MCode :=
 (.seq
  (.reg
   [MI.op (some 12) (.bin .lss (.tmp 11) (.tmp 10)) none])
  m33_5)
def m33_7 : MCode :=
 (.blk 0
  (.loop
  m33_6))
def m33_8 : MCode :=
 (.reg
  [MI.op (some 31) (.mov (.tmp 6)) none,
   MI.op (some 32) (.mov (.tmp 8)) none,
   MI.op (some 33) (.app 1 1 (.tmp 31) (.tmp 32)) none,
   MI.op (some 6) (.mov (.tmp 33)) none])
def m33_9 : MCode :=
 (.seq
  (.blk 3
   (.seq
    (.reg
     [MI.op (some 29) (.ixSl 1 (.tmp 25) (.tmp 27)) none,
      MI.op (some 30) (.load false 1 (.tmp 29)) none,
      MI.op (some 8) (.mov (.tmp 30)) none])
  m33_8))
  (.reg
   [MI.op (some 34) (.bin .add (.tmp 27) (.c (.int .i64 1))) none,
    MI.op (some 27) (.mov (.tmp 34)) none]))
def m33_10 : MCode :=
 (.seq
  (.cond (.tmp 28)
   .skip
   (.exit 2))
  m33_9)
def m33_11 : MCode :=
 (.seq
  (.reg
   [MI.op (some 28) (.bin .lss (.tmp 27) (.tmp 26)) none])
  m33_10)
def m33_12 : MCode :=
 (.blk 2
  (.loop
  m33_11))
def m33_13 : MCode :=
 (.seq
  (.reg
   [MI.op (some 35) (.mov (.tmp 6)) none,
    MI.op (some 2) (.mov (.tmp 35)) none])
  .ret)
def m33_14 : MCode :=
 (.seq
  (.seq
   (.reg
    [MI.op (some 25) (.mov (.tmp 0)) none,
     MI.op (some 26) (.len (.tmp 25)) none,
     MI.op (some 27) (.mov (.c (.int .i64 0))) none])
  m33_12)
  m33_13)
def m33_15 : MCode :=
 (.seq
  (.reg
   [MI.op (some 23) (.mov (.tmp 3)) none,
    MI.op (some 24) (.call 46 [(.c (.sl .full 0 [])), (.tmp 23)]) none,
    MI.op (some 6) (.mov (.tmp 24)) none])
  m33_14)
def m33_16 : MCode :=
 (.seq
  (.seq
   (.reg
    [MI.op (some 9) (.mov (.tmp 0)) none,
     MI.op (some 10) (.len (.tmp 9)) none,
     MI.op (some 11) (.mov (.c (.int .i64 0))) none])
  m33_7)
  m33_15)
def m33_17 : MCode :=
 (.seq
  (.reg
   [MI.op (some 3) (.mov (.c (.int .i64 0))) none])
  m33_16)
def m33_r : List MRes := [.tmp 2]
def m33_b : MCode :=
 (.seq
  (.reg
   [MI.op (some 2) (.mov (.c (.sl .full 0 []))) none])
  m33_17)
def m33 : MFunc := ⟨1, 36, m33_r, m33_b⟩
theorem c33 : compF Try.prog 33 m33 = some m33 := by kernel_rfl

/- tollhouse/sha.constants -/
def m48_1 : MCode :=
 (.seq
  (.reg
   [MI.op (some 1) (.build (List.replicate 64 (.int .u32 0)) [(0, 1, (.c (.int .u32 1116352408))), (1, 1, (.c (.int .u32 1899447441))), (2, 1, (.c (.int .u32 3049323471))), (3, 1, (.c (.int .u32 3921009573))), (4, 1, (.c (.int .u32 961987163))), (5, 1, (.c (.int .u32 1508970993))), (6, 1, (.c (.int .u32 2453635748))), (7, 1, (.c (.int .u32 2870763221))), (8, 1, (.c (.int .u32 3624381080))), (9, 1, (.c (.int .u32 310598401))), (10, 1, (.c (.int .u32 607225278))), (11, 1, (.c (.int .u32 1426881987))), (12, 1, (.c (.int .u32 1925078388))), (13, 1, (.c (.int .u32 2162078206))), (14, 1, (.c (.int .u32 2614888103))), (15, 1, (.c (.int .u32 3248222580))), (16, 1, (.c (.int .u32 3835390401))), (17, 1, (.c (.int .u32 4022224774))), (18, 1, (.c (.int .u32 264347078))), (19, 1, (.c (.int .u32 604807628))), (20, 1, (.c (.int .u32 770255983))), (21, 1, (.c (.int .u32 1249150122))), (22, 1, (.c (.int .u32 1555081692))), (23, 1, (.c (.int .u32 1996064986))), (24, 1, (.c (.int .u32 2554220882))), (25, 1, (.c (.int .u32 2821834349))), (26, 1, (.c (.int .u32 2952996808))), (27, 1, (.c (.int .u32 3210313671))), (28, 1, (.c (.int .u32 3336571891))), (29, 1, (.c (.int .u32 3584528711))), (30, 1, (.c (.int .u32 113926993))), (31, 1, (.c (.int .u32 338241895))), (32, 1, (.c (.int .u32 666307205))), (33, 1, (.c (.int .u32 773529912))), (34, 1, (.c (.int .u32 1294757372))), (35, 1, (.c (.int .u32 1396182291))), (36, 1, (.c (.int .u32 1695183700))), (37, 1, (.c (.int .u32 1986661051))), (38, 1, (.c (.int .u32 2177026350))), (39, 1, (.c (.int .u32 2456956037))), (40, 1, (.c (.int .u32 2730485921))), (41, 1, (.c (.int .u32 2820302411))), (42, 1, (.c (.int .u32 3259730800))), (43, 1, (.c (.int .u32 3345764771))), (44, 1, (.c (.int .u32 3516065817))), (45, 1, (.c (.int .u32 3600352804))), (46, 1, (.c (.int .u32 4094571909))), (47, 1, (.c (.int .u32 275423344))), (48, 1, (.c (.int .u32 430227734))), (49, 1, (.c (.int .u32 506948616))), (50, 1, (.c (.int .u32 659060556))), (51, 1, (.c (.int .u32 883997877))), (52, 1, (.c (.int .u32 958139571))), (53, 1, (.c (.int .u32 1322822218))), (54, 1, (.c (.int .u32 1537002063))), (55, 1, (.c (.int .u32 1747873779))), (56, 1, (.c (.int .u32 1955562222))), (57, 1, (.c (.int .u32 2024104815))), (58, 1, (.c (.int .u32 2227730452))), (59, 1, (.c (.int .u32 2361852424))), (60, 1, (.c (.int .u32 2428436474))), (61, 1, (.c (.int .u32 2756734187))), (62, 1, (.c (.int .u32 3204031479))), (63, 1, (.c (.int .u32 3329325298)))]) none,
    MI.op none (.store 64 (.tmp 0) (.tmp 1)) none])
  .ret)
def m48_r : List MRes := [.cell 0 true 64]
def m48_b : MCode :=
 (.seq
  (.reg
   [MI.op (some 0) (.alloc (List.replicate 64 (.int .u32 0))) none])
  m48_1)
def m48 : MFunc := ⟨0, 2, m48_r, m48_b⟩
theorem c48 : compF Try.prog 48 m48 = some m48 := by kernel_rfl

/- tollhouse/sha.schedule -/
def m49_1 : MCode :=
 (.drw
  [MI.op (some 14) (.mov (.tmp 4)) none,
   MI.op (some 15) (.mov (.tmp 4)) none,
   MI.op (some 16) (.ixArr 64 1 (.tmp 3) (.tmp 15)) none,
   MI.op (some 17) (.load false 1 (.tmp 16)) none,
   MI.op (some 18) (.bin .shl (.tmp 17) (.c (.int .u64 8))) none,
   MI.op (some 19) (.mov (.tmp 4)) none,
   MI.op (some 20) (.bin .mul (.c (.int .i64 4)) (.tmp 19)) none,
   MI.op (some 21) (.mov (.tmp 5)) none,
   MI.op (some 22) (.bin .add (.tmp 20) (.tmp 21)) none,
   MI.op (some 23) (.ixArr 64 1 (.tmp 1) (.tmp 22)) none,
   MI.op (some 24) (.load false 1 (.tmp 23)) none,
   MI.op (some 25) (.toInt .u32 (.tmp 24)) none,
   MI.op (some 26) (.bin .or (.tmp 18) (.tmp 25)) none]
  [MI.op (some 27) (.ixArr 64 1 (.tmp 3) (.tmp 14)) none,
   MI.op none (.store 1 (.tmp 27) (.tmp 26)) none])
def m49_2 : MCode :=
 (.seq
  (.blk 3
   (.seq
    (.reg
     [MI.op (some 13) (.mov (.tmp 11)) none,
      MI.op (some 5) (.mov (.tmp 13)) none])
  m49_1))
  (.reg
   [MI.op (some 28) (.bin .add (.tmp 11) (.c (.int .i64 1))) none,
    MI.op (some 11) (.mov (.tmp 28)) none]))
def m49_3 : MCode :=
 (.seq
  (.cond (.tmp 12)
   .skip
   (.exit 2))
  m49_2)
def m49_4 : MCode :=
 (.seq
  (.reg
   [MI.op (some 12) (.bin .lss (.tmp 11) (.c (.int .i64 4))) none])
  m49_3)
def m49_5 : MCode :=
 (.blk 2
  (.loop
  m49_4))
def m49_6 : MCode :=
 (.seq
  (.seq
   (.reg
    [MI.op (some 11) (.mov (.c (.int .i64 0))) none])
  m49_5)
  (.exit 1))
def m49_7 : MCode :=
 (.cond (.tmp 10)
  m49_6
  .skip)
def m49_8 : MCode :=
 (.drw
  [MI.op (some 29) (.mov (.tmp 4)) none,
   MI.op (some 30) (.mov (.tmp 4)) none,
   MI.op (some 31) (.bin .sub (.tmp 30) (.c (.int .i64 2))) none,
   MI.op (some 32) (.ixArr 64 1 (.tmp 3) (.tmp 31)) none,
   MI.op (some 33) (.load false 1 (.tmp 32)) none,
   MI.op (some 34) (.call 50 [(.tmp 33), (.c (.int .i64 17)), (.c (.int .i64 19)), (.c (.int .i64 10)), (.c (.bool true))]) none,
   MI.op (some 35) (.mov (.tmp 4)) none,
   MI.op (some 36) (.bin .sub (.tmp 35) (.c (.int .i64 7))) none,
   MI.op (some 37) (.ixArr 64 1 (.tmp 3) (.tmp 36)) none,
   MI.op (some 38) (.load false 1 (.tmp 37)) none,
   MI.op (some 39) (.bin .add (.tmp 34) (.tmp 38)) none,
   MI.op (some 40) (.mov (.tmp 4)) none,
   MI.op (some 41) (.bin .sub (.tmp 40) (.c (.int .i64 15))) none,
   MI.op (some 42) (.ixArr 64 1 (.tmp 3) (.tmp 41)) none,
   MI.op (some 43) (.load false 1 (.tmp 42)) none,
   MI.op (some 44) (.call 50 [(.tmp 43), (.c (.int .i64 7)), (.c (.int .i64 18)), (.c (.int .i64 3)), (.c (.bool true))]) none,
   MI.op (some 45) (.bin .add (.tmp 39) (.tmp 44)) none,
   MI.op (some 46) (.mov (.tmp 4)) none,
   MI.op (some 47) (.bin .sub (.tmp 46) (.c (.int .i64 16))) none,
   MI.op (some 48) (.ixArr 64 1 (.tmp 3) (.tmp 47)) none,
   MI.op (some 49) (.load false 1 (.tmp 48)) none,
   MI.op (some 50) (.bin .add (.tmp 45) (.tmp 49)) none]
  [MI.op (some 51) (.ixArr 64 1 (.tmp 3) (.tmp 29)) none,
   MI.op none (.store 1 (.tmp 51) (.tmp 50)) none])
def m49_9 : MCode :=
 (.seq
  (.seq
   (.reg
    [MI.op (some 9) (.mov (.tmp 4)) none,
     MI.op (some 10) (.bin .lss (.tmp 9) (.c (.int .i64 16))) none])
  m49_7)
  m49_8)
def m49_10 : MCode :=
 (.seq
  (.blk 1
   (.seq
    (.reg
     [MI.op (some 8) (.mov (.tmp 6)) none,
      MI.op (some 4) (.mov (.tmp 8)) none])
  m49_9))
  (.reg
   [MI.op (some 52) (.bin .add (.tmp 6) (.c (.int .i64 1))) none,
    MI.op (some 6) (.mov (.tmp 52)) none]))
def m49_11 : MCode :=
 (.seq
  (.cond (.tmp 7)
   .skip
   (.exit 0))
  m49_10)
def m49_12 : MCode :=
 (.seq
  (.reg
   [MI.op (some 7) (.bin .lss (.tmp 6) (.c (.int .i64 64))) none])
  m49_11)
def m49_13 : MCode :=
 (.blk 0
  (.loop
  m49_12))
def m49_14 : MCode :=
 (.seq
  (.reg
   [MI.op (some 53) (.load true 64 (.tmp 3)) none,
    MI.op none (.store 64 (.tmp 2) (.tmp 53)) none])
  .ret)
def m49_15 : MCode :=
 (.seq
  (.seq
   (.reg
    [MI.op (some 6) (.mov (.c (.int .i64 0))) none])
  m49_13)
  m49_14)
def m49_16 : MCode :=
 (.seq
  (.reg
   [MI.op (some 3) (.alloc (List.replicate 64 (.int .u32 0))) none])
  m49_15)
def m49_r : List MRes := [.cell 2 true 64]
def m49_b : MCode :=
 (.seq
  (.reg
   [MI.op (some 1) (.box (.tmp 0)) none,
    MI.op (some 2) (.alloc (List.replicate 64 (.int .u32 0))) none])
  m49_16)
def m49 : MFunc := ⟨1, 54, m49_r, m49_b⟩
theorem c49 : compF Try.prog 49 m49 = some m49 := by kernel_rfl

/- tollhouse/sha.turned -/
def m50_1 : MCode :=
 (.reg
  [MI.op (some 17) (.mov (.tmp 0)) none,
   MI.op (some 18) (.mov (.tmp 3)) none,
   MI.op (some 19) (.bin .shr (.tmp 17) (.tmp 18)) none,
   MI.op (some 11) (.mov (.tmp 19)) none])
def m50_2 : MCode :=
 (.cond (.tmp 16)
  m50_1
  .skip)
def m50_3 : List MI :=
 [MI.op (some 28) (.bin .xor (.tmp 23) (.tmp 27)) none,
  MI.op (some 29) (.mov (.tmp 11)) none,
  MI.op (some 30) (.bin .xor (.tmp 28) (.tmp 29)) none,
  MI.op (some 10) (.mov (.tmp 30)) none]
def m50_4 : List MI :=
 (MI.op (some 24) (.mov (.tmp 0)) none ::
  MI.op (some 25) (.mov (.tmp 2)) none ::
  MI.op (some 26) (.un .neg (.tmp 25)) none ::
  MI.op (some 27) (.call 56 [(.tmp 24), (.tmp 26)]) none ::
  m50_3)
def m50_5 : MCode :=
 (.seq
  (.reg
   (MI.op (some 20) (.mov (.tmp 0)) none ::
    MI.op (some 21) (.mov (.tmp 1)) none ::
    MI.op (some 22) (.un .neg (.tmp 21)) none ::
    MI.op (some 23) (.call 56 [(.tmp 20), (.tmp 22)]) none ::
    m50_4))
  .ret)
def m50_6 : MCode :=
 (.seq
  (.seq
   (.reg
    [MI.op (some 16) (.mov (.tmp 4)) none])
  m50_2)
  m50_5)
def m50_7 : MCode :=
 (.seq
  (.reg
   [MI.op (some 12) (.mov (.tmp 0)) none,
    MI.op (some 13) (.mov (.tmp 3)) none,
    MI.op (some 14) (.un .neg (.tmp 13)) none,
    MI.op (some 15) (.call 56 [(.tmp 12), (.tmp 14)]) none,
    MI.op (some 11) (.mov (.tmp 15)) none])
  m50_6)
def m50_r : List MRes := [.tmp 10]
def m50_b : MCode :=
 (.seq
  (.reg
   [MI.op (some 10) (.mov (.c (.int .u32 0))) none])
  m50_7)
def m50 : MFunc := ⟨5, 31, m50_r, m50_b⟩
theorem c50 : compF Try.prog 50 m50 = some m50 := by kernel_rfl

/- tollhouse/tollhouseref01.right -/
/- tollhouse/tollhouseref01.table -/
/- slices.Grow[[]byte,byte] -/
def m46_1 : MCode :=
 (.cond (.tmp 6)
  (.reg
   [MI.op (some 7) (.bad) none,
    MI.op none (.bad) none])
  .skip)
def m46_2 : MCode :=
 (.reg
  [MI.op (some 17) (.mov (.tmp 0)) none,
   MI.op (some 18) (.mov (.tmp 0)) none,
   MI.op (some 19) (.cap (.tmp 18)) none,
   MI.op (some 20) (.slSl 1 (.tmp 17) none (some (.tmp 19)) none) none,
   MI.op (some 21) (.mov (.tmp 1)) none,
   MI.op (some 22) (.appZ 1 1 [(.int .u8 0)] (.tmp 20) (.tmp 21)) none,
   MI.op (some 23) (.mov (.tmp 0)) none,
   MI.op (some 24) (.len (.tmp 23)) none,
   MI.op (some 25) (.slSl 1 (.tmp 22) none (some (.tmp 24)) none) none,
   MI.op (some 0) (.mov (.tmp 25)) none])
def m46_3 : MCode :=
 (.cond (.tmp 16)
  m46_2
  .skip)
def m46_4 : MCode :=
 (.seq
  (.reg
   [MI.op (some 15) (.mov (.tmp 1)) none,
    MI.op (some 16) (.bin .gtr (.tmp 15) (.c (.int .i64 0))) none])
  m46_3)
def m46_5 : MCode :=
 (.seq
  (.reg
   [MI.op (some 26) (.mov (.tmp 0)) none,
    MI.op (some 4) (.mov (.tmp 26)) none])
  .ret)
def m46_6 : MCode :=
 (.seq
  (.seq
   (.reg
    [MI.op (some 8) (.mov (.tmp 1)) none,
     MI.op (some 9) (.mov (.tmp 0)) none,
     MI.op (some 10) (.cap (.tmp 9)) none,
     MI.op (some 11) (.mov (.tmp 0)) none,
     MI.op (some 12) (.len (.tmp 11)) none,
     MI.op (some 13) (.bin .sub (.tmp 10) (.tmp 12)) none,
     MI.op (some 14) (.bin .sub (.tmp 8) (.tmp 13)) none,
     MI.op (some 1) (.mov (.tmp 14)) none])
  m46_4)
  m46_5)
def m46_7 : MCode :=
 (.seq
  (.seq
   (.reg
    [MI.op (some 5) (.mov (.tmp 1)) none,
     MI.op (some 6) (.bin .lss (.tmp 5) (.c (.int .i64 0))) none])
  m46_1)
  m46_6)
def m46_r : List MRes := [.tmp 4]
def m46_b : MCode :=
 (.seq
  (.reg
   [MI.op (some 4) (.mov (.c (.sl .full 0 []))) none])
  m46_7)
def m46 : MFunc := ⟨2, 27, m46_r, m46_b⟩
theorem c46 : compF Try.prog 46 m46 = some m46 := by kernel_rfl

/- math/bits.RotateLeft32 -/
def m56_1 : MCode :=
 (.seq
  (.reg
   [MI.op (some 9) (.mov (.tmp 0)) none,
    MI.op (some 10) (.mov (.tmp 5)) none,
    MI.op (some 11) (.bin .shl (.tmp 9) (.tmp 10)) none,
    MI.op (some 12) (.mov (.tmp 0)) none,
    MI.op (some 13) (.mov (.tmp 5)) none,
    MI.op (some 14) (.bin .sub (.c (.int .u64 32)) (.tmp 13)) none,
    MI.op (some 15) (.bin .shr (.tmp 12) (.tmp 14)) none,
    MI.op (some 16) (.bin .or (.tmp 11) (.tmp 15)) none,
    MI.op (some 4) (.mov (.tmp 16)) none])
  .ret)
def m56_2 : MCode :=
 (.seq
  (.reg
   [MI.op (some 6) (.mov (.tmp 1)) none,
    MI.op (some 7) (.toInt .u64 (.tmp 6)) none,
    MI.op (some 8) (.bin .and (.tmp 7) (.c (.int .u64 31))) none,
    MI.op (some 5) (.mov (.tmp 8)) none])
  m56_1)
def m56_r : List MRes := [.tmp 4]
def m56_b : MCode :=
 (.seq
  (.reg
   [MI.op (some 4) (.mov (.c (.int .u32 0))) none])
  m56_2)
def m56 : MFunc := ⟨2, 17, m56_r, m56_b⟩
theorem c56 : compF Try.prog 56 m56 = some m56 := by kernel_rfl

end Go.Proofs.Ytkphojcmjffccaa
/- Bytes held against bytes. -/
set_option linter.unusedVariables false
set_option linter.unusedSimpArgs false
set_option maxRecDepth 100000
set_option maxHeartbeats 2000000
namespace Go.Proofs.Ytkphojcmjffccaa
open Go.RowKit

end Go.Proofs.Ytkphojcmjffccaa
/- Parts of bytes. -/
set_option linter.unusedVariables false
set_option linter.unusedSimpArgs false
set_option maxRecDepth 100000
set_option maxHeartbeats 2000000
namespace Go.Proofs.Ytkphojcmjffccaa
open Go.RowKit

def pl (ps : List (Fl × List UInt8)) : List IV := ps.map fun p => .sl p.1 p.2.length (bl p.2)
theorem pl_length (ps : List (Fl × List UInt8)) : (pl ps).length = ps.length := by simp [pl]
theorem drop_pl {ps : List (Fl × List UInt8)} {i : Nat} (h : i < ps.length) : (pl ps).drop i = .sl ps[i].1 ps[i].2.length (bl ps[i].2) :: (pl ps).drop (i + 1) := by
  rw [List.drop_eq_getElem_cons (by simpa [pl] using h)]; simp [pl]
def joined (ps : List (Fl × List UInt8)) : List UInt8 := (ps.map (·.2)).flatten
theorem joined_snoc (ps : List (Fl × List UInt8)) (p : Fl × List UInt8) : joined (ps ++ [p]) = joined ps ++ p.2 := by simp [joined]
theorem roomyB {n : Nat} (h : n ≤ 2 ^ 44) : roomy n 1 = true := by simp [roomy]; omega
end Go.Proofs.Ytkphojcmjffccaa
