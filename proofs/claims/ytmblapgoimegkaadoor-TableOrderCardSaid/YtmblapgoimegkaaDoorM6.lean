/- The loaded functions as texts of the ideal machine (written by a program of ours), and that they are the loaded ones. -/
import Derived.Test.YtmblapgoimegkaaDoorE31
import Derived.Test.YtmblapgoimegkaaDoorProg
set_option linter.unusedVariables false
namespace Go.Proofs.YtmblapgoimegkaaDoor
open Go.RowKit

/- tollhouse/tollhouselaw11.Fair -/
def m32_1 : MCode :=
 (.cond (.tmp 25)
  (.seq
   (.reg
    [MI.op (some 2) (.mov (.c (.bool false))) none])
   .ret)
  .skip)
def m32_2 : MCode :=
 (.seq
  (.blk 1
   (.seq
    (.reg
     [MI.op (some 10) (.mov (.tmp 0)) none,
      MI.op (some 11) (.mov (.tmp 3)) none,
      MI.op (some 12) (.ixSl 2 (.tmp 10) (.tmp 11)) none,
      MI.op (some 13) (.fa 0 (.tmp 12)) none,
      MI.op (some 14) (.load false 1 (.tmp 13)) none,
      MI.op (some 15) (.lenS (.tmp 14)) none,
      MI.op (some 16) (.bin .gtr (.tmp 15) (.c (.int .i64 100))) none,
      MI.op (some 17) (.mov (.tmp 16)) none,
      MI.op (some 18) (.mov (.tmp 0)) (some (17, false)),
      MI.op (some 19) (.mov (.tmp 3)) (some (17, false)),
      MI.op (some 20) (.ixSl 2 (.tmp 18) (.tmp 19)) (some (17, false)),
      MI.op (some 21) (.fa 1 (.tmp 20)) (some (17, false)),
      MI.op (some 22) (.load false 1 (.tmp 21)) (some (17, false)),
      MI.op (some 23) (.len (.tmp 22)) (some (17, false)),
      MI.op (some 24) (.bin .gtr (.tmp 23) (.c (.int .i64 50))) (some (17, false)),
      MI.op (some 25) (.pick (.tmp 17) (.c (.bool true)) (.tmp 24)) none])
  m32_1))
  (.reg
   [MI.op (some 8) (.mov (.tmp 3)) none,
    MI.op (some 9) (.bin .add (.tmp 8) (.c (.int .i64 1))) none,
    MI.op (some 3) (.mov (.tmp 9)) none]))
def m32_3 : MCode :=
 (.seq
  (.seq
   (.reg
    [MI.op (some 4) (.mov (.tmp 3)) none,
     MI.op (some 5) (.mov (.tmp 0)) none,
     MI.op (some 6) (.len (.tmp 5)) none,
     MI.op (some 7) (.bin .lss (.tmp 4) (.tmp 6)) none])
   (.cond (.tmp 7)
    .skip
    (.exit 0)))
  m32_2)
def m32_4 : MCode :=
 (.blk 0
  (.loop
  m32_3))
def m32_5 : MCode :=
 (.seq
  (.reg
   [MI.op (some 26) (.mov (.tmp 0)) none,
    MI.op (some 27) (.len (.tmp 26)) none,
    MI.op (some 28) (.bin .leq (.tmp 27) (.c (.int .i64 20))) none,
    MI.op (some 2) (.mov (.tmp 28)) none])
  .ret)
def m32_6 : MCode :=
 (.seq
  (.seq
   (.reg
    [MI.op (some 3) (.mov (.c (.int .i64 0))) none])
  m32_4)
  m32_5)
def m32_r : List MRes := [.tmp 2]
def m32_b : MCode :=
 (.seq
  (.reg
   [MI.op (some 2) (.mov (.c (.bool false))) none])
  m32_6)
def m32 : MFunc := ⟨1, 29, m32_r, m32_b⟩
theorem c32 : compF Tryd.prog 32 m32 = some m32 := by kernel_rfl

/- tollhouse/tollhouselaw12.wakes -/
def m33_1 : List MI :=
 [MI.op (some 13) (.mov (.tmp 15)) none,
  MI.op (some 16) (.ext (.tmp 13) 0) none,
  MI.op (some 17) (.ext (.tmp 13) 1) none,
  MI.op (some 2) (.alloc (List.replicate 32 (.int .u8 0))) none,
  MI.op none (.store 32 (.tmp 2) (.tmp 16)) none,
  MI.op (some 3) (.mov (.tmp 17)) none]
def m33_2 : List MI :=
 [MI.op (some 18) (.mov (.tmp 20)) none,
  MI.op (some 21) (.ext (.tmp 18) 0) none,
  MI.op (some 22) (.ext (.tmp 18) 1) none,
  MI.op (some 4) (.mov (.tmp 21)) none,
  MI.op (some 5) (.mov (.tmp 22)) none]
def m33_3 : List MI :=
 [MI.op (some 23) (.mov (.tmp 25)) none,
  MI.op (some 26) (.ext (.tmp 23) 0) none,
  MI.op (some 27) (.ext (.tmp 23) 1) none,
  MI.op (some 6) (.mov (.tmp 26)) none,
  MI.op (some 7) (.mov (.tmp 27)) none]
def m33_4 : MCode :=
 (.seq
  (.drw
   [MI.op (some 28) (.mov (.tmp 3)) none,
    MI.op (some 29) (.bin .eql (.tmp 28) (.c (.int .i64 0))) none,
    MI.op (some 30) (.mov (.tmp 29)) none,
    MI.op (some 31) (.ixArr 32 1 (.tmp 2) (.c (.int .i64 0))) (some (30, true)),
    MI.op (some 32) (.load false 1 (.tmp 31)) (some (30, true)),
    MI.op (some 33) (.bin .eql (.tmp 32) (.c (.int .u8 2))) (some (30, true)),
    MI.op (some 34) (.pick (.tmp 30) (.tmp 33) (.c (.bool false))) none,
    MI.op (some 35) (.mov (.tmp 34)) none,
    MI.op (some 36) (.ixArr 32 1 (.tmp 2) (.c (.int .i64 1))) (some (35, true)),
    MI.op (some 37) (.load false 1 (.tmp 36)) (some (35, true)),
    MI.op (some 38) (.bin .eql (.tmp 37) (.c (.int .u8 97))) (some (35, true)),
    MI.op (some 39) (.pick (.tmp 35) (.tmp 38) (.c (.bool false))) none,
    MI.op (some 40) (.mov (.tmp 39)) none,
    MI.op (some 41) (.ixArr 32 1 (.tmp 2) (.c (.int .i64 5))) (some (40, true)),
    MI.op (some 42) (.load false 1 (.tmp 41)) (some (40, true)),
    MI.op (some 43) (.bin .eql (.tmp 42) (.c (.int .u8 1))) (some (40, true)),
    MI.op (some 44) (.pick (.tmp 40) (.tmp 43) (.c (.bool false))) none,
    MI.op (some 45) (.mov (.tmp 44)) none,
    MI.op (some 46) (.ixArr 32 1 (.tmp 2) (.c (.int .i64 6))) (some (45, true)),
    MI.op (some 47) (.load false 1 (.tmp 46)) (some (45, true)),
    MI.op (some 48) (.bin .eql (.tmp 47) (.c (.int .u8 3))) (some (45, true)),
    MI.op (some 49) (.pick (.tmp 45) (.tmp 48) (.c (.bool false))) none,
    MI.op (some 50) (.mov (.tmp 49)) none,
    MI.op (some 51) (.ixArr 32 1 (.tmp 2) (.c (.int .i64 10))) (some (50, true)),
    MI.op (some 52) (.load false 1 (.tmp 51)) (some (50, true)),
    MI.op (some 53) (.bin .eql (.tmp 52) (.c (.int .u8 99))) (some (50, true)),
    MI.op (some 54) (.pick (.tmp 50) (.tmp 53) (.c (.bool false))) none,
    MI.op (some 55) (.mov (.tmp 54)) none,
    MI.op (some 56) (.mov (.tmp 5)) (some (55, true)),
    MI.op (some 57) (.bin .eql (.tmp 56) (.c (.int .i64 0))) (some (55, true)),
    MI.op (some 58) (.pick (.tmp 55) (.tmp 57) (.c (.bool false))) none,
    MI.op (some 59) (.mov (.tmp 58)) none,
    MI.op (some 60) (.mov (.tmp 4)) (some (59, true)),
    MI.op (some 61) (.mov (.tmp 1)) (some (59, true)),
    MI.op (some 62) (.call 41 [(.tmp 60), (.tmp 61)]) (some (59, true)),
    MI.op (some 63) (.pick (.tmp 59) (.tmp 62) (.c (.bool false))) none,
    MI.op (some 64) (.mov (.tmp 63)) none,
    MI.op (some 65) (.mov (.tmp 7)) (some (64, true)),
    MI.op (some 66) (.bin .eql (.tmp 65) (.c (.int .i64 0))) (some (64, true)),
    MI.op (some 67) (.pick (.tmp 64) (.tmp 66) (.c (.bool false))) none,
    MI.op (some 68) (.mov (.tmp 67)) none,
    MI.op (some 69) (.mov (.tmp 6)) (some (68, true)),
    MI.op (some 70) (.len (.tmp 69)) (some (68, true)),
    MI.op (some 71) (.bin .eql (.tmp 70) (.c (.int .i64 0))) (some (68, true)),
    MI.op (some 72) (.pick (.tmp 68) (.tmp 71) (.c (.bool false))) none,
    MI.op (some 73) (.mov (.tmp 72)) none,
    MI.op (some 74) (.mov (.tmp 1)) (some (73, true)),
    MI.op (some 75) (.call 42 [(.c (.str [99])), (.tmp 74)]) (some (73, true)),
    MI.op (some 76) (.bin .eql (.tmp 75) (.c (.int .i64 1))) (some (73, true)),
    MI.op (some 77) (.pick (.tmp 73) (.tmp 76) (.c (.bool false))) none,
    MI.op (some 78) (.mov (.tmp 77)) none,
    MI.op (some 79) (.mov (.tmp 1)) (some (78, true)),
    MI.op (some 80) (.call 42 [(.c (.str [120])), (.tmp 79)]) (some (78, true)),
    MI.op (some 81) (.bin .eql (.tmp 80) (.c (.int .i64 (-1)))) (some (78, true)),
    MI.op (some 82) (.pick (.tmp 78) (.tmp 81) (.c (.bool false))) none,
    MI.op (some 83) (.mov (.tmp 82)) none,
    MI.op (some 84) (.mov (.tmp 1)) (some (83, true)),
    MI.op (some 85) (.call 39 [(.tmp 84)]) (some (83, true)),
    MI.op (some 86) (.pick (.tmp 83) (.tmp 85) (.c (.bool false))) none,
    MI.op (some 87) (.mov (.tmp 86)) none,
    MI.op (some 88) (.mov (.tmp 1)) (some (87, true)),
    MI.op (some 89) (.ixSl 2 (.tmp 88) (.c (.int .i64 0))) (some (87, true)),
    MI.op (some 90) (.load true 2 (.tmp 89)) (some (87, true)),
    MI.op (some 91) (.mov (.tmp 1)) (some (87, true)),
    MI.op (some 92) (.ixSl 2 (.tmp 91) (.c (.int .i64 0))) (some (87, true)),
    MI.op (some 93) (.load true 2 (.tmp 92)) (some (87, true))]
   [MI.op (some 94) (.bsl 2 2 [(.str []), (.sl .full 0 [])] [(0, 2, (.tmp 90)), (2, 2, (.tmp 93))]) (some (87, true)),
    MI.op (some 95) (.call 39 [(.tmp 94)]) (some (87, true)),
    MI.op (some 96) (.un .not (.tmp 95)) (some (87, true)),
    MI.op (some 97) (.pick (.tmp 87) (.tmp 96) (.c (.bool false))) none,
    MI.op (some 0) (.mov (.tmp 97)) none])
  .ret)
def m33_5 : MCode :=
 (.seq
  (.reg
   (MI.op (some 24) (.build (List.replicate 32 (.int .u8 0)) []) none ::
    MI.op (some 25) (.call 37 [(.tmp 24)]) none ::
    m33_3))
  m33_4)
def m33_6 : MCode :=
 (.seq
  (.reg
   (MI.op (some 19) (.load true 32 (.tmp 2)) none ::
    MI.op (some 20) (.call 37 [(.tmp 19)]) none ::
    m33_2))
  m33_5)
def m33_7 : MCode :=
 (.seq
  (.reg
   (MI.op (some 14) (.mov (.tmp 1)) none ::
    MI.op (some 15) (.call 35 [(.tmp 14)]) none ::
    m33_1))
  m33_6)
def m33_8 : MCode :=
 (.seq
  (.reg
   [MI.op (some 8) (.bsl 1 1 [(.int .i64 0)] [(0, 1, (.c (.int .i64 3)))]) none,
    MI.op (some 9) (.build [(.str []), (.sl .full 0 [])] [(0, 1, (.c (.str [97, 98]))), (1, 1, (.tmp 8))]) none,
    MI.op (some 10) (.bsl 2 1 [(.int .i64 0)] [(0, 1, (.c (.int .i64 1))), (1, 1, (.c (.int .i64 2)))]) none,
    MI.op (some 11) (.build [(.str []), (.sl .full 0 [])] [(0, 1, (.c (.str [99]))), (1, 1, (.tmp 10))]) none,
    MI.op (some 12) (.bsl 2 2 [(.str []), (.sl .full 0 [])] [(0, 2, (.tmp 9)), (2, 2, (.tmp 11))]) none,
    MI.op (some 1) (.mov (.tmp 12)) none])
  m33_7)
def m33_r : List MRes := [.tmp 0]
def m33_b : MCode :=
 (.seq
  (.reg
   [MI.op (some 0) (.mov (.c (.bool false))) none])
  m33_8)
def m33 : MFunc := ⟨0, 98, m33_r, m33_b⟩
theorem c33 : compF Tryd.prog 33 m33 = some m33 := by kernel_rfl

/- tollhouse/tollhousekeep.Own -/
def m34_1 : MCode :=
 (.seq
  (.blk 1
   (.drw
    [MI.op (some 11) (.mov (.tmp 3)) none,
     MI.op (some 12) (.mov (.tmp 0)) none,
     MI.op (some 13) (.mov (.tmp 4)) none,
     MI.op (some 14) (.ixSl 2 (.tmp 12) (.tmp 13)) none,
     MI.op (some 15) (.fa 0 (.tmp 14)) none,
     MI.op (some 16) (.load false 1 (.tmp 15)) none,
     MI.op (some 17) (.bsl 0 1 [(.int .i64 0)] []) none,
     MI.op (some 18) (.mov (.tmp 0)) none,
     MI.op (some 19) (.mov (.tmp 4)) none,
     MI.op (some 20) (.ixSl 2 (.tmp 18) (.tmp 19)) none,
     MI.op (some 21) (.fa 1 (.tmp 20)) none,
     MI.op (some 22) (.load false 1 (.tmp 21)) none,
     MI.op (some 23) (.appP 1 8 (.tmp 17) (.tmp 22)) none,
     MI.op (some 24) (.build [(.str []), (.sl .full 0 [])] [(0, 1, (.tmp 16)), (1, 1, (.tmp 23))]) none,
     MI.op (some 25) (.bsl 1 2 [(.str []), (.sl .full 0 [])] [(0, 2, (.tmp 24))]) none]
    [MI.op (some 26) (.app 2 40 (.tmp 11) (.tmp 25)) none,
     MI.op (some 3) (.mov (.tmp 26)) none]))
  (.reg
   [MI.op (some 9) (.mov (.tmp 4)) none,
    MI.op (some 10) (.bin .add (.tmp 9) (.c (.int .i64 1))) none,
    MI.op (some 4) (.mov (.tmp 10)) none]))
def m34_2 : MCode :=
 (.seq
  (.seq
   (.reg
    [MI.op (some 5) (.mov (.tmp 4)) none,
     MI.op (some 6) (.mov (.tmp 0)) none,
     MI.op (some 7) (.len (.tmp 6)) none,
     MI.op (some 8) (.bin .lss (.tmp 5) (.tmp 7)) none])
   (.cond (.tmp 8)
    .skip
    (.exit 0)))
  m34_1)
def m34_3 : MCode :=
 (.blk 0
  (.loop
  m34_2))
def m34_4 : MCode :=
 (.seq
  (.reg
   [MI.op (some 27) (.mov (.tmp 3)) none,
    MI.op (some 2) (.mov (.tmp 27)) none])
  .ret)
def m34_5 : MCode :=
 (.seq
  (.seq
   (.reg
    [MI.op (some 4) (.mov (.c (.int .i64 0))) none])
  m34_3)
  m34_4)
def m34_6 : MCode :=
 (.seq
  (.reg
   [MI.op (some 3) (.mov (.c (.sl .full 0 []))) none])
  m34_5)
def m34_r : List MRes := [.tmp 2]
def m34_b : MCode :=
 (.seq
  (.reg
   [MI.op (some 2) (.mov (.c (.sl .full 0 []))) none])
  m34_6)
def m34 : MFunc := ⟨1, 28, m34_r, m34_b⟩
theorem c34 : compF Tryd.prog 34 m34 = some m34 := by kernel_rfl

/- tollhouse/table.Encode -/
def m35_1 : MCode :=
 (.seq
  (.reg
   [MI.op (some 14) (.build (List.replicate 32 (.int .u8 0)) []) none,
    MI.op none (.store 32 (.tmp 2) (.tmp 14)) none,
    MI.op (some 3) (.mov (.c (.int .i64 11))) none])
  .ret)
def m35_2 : MCode :=
 (.cond (.tmp 13)
  m35_1
  .skip)
def m35_3 : List MI :=
 [MI.op (some 8) (.alloc [(.int .u8 0), (.int .u8 0), (.int .u8 0), (.int .u8 0)]) none,
  MI.op none (.store 4 (.tmp 8) (.tmp 32)) none]
def m35_4 : MCode :=
 (.reg
  [MI.op (some 50) (.mov (.tmp 7)) none,
   MI.op (some 51) (.mov (.tmp 9)) none,
   MI.op (some 52) (.bin .add (.c (.int .i64 5)) (.tmp 51)) none,
   MI.op (some 53) (.mov (.tmp 10)) none,
   MI.op (some 54) (.toInt .u8 (.tmp 53)) none,
   MI.op (some 55) (.ixSl 1 (.tmp 50) (.tmp 52)) none,
   MI.op none (.store 1 (.tmp 55) (.tmp 54)) none])
def m35_5 : MCode :=
 (.seq
  (.blk 3
   (.seq
    (.reg
     [MI.op (some 47) (.mov (.tmp 45)) none,
      MI.op (some 48) (.ixSl 1 (.tmp 43) (.tmp 45)) none,
      MI.op (some 49) (.load false 1 (.tmp 48)) none,
      MI.op (some 9) (.mov (.tmp 47)) none,
      MI.op (some 10) (.mov (.tmp 49)) none])
  m35_4))
  (.reg
   [MI.op (some 56) (.bin .add (.tmp 45) (.c (.int .i64 1))) none,
    MI.op (some 45) (.mov (.tmp 56)) none]))
def m35_6 : MCode :=
 (.seq
  (.cond (.tmp 46)
   .skip
   (.exit 2))
  m35_5)
def m35_7 : MCode :=
 (.seq
  (.reg
   [MI.op (some 46) (.bin .lss (.tmp 45) (.tmp 44)) none])
  m35_6)
def m35_8 : MCode :=
 (.blk 2
  (.loop
  m35_7))
def m35_9 : MCode :=
 (.seq
  (.reg
   [MI.op (some 42) (.fa 1 (.tmp 6)) none,
    MI.op (some 43) (.load false 1 (.tmp 42)) none,
    MI.op (some 44) (.len (.tmp 43)) none,
    MI.op (some 45) (.mov (.c (.int .i64 0))) none])
  m35_8)
def m35_10 : MCode :=
 (.seq
  (.reg
   [MI.op (some 36) (.mov (.tmp 7)) none,
    MI.op (some 37) (.fa 1 (.tmp 6)) none,
    MI.op (some 38) (.load false 1 (.tmp 37)) none,
    MI.op (some 39) (.len (.tmp 38)) none,
    MI.op (some 40) (.toInt .u8 (.tmp 39)) none,
    MI.op (some 41) (.ixSl 1 (.tmp 36) (.c (.int .i64 4))) none,
    MI.op none (.store 1 (.tmp 41) (.tmp 40)) none])
  m35_9)
def m35_11 : MCode :=
 (.seq
  (.reg
   [MI.op (some 33) (.mov (.tmp 7)) none,
    MI.op (some 34) (.slArr 4 1 (.tmp 8) none none none) none,
    MI.op (some 35) (.copy 1 (.tmp 33) (.tmp 34)) none])
  m35_10)
def m35_12 : MCode :=
 (.seq
  (.reg
   (MI.op (some 30) (.fa 0 (.tmp 6)) none ::
    MI.op (some 31) (.load false 1 (.tmp 30)) none ::
    MI.op (some 32) (.call 21 [(.tmp 31)]) none ::
    m35_3))
  m35_11)
def m35_13 : MCode :=
 (.seq
  (.reg
   [MI.op (some 26) (.mov (.tmp 5)) none,
    MI.op (some 27) (.bin .mul (.c (.int .i64 9)) (.tmp 26)) none,
    MI.op (some 28) (.bin .add (.c (.int .i64 1)) (.tmp 27)) none,
    MI.op (some 29) (.slArr 32 1 (.tmp 4) (some (.tmp 28)) none none) none,
    MI.op (some 7) (.mov (.tmp 29)) none])
  m35_12)
def m35_14 : MCode :=
 (.seq
  (.blk 1
   (.seq
    (.reg
     [MI.op (some 23) (.mov (.tmp 21)) none,
      MI.op (some 24) (.ixSl 2 (.tmp 19) (.tmp 21)) none,
      MI.op (some 25) (.load true 2 (.tmp 24)) none,
      MI.op (some 6) (.alloc [(.str []), (.sl .full 0 [])]) none,
      MI.op (some 5) (.mov (.tmp 23)) none,
      MI.op none (.store 2 (.tmp 6) (.tmp 25)) none])
  m35_13))
  (.reg
   [MI.op (some 57) (.bin .add (.tmp 21) (.c (.int .i64 1))) none,
    MI.op (some 21) (.mov (.tmp 57)) none]))
def m35_15 : MCode :=
 (.seq
  (.cond (.tmp 22)
   .skip
   (.exit 0))
  m35_14)
def m35_16 : MCode :=
 (.seq
  (.reg
   [MI.op (some 22) (.bin .lss (.tmp 21) (.tmp 20)) none])
  m35_15)
def m35_17 : MCode :=
 (.blk 0
  (.loop
  m35_16))
def m35_18 : MCode :=
 (.seq
  (.reg
   [MI.op (some 58) (.load true 32 (.tmp 4)) none,
    MI.op none (.store 32 (.tmp 2) (.tmp 58)) none,
    MI.op (some 3) (.mov (.c (.int .i64 0))) none])
  .ret)
def m35_19 : MCode :=
 (.seq
  (.seq
   (.reg
    [MI.op (some 19) (.mov (.tmp 0)) none,
     MI.op (some 20) (.len (.tmp 19)) none,
     MI.op (some 21) (.mov (.c (.int .i64 0))) none])
  m35_17)
  m35_18)
def m35_20 : MCode :=
 (.seq
  (.reg
   [MI.op (some 15) (.mov (.tmp 0)) none,
    MI.op (some 16) (.len (.tmp 15)) none,
    MI.op (some 17) (.toInt .u8 (.tmp 16)) none,
    MI.op (some 18) (.build (List.replicate 32 (.int .u8 0)) [(0, 1, (.tmp 17))]) none,
    MI.op (some 4) (.alloc (List.replicate 32 (.int .u8 0))) none,
    MI.op none (.store 32 (.tmp 4) (.tmp 18)) none])
  m35_19)
def m35_21 : MCode :=
 (.seq
  (.seq
   (.reg
    [MI.op (some 11) (.mov (.tmp 0)) none,
     MI.op (some 12) (.call 39 [(.tmp 11)]) none,
     MI.op (some 13) (.un .not (.tmp 12)) none])
  m35_2)
  m35_20)
def m35_r : List MRes := [.cell 2 true 32, .tmp 3]
def m35_b : MCode :=
 (.seq
  (.reg
   [MI.op (some 2) (.alloc (List.replicate 32 (.int .u8 0))) none,
    MI.op (some 3) (.mov (.c (.int .i64 0))) none])
  m35_21)
def m35 : MFunc := ⟨1, 59, m35_r, m35_b⟩
theorem c35 : compF Tryd.prog 35 m35 = some m35 := by kernel_rfl

/- tollhouse/tollhouseref12.Encode -/
def m36_1 : MCode :=
 (.seq
  (.reg
   [MI.op (some 13) (.build (List.replicate 32 (.int .u8 0)) []) none,
    MI.op none (.store 32 (.tmp 2) (.tmp 13)) none,
    MI.op (some 3) (.mov (.c (.int .i64 11))) none])
  .ret)
def m36_2 : MCode :=
 (.cond (.tmp 12)
  m36_1
  .skip)
def m36_3 : List MI :=
 [MI.op (some 6) (.alloc [(.int .u8 0), (.int .u8 0), (.int .u8 0), (.int .u8 0)]) none,
  MI.op none (.store 4 (.tmp 6) (.tmp 29)) none]
def m36_4 : MCode :=
 (.reg
  [MI.op (some 54) (.mov (.tmp 0)) none,
   MI.op (some 55) (.mov (.tmp 5)) none,
   MI.op (some 56) (.ixSl 2 (.tmp 54) (.tmp 55)) none,
   MI.op (some 57) (.fa 1 (.tmp 56)) none,
   MI.op (some 58) (.load false 1 (.tmp 57)) none,
   MI.op (some 59) (.mov (.tmp 7)) none,
   MI.op (some 60) (.ixSl 1 (.tmp 58) (.tmp 59)) none,
   MI.op (some 61) (.load false 1 (.tmp 60)) none,
   MI.op (some 8) (.mov (.tmp 61)) none])
def m36_5 : MCode :=
 (.cond (.tmp 53)
  m36_4
  .skip)
def m36_6 : MCode :=
 (.reg
  [MI.op (some 62) (.mov (.tmp 4)) none,
   MI.op (some 63) (.mov (.tmp 8)) none,
   MI.op (some 64) (.toInt .u8 (.tmp 63)) none,
   MI.op (some 65) (.bsl 1 1 [(.int .u8 0)] [(0, 1, (.tmp 64))]) none,
   MI.op (some 66) (.app 1 1 (.tmp 62) (.tmp 65)) none,
   MI.op (some 4) (.mov (.tmp 66)) none])
def m36_7 : MCode :=
 (.seq
  (.seq
   (.reg
    [MI.op (some 46) (.mov (.tmp 7)) none,
     MI.op (some 47) (.mov (.tmp 0)) none,
     MI.op (some 48) (.mov (.tmp 5)) none,
     MI.op (some 49) (.ixSl 2 (.tmp 47) (.tmp 48)) none,
     MI.op (some 50) (.fa 1 (.tmp 49)) none,
     MI.op (some 51) (.load false 1 (.tmp 50)) none,
     MI.op (some 52) (.len (.tmp 51)) none,
     MI.op (some 53) (.bin .lss (.tmp 46) (.tmp 52)) none])
  m36_5)
  m36_6)
def m36_8 : MCode :=
 (.seq
  (.blk 3
   (.seq
    (.reg
     [MI.op (some 8) (.mov (.c (.int .i64 0))) none])
  m36_7))
  (.reg
   [MI.op (some 44) (.mov (.tmp 7)) none,
    MI.op (some 45) (.bin .add (.tmp 44) (.c (.int .i64 1))) none,
    MI.op (some 7) (.mov (.tmp 45)) none]))
def m36_9 : MCode :=
 (.seq
  (.seq
   (.reg
    [MI.op (some 42) (.mov (.tmp 7)) none,
     MI.op (some 43) (.bin .lss (.tmp 42) (.c (.int .i64 4))) none])
   (.cond (.tmp 43)
    .skip
    (.exit 2)))
  m36_8)
def m36_10 : MCode :=
 (.blk 2
  (.loop
  m36_9))
def m36_11 : MCode :=
 (.seq
  (.reg
   [MI.op (some 7) (.mov (.c (.int .i64 0))) none])
  m36_10)
def m36_12 : MCode :=
 (.seq
  (.drc
   [MI.op (some 30) (.mov (.tmp 4)) none,
    MI.op (some 31) (.slArr 4 1 (.tmp 6) none none none) none]
   (MI.op (some 32) (.app 1 1 (.tmp 30) (.tmp 31)) none)
   [MI.op (some 33) (.mov (.tmp 0)) none,
    MI.op (some 34) (.mov (.tmp 5)) none,
    MI.op (some 35) (.ixSl 2 (.tmp 33) (.tmp 34)) none,
    MI.op (some 36) (.fa 1 (.tmp 35)) none,
    MI.op (some 37) (.load false 1 (.tmp 36)) none,
    MI.op (some 38) (.len (.tmp 37)) none,
    MI.op (some 39) (.toInt .u8 (.tmp 38)) none,
    MI.op (some 40) (.bsl 1 1 [(.int .u8 0)] [(0, 1, (.tmp 39))]) none]
   [MI.op (some 41) (.app 1 1 (.tmp 32) (.tmp 40)) none,
    MI.op (some 4) (.mov (.tmp 41)) none])
  m36_11)
def m36_13 : MCode :=
 (.seq
  (.blk 1
   (.seq
    (.reg
     (MI.op (some 24) (.mov (.tmp 0)) none ::
      MI.op (some 25) (.mov (.tmp 5)) none ::
      MI.op (some 26) (.ixSl 2 (.tmp 24) (.tmp 25)) none ::
      MI.op (some 27) (.fa 0 (.tmp 26)) none ::
      MI.op (some 28) (.load false 1 (.tmp 27)) none ::
      MI.op (some 29) (.call 22 [(.tmp 28)]) none ::
      m36_3))
  m36_12))
  (.reg
   [MI.op (some 22) (.mov (.tmp 5)) none,
    MI.op (some 23) (.bin .add (.tmp 22) (.c (.int .i64 1))) none,
    MI.op (some 5) (.mov (.tmp 23)) none]))
def m36_14 : MCode :=
 (.seq
  (.seq
   (.reg
    [MI.op (some 18) (.mov (.tmp 5)) none,
     MI.op (some 19) (.mov (.tmp 0)) none,
     MI.op (some 20) (.len (.tmp 19)) none,
     MI.op (some 21) (.bin .lss (.tmp 18) (.tmp 20)) none])
   (.cond (.tmp 21)
    .skip
    (.exit 0)))
  m36_13)
def m36_15 : MCode :=
 (.blk 0
  (.loop
  m36_14))
def m36_16 : MCode :=
 (.seq
  (.reg
   [MI.op (some 70) (.load true 32 (.tmp 9)) none,
    MI.op none (.store 32 (.tmp 2) (.tmp 70)) none,
    MI.op (some 3) (.mov (.c (.int .i64 0))) none])
  .ret)
def m36_17 : MCode :=
 (.seq
  (.reg
   [MI.op (some 67) (.slArr 32 1 (.tmp 9) none none none) none,
    MI.op (some 68) (.mov (.tmp 4)) none,
    MI.op (some 69) (.copy 1 (.tmp 67) (.tmp 68)) none])
  m36_16)
def m36_18 : MCode :=
 (.seq
  (.reg
   [MI.op (some 9) (.alloc (List.replicate 32 (.int .u8 0))) none])
  m36_17)
def m36_19 : MCode :=
 (.seq
  (.seq
   (.reg
    [MI.op (some 5) (.mov (.c (.int .i64 0))) none])
  m36_15)
  m36_18)
def m36_20 : MCode :=
 (.seq
  (.reg
   [MI.op (some 14) (.mov (.tmp 0)) none,
    MI.op (some 15) (.len (.tmp 14)) none,
    MI.op (some 16) (.toInt .u8 (.tmp 15)) none,
    MI.op (some 17) (.bsl 1 1 [(.int .u8 0)] [(0, 1, (.tmp 16))]) none,
    MI.op (some 4) (.mov (.tmp 17)) none])
  m36_19)
def m36_21 : MCode :=
 (.seq
  (.seq
   (.reg
    [MI.op (some 10) (.mov (.tmp 0)) none,
     MI.op (some 11) (.call 40 [(.tmp 10)]) none,
     MI.op (some 12) (.un .not (.tmp 11)) none])
  m36_2)
  m36_20)
def m36_r : List MRes := [.cell 2 true 32, .tmp 3]
def m36_b : MCode :=
 (.seq
  (.reg
   [MI.op (some 2) (.alloc (List.replicate 32 (.int .u8 0))) none,
    MI.op (some 3) (.mov (.c (.int .i64 0))) none])
  m36_21)
def m36 : MFunc := ⟨1, 71, m36_r, m36_b⟩
theorem c36 : compF Tryd.prog 36 m36 = some m36 := by kernel_rfl

/- tollhouse/table.Decode -/
def m37_1 : MCode :=
 (.seq
  (.reg
   [MI.op (some 2) (.mov (.c (.sl .full 0 []))) none,
    MI.op (some 3) (.mov (.c (.int .i64 11))) none])
  .ret)
def m37_2 : MCode :=
 (.cond (.tmp 17)
  m37_1
  .skip)
def m37_3 : List MI :=
 [MI.op (some 32) (.mov (.tmp 37)) none,
  MI.op (some 38) (.ext (.tmp 32) 0) none,
  MI.op (some 39) (.ext (.tmp 32) 1) none,
  MI.op (some 7) (.mov (.tmp 38)) none,
  MI.op (some 8) (.mov (.tmp 39)) none]
def m37_4 : MCode :=
 (.seq
  (.reg
   [MI.op (some 2) (.mov (.c (.sl .full 0 []))) none,
    MI.op (some 3) (.mov (.c (.int .i64 11))) none])
  .ret)
def m37_5 : MCode :=
 (.cond (.tmp 49)
  m37_4
  .skip)
def m37_6 : MCode :=
 (.reg
  [MI.op (some 61) (.fa 1 (.tmp 10)) none,
   MI.op (some 62) (.load false 1 (.tmp 61)) none,
   MI.op (some 63) (.mov (.tmp 12)) none,
   MI.op (some 64) (.toInt .i64 (.tmp 63)) none,
   MI.op (some 65) (.bsl 1 1 [(.int .i64 0)] [(0, 1, (.tmp 64))]) none,
   MI.op (some 66) (.app 1 8 (.tmp 62) (.tmp 65)) none,
   MI.op (some 67) (.fa 1 (.tmp 10)) none,
   MI.op none (.store 1 (.tmp 67) (.tmp 66)) none])
def m37_7 : MCode :=
 (.seq
  (.blk 3
   (.seq
    (.reg
     [MI.op (some 59) (.ixSl 1 (.tmp 55) (.tmp 57)) none,
      MI.op (some 60) (.load false 1 (.tmp 59)) none,
      MI.op (some 12) (.mov (.tmp 60)) none])
  m37_6))
  (.reg
   [MI.op (some 68) (.bin .add (.tmp 57) (.c (.int .i64 1))) none,
    MI.op (some 57) (.mov (.tmp 68)) none]))
def m37_8 : MCode :=
 (.seq
  (.cond (.tmp 58)
   .skip
   (.exit 2))
  m37_7)
def m37_9 : MCode :=
 (.seq
  (.reg
   [MI.op (some 58) (.bin .lss (.tmp 57) (.tmp 56)) none])
  m37_8)
def m37_10 : MCode :=
 (.blk 2
  (.loop
  m37_9))
def m37_11 : MCode :=
 (.reg
  [MI.op (some 69) (.mov (.tmp 4)) none,
   MI.op (some 70) (.load true 2 (.tmp 10)) none,
   MI.frz 70,
   MI.op (some 71) (.bsl 1 2 [(.str []), (.sl .full 0 [])] [(0, 2, (.tmp 70))]) none,
   MI.op (some 72) (.app 2 40 (.tmp 69) (.tmp 71)) none,
   MI.op (some 4) (.mov (.tmp 72)) none])
def m37_12 : MCode :=
 (.seq
  (.seq
   (.reg
    [MI.op (some 52) (.mov (.tmp 6)) none,
     MI.op (some 53) (.mov (.tmp 9)) none,
     MI.op (some 54) (.bin .add (.c (.int .i64 5)) (.tmp 53)) none,
     MI.op (some 55) (.slSl 1 (.tmp 52) (some (.c (.int .i64 5))) (some (.tmp 54)) none) none,
     MI.op (some 56) (.len (.tmp 55)) none,
     MI.op (some 57) (.mov (.c (.int .i64 0))) none])
  m37_10)
  m37_11)
def m37_13 : MCode :=
 (.seq
  (.reg
   [MI.op (some 50) (.mov (.tmp 7)) none,
    MI.op (some 51) (.build [(.str []), (.sl .full 0 [])] [(0, 1, (.tmp 50))]) none,
    MI.op (some 10) (.alloc [(.str []), (.sl .full 0 [])]) none,
    MI.op none (.store 2 (.tmp 10) (.tmp 51)) none])
  m37_12)
def m37_14 : MCode :=
 (.seq
  (.seq
   (.reg
    [MI.op (some 44) (.mov (.tmp 8)) none,
     MI.op (some 45) (.un .not (.tmp 44)) none,
     MI.op (some 46) (.mov (.tmp 45)) none,
     MI.op (some 47) (.mov (.tmp 9)) (some (46, false)),
     MI.op (some 48) (.bin .gtr (.tmp 47) (.c (.int .i64 4))) (some (46, false)),
     MI.op (some 49) (.pick (.tmp 46) (.c (.bool true)) (.tmp 48)) none])
  m37_5)
  m37_13)
def m37_15 : MCode :=
 (.seq
  (.reg
   [MI.op (some 40) (.mov (.tmp 6)) none,
    MI.op (some 41) (.ixSl 1 (.tmp 40) (.c (.int .i64 4))) none,
    MI.op (some 42) (.load false 1 (.tmp 41)) none,
    MI.op (some 43) (.toInt .i64 (.tmp 42)) none,
    MI.op (some 9) (.mov (.tmp 43)) none])
  m37_14)
def m37_16 : MCode :=
 (.seq
  (.reg
   (MI.op (some 33) (.mov (.tmp 6)) none ::
    MI.op (some 34) (.slSl 1 (.tmp 33) none (some (.c (.int .i64 4))) none) none ::
    MI.op (some 35) (.arrOf 4 1 (.tmp 34)) none ::
    MI.op (some 36) (.load true 4 (.tmp 35)) none ::
    MI.op (some 37) (.call 17 [(.tmp 36)]) none ::
    m37_3))
  m37_15)
def m37_17 : MCode :=
 (.seq
  (.reg
   [MI.op (some 24) (.mov (.tmp 5)) none,
    MI.op (some 25) (.bin .mul (.c (.int .i64 9)) (.tmp 24)) none,
    MI.op (some 26) (.bin .add (.c (.int .i64 1)) (.tmp 25)) none,
    MI.op (some 27) (.mov (.tmp 5)) none,
    MI.op (some 28) (.bin .add (.tmp 27) (.c (.int .i64 1))) none,
    MI.op (some 29) (.bin .mul (.c (.int .i64 9)) (.tmp 28)) none,
    MI.op (some 30) (.bin .add (.c (.int .i64 1)) (.tmp 29)) none,
    MI.op (some 31) (.slArr 32 1 (.tmp 1) (some (.tmp 26)) (some (.tmp 30)) none) none,
    MI.op (some 6) (.mov (.tmp 31)) none])
  m37_16)
def m37_18 : MCode :=
 (.seq
  (.blk 1
   (.seq
    (.reg
     [MI.op (some 23) (.mov (.tmp 21)) none,
      MI.op (some 5) (.mov (.tmp 23)) none])
  m37_17))
  (.reg
   [MI.op (some 73) (.bin .add (.tmp 21) (.c (.int .i64 1))) none,
    MI.op (some 21) (.mov (.tmp 73)) none]))
def m37_19 : MCode :=
 (.seq
  (.cond (.tmp 22)
   .skip
   (.exit 0))
  m37_18)
def m37_20 : MCode :=
 (.seq
  (.reg
   [MI.op (some 22) (.bin .lss (.tmp 21) (.tmp 20)) none])
  m37_19)
def m37_21 : MCode :=
 (.blk 0
  (.loop
  m37_20))
def m37_22 : List MI :=
 [MI.op (some 74) (.mov (.tmp 76)) none,
  MI.op (some 77) (.ext (.tmp 74) 0) none,
  MI.op (some 78) (.ext (.tmp 74) 1) none,
  MI.op (some 13) (.alloc (List.replicate 32 (.int .u8 0))) none,
  MI.op none (.store 32 (.tmp 13) (.tmp 77)) none,
  MI.op (some 14) (.mov (.tmp 78)) none]
def m37_23 : MCode :=
 (.seq
  (.reg
   [MI.op (some 2) (.mov (.c (.sl .full 0 []))) none,
    MI.op (some 3) (.mov (.c (.int .i64 11))) none])
  .ret)
def m37_24 : MCode :=
 (.cond (.tmp 85)
  m37_23
  .skip)
def m37_25 : MCode :=
 (.seq
  (.reg
   [MI.op (some 79) (.mov (.tmp 14)) none,
    MI.op (some 80) (.bin .neq (.tmp 79) (.c (.int .i64 0))) none,
    MI.op (some 81) (.mov (.tmp 80)) none,
    MI.op (some 82) (.load true 32 (.tmp 13)) (some (81, false)),
    MI.op (some 83) (.load true 32 (.tmp 1)) (some (81, false)),
    MI.op (some 84) (.eqv true [(32, .i)] (.tmp 82) (.tmp 83)) (some (81, false)),
    MI.op (some 85) (.pick (.tmp 81) (.c (.bool true)) (.tmp 84)) none])
  m37_24)
def m37_26 : MCode :=
 (.seq
  (.reg
   [MI.op (some 86) (.mov (.tmp 4)) none,
    MI.op (some 2) (.mov (.tmp 86)) none,
    MI.op (some 3) (.mov (.c (.int .i64 0))) none])
  .ret)
def m37_27 : MCode :=
 (.seq
  (.seq
   (.reg
    (MI.op (some 75) (.mov (.tmp 4)) none ::
     MI.op (some 76) (.call 35 [(.tmp 75)]) none ::
     m37_22))
  m37_25)
  m37_26)
def m37_28 : MCode :=
 (.seq
  (.seq
   (.reg
    [MI.op (some 18) (.ixArr 32 1 (.tmp 1) (.c (.int .i64 0))) none,
     MI.op (some 19) (.load false 1 (.tmp 18)) none,
     MI.op (some 20) (.toInt .i64 (.tmp 19)) none,
     MI.op (some 21) (.mov (.c (.int .i64 0))) none])
  m37_21)
  m37_27)
def m37_29 : MCode :=
 (.seq
  (.reg
   [MI.op (some 4) (.mov (.c (.sl .full 0 []))) none])
  m37_28)
def m37_30 : MCode :=
 (.seq
  (.seq
   (.reg
    [MI.op (some 15) (.ixArr 32 1 (.tmp 1) (.c (.int .i64 0))) none,
     MI.op (some 16) (.load false 1 (.tmp 15)) none,
     MI.op (some 17) (.bin .gtr (.tmp 16) (.c (.int .u8 3))) none])
  m37_2)
  m37_29)
def m37_r : List MRes := [.tmp 2, .tmp 3]
def m37_b : MCode :=
 (.seq
  (.reg
   [MI.op (some 1) (.box (.tmp 0)) none,
    MI.op (some 2) (.mov (.c (.sl .full 0 []))) none,
    MI.op (some 3) (.mov (.c (.int .i64 0))) none])
  m37_30)
def m37 : MFunc := ⟨1, 87, m37_r, m37_b⟩
theorem c37 : compF Tryd.prog 37 m37 = some m37 := by kernel_rfl

/- tollhouse/tollhouseref12.Decode -/
def m38_1 : MCode :=
 (.seq
  (.reg
   [MI.op (some 2) (.mov (.c (.sl .full 0 []))) none,
    MI.op (some 3) (.mov (.c (.int .i64 11))) none])
  .ret)
def m38_2 : MCode :=
 (.cond (.tmp 14)
  m38_1
  .skip)
def m38_3 : MCode :=
 (.seq
  (.blk 3
   (.drw
    [MI.op (some 58) (.fa 1 (.tmp 8)) none,
     MI.op (some 59) (.load false 1 (.tmp 58)) none,
     MI.op (some 60) (.mov (.tmp 6)) none,
     MI.op (some 61) (.bin .add (.tmp 60) (.c (.int .i64 5))) none,
     MI.op (some 62) (.mov (.tmp 9)) none,
     MI.op (some 63) (.bin .add (.tmp 61) (.tmp 62)) none,
     MI.op (some 64) (.ixArr 32 1 (.tmp 1) (.tmp 63)) none,
     MI.op (some 65) (.load false 1 (.tmp 64)) none,
     MI.op (some 66) (.toInt .i64 (.tmp 65)) none,
     MI.op (some 67) (.bsl 1 1 [(.int .i64 0)] [(0, 1, (.tmp 66))]) none]
    [MI.op (some 68) (.app 1 8 (.tmp 59) (.tmp 67)) none,
     MI.op (some 69) (.fa 1 (.tmp 8)) none,
     MI.op none (.store 1 (.tmp 69) (.tmp 68)) none]))
  (.reg
   [MI.op (some 56) (.mov (.tmp 9)) none,
    MI.op (some 57) (.bin .add (.tmp 56) (.c (.int .i64 1))) none,
    MI.op (some 9) (.mov (.tmp 57)) none]))
def m38_4 : MCode :=
 (.seq
  (.seq
   (.reg
    [MI.op (some 45) (.mov (.tmp 9)) none,
     MI.op (some 46) (.mov (.tmp 6)) none,
     MI.op (some 47) (.bin .add (.tmp 46) (.c (.int .i64 4))) none,
     MI.op (some 48) (.ixArr 32 1 (.tmp 1) (.tmp 47)) none,
     MI.op (some 49) (.load false 1 (.tmp 48)) none,
     MI.op (some 50) (.toInt .i64 (.tmp 49)) none,
     MI.op (some 51) (.bin .lss (.tmp 45) (.tmp 50)) none,
     MI.op (some 52) (.mov (.tmp 51)) none,
     MI.op (some 53) (.mov (.tmp 9)) (some (52, true)),
     MI.op (some 54) (.bin .lss (.tmp 53) (.c (.int .i64 4))) (some (52, true)),
     MI.op (some 55) (.pick (.tmp 52) (.tmp 54) (.c (.bool false))) none])
   (.cond (.tmp 55)
    .skip
    (.exit 2)))
  m38_3)
def m38_5 : MCode :=
 (.blk 2
  (.loop
  m38_4))
def m38_6 : MCode :=
 (.reg
  [MI.op (some 70) (.mov (.tmp 4)) none,
   MI.op (some 71) (.load true 2 (.tmp 8)) none,
   MI.frz 71,
   MI.op (some 72) (.bsl 1 2 [(.str []), (.sl .full 0 [])] [(0, 2, (.tmp 71))]) none,
   MI.op (some 73) (.app 2 40 (.tmp 70) (.tmp 72)) none,
   MI.op (some 4) (.mov (.tmp 73)) none])
def m38_7 : MCode :=
 (.seq
  (.seq
   (.reg
    [MI.op (some 9) (.mov (.c (.int .i64 0))) none])
  m38_5)
  m38_6)
def m38_8 : MCode :=
 (.seq
  (.reg
   [MI.op (some 42) (.fa 0 (.tmp 7)) none,
    MI.op (some 43) (.load false 1 (.tmp 42)) none,
    MI.op (some 44) (.build [(.str []), (.sl .full 0 [])] [(0, 1, (.tmp 43))]) none,
    MI.op (some 8) (.alloc [(.str []), (.sl .full 0 [])]) none,
    MI.op none (.store 2 (.tmp 8) (.tmp 44)) none])
  m38_7)
def m38_9 : MCode :=
 (.seq
  (.drw
   [MI.op (some 25) (.mov (.tmp 6)) none,
    MI.op (some 26) (.ixArr 32 1 (.tmp 1) (.tmp 25)) none,
    MI.op (some 27) (.load false 1 (.tmp 26)) none,
    MI.op (some 28) (.mov (.tmp 6)) none,
    MI.op (some 29) (.bin .add (.tmp 28) (.c (.int .i64 1))) none,
    MI.op (some 30) (.ixArr 32 1 (.tmp 1) (.tmp 29)) none,
    MI.op (some 31) (.load false 1 (.tmp 30)) none,
    MI.op (some 32) (.mov (.tmp 6)) none,
    MI.op (some 33) (.bin .add (.tmp 32) (.c (.int .i64 2))) none,
    MI.op (some 34) (.ixArr 32 1 (.tmp 1) (.tmp 33)) none,
    MI.op (some 35) (.load false 1 (.tmp 34)) none,
    MI.op (some 36) (.mov (.tmp 6)) none,
    MI.op (some 37) (.bin .add (.tmp 36) (.c (.int .i64 3))) none,
    MI.op (some 38) (.ixArr 32 1 (.tmp 1) (.tmp 37)) none,
    MI.op (some 39) (.load false 1 (.tmp 38)) none,
    MI.op (some 40) (.build [(.int .u8 0), (.int .u8 0), (.int .u8 0), (.int .u8 0)] [(0, 1, (.tmp 27)), (1, 1, (.tmp 31)), (2, 1, (.tmp 35)), (3, 1, (.tmp 39))]) none,
    MI.op (some 41) (.call 18 [(.tmp 40)]) none,
    MI.op (some 7) (.alloc [(.str []), (.bool false)]) none]
   [MI.op none (.store 2 (.tmp 7) (.tmp 41)) none])
  m38_8)
def m38_10 : MCode :=
 (.seq
  (.blk 1
   (.seq
    (.reg
     [MI.op (some 22) (.mov (.tmp 5)) none,
      MI.op (some 23) (.bin .mul (.c (.int .i64 9)) (.tmp 22)) none,
      MI.op (some 24) (.bin .add (.c (.int .i64 1)) (.tmp 23)) none,
      MI.op (some 6) (.mov (.tmp 24)) none])
  m38_9))
  (.reg
   [MI.op (some 20) (.mov (.tmp 5)) none,
    MI.op (some 21) (.bin .add (.tmp 20) (.c (.int .i64 1))) none,
    MI.op (some 5) (.mov (.tmp 21)) none]))
def m38_11 : MCode :=
 (.seq
  (.seq
   (.reg
    [MI.op (some 15) (.mov (.tmp 5)) none,
     MI.op (some 16) (.ixArr 32 1 (.tmp 1) (.c (.int .i64 0))) none,
     MI.op (some 17) (.load false 1 (.tmp 16)) none,
     MI.op (some 18) (.toInt .i64 (.tmp 17)) none,
     MI.op (some 19) (.bin .lss (.tmp 15) (.tmp 18)) none])
   (.cond (.tmp 19)
    .skip
    (.exit 0)))
  m38_10)
def m38_12 : MCode :=
 (.blk 0
  (.loop
  m38_11))
def m38_13 : List MI :=
 [MI.op (some 74) (.mov (.tmp 76)) none,
  MI.op (some 77) (.ext (.tmp 74) 0) none,
  MI.op (some 78) (.ext (.tmp 74) 1) none,
  MI.op (some 10) (.alloc (List.replicate 32 (.int .u8 0))) none,
  MI.op none (.store 32 (.tmp 10) (.tmp 77)) none,
  MI.op (some 11) (.mov (.tmp 78)) none]
def m38_14 : MCode :=
 (.seq
  (.reg
   [MI.op (some 2) (.mov (.c (.sl .full 0 []))) none,
    MI.op (some 3) (.mov (.c (.int .i64 11))) none])
  .ret)
def m38_15 : MCode :=
 (.cond (.tmp 85)
  m38_14
  .skip)
def m38_16 : MCode :=
 (.seq
  (.reg
   [MI.op (some 86) (.mov (.tmp 4)) none,
    MI.op (some 2) (.mov (.tmp 86)) none,
    MI.op (some 3) (.mov (.c (.int .i64 0))) none])
  .ret)
def m38_17 : MCode :=
 (.seq
  (.seq
   (.reg
    [MI.op (some 79) (.mov (.tmp 11)) none,
     MI.op (some 80) (.bin .neq (.tmp 79) (.c (.int .i64 0))) none,
     MI.op (some 81) (.mov (.tmp 80)) none,
     MI.op (some 82) (.load true 32 (.tmp 10)) (some (81, false)),
     MI.op (some 83) (.load true 32 (.tmp 1)) (some (81, false)),
     MI.op (some 84) (.eqv true [(32, .i)] (.tmp 82) (.tmp 83)) (some (81, false)),
     MI.op (some 85) (.pick (.tmp 81) (.c (.bool true)) (.tmp 84)) none])
  m38_15)
  m38_16)
def m38_18 : MCode :=
 (.seq
  (.reg
   (MI.op (some 75) (.mov (.tmp 4)) none ::
    MI.op (some 76) (.call 36 [(.tmp 75)]) none ::
    m38_13))
  m38_17)
def m38_19 : MCode :=
 (.seq
  (.seq
   (.reg
    [MI.op (some 5) (.mov (.c (.int .i64 0))) none])
  m38_12)
  m38_18)
def m38_20 : MCode :=
 (.seq
  (.reg
   [MI.op (some 4) (.mov (.c (.sl .full 0 []))) none])
  m38_19)
def m38_21 : MCode :=
 (.seq
  (.seq
   (.reg
    [MI.op (some 12) (.ixArr 32 1 (.tmp 1) (.c (.int .i64 0))) none,
     MI.op (some 13) (.load false 1 (.tmp 12)) none,
     MI.op (some 14) (.bin .gtr (.tmp 13) (.c (.int .u8 3))) none])
  m38_2)
  m38_20)
def m38_r : List MRes := [.tmp 2, .tmp 3]
def m38_b : MCode :=
 (.seq
  (.reg
   [MI.op (some 1) (.box (.tmp 0)) none,
    MI.op (some 2) (.mov (.c (.sl .full 0 []))) none,
    MI.op (some 3) (.mov (.c (.int .i64 0))) none])
  m38_21)
def m38 : MFunc := ⟨1, 87, m38_r, m38_b⟩
theorem c38 : compF Tryd.prog 38 m38 = some m38 := by kernel_rfl

/- tollhouse/table.Good -/
def m39_1 : MCode :=
 (.cond (.tmp 10)
  (.seq
   (.reg
    [MI.op (some 2) (.mov (.c (.bool false))) none])
   .ret)
  .skip)
def m39_2 : List MI :=
 [MI.op (some 28) (.mov (.tmp 4)) (some (23, false)),
  MI.op (some 29) (.bin .neq (.tmp 27) (.tmp 28)) (some (23, false)),
  MI.op (some 30) (.pick (.tmp 23) (.c (.bool true)) (.tmp 29)) none,
  MI.op (some 31) (.mov (.tmp 30)) none,
  MI.op (some 32) (.fa 1 (.tmp 5)) (some (31, false)),
  MI.op (some 33) (.load false 1 (.tmp 32)) (some (31, false)),
  MI.op (some 34) (.len (.tmp 33)) (some (31, false)),
  MI.op (some 35) (.bin .lss (.tmp 34) (.c (.int .i64 1))) (some (31, false)),
  MI.op (some 36) (.pick (.tmp 31) (.c (.bool true)) (.tmp 35)) none,
  MI.op (some 37) (.mov (.tmp 36)) none,
  MI.op (some 38) (.fa 1 (.tmp 5)) (some (37, false)),
  MI.op (some 39) (.load false 1 (.tmp 38)) (some (37, false)),
  MI.op (some 40) (.len (.tmp 39)) (some (37, false)),
  MI.op (some 41) (.bin .gtr (.tmp 40) (.c (.int .i64 4))) (some (37, false)),
  MI.op (some 42) (.pick (.tmp 37) (.c (.bool true)) (.tmp 41)) none]
def m39_3 : List MI :=
 (MI.op (some 22) (.un .not (.tmp 21)) none ::
  MI.op (some 23) (.mov (.tmp 22)) none ::
  MI.op (some 24) (.fa 0 (.tmp 5)) (some (23, false)) ::
  MI.op (some 25) (.load false 1 (.tmp 24)) (some (23, false)) ::
  MI.op (some 26) (.mov (.tmp 0)) (some (23, false)) ::
  MI.op (some 27) (.call 42 [(.tmp 25), (.tmp 26)]) (some (23, false)) ::
  m39_2)
def m39_4 : MCode :=
 (.cond (.tmp 42)
  (.seq
   (.reg
    [MI.op (some 2) (.mov (.c (.bool false))) none])
   .ret)
  .skip)
def m39_5 : MCode :=
 (.cond (.tmp 60)
  (.seq
   (.reg
    [MI.op (some 2) (.mov (.c (.bool false))) none])
   .ret)
  .skip)
def m39_6 : MCode :=
 (.reg
  [MI.op (some 61) (.mov (.tmp 3)) none,
   MI.op (some 62) (.mov (.tmp 7)) none,
   MI.op (some 63) (.bsl 1 1 [(.int .i64 0)] [(0, 1, (.tmp 62))]) none,
   MI.op (some 64) (.app 1 8 (.tmp 61) (.tmp 63)) none,
   MI.op (some 3) (.mov (.tmp 64)) none])
def m39_7 : MCode :=
 (.seq
  (.seq
   (.reg
    [MI.op (some 50) (.mov (.tmp 7)) none,
     MI.op (some 51) (.bin .lss (.tmp 50) (.c (.int .i64 1))) none,
     MI.op (some 52) (.mov (.tmp 51)) none,
     MI.op (some 53) (.mov (.tmp 7)) (some (52, false)),
     MI.op (some 54) (.bin .geq (.tmp 53) (.c (.int .i64 12))) (some (52, false)),
     MI.op (some 55) (.pick (.tmp 52) (.c (.bool true)) (.tmp 54)) none,
     MI.op (some 56) (.mov (.tmp 55)) none,
     MI.op (some 57) (.mov (.tmp 3)) (some (56, false)),
     MI.op (some 58) (.mov (.tmp 7)) (some (56, false)),
     MI.op (some 59) (.call 52 [(.tmp 57), (.tmp 58)]) (some (56, false)),
     MI.op (some 60) (.pick (.tmp 56) (.c (.bool true)) (.tmp 59)) none])
  m39_5)
  m39_6)
def m39_8 : MCode :=
 (.seq
  (.blk 3
   (.seq
    (.reg
     [MI.op (some 48) (.ixSl 1 (.tmp 44) (.tmp 46)) none,
      MI.op (some 49) (.load false 1 (.tmp 48)) none,
      MI.op (some 7) (.mov (.tmp 49)) none])
  m39_7))
  (.reg
   [MI.op (some 65) (.bin .add (.tmp 46) (.c (.int .i64 1))) none,
    MI.op (some 46) (.mov (.tmp 65)) none]))
def m39_9 : MCode :=
 (.seq
  (.cond (.tmp 47)
   .skip
   (.exit 2))
  m39_8)
def m39_10 : MCode :=
 (.seq
  (.reg
   [MI.op (some 47) (.bin .lss (.tmp 46) (.tmp 45)) none])
  m39_9)
def m39_11 : MCode :=
 (.blk 2
  (.loop
  m39_10))
def m39_12 : MCode :=
 (.seq
  (.reg
   [MI.op (some 43) (.fa 1 (.tmp 5)) none,
    MI.op (some 44) (.load false 1 (.tmp 43)) none,
    MI.op (some 45) (.len (.tmp 44)) none,
    MI.op (some 46) (.mov (.c (.int .i64 0))) none])
  m39_11)
def m39_13 : MCode :=
 (.seq
  (.seq
   (.reg
    (MI.op (some 18) (.fa 0 (.tmp 5)) none ::
     MI.op (some 19) (.load false 1 (.tmp 18)) none ::
     MI.op (some 20) (.bsl 1 1 [(.str [])] [(0, 1, (.tmp 19))]) none ::
     MI.op (some 21) (.call 19 [(.tmp 20)]) none ::
     m39_3))
  m39_4)
  m39_12)
def m39_14 : MCode :=
 (.seq
  (.blk 1
   (.seq
    (.reg
     [MI.op (some 15) (.mov (.tmp 13)) none,
      MI.op (some 16) (.ixSl 2 (.tmp 11) (.tmp 13)) none,
      MI.op (some 17) (.load true 2 (.tmp 16)) none,
      MI.op (some 5) (.alloc [(.str []), (.sl .full 0 [])]) none,
      MI.op (some 4) (.mov (.tmp 15)) none,
      MI.op none (.store 2 (.tmp 5) (.tmp 17)) none])
  m39_13))
  (.reg
   [MI.op (some 66) (.bin .add (.tmp 13) (.c (.int .i64 1))) none,
    MI.op (some 13) (.mov (.tmp 66)) none]))
def m39_15 : MCode :=
 (.seq
  (.cond (.tmp 14)
   .skip
   (.exit 0))
  m39_14)
def m39_16 : MCode :=
 (.seq
  (.reg
   [MI.op (some 14) (.bin .lss (.tmp 13) (.tmp 12)) none])
  m39_15)
def m39_17 : MCode :=
 (.blk 0
  (.loop
  m39_16))
def m39_18 : MCode :=
 (.seq
  (.seq
   (.reg
    [MI.op (some 11) (.mov (.tmp 0)) none,
     MI.op (some 12) (.len (.tmp 11)) none,
     MI.op (some 13) (.mov (.c (.int .i64 0))) none])
  m39_17)
  (.seq
   (.reg
    [MI.op (some 2) (.mov (.c (.bool true))) none])
   .ret))
def m39_19 : MCode :=
 (.seq
  (.reg
   [MI.op (some 3) (.mov (.c (.sl .full 0 []))) none])
  m39_18)
def m39_20 : MCode :=
 (.seq
  (.seq
   (.reg
    [MI.op (some 8) (.mov (.tmp 0)) none,
     MI.op (some 9) (.len (.tmp 8)) none,
     MI.op (some 10) (.bin .gtr (.tmp 9) (.c (.int .i64 3))) none])
  m39_1)
  m39_19)
def m39_r : List MRes := [.tmp 2]
def m39_b : MCode :=
 (.seq
  (.reg
   [MI.op (some 2) (.mov (.c (.bool false))) none])
  m39_20)
def m39 : MFunc := ⟨1, 67, m39_r, m39_b⟩
theorem c39 : compF Tryd.prog 39 m39 = some m39 := by kernel_rfl

/- tollhouse/tollhouseref12.Good -/
def m40_1 : MCode :=
 (.cond (.tmp 10)
  (.seq
   (.reg
    [MI.op (some 2) (.mov (.c (.bool false))) none])
   .ret)
  .skip)
def m40_2 : List MI :=
 [MI.op (some 31) (.mov (.tmp 4)) (some (26, false)),
  MI.op (some 32) (.bin .neq (.tmp 30) (.tmp 31)) (some (26, false)),
  MI.op (some 33) (.pick (.tmp 26) (.c (.bool true)) (.tmp 32)) none,
  MI.op (some 34) (.mov (.tmp 33)) none,
  MI.op (some 35) (.fa 1 (.tmp 5)) (some (34, false)),
  MI.op (some 36) (.load false 1 (.tmp 35)) (some (34, false)),
  MI.op (some 37) (.len (.tmp 36)) (some (34, false)),
  MI.op (some 38) (.bin .lss (.tmp 37) (.c (.int .i64 1))) (some (34, false)),
  MI.op (some 39) (.pick (.tmp 34) (.c (.bool true)) (.tmp 38)) none,
  MI.op (some 40) (.mov (.tmp 39)) none,
  MI.op (some 41) (.fa 1 (.tmp 5)) (some (40, false)),
  MI.op (some 42) (.load false 1 (.tmp 41)) (some (40, false)),
  MI.op (some 43) (.len (.tmp 42)) (some (40, false)),
  MI.op (some 44) (.bin .gtr (.tmp 43) (.c (.int .i64 4))) (some (40, false)),
  MI.op (some 45) (.pick (.tmp 40) (.c (.bool true)) (.tmp 44)) none]
def m40_3 : List MI :=
 (MI.op (some 25) (.un .not (.tmp 24)) none ::
  MI.op (some 26) (.mov (.tmp 25)) none ::
  MI.op (some 27) (.fa 0 (.tmp 5)) (some (26, false)) ::
  MI.op (some 28) (.load false 1 (.tmp 27)) (some (26, false)) ::
  MI.op (some 29) (.mov (.tmp 0)) (some (26, false)) ::
  MI.op (some 30) (.call 43 [(.tmp 28), (.tmp 29)]) (some (26, false)) ::
  m40_2)
def m40_4 : MCode :=
 (.cond (.tmp 45)
  (.seq
   (.reg
    [MI.op (some 2) (.mov (.c (.bool false))) none])
   .ret)
  .skip)
def m40_5 : MCode :=
 (.cond (.tmp 68)
  (.seq
   (.reg
    [MI.op (some 2) (.mov (.c (.bool false))) none])
   .ret)
  .skip)
def m40_6 : MCode :=
 (.seq
  (.seq
   (.reg
    [MI.op (some 58) (.mov (.tmp 7)) none,
     MI.op (some 59) (.bin .lss (.tmp 58) (.c (.int .i64 1))) none,
     MI.op (some 60) (.mov (.tmp 59)) none,
     MI.op (some 61) (.mov (.tmp 7)) (some (60, false)),
     MI.op (some 62) (.bin .geq (.tmp 61) (.c (.int .i64 12))) (some (60, false)),
     MI.op (some 63) (.pick (.tmp 60) (.c (.bool true)) (.tmp 62)) none,
     MI.op (some 64) (.mov (.tmp 63)) none,
     MI.op (some 65) (.mov (.tmp 7)) (some (64, false)),
     MI.op (some 66) (.ixArr 12 1 (.tmp 3) (.tmp 65)) (some (64, false)),
     MI.op (some 67) (.load false 1 (.tmp 66)) (some (64, false)),
     MI.op (some 68) (.pick (.tmp 64) (.c (.bool true)) (.tmp 67)) none])
  m40_5)
  (.reg
   [MI.op (some 69) (.mov (.tmp 7)) none,
    MI.op (some 70) (.ixArr 12 1 (.tmp 3) (.tmp 69)) none,
    MI.op none (.store 1 (.tmp 70) (.c (.bool true))) none]))
def m40_7 : MCode :=
 (.seq
  (.blk 3
   (.seq
    (.reg
     [MI.op (some 53) (.fa 1 (.tmp 5)) none,
      MI.op (some 54) (.load false 1 (.tmp 53)) none,
      MI.op (some 55) (.mov (.tmp 6)) none,
      MI.op (some 56) (.ixSl 1 (.tmp 54) (.tmp 55)) none,
      MI.op (some 57) (.load false 1 (.tmp 56)) none,
      MI.op (some 7) (.mov (.tmp 57)) none])
  m40_6))
  (.reg
   [MI.op (some 51) (.mov (.tmp 6)) none,
    MI.op (some 52) (.bin .add (.tmp 51) (.c (.int .i64 1))) none,
    MI.op (some 6) (.mov (.tmp 52)) none]))
def m40_8 : MCode :=
 (.seq
  (.seq
   (.reg
    [MI.op (some 46) (.mov (.tmp 6)) none,
     MI.op (some 47) (.fa 1 (.tmp 5)) none,
     MI.op (some 48) (.load false 1 (.tmp 47)) none,
     MI.op (some 49) (.len (.tmp 48)) none,
     MI.op (some 50) (.bin .lss (.tmp 46) (.tmp 49)) none])
   (.cond (.tmp 50)
    .skip
    (.exit 2)))
  m40_7)
def m40_9 : MCode :=
 (.blk 2
  (.loop
  m40_8))
def m40_10 : MCode :=
 (.seq
  (.reg
   [MI.op (some 6) (.mov (.c (.int .i64 0))) none])
  m40_9)
def m40_11 : MCode :=
 (.seq
  (.seq
   (.reg
    (MI.op (some 21) (.fa 0 (.tmp 5)) none ::
     MI.op (some 22) (.load false 1 (.tmp 21)) none ::
     MI.op (some 23) (.bsl 1 1 [(.str [])] [(0, 1, (.tmp 22))]) none ::
     MI.op (some 24) (.call 20 [(.tmp 23)]) none ::
     m40_3))
  m40_4)
  m40_10)
def m40_12 : MCode :=
 (.seq
  (.blk 1
   (.seq
    (.reg
     [MI.op (some 17) (.mov (.tmp 0)) none,
      MI.op (some 18) (.mov (.tmp 4)) none,
      MI.op (some 19) (.ixSl 2 (.tmp 17) (.tmp 18)) none,
      MI.op (some 20) (.load true 2 (.tmp 19)) none,
      MI.op (some 5) (.alloc [(.str []), (.sl .full 0 [])]) none,
      MI.op none (.store 2 (.tmp 5) (.tmp 20)) none])
  m40_11))
  (.reg
   [MI.op (some 15) (.mov (.tmp 4)) none,
    MI.op (some 16) (.bin .add (.tmp 15) (.c (.int .i64 1))) none,
    MI.op (some 4) (.mov (.tmp 16)) none]))
def m40_13 : MCode :=
 (.seq
  (.seq
   (.reg
    [MI.op (some 11) (.mov (.tmp 4)) none,
     MI.op (some 12) (.mov (.tmp 0)) none,
     MI.op (some 13) (.len (.tmp 12)) none,
     MI.op (some 14) (.bin .lss (.tmp 11) (.tmp 13)) none])
   (.cond (.tmp 14)
    .skip
    (.exit 0)))
  m40_12)
def m40_14 : MCode :=
 (.blk 0
  (.loop
  m40_13))
def m40_15 : MCode :=
 (.seq
  (.seq
   (.reg
    [MI.op (some 4) (.mov (.c (.int .i64 0))) none])
  m40_14)
  (.seq
   (.reg
    [MI.op (some 2) (.mov (.c (.bool true))) none])
   .ret))
def m40_16 : MCode :=
 (.seq
  (.reg
   [MI.op (some 3) (.alloc (List.replicate 12 (.bool false))) none])
  m40_15)
def m40_17 : MCode :=
 (.seq
  (.seq
   (.reg
    [MI.op (some 8) (.mov (.tmp 0)) none,
     MI.op (some 9) (.len (.tmp 8)) none,
     MI.op (some 10) (.bin .gtr (.tmp 9) (.c (.int .i64 3))) none])
  m40_1)
  m40_16)
def m40_r : List MRes := [.tmp 2]
def m40_b : MCode :=
 (.seq
  (.reg
   [MI.op (some 2) (.mov (.c (.bool false))) none])
  m40_17)
def m40 : MFunc := ⟨1, 71, m40_r, m40_b⟩
theorem c40 : compF Tryd.prog 40 m40 = some m40 := by kernel_rfl

/- tollhouse/tollhousekeep.Volumes -/
def m41_1 : MCode :=
 (.cond (.tmp 10)
  (.seq
   (.reg
    [MI.op (some 4) (.mov (.c (.bool false))) none])
   .ret)
  .skip)
def m41_2 : MCode :=
 (.cond (.tmp 41)
  (.seq
   (.reg
    [MI.op (some 4) (.mov (.c (.bool false))) none])
   .ret)
  .skip)
def m41_3 : MCode :=
 (.seq
  (.blk 1
   (.seq
    (.drw
     [MI.op (some 17) (.mov (.tmp 0)) none,
      MI.op (some 18) (.mov (.tmp 5)) none,
      MI.op (some 19) (.ixSl 2 (.tmp 17) (.tmp 18)) none,
      MI.op (some 20) (.fa 0 (.tmp 19)) none,
      MI.op (some 21) (.load false 1 (.tmp 20)) none,
      MI.op (some 22) (.mov (.tmp 1)) none,
      MI.op (some 23) (.mov (.tmp 5)) none,
      MI.op (some 24) (.ixSl 2 (.tmp 22) (.tmp 23)) none,
      MI.op (some 25) (.fa 0 (.tmp 24)) none,
      MI.op (some 26) (.load false 1 (.tmp 25)) none,
      MI.op (some 27) (.bin .neq (.tmp 21) (.tmp 26)) none,
      MI.op (some 28) (.mov (.tmp 27)) none,
      MI.op (some 29) (.mov (.tmp 0)) (some (28, false)),
      MI.op (some 30) (.mov (.tmp 5)) (some (28, false)),
      MI.op (some 31) (.ixSl 2 (.tmp 29) (.tmp 30)) (some (28, false)),
      MI.op (some 32) (.fa 1 (.tmp 31)) (some (28, false)),
      MI.op (some 33) (.load false 1 (.tmp 32)) (some (28, false)),
      MI.op (some 34) (.mov (.tmp 1)) (some (28, false)),
      MI.op (some 35) (.mov (.tmp 5)) (some (28, false)),
      MI.op (some 36) (.ixSl 2 (.tmp 34) (.tmp 35)) (some (28, false)),
      MI.op (some 37) (.fa 1 (.tmp 36)) (some (28, false)),
      MI.op (some 38) (.load false 1 (.tmp 37)) (some (28, false))]
     [MI.op (some 39) (.call 53 [(.tmp 33), (.tmp 38)]) (some (28, false)),
      MI.op (some 40) (.un .not (.tmp 39)) (some (28, false)),
      MI.op (some 41) (.pick (.tmp 28) (.c (.bool true)) (.tmp 40)) none])
  m41_2))
  (.reg
   [MI.op (some 15) (.mov (.tmp 5)) none,
    MI.op (some 16) (.bin .add (.tmp 15) (.c (.int .i64 1))) none,
    MI.op (some 5) (.mov (.tmp 16)) none]))
def m41_4 : MCode :=
 (.seq
  (.seq
   (.reg
    [MI.op (some 11) (.mov (.tmp 5)) none,
     MI.op (some 12) (.mov (.tmp 0)) none,
     MI.op (some 13) (.len (.tmp 12)) none,
     MI.op (some 14) (.bin .lss (.tmp 11) (.tmp 13)) none])
   (.cond (.tmp 14)
    .skip
    (.exit 0)))
  m41_3)
def m41_5 : MCode :=
 (.blk 0
  (.loop
  m41_4))
def m41_6 : MCode :=
 (.seq
  (.seq
   (.reg
    [MI.op (some 5) (.mov (.c (.int .i64 0))) none])
  m41_5)
  (.seq
   (.reg
    [MI.op (some 4) (.mov (.c (.bool true))) none])
   .ret))
def m41_7 : MCode :=
 (.seq
  (.seq
   (.reg
    [MI.op (some 6) (.mov (.tmp 0)) none,
     MI.op (some 7) (.len (.tmp 6)) none,
     MI.op (some 8) (.mov (.tmp 1)) none,
     MI.op (some 9) (.len (.tmp 8)) none,
     MI.op (some 10) (.bin .neq (.tmp 7) (.tmp 9)) none])
  m41_1)
  m41_6)
def m41_r : List MRes := [.tmp 4]
def m41_b : MCode :=
 (.seq
  (.reg
   [MI.op (some 4) (.mov (.c (.bool false))) none])
  m41_7)
def m41 : MFunc := ⟨2, 42, m41_r, m41_b⟩
theorem c41 : compF Tryd.prog 41 m41 = some m41 := by kernel_rfl

/- tollhouse/table.Find -/
def m42_1 : MCode :=
 (.seq
  (.reg
   [MI.op (some 5) (.mov (.tmp 1)) none,
    MI.op (some 6) (.mkf 55 [(.tmp 2)]) none,
    MI.op (some 7) (.call 54 [(.tmp 5), (.tmp 6)]) none,
    MI.op (some 4) (.mov (.tmp 7)) none])
  .ret)
def m42_r : List MRes := [.tmp 4]
def m42_b : MCode :=
 (.seq
  (.reg
   [MI.op (some 2) (.box (.tmp 0)) none,
    MI.op (some 4) (.mov (.c (.int .i64 0))) none])
  m42_1)
def m42 : MFunc := ⟨2, 8, m42_r, m42_b⟩
theorem c42 : compF Tryd.prog 42 m42 = some m42 := by kernel_rfl

/- tollhouse/tollhouseref12.Find -/
def m43_1 : MCode :=
 (.seq
  (.reg
   [MI.op (some 19) (.mov (.tmp 5)) none,
    MI.op (some 4) (.mov (.tmp 19)) none])
  .ret)
def m43_2 : MCode :=
 (.cond (.tmp 18)
  m43_1
  .skip)
def m43_3 : MCode :=
 (.seq
  (.blk 1
   (.seq
    (.reg
     [MI.op (some 12) (.mov (.tmp 1)) none,
      MI.op (some 13) (.mov (.tmp 5)) none,
      MI.op (some 14) (.ixSl 2 (.tmp 12) (.tmp 13)) none,
      MI.op (some 15) (.fa 0 (.tmp 14)) none,
      MI.op (some 16) (.load false 1 (.tmp 15)) none,
      MI.op (some 17) (.mov (.tmp 0)) none,
      MI.op (some 18) (.bin .eql (.tmp 16) (.tmp 17)) none])
  m43_2))
  (.reg
   [MI.op (some 10) (.mov (.tmp 5)) none,
    MI.op (some 11) (.bin .add (.tmp 10) (.c (.int .i64 1))) none,
    MI.op (some 5) (.mov (.tmp 11)) none]))
def m43_4 : MCode :=
 (.seq
  (.seq
   (.reg
    [MI.op (some 6) (.mov (.tmp 5)) none,
     MI.op (some 7) (.mov (.tmp 1)) none,
     MI.op (some 8) (.len (.tmp 7)) none,
     MI.op (some 9) (.bin .lss (.tmp 6) (.tmp 8)) none])
   (.cond (.tmp 9)
    .skip
    (.exit 0)))
  m43_3)
def m43_5 : MCode :=
 (.blk 0
  (.loop
  m43_4))
def m43_6 : MCode :=
 (.seq
  (.seq
   (.reg
    [MI.op (some 5) (.mov (.c (.int .i64 0))) none])
  m43_5)
  (.seq
   (.reg
    [MI.op (some 4) (.mov (.c (.int .i64 (-1)))) none])
   .ret))
def m43_r : List MRes := [.tmp 4]
def m43_b : MCode :=
 (.seq
  (.reg
   [MI.op (some 4) (.mov (.c (.int .i64 0))) none])
  m43_6)
def m43 : MFunc := ⟨2, 20, m43_r, m43_b⟩
theorem c43 : compF Tryd.prog 43 m43 = some m43 := by kernel_rfl

/- slices.Contains[[]int,int] -/
def m52_1 : List MI :=
 [MI.op (some 8) (.bin .geq (.tmp 7) (.c (.int .i64 0))) none,
  MI.op (some 4) (.mov (.tmp 8)) none]
def m52_2 : MCode :=
 (.seq
  (.reg
   (MI.op (some 5) (.mov (.tmp 0)) none ::
    MI.op (some 6) (.mov (.tmp 1)) none ::
    MI.op (some 7) (.call 64 [(.tmp 5), (.tmp 6)]) none ::
    m52_1))
  .ret)
def m52_r : List MRes := [.tmp 4]
def m52_b : MCode :=
 (.seq
  (.reg
   [MI.op (some 4) (.mov (.c (.bool false))) none])
  m52_2)
def m52 : MFunc := ⟨2, 9, m52_r, m52_b⟩
theorem c52 : compF Tryd.prog 52 m52 = some m52 := by kernel_rfl

/- tollhouse/tollhousekeep.Ints -/
def m53_1 : MCode :=
 (.cond (.tmp 10)
  (.seq
   (.reg
    [MI.op (some 4) (.mov (.c (.bool false))) none])
   .ret)
  .skip)
def m53_2 : MCode :=
 (.cond (.tmp 25)
  (.seq
   (.reg
    [MI.op (some 4) (.mov (.c (.bool false))) none])
   .ret)
  .skip)
def m53_3 : MCode :=
 (.seq
  (.blk 1
   (.seq
    (.drw
     [MI.op (some 17) (.mov (.tmp 0)) none,
      MI.op (some 18) (.mov (.tmp 5)) none,
      MI.op (some 19) (.ixSl 1 (.tmp 17) (.tmp 18)) none,
      MI.op (some 20) (.load false 1 (.tmp 19)) none,
      MI.op (some 21) (.mov (.tmp 1)) none,
      MI.op (some 22) (.mov (.tmp 5)) none,
      MI.op (some 23) (.ixSl 1 (.tmp 21) (.tmp 22)) none,
      MI.op (some 24) (.load false 1 (.tmp 23)) none]
     [MI.op (some 25) (.bin .neq (.tmp 20) (.tmp 24)) none])
  m53_2))
  (.reg
   [MI.op (some 15) (.mov (.tmp 5)) none,
    MI.op (some 16) (.bin .add (.tmp 15) (.c (.int .i64 1))) none,
    MI.op (some 5) (.mov (.tmp 16)) none]))
def m53_4 : MCode :=
 (.seq
  (.seq
   (.reg
    [MI.op (some 11) (.mov (.tmp 5)) none,
     MI.op (some 12) (.mov (.tmp 0)) none,
     MI.op (some 13) (.len (.tmp 12)) none,
     MI.op (some 14) (.bin .lss (.tmp 11) (.tmp 13)) none])
   (.cond (.tmp 14)
    .skip
    (.exit 0)))
  m53_3)
def m53_5 : MCode :=
 (.blk 0
  (.loop
  m53_4))
def m53_6 : MCode :=
 (.seq
  (.seq
   (.reg
    [MI.op (some 5) (.mov (.c (.int .i64 0))) none])
  m53_5)
  (.seq
   (.reg
    [MI.op (some 4) (.mov (.c (.bool true))) none])
   .ret))
def m53_7 : MCode :=
 (.seq
  (.seq
   (.reg
    [MI.op (some 6) (.mov (.tmp 0)) none,
     MI.op (some 7) (.len (.tmp 6)) none,
     MI.op (some 8) (.mov (.tmp 1)) none,
     MI.op (some 9) (.len (.tmp 8)) none,
     MI.op (some 10) (.bin .neq (.tmp 7) (.tmp 9)) none])
  m53_1)
  m53_6)
def m53_r : List MRes := [.tmp 4]
def m53_b : MCode :=
 (.seq
  (.reg
   [MI.op (some 4) (.mov (.c (.bool false))) none])
  m53_7)
def m53 : MFunc := ⟨2, 26, m53_r, m53_b⟩
theorem c53 : compF Tryd.prog 53 m53 = some m53 := by kernel_rfl

/- slices.IndexFunc[[]tollhouse/api.Volume,tollhouse/api.Volume] -/
def m54_1 : MCode :=
 (.seq
  (.reg
   [MI.op (some 17) (.mov (.tmp 5)) none,
    MI.op (some 4) (.mov (.tmp 17)) none])
  .ret)
def m54_2 : MCode :=
 (.cond (.tmp 16)
  m54_1
  .skip)
def m54_3 : MCode :=
 (.seq
  (.reg
   [MI.op (some 11) (.mov (.tmp 1)) none,
    MI.op (some 12) (.mov (.tmp 0)) none,
    MI.op (some 13) (.mov (.tmp 5)) none,
    MI.op (some 14) (.ixSl 2 (.tmp 12) (.tmp 13)) none,
    MI.op (some 15) (.load true 2 (.tmp 14)) none,
    MI.op (some 16) (.calli (.tmp 11) [(.tmp 15)]) none])
  m54_2)
def m54_4 : MCode :=
 (.seq
  (.blk 1
   (.seq
    (.reg
     [MI.op (some 10) (.mov (.tmp 8)) none,
      MI.op (some 5) (.mov (.tmp 10)) none])
  m54_3))
  (.reg
   [MI.op (some 18) (.bin .add (.tmp 8) (.c (.int .i64 1))) none,
    MI.op (some 8) (.mov (.tmp 18)) none]))
def m54_5 : MCode :=
 (.seq
  (.cond (.tmp 9)
   .skip
   (.exit 0))
  m54_4)
def m54_6 : MCode :=
 (.seq
  (.reg
   [MI.op (some 9) (.bin .lss (.tmp 8) (.tmp 7)) none])
  m54_5)
def m54_7 : MCode :=
 (.blk 0
  (.loop
  m54_6))
def m54_8 : MCode :=
 (.seq
  (.seq
   (.reg
    [MI.op (some 6) (.mov (.tmp 0)) none,
     MI.op (some 7) (.len (.tmp 6)) none,
     MI.op (some 8) (.mov (.c (.int .i64 0))) none])
  m54_7)
  (.seq
   (.reg
    [MI.op (some 4) (.mov (.c (.int .i64 (-1)))) none])
   .ret))
def m54_r : List MRes := [.tmp 4]
def m54_b : MCode :=
 (.seq
  (.reg
   [MI.op (some 4) (.mov (.c (.int .i64 0))) none])
  m54_8)
def m54 : MFunc := ⟨2, 19, m54_r, m54_b⟩
theorem c54 : compF Tryd.prog 54 m54 = some m54 := by kernel_rfl

/- tollhouse/table.Find$1 -/
def m55_1 : MCode :=
 (.seq
  (.reg
   [MI.op (some 4) (.fa 0 (.tmp 2)) none,
    MI.op (some 5) (.load false 1 (.tmp 4)) none,
    MI.op (some 6) (.load false 1 (.tmp 1)) none,
    MI.op (some 7) (.bin .eql (.tmp 5) (.tmp 6)) none,
    MI.op (some 3) (.mov (.tmp 7)) none])
  .ret)
def m55_r : List MRes := [.tmp 3]
def m55_b : MCode :=
 (.seq
  (.reg
   [MI.op (some 2) (.box (.tmp 0)) none,
    MI.op (some 3) (.mov (.c (.bool false))) none])
  m55_1)
def m55 : MFunc := ⟨2, 8, m55_r, m55_b⟩
theorem c55 : compF Tryd.prog 55 m55 = some m55 := by kernel_rfl

/- slices.Index[[]int,int] -/
def m64_1 : MCode :=
 (.seq
  (.reg
   [MI.op (some 17) (.mov (.tmp 5)) none,
    MI.op (some 4) (.mov (.tmp 17)) none])
  .ret)
def m64_2 : MCode :=
 (.cond (.tmp 16)
  m64_1
  .skip)
def m64_3 : MCode :=
 (.seq
  (.reg
   [MI.op (some 11) (.mov (.tmp 1)) none,
    MI.op (some 12) (.mov (.tmp 0)) none,
    MI.op (some 13) (.mov (.tmp 5)) none,
    MI.op (some 14) (.ixSl 1 (.tmp 12) (.tmp 13)) none,
    MI.op (some 15) (.load false 1 (.tmp 14)) none,
    MI.op (some 16) (.bin .eql (.tmp 11) (.tmp 15)) none])
  m64_2)
def m64_4 : MCode :=
 (.seq
  (.blk 1
   (.seq
    (.reg
     [MI.op (some 10) (.mov (.tmp 8)) none,
      MI.op (some 5) (.mov (.tmp 10)) none])
  m64_3))
  (.reg
   [MI.op (some 18) (.bin .add (.tmp 8) (.c (.int .i64 1))) none,
    MI.op (some 8) (.mov (.tmp 18)) none]))
def m64_5 : MCode :=
 (.seq
  (.cond (.tmp 9)
   .skip
   (.exit 0))
  m64_4)
def m64_6 : MCode :=
 (.seq
  (.reg
   [MI.op (some 9) (.bin .lss (.tmp 8) (.tmp 7)) none])
  m64_5)
def m64_7 : MCode :=
 (.blk 0
  (.loop
  m64_6))
def m64_8 : MCode :=
 (.seq
  (.seq
   (.reg
    [MI.op (some 6) (.mov (.tmp 0)) none,
     MI.op (some 7) (.len (.tmp 6)) none,
     MI.op (some 8) (.mov (.c (.int .i64 0))) none])
  m64_7)
  (.seq
   (.reg
    [MI.op (some 4) (.mov (.c (.int .i64 (-1)))) none])
   .ret))
def m64_r : List MRes := [.tmp 4]
def m64_b : MCode :=
 (.seq
  (.reg
   [MI.op (some 4) (.mov (.c (.int .i64 0))) none])
  m64_8)
def m64 : MFunc := ⟨2, 19, m64_r, m64_b⟩
theorem c64 : compF Tryd.prog 64 m64 = some m64 := by kernel_rfl

/- tollhouse/tollhouselaw12.TableTells -/
def m11_1 : List MI :=
 [MI.op (some 18) (.un .not (.tmp 17)) none,
  MI.op (some 19) (.mov (.tmp 18)) none,
  MI.op (some 20) (.mov (.tmp 1)) (some (19, false)),
  MI.op (some 21) (.lenS (.tmp 20)) (some (19, false)),
  MI.op (some 22) (.bin .gtr (.tmp 21) (.c (.int .i64 100))) (some (19, false)),
  MI.op (some 23) (.pick (.tmp 19) (.c (.bool true)) (.tmp 22)) none]
def m11_2 : MCode :=
 (.seq
  (.reg
   [MI.op (some 24) (.call 33 []) none,
    MI.op (some 6) (.mov (.tmp 24)) none])
  .ret)
def m11_3 : MCode :=
 (.cond (.tmp 23)
  m11_2
  .skip)
def m11_4 : List MI :=
 [MI.op (some 27) (.mov (.tmp 29)) none,
  MI.op (some 30) (.ext (.tmp 27) 0) none,
  MI.op (some 31) (.ext (.tmp 27) 1) none,
  MI.op (some 8) (.alloc (List.replicate 32 (.int .u8 0))) none,
  MI.op none (.store 32 (.tmp 8) (.tmp 30)) none,
  MI.op (some 9) (.mov (.tmp 31)) none]
def m11_5 : List MI :=
 [MI.op (some 32) (.mov (.tmp 34)) none,
  MI.op (some 35) (.ext (.tmp 32) 0) none,
  MI.op (some 36) (.ext (.tmp 32) 1) none,
  MI.op (some 10) (.alloc (List.replicate 32 (.int .u8 0))) none,
  MI.op none (.store 32 (.tmp 10) (.tmp 35)) none,
  MI.op (some 11) (.mov (.tmp 36)) none]
def m11_6 : List MI :=
 [MI.op (some 37) (.mov (.tmp 39)) none,
  MI.op (some 40) (.ext (.tmp 37) 0) none,
  MI.op (some 41) (.ext (.tmp 37) 1) none,
  MI.op (some 12) (.mov (.tmp 40)) none,
  MI.op (some 13) (.mov (.tmp 41)) none]
def m11_7 : List MI :=
 [MI.op (some 42) (.mov (.tmp 44)) none,
  MI.op (some 45) (.ext (.tmp 42) 0) none,
  MI.op (some 46) (.ext (.tmp 42) 1) none,
  MI.op (some 14) (.mov (.tmp 45)) none,
  MI.op (some 15) (.mov (.tmp 46)) none]
def m11_8 : List MI :=
 [MI.op (some 88) (.pick (.tmp 86) (.tmp 87) (.c (.bool false))) none,
  MI.op (some 6) (.mov (.tmp 88)) none]
def m11_9 : List MI :=
 (MI.op (some 85) (.pick (.tmp 81) (.tmp 84) (.c (.bool false))) none ::
  MI.op (some 86) (.mov (.tmp 85)) none ::
  MI.op (some 87) (.call 33 []) (some (86, true)) ::
  m11_8)
def m11_10 : List MI :=
 (MI.op (some 79) (.bin .eql (.tmp 75) (.tmp 78)) (some (72, true)) ::
  MI.op (some 80) (.pick (.tmp 72) (.tmp 79) (.c (.bool false))) none ::
  MI.op (some 81) (.mov (.tmp 80)) none ::
  MI.op (some 82) (.mov (.tmp 7)) (some (81, true)) ::
  MI.op (some 83) (.mov (.tmp 0)) (some (81, true)) ::
  MI.op (some 84) (.call 41 [(.tmp 82), (.tmp 83)]) (some (81, true)) ::
  m11_9)
def m11_11 : List MI :=
 (MI.op (some 76) (.mov (.tmp 1)) (some (72, true)) ::
  MI.op (some 77) (.mov (.tmp 0)) (some (72, true)) ::
  MI.op (some 78) (.call 43 [(.tmp 76), (.tmp 77)]) (some (72, true)) ::
  m11_10)
def m11_12 : List MI :=
 (MI.op (some 66) (.pick (.tmp 62) (.tmp 65) (.c (.bool false))) none ::
  MI.op (some 67) (.mov (.tmp 66)) none ::
  MI.op (some 68) (.mov (.tmp 13)) (some (67, true)) ::
  MI.op (some 69) (.mov (.tmp 15)) (some (67, true)) ::
  MI.op (some 70) (.bin .eql (.tmp 68) (.tmp 69)) (some (67, true)) ::
  MI.op (some 71) (.pick (.tmp 67) (.tmp 70) (.c (.bool false))) none ::
  MI.op (some 72) (.mov (.tmp 71)) none ::
  MI.op (some 73) (.mov (.tmp 1)) (some (72, true)) ::
  MI.op (some 74) (.mov (.tmp 7)) (some (72, true)) ::
  MI.op (some 75) (.call 42 [(.tmp 73), (.tmp 74)]) (some (72, true)) ::
  m11_11)
def m11_13 : List MI :=
 (MI.op (some 51) (.binB .eql (.tmp 48) (.tmp 50)) none ::
  MI.op (some 52) (.mov (.tmp 51)) none ::
  MI.op (some 53) (.load true 32 (.tmp 8)) (some (52, true)) ::
  MI.op (some 54) (.load true 32 (.tmp 10)) (some (52, true)) ::
  MI.op (some 55) (.eqv false [(32, .i)] (.tmp 53) (.tmp 54)) (some (52, true)) ::
  MI.op (some 56) (.pick (.tmp 52) (.tmp 55) (.c (.bool false))) none ::
  MI.op (some 57) (.mov (.tmp 56)) none ::
  MI.op (some 58) (.mov (.tmp 9)) (some (57, true)) ::
  MI.op (some 59) (.mov (.tmp 11)) (some (57, true)) ::
  MI.op (some 60) (.bin .eql (.tmp 58) (.tmp 59)) (some (57, true)) ::
  MI.op (some 61) (.pick (.tmp 57) (.tmp 60) (.c (.bool false))) none ::
  MI.op (some 62) (.mov (.tmp 61)) none ::
  MI.op (some 63) (.mov (.tmp 12)) (some (62, true)) ::
  MI.op (some 64) (.mov (.tmp 14)) (some (62, true)) ::
  MI.op (some 65) (.call 41 [(.tmp 63), (.tmp 64)]) (some (62, true)) ::
  m11_12)
def m11_14 : List MI :=
 (MI.op (some 49) (.mov (.tmp 0)) none ::
  MI.op (some 50) (.call 40 [(.tmp 49)]) none ::
  m11_13)
def m11_15 : MCode :=
 (.seq
  (.reg
   (MI.op (some 47) (.mov (.tmp 7)) none ::
    MI.op (some 48) (.call 39 [(.tmp 47)]) none ::
    m11_14))
  .ret)
def m11_16 : MCode :=
 (.seq
  (.reg
   (MI.op (some 43) (.load true 32 (.tmp 5)) none ::
    MI.op (some 44) (.call 38 [(.tmp 43)]) none ::
    m11_7))
  m11_15)
def m11_17 : MCode :=
 (.seq
  (.reg
   (MI.op (some 38) (.load true 32 (.tmp 5)) none ::
    MI.op (some 39) (.call 37 [(.tmp 38)]) none ::
    m11_6))
  m11_16)
def m11_18 : MCode :=
 (.seq
  (.reg
   (MI.op (some 33) (.mov (.tmp 0)) none ::
    MI.op (some 34) (.call 36 [(.tmp 33)]) none ::
    m11_5))
  m11_17)
def m11_19 : MCode :=
 (.seq
  (.reg
   (MI.op (some 28) (.mov (.tmp 7)) none ::
    MI.op (some 29) (.call 35 [(.tmp 28)]) none ::
    m11_4))
  m11_18)
def m11_20 : MCode :=
 (.seq
  (.reg
   [MI.op (some 25) (.mov (.tmp 0)) none,
    MI.op (some 26) (.call 34 [(.tmp 25)]) none,
    MI.op (some 7) (.mov (.tmp 26)) none])
  m11_19)
def m11_21 : MCode :=
 (.seq
  (.seq
   (.reg
    (MI.op (some 16) (.mov (.tmp 0)) none ::
     MI.op (some 17) (.call 32 [(.tmp 16)]) none ::
     m11_1))
  m11_3)
  m11_20)
def m11_r : List MRes := [.tmp 6]
def m11_b : MCode :=
 (.seq
  (.reg
   [MI.op (some 5) (.box (.tmp 2)) none,
    MI.op (some 6) (.mov (.c (.bool false))) none])
  m11_21)
def m11 : MFunc := ⟨3, 89, m11_r, m11_b⟩
theorem c11 : compF Tryd.prog 11 m11 = some m11 := by kernel_rfl

/- tollhouse/tollhouselaw12.TableBack -/
def m12_1 : List MI :=
 [MI.op (some 23) (.un .not (.tmp 22)) (some (20, false)),
  MI.op (some 24) (.pick (.tmp 20) (.c (.bool true)) (.tmp 23)) none]
def m12_2 : List MI :=
 (MI.op (some 19) (.un .not (.tmp 18)) none ::
  MI.op (some 20) (.mov (.tmp 19)) none ::
  MI.op (some 21) (.mov (.tmp 1)) (some (20, false)) ::
  MI.op (some 22) (.call 32 [(.tmp 21)]) (some (20, false)) ::
  m12_1)
def m12_3 : MCode :=
 (.seq
  (.reg
   [MI.op (some 25) (.call 33 []) none,
    MI.op (some 6) (.mov (.tmp 25)) none])
  .ret)
def m12_4 : MCode :=
 (.cond (.tmp 24)
  m12_3
  .skip)
def m12_5 : List MI :=
 [MI.op (some 26) (.mov (.tmp 28)) none,
  MI.op (some 29) (.ext (.tmp 26) 0) none,
  MI.op (some 30) (.ext (.tmp 26) 1) none,
  MI.op (some 7) (.alloc (List.replicate 32 (.int .u8 0))) none,
  MI.op none (.store 32 (.tmp 7) (.tmp 29)) none,
  MI.op (some 8) (.mov (.tmp 30)) none]
def m12_6 : List MI :=
 [MI.op (some 31) (.mov (.tmp 33)) none,
  MI.op (some 34) (.ext (.tmp 31) 0) none,
  MI.op (some 35) (.ext (.tmp 31) 1) none,
  MI.op (some 9) (.alloc (List.replicate 32 (.int .u8 0))) none,
  MI.op none (.store 32 (.tmp 9) (.tmp 34)) none,
  MI.op (some 10) (.mov (.tmp 35)) none]
def m12_7 : List MI :=
 [MI.op (some 38) (.mov (.tmp 40)) none,
  MI.op (some 41) (.ext (.tmp 38) 0) none,
  MI.op (some 42) (.ext (.tmp 38) 1) none,
  MI.op (some 11) (.mov (.tmp 41)) none,
  MI.op (some 12) (.mov (.tmp 42)) none]
def m12_8 : List MI :=
 [MI.op (some 49) (.un .not (.tmp 48)) (some (45, false)),
  MI.op (some 50) (.pick (.tmp 45) (.c (.bool true)) (.tmp 49)) none]
def m12_9 : MCode :=
 (.cond (.tmp 50)
  (.seq
   (.reg
    [MI.op (some 6) (.mov (.c (.bool false))) none])
   .ret)
  .skip)
def m12_10 : MCode :=
 (.seq
  (.reg
   (MI.op (some 43) (.mov (.tmp 12)) none ::
    MI.op (some 44) (.bin .neq (.tmp 43) (.c (.int .i64 0))) none ::
    MI.op (some 45) (.mov (.tmp 44)) none ::
    MI.op (some 46) (.mov (.tmp 11)) (some (45, false)) ::
    MI.op (some 47) (.mov (.tmp 0)) (some (45, false)) ::
    MI.op (some 48) (.call 41 [(.tmp 46), (.tmp 47)]) (some (45, false)) ::
    m12_8))
  m12_9)
def m12_11 : MCode :=
 (.seq
  (.reg
   (MI.op (some 39) (.load true 32 (.tmp 7)) none ::
    MI.op (some 40) (.call 37 [(.tmp 39)]) none ::
    m12_7))
  m12_10)
def m12_12 : MCode :=
 (.cond (.tmp 37)
  m12_11
  .skip)
def m12_13 : MCode :=
 (.cond (.tmp 65)
  (.seq
   (.reg
    [MI.op (some 6) (.mov (.c (.bool false))) none])
   .ret)
  .skip)
def m12_14 : List MI :=
 [MI.op (some 66) (.mov (.tmp 68)) none,
  MI.op (some 69) (.ext (.tmp 66) 0) none,
  MI.op (some 70) (.ext (.tmp 66) 1) none,
  MI.op (some 13) (.mov (.tmp 69)) none,
  MI.op (some 14) (.mov (.tmp 70)) none]
def m12_15 : List MI :=
 [MI.op (some 73) (.mov (.tmp 75)) none,
  MI.op (some 76) (.ext (.tmp 73) 0) none,
  MI.op (some 77) (.ext (.tmp 73) 1) none,
  MI.op (some 15) (.alloc (List.replicate 32 (.int .u8 0))) none,
  MI.op none (.store 32 (.tmp 15) (.tmp 76)) none,
  MI.op (some 16) (.mov (.tmp 77)) none]
def m12_16 : List MI :=
 [MI.op (some 88) (.un .not (.tmp 87)) (some (85, false)),
  MI.op (some 89) (.pick (.tmp 85) (.c (.bool true)) (.tmp 88)) none]
def m12_17 : MCode :=
 (.cond (.tmp 89)
  (.seq
   (.reg
    [MI.op (some 6) (.mov (.c (.bool false))) none])
   .ret)
  .skip)
def m12_18 : MCode :=
 (.seq
  (.reg
   (MI.op (some 78) (.mov (.tmp 16)) none ::
    MI.op (some 79) (.bin .neq (.tmp 78) (.c (.int .i64 0))) none ::
    MI.op (some 80) (.mov (.tmp 79)) none ::
    MI.op (some 81) (.load true 32 (.tmp 15)) (some (80, false)) ::
    MI.op (some 82) (.load true 32 (.tmp 5)) (some (80, false)) ::
    MI.op (some 83) (.eqv true [(32, .i)] (.tmp 81) (.tmp 82)) (some (80, false)) ::
    MI.op (some 84) (.pick (.tmp 80) (.c (.bool true)) (.tmp 83)) none ::
    MI.op (some 85) (.mov (.tmp 84)) none ::
    MI.op (some 86) (.mov (.tmp 13)) (some (85, false)) ::
    MI.op (some 87) (.call 39 [(.tmp 86)]) (some (85, false)) ::
    m12_16))
  m12_17)
def m12_19 : MCode :=
 (.seq
  (.reg
   (MI.op (some 74) (.mov (.tmp 13)) none ::
    MI.op (some 75) (.call 35 [(.tmp 74)]) none ::
    m12_15))
  m12_18)
def m12_20 : MCode :=
 (.cond (.tmp 72)
  m12_19
  .skip)
def m12_21 : MCode :=
 (.seq
  (.reg
   [MI.op (some 90) (.call 33 []) none,
    MI.op (some 6) (.mov (.tmp 90)) none])
  .ret)
def m12_22 : MCode :=
 (.seq
  (.seq
   (.reg
    [MI.op (some 71) (.mov (.tmp 14)) none,
     MI.op (some 72) (.bin .eql (.tmp 71) (.c (.int .i64 0))) none])
  m12_20)
  m12_21)
def m12_23 : MCode :=
 (.seq
  (.reg
   (MI.op (some 67) (.load true 32 (.tmp 5)) none ::
    MI.op (some 68) (.call 37 [(.tmp 67)]) none ::
    m12_14))
  m12_22)
def m12_24 : MCode :=
 (.seq
  (.seq
   (.drw
    [MI.op (some 51) (.mov (.tmp 8)) none,
     MI.op (some 52) (.bin .eql (.tmp 51) (.c (.int .i64 0))) none,
     MI.op (some 53) (.mov (.tmp 52)) none,
     MI.op (some 54) (.mov (.tmp 10)) (some (53, true)),
     MI.op (some 55) (.bin .eql (.tmp 54) (.c (.int .i64 0))) (some (53, true)),
     MI.op (some 56) (.pick (.tmp 53) (.tmp 55) (.c (.bool false))) none,
     MI.op (some 57) (.mov (.tmp 56)) none,
     MI.op (some 58) (.load true 32 (.tmp 7)) (some (57, true)),
     MI.op (some 59) (.load true 32 (.tmp 9)) (some (57, true)),
     MI.op (some 60) (.eqv false [(32, .i)] (.tmp 58) (.tmp 59)) (some (57, true)),
     MI.op (some 61) (.mov (.tmp 0)) (some (57, true)),
     MI.op (some 62) (.mov (.tmp 1)) (some (57, true)),
     MI.op (some 63) (.call 41 [(.tmp 61), (.tmp 62)]) (some (57, true))]
    [MI.op (some 64) (.binB .neq (.tmp 60) (.tmp 63)) (some (57, true)),
     MI.op (some 65) (.pick (.tmp 57) (.tmp 64) (.c (.bool false))) none])
  m12_13)
  m12_23)
def m12_25 : MCode :=
 (.seq
  (.seq
   (.reg
    [MI.op (some 36) (.mov (.tmp 8)) none,
     MI.op (some 37) (.bin .eql (.tmp 36) (.c (.int .i64 0))) none])
  m12_12)
  m12_24)
def m12_26 : MCode :=
 (.seq
  (.reg
   (MI.op (some 32) (.mov (.tmp 1)) none ::
    MI.op (some 33) (.call 35 [(.tmp 32)]) none ::
    m12_6))
  m12_25)
def m12_27 : MCode :=
 (.seq
  (.reg
   (MI.op (some 27) (.mov (.tmp 0)) none ::
    MI.op (some 28) (.call 35 [(.tmp 27)]) none ::
    m12_5))
  m12_26)
def m12_28 : MCode :=
 (.seq
  (.seq
   (.reg
    (MI.op (some 17) (.mov (.tmp 0)) none ::
     MI.op (some 18) (.call 32 [(.tmp 17)]) none ::
     m12_2))
  m12_4)
  m12_27)
def m12_r : List MRes := [.tmp 6]
def m12_b : MCode :=
 (.seq
  (.reg
   [MI.op (some 5) (.box (.tmp 2)) none,
    MI.op (some 6) (.mov (.c (.bool false))) none])
  m12_28)
def m12 : MFunc := ⟨3, 91, m12_r, m12_b⟩
theorem c12 : compF Tryd.prog 12 m12 = some m12 := by kernel_rfl

/- tollhouse/tollhouselaw12.TablePlaces -/
def m13_1 : MCode :=
 (.seq
  (.reg
   [MI.op (some 18) (.call 33 []) none,
    MI.op (some 4) (.mov (.tmp 18)) none])
  .ret)
def m13_2 : MCode :=
 (.cond (.tmp 17)
  m13_1
  .skip)
def m13_3 : List MI :=
 [MI.op (some 19) (.mov (.tmp 21)) none,
  MI.op (some 22) (.ext (.tmp 19) 0) none,
  MI.op (some 23) (.ext (.tmp 19) 1) none,
  MI.op (some 5) (.alloc (List.replicate 32 (.int .u8 0))) none,
  MI.op none (.store 32 (.tmp 5) (.tmp 22)) none,
  MI.op (some 6) (.mov (.tmp 23)) none]
def m13_4 : MCode :=
 (.cond (.tmp 33)
  (.seq
   (.reg
    [MI.op (some 4) (.mov (.c (.bool false))) none])
   .ret)
  .skip)
def m13_5 : MCode :=
 (.cond (.tmp 54)
  (.seq
   (.reg
    [MI.op (some 4) (.mov (.c (.bool false))) none])
   .ret)
  .skip)
def m13_6 : MCode :=
 (.seq
  (.blk 3
   (.seq
    (.reg
     [MI.op (some 49) (.mov (.tmp 8)) none,
      MI.op (some 50) (.mov (.tmp 9)) none,
      MI.op (some 51) (.bin .add (.tmp 49) (.tmp 50)) none,
      MI.op (some 52) (.ixArr 32 1 (.tmp 5) (.tmp 51)) none,
      MI.op (some 53) (.load false 1 (.tmp 52)) none,
      MI.op (some 54) (.bin .neq (.tmp 53) (.c (.int .u8 0))) none])
  m13_5))
  (.reg
   [MI.op (some 47) (.mov (.tmp 9)) none,
    MI.op (some 48) (.bin .add (.tmp 47) (.c (.int .i64 1))) none,
    MI.op (some 9) (.mov (.tmp 48)) none]))
def m13_7 : MCode :=
 (.seq
  (.seq
   (.reg
    [MI.op (some 45) (.mov (.tmp 9)) none,
     MI.op (some 46) (.bin .lss (.tmp 45) (.c (.int .i64 9))) none])
   (.cond (.tmp 46)
    .skip
    (.exit 2)))
  m13_6)
def m13_8 : MCode :=
 (.blk 2
  (.loop
  m13_7))
def m13_9 : MCode :=
 (.seq
  (.seq
   (.reg
    [MI.op (some 9) (.mov (.c (.int .i64 0))) none])
  m13_8)
  (.exit 1))
def m13_10 : MCode :=
 (.cond (.tmp 44)
  m13_9
  .skip)
def m13_11 : MCode :=
 (.reg
  [MI.op (some 67) (.mov (.tmp 0)) none,
   MI.op (some 68) (.mov (.tmp 7)) none,
   MI.op (some 69) (.ixSl 2 (.tmp 67) (.tmp 68)) none,
   MI.op (some 70) (.fa 0 (.tmp 69)) none,
   MI.op (some 71) (.load false 1 (.tmp 70)) none,
   MI.op (some 72) (.mov (.tmp 10)) none,
   MI.op (some 73) (.idxStr (.tmp 71) (.tmp 72)) none,
   MI.op (some 11) (.mov (.tmp 73)) none])
def m13_12 : MCode :=
 (.cond (.tmp 66)
  m13_11
  .skip)
def m13_13 : MCode :=
 (.reg
  [MI.op (some 82) (.mov (.tmp 0)) none,
   MI.op (some 83) (.mov (.tmp 7)) none,
   MI.op (some 84) (.ixSl 2 (.tmp 82) (.tmp 83)) none,
   MI.op (some 85) (.fa 1 (.tmp 84)) none,
   MI.op (some 86) (.load false 1 (.tmp 85)) none,
   MI.op (some 87) (.mov (.tmp 10)) none,
   MI.op (some 88) (.ixSl 1 (.tmp 86) (.tmp 87)) none,
   MI.op (some 89) (.load false 1 (.tmp 88)) none,
   MI.op (some 90) (.toInt .u8 (.tmp 89)) none,
   MI.op (some 12) (.mov (.tmp 90)) none])
def m13_14 : MCode :=
 (.cond (.tmp 81)
  m13_13
  .skip)
def m13_15 : MCode :=
 (.cond (.tmp 107)
  (.seq
   (.reg
    [MI.op (some 4) (.mov (.c (.bool false))) none])
   .ret)
  .skip)
def m13_16 : MCode :=
 (.seq
  (.reg
   [MI.op (some 91) (.mov (.tmp 8)) none,
    MI.op (some 92) (.mov (.tmp 10)) none,
    MI.op (some 93) (.bin .add (.tmp 91) (.tmp 92)) none,
    MI.op (some 94) (.ixArr 32 1 (.tmp 5) (.tmp 93)) none,
    MI.op (some 95) (.load false 1 (.tmp 94)) none,
    MI.op (some 96) (.mov (.tmp 11)) none,
    MI.op (some 97) (.bin .neq (.tmp 95) (.tmp 96)) none,
    MI.op (some 98) (.mov (.tmp 97)) none,
    MI.op (some 99) (.mov (.tmp 8)) (some (98, false)),
    MI.op (some 100) (.bin .add (.tmp 99) (.c (.int .i64 5))) (some (98, false)),
    MI.op (some 101) (.mov (.tmp 10)) (some (98, false)),
    MI.op (some 102) (.bin .add (.tmp 100) (.tmp 101)) (some (98, false)),
    MI.op (some 103) (.ixArr 32 1 (.tmp 5) (.tmp 102)) (some (98, false)),
    MI.op (some 104) (.load false 1 (.tmp 103)) (some (98, false)),
    MI.op (some 105) (.mov (.tmp 12)) (some (98, false)),
    MI.op (some 106) (.bin .neq (.tmp 104) (.tmp 105)) (some (98, false)),
    MI.op (some 107) (.pick (.tmp 98) (.c (.bool true)) (.tmp 106)) none])
  m13_15)
def m13_17 : MCode :=
 (.seq
  (.seq
   (.reg
    [MI.op (some 74) (.mov (.tmp 10)) none,
     MI.op (some 75) (.mov (.tmp 0)) none,
     MI.op (some 76) (.mov (.tmp 7)) none,
     MI.op (some 77) (.ixSl 2 (.tmp 75) (.tmp 76)) none,
     MI.op (some 78) (.fa 1 (.tmp 77)) none,
     MI.op (some 79) (.load false 1 (.tmp 78)) none,
     MI.op (some 80) (.len (.tmp 79)) none,
     MI.op (some 81) (.bin .lss (.tmp 74) (.tmp 80)) none])
  m13_14)
  m13_16)
def m13_18 : MCode :=
 (.seq
  (.seq
   (.reg
    [MI.op (some 59) (.mov (.tmp 10)) none,
     MI.op (some 60) (.mov (.tmp 0)) none,
     MI.op (some 61) (.mov (.tmp 7)) none,
     MI.op (some 62) (.ixSl 2 (.tmp 60) (.tmp 61)) none,
     MI.op (some 63) (.fa 0 (.tmp 62)) none,
     MI.op (some 64) (.load false 1 (.tmp 63)) none,
     MI.op (some 65) (.lenS (.tmp 64)) none,
     MI.op (some 66) (.bin .lss (.tmp 59) (.tmp 65)) none])
  m13_12)
  m13_17)
def m13_19 : MCode :=
 (.seq
  (.blk 5
   (.seq
    (.reg
     [MI.op (some 11) (.mov (.c (.int .u8 0))) none,
      MI.op (some 12) (.mov (.c (.int .u8 0))) none])
  m13_18))
  (.reg
   [MI.op (some 57) (.mov (.tmp 10)) none,
    MI.op (some 58) (.bin .add (.tmp 57) (.c (.int .i64 1))) none,
    MI.op (some 10) (.mov (.tmp 58)) none]))
def m13_20 : MCode :=
 (.seq
  (.seq
   (.reg
    [MI.op (some 55) (.mov (.tmp 10)) none,
     MI.op (some 56) (.bin .lss (.tmp 55) (.c (.int .i64 4))) none])
   (.cond (.tmp 56)
    .skip
    (.exit 4)))
  m13_19)
def m13_21 : MCode :=
 (.blk 4
  (.loop
  m13_20))
def m13_22 : MCode :=
 (.cond (.tmp 130)
  (.seq
   (.reg
    [MI.op (some 4) (.mov (.c (.bool false))) none])
   .ret)
  .skip)
def m13_23 : MCode :=
 (.seq
  (.drw
   [MI.op (some 108) (.mov (.tmp 8)) none,
    MI.op (some 109) (.bin .add (.tmp 108) (.c (.int .i64 4))) none,
    MI.op (some 110) (.ixArr 32 1 (.tmp 5) (.tmp 109)) none,
    MI.op (some 111) (.load false 1 (.tmp 110)) none,
    MI.op (some 112) (.toInt .i64 (.tmp 111)) none,
    MI.op (some 113) (.mov (.tmp 0)) none,
    MI.op (some 114) (.mov (.tmp 7)) none,
    MI.op (some 115) (.ixSl 2 (.tmp 113) (.tmp 114)) none,
    MI.op (some 116) (.fa 1 (.tmp 115)) none,
    MI.op (some 117) (.load false 1 (.tmp 116)) none,
    MI.op (some 118) (.len (.tmp 117)) none,
    MI.op (some 119) (.bin .neq (.tmp 112) (.tmp 118)) none,
    MI.op (some 120) (.mov (.tmp 119)) none,
    MI.op (some 121) (.mov (.tmp 0)) (some (120, false)),
    MI.op (some 122) (.mov (.tmp 7)) (some (120, false)),
    MI.op (some 123) (.ixSl 2 (.tmp 121) (.tmp 122)) (some (120, false)),
    MI.op (some 124) (.fa 0 (.tmp 123)) (some (120, false)),
    MI.op (some 125) (.load false 1 (.tmp 124)) (some (120, false)),
    MI.op (some 126) (.mov (.tmp 0)) (some (120, false)),
    MI.op (some 127) (.call 42 [(.tmp 125), (.tmp 126)]) (some (120, false)),
    MI.op (some 128) (.mov (.tmp 7)) (some (120, false))]
   [MI.op (some 129) (.bin .neq (.tmp 127) (.tmp 128)) (some (120, false)),
    MI.op (some 130) (.pick (.tmp 120) (.c (.bool true)) (.tmp 129)) none])
  m13_22)
def m13_24 : MCode :=
 (.seq
  (.seq
   (.reg
    [MI.op (some 10) (.mov (.c (.int .i64 0))) none])
  m13_21)
  m13_23)
def m13_25 : MCode :=
 (.seq
  (.seq
   (.reg
    [MI.op (some 41) (.mov (.tmp 7)) none,
     MI.op (some 42) (.mov (.tmp 0)) none,
     MI.op (some 43) (.len (.tmp 42)) none,
     MI.op (some 44) (.bin .geq (.tmp 41) (.tmp 43)) none])
  m13_10)
  m13_24)
def m13_26 : MCode :=
 (.seq
  (.blk 1
   (.seq
    (.reg
     [MI.op (some 38) (.mov (.tmp 7)) none,
      MI.op (some 39) (.bin .mul (.c (.int .i64 9)) (.tmp 38)) none,
      MI.op (some 40) (.bin .add (.c (.int .i64 1)) (.tmp 39)) none,
      MI.op (some 8) (.mov (.tmp 40)) none])
  m13_25))
  (.reg
   [MI.op (some 36) (.mov (.tmp 7)) none,
    MI.op (some 37) (.bin .add (.tmp 36) (.c (.int .i64 1))) none,
    MI.op (some 7) (.mov (.tmp 37)) none]))
def m13_27 : MCode :=
 (.seq
  (.seq
   (.reg
    [MI.op (some 34) (.mov (.tmp 7)) none,
     MI.op (some 35) (.bin .lss (.tmp 34) (.c (.int .i64 3))) none])
   (.cond (.tmp 35)
    .skip
    (.exit 0)))
  m13_26)
def m13_28 : MCode :=
 (.blk 0
  (.loop
  m13_27))
def m13_29 : List MI :=
 [MI.op (some 135) (.mov (.tmp 137)) none,
  MI.op (some 138) (.ext (.tmp 135) 0) none,
  MI.op (some 139) (.ext (.tmp 135) 1) none,
  MI.op (some 13) (.mov (.tmp 138)) none,
  MI.op (some 14) (.mov (.tmp 139)) none]
def m13_30 : List MI :=
 [MI.op (some 149) (.pick (.tmp 147) (.tmp 148) (.c (.bool false))) none,
  MI.op (some 4) (.mov (.tmp 149)) none]
def m13_31 : MCode :=
 (.seq
  (.reg
   (MI.op (some 140) (.mov (.tmp 13)) none ::
    MI.op (some 141) (.len (.tmp 140)) none ::
    MI.op (some 142) (.bin .eql (.tmp 141) (.c (.int .i64 0))) none ::
    MI.op (some 143) (.mov (.tmp 142)) none ::
    MI.op (some 144) (.mov (.tmp 14)) (some (143, true)) ::
    MI.op (some 145) (.bin .eql (.tmp 144) (.c (.int .i64 11))) (some (143, true)) ::
    MI.op (some 146) (.pick (.tmp 143) (.tmp 145) (.c (.bool false))) none ::
    MI.op (some 147) (.mov (.tmp 146)) none ::
    MI.op (some 148) (.call 33 []) (some (147, true)) ::
    m13_30))
  .ret)
def m13_32 : MCode :=
 (.seq
  (.reg
   (MI.op (some 136) (.load true 32 (.tmp 5)) none ::
    MI.op (some 137) (.call 37 [(.tmp 136)]) none ::
    m13_29))
  m13_31)
def m13_33 : MCode :=
 (.seq
  (.reg
   [MI.op (some 131) (.mov (.tmp 1)) none,
    MI.op (some 132) (.bin .rem (.tmp 131) (.c (.int .u8 4))) none,
    MI.op (some 133) (.bin .add (.c (.int .u8 28)) (.tmp 132)) none,
    MI.op (some 134) (.ixArr 32 1 (.tmp 5) (.tmp 133)) none,
    MI.op none (.store 1 (.tmp 134) (.c (.int .u8 1))) none])
  m13_32)
def m13_34 : MCode :=
 (.seq
  (.seq
   (.reg
    [MI.op (some 7) (.mov (.c (.int .i64 0))) none])
  m13_28)
  m13_33)
def m13_35 : MCode :=
 (.seq
  (.seq
   (.reg
    [MI.op (some 24) (.mov (.tmp 6)) none,
     MI.op (some 25) (.bin .neq (.tmp 24) (.c (.int .i64 0))) none,
     MI.op (some 26) (.mov (.tmp 25)) none,
     MI.op (some 27) (.ixArr 32 1 (.tmp 5) (.c (.int .i64 0))) (some (26, false)),
     MI.op (some 28) (.load false 1 (.tmp 27)) (some (26, false)),
     MI.op (some 29) (.toInt .i64 (.tmp 28)) (some (26, false)),
     MI.op (some 30) (.mov (.tmp 0)) (some (26, false)),
     MI.op (some 31) (.len (.tmp 30)) (some (26, false)),
     MI.op (some 32) (.bin .neq (.tmp 29) (.tmp 31)) (some (26, false)),
     MI.op (some 33) (.pick (.tmp 26) (.c (.bool true)) (.tmp 32)) none])
  m13_4)
  m13_34)
def m13_36 : MCode :=
 (.seq
  (.reg
   (MI.op (some 20) (.mov (.tmp 0)) none ::
    MI.op (some 21) (.call 35 [(.tmp 20)]) none ::
    m13_3))
  m13_35)
def m13_37 : MCode :=
 (.seq
  (.seq
   (.reg
    [MI.op (some 15) (.mov (.tmp 0)) none,
     MI.op (some 16) (.call 40 [(.tmp 15)]) none,
     MI.op (some 17) (.un .not (.tmp 16)) none])
  m13_2)
  m13_36)
def m13_r : List MRes := [.tmp 4]
def m13_b : MCode :=
 (.seq
  (.reg
   [MI.op (some 4) (.mov (.c (.bool false))) none])
  m13_37)
def m13 : MFunc := ⟨2, 150, m13_r, m13_b⟩
theorem c13 : compF Tryd.prog 13 m13 = some m13 := by kernel_rfl

/- tollhouse/tollhouselaw12.TableOrder -/
def m14_1 : MCode :=
 (.seq
  (.reg
   [MI.op (some 13) (.call 33 []) none,
    MI.op (some 2) (.mov (.tmp 13)) none])
  .ret)
def m14_2 : MCode :=
 (.cond (.tmp 12)
  m14_1
  .skip)
def m14_3 : MCode :=
 (.seq
  (.blk 1
   (.reg
    [MI.op (some 20) (.mov (.tmp 3)) none,
     MI.op (some 21) (.mov (.tmp 0)) none,
     MI.op (some 22) (.mov (.tmp 0)) none,
     MI.op (some 23) (.len (.tmp 22)) none,
     MI.op (some 24) (.bin .sub (.tmp 23) (.c (.int .i64 1))) none,
     MI.op (some 25) (.mov (.tmp 4)) none,
     MI.op (some 26) (.bin .sub (.tmp 24) (.tmp 25)) none,
     MI.op (some 27) (.ixSl 2 (.tmp 21) (.tmp 26)) none,
     MI.op (some 28) (.load true 2 (.tmp 27)) none,
     MI.op (some 29) (.bsl 1 2 [(.str []), (.sl .full 0 [])] [(0, 2, (.tmp 28))]) none,
     MI.op (some 30) (.app 2 40 (.tmp 20) (.tmp 29)) none,
     MI.op (some 3) (.mov (.tmp 30)) none]))
  (.reg
   [MI.op (some 18) (.mov (.tmp 4)) none,
    MI.op (some 19) (.bin .add (.tmp 18) (.c (.int .i64 1))) none,
    MI.op (some 4) (.mov (.tmp 19)) none]))
def m14_4 : MCode :=
 (.seq
  (.seq
   (.reg
    [MI.op (some 14) (.mov (.tmp 4)) none,
     MI.op (some 15) (.mov (.tmp 0)) none,
     MI.op (some 16) (.len (.tmp 15)) none,
     MI.op (some 17) (.bin .lss (.tmp 14) (.tmp 16)) none])
   (.cond (.tmp 17)
    .skip
    (.exit 0)))
  m14_3)
def m14_5 : MCode :=
 (.blk 0
  (.loop
  m14_4))
def m14_6 : List MI :=
 [MI.op (some 33) (.mov (.tmp 0)) none,
  MI.op (some 34) (.call 39 [(.tmp 33)]) none,
  MI.op (some 35) (.binB .neq (.tmp 32) (.tmp 34)) none]
def m14_7 : MCode :=
 (.cond (.tmp 35)
  (.seq
   (.reg
    [MI.op (some 2) (.mov (.c (.bool false))) none])
   .ret)
  .skip)
def m14_8 : List MI :=
 [MI.op (some 36) (.mov (.tmp 38)) none,
  MI.op (some 39) (.ext (.tmp 36) 0) none,
  MI.op (some 40) (.ext (.tmp 36) 1) none,
  MI.op (some 5) (.alloc (List.replicate 32 (.int .u8 0))) none,
  MI.op none (.store 32 (.tmp 5) (.tmp 39)) none,
  MI.op (some 6) (.mov (.tmp 40)) none]
def m14_9 : List MI :=
 [MI.op (some 41) (.mov (.tmp 43)) none,
  MI.op (some 44) (.ext (.tmp 41) 0) none,
  MI.op (some 45) (.ext (.tmp 41) 1) none,
  MI.op (some 7) (.alloc (List.replicate 32 (.int .u8 0))) none,
  MI.op none (.store 32 (.tmp 7) (.tmp 44)) none,
  MI.op (some 8) (.mov (.tmp 45)) none]
def m14_10 : MCode :=
 (.cond (.tmp 48)
  (.seq
   (.reg
    [MI.op (some 2) (.mov (.c (.bool false))) none])
   .ret)
  .skip)
def m14_11 : List MI :=
 [MI.op (some 55) (.pick (.tmp 53) (.tmp 54) (.c (.bool false))) none,
  MI.op (some 2) (.mov (.tmp 55)) none]
def m14_12 : MCode :=
 (.seq
  (.reg
   (MI.op (some 51) (.mov (.tmp 6)) none ::
    MI.op (some 52) (.bin .eql (.tmp 51) (.c (.int .i64 11))) none ::
    MI.op (some 53) (.mov (.tmp 52)) none ::
    MI.op (some 54) (.call 33 []) (some (53, true)) ::
    m14_11))
  .ret)
def m14_13 : MCode :=
 (.cond (.tmp 50)
  m14_12
  .skip)
def m14_14 : List MI :=
 [MI.op (some 79) (.mov (.tmp 0)) (some (71, false)),
  MI.op (some 80) (.len (.tmp 79)) (some (71, false)),
  MI.op (some 81) (.bin .sub (.tmp 80) (.c (.int .i64 1))) (some (71, false)),
  MI.op (some 82) (.mov (.tmp 9)) (some (71, false)),
  MI.op (some 83) (.bin .sub (.tmp 81) (.tmp 82)) (some (71, false)),
  MI.op (some 84) (.bin .neq (.tmp 78) (.tmp 83)) (some (71, false)),
  MI.op (some 85) (.pick (.tmp 71) (.c (.bool true)) (.tmp 84)) none]
def m14_15 : List MI :=
 (MI.op (some 69) (.mov (.tmp 9)) none ::
  MI.op (some 70) (.bin .neq (.tmp 68) (.tmp 69)) none ::
  MI.op (some 71) (.mov (.tmp 70)) none ::
  MI.op (some 72) (.mov (.tmp 0)) (some (71, false)) ::
  MI.op (some 73) (.mov (.tmp 9)) (some (71, false)) ::
  MI.op (some 74) (.ixSl 2 (.tmp 72) (.tmp 73)) (some (71, false)) ::
  MI.op (some 75) (.fa 0 (.tmp 74)) (some (71, false)) ::
  MI.op (some 76) (.load false 1 (.tmp 75)) (some (71, false)) ::
  MI.op (some 77) (.mov (.tmp 3)) (some (71, false)) ::
  MI.op (some 78) (.call 42 [(.tmp 76), (.tmp 77)]) (some (71, false)) ::
  m14_14)
def m14_16 : MCode :=
 (.cond (.tmp 85)
  (.seq
   (.reg
    [MI.op (some 2) (.mov (.c (.bool false))) none])
   .ret)
  .skip)
def m14_17 : MCode :=
 (.seq
  (.blk 3
   (.seq
    (.reg
     (MI.op (some 62) (.mov (.tmp 0)) none ::
      MI.op (some 63) (.mov (.tmp 9)) none ::
      MI.op (some 64) (.ixSl 2 (.tmp 62) (.tmp 63)) none ::
      MI.op (some 65) (.fa 0 (.tmp 64)) none ::
      MI.op (some 66) (.load false 1 (.tmp 65)) none ::
      MI.op (some 67) (.mov (.tmp 0)) none ::
      MI.op (some 68) (.call 42 [(.tmp 66), (.tmp 67)]) none ::
      m14_15))
  m14_16))
  (.reg
   [MI.op (some 60) (.mov (.tmp 9)) none,
    MI.op (some 61) (.bin .add (.tmp 60) (.c (.int .i64 1))) none,
    MI.op (some 9) (.mov (.tmp 61)) none]))
def m14_18 : MCode :=
 (.seq
  (.seq
   (.reg
    [MI.op (some 56) (.mov (.tmp 9)) none,
     MI.op (some 57) (.mov (.tmp 0)) none,
     MI.op (some 58) (.len (.tmp 57)) none,
     MI.op (some 59) (.bin .lss (.tmp 56) (.tmp 58)) none])
   (.cond (.tmp 59)
    .skip
    (.exit 2)))
  m14_17)
def m14_19 : MCode :=
 (.blk 2
  (.loop
  m14_18))
def m14_20 : List MI :=
 [MI.op (some 95) (.pick (.tmp 93) (.tmp 94) (.c (.bool false))) none,
  MI.op (some 2) (.mov (.tmp 95)) none]
def m14_21 : MCode :=
 (.seq
  (.reg
   (MI.op (some 86) (.load true 32 (.tmp 5)) none ::
    MI.op (some 87) (.load true 32 (.tmp 7)) none ::
    MI.op (some 88) (.eqv false [(32, .i)] (.tmp 86) (.tmp 87)) none ::
    MI.op (some 89) (.mov (.tmp 0)) none ::
    MI.op (some 90) (.len (.tmp 89)) none ::
    MI.op (some 91) (.bin .lss (.tmp 90) (.c (.int .i64 2))) none ::
    MI.op (some 92) (.binB .eql (.tmp 88) (.tmp 91)) none ::
    MI.op (some 93) (.mov (.tmp 92)) none ::
    MI.op (some 94) (.call 33 []) (some (93, true)) ::
    m14_20))
  .ret)
def m14_22 : MCode :=
 (.seq
  (.seq
   (.reg
    [MI.op (some 9) (.mov (.c (.int .i64 0))) none])
  m14_19)
  m14_21)
def m14_23 : MCode :=
 (.seq
  (.seq
   (.reg
    [MI.op (some 49) (.mov (.tmp 6)) none,
     MI.op (some 50) (.bin .neq (.tmp 49) (.c (.int .i64 0))) none])
  m14_13)
  m14_22)
def m14_24 : MCode :=
 (.seq
  (.seq
   (.reg
    [MI.op (some 46) (.mov (.tmp 6)) none,
     MI.op (some 47) (.mov (.tmp 8)) none,
     MI.op (some 48) (.bin .neq (.tmp 46) (.tmp 47)) none])
  m14_10)
  m14_23)
def m14_25 : MCode :=
 (.seq
  (.reg
   (MI.op (some 42) (.mov (.tmp 3)) none ::
    MI.op (some 43) (.call 35 [(.tmp 42)]) none ::
    m14_9))
  m14_24)
def m14_26 : MCode :=
 (.seq
  (.reg
   (MI.op (some 37) (.mov (.tmp 0)) none ::
    MI.op (some 38) (.call 35 [(.tmp 37)]) none ::
    m14_8))
  m14_25)
def m14_27 : MCode :=
 (.seq
  (.seq
   (.reg
    (MI.op (some 31) (.mov (.tmp 3)) none ::
     MI.op (some 32) (.call 39 [(.tmp 31)]) none ::
     m14_6))
  m14_7)
  m14_26)
def m14_28 : MCode :=
 (.seq
  (.seq
   (.reg
    [MI.op (some 4) (.mov (.c (.int .i64 0))) none])
  m14_5)
  m14_27)
def m14_29 : MCode :=
 (.seq
  (.reg
   [MI.op (some 3) (.mov (.c (.sl .full 0 []))) none])
  m14_28)
def m14_30 : MCode :=
 (.seq
  (.seq
   (.reg
    [MI.op (some 10) (.mov (.tmp 0)) none,
     MI.op (some 11) (.call 32 [(.tmp 10)]) none,
     MI.op (some 12) (.un .not (.tmp 11)) none])
  m14_2)
  m14_29)
def m14_r : List MRes := [.tmp 2]
def m14_b : MCode :=
 (.seq
  (.reg
   [MI.op (some 2) (.mov (.c (.bool false))) none])
  m14_30)
def m14 : MFunc := ⟨1, 96, m14_r, m14_b⟩
theorem c14 : compF Tryd.prog 14 m14 = some m14 := by kernel_rfl

end Go.Proofs.YtmblapgoimegkaaDoor
