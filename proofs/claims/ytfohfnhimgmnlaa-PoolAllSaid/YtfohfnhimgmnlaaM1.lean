/- The loaded functions as texts of the ideal machine (written by a program of ours), and that they are the loaded ones. -/
import Derived.Test.YtfohfnhimgmnlaaE23
import Derived.Test.YtfohfnhimgmnlaaProg
set_option linter.unusedVariables false
namespace Go.Proofs.Ytfohfnhimgmnlaa
open Go.RowKit

/- tollhouse/tollhouselaw11.PoolTells -/
def m3_1 : MCode :=
 (.seq
  (.reg
   [MI.op (some 13) (.call 16 []) none,
    MI.op (some 4) (.mov (.tmp 13)) none])
  .ret)
def m3_2 : MCode :=
 (.cond (.tmp 12)
  m3_1
  .skip)
def m3_3 : List MI :=
 [MI.op (some 16) (.mov (.tmp 19)) none,
  MI.op (some 20) (.ext (.tmp 16) 0) none,
  MI.op (some 21) (.ext (.tmp 16) 1) none,
  MI.op (some 6) (.mov (.tmp 20)) none,
  MI.op (some 7) (.mov (.tmp 21)) none]
def m3_4 : List MI :=
 [MI.op (some 22) (.mov (.tmp 25)) none,
  MI.op (some 26) (.ext (.tmp 22) 0) none,
  MI.op (some 27) (.ext (.tmp 22) 1) none,
  MI.op (some 8) (.mov (.tmp 26)) none,
  MI.op (some 9) (.mov (.tmp 27)) none]
def m3_5 : List MI :=
 [MI.op (some 57) (.pick (.tmp 55) (.tmp 56) (.c (.bool false))) none,
  MI.op (some 4) (.mov (.tmp 57)) none]
def m3_6 : List MI :=
 (MI.op (some 54) (.pick (.tmp 50) (.tmp 53) (.c (.bool false))) none ::
  MI.op (some 55) (.mov (.tmp 54)) none ::
  MI.op (some 56) (.call 16 []) (some (55, true)) ::
  m3_5)
def m3_7 : List MI :=
 (MI.op (some 44) (.pick (.tmp 40) (.tmp 43) (.c (.bool false))) none ::
  MI.op (some 45) (.mov (.tmp 44)) none ::
  MI.op (some 46) (.mov (.tmp 7)) (some (45, true)) ::
  MI.op (some 47) (.mov (.tmp 9)) (some (45, true)) ::
  MI.op (some 48) (.bin .eql (.tmp 46) (.tmp 47)) (some (45, true)) ::
  MI.op (some 49) (.pick (.tmp 45) (.tmp 48) (.c (.bool false))) none ::
  MI.op (some 50) (.mov (.tmp 49)) none ::
  MI.op (some 51) (.mov (.tmp 5)) (some (50, true)) ::
  MI.op (some 52) (.mov (.tmp 0)) (some (50, true)) ::
  MI.op (some 53) (.call 25 [(.tmp 51), (.tmp 52)]) (some (50, true)) ::
  m3_6)
def m3_8 : List MI :=
 (MI.op (some 38) (.bin .eql (.tmp 35) (.tmp 37)) (some (33, true)) ::
  MI.op (some 39) (.pick (.tmp 33) (.tmp 38) (.c (.bool false))) none ::
  MI.op (some 40) (.mov (.tmp 39)) none ::
  MI.op (some 41) (.mov (.tmp 6)) (some (40, true)) ::
  MI.op (some 42) (.mov (.tmp 8)) (some (40, true)) ::
  MI.op (some 43) (.call 24 [(.tmp 41), (.tmp 42)]) (some (40, true)) ::
  m3_7)
def m3_9 : List MI :=
 (MI.op (some 36) (.mov (.tmp 0)) (some (33, true)) ::
  MI.op (some 37) (.call 23 [(.tmp 36)]) (some (33, true)) ::
  m3_8)
def m3_10 : List MI :=
 (MI.op (some 32) (.bin .eql (.tmp 29) (.tmp 31)) none ::
  MI.op (some 33) (.mov (.tmp 32)) none ::
  MI.op (some 34) (.mov (.tmp 5)) (some (33, true)) ::
  MI.op (some 35) (.call 22 [(.tmp 34)]) (some (33, true)) ::
  m3_9)
def m3_11 : List MI :=
 (MI.op (some 30) (.mov (.tmp 0)) none ::
  MI.op (some 31) (.call 21 [(.tmp 30)]) none ::
  m3_10)
def m3_12 : MCode :=
 (.seq
  (.reg
   (MI.op (some 28) (.mov (.tmp 5)) none ::
    MI.op (some 29) (.call 20 [(.tmp 28)]) none ::
    m3_11))
  .ret)
def m3_13 : MCode :=
 (.seq
  (.reg
   (MI.op (some 23) (.mov (.tmp 1)) none ::
    MI.op (some 24) (.mov (.tmp 0)) none ::
    MI.op (some 25) (.call 19 [(.tmp 23), (.tmp 24)]) none ::
    m3_4))
  m3_12)
def m3_14 : MCode :=
 (.seq
  (.reg
   (MI.op (some 17) (.mov (.tmp 1)) none ::
    MI.op (some 18) (.mov (.tmp 5)) none ::
    MI.op (some 19) (.call 18 [(.tmp 17), (.tmp 18)]) none ::
    m3_3))
  m3_13)
def m3_15 : MCode :=
 (.seq
  (.reg
   [MI.op (some 14) (.mov (.tmp 0)) none,
    MI.op (some 15) (.call 17 [(.tmp 14)]) none,
    MI.op (some 5) (.mov (.tmp 15)) none])
  m3_14)
def m3_16 : MCode :=
 (.seq
  (.seq
   (.reg
    [MI.op (some 10) (.mov (.tmp 0)) none,
     MI.op (some 11) (.call 15 [(.tmp 10)]) none,
     MI.op (some 12) (.un .not (.tmp 11)) none])
  m3_2)
  m3_15)
def m3_r : List MRes := [.tmp 4]
def m3_b : MCode :=
 (.seq
  (.reg
   [MI.op (some 4) (.mov (.c (.bool false))) none])
  m3_16)
def m3 : MFunc := ⟨2, 58, m3_r, m3_b⟩
theorem c3 : compF Try.prog 3 m3 = some m3 := by kernel_rfl

/- tollhouse/tollhouselaw11.PoolApart -/
def m4_1 : MCode :=
 (.seq
  (.reg
   [MI.op (some 16) (.call 16 []) none,
    MI.op (some 4) (.mov (.tmp 16)) none])
  .ret)
def m4_2 : MCode :=
 (.cond (.tmp 15)
  m4_1
  .skip)
def m4_3 : List MI :=
 [MI.op (some 23) (.mov (.tmp 26)) none,
  MI.op (some 27) (.ext (.tmp 23) 0) none,
  MI.op (some 28) (.ext (.tmp 23) 1) none,
  MI.op (some 7) (.mov (.tmp 27)) none,
  MI.op (some 8) (.mov (.tmp 28)) none]
def m4_4 : List MI :=
 [MI.op (some 45) (.pick (.tmp 43) (.tmp 44) (.c (.bool false))) none,
  MI.op (some 4) (.mov (.tmp 45)) none]
def m4_5 : MCode :=
 (.seq
  (.reg
   (MI.op (some 31) (.mov (.tmp 8)) none ::
    MI.op (some 32) (.bin .eql (.tmp 31) (.c (.int .i64 18))) none ::
    MI.op (some 33) (.mov (.tmp 32)) none ::
    MI.op (some 34) (.mov (.tmp 6)) (some (33, true)) ::
    MI.op (some 35) (.mov (.tmp 5)) (some (33, true)) ::
    MI.op (some 36) (.bin .lss (.tmp 34) (.tmp 35)) (some (33, true)) ::
    MI.op (some 37) (.pick (.tmp 33) (.tmp 36) (.c (.bool false))) none ::
    MI.op (some 38) (.mov (.tmp 37)) none ::
    MI.op (some 39) (.mov (.tmp 7)) (some (38, true)) ::
    MI.op (some 40) (.len (.tmp 39)) (some (38, true)) ::
    MI.op (some 41) (.bin .eql (.tmp 40) (.c (.int .i64 0))) (some (38, true)) ::
    MI.op (some 42) (.pick (.tmp 38) (.tmp 41) (.c (.bool false))) none ::
    MI.op (some 43) (.mov (.tmp 42)) none ::
    MI.op (some 44) (.call 16 []) (some (43, true)) ::
    m4_4))
  .ret)
def m4_6 : MCode :=
 (.cond (.tmp 30)
  m4_5
  .skip)
def m4_7 : MCode :=
 (.cond (.tmp 56)
  (.seq
   (.reg
    [MI.op (some 4) (.mov (.c (.bool false))) none])
   .ret)
  .skip)
def m4_8 : MCode :=
 (.cond (.tmp 77)
  (.seq
   (.reg
    [MI.op (some 4) (.mov (.c (.bool false))) none])
   .ret)
  .skip)
def m4_9 : MCode :=
 (.seq
  (.seq
   (.reg
    [MI.op (some 72) (.mov (.tmp 7)) none,
     MI.op (some 73) (.mov (.tmp 10)) none,
     MI.op (some 74) (.ixSl 1 (.tmp 72) (.tmp 73)) none,
     MI.op (some 75) (.load false 1 (.tmp 74)) none,
     MI.op (some 76) (.mov (.tmp 11)) none,
     MI.op (some 77) (.bin .neq (.tmp 75) (.tmp 76)) none])
  m4_8)
  (.reg
   [MI.op (some 78) (.mov (.tmp 10)) none,
    MI.op (some 79) (.bin .add (.tmp 78) (.c (.int .i64 1))) none,
    MI.op (some 10) (.mov (.tmp 79)) none]))
def m4_10 : MCode :=
 (.cond (.tmp 71)
  m4_9
  .skip)
def m4_11 : MCode :=
 (.seq
  (.blk 1
   (.seq
    (.reg
     [MI.op (some 66) (.mov (.tmp 9)) none,
      MI.op (some 67) (.mov (.tmp 11)) none,
      MI.op (some 68) (.toInt .u64 (.tmp 67)) none,
      MI.op (some 69) (.bin .shr (.tmp 66) (.tmp 68)) none,
      MI.op (some 70) (.bin .and (.tmp 69) (.c (.int .u16 1))) none,
      MI.op (some 71) (.bin .eql (.tmp 70) (.c (.int .u16 0))) none])
  m4_10))
  (.reg
   [MI.op (some 64) (.mov (.tmp 11)) none,
    MI.op (some 65) (.bin .add (.tmp 64) (.c (.int .i64 1))) none,
    MI.op (some 11) (.mov (.tmp 65)) none]))
def m4_12 : MCode :=
 (.seq
  (.seq
   (.reg
    [MI.op (some 57) (.mov (.tmp 11)) none,
     MI.op (some 58) (.bin .lss (.tmp 57) (.c (.int .i64 12))) none,
     MI.op (some 59) (.mov (.tmp 58)) none,
     MI.op (some 60) (.mov (.tmp 10)) (some (59, true)),
     MI.op (some 61) (.mov (.tmp 5)) (some (59, true)),
     MI.op (some 62) (.bin .lss (.tmp 60) (.tmp 61)) (some (59, true)),
     MI.op (some 63) (.pick (.tmp 59) (.tmp 62) (.c (.bool false))) none])
   (.cond (.tmp 63)
    .skip
    (.exit 0)))
  m4_11)
def m4_13 : MCode :=
 (.blk 0
  (.loop
  m4_12))
def m4_14 : List MI :=
 [MI.op (some 108) (.pick (.tmp 106) (.tmp 107) (.c (.bool false))) none,
  MI.op (some 4) (.mov (.tmp 108)) none]
def m4_15 : List MI :=
 (MI.op (some 101) (.mov (.tmp 9)) (some (98, true)) ::
  MI.op (some 102) (.bin .and (.tmp 100) (.tmp 101)) (some (98, true)) ::
  MI.op (some 103) (.mov (.tmp 9)) (some (98, true)) ::
  MI.op (some 104) (.bin .eql (.tmp 102) (.tmp 103)) (some (98, true)) ::
  MI.op (some 105) (.pick (.tmp 98) (.tmp 104) (.c (.bool false))) none ::
  MI.op (some 106) (.mov (.tmp 105)) none ::
  MI.op (some 107) (.call 16 []) (some (106, true)) ::
  m4_14)
def m4_16 : List MI :=
 (MI.op (some 93) (.mov (.tmp 6)) (some (90, true)) ::
  MI.op (some 94) (.mov (.tmp 5)) (some (90, true)) ::
  MI.op (some 95) (.bin .sub (.tmp 93) (.tmp 94)) (some (90, true)) ::
  MI.op (some 96) (.bin .eql (.tmp 92) (.tmp 95)) (some (90, true)) ::
  MI.op (some 97) (.pick (.tmp 90) (.tmp 96) (.c (.bool false))) none ::
  MI.op (some 98) (.mov (.tmp 97)) none ::
  MI.op (some 99) (.mov (.tmp 12)) (some (98, true)) ::
  MI.op (some 100) (.call 20 [(.tmp 99)]) (some (98, true)) ::
  m4_15)
def m4_17 : MCode :=
 (.seq
  (.reg
   (MI.op (some 87) (.mov (.tmp 10)) none ::
    MI.op (some 88) (.mov (.tmp 5)) none ::
    MI.op (some 89) (.bin .eql (.tmp 87) (.tmp 88)) none ::
    MI.op (some 90) (.mov (.tmp 89)) none ::
    MI.op (some 91) (.mov (.tmp 12)) (some (90, true)) ::
    MI.op (some 92) (.call 22 [(.tmp 91)]) (some (90, true)) ::
    m4_16))
  .ret)
def m4_18 : MCode :=
 (.seq
  (.reg
   [MI.op (some 80) (.bsl 0 2 [(.str []), (.sl .full 0 [])] []) none,
    MI.op (some 81) (.mov (.tmp 0)) none,
    MI.op (some 82) (.app 2 40 (.tmp 80) (.tmp 81)) none,
    MI.op (some 83) (.mov (.tmp 7)) none,
    MI.frz 83,
    MI.op (some 84) (.build [(.str []), (.sl .full 0 [])] [(0, 1, (.c (.str [110, 101, 119]))), (1, 1, (.tmp 83))]) none,
    MI.op (some 85) (.bsl 1 2 [(.str []), (.sl .full 0 [])] [(0, 2, (.tmp 84))]) none,
    MI.op (some 86) (.app 2 40 (.tmp 82) (.tmp 85)) none,
    MI.op (some 12) (.mov (.tmp 86)) none])
  m4_17)
def m4_19 : MCode :=
 (.seq
  (.seq
   (.reg
    [MI.op (some 11) (.mov (.c (.int .i64 0))) none])
  m4_13)
  m4_18)
def m4_20 : MCode :=
 (.seq
  (.reg
   [MI.op (some 10) (.mov (.c (.int .i64 0))) none])
  m4_19)
def m4_21 : MCode :=
 (.seq
  (.seq
   (.reg
    [MI.op (some 48) (.mov (.tmp 7)) none,
     MI.op (some 49) (.len (.tmp 48)) none,
     MI.op (some 50) (.mov (.tmp 5)) none,
     MI.op (some 51) (.bin .neq (.tmp 49) (.tmp 50)) none,
     MI.op (some 52) (.mov (.tmp 51)) none,
     MI.op (some 53) (.mov (.tmp 6)) (some (52, false)),
     MI.op (some 54) (.mov (.tmp 5)) (some (52, false)),
     MI.op (some 55) (.bin .lss (.tmp 53) (.tmp 54)) (some (52, false)),
     MI.op (some 56) (.pick (.tmp 52) (.c (.bool true)) (.tmp 55)) none])
  m4_7)
  m4_20)
def m4_22 : MCode :=
 (.seq
  (.reg
   [MI.op (some 46) (.mov (.tmp 0)) none,
    MI.op (some 47) (.call 20 [(.tmp 46)]) none,
    MI.op (some 9) (.mov (.tmp 47)) none])
  m4_21)
def m4_23 : MCode :=
 (.seq
  (.seq
   (.reg
    [MI.op (some 29) (.mov (.tmp 8)) none,
     MI.op (some 30) (.bin .neq (.tmp 29) (.c (.int .i64 0))) none])
  m4_6)
  m4_22)
def m4_24 : MCode :=
 (.seq
  (.reg
   (MI.op (some 24) (.mov (.tmp 5)) none ::
    MI.op (some 25) (.mov (.tmp 0)) none ::
    MI.op (some 26) (.call 18 [(.tmp 24), (.tmp 25)]) none ::
    m4_3))
  m4_23)
def m4_25 : MCode :=
 (.seq
  (.reg
   [MI.op (some 21) (.mov (.tmp 0)) none,
    MI.op (some 22) (.call 22 [(.tmp 21)]) none,
    MI.op (some 6) (.mov (.tmp 22)) none])
  m4_24)
def m4_26 : MCode :=
 (.seq
  (.reg
   [MI.op (some 17) (.mov (.tmp 1)) none,
    MI.op (some 18) (.toInt .i64 (.tmp 17)) none,
    MI.op (some 19) (.bin .rem (.tmp 18) (.c (.int .i64 4))) none,
    MI.op (some 20) (.bin .add (.c (.int .i64 1)) (.tmp 19)) none,
    MI.op (some 5) (.mov (.tmp 20)) none])
  m4_25)
def m4_27 : MCode :=
 (.seq
  (.seq
   (.reg
    [MI.op (some 13) (.mov (.tmp 0)) none,
     MI.op (some 14) (.call 15 [(.tmp 13)]) none,
     MI.op (some 15) (.un .not (.tmp 14)) none])
  m4_2)
  m4_26)
def m4_r : List MRes := [.tmp 4]
def m4_b : MCode :=
 (.seq
  (.reg
   [MI.op (some 4) (.mov (.c (.bool false))) none])
  m4_27)
def m4 : MFunc := ⟨2, 109, m4_r, m4_b⟩
theorem c4 : compF Try.prog 4 m4 = some m4 := by kernel_rfl

/- tollhouse/tollhouselaw11.PoolAll -/
def m5_1 : MCode :=
 (.seq
  (.reg
   [MI.op (some 13) (.call 16 []) none,
    MI.op (some 2) (.mov (.tmp 13)) none])
  .ret)
def m5_2 : MCode :=
 (.cond (.tmp 12)
  m5_1
  .skip)
def m5_3 : List MI :=
 [MI.op (some 27) (.mov (.tmp 30)) none,
  MI.op (some 31) (.ext (.tmp 27) 0) none,
  MI.op (some 32) (.ext (.tmp 27) 1) none,
  MI.op (some 7) (.mov (.tmp 31)) none,
  MI.op (some 8) (.mov (.tmp 32)) none]
def m5_4 : MCode :=
 (.cond (.tmp 43)
  (.seq
   (.reg
    [MI.op (some 2) (.mov (.c (.bool false))) none])
   .ret)
  .skip)
def m5_5 : MCode :=
 (.seq
  (.seq
   (.reg
    [MI.op (some 37) (.mov (.tmp 8)) none,
     MI.op (some 38) (.bin .neq (.tmp 37) (.c (.int .i64 18))) none,
     MI.op (some 39) (.mov (.tmp 38)) none,
     MI.op (some 40) (.mov (.tmp 7)) (some (39, false)),
     MI.op (some 41) (.len (.tmp 40)) (some (39, false)),
     MI.op (some 42) (.bin .neq (.tmp 41) (.c (.int .i64 0))) (some (39, false)),
     MI.op (some 43) (.pick (.tmp 39) (.c (.bool true)) (.tmp 42)) none])
  m5_4)
  (.exit 1))
def m5_6 : MCode :=
 (.cond (.tmp 36)
  m5_5
  .skip)
def m5_7 : MCode :=
 (.cond (.tmp 51)
  (.seq
   (.reg
    [MI.op (some 2) (.mov (.c (.bool false))) none])
   .ret)
  .skip)
def m5_8 : MCode :=
 (.cond (.tmp 64)
  (.seq
   (.reg
    [MI.op (some 2) (.mov (.c (.bool false))) none])
   .ret)
  .skip)
def m5_9 : MCode :=
 (.seq
  (.blk 3
   (.seq
    (.reg
     [MI.op (some 57) (.mov (.tmp 7)) none,
      MI.op (some 58) (.mov (.tmp 9)) none,
      MI.op (some 59) (.ixSl 1 (.tmp 57) (.tmp 58)) none,
      MI.op (some 60) (.load false 1 (.tmp 59)) none,
      MI.op (some 61) (.mov (.tmp 4)) none,
      MI.op (some 62) (.mov (.tmp 9)) none,
      MI.op (some 63) (.bin .add (.tmp 61) (.tmp 62)) none,
      MI.op (some 64) (.bin .neq (.tmp 60) (.tmp 63)) none])
  m5_8))
  (.reg
   [MI.op (some 55) (.mov (.tmp 9)) none,
    MI.op (some 56) (.bin .add (.tmp 55) (.c (.int .i64 1))) none,
    MI.op (some 9) (.mov (.tmp 56)) none]))
def m5_10 : MCode :=
 (.seq
  (.seq
   (.reg
    [MI.op (some 52) (.mov (.tmp 9)) none,
     MI.op (some 53) (.mov (.tmp 6)) none,
     MI.op (some 54) (.bin .lss (.tmp 52) (.tmp 53)) none])
   (.cond (.tmp 54)
    .skip
    (.exit 2)))
  m5_9)
def m5_11 : MCode :=
 (.blk 2
  (.loop
  m5_10))
def m5_12 : List MI :=
 [MI.op (some 81) (.mov (.tmp 4)) (some (78, false)),
  MI.op (some 82) (.toInt .u64 (.tmp 81)) (some (78, false)),
  MI.op (some 83) (.bin .shl (.c (.int .u16 1)) (.tmp 82)) (some (78, false)),
  MI.op (some 84) (.bin .sub (.tmp 83) (.c (.int .u16 1))) (some (78, false)),
  MI.op (some 85) (.bin .neq (.tmp 80) (.tmp 84)) (some (78, false)),
  MI.op (some 86) (.pick (.tmp 78) (.c (.bool true)) (.tmp 85)) none]
def m5_13 : List MI :=
 (MI.op (some 75) (.mov (.tmp 4)) none ::
  MI.op (some 76) (.bin .sub (.c (.int .i64 12)) (.tmp 75)) none ::
  MI.op (some 77) (.bin .neq (.tmp 74) (.tmp 76)) none ::
  MI.op (some 78) (.mov (.tmp 77)) none ::
  MI.op (some 79) (.mov (.tmp 3)) (some (78, false)) ::
  MI.op (some 80) (.call 20 [(.tmp 79)]) (some (78, false)) ::
  m5_12)
def m5_14 : MCode :=
 (.cond (.tmp 86)
  (.seq
   (.reg
    [MI.op (some 2) (.mov (.c (.bool false))) none])
   .ret)
  .skip)
def m5_15 : MCode :=
 (.seq
  (.reg
   (MI.op (some 73) (.mov (.tmp 3)) none ::
    MI.op (some 74) (.call 22 [(.tmp 73)]) none ::
    m5_13))
  m5_14)
def m5_16 : MCode :=
 (.seq
  (.reg
   [MI.op (some 68) (.mov (.tmp 3)) none,
    MI.op (some 69) (.mov (.tmp 7)) none,
    MI.frz 69,
    MI.op (some 70) (.build [(.str []), (.sl .full 0 [])] [(0, 1, (.c (.str [97]))), (1, 1, (.tmp 69))]) none,
    MI.op (some 71) (.bsl 1 2 [(.str []), (.sl .full 0 [])] [(0, 2, (.tmp 70))]) none,
    MI.op (some 72) (.app 2 40 (.tmp 68) (.tmp 71)) none,
    MI.op (some 3) (.mov (.tmp 72)) none])
  m5_15)
def m5_17 : MCode :=
 (.seq
  (.reg
   [MI.op (some 65) (.mov (.tmp 4)) none,
    MI.op (some 66) (.mov (.tmp 6)) none,
    MI.op (some 67) (.bin .add (.tmp 65) (.tmp 66)) none,
    MI.op (some 4) (.mov (.tmp 67)) none])
  m5_16)
def m5_18 : MCode :=
 (.seq
  (.seq
   (.reg
    [MI.op (some 9) (.mov (.c (.int .i64 0))) none])
  m5_11)
  m5_17)
def m5_19 : MCode :=
 (.seq
  (.seq
   (.reg
    [MI.op (some 44) (.mov (.tmp 8)) none,
     MI.op (some 45) (.bin .neq (.tmp 44) (.c (.int .i64 0))) none,
     MI.op (some 46) (.mov (.tmp 45)) none,
     MI.op (some 47) (.mov (.tmp 7)) (some (46, false)),
     MI.op (some 48) (.len (.tmp 47)) (some (46, false)),
     MI.op (some 49) (.mov (.tmp 6)) (some (46, false)),
     MI.op (some 50) (.bin .neq (.tmp 48) (.tmp 49)) (some (46, false)),
     MI.op (some 51) (.pick (.tmp 46) (.c (.bool true)) (.tmp 50)) none])
  m5_7)
  m5_18)
def m5_20 : MCode :=
 (.seq
  (.seq
   (.reg
    [MI.op (some 33) (.mov (.tmp 6)) none,
     MI.op (some 34) (.mov (.tmp 4)) none,
     MI.op (some 35) (.bin .sub (.c (.int .i64 12)) (.tmp 34)) none,
     MI.op (some 36) (.bin .gtr (.tmp 33) (.tmp 35)) none])
  m5_6)
  m5_19)
def m5_21 : MCode :=
 (.seq
  (.reg
   (MI.op (some 28) (.mov (.tmp 6)) none ::
    MI.op (some 29) (.mov (.tmp 3)) none ::
    MI.op (some 30) (.call 18 [(.tmp 28), (.tmp 29)]) none ::
    m5_3))
  m5_20)
def m5_22 : MCode :=
 (.seq
  (.blk 1
   (.seq
    (.reg
     [MI.op (some 20) (.mov (.tmp 0)) none,
      MI.op (some 21) (.mov (.tmp 5)) none,
      MI.op (some 22) (.ixSl 1 (.tmp 20) (.tmp 21)) none,
      MI.op (some 23) (.load false 1 (.tmp 22)) none,
      MI.op (some 24) (.toInt .i64 (.tmp 23)) none,
      MI.op (some 25) (.bin .rem (.tmp 24) (.c (.int .i64 4))) none,
      MI.op (some 26) (.bin .add (.c (.int .i64 1)) (.tmp 25)) none,
      MI.op (some 6) (.mov (.tmp 26)) none])
  m5_21))
  (.reg
   [MI.op (some 18) (.mov (.tmp 5)) none,
    MI.op (some 19) (.bin .add (.tmp 18) (.c (.int .i64 1))) none,
    MI.op (some 5) (.mov (.tmp 19)) none]))
def m5_23 : MCode :=
 (.seq
  (.seq
   (.reg
    [MI.op (some 14) (.mov (.tmp 5)) none,
     MI.op (some 15) (.mov (.tmp 0)) none,
     MI.op (some 16) (.len (.tmp 15)) none,
     MI.op (some 17) (.bin .lss (.tmp 14) (.tmp 16)) none])
   (.cond (.tmp 17)
    .skip
    (.exit 0)))
  m5_22)
def m5_24 : MCode :=
 (.blk 0
  (.loop
  m5_23))
def m5_25 : MCode :=
 (.seq
  (.reg
   [MI.op (some 87) (.call 16 []) none,
    MI.op (some 2) (.mov (.tmp 87)) none])
  .ret)
def m5_26 : MCode :=
 (.seq
  (.seq
   (.reg
    [MI.op (some 5) (.mov (.c (.int .i64 0))) none])
  m5_24)
  m5_25)
def m5_27 : MCode :=
 (.seq
  (.reg
   [MI.op (some 4) (.mov (.c (.int .i64 1))) none])
  m5_26)
def m5_28 : MCode :=
 (.seq
  (.reg
   [MI.op (some 3) (.mov (.c (.sl .full 0 []))) none])
  m5_27)
def m5_29 : MCode :=
 (.seq
  (.seq
   (.reg
    [MI.op (some 10) (.mov (.tmp 0)) none,
     MI.op (some 11) (.len (.tmp 10)) none,
     MI.op (some 12) (.bin .gtr (.tmp 11) (.c (.int .i64 30))) none])
  m5_2)
  m5_28)
def m5_r : List MRes := [.tmp 2]
def m5_b : MCode :=
 (.seq
  (.reg
   [MI.op (some 2) (.mov (.c (.bool false))) none])
  m5_29)
def m5 : MFunc := ⟨1, 88, m5_r, m5_b⟩
theorem c5 : compF Try.prog 5 m5 = some m5 := by kernel_rfl

/- tollhouse/tollhouselaw11.PoolOrder -/
def m6_1 : List MI :=
 [MI.op (some 23) (.un .not (.tmp 22)) (some (20, false)),
  MI.op (some 24) (.pick (.tmp 20) (.c (.bool true)) (.tmp 23)) none]
def m6_2 : List MI :=
 (MI.op (some 19) (.un .not (.tmp 18)) none ::
  MI.op (some 20) (.mov (.tmp 19)) none ::
  MI.op (some 21) (.mov (.tmp 1)) (some (20, false)) ::
  MI.op (some 22) (.call 15 [(.tmp 21)]) (some (20, false)) ::
  m6_1)
def m6_3 : MCode :=
 (.seq
  (.reg
   [MI.op (some 25) (.call 16 []) none,
    MI.op (some 6) (.mov (.tmp 25)) none])
  .ret)
def m6_4 : MCode :=
 (.cond (.tmp 24)
  m6_3
  .skip)
def m6_5 : List MI :=
 [MI.op (some 45) (.mov (.tmp 48)) none,
  MI.op (some 49) (.ext (.tmp 45) 0) none,
  MI.op (some 50) (.ext (.tmp 45) 1) none,
  MI.op (some 11) (.mov (.tmp 49)) none,
  MI.op (some 12) (.mov (.tmp 50)) none]
def m6_6 : List MI :=
 [MI.op (some 51) (.mov (.tmp 54)) none,
  MI.op (some 55) (.ext (.tmp 51) 0) none,
  MI.op (some 56) (.ext (.tmp 51) 1) none,
  MI.op (some 13) (.mov (.tmp 55)) none,
  MI.op (some 14) (.mov (.tmp 56)) none]
def m6_7 : List MI :=
 [MI.op (some 57) (.mov (.tmp 60)) none,
  MI.op (some 61) (.ext (.tmp 57) 0) none,
  MI.op (some 62) (.ext (.tmp 57) 1) none,
  MI.op (some 15) (.mov (.tmp 61)) none,
  MI.op (some 16) (.mov (.tmp 62)) none]
def m6_8 : List MI :=
 [MI.op (some 107) (.pick (.tmp 105) (.tmp 106) (.c (.bool false))) none,
  MI.op (some 6) (.mov (.tmp 107)) none]
def m6_9 : List MI :=
 (MI.op (some 94) (.pick (.tmp 90) (.tmp 93) (.c (.bool false))) none ::
  MI.op (some 95) (.mov (.tmp 94)) none ::
  MI.op (some 96) (.mov (.tmp 12)) (some (95, true)) ::
  MI.op (some 97) (.mov (.tmp 14)) (some (95, true)) ::
  MI.op (some 98) (.bin .eql (.tmp 96) (.tmp 97)) (some (95, true)) ::
  MI.op (some 99) (.pick (.tmp 95) (.tmp 98) (.c (.bool false))) none ::
  MI.op (some 100) (.mov (.tmp 99)) none ::
  MI.op (some 101) (.mov (.tmp 12)) (some (100, true)) ::
  MI.op (some 102) (.mov (.tmp 16)) (some (100, true)) ::
  MI.op (some 103) (.bin .eql (.tmp 101) (.tmp 102)) (some (100, true)) ::
  MI.op (some 104) (.pick (.tmp 100) (.tmp 103) (.c (.bool false))) none ::
  MI.op (some 105) (.mov (.tmp 104)) none ::
  MI.op (some 106) (.call 16 []) (some (105, true)) ::
  m6_8)
def m6_10 : List MI :=
 (MI.op (some 89) (.pick (.tmp 85) (.tmp 88) (.c (.bool false))) none ::
  MI.op (some 90) (.mov (.tmp 89)) none ::
  MI.op (some 91) (.mov (.tmp 11)) (some (90, true)) ::
  MI.op (some 92) (.mov (.tmp 15)) (some (90, true)) ::
  MI.op (some 93) (.call 24 [(.tmp 91), (.tmp 92)]) (some (90, true)) ::
  m6_9)
def m6_11 : List MI :=
 (MI.op (some 83) (.bin .eql (.tmp 80) (.tmp 82)) (some (78, true)) ::
  MI.op (some 84) (.pick (.tmp 78) (.tmp 83) (.c (.bool false))) none ::
  MI.op (some 85) (.mov (.tmp 84)) none ::
  MI.op (some 86) (.mov (.tmp 11)) (some (85, true)) ::
  MI.op (some 87) (.mov (.tmp 13)) (some (85, true)) ::
  MI.op (some 88) (.call 24 [(.tmp 86), (.tmp 87)]) (some (85, true)) ::
  m6_10)
def m6_12 : List MI :=
 (MI.op (some 81) (.mov (.tmp 7)) (some (78, true)) ::
  MI.op (some 82) (.call 22 [(.tmp 81)]) (some (78, true)) ::
  m6_11)
def m6_13 : List MI :=
 (MI.op (some 76) (.bin .eql (.tmp 73) (.tmp 75)) (some (71, true)) ::
  MI.op (some 77) (.pick (.tmp 71) (.tmp 76) (.c (.bool false))) none ::
  MI.op (some 78) (.mov (.tmp 77)) none ::
  MI.op (some 79) (.mov (.tmp 9)) (some (78, true)) ::
  MI.op (some 80) (.call 22 [(.tmp 79)]) (some (78, true)) ::
  m6_12)
def m6_14 : List MI :=
 (MI.op (some 74) (.mov (.tmp 7)) (some (71, true)) ::
  MI.op (some 75) (.call 20 [(.tmp 74)]) (some (71, true)) ::
  m6_13)
def m6_15 : List MI :=
 (MI.op (some 69) (.bin .or (.tmp 66) (.tmp 68)) none ::
  MI.op (some 70) (.bin .eql (.tmp 64) (.tmp 69)) none ::
  MI.op (some 71) (.mov (.tmp 70)) none ::
  MI.op (some 72) (.mov (.tmp 8)) (some (71, true)) ::
  MI.op (some 73) (.call 20 [(.tmp 72)]) (some (71, true)) ::
  m6_14)
def m6_16 : List MI :=
 (MI.op (some 67) (.mov (.tmp 1)) none ::
  MI.op (some 68) (.call 20 [(.tmp 67)]) none ::
  m6_15)
def m6_17 : List MI :=
 (MI.op (some 65) (.mov (.tmp 0)) none ::
  MI.op (some 66) (.call 20 [(.tmp 65)]) none ::
  m6_16)
def m6_18 : MCode :=
 (.seq
  (.reg
   (MI.op (some 63) (.mov (.tmp 7)) none ::
    MI.op (some 64) (.call 20 [(.tmp 63)]) none ::
    m6_17))
  .ret)
def m6_19 : MCode :=
 (.seq
  (.reg
   (MI.op (some 58) (.mov (.tmp 10)) none ::
    MI.op (some 59) (.mov (.tmp 9)) none ::
    MI.op (some 60) (.call 18 [(.tmp 58), (.tmp 59)]) none ::
    m6_7))
  m6_18)
def m6_20 : MCode :=
 (.seq
  (.reg
   (MI.op (some 52) (.mov (.tmp 10)) none ::
    MI.op (some 53) (.mov (.tmp 8)) none ::
    MI.op (some 54) (.call 18 [(.tmp 52), (.tmp 53)]) none ::
    m6_6))
  m6_19)
def m6_21 : MCode :=
 (.seq
  (.reg
   (MI.op (some 46) (.mov (.tmp 10)) none ::
    MI.op (some 47) (.mov (.tmp 7)) none ::
    MI.op (some 48) (.call 18 [(.tmp 46), (.tmp 47)]) none ::
    m6_5))
  m6_20)
def m6_22 : MCode :=
 (.seq
  (.reg
   [MI.op (some 41) (.mov (.tmp 2)) none,
    MI.op (some 42) (.toInt .i64 (.tmp 41)) none,
    MI.op (some 43) (.bin .rem (.tmp 42) (.c (.int .i64 4))) none,
    MI.op (some 44) (.bin .add (.c (.int .i64 1)) (.tmp 43)) none,
    MI.op (some 10) (.mov (.tmp 44)) none])
  m6_21)
def m6_23 : MCode :=
 (.seq
  (.reg
   [MI.op (some 36) (.bsl 0 2 [(.str []), (.sl .full 0 [])] []) none,
    MI.op (some 37) (.mov (.tmp 7)) none,
    MI.op (some 38) (.app 2 40 (.tmp 36) (.tmp 37)) none,
    MI.op (some 39) (.mov (.tmp 0)) none,
    MI.op (some 40) (.app 2 40 (.tmp 38) (.tmp 39)) none,
    MI.op (some 9) (.mov (.tmp 40)) none])
  m6_22)
def m6_24 : MCode :=
 (.seq
  (.reg
   [MI.op (some 31) (.bsl 0 2 [(.str []), (.sl .full 0 [])] []) none,
    MI.op (some 32) (.mov (.tmp 1)) none,
    MI.op (some 33) (.app 2 40 (.tmp 31) (.tmp 32)) none,
    MI.op (some 34) (.mov (.tmp 0)) none,
    MI.op (some 35) (.app 2 40 (.tmp 33) (.tmp 34)) none,
    MI.op (some 8) (.mov (.tmp 35)) none])
  m6_23)
def m6_25 : MCode :=
 (.seq
  (.reg
   [MI.op (some 26) (.bsl 0 2 [(.str []), (.sl .full 0 [])] []) none,
    MI.op (some 27) (.mov (.tmp 0)) none,
    MI.op (some 28) (.app 2 40 (.tmp 26) (.tmp 27)) none,
    MI.op (some 29) (.mov (.tmp 1)) none,
    MI.op (some 30) (.app 2 40 (.tmp 28) (.tmp 29)) none,
    MI.op (some 7) (.mov (.tmp 30)) none])
  m6_24)
def m6_26 : MCode :=
 (.seq
  (.seq
   (.reg
    (MI.op (some 17) (.mov (.tmp 0)) none ::
     MI.op (some 18) (.call 15 [(.tmp 17)]) none ::
     m6_2))
  m6_4)
  m6_25)
def m6_r : List MRes := [.tmp 6]
def m6_b : MCode :=
 (.seq
  (.reg
   [MI.op (some 6) (.mov (.c (.bool false))) none])
  m6_26)
def m6 : MFunc := ⟨3, 108, m6_r, m6_b⟩
theorem c6 : compF Try.prog 6 m6 = some m6 := by kernel_rfl

/- tollhouse/tollhouselaw11.Fair -/
def m15_1 : MCode :=
 (.cond (.tmp 25)
  (.seq
   (.reg
    [MI.op (some 2) (.mov (.c (.bool false))) none])
   .ret)
  .skip)
def m15_2 : MCode :=
 (.seq
  (.blk 1
   (.seq
    (.reg
     [MI.op (some 10) (.mov (.tmp 0)) none,
      MI.op (some 11) (.mov (.tmp 3)) none,
      MI.op (some 12) (.ixSl 2 (.tmp 10) (.tmp 11)) none,
      MI.op (some 13) (.fa 0 (.tmp 12)) none,
      MI.op (some 14) (.load false 1 (.tmp 13)) none,
      MI.op (some 15) (.lenS (.tmp 14)) none,
      MI.op (some 16) (.bin .gtr (.tmp 15) (.c (.int .i64 100))) none,
      MI.op (some 17) (.mov (.tmp 16)) none,
      MI.op (some 18) (.mov (.tmp 0)) (some (17, false)),
      MI.op (some 19) (.mov (.tmp 3)) (some (17, false)),
      MI.op (some 20) (.ixSl 2 (.tmp 18) (.tmp 19)) (some (17, false)),
      MI.op (some 21) (.fa 1 (.tmp 20)) (some (17, false)),
      MI.op (some 22) (.load false 1 (.tmp 21)) (some (17, false)),
      MI.op (some 23) (.len (.tmp 22)) (some (17, false)),
      MI.op (some 24) (.bin .gtr (.tmp 23) (.c (.int .i64 50))) (some (17, false)),
      MI.op (some 25) (.pick (.tmp 17) (.c (.bool true)) (.tmp 24)) none])
  m15_1))
  (.reg
   [MI.op (some 8) (.mov (.tmp 3)) none,
    MI.op (some 9) (.bin .add (.tmp 8) (.c (.int .i64 1))) none,
    MI.op (some 3) (.mov (.tmp 9)) none]))
def m15_3 : MCode :=
 (.seq
  (.seq
   (.reg
    [MI.op (some 4) (.mov (.tmp 3)) none,
     MI.op (some 5) (.mov (.tmp 0)) none,
     MI.op (some 6) (.len (.tmp 5)) none,
     MI.op (some 7) (.bin .lss (.tmp 4) (.tmp 6)) none])
   (.cond (.tmp 7)
    .skip
    (.exit 0)))
  m15_2)
def m15_4 : MCode :=
 (.blk 0
  (.loop
  m15_3))
def m15_5 : MCode :=
 (.seq
  (.reg
   [MI.op (some 26) (.mov (.tmp 0)) none,
    MI.op (some 27) (.len (.tmp 26)) none,
    MI.op (some 28) (.bin .leq (.tmp 27) (.c (.int .i64 20))) none,
    MI.op (some 2) (.mov (.tmp 28)) none])
  .ret)
def m15_6 : MCode :=
 (.seq
  (.seq
   (.reg
    [MI.op (some 3) (.mov (.c (.int .i64 0))) none])
  m15_4)
  m15_5)
def m15_r : List MRes := [.tmp 2]
def m15_b : MCode :=
 (.seq
  (.reg
   [MI.op (some 2) (.mov (.c (.bool false))) none])
  m15_6)
def m15 : MFunc := ⟨1, 29, m15_r, m15_b⟩
theorem c15 : compF Try.prog 15 m15 = some m15 := by kernel_rfl

/- tollhouse/tollhouselaw11.wakes -/
def m16_1 : List MI :=
 [MI.op (some 6) (.mov (.tmp 9)) none,
  MI.op (some 10) (.ext (.tmp 6) 0) none,
  MI.op (some 11) (.ext (.tmp 6) 1) none,
  MI.op (some 2) (.mov (.tmp 10)) none,
  MI.op (some 3) (.mov (.tmp 11)) none]
def m16_2 : List MI :=
 [MI.op (some 34) (.pick (.tmp 30) (.tmp 33) (.c (.bool false))) none,
  MI.op (some 0) (.mov (.tmp 34)) none]
def m16_3 : List MI :=
 (MI.op (some 24) (.bin .eql (.tmp 23) (.c (.int .i64 11))) (some (22, true)) ::
  MI.op (some 25) (.pick (.tmp 22) (.tmp 24) (.c (.bool false))) none ::
  MI.op (some 26) (.mov (.tmp 25)) none ::
  MI.op (some 27) (.mov (.tmp 3)) (some (26, true)) ::
  MI.op (some 28) (.bin .eql (.tmp 27) (.c (.int .i64 0))) (some (26, true)) ::
  MI.op (some 29) (.pick (.tmp 26) (.tmp 28) (.c (.bool false))) none ::
  MI.op (some 30) (.mov (.tmp 29)) none ::
  MI.op (some 31) (.mov (.tmp 2)) (some (30, true)) ::
  MI.op (some 32) (.bsl 2 1 [(.int .i64 0)] [(0, 1, (.c (.int .i64 2))), (1, 1, (.c (.int .i64 4)))]) (some (30, true)) ::
  MI.op (some 33) (.call 24 [(.tmp 31), (.tmp 32)]) (some (30, true)) ::
  m16_2)
def m16_4 : List MI :=
 (MI.op (some 20) (.bin .eql (.tmp 19) (.c (.int .i64 9))) (some (16, true)) ::
  MI.op (some 21) (.pick (.tmp 16) (.tmp 20) (.c (.bool false))) none ::
  MI.op (some 22) (.mov (.tmp 21)) none ::
  MI.op (some 23) (.call 22 [(.c (.sl .full 0 []))]) (some (22, true)) ::
  m16_3)
def m16_5 : List MI :=
 (MI.op (some 15) (.bin .eql (.tmp 14) (.c (.int .u16 11))) none ::
  MI.op (some 16) (.mov (.tmp 15)) none ::
  MI.op (some 17) (.load true 2 (.tmp 1)) (some (16, true)) ::
  MI.op (some 18) (.bsl 1 2 [(.str []), (.sl .full 0 [])] [(0, 2, (.tmp 17))]) (some (16, true)) ::
  MI.op (some 19) (.call 22 [(.tmp 18)]) (some (16, true)) ::
  m16_4)
def m16_6 : MCode :=
 (.seq
  (.reg
   (MI.op (some 12) (.load true 2 (.tmp 1)) none ::
    MI.op (some 13) (.bsl 1 2 [(.str []), (.sl .full 0 [])] [(0, 2, (.tmp 12))]) none ::
    MI.op (some 14) (.call 20 [(.tmp 13)]) none ::
    m16_5))
  .ret)
def m16_7 : MCode :=
 (.seq
  (.reg
   (MI.op (some 7) (.load true 2 (.tmp 1)) none ::
    MI.op (some 8) (.bsl 1 2 [(.str []), (.sl .full 0 [])] [(0, 2, (.tmp 7))]) none ::
    MI.op (some 9) (.call 18 [(.c (.int .i64 2)), (.tmp 8)]) none ::
    m16_1))
  m16_6)
def m16_8 : MCode :=
 (.seq
  (.reg
   [MI.op (some 4) (.bsl 2 1 [(.int .i64 0)] [(0, 1, (.c (.int .i64 1))), (1, 1, (.c (.int .i64 3)))]) none,
    MI.op (some 5) (.build [(.str []), (.sl .full 0 [])] [(0, 1, (.c (.str [97]))), (1, 1, (.tmp 4))]) none,
    MI.op (some 1) (.alloc [(.str []), (.sl .full 0 [])]) none,
    MI.op none (.store 2 (.tmp 1) (.tmp 5)) none])
  m16_7)
def m16_r : List MRes := [.tmp 0]
def m16_b : MCode :=
 (.seq
  (.reg
   [MI.op (some 0) (.mov (.c (.bool false))) none])
  m16_8)
def m16 : MFunc := ⟨0, 35, m16_r, m16_b⟩
theorem c16 : compF Try.prog 16 m16 = some m16 := by kernel_rfl

/- tollhouse/tollhousekeep.Own -/
def m17_1 : MCode :=
 (.seq
  (.blk 1
   (.drw
    [MI.op (some 11) (.mov (.tmp 3)) none,
     MI.op (some 12) (.mov (.tmp 0)) none,
     MI.op (some 13) (.mov (.tmp 4)) none,
     MI.op (some 14) (.ixSl 2 (.tmp 12) (.tmp 13)) none,
     MI.op (some 15) (.fa 0 (.tmp 14)) none,
     MI.op (some 16) (.load false 1 (.tmp 15)) none,
     MI.op (some 17) (.bsl 0 1 [(.int .i64 0)] []) none,
     MI.op (some 18) (.mov (.tmp 0)) none,
     MI.op (some 19) (.mov (.tmp 4)) none,
     MI.op (some 20) (.ixSl 2 (.tmp 18) (.tmp 19)) none,
     MI.op (some 21) (.fa 1 (.tmp 20)) none,
     MI.op (some 22) (.load false 1 (.tmp 21)) none,
     MI.op (some 23) (.appP 1 8 (.tmp 17) (.tmp 22)) none,
     MI.op (some 24) (.build [(.str []), (.sl .full 0 [])] [(0, 1, (.tmp 16)), (1, 1, (.tmp 23))]) none,
     MI.op (some 25) (.bsl 1 2 [(.str []), (.sl .full 0 [])] [(0, 2, (.tmp 24))]) none]
    [MI.op (some 26) (.app 2 40 (.tmp 11) (.tmp 25)) none,
     MI.op (some 3) (.mov (.tmp 26)) none]))
  (.reg
   [MI.op (some 9) (.mov (.tmp 4)) none,
    MI.op (some 10) (.bin .add (.tmp 9) (.c (.int .i64 1))) none,
    MI.op (some 4) (.mov (.tmp 10)) none]))
def m17_2 : MCode :=
 (.seq
  (.seq
   (.reg
    [MI.op (some 5) (.mov (.tmp 4)) none,
     MI.op (some 6) (.mov (.tmp 0)) none,
     MI.op (some 7) (.len (.tmp 6)) none,
     MI.op (some 8) (.bin .lss (.tmp 5) (.tmp 7)) none])
   (.cond (.tmp 8)
    .skip
    (.exit 0)))
  m17_1)
def m17_3 : MCode :=
 (.blk 0
  (.loop
  m17_2))
def m17_4 : MCode :=
 (.seq
  (.reg
   [MI.op (some 27) (.mov (.tmp 3)) none,
    MI.op (some 2) (.mov (.tmp 27)) none])
  .ret)
def m17_5 : MCode :=
 (.seq
  (.seq
   (.reg
    [MI.op (some 4) (.mov (.c (.int .i64 0))) none])
  m17_3)
  m17_4)
def m17_6 : MCode :=
 (.seq
  (.reg
   [MI.op (some 3) (.mov (.c (.sl .full 0 []))) none])
  m17_5)
def m17_r : List MRes := [.tmp 2]
def m17_b : MCode :=
 (.seq
  (.reg
   [MI.op (some 2) (.mov (.c (.sl .full 0 []))) none])
  m17_6)
def m17 : MFunc := ⟨1, 28, m17_r, m17_b⟩
theorem c17 : compF Try.prog 17 m17 = some m17 := by kernel_rfl

/- tollhouse/pool.Take -/
def m18_1 : MCode :=
 (.seq
  (.reg
   [MI.op (some 4) (.mov (.c (.sl .full 0 []))) none,
    MI.op (some 5) (.mov (.c (.int .i64 1))) none])
  .ret)
def m18_2 : List MI :=
 [MI.op (some 20) (.bin .gtr (.tmp 17) (.tmp 19)) none,
  MI.op (some 16) (.mov (.tmp 20)) none]
def m18_3 : MCode :=
 (.seq
  (.reg
   [MI.op (some 4) (.mov (.c (.sl .full 0 []))) none,
    MI.op (some 5) (.mov (.c (.int .i64 18))) none])
  .ret)
def m18_4 : MCode :=
 (.cond (.tmp 16)
  m18_3
  .skip)
def m18_5 : MCode :=
 (.seq
  (.reg
   (MI.op (some 17) (.mov (.tmp 0)) none ::
    MI.op (some 18) (.mov (.tmp 1)) none ::
    MI.op (some 19) (.call 22 [(.tmp 18)]) none ::
    m18_2))
  m18_4)
def m18_6 : MCode :=
 (.cond (.tmp 9)
  m18_1
  m18_5)
def m18_7 : MCode :=
 (.reg
  [MI.op (some 34) (.mov (.tmp 6)) none,
   MI.op (some 35) (.mov (.tmp 8)) none,
   MI.op (some 36) (.bsl 1 1 [(.int .i64 0)] [(0, 1, (.tmp 35))]) none,
   MI.op (some 37) (.app 1 8 (.tmp 34) (.tmp 36)) none,
   MI.op (some 6) (.mov (.tmp 37)) none])
def m18_8 : MCode :=
 (.cond (.tmp 33)
  m18_7
  .skip)
def m18_9 : MCode :=
 (.seq
  (.blk 2
   (.seq
    (.reg
     [MI.op (some 29) (.mov (.tmp 7)) none,
      MI.op (some 30) (.mov (.tmp 8)) none,
      MI.op (some 31) (.bin .shr (.tmp 29) (.tmp 30)) none,
      MI.op (some 32) (.bin .and (.tmp 31) (.c (.int .u16 1))) none,
      MI.op (some 33) (.bin .eql (.tmp 32) (.c (.int .u16 0))) none])
  m18_8))
  (.reg
   [MI.op (some 27) (.mov (.tmp 8)) none,
    MI.op (some 28) (.bin .add (.tmp 27) (.c (.int .i64 1))) none,
    MI.op (some 8) (.mov (.tmp 28)) none]))
def m18_10 : MCode :=
 (.seq
  (.seq
   (.reg
    [MI.op (some 23) (.mov (.tmp 6)) none,
     MI.op (some 24) (.len (.tmp 23)) none,
     MI.op (some 25) (.mov (.tmp 0)) none,
     MI.op (some 26) (.bin .lss (.tmp 24) (.tmp 25)) none])
   (.cond (.tmp 26)
    .skip
    (.exit 1)))
  m18_9)
def m18_11 : MCode :=
 (.blk 1
  (.loop
  m18_10))
def m18_12 : MCode :=
 (.seq
  (.reg
   [MI.op (some 38) (.mov (.tmp 6)) none,
    MI.op (some 4) (.mov (.tmp 38)) none,
    MI.op (some 5) (.mov (.c (.int .i64 0))) none])
  .ret)
def m18_13 : MCode :=
 (.seq
  (.seq
   (.reg
    [MI.op (some 8) (.mov (.c (.int .i64 0))) none])
  m18_11)
  m18_12)
def m18_14 : MCode :=
 (.seq
  (.reg
   [MI.op (some 21) (.mov (.tmp 1)) none,
    MI.op (some 22) (.call 20 [(.tmp 21)]) none,
    MI.op (some 7) (.mov (.tmp 22)) none])
  m18_13)
def m18_15 : MCode :=
 (.seq
  (.reg
   [MI.op (some 6) (.mov (.c (.sl .full 0 []))) none])
  m18_14)
def m18_16 : MCode :=
 (.seq
  (.blk 0
   (.seq
    (.reg
     [MI.op (some 10) (.mov (.tmp 0)) none,
      MI.op (some 11) (.bin .lss (.tmp 10) (.c (.int .i64 1))) none,
      MI.op (some 12) (.mov (.tmp 11)) none,
      MI.op (some 13) (.mov (.tmp 0)) (some (12, false)),
      MI.op (some 14) (.bin .gtr (.tmp 13) (.c (.int .i64 4))) (some (12, false)),
      MI.op (some 15) (.pick (.tmp 12) (.c (.bool true)) (.tmp 14)) none,
      MI.op (some 9) (.mov (.tmp 15)) none])
  m18_6))
  m18_15)
def m18_r : List MRes := [.tmp 4, .tmp 5]
def m18_b : MCode :=
 (.seq
  (.reg
   [MI.op (some 4) (.mov (.c (.sl .full 0 []))) none,
    MI.op (some 5) (.mov (.c (.int .i64 0))) none])
  m18_16)
def m18 : MFunc := ⟨2, 39, m18_r, m18_b⟩
theorem c18 : compF Try.prog 18 m18 = some m18 := by kernel_rfl

/- tollhouse/tollhouseref11.Take -/
def m19_1 : MCode :=
 (.seq
  (.reg
   [MI.op (some 4) (.mov (.c (.sl .full 0 []))) none,
    MI.op (some 5) (.mov (.c (.int .i64 1))) none])
  .ret)
def m19_2 : MCode :=
 (.cond (.tmp 12)
  m19_1
  .skip)
def m19_3 : MCode :=
 (.seq
  (.reg
   [MI.op (some 4) (.mov (.c (.sl .full 0 []))) none,
    MI.op (some 5) (.mov (.c (.int .i64 18))) none])
  .ret)
def m19_4 : MCode :=
 (.cond (.tmp 18)
  m19_3
  .skip)
def m19_5 : MCode :=
 (.seq
  (.reg
   [MI.op (some 19) (.mov (.tmp 6)) none,
    MI.op (some 20) (.mov (.tmp 0)) none,
    MI.op (some 21) (.slSl 1 (.tmp 19) none (some (.tmp 20)) none) none,
    MI.op (some 4) (.mov (.tmp 21)) none,
    MI.op (some 5) (.mov (.c (.int .i64 0))) none])
  .ret)
def m19_6 : MCode :=
 (.seq
  (.seq
   (.reg
    [MI.op (some 15) (.mov (.tmp 6)) none,
     MI.op (some 16) (.len (.tmp 15)) none,
     MI.op (some 17) (.mov (.tmp 0)) none,
     MI.op (some 18) (.bin .lss (.tmp 16) (.tmp 17)) none])
  m19_4)
  m19_5)
def m19_7 : MCode :=
 (.seq
  (.reg
   [MI.op (some 13) (.mov (.tmp 1)) none,
    MI.op (some 14) (.call 48 [(.tmp 13)]) none,
    MI.op (some 6) (.mov (.tmp 14)) none])
  m19_6)
def m19_8 : MCode :=
 (.seq
  (.seq
   (.reg
    [MI.op (some 7) (.mov (.tmp 0)) none,
     MI.op (some 8) (.bin .lss (.tmp 7) (.c (.int .i64 1))) none,
     MI.op (some 9) (.mov (.tmp 8)) none,
     MI.op (some 10) (.mov (.tmp 0)) (some (9, false)),
     MI.op (some 11) (.bin .gtr (.tmp 10) (.c (.int .i64 4))) (some (9, false)),
     MI.op (some 12) (.pick (.tmp 9) (.c (.bool true)) (.tmp 11)) none])
  m19_2)
  m19_7)
def m19_r : List MRes := [.tmp 4, .tmp 5]
def m19_b : MCode :=
 (.seq
  (.reg
   [MI.op (some 4) (.mov (.c (.sl .full 0 []))) none,
    MI.op (some 5) (.mov (.c (.int .i64 0))) none])
  m19_8)
def m19 : MFunc := ⟨2, 22, m19_r, m19_b⟩
theorem c19 : compF Try.prog 19 m19 = some m19 := by kernel_rfl

/- tollhouse/pool.Used -/
def m20_1 : MCode :=
 (.reg
  [MI.op (some 27) (.mov (.tmp 3)) none,
   MI.op (some 28) (.mov (.tmp 7)) none,
   MI.op (some 29) (.bin .shl (.c (.int .u16 1)) (.tmp 28)) none,
   MI.op (some 30) (.bin .or (.tmp 27) (.tmp 29)) none,
   MI.op (some 3) (.mov (.tmp 30)) none])
def m20_2 : MCode :=
 (.cond (.tmp 26)
  m20_1
  .skip)
def m20_3 : MCode :=
 (.seq
  (.reg
   [MI.op (some 21) (.mov (.tmp 7)) none,
    MI.op (some 22) (.bin .geq (.tmp 21) (.c (.int .i64 0))) none,
    MI.op (some 23) (.mov (.tmp 22)) none,
    MI.op (some 24) (.mov (.tmp 7)) (some (23, true)),
    MI.op (some 25) (.bin .lss (.tmp 24) (.c (.int .i64 12))) (some (23, true)),
    MI.op (some 26) (.pick (.tmp 23) (.tmp 25) (.c (.bool false))) none])
  m20_2)
def m20_4 : MCode :=
 (.seq
  (.blk 3
   (.seq
    (.reg
     [MI.op (some 19) (.ixSl 1 (.tmp 15) (.tmp 17)) none,
      MI.op (some 20) (.load false 1 (.tmp 19)) none,
      MI.op (some 7) (.mov (.tmp 20)) none])
  m20_3))
  (.reg
   [MI.op (some 31) (.bin .add (.tmp 17) (.c (.int .i64 1))) none,
    MI.op (some 17) (.mov (.tmp 31)) none]))
def m20_5 : MCode :=
 (.seq
  (.cond (.tmp 18)
   .skip
   (.exit 2))
  m20_4)
def m20_6 : MCode :=
 (.seq
  (.reg
   [MI.op (some 18) (.bin .lss (.tmp 17) (.tmp 16)) none])
  m20_5)
def m20_7 : MCode :=
 (.blk 2
  (.loop
  m20_6))
def m20_8 : MCode :=
 (.seq
  (.reg
   [MI.op (some 14) (.fa 1 (.tmp 5)) none,
    MI.op (some 15) (.load false 1 (.tmp 14)) none,
    MI.op (some 16) (.len (.tmp 15)) none,
    MI.op (some 17) (.mov (.c (.int .i64 0))) none])
  m20_7)
def m20_9 : MCode :=
 (.seq
  (.blk 1
   (.seq
    (.reg
     [MI.op (some 12) (.ixSl 2 (.tmp 8) (.tmp 10)) none,
      MI.op (some 13) (.load true 2 (.tmp 12)) none,
      MI.op (some 5) (.alloc [(.str []), (.sl .full 0 [])]) none,
      MI.op none (.store 2 (.tmp 5) (.tmp 13)) none])
  m20_8))
  (.reg
   [MI.op (some 32) (.bin .add (.tmp 10) (.c (.int .i64 1))) none,
    MI.op (some 10) (.mov (.tmp 32)) none]))
def m20_10 : MCode :=
 (.seq
  (.cond (.tmp 11)
   .skip
   (.exit 0))
  m20_9)
def m20_11 : MCode :=
 (.seq
  (.reg
   [MI.op (some 11) (.bin .lss (.tmp 10) (.tmp 9)) none])
  m20_10)
def m20_12 : MCode :=
 (.blk 0
  (.loop
  m20_11))
def m20_13 : MCode :=
 (.seq
  (.reg
   [MI.op (some 33) (.mov (.tmp 3)) none,
    MI.op (some 2) (.mov (.tmp 33)) none])
  .ret)
def m20_14 : MCode :=
 (.seq
  (.seq
   (.reg
    [MI.op (some 8) (.mov (.tmp 0)) none,
     MI.op (some 9) (.len (.tmp 8)) none,
     MI.op (some 10) (.mov (.c (.int .i64 0))) none])
  m20_12)
  m20_13)
def m20_15 : MCode :=
 (.seq
  (.reg
   [MI.op (some 3) (.mov (.c (.int .u16 1))) none])
  m20_14)
def m20_r : List MRes := [.tmp 2]
def m20_b : MCode :=
 (.seq
  (.reg
   [MI.op (some 2) (.mov (.c (.int .u16 0))) none])
  m20_15)
def m20 : MFunc := ⟨1, 34, m20_r, m20_b⟩
theorem c20 : compF Try.prog 20 m20 = some m20 := by kernel_rfl

/- tollhouse/tollhouseref11.Used -/
def m21_1 : MCode :=
 (.reg
  [MI.op (some 37) (.mov (.tmp 3)) none,
   MI.op (some 38) (.mov (.tmp 6)) none,
   MI.op (some 39) (.toInt .u64 (.tmp 38)) none,
   MI.op (some 40) (.bin .shl (.c (.int .u16 1)) (.tmp 39)) none,
   MI.op (some 41) (.bin .or (.tmp 37) (.tmp 40)) none,
   MI.op (some 3) (.mov (.tmp 41)) none])
def m21_2 : MCode :=
 (.cond (.tmp 36)
  m21_1
  .skip)
def m21_3 : MCode :=
 (.seq
  (.reg
   [MI.op (some 31) (.mov (.tmp 6)) none,
    MI.op (some 32) (.bin .geq (.tmp 31) (.c (.int .i64 0))) none,
    MI.op (some 33) (.mov (.tmp 32)) none,
    MI.op (some 34) (.mov (.tmp 6)) (some (33, true)),
    MI.op (some 35) (.bin .lss (.tmp 34) (.c (.int .i64 12))) (some (33, true)),
    MI.op (some 36) (.pick (.tmp 33) (.tmp 35) (.c (.bool false))) none])
  m21_2)
def m21_4 : MCode :=
 (.seq
  (.blk 3
   (.seq
    (.reg
     [MI.op (some 23) (.mov (.tmp 0)) none,
      MI.op (some 24) (.mov (.tmp 4)) none,
      MI.op (some 25) (.ixSl 2 (.tmp 23) (.tmp 24)) none,
      MI.op (some 26) (.fa 1 (.tmp 25)) none,
      MI.op (some 27) (.load false 1 (.tmp 26)) none,
      MI.op (some 28) (.mov (.tmp 5)) none,
      MI.op (some 29) (.ixSl 1 (.tmp 27) (.tmp 28)) none,
      MI.op (some 30) (.load false 1 (.tmp 29)) none,
      MI.op (some 6) (.mov (.tmp 30)) none])
  m21_3))
  (.reg
   [MI.op (some 21) (.mov (.tmp 5)) none,
    MI.op (some 22) (.bin .add (.tmp 21) (.c (.int .i64 1))) none,
    MI.op (some 5) (.mov (.tmp 22)) none]))
def m21_5 : MCode :=
 (.seq
  (.seq
   (.reg
    [MI.op (some 13) (.mov (.tmp 5)) none,
     MI.op (some 14) (.mov (.tmp 0)) none,
     MI.op (some 15) (.mov (.tmp 4)) none,
     MI.op (some 16) (.ixSl 2 (.tmp 14) (.tmp 15)) none,
     MI.op (some 17) (.fa 1 (.tmp 16)) none,
     MI.op (some 18) (.load false 1 (.tmp 17)) none,
     MI.op (some 19) (.len (.tmp 18)) none,
     MI.op (some 20) (.bin .lss (.tmp 13) (.tmp 19)) none])
   (.cond (.tmp 20)
    .skip
    (.exit 2)))
  m21_4)
def m21_6 : MCode :=
 (.blk 2
  (.loop
  m21_5))
def m21_7 : MCode :=
 (.seq
  (.blk 1
   (.seq
    (.reg
     [MI.op (some 5) (.mov (.c (.int .i64 0))) none])
  m21_6))
  (.reg
   [MI.op (some 11) (.mov (.tmp 4)) none,
    MI.op (some 12) (.bin .add (.tmp 11) (.c (.int .i64 1))) none,
    MI.op (some 4) (.mov (.tmp 12)) none]))
def m21_8 : MCode :=
 (.seq
  (.seq
   (.reg
    [MI.op (some 7) (.mov (.tmp 4)) none,
     MI.op (some 8) (.mov (.tmp 0)) none,
     MI.op (some 9) (.len (.tmp 8)) none,
     MI.op (some 10) (.bin .lss (.tmp 7) (.tmp 9)) none])
   (.cond (.tmp 10)
    .skip
    (.exit 0)))
  m21_7)
def m21_9 : MCode :=
 (.blk 0
  (.loop
  m21_8))
def m21_10 : MCode :=
 (.seq
  (.reg
   [MI.op (some 42) (.mov (.tmp 3)) none,
    MI.op (some 2) (.mov (.tmp 42)) none])
  .ret)
def m21_11 : MCode :=
 (.seq
  (.seq
   (.reg
    [MI.op (some 4) (.mov (.c (.int .i64 0))) none])
  m21_9)
  m21_10)
def m21_12 : MCode :=
 (.seq
  (.reg
   [MI.op (some 3) (.mov (.c (.int .u16 1))) none])
  m21_11)
def m21_r : List MRes := [.tmp 2]
def m21_b : MCode :=
 (.seq
  (.reg
   [MI.op (some 2) (.mov (.c (.int .u16 0))) none])
  m21_12)
def m21 : MFunc := ⟨1, 43, m21_r, m21_b⟩
theorem c21 : compF Try.prog 21 m21 = some m21 := by kernel_rfl

/- tollhouse/pool.Free -/
def m22_1 : List MI :=
 [MI.op (some 6) (.bin .sub (.c (.int .i64 12)) (.tmp 5)) none,
  MI.op (some 2) (.mov (.tmp 6)) none]
def m22_2 : List MI :=
 (MI.op (some 5) (.call 49 [(.tmp 4)]) none ::
  m22_1)
def m22_3 : MCode :=
 (.seq
  (.reg
   (MI.op (some 3) (.mov (.tmp 0)) none ::
    MI.op (some 4) (.call 20 [(.tmp 3)]) none ::
    m22_2))
  .ret)
def m22_r : List MRes := [.tmp 2]
def m22_b : MCode :=
 (.seq
  (.reg
   [MI.op (some 2) (.mov (.c (.int .i64 0))) none])
  m22_3)
def m22 : MFunc := ⟨1, 7, m22_r, m22_b⟩
theorem c22 : compF Try.prog 22 m22 = some m22 := by kernel_rfl

/- tollhouse/tollhouseref11.Free -/
def m23_1 : List MI :=
 [MI.op (some 5) (.len (.tmp 4)) none,
  MI.op (some 2) (.mov (.tmp 5)) none]
def m23_2 : MCode :=
 (.seq
  (.reg
   (MI.op (some 3) (.mov (.tmp 0)) none ::
    MI.op (some 4) (.call 48 [(.tmp 3)]) none ::
    m23_1))
  .ret)
def m23_r : List MRes := [.tmp 2]
def m23_b : MCode :=
 (.seq
  (.reg
   [MI.op (some 2) (.mov (.c (.int .i64 0))) none])
  m23_2)
def m23 : MFunc := ⟨1, 6, m23_r, m23_b⟩
theorem c23 : compF Try.prog 23 m23 = some m23 := by kernel_rfl

/- tollhouse/tollhousekeep.Ints -/
def m24_1 : MCode :=
 (.cond (.tmp 10)
  (.seq
   (.reg
    [MI.op (some 4) (.mov (.c (.bool false))) none])
   .ret)
  .skip)
def m24_2 : MCode :=
 (.cond (.tmp 25)
  (.seq
   (.reg
    [MI.op (some 4) (.mov (.c (.bool false))) none])
   .ret)
  .skip)
def m24_3 : MCode :=
 (.seq
  (.blk 1
   (.seq
    (.drw
     [MI.op (some 17) (.mov (.tmp 0)) none,
      MI.op (some 18) (.mov (.tmp 5)) none,
      MI.op (some 19) (.ixSl 1 (.tmp 17) (.tmp 18)) none,
      MI.op (some 20) (.load false 1 (.tmp 19)) none,
      MI.op (some 21) (.mov (.tmp 1)) none,
      MI.op (some 22) (.mov (.tmp 5)) none,
      MI.op (some 23) (.ixSl 1 (.tmp 21) (.tmp 22)) none,
      MI.op (some 24) (.load false 1 (.tmp 23)) none]
     [MI.op (some 25) (.bin .neq (.tmp 20) (.tmp 24)) none])
  m24_2))
  (.reg
   [MI.op (some 15) (.mov (.tmp 5)) none,
    MI.op (some 16) (.bin .add (.tmp 15) (.c (.int .i64 1))) none,
    MI.op (some 5) (.mov (.tmp 16)) none]))
def m24_4 : MCode :=
 (.seq
  (.seq
   (.reg
    [MI.op (some 11) (.mov (.tmp 5)) none,
     MI.op (some 12) (.mov (.tmp 0)) none,
     MI.op (some 13) (.len (.tmp 12)) none,
     MI.op (some 14) (.bin .lss (.tmp 11) (.tmp 13)) none])
   (.cond (.tmp 14)
    .skip
    (.exit 0)))
  m24_3)
def m24_5 : MCode :=
 (.blk 0
  (.loop
  m24_4))
def m24_6 : MCode :=
 (.seq
  (.seq
   (.reg
    [MI.op (some 5) (.mov (.c (.int .i64 0))) none])
  m24_5)
  (.seq
   (.reg
    [MI.op (some 4) (.mov (.c (.bool true))) none])
   .ret))
def m24_7 : MCode :=
 (.seq
  (.seq
   (.reg
    [MI.op (some 6) (.mov (.tmp 0)) none,
     MI.op (some 7) (.len (.tmp 6)) none,
     MI.op (some 8) (.mov (.tmp 1)) none,
     MI.op (some 9) (.len (.tmp 8)) none,
     MI.op (some 10) (.bin .neq (.tmp 7) (.tmp 9)) none])
  m24_1)
  m24_6)
def m24_r : List MRes := [.tmp 4]
def m24_b : MCode :=
 (.seq
  (.reg
   [MI.op (some 4) (.mov (.c (.bool false))) none])
  m24_7)
def m24 : MFunc := ⟨2, 26, m24_r, m24_b⟩
theorem c24 : compF Try.prog 24 m24 = some m24 := by kernel_rfl

/- tollhouse/tollhousekeep.Volumes -/
def m25_1 : MCode :=
 (.cond (.tmp 10)
  (.seq
   (.reg
    [MI.op (some 4) (.mov (.c (.bool false))) none])
   .ret)
  .skip)
def m25_2 : MCode :=
 (.cond (.tmp 41)
  (.seq
   (.reg
    [MI.op (some 4) (.mov (.c (.bool false))) none])
   .ret)
  .skip)
def m25_3 : MCode :=
 (.seq
  (.blk 1
   (.seq
    (.drw
     [MI.op (some 17) (.mov (.tmp 0)) none,
      MI.op (some 18) (.mov (.tmp 5)) none,
      MI.op (some 19) (.ixSl 2 (.tmp 17) (.tmp 18)) none,
      MI.op (some 20) (.fa 0 (.tmp 19)) none,
      MI.op (some 21) (.load false 1 (.tmp 20)) none,
      MI.op (some 22) (.mov (.tmp 1)) none,
      MI.op (some 23) (.mov (.tmp 5)) none,
      MI.op (some 24) (.ixSl 2 (.tmp 22) (.tmp 23)) none,
      MI.op (some 25) (.fa 0 (.tmp 24)) none,
      MI.op (some 26) (.load false 1 (.tmp 25)) none,
      MI.op (some 27) (.bin .neq (.tmp 21) (.tmp 26)) none,
      MI.op (some 28) (.mov (.tmp 27)) none,
      MI.op (some 29) (.mov (.tmp 0)) (some (28, false)),
      MI.op (some 30) (.mov (.tmp 5)) (some (28, false)),
      MI.op (some 31) (.ixSl 2 (.tmp 29) (.tmp 30)) (some (28, false)),
      MI.op (some 32) (.fa 1 (.tmp 31)) (some (28, false)),
      MI.op (some 33) (.load false 1 (.tmp 32)) (some (28, false)),
      MI.op (some 34) (.mov (.tmp 1)) (some (28, false)),
      MI.op (some 35) (.mov (.tmp 5)) (some (28, false)),
      MI.op (some 36) (.ixSl 2 (.tmp 34) (.tmp 35)) (some (28, false)),
      MI.op (some 37) (.fa 1 (.tmp 36)) (some (28, false)),
      MI.op (some 38) (.load false 1 (.tmp 37)) (some (28, false))]
     [MI.op (some 39) (.call 24 [(.tmp 33), (.tmp 38)]) (some (28, false)),
      MI.op (some 40) (.un .not (.tmp 39)) (some (28, false)),
      MI.op (some 41) (.pick (.tmp 28) (.c (.bool true)) (.tmp 40)) none])
  m25_2))
  (.reg
   [MI.op (some 15) (.mov (.tmp 5)) none,
    MI.op (some 16) (.bin .add (.tmp 15) (.c (.int .i64 1))) none,
    MI.op (some 5) (.mov (.tmp 16)) none]))
def m25_4 : MCode :=
 (.seq
  (.seq
   (.reg
    [MI.op (some 11) (.mov (.tmp 5)) none,
     MI.op (some 12) (.mov (.tmp 0)) none,
     MI.op (some 13) (.len (.tmp 12)) none,
     MI.op (some 14) (.bin .lss (.tmp 11) (.tmp 13)) none])
   (.cond (.tmp 14)
    .skip
    (.exit 0)))
  m25_3)
def m25_5 : MCode :=
 (.blk 0
  (.loop
  m25_4))
def m25_6 : MCode :=
 (.seq
  (.seq
   (.reg
    [MI.op (some 5) (.mov (.c (.int .i64 0))) none])
  m25_5)
  (.seq
   (.reg
    [MI.op (some 4) (.mov (.c (.bool true))) none])
   .ret))
def m25_7 : MCode :=
 (.seq
  (.seq
   (.reg
    [MI.op (some 6) (.mov (.tmp 0)) none,
     MI.op (some 7) (.len (.tmp 6)) none,
     MI.op (some 8) (.mov (.tmp 1)) none,
     MI.op (some 9) (.len (.tmp 8)) none,
     MI.op (some 10) (.bin .neq (.tmp 7) (.tmp 9)) none])
  m25_1)
  m25_6)
def m25_r : List MRes := [.tmp 4]
def m25_b : MCode :=
 (.seq
  (.reg
   [MI.op (some 4) (.mov (.c (.bool false))) none])
  m25_7)
def m25 : MFunc := ⟨2, 42, m25_r, m25_b⟩
theorem c25 : compF Try.prog 25 m25 = some m25 := by kernel_rfl

/- tollhouse/tollhouseref11.frees -/
def m48_1 : MCode :=
 (.reg
  [MI.op (some 18) (.mov (.tmp 4)) none,
   MI.op (some 19) (.mov (.tmp 5)) none,
   MI.op (some 20) (.bsl 1 1 [(.int .i64 0)] [(0, 1, (.tmp 19))]) none,
   MI.op (some 21) (.app 1 8 (.tmp 18) (.tmp 20)) none,
   MI.op (some 4) (.mov (.tmp 21)) none])
def m48_2 : MCode :=
 (.cond (.tmp 17)
  m48_1
  .skip)
def m48_3 : MCode :=
 (.seq
  (.blk 1
   (.seq
    (.reg
     [MI.op (some 12) (.mov (.tmp 3)) none,
      MI.op (some 13) (.mov (.tmp 5)) none,
      MI.op (some 14) (.toInt .u64 (.tmp 13)) none,
      MI.op (some 15) (.bin .shr (.tmp 12) (.tmp 14)) none,
      MI.op (some 16) (.bin .and (.tmp 15) (.c (.int .u16 1))) none,
      MI.op (some 17) (.bin .eql (.tmp 16) (.c (.int .u16 0))) none])
  m48_2))
  (.reg
   [MI.op (some 10) (.mov (.tmp 5)) none,
    MI.op (some 11) (.bin .add (.tmp 10) (.c (.int .i64 1))) none,
    MI.op (some 5) (.mov (.tmp 11)) none]))
def m48_4 : MCode :=
 (.seq
  (.seq
   (.reg
    [MI.op (some 8) (.mov (.tmp 5)) none,
     MI.op (some 9) (.bin .lss (.tmp 8) (.c (.int .i64 12))) none])
   (.cond (.tmp 9)
    .skip
    (.exit 0)))
  m48_3)
def m48_5 : MCode :=
 (.blk 0
  (.loop
  m48_4))
def m48_6 : MCode :=
 (.seq
  (.reg
   [MI.op (some 22) (.mov (.tmp 4)) none,
    MI.op (some 2) (.mov (.tmp 22)) none])
  .ret)
def m48_7 : MCode :=
 (.seq
  (.seq
   (.reg
    [MI.op (some 5) (.mov (.c (.int .i64 0))) none])
  m48_5)
  m48_6)
def m48_8 : MCode :=
 (.seq
  (.reg
   [MI.op (some 4) (.mov (.c (.sl .full 0 []))) none])
  m48_7)
def m48_9 : MCode :=
 (.seq
  (.reg
   [MI.op (some 6) (.mov (.tmp 0)) none,
    MI.op (some 7) (.call 21 [(.tmp 6)]) none,
    MI.op (some 3) (.mov (.tmp 7)) none])
  m48_8)
def m48_r : List MRes := [.tmp 2]
def m48_b : MCode :=
 (.seq
  (.reg
   [MI.op (some 2) (.mov (.c (.sl .full 0 []))) none])
  m48_9)
def m48 : MFunc := ⟨1, 23, m48_r, m48_b⟩
theorem c48 : compF Try.prog 48 m48 = some m48 := by kernel_rfl

/- math/bits.OnesCount16 -/
def m49_1 : MCode :=
 (.seq
  (.drw
   [MI.op (some 3) (.mov (.tmp 0)) none,
    MI.op (some 4) (.bin .shr (.tmp 3) (.c (.int .u64 8))) none,
    MI.op (some 5) (.idxStr (.c (.str [0, 1, 1, 2, 1, 2, 2, 3, 1, 2, 2, 3, 2, 3, 3, 4, 1, 2, 2, 3, 2, 3, 3, 4, 2, 3, 3, 4, 3, 4, 4, 5, 1, 2, 2, 3, 2, 3, 3, 4, 2, 3, 3, 4, 3, 4, 4, 5, 2, 3, 3, 4, 3, 4, 4, 5, 3, 4, 4, 5, 4, 5, 5, 6, 1, 2, 2, 3, 2, 3, 3, 4, 2, 3, 3, 4, 3, 4, 4, 5, 2, 3, 3, 4, 3, 4, 4, 5, 3, 4, 4, 5, 4, 5, 5, 6, 2, 3, 3, 4, 3, 4, 4, 5, 3, 4, 4, 5, 4, 5, 5, 6, 3, 4, 4, 5, 4, 5, 5, 6, 4, 5, 5, 6, 5, 6, 6, 7, 1, 2, 2, 3, 2, 3, 3, 4, 2, 3, 3, 4, 3, 4, 4, 5, 2, 3, 3, 4, 3, 4, 4, 5, 3, 4, 4, 5, 4, 5, 5, 6, 2, 3, 3, 4, 3, 4, 4, 5, 3, 4, 4, 5, 4, 5, 5, 6, 3, 4, 4, 5, 4, 5, 5, 6, 4, 5, 5, 6, 5, 6, 6, 7, 2, 3, 3, 4, 3, 4, 4, 5, 3, 4, 4, 5, 4, 5, 5, 6, 3, 4, 4, 5, 4, 5, 5, 6, 4, 5, 5, 6, 5, 6, 6, 7, 3, 4, 4, 5, 4, 5, 5, 6, 4, 5, 5, 6, 5, 6, 6, 7, 4, 5, 5, 6, 5, 6, 6, 7, 5, 6, 6, 7, 6, 7, 7, 8])) (.tmp 4)) none,
    MI.op (some 6) (.mov (.tmp 0)) none,
    MI.op (some 7) (.bin .and (.tmp 6) (.c (.int .u16 255))) none,
    MI.op (some 8) (.idxStr (.c (.str [0, 1, 1, 2, 1, 2, 2, 3, 1, 2, 2, 3, 2, 3, 3, 4, 1, 2, 2, 3, 2, 3, 3, 4, 2, 3, 3, 4, 3, 4, 4, 5, 1, 2, 2, 3, 2, 3, 3, 4, 2, 3, 3, 4, 3, 4, 4, 5, 2, 3, 3, 4, 3, 4, 4, 5, 3, 4, 4, 5, 4, 5, 5, 6, 1, 2, 2, 3, 2, 3, 3, 4, 2, 3, 3, 4, 3, 4, 4, 5, 2, 3, 3, 4, 3, 4, 4, 5, 3, 4, 4, 5, 4, 5, 5, 6, 2, 3, 3, 4, 3, 4, 4, 5, 3, 4, 4, 5, 4, 5, 5, 6, 3, 4, 4, 5, 4, 5, 5, 6, 4, 5, 5, 6, 5, 6, 6, 7, 1, 2, 2, 3, 2, 3, 3, 4, 2, 3, 3, 4, 3, 4, 4, 5, 2, 3, 3, 4, 3, 4, 4, 5, 3, 4, 4, 5, 4, 5, 5, 6, 2, 3, 3, 4, 3, 4, 4, 5, 3, 4, 4, 5, 4, 5, 5, 6, 3, 4, 4, 5, 4, 5, 5, 6, 4, 5, 5, 6, 5, 6, 6, 7, 2, 3, 3, 4, 3, 4, 4, 5, 3, 4, 4, 5, 4, 5, 5, 6, 3, 4, 4, 5, 4, 5, 5, 6, 4, 5, 5, 6, 5, 6, 6, 7, 3, 4, 4, 5, 4, 5, 5, 6, 4, 5, 5, 6, 5, 6, 6, 7, 4, 5, 5, 6, 5, 6, 6, 7, 5, 6, 6, 7, 6, 7, 7, 8])) (.tmp 7)) none]
   [MI.op (some 9) (.bin .add (.tmp 5) (.tmp 8)) none,
    MI.op (some 10) (.toInt .i64 (.tmp 9)) none,
    MI.op (some 2) (.mov (.tmp 10)) none])
  .ret)
def m49_r : List MRes := [.tmp 2]
def m49_b : MCode :=
 (.seq
  (.reg
   [MI.op (some 2) (.mov (.c (.int .i64 0))) none])
  m49_1)
def m49 : MFunc := ⟨1, 11, m49_r, m49_b⟩
theorem c49 : compF Try.prog 49 m49 = some m49 := by kernel_rfl

/- slices.Clone[[]int,int] -/
def m52_1 : MCode :=
 (.cond (.tmp 4)
  (.seq
   (.reg
    [MI.op (some 2) (.mov (.c (.sl .full 0 []))) none])
   .ret)
  .skip)
def m52_2 : MCode :=
 (.seq
  (.reg
   [MI.op (some 5) (.bsl 0 1 [(.int .i64 0)] []) none,
    MI.op (some 6) (.mov (.tmp 0)) none,
    MI.op (some 7) (.app 1 8 (.tmp 5) (.tmp 6)) none,
    MI.op (some 2) (.mov (.tmp 7)) none])
  .ret)
def m52_3 : MCode :=
 (.seq
  (.seq
   (.reg
    [MI.op (some 3) (.mov (.tmp 0)) none,
     MI.op (some 4) (.nilS false (.tmp 3)) none])
  m52_1)
  m52_2)
def m52_r : List MRes := [.tmp 2]
def m52_b : MCode :=
 (.seq
  (.reg
   [MI.op (some 2) (.mov (.c (.sl .full 0 []))) none])
  m52_3)
def m52 : MFunc := ⟨1, 8, m52_r, m52_b⟩
theorem c52 : compF Try.prog 52 m52 = some m52 := by kernel_rfl

end Go.Proofs.Ytfohfnhimgmnlaa
