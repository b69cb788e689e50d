/- The loaded functions as texts of the ideal machine (written by a program of ours), and that they are the loaded ones. -/
import Derived.Test.YtilbipknodpmmaaDoorE31
import Derived.Test.YtilbipknodpmmaaDoorProg
set_option linter.unusedVariables false
set_option linter.unusedSimpArgs false
set_option linter.unusedSectionVars false
namespace Go.Proofs.YtilbipknodpmmaaDoor
open Go.RowKit

/- tollhouse/tollhouselaw13.wakes -/
def m12_1 : List MI :=
 [MI.op (some 14) (.mov (.tmp 16)) none,
  MI.op (some 17) (.ext (.tmp 14) 0) none,
  MI.op (some 18) (.ext (.tmp 14) 1) none,
  MI.op (some 1) (.mov (.tmp 17)) none,
  MI.op (some 2) (.mov (.tmp 18)) none]
def m12_2 : MCode :=
 (.cond (.tmp 46)
  (.seq
   (.reg
    [MI.op (some 0) (.mov (.c (.bool false))) none])
   .ret)
  .skip)
def m12_3 : List MI :=
 [MI.op (some 63) (.mov (.tmp 65)) none,
  MI.op (some 66) (.ext (.tmp 63) 0) none,
  MI.op (some 67) (.ext (.tmp 63) 1) none,
  MI.op (some 8) (.mov (.tmp 66)) none,
  MI.op (some 9) (.mov (.tmp 67)) none]
def m12_4 : List MI :=
 [MI.op (some 68) (.mov (.tmp 70)) none,
  MI.op (some 71) (.ext (.tmp 68) 0) none,
  MI.op (some 72) (.ext (.tmp 68) 1) none,
  MI.op (some 10) (.mov (.tmp 71)) none,
  MI.op (some 11) (.mov (.tmp 72)) none]
def m12_5 : List MI :=
 [MI.op (some 73) (.mov (.tmp 75)) none,
  MI.op (some 76) (.ext (.tmp 73) 0) none,
  MI.op (some 77) (.ext (.tmp 73) 1) none,
  MI.op (some 12) (.mov (.tmp 76)) none,
  MI.op (some 13) (.mov (.tmp 77)) none]
def m12_6 : List MI :=
 [MI.op (some 129) (.len (.tmp 128)) (some (126, true)),
  MI.op (some 130) (.bin .eql (.tmp 129) (.c (.int .i64 1))) (some (126, true)),
  MI.op (some 131) (.pick (.tmp 126) (.tmp 130) (.c (.bool false))) none,
  MI.op (some 0) (.mov (.tmp 131)) none]
def m12_7 : List MI :=
 (MI.op (some 111) (.len (.tmp 110)) (some (105, true)) ::
  MI.op (some 112) (.bin .eql (.tmp 111) (.c (.int .i64 0))) (some (105, true)) ::
  MI.op (some 113) (.pick (.tmp 105) (.tmp 112) (.c (.bool false))) none ::
  MI.op (some 114) (.mov (.tmp 113)) none ::
  MI.op (some 115) (.mov (.tmp 11)) (some (114, true)) ::
  MI.op (some 116) (.bin .eql (.tmp 115) (.c (.int .i64 16))) (some (114, true)) ::
  MI.op (some 117) (.pick (.tmp 114) (.tmp 116) (.c (.bool false))) none ::
  MI.op (some 118) (.mov (.tmp 117)) none ::
  MI.op (some 119) (.mov (.tmp 13)) (some (118, true)) ::
  MI.op (some 120) (.bin .eql (.tmp 119) (.c (.int .i64 0))) (some (118, true)) ::
  MI.op (some 121) (.pick (.tmp 118) (.tmp 120) (.c (.bool false))) none ::
  MI.op (some 122) (.mov (.tmp 121)) none ::
  MI.op (some 123) (.mov (.tmp 12)) (some (122, true)) ::
  MI.op (some 124) (.bin .eql (.tmp 123) (.c (.int .i64 1))) (some (122, true)) ::
  MI.op (some 125) (.pick (.tmp 122) (.tmp 124) (.c (.bool false))) none ::
  MI.op (some 126) (.mov (.tmp 125)) none ::
  MI.op (some 127) (.load true 32 (.tmp 3)) (some (126, true)) ::
  MI.op (some 128) (.call 16 [(.tmp 127)]) (some (126, true)) ::
  m12_6)
def m12_8 : MCode :=
 (.seq
  (.reg
   (MI.op (some 78) (.mov (.tmp 5)) none ::
    MI.op (some 79) (.bin .eql (.tmp 78) (.c (.int .i64 0))) none ::
    MI.op (some 80) (.mov (.tmp 79)) none ::
    MI.op (some 81) (.mov (.tmp 4)) (some (80, true)) ::
    MI.op (some 82) (.len (.tmp 81)) (some (80, true)) ::
    MI.op (some 83) (.bin .eql (.tmp 82) (.c (.int .i64 1))) (some (80, true)) ::
    MI.op (some 84) (.pick (.tmp 80) (.tmp 83) (.c (.bool false))) none ::
    MI.op (some 85) (.mov (.tmp 84)) none ::
    MI.op (some 86) (.mov (.tmp 4)) (some (85, true)) ::
    MI.op (some 87) (.ixSl 33 (.tmp 86) (.c (.int .i64 0))) (some (85, true)) ::
    MI.op (some 88) (.fa 0 (.tmp 87)) (some (85, true)) ::
    MI.op (some 89) (.load false 1 (.tmp 88)) (some (85, true)) ::
    MI.op (some 90) (.bin .eql (.tmp 89) (.c (.int .i64 2))) (some (85, true)) ::
    MI.op (some 91) (.pick (.tmp 85) (.tmp 90) (.c (.bool false))) none ::
    MI.op (some 92) (.mov (.tmp 91)) none ::
    MI.op (some 93) (.mov (.tmp 7)) (some (92, true)) ::
    MI.op (some 94) (.bin .eql (.tmp 93) (.c (.int .i64 17))) (some (92, true)) ::
    MI.op (some 95) (.pick (.tmp 92) (.tmp 94) (.c (.bool false))) none ::
    MI.op (some 96) (.mov (.tmp 95)) none ::
    MI.op (some 97) (.mov (.tmp 9)) (some (96, true)) ::
    MI.op (some 98) (.bin .eql (.tmp 97) (.c (.int .i64 0))) (some (96, true)) ::
    MI.op (some 99) (.pick (.tmp 96) (.tmp 98) (.c (.bool false))) none ::
    MI.op (some 100) (.mov (.tmp 99)) none ::
    MI.op (some 101) (.mov (.tmp 8)) (some (100, true)) ::
    MI.op (some 102) (.len (.tmp 101)) (some (100, true)) ::
    MI.op (some 103) (.bin .eql (.tmp 102) (.c (.int .i64 1))) (some (100, true)) ::
    MI.op (some 104) (.pick (.tmp 100) (.tmp 103) (.c (.bool false))) none ::
    MI.op (some 105) (.mov (.tmp 104)) none ::
    MI.op (some 106) (.mov (.tmp 8)) (some (105, true)) ::
    MI.op (some 107) (.ixSl 33 (.tmp 106) (.c (.int .i64 0))) (some (105, true)) ::
    MI.op (some 108) (.fa 1 (.tmp 107)) (some (105, true)) ::
    MI.op (some 109) (.load true 32 (.tmp 108)) (some (105, true)) ::
    MI.op (some 110) (.call 16 [(.tmp 109)]) (some (105, true)) ::
    m12_7))
  .ret)
def m12_9 : MCode :=
 (.seq
  (.reg
   (MI.op (some 74) (.load true 32 (.tmp 3)) none ::
    MI.op (some 75) (.call 13 [(.tmp 74), (.c (.str [97, 98])), (.c (.int .i64 0))]) none ::
    m12_5))
  m12_8)
def m12_10 : MCode :=
 (.seq
  (.reg
   (MI.op (some 69) (.load true 32 (.tmp 3)) none ::
    MI.op (some 70) (.call 21 [(.tmp 69), (.c (.str [97, 98])), (.c (.int .i64 1))]) none ::
    m12_4))
  m12_9)
def m12_11 : MCode :=
 (.seq
  (.reg
   (MI.op (some 64) (.load true 32 (.tmp 3)) none ::
    MI.op (some 65) (.call 23 [(.tmp 64), (.c (.str [97, 98]))]) none ::
    m12_3))
  m12_10)
def m12_12 : MCode :=
 (.seq
  (.drw
   [MI.op (some 58) (.load true 32 (.tmp 3)) none,
    MI.op (some 59) (.call 43 [(.c (.int .u8 7))]) none,
    MI.op (some 60) (.call 18 [(.tmp 58), (.c (.str [97, 98])), (.c (.int .i64 2)), (.tmp 59)]) none,
    MI.op (some 57) (.mov (.tmp 60)) none,
    MI.op (some 61) (.ext (.tmp 57) 0) none,
    MI.op (some 62) (.ext (.tmp 57) 1) none,
    MI.op (some 6) (.mov (.tmp 61)) none]
   [MI.op (some 7) (.mov (.tmp 62)) none])
  m12_11)
def m12_13 : MCode :=
 (.seq
  (.drw
   [MI.op (some 52) (.load true 32 (.tmp 3)) none,
    MI.op (some 53) (.call 43 [(.c (.int .u8 7))]) none,
    MI.op (some 54) (.call 18 [(.tmp 52), (.c (.str [97, 98])), (.c (.int .i64 1)), (.tmp 53)]) none,
    MI.op (some 51) (.mov (.tmp 54)) none,
    MI.op (some 55) (.ext (.tmp 51) 0) none,
    MI.op (some 56) (.ext (.tmp 51) 1) none,
    MI.op (some 4) (.mov (.tmp 55)) none]
   [MI.op (some 5) (.mov (.tmp 56)) none])
  m12_12)
def m12_14 : MCode :=
 (.seq
  (.reg
   [MI.op (some 47) (.mov (.tmp 1)) none,
    MI.op (some 48) (.ixSl 33 (.tmp 47) (.c (.int .i64 2))) none,
    MI.op (some 49) (.fa 1 (.tmp 48)) none,
    MI.op (some 50) (.load true 32 (.tmp 49)) none,
    MI.op (some 3) (.alloc (List.replicate 32 (.int .u8 0))) none,
    MI.op none (.store 32 (.tmp 3) (.tmp 50)) none])
  m12_13)
def m12_15 : MCode :=
 (.seq
  (.seq
   (.reg
    [MI.op (some 19) (.mov (.tmp 2)) none,
     MI.op (some 20) (.bin .neq (.tmp 19) (.c (.int .i64 0))) none,
     MI.op (some 21) (.mov (.tmp 20)) none,
     MI.op (some 22) (.mov (.tmp 1)) (some (21, false)),
     MI.op (some 23) (.len (.tmp 22)) (some (21, false)),
     MI.op (some 24) (.bin .neq (.tmp 23) (.c (.int .i64 3))) (some (21, false)),
     MI.op (some 25) (.pick (.tmp 21) (.c (.bool true)) (.tmp 24)) none,
     MI.op (some 26) (.mov (.tmp 25)) none,
     MI.op (some 27) (.mov (.tmp 1)) (some (26, false)),
     MI.op (some 28) (.ixSl 33 (.tmp 27) (.c (.int .i64 0))) (some (26, false)),
     MI.op (some 29) (.fa 0 (.tmp 28)) (some (26, false)),
     MI.op (some 30) (.load false 1 (.tmp 29)) (some (26, false)),
     MI.op (some 31) (.bin .neq (.tmp 30) (.c (.int .i64 1))) (some (26, false)),
     MI.op (some 32) (.pick (.tmp 26) (.c (.bool true)) (.tmp 31)) none,
     MI.op (some 33) (.mov (.tmp 32)) none,
     MI.op (some 34) (.mov (.tmp 1)) (some (33, false)),
     MI.op (some 35) (.ixSl 33 (.tmp 34) (.c (.int .i64 1))) (some (33, false)),
     MI.op (some 36) (.fa 0 (.tmp 35)) (some (33, false)),
     MI.op (some 37) (.load false 1 (.tmp 36)) (some (33, false)),
     MI.op (some 38) (.bin .neq (.tmp 37) (.c (.int .i64 2))) (some (33, false)),
     MI.op (some 39) (.pick (.tmp 33) (.c (.bool true)) (.tmp 38)) none,
     MI.op (some 40) (.mov (.tmp 39)) none,
     MI.op (some 41) (.mov (.tmp 1)) (some (40, false)),
     MI.op (some 42) (.ixSl 33 (.tmp 41) (.c (.int .i64 2))) (some (40, false)),
     MI.op (some 43) (.fa 0 (.tmp 42)) (some (40, false)),
     MI.op (some 44) (.load false 1 (.tmp 43)) (some (40, false)),
     MI.op (some 45) (.bin .neq (.tmp 44) (.c (.int .i64 0))) (some (40, false)),
     MI.op (some 46) (.pick (.tmp 40) (.c (.bool true)) (.tmp 45)) none])
  m12_2)
  m12_14)
def m12_16 : MCode :=
 (.seq
  (.reg
   (MI.op (some 15) (.build (List.replicate 32 (.int .u8 0)) []) none ::
    MI.op (some 16) (.call 21 [(.tmp 15), (.c (.str [97, 98])), (.c (.int .i64 2))]) none ::
    m12_1))
  m12_15)
def m12_r : List MRes := [.tmp 0]
def m12_b : MCode :=
 (.seq
  (.reg
   [MI.op (some 0) (.mov (.c (.bool false))) none])
  m12_16)
def m12 : MFunc := ⟨0, 132, m12_r, m12_b⟩
theorem c12 : compF Tryd.prog 12 m12 = some m12 := by kernel_rfl

/- tollhouse/ops.Place -/
def m13_1 : MCode :=
 (.seq
  (.reg
   [MI.op (some 6) (.mov (.c (.int .i64 0))) none,
    MI.op (some 7) (.mov (.c (.int .i64 16))) none])
  .ret)
def m13_2 : MCode :=
 (.seq
  (.reg
   [MI.op (some 6) (.mov (.c (.int .i64 0))) none,
    MI.op (some 7) (.mov (.c (.int .i64 17))) none])
  .ret)
def m13_3 : MCode :=
 (.cond (.tmp 18)
  m13_2
  .skip)
def m13_4 : MCode :=
 (.seq
  (.reg
   [MI.op (some 19) (.mov (.tmp 2)) none,
    MI.op (some 20) (.bin .lss (.tmp 19) (.c (.int .i64 0))) none,
    MI.op (some 21) (.mov (.tmp 20)) none,
    MI.op (some 22) (.mov (.tmp 2)) (some (21, false)),
    MI.op (some 23) (.mov (.tmp 8)) (some (21, false)),
    MI.op (some 24) (.mov (.tmp 9)) (some (21, false)),
    MI.op (some 25) (.ixSl 2 (.tmp 23) (.tmp 24)) (some (21, false)),
    MI.op (some 26) (.fa 1 (.tmp 25)) (some (21, false)),
    MI.op (some 27) (.load false 1 (.tmp 26)) (some (21, false)),
    MI.op (some 28) (.len (.tmp 27)) (some (21, false)),
    MI.op (some 29) (.bin .geq (.tmp 22) (.tmp 28)) (some (21, false)),
    MI.op (some 30) (.pick (.tmp 21) (.c (.bool true)) (.tmp 29)) none,
    MI.op (some 18) (.mov (.tmp 30)) none])
  m13_3)
def m13_5 : MCode :=
 (.cond (.tmp 15)
  m13_1
  m13_4)
def m13_6 : MCode :=
 (.seq
  (.reg
   [MI.op (some 31) (.mov (.tmp 8)) none,
    MI.op (some 32) (.mov (.tmp 9)) none,
    MI.op (some 33) (.ixSl 2 (.tmp 31) (.tmp 32)) none,
    MI.op (some 34) (.fa 1 (.tmp 33)) none,
    MI.op (some 35) (.load false 1 (.tmp 34)) none,
    MI.op (some 36) (.mov (.tmp 2)) none,
    MI.op (some 37) (.ixSl 1 (.tmp 35) (.tmp 36)) none,
    MI.op (some 38) (.load false 1 (.tmp 37)) none,
    MI.op (some 6) (.mov (.tmp 38)) none,
    MI.op (some 7) (.mov (.c (.int .i64 0))) none])
  .ret)
def m13_7 : MCode :=
 (.seq
  (.blk 0
   (.seq
    (.reg
     [MI.op (some 16) (.mov (.tmp 9)) none,
      MI.op (some 17) (.bin .lss (.tmp 16) (.c (.int .i64 0))) none,
      MI.op (some 15) (.mov (.tmp 17)) none])
  m13_5))
  m13_6)
def m13_8 : MCode :=
 (.seq
  (.reg
   [MI.op (some 12) (.mov (.tmp 1)) none,
    MI.op (some 13) (.mov (.tmp 8)) none,
    MI.op (some 14) (.call 44 [(.tmp 12), (.tmp 13)]) none,
    MI.op (some 9) (.mov (.tmp 14)) none])
  m13_7)
def m13_9 : MCode :=
 (.seq
  (.reg
   [MI.op (some 10) (.load true 32 (.tmp 3)) none,
    MI.op (some 11) (.call 16 [(.tmp 10)]) none,
    MI.op (some 8) (.mov (.tmp 11)) none])
  m13_8)
def m13_r : List MRes := [.tmp 6, .tmp 7]
def m13_b : MCode :=
 (.seq
  (.reg
   [MI.op (some 3) (.box (.tmp 0)) none,
    MI.op (some 6) (.mov (.c (.int .i64 0))) none,
    MI.op (some 7) (.mov (.c (.int .i64 0))) none])
  m13_9)
def m13 : MFunc := ⟨3, 39, m13_r, m13_b⟩
theorem c13 : compF Tryd.prog 13 m13 = some m13 := by kernel_rfl

/- tollhouse/tollhouseref13.Place -/
/- tollhouse/ops.Volumes -/
def m16_1 : List MI :=
 [MI.op (some 5) (.mov (.tmp 7)) none,
  MI.op (some 8) (.ext (.tmp 5) 0) none,
  MI.op (some 9) (.ext (.tmp 5) 1) none,
  MI.op (some 3) (.mov (.tmp 8)) none,
  MI.op (some 4) (.mov (.tmp 9)) none]
def m16_2 : MCode :=
 (.seq
  (.reg
   [MI.op (some 10) (.mov (.tmp 3)) none,
    MI.op (some 2) (.mov (.tmp 10)) none])
  .ret)
def m16_3 : MCode :=
 (.seq
  (.reg
   (MI.op (some 6) (.load true 32 (.tmp 1)) none ::
    MI.op (some 7) (.call 28 [(.tmp 6)]) none ::
    m16_1))
  m16_2)
def m16_r : List MRes := [.tmp 2]
def m16_b : MCode :=
 (.seq
  (.reg
   [MI.op (some 1) (.box (.tmp 0)) none,
    MI.op (some 2) (.mov (.c (.sl .full 0 []))) none])
  m16_3)
def m16 : MFunc := ⟨1, 11, m16_r, m16_b⟩
theorem c16 : compF Tryd.prog 16 m16 = some m16 := by kernel_rfl

/- tollhouse/tollhouseref13.Volumes -/
/- tollhouse/ops.Write -/
def m18_1 : List MI :=
 [MI.op (some 12) (.mov (.tmp 16)) none,
  MI.op (some 17) (.ext (.tmp 12) 0) none,
  MI.op (some 18) (.ext (.tmp 12) 1) none,
  MI.op (some 10) (.mov (.tmp 17)) none,
  MI.op (some 11) (.mov (.tmp 18)) none]
def m18_2 : MCode :=
 (.seq
  (.reg
   [MI.op (some 21) (.mov (.tmp 11)) none,
    MI.op (some 8) (.mov (.c (.sl .full 0 []))) none,
    MI.op (some 9) (.mov (.tmp 21)) none])
  .ret)
def m18_3 : MCode :=
 (.cond (.tmp 20)
  m18_2
  .skip)
def m18_4 : MCode :=
 (.seq
  (.reg
   [MI.op (some 22) (.mov (.tmp 10)) none,
    MI.op (some 23) (.load true 32 (.tmp 7)) none,
    MI.op (some 24) (.build [(.int .i64 0), (.int .u8 0), (.int .u8 0), (.int .u8 0), (.int .u8 0), (.int .u8 0), (.int .u8 0), (.int .u8 0), (.int .u8 0), (.int .u8 0), (.int .u8 0), (.int .u8 0), (.int .u8 0), (.int .u8 0), (.int .u8 0), (.int .u8 0), (.int .u8 0), (.int .u8 0), (.int .u8 0), (.int .u8 0), (.int .u8 0), (.int .u8 0), (.int .u8 0), (.int .u8 0), (.int .u8 0), (.int .u8 0), (.int .u8 0), (.int .u8 0), (.int .u8 0), (.int .u8 0), (.int .u8 0), (.int .u8 0), (.int .u8 0)] [(0, 1, (.tmp 22)), (1, 32, (.tmp 23))]) none,
    MI.op (some 25) (.bsl 1 33 [(.int .i64 0), (.int .u8 0), (.int .u8 0), (.int .u8 0), (.int .u8 0), (.int .u8 0), (.int .u8 0), (.int .u8 0), (.int .u8 0), (.int .u8 0), (.int .u8 0), (.int .u8 0), (.int .u8 0), (.int .u8 0), (.int .u8 0), (.int .u8 0), (.int .u8 0), (.int .u8 0), (.int .u8 0), (.int .u8 0), (.int .u8 0), (.int .u8 0), (.int .u8 0), (.int .u8 0), (.int .u8 0), (.int .u8 0), (.int .u8 0), (.int .u8 0), (.int .u8 0), (.int .u8 0), (.int .u8 0), (.int .u8 0), (.int .u8 0)] [(0, 33, (.tmp 24))]) none,
    MI.op (some 8) (.mov (.tmp 25)) none,
    MI.op (some 9) (.mov (.c (.int .i64 0))) none])
  .ret)
def m18_5 : MCode :=
 (.seq
  (.seq
   (.reg
    [MI.op (some 19) (.mov (.tmp 11)) none,
     MI.op (some 20) (.bin .neq (.tmp 19) (.c (.int .i64 0))) none])
  m18_3)
  m18_4)
def m18_6 : MCode :=
 (.seq
  (.reg
   (MI.op (some 13) (.load true 32 (.tmp 4)) none ::
    MI.op (some 14) (.mov (.tmp 1)) none ::
    MI.op (some 15) (.mov (.tmp 2)) none ::
    MI.op (some 16) (.call 13 [(.tmp 13), (.tmp 14), (.tmp 15)]) none ::
    m18_1))
  m18_5)
def m18_r : List MRes := [.tmp 8, .tmp 9]
def m18_b : MCode :=
 (.seq
  (.reg
   [MI.op (some 4) (.box (.tmp 0)) none,
    MI.op (some 7) (.box (.tmp 3)) none,
    MI.op (some 8) (.mov (.c (.sl .full 0 []))) none,
    MI.op (some 9) (.mov (.c (.int .i64 0))) none])
  m18_6)
def m18 : MFunc := ⟨4, 26, m18_r, m18_b⟩
theorem c18 : compF Tryd.prog 18 m18 = some m18 := by kernel_rfl

/- tollhouse/tollhouseref13.Write -/
/- tollhouse/tollhousekeep.Puts -/
/- tollhouse/ops.Make -/
def m21_1 : List MI :=
 [MI.op (some 20) (.un .not (.tmp 19)) none,
  MI.op (some 16) (.mov (.tmp 20)) none]
def m21_2 : MCode :=
 (.seq
  (.reg
   [MI.op (some 6) (.mov (.c (.sl .full 0 []))) none,
    MI.op (some 7) (.mov (.c (.int .i64 11))) none])
  .ret)
def m21_3 : List MI :=
 [MI.op (some 25) (.bin .geq (.tmp 24) (.c (.int .i64 0))) none,
  MI.op (some 21) (.mov (.tmp 25)) none]
def m21_4 : MCode :=
 (.seq
  (.reg
   [MI.op (some 6) (.mov (.c (.sl .full 0 []))) none,
    MI.op (some 7) (.mov (.c (.int .i64 16))) none])
  .ret)
def m21_5 : MCode :=
 (.seq
  (.reg
   [MI.op (some 6) (.mov (.c (.sl .full 0 []))) none,
    MI.op (some 7) (.mov (.c (.int .i64 17))) none])
  .ret)
def m21_6 : MCode :=
 (.seq
  (.reg
   [MI.op (some 6) (.mov (.c (.sl .full 0 []))) none,
    MI.op (some 7) (.mov (.c (.int .i64 18))) none])
  .ret)
def m21_7 : MCode :=
 (.cond (.tmp 33)
  m21_6
  .skip)
def m21_8 : MCode :=
 (.seq
  (.reg
   [MI.op (some 34) (.mov (.tmp 8)) none,
    MI.op (some 35) (.len (.tmp 34)) none,
    MI.op (some 36) (.bin .geq (.tmp 35) (.c (.int .i64 3))) none,
    MI.op (some 33) (.mov (.tmp 36)) none])
  m21_7)
def m21_9 : MCode :=
 (.cond (.tmp 26)
  m21_5
  m21_8)
def m21_10 : MCode :=
 (.seq
  (.reg
   [MI.op (some 27) (.mov (.tmp 2)) none,
    MI.op (some 28) (.bin .lss (.tmp 27) (.c (.int .i64 1))) none,
    MI.op (some 29) (.mov (.tmp 28)) none,
    MI.op (some 30) (.mov (.tmp 2)) (some (29, false)),
    MI.op (some 31) (.bin .gtr (.tmp 30) (.c (.int .i64 4))) (some (29, false)),
    MI.op (some 32) (.pick (.tmp 29) (.c (.bool true)) (.tmp 31)) none,
    MI.op (some 26) (.mov (.tmp 32)) none])
  m21_9)
def m21_11 : MCode :=
 (.cond (.tmp 21)
  m21_4
  m21_10)
def m21_12 : MCode :=
 (.seq
  (.reg
   (MI.op (some 22) (.mov (.tmp 1)) none ::
    MI.op (some 23) (.mov (.tmp 8)) none ::
    MI.op (some 24) (.call 44 [(.tmp 22), (.tmp 23)]) none ::
    m21_3))
  m21_11)
def m21_13 : MCode :=
 (.cond (.tmp 16)
  m21_2
  m21_12)
def m21_14 : List MI :=
 [MI.op (some 37) (.mov (.tmp 40)) none,
  MI.op (some 41) (.ext (.tmp 37) 0) none,
  MI.op (some 42) (.ext (.tmp 37) 1) none,
  MI.op (some 9) (.mov (.tmp 41)) none,
  MI.op (some 10) (.mov (.tmp 42)) none]
def m21_15 : MCode :=
 (.seq
  (.reg
   [MI.op (some 45) (.mov (.tmp 10)) none,
    MI.op (some 6) (.mov (.c (.sl .full 0 []))) none,
    MI.op (some 7) (.mov (.tmp 45)) none])
  .ret)
def m21_16 : MCode :=
 (.cond (.tmp 44)
  m21_15
  .skip)
def m21_17 : MCode :=
 (.reg
  [MI.op (some 52) (.mov (.tmp 11)) none,
   MI.op (some 53) (.mov (.tmp 13)) none,
   MI.op (some 54) (.build [(.int .i64 0), (.int .u8 0), (.int .u8 0), (.int .u8 0), (.int .u8 0), (.int .u8 0), (.int .u8 0), (.int .u8 0), (.int .u8 0), (.int .u8 0), (.int .u8 0), (.int .u8 0), (.int .u8 0), (.int .u8 0), (.int .u8 0), (.int .u8 0), (.int .u8 0), (.int .u8 0), (.int .u8 0), (.int .u8 0), (.int .u8 0), (.int .u8 0), (.int .u8 0), (.int .u8 0), (.int .u8 0), (.int .u8 0), (.int .u8 0), (.int .u8 0), (.int .u8 0), (.int .u8 0), (.int .u8 0), (.int .u8 0), (.int .u8 0)] [(0, 1, (.tmp 53))]) none,
   MI.op (some 55) (.bsl 1 33 [(.int .i64 0), (.int .u8 0), (.int .u8 0), (.int .u8 0), (.int .u8 0), (.int .u8 0), (.int .u8 0), (.int .u8 0), (.int .u8 0), (.int .u8 0), (.int .u8 0), (.int .u8 0), (.int .u8 0), (.int .u8 0), (.int .u8 0), (.int .u8 0), (.int .u8 0), (.int .u8 0), (.int .u8 0), (.int .u8 0), (.int .u8 0), (.int .u8 0), (.int .u8 0), (.int .u8 0), (.int .u8 0), (.int .u8 0), (.int .u8 0), (.int .u8 0), (.int .u8 0), (.int .u8 0), (.int .u8 0), (.int .u8 0), (.int .u8 0)] [(0, 33, (.tmp 54))]) none,
   MI.op (some 56) (.app 33 40 (.tmp 52) (.tmp 55)) none,
   MI.op (some 11) (.mov (.tmp 56)) none])
def m21_18 : MCode :=
 (.seq
  (.blk 2
   (.seq
    (.reg
     [MI.op (some 50) (.ixSl 1 (.tmp 46) (.tmp 48)) none,
      MI.op (some 51) (.load false 1 (.tmp 50)) none,
      MI.op (some 13) (.mov (.tmp 51)) none])
  m21_17))
  (.reg
   [MI.op (some 57) (.bin .add (.tmp 48) (.c (.int .i64 1))) none,
    MI.op (some 48) (.mov (.tmp 57)) none]))
def m21_19 : MCode :=
 (.seq
  (.cond (.tmp 49)
   .skip
   (.exit 1))
  m21_18)
def m21_20 : MCode :=
 (.seq
  (.reg
   [MI.op (some 49) (.bin .lss (.tmp 48) (.tmp 47)) none])
  m21_19)
def m21_21 : MCode :=
 (.blk 1
  (.loop
  m21_20))
def m21_22 : List MI :=
 [MI.op (some 66) (.ext (.tmp 65) 0) none,
  MI.op (some 67) (.ext (.tmp 65) 1) none,
  MI.op (some 6) (.mov (.tmp 66)) none,
  MI.op (some 7) (.mov (.tmp 67)) none]
def m21_23 : MCode :=
 (.seq
  (.reg
   (MI.op (some 58) (.mov (.tmp 8)) none ::
    MI.op (some 59) (.mov (.tmp 1)) none ::
    MI.op (some 60) (.mov (.tmp 9)) none ::
    MI.op (some 61) (.build [(.str []), (.sl .full 0 [])] [(0, 1, (.tmp 59)), (1, 1, (.tmp 60))]) none ::
    MI.frz 61 ::
    MI.op (some 62) (.bsl 1 2 [(.str []), (.sl .full 0 [])] [(0, 2, (.tmp 61))]) none ::
    MI.op (some 63) (.app 2 40 (.tmp 58) (.tmp 62)) none ::
    MI.op (some 64) (.mov (.tmp 11)) none ::
    MI.op (some 65) (.calln 49 [(.tmp 63), (.tmp 64)]) none ::
    m21_22))
  .ret)
def m21_24 : MCode :=
 (.seq
  (.seq
   (.reg
    [MI.op (some 46) (.mov (.tmp 9)) none,
     MI.op (some 47) (.len (.tmp 46)) none,
     MI.op (some 48) (.mov (.c (.int .i64 0))) none])
  m21_21)
  m21_23)
def m21_25 : MCode :=
 (.seq
  (.reg
   [MI.op (some 11) (.mov (.c (.sl .full 0 []))) none])
  m21_24)
def m21_26 : MCode :=
 (.seq
  (.seq
   (.reg
    [MI.op (some 43) (.mov (.tmp 10)) none,
     MI.op (some 44) (.bin .neq (.tmp 43) (.c (.int .i64 0))) none])
  m21_16)
  m21_25)
def m21_27 : MCode :=
 (.seq
  (.reg
   (MI.op (some 38) (.mov (.tmp 2)) none ::
    MI.op (some 39) (.mov (.tmp 8)) none ::
    MI.op (some 40) (.call 48 [(.tmp 38), (.tmp 39)]) none ::
    m21_14))
  m21_26)
def m21_28 : MCode :=
 (.seq
  (.blk 0
   (.seq
    (.reg
     (MI.op (some 17) (.mov (.tmp 1)) none ::
      MI.op (some 18) (.bsl 1 1 [(.str [])] [(0, 1, (.tmp 17))]) none ::
      MI.op (some 19) (.call 47 [(.tmp 18)]) none ::
      m21_1))
  m21_13))
  m21_27)
def m21_29 : MCode :=
 (.seq
  (.reg
   [MI.op (some 14) (.load true 32 (.tmp 3)) none,
    MI.op (some 15) (.call 16 [(.tmp 14)]) none,
    MI.op (some 8) (.mov (.tmp 15)) none])
  m21_28)
def m21_r : List MRes := [.tmp 6, .tmp 7]
def m21_b : MCode :=
 (.seq
  (.reg
   [MI.op (some 3) (.box (.tmp 0)) none,
    MI.op (some 6) (.mov (.c (.sl .full 0 []))) none,
    MI.op (some 7) (.mov (.c (.int .i64 0))) none])
  m21_29)
def m21 : MFunc := ⟨3, 68, m21_r, m21_b⟩
theorem c21 : compF Tryd.prog 21 m21 = some m21 := by kernel_rfl

/- tollhouse/tollhouseref13.Make -/
/- tollhouse/ops.Gone -/
def m23_1 : MCode :=
 (.seq
  (.reg
   [MI.op (some 4) (.mov (.c (.sl .full 0 []))) none,
    MI.op (some 5) (.mov (.c (.int .i64 16))) none])
  .ret)
def m23_2 : MCode :=
 (.cond (.tmp 14)
  m23_1
  .skip)
def m23_3 : List MI :=
 [MI.op (some 21) (.ext (.tmp 20) 0) none,
  MI.op (some 22) (.ext (.tmp 20) 1) none,
  MI.op (some 4) (.mov (.tmp 21)) none,
  MI.op (some 5) (.mov (.tmp 22)) none]
def m23_4 : List MI :=
 (MI.op (some 20) (.calln 49 [(.tmp 19), (.c (.sl .full 0 []))]) none ::
  m23_3)
def m23_5 : MCode :=
 (.seq
  (.reg
   (MI.op (some 15) (.mov (.tmp 6)) none ::
    MI.op (some 16) (.mov (.tmp 7)) none ::
    MI.op (some 17) (.mov (.tmp 7)) none ::
    MI.op (some 18) (.bin .add (.tmp 17) (.c (.int .i64 1))) none ::
    MI.op (some 19) (.calln 53 [(.tmp 15), (.tmp 16), (.tmp 18)]) none ::
    m23_4))
  .ret)
def m23_6 : MCode :=
 (.seq
  (.seq
   (.reg
    [MI.op (some 13) (.mov (.tmp 7)) none,
     MI.op (some 14) (.bin .lss (.tmp 13) (.c (.int .i64 0))) none])
  m23_2)
  m23_5)
def m23_7 : MCode :=
 (.seq
  (.reg
   [MI.op (some 10) (.mov (.tmp 1)) none,
    MI.op (some 11) (.mov (.tmp 6)) none,
    MI.op (some 12) (.call 44 [(.tmp 10), (.tmp 11)]) none,
    MI.op (some 7) (.mov (.tmp 12)) none])
  m23_6)
def m23_8 : MCode :=
 (.seq
  (.reg
   [MI.op (some 8) (.load true 32 (.tmp 2)) none,
    MI.op (some 9) (.call 16 [(.tmp 8)]) none,
    MI.op (some 6) (.mov (.tmp 9)) none])
  m23_7)
def m23_r : List MRes := [.tmp 4, .tmp 5]
def m23_b : MCode :=
 (.seq
  (.reg
   [MI.op (some 2) (.box (.tmp 0)) none,
    MI.op (some 4) (.mov (.c (.sl .full 0 []))) none,
    MI.op (some 5) (.mov (.c (.int .i64 0))) none])
  m23_8)
def m23 : MFunc := ⟨2, 23, m23_r, m23_b⟩
theorem c23 : compF Tryd.prog 23 m23 = some m23 := by kernel_rfl

/- tollhouse/tollhouseref13.Gone -/
/- tollhouse/tollhousekeep.Fill -/
def m43_1 : MCode :=
 (.seq
  (.blk 1
   (.reg
    [MI.op (some 9) (.mov (.tmp 4)) none,
     MI.op (some 10) (.mov (.tmp 0)) none,
     MI.op (some 11) (.ixArr 32 1 (.tmp 3) (.tmp 9)) none,
     MI.op none (.store 1 (.tmp 11) (.tmp 10)) none]))
  (.reg
   [MI.op (some 7) (.mov (.tmp 4)) none,
    MI.op (some 8) (.bin .add (.tmp 7) (.c (.int .i64 1))) none,
    MI.op (some 4) (.mov (.tmp 8)) none]))
def m43_2 : MCode :=
 (.seq
  (.seq
   (.reg
    [MI.op (some 5) (.mov (.tmp 4)) none,
     MI.op (some 6) (.bin .lss (.tmp 5) (.c (.int .i64 32))) none])
   (.cond (.tmp 6)
    .skip
    (.exit 0)))
  m43_1)
def m43_3 : MCode :=
 (.blk 0
  (.loop
  m43_2))
def m43_4 : MCode :=
 (.seq
  (.reg
   [MI.op (some 12) (.load true 32 (.tmp 3)) none,
    MI.op none (.store 32 (.tmp 2) (.tmp 12)) none])
  .ret)
def m43_5 : MCode :=
 (.seq
  (.seq
   (.reg
    [MI.op (some 4) (.mov (.c (.int .i64 0))) none])
  m43_3)
  m43_4)
def m43_6 : MCode :=
 (.seq
  (.reg
   [MI.op (some 3) (.alloc (List.replicate 32 (.int .u8 0))) none])
  m43_5)
def m43_r : List MRes := [.cell 2 true 32]
def m43_b : MCode :=
 (.seq
  (.reg
   [MI.op (some 2) (.alloc (List.replicate 32 (.int .u8 0))) none])
  m43_6)
def m43 : MFunc := ⟨1, 13, m43_r, m43_b⟩
theorem c43 : compF Tryd.prog 43 m43 = some m43 := by kernel_rfl

/- tollhouse/ops.tabled -/
def m49_1 : List MI :=
 [MI.op (some 8) (.mov (.tmp 10)) none,
  MI.op (some 11) (.ext (.tmp 8) 0) none,
  MI.op (some 12) (.ext (.tmp 8) 1) none,
  MI.op (some 6) (.alloc (List.replicate 32 (.int .u8 0))) none,
  MI.op none (.store 32 (.tmp 6) (.tmp 11)) none,
  MI.op (some 7) (.mov (.tmp 12)) none]
def m49_2 : MCode :=
 (.seq
  (.reg
   [MI.op (some 15) (.mov (.tmp 7)) none,
    MI.op (some 4) (.mov (.c (.sl .full 0 []))) none,
    MI.op (some 5) (.mov (.tmp 15)) none])
  .ret)
def m49_3 : MCode :=
 (.cond (.tmp 14)
  m49_2
  .skip)
def m49_4 : MCode :=
 (.seq
  (.reg
   [MI.op (some 16) (.mov (.tmp 1)) none,
    MI.op (some 17) (.load true 32 (.tmp 6)) none,
    MI.op (some 18) (.build [(.int .i64 0), (.int .u8 0), (.int .u8 0), (.int .u8 0), (.int .u8 0), (.int .u8 0), (.int .u8 0), (.int .u8 0), (.int .u8 0), (.int .u8 0), (.int .u8 0), (.int .u8 0), (.int .u8 0), (.int .u8 0), (.int .u8 0), (.int .u8 0), (.int .u8 0), (.int .u8 0), (.int .u8 0), (.int .u8 0), (.int .u8 0), (.int .u8 0), (.int .u8 0), (.int .u8 0), (.int .u8 0), (.int .u8 0), (.int .u8 0), (.int .u8 0), (.int .u8 0), (.int .u8 0), (.int .u8 0), (.int .u8 0), (.int .u8 0)] [(1, 32, (.tmp 17))]) none,
    MI.op (some 19) (.bsl 1 33 [(.int .i64 0), (.int .u8 0), (.int .u8 0), (.int .u8 0), (.int .u8 0), (.int .u8 0), (.int .u8 0), (.int .u8 0), (.int .u8 0), (.int .u8 0), (.int .u8 0), (.int .u8 0), (.int .u8 0), (.int .u8 0), (.int .u8 0), (.int .u8 0), (.int .u8 0), (.int .u8 0), (.int .u8 0), (.int .u8 0), (.int .u8 0), (.int .u8 0), (.int .u8 0), (.int .u8 0), (.int .u8 0), (.int .u8 0), (.int .u8 0), (.int .u8 0), (.int .u8 0), (.int .u8 0), (.int .u8 0), (.int .u8 0), (.int .u8 0)] [(0, 33, (.tmp 18))]) none,
    MI.op (some 20) (.app 33 40 (.tmp 16) (.tmp 19)) none,
    MI.op (some 4) (.mov (.tmp 20)) none,
    MI.op (some 5) (.mov (.c (.int .i64 0))) none])
  .ret)
def m49_5 : MCode :=
 (.seq
  (.seq
   (.reg
    [MI.op (some 13) (.mov (.tmp 7)) none,
     MI.op (some 14) (.bin .neq (.tmp 13) (.c (.int .i64 0))) none])
  m49_3)
  m49_4)
def m49_6 : MCode :=
 (.seq
  (.reg
   (MI.op (some 9) (.mov (.tmp 0)) none ::
    MI.op (some 10) (.call 26 [(.tmp 9)]) none ::
    m49_1))
  m49_5)
def m49_r : List MRes := [.tmp 4, .tmp 5]
def m49_b : MCode :=
 (.seq
  (.reg
   [MI.op (some 4) (.mov (.c (.sl .full 0 []))) none,
    MI.op (some 5) (.mov (.c (.int .i64 0))) none])
  m49_6)
def m49 : MFunc := ⟨2, 21, m49_r, m49_b⟩
theorem c49 : compF Tryd.prog 49 m49 = some m49 := by kernel_rfl

end Go.Proofs.YtilbipknodpmmaaDoor
