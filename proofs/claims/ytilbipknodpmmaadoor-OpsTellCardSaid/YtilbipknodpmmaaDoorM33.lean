/- The loaded functions as texts of the ideal machine (written by a program of ours), and that they are the loaded ones. -/
import Derived.Test.YtilbipknodpmmaaDoorE31
import Derived.Test.YtilbipknodpmmaaDoorProg
set_option linter.unusedVariables false
set_option linter.unusedSimpArgs false
set_option linter.unusedSectionVars false
namespace Go.Proofs.YtilbipknodpmmaaDoor
open Go.RowKit

/- tollhouse/tollhouselaw13.OpsTell -/
def m3_1 : MCode :=
 (.seq
  (.reg
   [MI.op (some 15) (.call 12 []) none,
    MI.op (some 4) (.mov (.tmp 15)) none])
  .ret)
def m3_2 : MCode :=
 (.cond (.tmp 14)
  m3_1
  .skip)
def m3_3 : List MI :=
 [MI.op (some 16) (.mov (.tmp 22)) none,
  MI.op (some 23) (.ext (.tmp 16) 0) none,
  MI.op (some 24) (.ext (.tmp 16) 1) none,
  MI.op (some 5) (.mov (.tmp 23)) none,
  MI.op (some 6) (.mov (.tmp 24)) none]
def m3_4 : List MI :=
 [MI.op (some 25) (.mov (.tmp 31)) none,
  MI.op (some 32) (.ext (.tmp 25) 0) none,
  MI.op (some 33) (.ext (.tmp 25) 1) none,
  MI.op (some 7) (.mov (.tmp 32)) none,
  MI.op (some 8) (.mov (.tmp 33)) none]
def m3_5 : MCode :=
 (.cond (.tmp 49)
  (.seq
   (.reg
    [MI.op (some 4) (.mov (.c (.bool false))) none])
   .ret)
  .skip)
def m3_6 : List MI :=
 [MI.op (some 50) (.mov (.tmp 58)) none,
  MI.op (some 59) (.ext (.tmp 50) 0) none,
  MI.op (some 60) (.ext (.tmp 50) 1) none,
  MI.op (some 9) (.mov (.tmp 59)) none,
  MI.op (some 6) (.mov (.tmp 60)) none]
def m3_7 : List MI :=
 [MI.op (some 61) (.mov (.tmp 69)) none,
  MI.op (some 70) (.ext (.tmp 61) 0) none,
  MI.op (some 71) (.ext (.tmp 61) 1) none,
  MI.op (some 10) (.mov (.tmp 70)) none,
  MI.op (some 8) (.mov (.tmp 71)) none]
def m3_8 : List MI :=
 [MI.op (some 75) (.un .not (.tmp 74)) none,
  MI.op (some 76) (.mov (.tmp 75)) none,
  MI.op (some 77) (.mov (.tmp 6)) (some (76, false)),
  MI.op (some 78) (.mov (.tmp 8)) (some (76, false)),
  MI.op (some 79) (.bin .neq (.tmp 77) (.tmp 78)) (some (76, false)),
  MI.op (some 80) (.pick (.tmp 76) (.c (.bool true)) (.tmp 79)) none]
def m3_9 : MCode :=
 (.cond (.tmp 80)
  (.seq
   (.reg
    [MI.op (some 4) (.mov (.c (.bool false))) none])
   .ret)
  .skip)
def m3_10 : List MI :=
 [MI.op (some 81) (.mov (.tmp 87)) none,
  MI.op (some 88) (.ext (.tmp 81) 0) none,
  MI.op (some 89) (.ext (.tmp 81) 1) none,
  MI.op (some 9) (.mov (.tmp 88)) none,
  MI.op (some 6) (.mov (.tmp 89)) none]
def m3_11 : List MI :=
 [MI.op (some 90) (.mov (.tmp 96)) none,
  MI.op (some 97) (.ext (.tmp 90) 0) none,
  MI.op (some 98) (.ext (.tmp 90) 1) none,
  MI.op (some 10) (.mov (.tmp 97)) none,
  MI.op (some 8) (.mov (.tmp 98)) none]
def m3_12 : List MI :=
 [MI.op (some 102) (.un .not (.tmp 101)) none,
  MI.op (some 103) (.mov (.tmp 102)) none,
  MI.op (some 104) (.mov (.tmp 6)) (some (103, false)),
  MI.op (some 105) (.mov (.tmp 8)) (some (103, false)),
  MI.op (some 106) (.bin .neq (.tmp 104) (.tmp 105)) (some (103, false)),
  MI.op (some 107) (.pick (.tmp 103) (.c (.bool true)) (.tmp 106)) none]
def m3_13 : MCode :=
 (.cond (.tmp 107)
  (.seq
   (.reg
    [MI.op (some 4) (.mov (.c (.bool false))) none])
   .ret)
  .skip)
def m3_14 : List MI :=
 [MI.op (some 108) (.mov (.tmp 112)) none,
  MI.op (some 113) (.ext (.tmp 108) 0) none,
  MI.op (some 114) (.ext (.tmp 108) 1) none,
  MI.op (some 9) (.mov (.tmp 113)) none,
  MI.op (some 6) (.mov (.tmp 114)) none]
def m3_15 : List MI :=
 [MI.op (some 115) (.mov (.tmp 119)) none,
  MI.op (some 120) (.ext (.tmp 115) 0) none,
  MI.op (some 121) (.ext (.tmp 115) 1) none,
  MI.op (some 10) (.mov (.tmp 120)) none,
  MI.op (some 8) (.mov (.tmp 121)) none]
def m3_16 : List MI :=
 [MI.op (some 132) (.pick (.tmp 130) (.tmp 131) (.c (.bool false))) none,
  MI.op (some 4) (.mov (.tmp 132)) none]
def m3_17 : List MI :=
 (MI.op (some 125) (.mov (.tmp 124)) none ::
  MI.op (some 126) (.mov (.tmp 6)) (some (125, true)) ::
  MI.op (some 127) (.mov (.tmp 8)) (some (125, true)) ::
  MI.op (some 128) (.bin .eql (.tmp 126) (.tmp 127)) (some (125, true)) ::
  MI.op (some 129) (.pick (.tmp 125) (.tmp 128) (.c (.bool false))) none ::
  MI.op (some 130) (.mov (.tmp 129)) none ::
  MI.op (some 131) (.call 12 []) (some (130, true)) ::
  m3_16)
def m3_18 : MCode :=
 (.seq
  (.reg
   (MI.op (some 122) (.mov (.tmp 9)) none ::
    MI.op (some 123) (.mov (.tmp 10)) none ::
    MI.op (some 124) (.call 20 [(.tmp 122), (.tmp 123)]) none ::
    m3_17))
  .ret)
def m3_19 : MCode :=
 (.seq
  (.reg
   (MI.op (some 116) (.load true 32 (.tmp 2)) none ::
    MI.op (some 117) (.fa 0 (.tmp 3)) none ::
    MI.op (some 118) (.load false 1 (.tmp 117)) none ::
    MI.op (some 119) (.call 24 [(.tmp 116), (.tmp 118)]) none ::
    m3_15))
  m3_18)
def m3_20 : MCode :=
 (.seq
  (.reg
   (MI.op (some 109) (.load true 32 (.tmp 2)) none ::
    MI.op (some 110) (.fa 0 (.tmp 3)) none ::
    MI.op (some 111) (.load false 1 (.tmp 110)) none ::
    MI.op (some 112) (.call 23 [(.tmp 109), (.tmp 111)]) none ::
    m3_14))
  m3_19)
def m3_21 : MCode :=
 (.seq
  (.seq
   (.reg
    (MI.op (some 99) (.mov (.tmp 9)) none ::
     MI.op (some 100) (.mov (.tmp 10)) none ::
     MI.op (some 101) (.call 20 [(.tmp 99), (.tmp 100)]) none ::
     m3_12))
  m3_13)
  m3_20)
def m3_22 : MCode :=
 (.seq
  (.reg
   (MI.op (some 91) (.load true 32 (.tmp 2)) none ::
    MI.op (some 92) (.fa 0 (.tmp 3)) none ::
    MI.op (some 93) (.load false 1 (.tmp 92)) none ::
    MI.op (some 94) (.fa 1 (.tmp 3)) none ::
    MI.op (some 95) (.load false 1 (.tmp 94)) none ::
    MI.op (some 96) (.call 22 [(.tmp 91), (.tmp 93), (.tmp 95)]) none ::
    m3_11))
  m3_21)
def m3_23 : MCode :=
 (.seq
  (.reg
   (MI.op (some 82) (.load true 32 (.tmp 2)) none ::
    MI.op (some 83) (.fa 0 (.tmp 3)) none ::
    MI.op (some 84) (.load false 1 (.tmp 83)) none ::
    MI.op (some 85) (.fa 1 (.tmp 3)) none ::
    MI.op (some 86) (.load false 1 (.tmp 85)) none ::
    MI.op (some 87) (.call 21 [(.tmp 82), (.tmp 84), (.tmp 86)]) none ::
    m3_10))
  m3_22)
def m3_24 : MCode :=
 (.seq
  (.seq
   (.reg
    (MI.op (some 72) (.mov (.tmp 9)) none ::
     MI.op (some 73) (.mov (.tmp 10)) none ::
     MI.op (some 74) (.call 20 [(.tmp 72), (.tmp 73)]) none ::
     m3_8))
  m3_9)
  m3_23)
def m3_25 : MCode :=
 (.seq
  (.reg
   (MI.op (some 62) (.load true 32 (.tmp 2)) none ::
    MI.op (some 63) (.fa 0 (.tmp 3)) none ::
    MI.op (some 64) (.load false 1 (.tmp 63)) none ::
    MI.op (some 65) (.fa 1 (.tmp 3)) none ::
    MI.op (some 66) (.load false 1 (.tmp 65)) none ::
    MI.op (some 67) (.fa 2 (.tmp 3)) none ::
    MI.op (some 68) (.load true 32 (.tmp 67)) none ::
    MI.op (some 69) (.call 19 [(.tmp 62), (.tmp 64), (.tmp 66), (.tmp 68)]) none ::
    m3_7))
  m3_24)
def m3_26 : MCode :=
 (.seq
  (.reg
   (MI.op (some 51) (.load true 32 (.tmp 2)) none ::
    MI.op (some 52) (.fa 0 (.tmp 3)) none ::
    MI.op (some 53) (.load false 1 (.tmp 52)) none ::
    MI.op (some 54) (.fa 1 (.tmp 3)) none ::
    MI.op (some 55) (.load false 1 (.tmp 54)) none ::
    MI.op (some 56) (.fa 2 (.tmp 3)) none ::
    MI.op (some 57) (.load true 32 (.tmp 56)) none ::
    MI.op (some 58) (.call 18 [(.tmp 51), (.tmp 53), (.tmp 55), (.tmp 57)]) none ::
    m3_6))
  m3_25)
def m3_27 : MCode :=
 (.seq
  (.seq
   (.drw
    [MI.op (some 34) (.mov (.tmp 5)) none,
     MI.op (some 35) (.mov (.tmp 7)) none,
     MI.op (some 36) (.bin .neq (.tmp 34) (.tmp 35)) none,
     MI.op (some 37) (.mov (.tmp 36)) none,
     MI.op (some 38) (.mov (.tmp 6)) (some (37, false)),
     MI.op (some 39) (.mov (.tmp 8)) (some (37, false)),
     MI.op (some 40) (.bin .neq (.tmp 38) (.tmp 39)) (some (37, false)),
     MI.op (some 41) (.pick (.tmp 37) (.c (.bool true)) (.tmp 40)) none,
     MI.op (some 42) (.mov (.tmp 41)) none,
     MI.op (some 43) (.load true 32 (.tmp 2)) (some (42, false)),
     MI.op (some 44) (.call 16 [(.tmp 43)]) (some (42, false)),
     MI.op (some 45) (.load true 32 (.tmp 2)) (some (42, false))]
    [MI.op (some 46) (.call 17 [(.tmp 45)]) (some (42, false)),
     MI.op (some 47) (.call 15 [(.tmp 44), (.tmp 46)]) (some (42, false)),
     MI.op (some 48) (.un .not (.tmp 47)) (some (42, false)),
     MI.op (some 49) (.pick (.tmp 42) (.c (.bool true)) (.tmp 48)) none])
  m3_5)
  m3_26)
def m3_28 : MCode :=
 (.seq
  (.reg
   (MI.op (some 26) (.load true 32 (.tmp 2)) none ::
    MI.op (some 27) (.fa 0 (.tmp 3)) none ::
    MI.op (some 28) (.load false 1 (.tmp 27)) none ::
    MI.op (some 29) (.fa 1 (.tmp 3)) none ::
    MI.op (some 30) (.load false 1 (.tmp 29)) none ::
    MI.op (some 31) (.call 14 [(.tmp 26), (.tmp 28), (.tmp 30)]) none ::
    m3_4))
  m3_27)
def m3_29 : MCode :=
 (.seq
  (.reg
   (MI.op (some 17) (.load true 32 (.tmp 2)) none ::
    MI.op (some 18) (.fa 0 (.tmp 3)) none ::
    MI.op (some 19) (.load false 1 (.tmp 18)) none ::
    MI.op (some 20) (.fa 1 (.tmp 3)) none ::
    MI.op (some 21) (.load false 1 (.tmp 20)) none ::
    MI.op (some 22) (.call 13 [(.tmp 17), (.tmp 19), (.tmp 21)]) none ::
    m3_3))
  m3_28)
def m3_30 : MCode :=
 (.seq
  (.seq
   (.reg
    [MI.op (some 11) (.fa 0 (.tmp 3)) none,
     MI.op (some 12) (.load false 1 (.tmp 11)) none,
     MI.op (some 13) (.lenS (.tmp 12)) none,
     MI.op (some 14) (.bin .gtr (.tmp 13) (.c (.int .i64 100))) none])
  m3_2)
  m3_29)
def m3_r : List MRes := [.tmp 4]
def m3_b : MCode :=
 (.seq
  (.reg
   [MI.op (some 2) (.box (.tmp 0)) none,
    MI.op (some 3) (.box (.tmp 1)) none,
    MI.op (some 4) (.mov (.c (.bool false))) none])
  m3_30)
def m3 : MFunc := ⟨2, 133, m3_r, m3_b⟩
theorem c3 : compF Tryd.prog 3 m3 = some m3 := by kernel_rfl

end Go.Proofs.YtilbipknodpmmaaDoor
