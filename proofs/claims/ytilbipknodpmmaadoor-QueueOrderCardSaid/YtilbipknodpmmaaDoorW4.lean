/- The loaded functions as texts of the ideal machine (written by a program of ours), and that they are the loaded ones. -/
import Derived.Test.YtilbipknodpmmaaDoorE31
import Derived.Test.YtilbipknodpmmaaDoorProg
import Derived.Test.YtilbipknodpmmaaDoorW3
import Derived.Test.YtilbipknodpmmaaDoorM21
set_option linter.unusedVariables false
set_option linter.unusedSimpArgs false
set_option linter.unusedSectionVars false
namespace Go.Proofs.YtilbipknodpmmaaDoor
open Go.RowKit

/- tollhouse/tollhouselaw21.QueueNone -/
def m10_1 : MCode :=
 (.seq
  (.reg
   [MI.op (some 10) (.call 29 []) none,
    MI.op (some 2) (.mov (.tmp 10)) none])
  .ret)
def m10_2 : MCode :=
 (.cond (.tmp 9)
  m10_1
  .skip)
def m10_3 : List MI :=
 [MI.op (some 11) (.mov (.tmp 13)) none,
  MI.op (some 14) (.ext (.tmp 11) 0) none,
  MI.op (some 15) (.ext (.tmp 11) 1) none,
  MI.op (some 4) (.alloc [(.int .i64 0), (.int .i64 0), (.str []), (.int .i64 0), (.int .u8 0), (.int .u8 0), (.int .u8 0), (.int .u8 0), (.int .u8 0), (.int .u8 0), (.int .u8 0), (.int .u8 0), (.int .u8 0), (.int .u8 0), (.int .u8 0), (.int .u8 0), (.int .u8 0), (.int .u8 0), (.int .u8 0), (.int .u8 0), (.int .u8 0), (.int .u8 0), (.int .u8 0), (.int .u8 0), (.int .u8 0), (.int .u8 0), (.int .u8 0), (.int .u8 0), (.int .u8 0), (.int .u8 0), (.int .u8 0), (.int .u8 0), (.int .u8 0), (.int .u8 0), (.int .u8 0), (.int .u8 0)]) none,
  MI.op none (.store 36 (.tmp 4) (.tmp 14)) none,
  MI.op (some 5) (.mov (.tmp 15)) none]
def m10_4 : List MI :=
 [MI.op (some 48) (.pick (.tmp 46) (.tmp 47) (.c (.bool false))) none,
  MI.op (some 2) (.mov (.tmp 48)) none]
def m10_5 : List MI :=
 (MI.op (some 44) (.bin .eql (.tmp 43) (.c (.int .i64 0))) (some (41, true)) ::
  MI.op (some 45) (.pick (.tmp 41) (.tmp 44) (.c (.bool false))) none ::
  MI.op (some 46) (.mov (.tmp 45)) none ::
  MI.op (some 47) (.call 29 []) (some (46, true)) ::
  m10_4)
def m10_6 : List MI :=
 (MI.op (some 38) (.len (.tmp 37)) (some (35, true)) ::
  MI.op (some 39) (.bin .eql (.tmp 38) (.c (.int .i64 0))) (some (35, true)) ::
  MI.op (some 40) (.pick (.tmp 35) (.tmp 39) (.c (.bool false))) none ::
  MI.op (some 41) (.mov (.tmp 40)) none ::
  MI.op (some 42) (.mov (.tmp 3)) (some (41, true)) ::
  MI.op (some 43) (.calln 40 [(.tmp 42)]) (some (41, true)) ::
  m10_5)
def m10_7 : List MI :=
 (MI.op (some 33) (.un .not (.tmp 32)) (some (30, true)) ::
  MI.op (some 34) (.pick (.tmp 30) (.tmp 33) (.c (.bool false))) none ::
  MI.op (some 35) (.mov (.tmp 34)) none ::
  MI.op (some 36) (.mov (.tmp 3)) (some (35, true)) ::
  MI.op (some 37) (.calln 37 [(.tmp 36)]) (some (35, true)) ::
  m10_6)
def m10_8 : List MI :=
 (MI.op (some 20) (.bin .eql (.tmp 19) (.c (.int .i64 1))) none ::
  MI.op (some 21) (.mov (.tmp 20)) none ::
  MI.op (some 22) (.load true 36 (.tmp 4)) (some (21, true)) ::
  MI.op (some 23) (.build [(.int .i64 0), (.int .i64 0), (.str []), (.int .i64 0), (.int .u8 0), (.int .u8 0), (.int .u8 0), (.int .u8 0), (.int .u8 0), (.int .u8 0), (.int .u8 0), (.int .u8 0), (.int .u8 0), (.int .u8 0), (.int .u8 0), (.int .u8 0), (.int .u8 0), (.int .u8 0), (.int .u8 0), (.int .u8 0), (.int .u8 0), (.int .u8 0), (.int .u8 0), (.int .u8 0), (.int .u8 0), (.int .u8 0), (.int .u8 0), (.int .u8 0), (.int .u8 0), (.int .u8 0), (.int .u8 0), (.int .u8 0), (.int .u8 0), (.int .u8 0), (.int .u8 0), (.int .u8 0)] []) (some (21, true)) ::
  MI.op (some 24) (.eqv false [(2, .i), (1, .s), (33, .i)] (.tmp 22) (.tmp 23)) (some (21, true)) ::
  MI.op (some 25) (.pick (.tmp 21) (.tmp 24) (.c (.bool false))) none ::
  MI.op (some 26) (.mov (.tmp 25)) none ::
  MI.op (some 27) (.mov (.tmp 5)) (some (26, true)) ::
  MI.op (some 28) (.un .not (.tmp 27)) (some (26, true)) ::
  MI.op (some 29) (.pick (.tmp 26) (.tmp 28) (.c (.bool false))) none ::
  MI.op (some 30) (.mov (.tmp 29)) none ::
  MI.op (some 31) (.mov (.tmp 3)) (some (30, true)) ::
  MI.op (some 32) (.calln 34 [(.tmp 31)]) (some (30, true)) ::
  m10_7)
def m10_9 : MCode :=
 (.seq
  (.reg
   (MI.op (some 16) (.mov (.tmp 3)) none ::
    MI.op (some 17) (.load true 36 (.tmp 1)) none ::
    MI.op (some 18) (.bsl 1 36 [(.int .i64 0), (.int .i64 0), (.str []), (.int .i64 0), (.int .u8 0), (.int .u8 0), (.int .u8 0), (.int .u8 0), (.int .u8 0), (.int .u8 0), (.int .u8 0), (.int .u8 0), (.int .u8 0), (.int .u8 0), (.int .u8 0), (.int .u8 0), (.int .u8 0), (.int .u8 0), (.int .u8 0), (.int .u8 0), (.int .u8 0), (.int .u8 0), (.int .u8 0), (.int .u8 0), (.int .u8 0), (.int .u8 0), (.int .u8 0), (.int .u8 0), (.int .u8 0), (.int .u8 0), (.int .u8 0), (.int .u8 0), (.int .u8 0), (.int .u8 0), (.int .u8 0), (.int .u8 0)] [(0, 36, (.tmp 17))]) none ::
    MI.op (some 19) (.calln 32 [(.tmp 16), (.tmp 18)]) none ::
    m10_8))
  .ret)
def m10_10 : MCode :=
 (.seq
  (.reg
   (MI.op (some 12) (.mov (.tmp 3)) none ::
    MI.op (some 13) (.calln 39 [(.tmp 12)]) none ::
    m10_3))
  m10_9)
def m10_11 : MCode :=
 (.seq
  (.reg
   [MI.op (some 3) (.mov (.c .nilp)) none])
  m10_10)
def m10_12 : MCode :=
 (.seq
  (.seq
   (.reg
    [MI.op (some 6) (.load true 36 (.tmp 1)) none,
     MI.op (some 7) (.bsl 1 36 [(.int .i64 0), (.int .i64 0), (.str []), (.int .i64 0), (.int .u8 0), (.int .u8 0), (.int .u8 0), (.int .u8 0), (.int .u8 0), (.int .u8 0), (.int .u8 0), (.int .u8 0), (.int .u8 0), (.int .u8 0), (.int .u8 0), (.int .u8 0), (.int .u8 0), (.int .u8 0), (.int .u8 0), (.int .u8 0), (.int .u8 0), (.int .u8 0), (.int .u8 0), (.int .u8 0), (.int .u8 0), (.int .u8 0), (.int .u8 0), (.int .u8 0), (.int .u8 0), (.int .u8 0), (.int .u8 0), (.int .u8 0), (.int .u8 0), (.int .u8 0), (.int .u8 0), (.int .u8 0)] [(0, 36, (.tmp 6))]) none,
     MI.op (some 8) (.call 30 [(.tmp 7)]) none,
     MI.op (some 9) (.un .not (.tmp 8)) none])
  m10_2)
  m10_11)
def m10_r : List MRes := [.tmp 2]
def m10_b : MCode :=
 (.seq
  (.reg
   [MI.op (some 1) (.box (.tmp 0)) none,
    MI.op (some 2) (.mov (.c (.bool false))) none])
  m10_12)
def m10 : MFunc := ⟨1, 49, m10_r, m10_b⟩
theorem c10 : compF Tryd.prog 10 m10 = some m10 := by kernel_rfl

/- tollhouse/tollhouselaw21.QueueFull -/
def m11_1 : MCode :=
 (.seq
  (.reg
   [MI.op (some 20) (.call 29 []) none,
    MI.op (some 6) (.mov (.tmp 20)) none])
  .ret)
def m11_2 : MCode :=
 (.cond (.tmp 19)
  m11_1
  .skip)
def m11_3 : MCode :=
 (.seq
  (.blk 1
   (.reg
    [MI.op (some 31) (.mov (.tmp 9)) none,
     MI.op (some 32) (.load true 36 (.tmp 5)) none,
     MI.op (some 33) (.bsl 1 36 [(.int .i64 0), (.int .i64 0), (.str []), (.int .i64 0), (.int .u8 0), (.int .u8 0), (.int .u8 0), (.int .u8 0), (.int .u8 0), (.int .u8 0), (.int .u8 0), (.int .u8 0), (.int .u8 0), (.int .u8 0), (.int .u8 0), (.int .u8 0), (.int .u8 0), (.int .u8 0), (.int .u8 0), (.int .u8 0), (.int .u8 0), (.int .u8 0), (.int .u8 0), (.int .u8 0), (.int .u8 0), (.int .u8 0), (.int .u8 0), (.int .u8 0), (.int .u8 0), (.int .u8 0), (.int .u8 0), (.int .u8 0), (.int .u8 0), (.int .u8 0), (.int .u8 0), (.int .u8 0)] [(0, 36, (.tmp 32))]) none,
     MI.op (some 34) (.app 36 72 (.tmp 31) (.tmp 33)) none,
     MI.op (some 9) (.mov (.tmp 34)) none]))
  (.reg
   [MI.op (some 29) (.mov (.tmp 10)) none,
    MI.op (some 30) (.bin .add (.tmp 29) (.c (.int .i64 1))) none,
    MI.op (some 10) (.mov (.tmp 30)) none]))
def m11_4 : MCode :=
 (.seq
  (.seq
   (.reg
    [MI.op (some 26) (.mov (.tmp 10)) none,
     MI.op (some 27) (.mov (.tmp 8)) none,
     MI.op (some 28) (.bin .lss (.tmp 26) (.tmp 27)) none])
   (.cond (.tmp 28)
    .skip
    (.exit 0)))
  m11_3)
def m11_5 : MCode :=
 (.blk 0
  (.loop
  m11_4))
def m11_6 : List MI :=
 [MI.op (some 52) (.bin .neq (.tmp 51) (.c (.int .i64 0))) (some (49, false)),
  MI.op (some 53) (.pick (.tmp 49) (.c (.bool true)) (.tmp 52)) (some (46, true)),
  MI.op (some 54) (.pick (.tmp 46) (.tmp 53) (.c (.bool false))) (some (43, false)),
  MI.op (some 55) (.pick (.tmp 43) (.c (.bool true)) (.tmp 54)) none]
def m11_7 : MCode :=
 (.cond (.tmp 55)
  (.seq
   (.reg
    [MI.op (some 6) (.mov (.c (.bool false))) none])
   .ret)
  .skip)
def m11_8 : MCode :=
 (.cond (.tmp 66)
  (.seq
   (.reg
    [MI.op (some 6) (.mov (.c (.bool false))) none])
   .ret)
  .skip)
def m11_9 : MCode :=
 (.seq
  (.blk 3
   (.seq
    (.reg
     [MI.op (some 62) (.mov (.tmp 7)) none,
      MI.op (some 63) (.load true 36 (.tmp 5)) none,
      MI.op (some 64) (.bsl 1 36 [(.int .i64 0), (.int .i64 0), (.str []), (.int .i64 0), (.int .u8 0), (.int .u8 0), (.int .u8 0), (.int .u8 0), (.int .u8 0), (.int .u8 0), (.int .u8 0), (.int .u8 0), (.int .u8 0), (.int .u8 0), (.int .u8 0), (.int .u8 0), (.int .u8 0), (.int .u8 0), (.int .u8 0), (.int .u8 0), (.int .u8 0), (.int .u8 0), (.int .u8 0), (.int .u8 0), (.int .u8 0), (.int .u8 0), (.int .u8 0), (.int .u8 0), (.int .u8 0), (.int .u8 0), (.int .u8 0), (.int .u8 0), (.int .u8 0), (.int .u8 0), (.int .u8 0), (.int .u8 0)] [(0, 36, (.tmp 63))]) none,
      MI.op (some 65) (.calln 32 [(.tmp 62), (.tmp 64)]) none,
      MI.op (some 66) (.bin .neq (.tmp 65) (.c (.int .i64 0))) none])
  m11_8))
  (.reg
   [MI.op (some 60) (.mov (.tmp 12)) none,
    MI.op (some 61) (.bin .add (.tmp 60) (.c (.int .i64 1))) none,
    MI.op (some 12) (.mov (.tmp 61)) none]))
def m11_10 : MCode :=
 (.seq
  (.seq
   (.reg
    [MI.op (some 58) (.mov (.tmp 12)) none,
     MI.op (some 59) (.bin .lss (.tmp 58) (.c (.int .i64 4))) none])
   (.cond (.tmp 59)
    .skip
    (.exit 2)))
  m11_9)
def m11_11 : MCode :=
 (.blk 2
  (.loop
  m11_10))
def m11_12 : List MI :=
 [MI.op (some 80) (.bin .neq (.tmp 79) (.c (.int .i64 0))) (some (77, false)),
  MI.op (some 81) (.pick (.tmp 77) (.c (.bool true)) (.tmp 80)) none]
def m11_13 : List MI :=
 (MI.op (some 75) (.bin .neq (.tmp 74) (.c (.int .i64 4))) (some (72, false)) ::
  MI.op (some 76) (.pick (.tmp 72) (.c (.bool true)) (.tmp 75)) none ::
  MI.op (some 77) (.mov (.tmp 76)) none ::
  MI.op (some 78) (.mov (.tmp 7)) (some (77, false)) ::
  MI.op (some 79) (.calln 32 [(.tmp 78), (.c (.sl .full 0 []))]) (some (77, false)) ::
  m11_12)
def m11_14 : List MI :=
 (MI.op (some 71) (.bin .neq (.tmp 70) (.c (.int .i64 19))) none ::
  MI.op (some 72) (.mov (.tmp 71)) none ::
  MI.op (some 73) (.mov (.tmp 7)) (some (72, false)) ::
  MI.op (some 74) (.calln 40 [(.tmp 73)]) (some (72, false)) ::
  m11_13)
def m11_15 : MCode :=
 (.cond (.tmp 81)
  (.seq
   (.reg
    [MI.op (some 6) (.mov (.c (.bool false))) none])
   .ret)
  .skip)
def m11_16 : List MI :=
 [MI.op (some 107) (.bin .neq (.tmp 106) (.c (.int .i64 4))) (some (104, false)),
  MI.op (some 108) (.pick (.tmp 104) (.c (.bool true)) (.tmp 107)) none]
def m11_17 : List MI :=
 (MI.op (some 102) (.bin .neq (.tmp 101) (.c (.int .i64 0))) (some (97, false)) ::
  MI.op (some 103) (.pick (.tmp 97) (.c (.bool true)) (.tmp 102)) none ::
  MI.op (some 104) (.mov (.tmp 103)) none ::
  MI.op (some 105) (.mov (.tmp 7)) (some (104, false)) ::
  MI.op (some 106) (.calln 40 [(.tmp 105)]) (some (104, false)) ::
  m11_16)
def m11_18 : List MI :=
 (MI.op (some 95) (.bin .neq (.tmp 94) (.c (.int .i64 3))) (some (92, false)) ::
  MI.op (some 96) (.pick (.tmp 92) (.c (.bool true)) (.tmp 95)) none ::
  MI.op (some 97) (.mov (.tmp 96)) none ::
  MI.op (some 98) (.mov (.tmp 7)) (some (97, false)) ::
  MI.op (some 99) (.load true 36 (.tmp 5)) (some (97, false)) ::
  MI.op (some 100) (.bsl 1 36 [(.int .i64 0), (.int .i64 0), (.str []), (.int .i64 0), (.int .u8 0), (.int .u8 0), (.int .u8 0), (.int .u8 0), (.int .u8 0), (.int .u8 0), (.int .u8 0), (.int .u8 0), (.int .u8 0), (.int .u8 0), (.int .u8 0), (.int .u8 0), (.int .u8 0), (.int .u8 0), (.int .u8 0), (.int .u8 0), (.int .u8 0), (.int .u8 0), (.int .u8 0), (.int .u8 0), (.int .u8 0), (.int .u8 0), (.int .u8 0), (.int .u8 0), (.int .u8 0), (.int .u8 0), (.int .u8 0), (.int .u8 0), (.int .u8 0), (.int .u8 0), (.int .u8 0), (.int .u8 0)] [(0, 36, (.tmp 99))]) (some (97, false)) ::
  MI.op (some 101) (.calln 32 [(.tmp 98), (.tmp 100)]) (some (97, false)) ::
  m11_17)
def m11_19 : List MI :=
 (MI.op (some 91) (.un .not (.tmp 90)) none ::
  MI.op (some 92) (.mov (.tmp 91)) none ::
  MI.op (some 93) (.mov (.tmp 7)) (some (92, false)) ::
  MI.op (some 94) (.calln 40 [(.tmp 93)]) (some (92, false)) ::
  m11_18)
def m11_20 : MCode :=
 (.cond (.tmp 108)
  (.seq
   (.reg
    [MI.op (some 6) (.mov (.c (.bool false))) none])
   .ret)
  .skip)
def m11_21 : MCode :=
 (.seq
  (.blk 5
   (.seq
    (.reg
     (MI.op (some 89) (.mov (.tmp 7)) none ::
      MI.op (some 90) (.calln 34 [(.tmp 89)]) none ::
      m11_19))
  m11_20))
  (.reg
   [MI.op (some 87) (.mov (.tmp 13)) none,
    MI.op (some 88) (.bin .add (.tmp 87) (.c (.int .i64 1))) none,
    MI.op (some 13) (.mov (.tmp 88)) none]))
def m11_22 : MCode :=
 (.seq
  (.seq
   (.reg
    [MI.op (some 82) (.mov (.tmp 13)) none,
     MI.op (some 83) (.mov (.tmp 1)) none,
     MI.op (some 84) (.toInt .i64 (.tmp 83)) none,
     MI.op (some 85) (.bin .rem (.tmp 84) (.c (.int .i64 4))) none,
     MI.op (some 86) (.bin .lss (.tmp 82) (.tmp 85)) none])
   (.cond (.tmp 86)
    .skip
    (.exit 4)))
  m11_21)
def m11_23 : MCode :=
 (.blk 4
  (.loop
  m11_22))
def m11_24 : List MI :=
 [MI.op (some 109) (.mov (.tmp 111)) none,
  MI.op (some 112) (.ext (.tmp 109) 0) none,
  MI.op (some 113) (.ext (.tmp 109) 1) none,
  MI.op (some 14) (.alloc [(.int .i64 0), (.int .i64 0), (.str []), (.int .i64 0), (.int .u8 0), (.int .u8 0), (.int .u8 0), (.int .u8 0), (.int .u8 0), (.int .u8 0), (.int .u8 0), (.int .u8 0), (.int .u8 0), (.int .u8 0), (.int .u8 0), (.int .u8 0), (.int .u8 0), (.int .u8 0), (.int .u8 0), (.int .u8 0), (.int .u8 0), (.int .u8 0), (.int .u8 0), (.int .u8 0), (.int .u8 0), (.int .u8 0), (.int .u8 0), (.int .u8 0), (.int .u8 0), (.int .u8 0), (.int .u8 0), (.int .u8 0), (.int .u8 0), (.int .u8 0), (.int .u8 0), (.int .u8 0)]) none,
  MI.op none (.store 36 (.tmp 14) (.tmp 112)) none,
  MI.op (some 15) (.mov (.tmp 113)) none]
def m11_25 : List MI :=
 [MI.op (some 128) (.pick (.tmp 126) (.tmp 127) (.c (.bool false))) none,
  MI.op (some 6) (.mov (.tmp 128)) none]
def m11_26 : List MI :=
 (MI.op (some 123) (.len (.tmp 122)) (some (120, true)) ::
  MI.op (some 124) (.bin .eql (.tmp 123) (.c (.int .i64 4))) (some (120, true)) ::
  MI.op (some 125) (.pick (.tmp 120) (.tmp 124) (.c (.bool false))) none ::
  MI.op (some 126) (.mov (.tmp 125)) none ::
  MI.op (some 127) (.call 29 []) (some (126, true)) ::
  m11_25)
def m11_27 : MCode :=
 (.seq
  (.reg
   (MI.op (some 114) (.mov (.tmp 15)) none ::
    MI.op (some 115) (.mov (.tmp 114)) none ::
    MI.op (some 116) (.load true 36 (.tmp 14)) (some (115, true)) ::
    MI.op (some 117) (.load true 36 (.tmp 5)) (some (115, true)) ::
    MI.op (some 118) (.eqv false [(2, .i), (1, .s), (33, .i)] (.tmp 116) (.tmp 117)) (some (115, true)) ::
    MI.op (some 119) (.pick (.tmp 115) (.tmp 118) (.c (.bool false))) none ::
    MI.op (some 120) (.mov (.tmp 119)) none ::
    MI.op (some 121) (.mov (.tmp 7)) (some (120, true)) ::
    MI.op (some 122) (.calln 37 [(.tmp 121)]) (some (120, true)) ::
    m11_26))
  .ret)
def m11_28 : MCode :=
 (.seq
  (.reg
   (MI.op (some 110) (.mov (.tmp 7)) none ::
    MI.op (some 111) (.calln 39 [(.tmp 110)]) none ::
    m11_24))
  m11_27)
def m11_29 : MCode :=
 (.seq
  (.seq
   (.reg
    [MI.op (some 13) (.mov (.c (.int .i64 0))) none])
  m11_23)
  m11_28)
def m11_30 : MCode :=
 (.seq
  (.seq
   (.reg
    (MI.op (some 67) (.mov (.tmp 7)) none ::
     MI.op (some 68) (.load true 36 (.tmp 5)) none ::
     MI.op (some 69) (.bsl 1 36 [(.int .i64 0), (.int .i64 0), (.str []), (.int .i64 0), (.int .u8 0), (.int .u8 0), (.int .u8 0), (.int .u8 0), (.int .u8 0), (.int .u8 0), (.int .u8 0), (.int .u8 0), (.int .u8 0), (.int .u8 0), (.int .u8 0), (.int .u8 0), (.int .u8 0), (.int .u8 0), (.int .u8 0), (.int .u8 0), (.int .u8 0), (.int .u8 0), (.int .u8 0), (.int .u8 0), (.int .u8 0), (.int .u8 0), (.int .u8 0), (.int .u8 0), (.int .u8 0), (.int .u8 0), (.int .u8 0), (.int .u8 0), (.int .u8 0), (.int .u8 0), (.int .u8 0), (.int .u8 0)] [(0, 36, (.tmp 68))]) none ::
     MI.op (some 70) (.calln 32 [(.tmp 67), (.tmp 69)]) none ::
     m11_14))
  m11_15)
  m11_29)
def m11_31 : MCode :=
 (.seq
  (.seq
   (.reg
    [MI.op (some 56) (.mov (.tmp 7)) none,
     MI.op (some 57) (.calln 40 [(.tmp 56)]) none,
     MI.op (some 12) (.mov (.tmp 57)) none])
  m11_11)
  m11_30)
def m11_32 : MCode :=
 (.seq
  (.seq
   (.reg
    (MI.op (some 38) (.mov (.tmp 11)) none ::
     MI.op (some 39) (.bin .eql (.tmp 38) (.c (.int .i64 0))) none ::
     MI.op (some 40) (.mov (.tmp 8)) none ::
     MI.op (some 41) (.bin .leq (.tmp 40) (.c (.int .i64 4))) none ::
     MI.op (some 42) (.binB .neq (.tmp 39) (.tmp 41)) none ::
     MI.op (some 43) (.mov (.tmp 42)) none ::
     MI.op (some 44) (.mov (.tmp 11)) (some (43, false)) ::
     MI.op (some 45) (.bin .neq (.tmp 44) (.c (.int .i64 0))) (some (43, false)) ::
     MI.op (some 46) (.mov (.tmp 45)) (some (43, false)) ::
     MI.op (some 47) (.mov (.tmp 11)) (some (46, true)) ::
     MI.op (some 48) (.bin .neq (.tmp 47) (.c (.int .i64 19))) (some (46, true)) ::
     MI.op (some 49) (.mov (.tmp 48)) (some (46, true)) ::
     MI.op (some 50) (.mov (.tmp 7)) (some (49, false)) ::
     MI.op (some 51) (.calln 40 [(.tmp 50)]) (some (49, false)) ::
     m11_6))
  m11_7)
  m11_31)
def m11_33 : MCode :=
 (.seq
  (.reg
   [MI.op (some 35) (.mov (.tmp 7)) none,
    MI.op (some 36) (.mov (.tmp 9)) none,
    MI.op (some 37) (.calln 32 [(.tmp 35), (.tmp 36)]) none,
    MI.op (some 11) (.mov (.tmp 37)) none])
  m11_32)
def m11_34 : MCode :=
 (.seq
  (.seq
   (.reg
    [MI.op (some 10) (.mov (.c (.int .i64 0))) none])
  m11_5)
  m11_33)
def m11_35 : MCode :=
 (.seq
  (.reg
   [MI.op (some 9) (.mov (.c (.sl .full 0 []))) none])
  m11_34)
def m11_36 : MCode :=
 (.seq
  (.reg
   [MI.op (some 23) (.mov (.tmp 0)) none,
    MI.op (some 24) (.toInt .i64 (.tmp 23)) none,
    MI.op (some 25) (.bin .rem (.tmp 24) (.c (.int .i64 7))) none,
    MI.op (some 8) (.mov (.tmp 25)) none])
  m11_35)
def m11_37 : MCode :=
 (.seq
  (.reg
   [MI.op (some 21) (.build [(.sl .full 0 [])] []) none,
    MI.op (some 22) (.box (.tmp 21)) none,
    MI.op (some 7) (.mov (.tmp 22)) none])
  m11_36)
def m11_38 : MCode :=
 (.seq
  (.seq
   (.reg
    [MI.op (some 16) (.load true 36 (.tmp 5)) none,
     MI.op (some 17) (.bsl 1 36 [(.int .i64 0), (.int .i64 0), (.str []), (.int .i64 0), (.int .u8 0), (.int .u8 0), (.int .u8 0), (.int .u8 0), (.int .u8 0), (.int .u8 0), (.int .u8 0), (.int .u8 0), (.int .u8 0), (.int .u8 0), (.int .u8 0), (.int .u8 0), (.int .u8 0), (.int .u8 0), (.int .u8 0), (.int .u8 0), (.int .u8 0), (.int .u8 0), (.int .u8 0), (.int .u8 0), (.int .u8 0), (.int .u8 0), (.int .u8 0), (.int .u8 0), (.int .u8 0), (.int .u8 0), (.int .u8 0), (.int .u8 0), (.int .u8 0), (.int .u8 0), (.int .u8 0), (.int .u8 0)] [(0, 36, (.tmp 16))]) none,
     MI.op (some 18) (.call 30 [(.tmp 17)]) none,
     MI.op (some 19) (.un .not (.tmp 18)) none])
  m11_2)
  m11_37)
def m11_r : List MRes := [.tmp 6]
def m11_b : MCode :=
 (.seq
  (.reg
   [MI.op (some 5) (.box (.tmp 2)) none,
    MI.op (some 6) (.mov (.c (.bool false))) none])
  m11_38)
def m11 : MFunc := ⟨3, 129, m11_r, m11_b⟩
theorem c11 : compF Tryd.prog 11 m11 = some m11 := by kernel_rfl

end Go.Proofs.YtilbipknodpmmaaDoor
/- The law QueueNone. -/
set_option linter.unusedVariables false
set_option linter.unusedSimpArgs false
set_option linter.unusedSectionVars false
set_option maxRecDepth 100000
set_option maxHeartbeats 8000000
namespace Go.Proofs.YtilbipknodpmmaaDoor
open Go.RowKit

def fairI (xs : List It) : Bool := xs.all (fun x => decide (x.name.length ≤ 100)) && decide (xs.length ≤ 20)
theorem fairI_ok (f : Fl) (xs : List It) (hx : ∀ x ∈ xs, x.Ok) (hn : xs.length < 2 ^ 63) : RC Tryd.prog 30 [.sl f xs.length (itL xs)] [.bool (fairI xs)] := by
  refine RC.of_wp c30 rfl ?_
  simp -implicitDefEqProofs (maxSteps := 2000000) only [m30_1, m30_2, m30_3, m30_4, m30_5, m30_6, m30_r, m30_b, m30, wk, act, asV, ↓reduceIte, Nat.reduceEqDiff, reduceCtorEq, Nat.reduceAdd, Nat.reduceLeDiff, Nat.reduceSub, Nat.reduceMul, List.reduceReplicate, Int.reduceEq, Int.reduceLT, Int.reduceLE, Int.reduceAdd, Int.reduceSub, Int.reduceMul, Nat.reduceLT, Int.reduceToNat]
  refine Wp_loop (fun m s => ∃ i, i ≤ xs.length ∧ m = xs.length - i ∧ s.t 0 = .sl f xs.length (itL xs) ∧ s.t 3 = .int .i64 (i : Nat) ∧ (xs.take i).all (fun x => decide (x.name.length ≤ 100)) = true) xs.length ⟨0, by omega, rfl, rfl, rfl, rfl⟩ ?_
  rintro m s ⟨i, hi, rfl, k0, k3, hall⟩
  by_cases hil : i < xs.length
  · have hil' : (i : Int) < xs.length := by omega
    have eX := itL_drop hx hil
    have lL := itL_length hx
    have wi : IntKind.i64.wrap (((i : Nat) : Int) + 1) = ((i + 1 : Nat) : Int) := by rw [IntKind.wrap_i64]; omega
    have hok := hx _ (List.getElem_mem hil)
    have no : ¬ xs[i].name.length ≤ 100 → fairI xs = false := fun h => by
      unfold fairI
      rw [Bool.and_eq_false_iff]
      refine .inl (Bool.eq_false_iff.2 fun hh => h ?_)
      have := List.all_eq_true.1 hh _ (List.getElem_mem hil)
      simpa using this
    obtain ⟨x, hxx⟩ : ∃ x, x = xs[i] := ⟨_, rfl⟩
    rw [← hxx] at eX no hok
    have e2 : List.take 1 (List.drop 2 (itC x ++ List.drop ((i + 1) * 36) (itL xs))) = [.str x.name] := rfl
    have l2 : 1 ≤ (List.drop 2 (itC x ++ List.drop ((i + 1) * 36) (itL xs))).length := by rw [List.length_drop, List.length_append, itC_length hok]; omega
    obtain ⟨V, hV⟩ : ∃ V, V = itC x ++ List.drop ((i + 1) * 36) (itL xs) := ⟨_, rfl⟩
    rw [← hV] at eX e2 l2
    by_cases b1 : (100 : Int) < (x.name.length : Nat)
    · rw [no (fun h => by omega)]
      simp -implicitDefEqProofs (maxSteps := 2000000) only [k0, k3, hil', eX, lL, e2, l2, b1, wk, act, asV, ↓reduceIte, Nat.reduceEqDiff, reduceCtorEq, Nat.reduceAdd, Nat.reduceLeDiff, Nat.reduceSub, Nat.reduceMul, List.reduceReplicate, Int.reduceEq, Int.reduceLT, Int.reduceLE, Int.reduceAdd, Int.reduceSub, Int.reduceMul, Nat.reduceLT, Int.reduceToNat]
    · simp -implicitDefEqProofs (maxSteps := 2000000) only [k0, k3, hil', eX, lL, e2, l2, b1, wi, wk, act, asV, ↓reduceIte, Nat.reduceEqDiff, reduceCtorEq, Nat.reduceAdd, Nat.reduceLeDiff, Nat.reduceSub, Nat.reduceMul, List.reduceReplicate, Int.reduceEq, Int.reduceLT, Int.reduceLE, Int.reduceAdd, Int.reduceSub, Int.reduceMul, Nat.reduceLT, Int.reduceToNat]
      refine ⟨xs.length - (i + 1), by omega, i + 1, by omega, rfl, rfl, ?_⟩
      rw [List.take_succ_eq_append_getElem hil, List.all_append, hall, ← hxx]
      simp; omega
  · obtain rfl : i = xs.length := by omega
    have hil' : ¬ ((xs.length : Nat) : Int) < xs.length := by omega
    rw [List.take_length] at hall
    have e : fairI xs = decide ((xs.length : Int) ≤ 20) := by
      unfold fairI
      rw [hall, Bool.true_and]
      congr 1; apply propext; omega
    rw [e]
    simp -implicitDefEqProofs (maxSteps := 2000000) only [k0, k3, hil', wk, act, asV, ↓reduceIte, Nat.reduceEqDiff, reduceCtorEq, Nat.reduceAdd, Nat.reduceLeDiff, Nat.reduceSub, Nat.reduceMul, List.reduceReplicate, Int.reduceEq, Int.reduceLT, Int.reduceLE, Int.reduceAdd, Int.reduceSub, Int.reduceMul, Nat.reduceLT, Int.reduceToNat]
theorem fairI_one (f : Fl) (x : It) (hx : x.Ok) : RC Tryd.prog 30 [.sl f 1 (itC x)] [.bool (fairI [x])] := by
  have c := fairI_ok f [x] (by simpa using hx) (by simp)
  have e : itL [x] = itC x := by simp [itL]
  rw [e, List.length_cons, List.length_nil] at c
  exact c
theorem queueNone (x : It) (hx : x.Ok) : RC Tryd.prog 10 [.agg (itC x)] [.bool true] := by
  refine RC.of_wp c10 rfl ?_
  have c0 := fairI_one .full x hx
  have l0 := itC_length hx
  have t0 : List.take 36 (itC x) = itC x := List.take_of_length_le (by omega)
  have d0 : List.drop 36 (itC x) = [] := List.drop_of_length_le (by omega)
  have s0 := itC_scal x
  have u0 := itC_pur x
  cases hf : fairI [x] with
  | false =>
    rw [hf] at c0
    repeat' (first | simp -implicitDefEqProofs (maxSteps := 2000000) only [m10_1, m10_2, m10_3, m10_4, m10_5, m10_6, m10_7, m10_8, m10_9, m10_10, m10_11, m10_12, m10_r, m10_b, m10, l0, t0, d0, s0, u0, wk, act, asV, ↓reduceIte, Nat.reduceEqDiff, reduceCtorEq, Nat.reduceAdd, Nat.reduceLeDiff, Nat.reduceSub, Nat.reduceMul, List.reduceReplicate, Int.reduceEq, Int.reduceLT, Int.reduceLE, Int.reduceAdd, Int.reduceSub, Int.reduceMul, Nat.reduceLT, Int.reduceToNat] | ((first | ((with_reducible refine CallL.gate ?_); apply CallL.of) | ((with_reducible refine CallP.gate ?_); apply CallP.of)); (case h1 => (simp -implicitDefEqProofs (maxSteps := 2000000) only [m10_1, m10_2, m10_3, m10_4, m10_5, m10_6, m10_7, m10_8, m10_9, m10_10, m10_11, m10_12, m10_r, m10_b, m10, l0, t0, d0, s0, u0, wk, act, asV, ↓reduceIte, Nat.reduceEqDiff, reduceCtorEq, Nat.reduceAdd, Nat.reduceLeDiff, Nat.reduceSub, Nat.reduceMul, List.reduceReplicate, Int.reduceEq, Int.reduceLT, Int.reduceLE, Int.reduceAdd, Int.reduceSub, Int.reduceMul, Nat.reduceLT, Int.reduceToNat]; first | done | (with_reducible rfl))); (case h2 => (first | exact c0 | exact wakesQ_ok)); (case h3 => simp -implicitDefEqProofs (maxSteps := 2000000) only [m10_1, m10_2, m10_3, m10_4, m10_5, m10_6, m10_7, m10_8, m10_9, m10_10, m10_11, m10_12, m10_r, m10_b, m10, l0, t0, d0, s0, u0, wk, act, asV, ↓reduceIte, Nat.reduceEqDiff, reduceCtorEq, Nat.reduceAdd, Nat.reduceLeDiff, Nat.reduceSub, Nat.reduceMul, List.reduceReplicate, Int.reduceEq, Int.reduceLT, Int.reduceLE, Int.reduceAdd, Int.reduceSub, Int.reduceMul, Nat.reduceLT, Int.reduceToNat])))
  | true =>
    rw [hf] at c0
    have l1 : (itC it0).length = 36 := rfl
    have t1 : List.take 36 (itC it0) = itC it0 := rfl
    have d1 : List.drop 36 (itC it0) = [] := rfl
    have s1 := itC_scal it0
    have e1 : eqL (itC it0) [IV.int .i64 0, IV.int .i64 0, IV.str [], IV.int .i64 0, IV.int .u8 0, IV.int .u8 0, IV.int .u8 0, IV.int .u8 0, IV.int .u8 0, IV.int .u8 0, IV.int .u8 0, IV.int .u8 0, IV.int .u8 0, IV.int .u8 0, IV.int .u8 0, IV.int .u8 0, IV.int .u8 0, IV.int .u8 0, IV.int .u8 0, IV.int .u8 0, IV.int .u8 0, IV.int .u8 0, IV.int .u8 0, IV.int .u8 0, IV.int .u8 0, IV.int .u8 0, IV.int .u8 0, IV.int .u8 0, IV.int .u8 0, IV.int .u8 0, IV.int .u8 0, IV.int .u8 0, IV.int .u8 0, IV.int .u8 0, IV.int .u8 0, IV.int .u8 0] = some true := by decide +kernel
    have e2 : fitR [(2, .i), (1, .s), (33, .i)] (itC it0) = true := by decide +kernel
    repeat' (first | simp -implicitDefEqProofs (maxSteps := 2000000) only [m10_1, m10_2, m10_3, m10_4, m10_5, m10_6, m10_7, m10_8, m10_9, m10_10, m10_11, m10_12, m10_r, m10_b, m10, l0, t0, d0, s0, u0, wk, act, asV, ↓reduceIte, Nat.reduceEqDiff, reduceCtorEq, Nat.reduceAdd, Nat.reduceLeDiff, Nat.reduceSub, Nat.reduceMul, List.reduceReplicate, Int.reduceEq, Int.reduceLT, Int.reduceLE, Int.reduceAdd, Int.reduceSub, Int.reduceMul, Nat.reduceLT, Int.reduceToNat] | ((first | ((with_reducible refine CallL.gate ?_); apply CallL.of) | ((with_reducible refine CallP.gate ?_); apply CallP.of)); (case h1 => (simp -implicitDefEqProofs (maxSteps := 2000000) only [m10_1, m10_2, m10_3, m10_4, m10_5, m10_6, m10_7, m10_8, m10_9, m10_10, m10_11, m10_12, m10_r, m10_b, m10, l0, t0, d0, s0, u0, wk, act, asV, ↓reduceIte, Nat.reduceEqDiff, reduceCtorEq, Nat.reduceAdd, Nat.reduceLeDiff, Nat.reduceSub, Nat.reduceMul, List.reduceReplicate, Int.reduceEq, Int.reduceLT, Int.reduceLE, Int.reduceAdd, Int.reduceSub, Int.reduceMul, Nat.reduceLT, Int.reduceToNat]; first | done | (with_reducible rfl))); (case h2 => (first | exact c0)); (case h3 => simp -implicitDefEqProofs (maxSteps := 2000000) only [m10_1, m10_2, m10_3, m10_4, m10_5, m10_6, m10_7, m10_8, m10_9, m10_10, m10_11, m10_12, m10_r, m10_b, m10, l0, t0, d0, s0, u0, wk, act, asV, ↓reduceIte, Nat.reduceEqDiff, reduceCtorEq, Nat.reduceAdd, Nat.reduceLeDiff, Nat.reduceSub, Nat.reduceMul, List.reduceReplicate, Int.reduceEq, Int.reduceLT, Int.reduceLE, Int.reduceAdd, Int.reduceSub, Int.reduceMul, Nat.reduceLT, Int.reduceToNat])))
    refine CallnL.of (by simp -implicitDefEqProofs (maxSteps := 2000000) only [wk, act, asV, ↓reduceIte, Nat.reduceEqDiff, reduceCtorEq, Nat.reduceAdd, Nat.reduceLeDiff, Nat.reduceSub, Nat.reduceMul, List.reduceReplicate, Int.reduceEq, Int.reduceLT, Int.reduceLE, Int.reduceAdd, Int.reduceSub, Int.reduceMul, Nat.reduceLT, Int.reduceToNat]; first | done | rfl) qhead_none ?_
    rintro _ h1 ⟨rfl, fr1⟩
    have g1 := fr1 1 (by decide)
    simp -implicitDefEqProofs (maxSteps := 2000000) only [wk, act, asV, ↓reduceIte, Nat.reduceEqDiff, reduceCtorEq, Nat.reduceAdd, Nat.reduceLeDiff, Nat.reduceSub, Nat.reduceMul, List.reduceReplicate, Int.reduceEq, Int.reduceLT, Int.reduceLE, Int.reduceAdd, Int.reduceSub, Int.reduceMul, Nat.reduceLT, Int.reduceToNat] at g1
    simp -implicitDefEqProofs (maxSteps := 2000000) only [g1, l0, t0, d0, s0, l1, t1, d1, s1, wk, act, asV, ↓reduceIte, Nat.reduceEqDiff, reduceCtorEq, Nat.reduceAdd, Nat.reduceLeDiff, Nat.reduceSub, Nat.reduceMul, List.reduceReplicate, Int.reduceEq, Int.reduceLT, Int.reduceLE, Int.reduceAdd, Int.reduceSub, Int.reduceMul, Nat.reduceLT, Int.reduceToNat]
    refine CallnL.of (by simp -implicitDefEqProofs (maxSteps := 2000000) only [wk, act, asV, ↓reduceIte, Nat.reduceEqDiff, reduceCtorEq, Nat.reduceAdd, Nat.reduceLeDiff, Nat.reduceSub, Nat.reduceMul, List.reduceReplicate, Int.reduceEq, Int.reduceLT, Int.reduceLE, Int.reduceAdd, Int.reduceSub, Int.reduceMul, Nat.reduceLT, Int.reduceToNat]; first | done | rfl) (qadd_none (v := .sl .lit 1 (itC x)) rfl) ?_
    rintro _ _ ⟨rfl, rfl⟩
    simp -implicitDefEqProofs (maxSteps := 2000000) only [l1, t1, d1, s1, e1, e2, wk, act, asV, ↓reduceIte, Nat.reduceEqDiff, reduceCtorEq, Nat.reduceAdd, Nat.reduceLeDiff, Nat.reduceSub, Nat.reduceMul, List.reduceReplicate, Int.reduceEq, Int.reduceLT, Int.reduceLE, Int.reduceAdd, Int.reduceSub, Int.reduceMul, Nat.reduceLT, Int.reduceToNat]
    refine CallnL.of (by simp -implicitDefEqProofs (maxSteps := 2000000) only [wk, act, asV, ↓reduceIte, Nat.reduceEqDiff, reduceCtorEq, Nat.reduceAdd, Nat.reduceLeDiff, Nat.reduceSub, Nat.reduceMul, List.reduceReplicate, Int.reduceEq, Int.reduceLT, Int.reduceLE, Int.reduceAdd, Int.reduceSub, Int.reduceMul, Nat.reduceLT, Int.reduceToNat]; first | done | rfl) qpop_none ?_
    rintro _ _ ⟨rfl, rfl⟩
    simp -implicitDefEqProofs (maxSteps := 2000000) only [wk, act, asV, ↓reduceIte, Nat.reduceEqDiff, reduceCtorEq, Nat.reduceAdd, Nat.reduceLeDiff, Nat.reduceSub, Nat.reduceMul, List.reduceReplicate, Int.reduceEq, Int.reduceLT, Int.reduceLE, Int.reduceAdd, Int.reduceSub, Int.reduceMul, Nat.reduceLT, Int.reduceToNat]
    refine CallnL.of (by simp -implicitDefEqProofs (maxSteps := 2000000) only [wk, act, asV, ↓reduceIte, Nat.reduceEqDiff, reduceCtorEq, Nat.reduceAdd, Nat.reduceLeDiff, Nat.reduceSub, Nat.reduceMul, List.reduceReplicate, Int.reduceEq, Int.reduceLT, Int.reduceLE, Int.reduceAdd, Int.reduceSub, Int.reduceMul, Nat.reduceLT, Int.reduceToNat]; first | done | rfl) qclear_none ?_
    rintro _ h4 ⟨rfl, fr4⟩
    simp -implicitDefEqProofs (maxSteps := 2000000) only [wk, act, asV, ↓reduceIte, Nat.reduceEqDiff, reduceCtorEq, Nat.reduceAdd, Nat.reduceLeDiff, Nat.reduceSub, Nat.reduceMul, List.reduceReplicate, Int.reduceEq, Int.reduceLT, Int.reduceLE, Int.reduceAdd, Int.reduceSub, Int.reduceMul, Nat.reduceLT, Int.reduceToNat]
    refine CallnL.of (by simp -implicitDefEqProofs (maxSteps := 2000000) only [wk, act, asV, ↓reduceIte, Nat.reduceEqDiff, reduceCtorEq, Nat.reduceAdd, Nat.reduceLeDiff, Nat.reduceSub, Nat.reduceMul, List.reduceReplicate, Int.reduceEq, Int.reduceLT, Int.reduceLE, Int.reduceAdd, Int.reduceSub, Int.reduceMul, Nat.reduceLT, Int.reduceToNat]; first | done | rfl) qlen_none ?_
    rintro _ _ ⟨rfl, rfl⟩
    repeat' (first | simp -implicitDefEqProofs (maxSteps := 2000000) only [l1, wk, act, asV, ↓reduceIte, Nat.reduceEqDiff, reduceCtorEq, Nat.reduceAdd, Nat.reduceLeDiff, Nat.reduceSub, Nat.reduceMul, List.reduceReplicate, Int.reduceEq, Int.reduceLT, Int.reduceLE, Int.reduceAdd, Int.reduceSub, Int.reduceMul, Nat.reduceLT, Int.reduceToNat] | ((first | ((with_reducible refine CallL.gate ?_); apply CallL.of) | ((with_reducible refine CallP.gate ?_); apply CallP.of)); (case h1 => (simp -implicitDefEqProofs (maxSteps := 2000000) only [l1, wk, act, asV, ↓reduceIte, Nat.reduceEqDiff, reduceCtorEq, Nat.reduceAdd, Nat.reduceLeDiff, Nat.reduceSub, Nat.reduceMul, List.reduceReplicate, Int.reduceEq, Int.reduceLT, Int.reduceLE, Int.reduceAdd, Int.reduceSub, Int.reduceMul, Nat.reduceLT, Int.reduceToNat]; first | done | (with_reducible rfl))); (case h2 => (first | exact wakesQ_ok)); (case h3 => simp -implicitDefEqProofs (maxSteps := 2000000) only [l1, wk, act, asV, ↓reduceIte, Nat.reduceEqDiff, reduceCtorEq, Nat.reduceAdd, Nat.reduceLeDiff, Nat.reduceSub, Nat.reduceMul, List.reduceReplicate, Int.reduceEq, Int.reduceLT, Int.reduceLE, Int.reduceAdd, Int.reduceSub, Int.reduceMul, Nat.reduceLT, Int.reduceToNat])))
end Go.Proofs.YtilbipknodpmmaaDoor
