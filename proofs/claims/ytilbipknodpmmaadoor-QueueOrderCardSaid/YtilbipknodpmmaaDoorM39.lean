/- The loaded functions as texts of the ideal machine (written by a program of ours), and that they are the loaded ones. -/
import Derived.Test.YtilbipknodpmmaaDoorE31
import Derived.Test.YtilbipknodpmmaaDoorProg
set_option linter.unusedVariables false
set_option linter.unusedSimpArgs false
set_option linter.unusedSectionVars false
namespace Go.Proofs.YtilbipknodpmmaaDoor
open Go.RowKit

/- tollhouse/tollhouselaw21.QueueOrder -/
def m9_1 : MCode :=
 (.seq
  (.reg
   [MI.op (some 22) (.call 29 []) none,
    MI.op (some 4) (.mov (.tmp 22)) none])
  .ret)
def m9_2 : MCode :=
 (.cond (.tmp 21)
  m9_1
  .skip)
def m9_3 : MCode :=
 (.cond (.tmp 47)
  (.seq
   (.reg
    [MI.op (some 4) (.mov (.c (.bool false))) none])
   .ret)
  .skip)
def m9_4 : MCode :=
 (.reg
  [MI.op (some 50) (.mov (.tmp 6)) none,
   MI.op (some 51) (.mov (.tmp 0)) none,
   MI.op (some 52) (.mov (.tmp 8)) none,
   MI.op (some 53) (.ixSl 1 (.tmp 51) (.tmp 52)) none,
   MI.op (some 54) (.load false 1 (.tmp 53)) none,
   MI.op (some 55) (.bsl 1 1 [(.int .i64 0)] [(0, 1, (.tmp 54))]) none,
   MI.op (some 56) (.app 1 8 (.tmp 50) (.tmp 55)) none,
   MI.op (some 6) (.mov (.tmp 56)) none])
def m9_5 : MCode :=
 (.cond (.tmp 49)
  m9_4
  .skip)
def m9_6 : List MI :=
 [MI.op (some 61) (.mov (.tmp 63)) none,
  MI.op (some 64) (.ext (.tmp 61) 0) none,
  MI.op (some 65) (.ext (.tmp 61) 1) none,
  MI.op (some 10) (.alloc [(.int .i64 0), (.int .i64 0), (.str []), (.int .i64 0), (.int .u8 0), (.int .u8 0), (.int .u8 0), (.int .u8 0), (.int .u8 0), (.int .u8 0), (.int .u8 0), (.int .u8 0), (.int .u8 0), (.int .u8 0), (.int .u8 0), (.int .u8 0), (.int .u8 0), (.int .u8 0), (.int .u8 0), (.int .u8 0), (.int .u8 0), (.int .u8 0), (.int .u8 0), (.int .u8 0), (.int .u8 0), (.int .u8 0), (.int .u8 0), (.int .u8 0), (.int .u8 0), (.int .u8 0), (.int .u8 0), (.int .u8 0), (.int .u8 0), (.int .u8 0), (.int .u8 0), (.int .u8 0)]) none,
  MI.op none (.store 36 (.tmp 10) (.tmp 64)) none,
  MI.op (some 11) (.mov (.tmp 65)) none]
def m9_7 : List MI :=
 [MI.op (some 71) (.un .not (.tmp 70)) (some (68, false)),
  MI.op (some 72) (.pick (.tmp 68) (.c (.bool true)) (.tmp 71)) none]
def m9_8 : MCode :=
 (.cond (.tmp 72)
  (.seq
   (.reg
    [MI.op (some 4) (.mov (.c (.bool false))) none])
   .ret)
  .skip)
def m9_9 : MCode :=
 (.reg
  [MI.op (some 73) (.mov (.tmp 7)) none,
   MI.op (some 74) (.fa 0 (.tmp 10)) none,
   MI.op (some 75) (.load false 1 (.tmp 74)) none,
   MI.op (some 76) (.bsl 1 1 [(.int .i64 0)] [(0, 1, (.tmp 75))]) none,
   MI.op (some 77) (.app 1 8 (.tmp 73) (.tmp 76)) none,
   MI.op (some 7) (.mov (.tmp 77)) none])
def m9_10 : MCode :=
 (.seq
  (.seq
   (.reg
    (MI.op (some 66) (.mov (.tmp 11)) none ::
     MI.op (some 67) (.un .not (.tmp 66)) none ::
     MI.op (some 68) (.mov (.tmp 67)) none ::
     MI.op (some 69) (.mov (.tmp 5)) (some (68, false)) ::
     MI.op (some 70) (.calln 34 [(.tmp 69)]) (some (68, false)) ::
     m9_7))
  m9_8)
  m9_9)
def m9_11 : MCode :=
 (.seq
  (.reg
   (MI.op (some 62) (.mov (.tmp 5)) none ::
    MI.op (some 63) (.calln 39 [(.tmp 62)]) none ::
    m9_6))
  m9_10)
def m9_12 : MCode :=
 (.cond (.tmp 60)
  m9_11
  .skip)
def m9_13 : List MI :=
 [MI.op (some 89) (.bin .gtr (.tmp 88) (.c (.int .i64 4))) (some (86, false)),
  MI.op (some 90) (.pick (.tmp 86) (.c (.bool true)) (.tmp 89)) none]
def m9_14 : List MI :=
 (MI.op (some 80) (.mov (.tmp 6)) none ::
  MI.op (some 81) (.len (.tmp 80)) none ::
  MI.op (some 82) (.mov (.tmp 7)) none ::
  MI.op (some 83) (.len (.tmp 82)) none ::
  MI.op (some 84) (.bin .sub (.tmp 81) (.tmp 83)) none ::
  MI.op (some 85) (.bin .neq (.tmp 79) (.tmp 84)) none ::
  MI.op (some 86) (.mov (.tmp 85)) none ::
  MI.op (some 87) (.mov (.tmp 5)) (some (86, false)) ::
  MI.op (some 88) (.calln 40 [(.tmp 87)]) (some (86, false)) ::
  m9_13)
def m9_15 : MCode :=
 (.cond (.tmp 90)
  (.seq
   (.reg
    [MI.op (some 4) (.mov (.c (.bool false))) none])
   .ret)
  .skip)
def m9_16 : MCode :=
 (.seq
  (.reg
   (MI.op (some 78) (.mov (.tmp 5)) none ::
    MI.op (some 79) (.calln 40 [(.tmp 78)]) none ::
    m9_14))
  m9_15)
def m9_17 : MCode :=
 (.seq
  (.seq
   (.reg
    [MI.op (some 57) (.mov (.tmp 1)) none,
     MI.op (some 58) (.mov (.tmp 8)) none,
     MI.op (some 59) (.ixSl 1 (.tmp 57) (.tmp 58)) none,
     MI.op (some 60) (.load false 1 (.tmp 59)) none])
  m9_12)
  m9_16)
def m9_18 : MCode :=
 (.seq
  (.seq
   (.reg
    [MI.op (some 48) (.mov (.tmp 9)) none,
     MI.op (some 49) (.bin .eql (.tmp 48) (.c (.int .i64 0))) none])
  m9_5)
  m9_17)
def m9_19 : MCode :=
 (.seq
  (.seq
   (.reg
    [MI.op (some 39) (.mov (.tmp 9)) none,
     MI.op (some 40) (.bin .eql (.tmp 39) (.c (.int .i64 0))) none,
     MI.op (some 41) (.mov (.tmp 6)) none,
     MI.op (some 42) (.len (.tmp 41)) none,
     MI.op (some 43) (.mov (.tmp 7)) none,
     MI.op (some 44) (.len (.tmp 43)) none,
     MI.op (some 45) (.bin .sub (.tmp 42) (.tmp 44)) none,
     MI.op (some 46) (.bin .lss (.tmp 45) (.c (.int .i64 4))) none,
     MI.op (some 47) (.binB .neq (.tmp 40) (.tmp 46)) none])
  m9_3)
  m9_18)
def m9_20 : MCode :=
 (.seq
  (.blk 1
   (.seq
    (.reg
     [MI.op (some 31) (.mov (.tmp 5)) none,
      MI.op (some 32) (.mov (.tmp 0)) none,
      MI.op (some 33) (.mov (.tmp 8)) none,
      MI.op (some 34) (.ixSl 1 (.tmp 32) (.tmp 33)) none,
      MI.op (some 35) (.load false 1 (.tmp 34)) none,
      MI.op (some 36) (.build [(.int .i64 0), (.int .i64 0), (.str []), (.int .i64 0), (.int .u8 0), (.int .u8 0), (.int .u8 0), (.int .u8 0), (.int .u8 0), (.int .u8 0), (.int .u8 0), (.int .u8 0), (.int .u8 0), (.int .u8 0), (.int .u8 0), (.int .u8 0), (.int .u8 0), (.int .u8 0), (.int .u8 0), (.int .u8 0), (.int .u8 0), (.int .u8 0), (.int .u8 0), (.int .u8 0), (.int .u8 0), (.int .u8 0), (.int .u8 0), (.int .u8 0), (.int .u8 0), (.int .u8 0), (.int .u8 0), (.int .u8 0), (.int .u8 0), (.int .u8 0), (.int .u8 0), (.int .u8 0)] [(0, 1, (.tmp 35)), (1, 1, (.c (.int .i64 1)))]) none,
      MI.op (some 37) (.bsl 1 36 [(.int .i64 0), (.int .i64 0), (.str []), (.int .i64 0), (.int .u8 0), (.int .u8 0), (.int .u8 0), (.int .u8 0), (.int .u8 0), (.int .u8 0), (.int .u8 0), (.int .u8 0), (.int .u8 0), (.int .u8 0), (.int .u8 0), (.int .u8 0), (.int .u8 0), (.int .u8 0), (.int .u8 0), (.int .u8 0), (.int .u8 0), (.int .u8 0), (.int .u8 0), (.int .u8 0), (.int .u8 0), (.int .u8 0), (.int .u8 0), (.int .u8 0), (.int .u8 0), (.int .u8 0), (.int .u8 0), (.int .u8 0), (.int .u8 0), (.int .u8 0), (.int .u8 0), (.int .u8 0)] [(0, 36, (.tmp 36))]) none,
      MI.op (some 38) (.calln 32 [(.tmp 31), (.tmp 37)]) none,
      MI.op (some 9) (.mov (.tmp 38)) none])
  m9_19))
  (.reg
   [MI.op (some 29) (.mov (.tmp 8)) none,
    MI.op (some 30) (.bin .add (.tmp 29) (.c (.int .i64 1))) none,
    MI.op (some 8) (.mov (.tmp 30)) none]))
def m9_21 : MCode :=
 (.seq
  (.seq
   (.reg
    [MI.op (some 25) (.mov (.tmp 8)) none,
     MI.op (some 26) (.mov (.tmp 0)) none,
     MI.op (some 27) (.len (.tmp 26)) none,
     MI.op (some 28) (.bin .lss (.tmp 25) (.tmp 27)) none])
   (.cond (.tmp 28)
    .skip
    (.exit 0)))
  m9_20)
def m9_22 : MCode :=
 (.blk 0
  (.loop
  m9_21))
def m9_23 : List MI :=
 [MI.op (some 104) (.pick (.tmp 102) (.tmp 103) (.c (.bool false))) none,
  MI.op (some 4) (.mov (.tmp 104)) none]
def m9_24 : List MI :=
 (MI.op (some 100) (.bin .eql (.tmp 99) (.c (.int .i64 0))) (some (97, true)) ::
  MI.op (some 101) (.pick (.tmp 97) (.tmp 100) (.c (.bool false))) none ::
  MI.op (some 102) (.mov (.tmp 101)) none ::
  MI.op (some 103) (.call 29 []) (some (102, true)) ::
  m9_23)
def m9_25 : List MI :=
 (MI.op (some 97) (.mov (.tmp 96)) none ::
  MI.op (some 98) (.mov (.tmp 5)) (some (97, true)) ::
  MI.op (some 99) (.calln 40 [(.tmp 98)]) (some (97, true)) ::
  m9_24)
def m9_26 : List MI :=
 (MI.op (some 94) (.app 1 8 (.tmp 91) (.tmp 93)) none ::
  MI.op (some 95) (.mov (.tmp 6)) none ::
  MI.op (some 96) (.call 36 [(.tmp 94), (.tmp 95)]) none ::
  m9_25)
def m9_27 : MCode :=
 (.seq
  (.reg
   (MI.op (some 91) (.mov (.tmp 7)) none ::
    MI.op (some 92) (.mov (.tmp 5)) none ::
    MI.op (some 93) (.calln 37 [(.tmp 92)]) none ::
    m9_26))
  .ret)
def m9_28 : MCode :=
 (.seq
  (.seq
   (.reg
    [MI.op (some 8) (.mov (.c (.int .i64 0))) none])
  m9_22)
  m9_27)
def m9_29 : MCode :=
 (.seq
  (.reg
   [MI.op (some 6) (.mov (.c (.sl .full 0 []))) none,
    MI.op (some 7) (.mov (.c (.sl .full 0 []))) none])
  m9_28)
def m9_30 : MCode :=
 (.seq
  (.reg
   [MI.op (some 23) (.build [(.sl .full 0 [])] []) none,
    MI.op (some 24) (.box (.tmp 23)) none,
    MI.op (some 5) (.mov (.tmp 24)) none])
  m9_29)
def m9_31 : MCode :=
 (.seq
  (.seq
   (.reg
    [MI.op (some 12) (.mov (.tmp 0)) none,
     MI.op (some 13) (.len (.tmp 12)) none,
     MI.op (some 14) (.bin .gtr (.tmp 13) (.c (.int .i64 100))) none,
     MI.op (some 15) (.mov (.tmp 14)) none,
     MI.op (some 16) (.mov (.tmp 1)) (some (15, false)),
     MI.op (some 17) (.len (.tmp 16)) (some (15, false)),
     MI.op (some 18) (.mov (.tmp 0)) (some (15, false)),
     MI.op (some 19) (.len (.tmp 18)) (some (15, false)),
     MI.op (some 20) (.bin .lss (.tmp 17) (.tmp 19)) (some (15, false)),
     MI.op (some 21) (.pick (.tmp 15) (.c (.bool true)) (.tmp 20)) none])
  m9_2)
  m9_30)
def m9_r : List MRes := [.tmp 4]
def m9_b : MCode :=
 (.seq
  (.reg
   [MI.op (some 4) (.mov (.c (.bool false))) none])
  m9_31)
def m9 : MFunc := ⟨2, 105, m9_r, m9_b⟩
theorem c9 : compF Tryd.prog 9 m9 = some m9 := by kernel_rfl

end Go.Proofs.YtilbipknodpmmaaDoor
