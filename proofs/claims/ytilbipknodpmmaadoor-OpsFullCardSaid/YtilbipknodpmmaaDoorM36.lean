/- The loaded functions as texts of the ideal machine (written by a program of ours), and that they are the loaded ones. -/
import Derived.Test.YtilbipknodpmmaaDoorE31
import Derived.Test.YtilbipknodpmmaaDoorProg
set_option linter.unusedVariables false
set_option linter.unusedSimpArgs false
set_option linter.unusedSectionVars false
namespace Go.Proofs.YtilbipknodpmmaaDoor
open Go.RowKit

/- tollhouse/tollhouselaw13.OpsFull -/
def m6_1 : MCode :=
 (.seq
  (.reg
   [MI.op (some 22) (.call 12 []) none,
    MI.op (some 4) (.mov (.tmp 22)) none])
  .ret)
def m6_2 : MCode :=
 (.cond (.tmp 21)
  m6_1
  .skip)
def m6_3 : List MI :=
 [MI.op (some 37) (.mov (.tmp 45)) none,
  MI.op (some 46) (.ext (.tmp 37) 0) none,
  MI.op (some 47) (.ext (.tmp 37) 1) none,
  MI.op (some 10) (.mov (.tmp 46)) none,
  MI.op (some 11) (.mov (.tmp 47)) none]
def m6_4 : MCode :=
 (.cond (.tmp 65)
  (.seq
   (.reg
    [MI.op (some 4) (.mov (.c (.bool false))) none])
   .ret)
  .skip)
def m6_5 : MCode :=
 (.cond (.tmp 72)
  (.seq
   (.reg
    [MI.op (some 4) (.mov (.c (.bool false))) none])
   .ret)
  .skip)
def m6_6 : MCode :=
 (.reg
  [MI.op (some 78) (.mov (.tmp 6)) none,
   MI.op (some 79) (.bin .add (.tmp 78) (.c (.int .i64 1))) none,
   MI.op (some 80) (.mov (.tmp 7)) none,
   MI.op (some 81) (.mov (.tmp 9)) none,
   MI.op (some 82) (.bin .sub (.tmp 80) (.tmp 81)) none,
   MI.op (some 6) (.mov (.tmp 79)) none,
   MI.op (some 7) (.mov (.tmp 82)) none])
def m6_7 : MCode :=
 (.seq
  (.reg
   [MI.op (some 73) (.mov (.tmp 10)) none,
    MI.op (some 74) (.mov (.tmp 9)) none,
    MI.op (some 75) (.ixSl 33 (.tmp 73) (.tmp 74)) none,
    MI.op (some 76) (.fa 1 (.tmp 75)) none,
    MI.op (some 77) (.load true 32 (.tmp 76)) none,
    MI.op none (.store 32 (.tmp 5) (.tmp 77)) none])
  m6_6)
def m6_8 : MCode :=
 (.seq
  (.seq
   (.reg
    [MI.op (some 68) (.mov (.tmp 10)) none,
     MI.op (some 69) (.len (.tmp 68)) none,
     MI.op (some 70) (.mov (.tmp 9)) none,
     MI.op (some 71) (.bin .add (.tmp 70) (.c (.int .i64 1))) none,
     MI.op (some 72) (.bin .neq (.tmp 69) (.tmp 71)) none])
  m6_5)
  m6_7)
def m6_9 : MCode :=
 (.cond (.tmp 67)
  m6_8
  .skip)
def m6_10 : MCode :=
 (.cond (.tmp 88)
  (.seq
   (.reg
    [MI.op (some 4) (.mov (.c (.bool false))) none])
   .ret)
  .skip)
def m6_11 : MCode :=
 (.seq
  (.reg
   [MI.op (some 85) (.mov (.tmp 12)) none,
    MI.op (some 86) (.len (.tmp 85)) none,
    MI.op (some 87) (.mov (.tmp 6)) none,
    MI.op (some 88) (.bin .neq (.tmp 86) (.tmp 87)) none])
  m6_10)
def m6_12 : MCode :=
 (.seq
  (.reg
   [MI.op (some 83) (.load true 32 (.tmp 5)) none,
    MI.op (some 84) (.call 16 [(.tmp 83)]) none,
    MI.op (some 12) (.mov (.tmp 84)) none])
  m6_11)
def m6_13 : MCode :=
 (.seq
  (.seq
   (.reg
    [MI.op (some 66) (.mov (.tmp 11)) none,
     MI.op (some 67) (.bin .eql (.tmp 66) (.c (.int .i64 0))) none])
  m6_9)
  m6_12)
def m6_14 : MCode :=
 (.seq
  (.seq
   (.reg
    [MI.op (some 48) (.mov (.tmp 11)) none,
     MI.op (some 49) (.bin .eql (.tmp 48) (.c (.int .i64 0))) none,
     MI.op (some 50) (.mov (.tmp 6)) none,
     MI.op (some 51) (.bin .lss (.tmp 50) (.c (.int .i64 3))) none,
     MI.op (some 52) (.mov (.tmp 51)) none,
     MI.op (some 53) (.mov (.tmp 9)) (some (52, true)),
     MI.op (some 54) (.mov (.tmp 7)) (some (52, true)),
     MI.op (some 55) (.bin .leq (.tmp 53) (.tmp 54)) (some (52, true)),
     MI.op (some 56) (.pick (.tmp 52) (.tmp 55) (.c (.bool false))) none,
     MI.op (some 57) (.binB .neq (.tmp 49) (.tmp 56)) none,
     MI.op (some 58) (.mov (.tmp 57)) none,
     MI.op (some 59) (.mov (.tmp 11)) (some (58, false)),
     MI.op (some 60) (.bin .neq (.tmp 59) (.c (.int .i64 0))) (some (58, false)),
     MI.op (some 61) (.mov (.tmp 60)) (some (58, false)),
     MI.op (some 62) (.mov (.tmp 11)) (some (61, true)),
     MI.op (some 63) (.bin .neq (.tmp 62) (.c (.int .i64 18))) (some (61, true)),
     MI.op (some 64) (.pick (.tmp 61) (.tmp 63) (.c (.bool false))) (some (58, false)),
     MI.op (some 65) (.pick (.tmp 58) (.c (.bool true)) (.tmp 64)) none])
  m6_4)
  m6_13)
def m6_15 : MCode :=
 (.seq
  (.reg
   (MI.op (some 38) (.load true 32 (.tmp 5)) none ::
    MI.op (some 39) (.mov (.tmp 8)) none ::
    MI.op (some 40) (.toInt .u8 (.tmp 39)) none ::
    MI.op (some 41) (.bin .add (.c (.int .u8 97)) (.tmp 40)) none ::
    MI.op (some 42) (.bsl 1 1 [(.int .u8 0)] [(0, 1, (.tmp 41))]) none ::
    MI.op (some 43) (.toStr (.tmp 42)) none ::
    MI.op (some 44) (.mov (.tmp 9)) none ::
    MI.op (some 45) (.call 21 [(.tmp 38), (.tmp 43), (.tmp 44)]) none ::
    m6_3))
  m6_14)
def m6_16 : MCode :=
 (.seq
  (.blk 1
   (.seq
    (.reg
     [MI.op (some 30) (.mov (.tmp 0)) none,
      MI.op (some 31) (.mov (.tmp 8)) none,
      MI.op (some 32) (.ixSl 1 (.tmp 30) (.tmp 31)) none,
      MI.op (some 33) (.load false 1 (.tmp 32)) none,
      MI.op (some 34) (.toInt .i64 (.tmp 33)) none,
      MI.op (some 35) (.bin .rem (.tmp 34) (.c (.int .i64 4))) none,
      MI.op (some 36) (.bin .add (.c (.int .i64 1)) (.tmp 35)) none,
      MI.op (some 9) (.mov (.tmp 36)) none])
  m6_15))
  (.reg
   [MI.op (some 28) (.mov (.tmp 8)) none,
    MI.op (some 29) (.bin .add (.tmp 28) (.c (.int .i64 1))) none,
    MI.op (some 8) (.mov (.tmp 29)) none]))
def m6_17 : MCode :=
 (.seq
  (.seq
   (.reg
    [MI.op (some 24) (.mov (.tmp 8)) none,
     MI.op (some 25) (.mov (.tmp 0)) none,
     MI.op (some 26) (.len (.tmp 25)) none,
     MI.op (some 27) (.bin .lss (.tmp 24) (.tmp 26)) none])
   (.cond (.tmp 27)
    .skip
    (.exit 0)))
  m6_16)
def m6_18 : MCode :=
 (.blk 0
  (.loop
  m6_17))
def m6_19 : MCode :=
 (.seq
  (.reg
   [MI.op (some 94) (.call 12 []) none,
    MI.op (some 4) (.mov (.tmp 94)) none])
  .ret)
def m6_20 : MCode :=
 (.cond (.tmp 93)
  m6_19
  .skip)
def m6_21 : List MI :=
 [MI.op (some 103) (.mov (.tmp 107)) none,
  MI.op (some 108) (.ext (.tmp 103) 0) none,
  MI.op (some 109) (.ext (.tmp 103) 1) none,
  MI.op (some 15) (.mov (.tmp 108)) none,
  MI.op (some 16) (.mov (.tmp 109)) none]
def m6_22 : MCode :=
 (.cond (.tmp 123)
  (.seq
   (.reg
    [MI.op (some 4) (.mov (.c (.bool false))) none])
   .ret)
  .skip)
def m6_23 : List MI :=
 [MI.op (some 159) (.pick (.tmp 157) (.tmp 158) (.c (.bool false))) none,
  MI.op (some 4) (.mov (.tmp 159)) none]
def m6_24 : List MI :=
 (MI.op (some 152) (.len (.tmp 151)) (some (146, true)) ::
  MI.op (some 153) (.mov (.tmp 6)) (some (146, true)) ::
  MI.op (some 154) (.bin .sub (.tmp 153) (.c (.int .i64 1))) (some (146, true)) ::
  MI.op (some 155) (.bin .eql (.tmp 152) (.tmp 154)) (some (146, true)) ::
  MI.op (some 156) (.pick (.tmp 146) (.tmp 155) (.c (.bool false))) none ::
  MI.op (some 157) (.mov (.tmp 156)) none ::
  MI.op (some 158) (.call 12 []) (some (157, true)) ::
  m6_23)
def m6_25 : MCode :=
 (.seq
  (.reg
   (MI.op (some 135) (.mov (.tmp 18)) none ::
    MI.op (some 136) (.bin .eql (.tmp 135) (.c (.int .i64 0))) none ::
    MI.op (some 137) (.mov (.tmp 136)) none ::
    MI.op (some 138) (.mov (.tmp 17)) (some (137, true)) ::
    MI.op (some 139) (.len (.tmp 138)) (some (137, true)) ::
    MI.op (some 140) (.fa 1 (.tmp 14)) (some (137, true)) ::
    MI.op (some 141) (.load false 1 (.tmp 140)) (some (137, true)) ::
    MI.op (some 142) (.len (.tmp 141)) (some (137, true)) ::
    MI.op (some 143) (.bin .add (.tmp 142) (.c (.int .i64 1))) (some (137, true)) ::
    MI.op (some 144) (.bin .eql (.tmp 139) (.tmp 143)) (some (137, true)) ::
    MI.op (some 145) (.pick (.tmp 137) (.tmp 144) (.c (.bool false))) none ::
    MI.op (some 146) (.mov (.tmp 145)) none ::
    MI.op (some 147) (.mov (.tmp 15)) (some (146, true)) ::
    MI.op (some 148) (.ixSl 33 (.tmp 147) (.c (.int .i64 0))) (some (146, true)) ::
    MI.op (some 149) (.fa 1 (.tmp 148)) (some (146, true)) ::
    MI.op (some 150) (.load true 32 (.tmp 149)) (some (146, true)) ::
    MI.op (some 151) (.call 16 [(.tmp 150)]) (some (146, true)) ::
    m6_24))
  .ret)
def m6_26 : MCode :=
 (.seq
  (.drw
   [MI.op (some 125) (.mov (.tmp 15)) none,
    MI.op (some 126) (.ixSl 33 (.tmp 125) (.c (.int .i64 0))) none,
    MI.op (some 127) (.fa 1 (.tmp 126)) none,
    MI.op (some 128) (.load true 32 (.tmp 127)) none,
    MI.op (some 129) (.fa 1 (.tmp 14)) none,
    MI.op (some 130) (.load false 1 (.tmp 129)) none,
    MI.op (some 131) (.len (.tmp 130)) none,
    MI.op (some 132) (.call 21 [(.tmp 128), (.c (.str [110, 101, 119])), (.tmp 131)]) none,
    MI.op (some 124) (.mov (.tmp 132)) none,
    MI.op (some 133) (.ext (.tmp 124) 0) none,
    MI.op (some 134) (.ext (.tmp 124) 1) none,
    MI.op (some 17) (.mov (.tmp 133)) none]
   [MI.op (some 18) (.mov (.tmp 134)) none])
  m6_25)
def m6_27 : MCode :=
 (.seq
  (.seq
   (.reg
    [MI.op (some 110) (.mov (.tmp 16)) none,
     MI.op (some 111) (.bin .neq (.tmp 110) (.c (.int .i64 0))) none,
     MI.op (some 112) (.mov (.tmp 111)) none,
     MI.op (some 113) (.mov (.tmp 15)) (some (112, false)),
     MI.op (some 114) (.len (.tmp 113)) (some (112, false)),
     MI.op (some 115) (.bin .neq (.tmp 114) (.c (.int .i64 1))) (some (112, false)),
     MI.op (some 116) (.pick (.tmp 112) (.c (.bool true)) (.tmp 115)) none,
     MI.op (some 117) (.mov (.tmp 116)) none,
     MI.op (some 118) (.mov (.tmp 15)) (some (117, false)),
     MI.op (some 119) (.ixSl 33 (.tmp 118) (.c (.int .i64 0))) (some (117, false)),
     MI.op (some 120) (.fa 0 (.tmp 119)) (some (117, false)),
     MI.op (some 121) (.load false 1 (.tmp 120)) (some (117, false)),
     MI.op (some 122) (.bin .neq (.tmp 121) (.c (.int .i64 0))) (some (117, false)),
     MI.op (some 123) (.pick (.tmp 117) (.c (.bool true)) (.tmp 122)) none])
  m6_22)
  m6_26)
def m6_28 : MCode :=
 (.seq
  (.reg
   (MI.op (some 104) (.load true 32 (.tmp 5)) none ::
    MI.op (some 105) (.fa 0 (.tmp 14)) none ::
    MI.op (some 106) (.load false 1 (.tmp 105)) none ::
    MI.op (some 107) (.call 23 [(.tmp 104), (.tmp 106)]) none ::
    m6_21))
  m6_27)
def m6_29 : MCode :=
 (.seq
  (.reg
   [MI.op (some 95) (.mov (.tmp 13)) none,
    MI.op (some 96) (.mov (.tmp 1)) none,
    MI.op (some 97) (.toInt .i64 (.tmp 96)) none,
    MI.op (some 98) (.mov (.tmp 13)) none,
    MI.op (some 99) (.len (.tmp 98)) none,
    MI.op (some 100) (.bin .rem (.tmp 97) (.tmp 99)) none,
    MI.op (some 101) (.ixSl 2 (.tmp 95) (.tmp 100)) none,
    MI.op (some 102) (.load true 2 (.tmp 101)) none,
    MI.op (some 14) (.alloc [(.str []), (.sl .full 0 [])]) none,
    MI.op none (.store 2 (.tmp 14) (.tmp 102)) none])
  m6_28)
def m6_30 : MCode :=
 (.seq
  (.seq
   (.reg
    [MI.op (some 91) (.mov (.tmp 13)) none,
     MI.op (some 92) (.len (.tmp 91)) none,
     MI.op (some 93) (.bin .eql (.tmp 92) (.c (.int .i64 0))) none])
  m6_20)
  m6_29)
def m6_31 : MCode :=
 (.seq
  (.reg
   [MI.op (some 89) (.load true 32 (.tmp 5)) none,
    MI.op (some 90) (.call 16 [(.tmp 89)]) none,
    MI.op (some 13) (.mov (.tmp 90)) none])
  m6_30)
def m6_32 : MCode :=
 (.seq
  (.seq
   (.reg
    [MI.op (some 8) (.mov (.c (.int .i64 0))) none])
  m6_18)
  m6_31)
def m6_33 : MCode :=
 (.seq
  (.reg
   [MI.op (some 6) (.mov (.c (.int .i64 0))) none,
    MI.op (some 7) (.mov (.c (.int .i64 11))) none])
  m6_32)
def m6_34 : MCode :=
 (.seq
  (.reg
   [MI.op (some 23) (.build (List.replicate 32 (.int .u8 0)) []) none,
    MI.op (some 5) (.alloc (List.replicate 32 (.int .u8 0))) none,
    MI.op none (.store 32 (.tmp 5) (.tmp 23)) none])
  m6_33)
def m6_35 : MCode :=
 (.seq
  (.seq
   (.reg
    [MI.op (some 19) (.mov (.tmp 0)) none,
     MI.op (some 20) (.len (.tmp 19)) none,
     MI.op (some 21) (.bin .gtr (.tmp 20) (.c (.int .i64 12))) none])
  m6_2)
  m6_34)
def m6_r : List MRes := [.tmp 4]
def m6_b : MCode :=
 (.seq
  (.reg
   [MI.op (some 4) (.mov (.c (.bool false))) none])
  m6_35)
def m6 : MFunc := ⟨2, 160, m6_r, m6_b⟩
theorem c6 : compF Tryd.prog 6 m6 = some m6 := by kernel_rfl

end Go.Proofs.YtilbipknodpmmaaDoor
