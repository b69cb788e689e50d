/- The loaded functions as texts of the ideal machine (written by a program of ours), and that they are the loaded ones. -/
import Derived.Test.YtilbipknodpmmaaDoorE31
import Derived.Test.YtilbipknodpmmaaDoorProg
set_option linter.unusedVariables false
set_option linter.unusedSimpArgs false
set_option linter.unusedSectionVars false
namespace Go.Proofs.YtilbipknodpmmaaDoor
open Go.RowKit

/- tollhouse/tollhouselaw13.OpsApart -/
def m5_1 : List MI :=
 [MI.op (some 19) (.un .not (.tmp 18)) none,
  MI.op (some 20) (.mov (.tmp 19)) none,
  MI.op (some 21) (.mov (.tmp 0)) (some (20, false)),
  MI.op (some 22) (.len (.tmp 21)) (some (20, false)),
  MI.op (some 23) (.bin .eql (.tmp 22) (.c (.int .i64 0))) (some (20, false)),
  MI.op (some 24) (.pick (.tmp 20) (.c (.bool true)) (.tmp 23)) none]
def m5_2 : MCode :=
 (.seq
  (.reg
   [MI.op (some 25) (.call 12 []) none,
    MI.op (some 6) (.mov (.tmp 25)) none])
  .ret)
def m5_3 : MCode :=
 (.cond (.tmp 24)
  m5_2
  .skip)
def m5_4 : List MI :=
 [MI.op (some 26) (.mov (.tmp 28)) none,
  MI.op (some 29) (.ext (.tmp 26) 0) none,
  MI.op (some 30) (.ext (.tmp 26) 1) none,
  MI.op (some 7) (.alloc (List.replicate 32 (.int .u8 0))) none,
  MI.op none (.store 32 (.tmp 7) (.tmp 29)) none,
  MI.op (some 8) (.mov (.tmp 30)) none]
def m5_5 : MCode :=
 (.cond (.tmp 102)
  (.seq
   (.reg
    [MI.op (some 6) (.mov (.c (.bool false))) none])
   .ret)
  .skip)
def m5_6 : List MI :=
 [MI.op (some 125) (.pick (.tmp 123) (.tmp 124) (.c (.bool false))) none,
  MI.op (some 6) (.mov (.tmp 125)) none]
def m5_7 : MCode :=
 (.seq
  (.reg
   (MI.op (some 109) (.mov (.tmp 14)) none ::
    MI.op (some 110) (.bin .eql (.tmp 109) (.c (.int .i64 0))) none ::
    MI.op (some 111) (.mov (.tmp 110)) none ::
    MI.op (some 112) (.mov (.tmp 14)) (some (111, false)) ::
    MI.op (some 113) (.bin .eql (.tmp 112) (.c (.int .i64 17))) (some (111, false)) ::
    MI.op (some 114) (.pick (.tmp 111) (.c (.bool true)) (.tmp 113)) none ::
    MI.op (some 115) (.mov (.tmp 114)) none ::
    MI.op (some 116) (.mov (.tmp 16)) (some (115, true)) ::
    MI.op (some 117) (.bin .eql (.tmp 116) (.c (.int .i64 0))) (some (115, true)) ::
    MI.op (some 118) (.mov (.tmp 117)) (some (115, true)) ::
    MI.op (some 119) (.mov (.tmp 16)) (some (118, false)) ::
    MI.op (some 120) (.bin .eql (.tmp 119) (.c (.int .i64 17))) (some (118, false)) ::
    MI.op (some 121) (.pick (.tmp 118) (.c (.bool true)) (.tmp 120)) (some (115, true)) ::
    MI.op (some 122) (.pick (.tmp 115) (.tmp 121) (.c (.bool false))) none ::
    MI.op (some 123) (.mov (.tmp 122)) none ::
    MI.op (some 124) (.call 12 []) (some (123, true)) ::
    m5_6))
  .ret)
def m5_8 : MCode :=
 (.cond (.tmp 108)
  m5_7
  .skip)
def m5_9 : MCode :=
 (.seq
  (.drw
   [MI.op (some 126) (.mov (.tmp 13)) none,
    MI.op (some 127) (.len (.tmp 126)) none,
    MI.op (some 128) (.bin .eql (.tmp 127) (.c (.int .i64 1))) none,
    MI.op (some 129) (.mov (.tmp 128)) none,
    MI.op (some 130) (.mov (.tmp 15)) (some (129, true)),
    MI.op (some 131) (.len (.tmp 130)) (some (129, true)),
    MI.op (some 132) (.bin .eql (.tmp 131) (.c (.int .i64 1))) (some (129, true)),
    MI.op (some 133) (.pick (.tmp 129) (.tmp 132) (.c (.bool false))) none,
    MI.op (some 134) (.mov (.tmp 133)) none,
    MI.op (some 135) (.mov (.tmp 13)) (some (134, true)),
    MI.op (some 136) (.ixSl 33 (.tmp 135) (.c (.int .i64 0))) (some (134, true)),
    MI.op (some 137) (.fa 0 (.tmp 136)) (some (134, true)),
    MI.op (some 138) (.load false 1 (.tmp 137)) (some (134, true)),
    MI.op (some 139) (.bin .neq (.tmp 138) (.c (.int .i64 0))) (some (134, true)),
    MI.op (some 140) (.pick (.tmp 134) (.tmp 139) (.c (.bool false))) none,
    MI.op (some 141) (.mov (.tmp 140)) none,
    MI.op (some 142) (.mov (.tmp 13)) (some (141, true)),
    MI.op (some 143) (.ixSl 33 (.tmp 142) (.c (.int .i64 0))) (some (141, true)),
    MI.op (some 144) (.fa 1 (.tmp 143)) (some (141, true)),
    MI.op (some 145) (.load true 32 (.tmp 144)) (some (141, true)),
    MI.op (some 146) (.load true 32 (.tmp 5)) (some (141, true)),
    MI.op (some 147) (.eqv false [(32, .i)] (.tmp 145) (.tmp 146)) (some (141, true)),
    MI.op (some 148) (.pick (.tmp 141) (.tmp 147) (.c (.bool false))) none,
    MI.op (some 149) (.mov (.tmp 148)) none,
    MI.op (some 150) (.mov (.tmp 13)) (some (149, true)),
    MI.op (some 151) (.ixSl 33 (.tmp 150) (.c (.int .i64 0))) (some (149, true)),
    MI.op (some 152) (.fa 0 (.tmp 151)) (some (149, true)),
    MI.op (some 153) (.load false 1 (.tmp 152)) (some (149, true)),
    MI.op (some 154) (.mov (.tmp 15)) (some (149, true)),
    MI.op (some 155) (.ixSl 33 (.tmp 154) (.c (.int .i64 0))) (some (149, true)),
    MI.op (some 156) (.fa 0 (.tmp 155)) (some (149, true)),
    MI.op (some 157) (.load false 1 (.tmp 156)) (some (149, true)),
    MI.op (some 158) (.bin .eql (.tmp 153) (.tmp 157)) (some (149, true)),
    MI.op (some 159) (.mov (.tmp 9)) (some (149, true)),
    MI.op (some 160) (.mov (.tmp 10)) (some (149, true)),
    MI.op (some 161) (.bin .eql (.tmp 159) (.tmp 160)) (some (149, true)),
    MI.op (some 162) (.mov (.tmp 161)) (some (149, true)),
    MI.op (some 163) (.mov (.tmp 11)) (some (162, true)),
    MI.op (some 164) (.mov (.tmp 12)) (some (162, true)),
    MI.op (some 165) (.bin .eql (.tmp 163) (.tmp 164)) (some (162, true)),
    MI.op (some 166) (.pick (.tmp 162) (.tmp 165) (.c (.bool false))) (some (149, true))]
   [MI.op (some 167) (.binB .eql (.tmp 158) (.tmp 166)) (some (149, true)),
    MI.op (some 168) (.pick (.tmp 149) (.tmp 167) (.c (.bool false))) none,
    MI.op (some 169) (.mov (.tmp 168)) none,
    MI.op (some 170) (.call 12 []) (some (169, true)),
    MI.op (some 171) (.pick (.tmp 169) (.tmp 170) (.c (.bool false))) none,
    MI.op (some 6) (.mov (.tmp 171)) none])
  .ret)
def m5_10 : MCode :=
 (.seq
  (.seq
   (.reg
    [MI.op (some 103) (.mov (.tmp 14)) none,
     MI.op (some 104) (.bin .neq (.tmp 103) (.c (.int .i64 0))) none,
     MI.op (some 105) (.mov (.tmp 104)) none,
     MI.op (some 106) (.mov (.tmp 16)) (some (105, false)),
     MI.op (some 107) (.bin .neq (.tmp 106) (.c (.int .i64 0))) (some (105, false)),
     MI.op (some 108) (.pick (.tmp 105) (.c (.bool true)) (.tmp 107)) none])
  m5_8)
  m5_9)
def m5_11 : MCode :=
 (.seq
  (.seq
   (.reg
    [MI.op (some 75) (.mov (.tmp 8)) none,
     MI.op (some 76) (.bin .neq (.tmp 75) (.c (.int .i64 0))) none,
     MI.op (some 77) (.mov (.tmp 76)) none,
     MI.op (some 78) (.mov (.tmp 14)) (some (77, false)),
     MI.op (some 79) (.bin .eql (.tmp 78) (.c (.int .i64 0))) (some (77, false)),
     MI.op (some 80) (.mov (.tmp 11)) (some (77, false)),
     MI.op (some 81) (.mov (.tmp 0)) (some (77, false)),
     MI.op (some 82) (.mov (.tmp 9)) (some (77, false)),
     MI.op (some 83) (.ixSl 2 (.tmp 81) (.tmp 82)) (some (77, false)),
     MI.op (some 84) (.fa 1 (.tmp 83)) (some (77, false)),
     MI.op (some 85) (.load false 1 (.tmp 84)) (some (77, false)),
     MI.op (some 86) (.len (.tmp 85)) (some (77, false)),
     MI.op (some 87) (.bin .lss (.tmp 80) (.tmp 86)) (some (77, false)),
     MI.op (some 88) (.binB .neq (.tmp 79) (.tmp 87)) (some (77, false)),
     MI.op (some 89) (.pick (.tmp 77) (.c (.bool true)) (.tmp 88)) none,
     MI.op (some 90) (.mov (.tmp 89)) none,
     MI.op (some 91) (.mov (.tmp 16)) (some (90, false)),
     MI.op (some 92) (.bin .eql (.tmp 91) (.c (.int .i64 0))) (some (90, false)),
     MI.op (some 93) (.mov (.tmp 12)) (some (90, false)),
     MI.op (some 94) (.mov (.tmp 0)) (some (90, false)),
     MI.op (some 95) (.mov (.tmp 10)) (some (90, false)),
     MI.op (some 96) (.ixSl 2 (.tmp 94) (.tmp 95)) (some (90, false)),
     MI.op (some 97) (.fa 1 (.tmp 96)) (some (90, false)),
     MI.op (some 98) (.load false 1 (.tmp 97)) (some (90, false)),
     MI.op (some 99) (.len (.tmp 98)) (some (90, false)),
     MI.op (some 100) (.bin .lss (.tmp 93) (.tmp 99)) (some (90, false)),
     MI.op (some 101) (.binB .neq (.tmp 92) (.tmp 100)) (some (90, false)),
     MI.op (some 102) (.pick (.tmp 90) (.c (.bool true)) (.tmp 101)) none])
  m5_5)
  m5_10)
def m5_12 : MCode :=
 (.seq
  (.drw
   [MI.op (some 64) (.load true 32 (.tmp 7)) none,
    MI.op (some 65) (.mov (.tmp 0)) none,
    MI.op (some 66) (.mov (.tmp 10)) none,
    MI.op (some 67) (.ixSl 2 (.tmp 65) (.tmp 66)) none,
    MI.op (some 68) (.fa 0 (.tmp 67)) none,
    MI.op (some 69) (.load false 1 (.tmp 68)) none,
    MI.op (some 70) (.mov (.tmp 12)) none,
    MI.op (some 71) (.load true 32 (.tmp 5)) none,
    MI.op (some 72) (.call 18 [(.tmp 64), (.tmp 69), (.tmp 70), (.tmp 71)]) none,
    MI.op (some 63) (.mov (.tmp 72)) none,
    MI.op (some 73) (.ext (.tmp 63) 0) none,
    MI.op (some 74) (.ext (.tmp 63) 1) none,
    MI.op (some 15) (.mov (.tmp 73)) none]
   [MI.op (some 16) (.mov (.tmp 74)) none])
  m5_11)
def m5_13 : MCode :=
 (.seq
  (.drw
   [MI.op (some 52) (.load true 32 (.tmp 7)) none,
    MI.op (some 53) (.mov (.tmp 0)) none,
    MI.op (some 54) (.mov (.tmp 9)) none,
    MI.op (some 55) (.ixSl 2 (.tmp 53) (.tmp 54)) none,
    MI.op (some 56) (.fa 0 (.tmp 55)) none,
    MI.op (some 57) (.load false 1 (.tmp 56)) none,
    MI.op (some 58) (.mov (.tmp 11)) none,
    MI.op (some 59) (.load true 32 (.tmp 5)) none,
    MI.op (some 60) (.call 18 [(.tmp 52), (.tmp 57), (.tmp 58), (.tmp 59)]) none,
    MI.op (some 51) (.mov (.tmp 60)) none,
    MI.op (some 61) (.ext (.tmp 51) 0) none,
    MI.op (some 62) (.ext (.tmp 51) 1) none,
    MI.op (some 13) (.mov (.tmp 61)) none]
   [MI.op (some 14) (.mov (.tmp 62)) none])
  m5_12)
def m5_14 : MCode :=
 (.seq
  (.drw
   [MI.op (some 43) (.ixArr 4 1 (.tmp 4) (.c (.int .i64 2))) none,
    MI.op (some 44) (.load false 1 (.tmp 43)) none,
    MI.op (some 45) (.toInt .i64 (.tmp 44)) none,
    MI.op (some 46) (.bin .rem (.tmp 45) (.c (.int .i64 5))) none,
    MI.op (some 47) (.ixArr 4 1 (.tmp 4) (.c (.int .i64 3))) none,
    MI.op (some 48) (.load false 1 (.tmp 47)) none,
    MI.op (some 49) (.toInt .i64 (.tmp 48)) none,
    MI.op (some 50) (.bin .rem (.tmp 49) (.c (.int .i64 5))) none,
    MI.op (some 11) (.mov (.tmp 46)) none]
   [MI.op (some 12) (.mov (.tmp 50)) none])
  m5_13)
def m5_15 : MCode :=
 (.seq
  (.drw
   [MI.op (some 31) (.ixArr 4 1 (.tmp 4) (.c (.int .i64 0))) none,
    MI.op (some 32) (.load false 1 (.tmp 31)) none,
    MI.op (some 33) (.toInt .i64 (.tmp 32)) none,
    MI.op (some 34) (.mov (.tmp 0)) none,
    MI.op (some 35) (.len (.tmp 34)) none,
    MI.op (some 36) (.bin .rem (.tmp 33) (.tmp 35)) none,
    MI.op (some 37) (.ixArr 4 1 (.tmp 4) (.c (.int .i64 1))) none,
    MI.op (some 38) (.load false 1 (.tmp 37)) none,
    MI.op (some 39) (.toInt .i64 (.tmp 38)) none,
    MI.op (some 40) (.mov (.tmp 0)) none,
    MI.op (some 41) (.len (.tmp 40)) none,
    MI.op (some 42) (.bin .rem (.tmp 39) (.tmp 41)) none,
    MI.op (some 9) (.mov (.tmp 36)) none]
   [MI.op (some 10) (.mov (.tmp 42)) none])
  m5_14)
def m5_16 : MCode :=
 (.seq
  (.reg
   (MI.op (some 27) (.mov (.tmp 0)) none ::
    MI.op (some 28) (.call 26 [(.tmp 27)]) none ::
    m5_4))
  m5_15)
def m5_17 : MCode :=
 (.seq
  (.seq
   (.reg
    (MI.op (some 17) (.mov (.tmp 0)) none ::
     MI.op (some 18) (.call 25 [(.tmp 17)]) none ::
     m5_1))
  m5_3)
  m5_16)
def m5_r : List MRes := [.tmp 6]
def m5_b : MCode :=
 (.seq
  (.reg
   [MI.op (some 4) (.box (.tmp 1)) none,
    MI.op (some 5) (.box (.tmp 2)) none,
    MI.op (some 6) (.mov (.c (.bool false))) none])
  m5_17)
def m5 : MFunc := ⟨3, 172, m5_r, m5_b⟩
theorem c5 : compF Tryd.prog 5 m5 = some m5 := by kernel_rfl

end Go.Proofs.YtilbipknodpmmaaDoor
