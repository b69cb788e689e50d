/- The loaded functions as texts of the ideal machine (written by a program of ours), and that they are the loaded ones. -/
import Derived.Test.YtilbipknodpmmaaDoorE31
import Derived.Test.YtilbipknodpmmaaDoorProg
set_option linter.unusedVariables false
set_option linter.unusedSimpArgs false
set_option linter.unusedSectionVars false
namespace Go.Proofs.YtilbipknodpmmaaDoor
open Go.RowKit

/- tollhouse/tollhouselaw13.OpsMake -/
def m4_1 : List MI :=
 [MI.op (some 22) (.un .not (.tmp 21)) (some (19, false)),
  MI.op (some 23) (.pick (.tmp 19) (.c (.bool true)) (.tmp 22)) none]
def m4_2 : MCode :=
 (.seq
  (.reg
   [MI.op (some 24) (.call 12 []) none,
    MI.op (some 6) (.mov (.tmp 24)) none])
  .ret)
def m4_3 : MCode :=
 (.cond (.tmp 23)
  m4_2
  .skip)
def m4_4 : List MI :=
 [MI.op (some 25) (.mov (.tmp 27)) none,
  MI.op (some 28) (.ext (.tmp 25) 0) none,
  MI.op (some 29) (.ext (.tmp 25) 1) none,
  MI.op (some 7) (.alloc (List.replicate 32 (.int .u8 0))) none,
  MI.op none (.store 32 (.tmp 7) (.tmp 28)) none,
  MI.op (some 8) (.mov (.tmp 29)) none]
def m4_5 : MCode :=
 (.cond (.tmp 31)
  (.seq
   (.reg
    [MI.op (some 6) (.mov (.c (.bool false))) none])
   .ret)
  .skip)
def m4_6 : List MI :=
 [MI.op (some 32) (.mov (.tmp 36)) none,
  MI.op (some 37) (.ext (.tmp 32) 0) none,
  MI.op (some 38) (.ext (.tmp 32) 1) none,
  MI.op (some 9) (.mov (.tmp 37)) none,
  MI.op (some 10) (.mov (.tmp 38)) none]
def m4_7 : List MI :=
 [MI.op (some 46) (.pick (.tmp 44) (.tmp 45) (.c (.bool false))) none,
  MI.op (some 6) (.mov (.tmp 46)) none]
def m4_8 : MCode :=
 (.seq
  (.reg
   (MI.op (some 41) (.mov (.tmp 9)) none ::
    MI.op (some 42) (.len (.tmp 41)) none ::
    MI.op (some 43) (.bin .eql (.tmp 42) (.c (.int .i64 0))) none ::
    MI.op (some 44) (.mov (.tmp 43)) none ::
    MI.op (some 45) (.call 12 []) (some (44, true)) ::
    m4_7))
  .ret)
def m4_9 : MCode :=
 (.cond (.tmp 40)
  m4_8
  .skip)
def m4_10 : List MI :=
 [MI.op (some 52) (.un .not (.tmp 51)) (some (49, false)),
  MI.op (some 53) (.pick (.tmp 49) (.c (.bool true)) (.tmp 52)) none,
  MI.op (some 54) (.mov (.tmp 53)) none,
  MI.op (some 55) (.mov (.tmp 9)) (some (54, false)),
  MI.op (some 56) (.len (.tmp 55)) (some (54, false)),
  MI.op (some 57) (.mov (.tmp 2)) (some (54, false)),
  MI.op (some 58) (.bin .add (.tmp 57) (.c (.int .i64 1))) (some (54, false)),
  MI.op (some 59) (.bin .neq (.tmp 56) (.tmp 58)) (some (54, false)),
  MI.op (some 60) (.pick (.tmp 54) (.c (.bool true)) (.tmp 59)) none,
  MI.op (some 61) (.mov (.tmp 60)) none,
  MI.op (some 62) (.mov (.tmp 9)) (some (61, false)),
  MI.op (some 63) (.mov (.tmp 2)) (some (61, false)),
  MI.op (some 64) (.ixSl 33 (.tmp 62) (.tmp 63)) (some (61, false)),
  MI.op (some 65) (.fa 0 (.tmp 64)) (some (61, false)),
  MI.op (some 66) (.load false 1 (.tmp 65)) (some (61, false)),
  MI.op (some 67) (.bin .neq (.tmp 66) (.c (.int .i64 0))) (some (61, false)),
  MI.op (some 68) (.pick (.tmp 61) (.c (.bool true)) (.tmp 67)) none]
def m4_11 : MCode :=
 (.cond (.tmp 68)
  (.seq
   (.reg
    [MI.op (some 6) (.mov (.c (.bool false))) none])
   .ret)
  .skip)
def m4_12 : List MI :=
 [MI.op (some 69) (.mov (.tmp 75)) none,
  MI.op (some 76) (.ext (.tmp 69) 0) none,
  MI.op (some 77) (.ext (.tmp 69) 1) none,
  MI.op (some 11) (.mov (.tmp 76)) none,
  MI.op (some 12) (.mov (.tmp 77)) none]
def m4_13 : List MI :=
 [MI.op (some 95) (.un .not (.tmp 94)) (some (88, false)),
  MI.op (some 96) (.pick (.tmp 88) (.c (.bool true)) (.tmp 95)) none,
  MI.op (some 97) (.mov (.tmp 96)) none,
  MI.op (some 98) (.mov (.tmp 11)) (some (97, false)),
  MI.op (some 99) (.mov (.tmp 0)) (some (97, false)),
  MI.op (some 100) (.len (.tmp 99)) (some (97, false)),
  MI.op (some 101) (.ixSl 2 (.tmp 98) (.tmp 100)) (some (97, false)),
  MI.op (some 102) (.fa 0 (.tmp 101)) (some (97, false)),
  MI.op (some 103) (.load false 1 (.tmp 102)) (some (97, false)),
  MI.op (some 104) (.mov (.tmp 1)) (some (97, false)),
  MI.op (some 105) (.bin .neq (.tmp 103) (.tmp 104)) (some (97, false)),
  MI.op (some 106) (.pick (.tmp 97) (.c (.bool true)) (.tmp 105)) none,
  MI.op (some 107) (.mov (.tmp 106)) none,
  MI.op (some 108) (.mov (.tmp 11)) (some (107, false)),
  MI.op (some 109) (.mov (.tmp 0)) (some (107, false)),
  MI.op (some 110) (.len (.tmp 109)) (some (107, false)),
  MI.op (some 111) (.ixSl 2 (.tmp 108) (.tmp 110)) (some (107, false)),
  MI.op (some 112) (.fa 1 (.tmp 111)) (some (107, false)),
  MI.op (some 113) (.load false 1 (.tmp 112)) (some (107, false)),
  MI.op (some 114) (.len (.tmp 113)) (some (107, false)),
  MI.op (some 115) (.mov (.tmp 2)) (some (107, false)),
  MI.op (some 116) (.bin .neq (.tmp 114) (.tmp 115)) (some (107, false)),
  MI.op (some 117) (.pick (.tmp 107) (.c (.bool true)) (.tmp 116)) none]
def m4_14 : MCode :=
 (.cond (.tmp 117)
  (.seq
   (.reg
    [MI.op (some 6) (.mov (.c (.bool false))) none])
   .ret)
  .skip)
def m4_15 : MCode :=
 (.cond (.tmp 146)
  (.seq
   (.reg
    [MI.op (some 6) (.mov (.c (.bool false))) none])
   .ret)
  .skip)
def m4_16 : MCode :=
 (.seq
  (.blk 1
   (.seq
    (.drw
     [MI.op (some 123) (.mov (.tmp 9)) none,
      MI.op (some 124) (.mov (.tmp 13)) none,
      MI.op (some 125) (.ixSl 33 (.tmp 123) (.tmp 124)) none,
      MI.op (some 126) (.fa 0 (.tmp 125)) none,
      MI.op (some 127) (.load false 1 (.tmp 126)) none,
      MI.op (some 128) (.mov (.tmp 11)) none,
      MI.op (some 129) (.mov (.tmp 0)) none,
      MI.op (some 130) (.len (.tmp 129)) none,
      MI.op (some 131) (.ixSl 2 (.tmp 128) (.tmp 130)) none,
      MI.op (some 132) (.fa 1 (.tmp 131)) none,
      MI.op (some 133) (.load false 1 (.tmp 132)) none,
      MI.op (some 134) (.mov (.tmp 13)) none,
      MI.op (some 135) (.ixSl 1 (.tmp 133) (.tmp 134)) none,
      MI.op (some 136) (.load false 1 (.tmp 135)) none,
      MI.op (some 137) (.bin .neq (.tmp 127) (.tmp 136)) none,
      MI.op (some 138) (.mov (.tmp 137)) none,
      MI.op (some 139) (.mov (.tmp 9)) (some (138, false)),
      MI.op (some 140) (.mov (.tmp 13)) (some (138, false)),
      MI.op (some 141) (.ixSl 33 (.tmp 139) (.tmp 140)) (some (138, false)),
      MI.op (some 142) (.fa 1 (.tmp 141)) (some (138, false)),
      MI.op (some 143) (.load true 32 (.tmp 142)) (some (138, false)),
      MI.op (some 144) (.build (List.replicate 32 (.int .u8 0)) []) (some (138, false))]
     [MI.op (some 145) (.eqv true [(32, .i)] (.tmp 143) (.tmp 144)) (some (138, false)),
      MI.op (some 146) (.pick (.tmp 138) (.c (.bool true)) (.tmp 145)) none])
  m4_15))
  (.reg
   [MI.op (some 121) (.mov (.tmp 13)) none,
    MI.op (some 122) (.bin .add (.tmp 121) (.c (.int .i64 1))) none,
    MI.op (some 13) (.mov (.tmp 122)) none]))
def m4_17 : MCode :=
 (.seq
  (.seq
   (.reg
    [MI.op (some 118) (.mov (.tmp 13)) none,
     MI.op (some 119) (.mov (.tmp 2)) none,
     MI.op (some 120) (.bin .lss (.tmp 118) (.tmp 119)) none])
   (.cond (.tmp 120)
    .skip
    (.exit 0)))
  m4_16)
def m4_18 : MCode :=
 (.blk 0
  (.loop
  m4_17))
def m4_19 : List MI :=
 [MI.op (some 147) (.mov (.tmp 154)) none,
  MI.op (some 155) (.ext (.tmp 147) 0) none,
  MI.op (some 156) (.ext (.tmp 147) 1) none,
  MI.op (some 14) (.mov (.tmp 155)) none,
  MI.op (some 15) (.mov (.tmp 156)) none]
def m4_20 : MCode :=
 (.seq
  (.drw
   [MI.op (some 157) (.mov (.tmp 15)) none,
    MI.op (some 158) (.bin .eql (.tmp 157) (.c (.int .i64 0))) none,
    MI.op (some 159) (.mov (.tmp 158)) none,
    MI.op (some 160) (.mov (.tmp 14)) (some (159, true)),
    MI.op (some 161) (.len (.tmp 160)) (some (159, true)),
    MI.op (some 162) (.bin .eql (.tmp 161) (.c (.int .i64 1))) (some (159, true)),
    MI.op (some 163) (.pick (.tmp 159) (.tmp 162) (.c (.bool false))) none,
    MI.op (some 164) (.mov (.tmp 163)) none,
    MI.op (some 165) (.mov (.tmp 14)) (some (164, true)),
    MI.op (some 166) (.ixSl 33 (.tmp 165) (.c (.int .i64 0))) (some (164, true)),
    MI.op (some 167) (.fa 0 (.tmp 166)) (some (164, true)),
    MI.op (some 168) (.load false 1 (.tmp 167)) (some (164, true)),
    MI.op (some 169) (.bin .eql (.tmp 168) (.c (.int .i64 0))) (some (164, true)),
    MI.op (some 170) (.pick (.tmp 164) (.tmp 169) (.c (.bool false))) none,
    MI.op (some 171) (.mov (.tmp 170)) none,
    MI.op (some 172) (.mov (.tmp 14)) (some (171, true)),
    MI.op (some 173) (.ixSl 33 (.tmp 172) (.c (.int .i64 0))) (some (171, true)),
    MI.op (some 174) (.fa 1 (.tmp 173)) (some (171, true)),
    MI.op (some 175) (.load true 32 (.tmp 174)) (some (171, true)),
    MI.op (some 176) (.load true 32 (.tmp 7)) (some (171, true))]
   [MI.op (some 177) (.eqv false [(32, .i)] (.tmp 175) (.tmp 176)) (some (171, true)),
    MI.op (some 178) (.pick (.tmp 171) (.tmp 177) (.c (.bool false))) none,
    MI.op (some 179) (.mov (.tmp 178)) none,
    MI.op (some 180) (.call 12 []) (some (179, true)),
    MI.op (some 181) (.pick (.tmp 179) (.tmp 180) (.c (.bool false))) none,
    MI.op (some 6) (.mov (.tmp 181)) none])
  .ret)
def m4_21 : MCode :=
 (.seq
  (.reg
   (MI.op (some 148) (.mov (.tmp 9)) none ::
    MI.op (some 149) (.mov (.tmp 2)) none ::
    MI.op (some 150) (.ixSl 33 (.tmp 148) (.tmp 149)) none ::
    MI.op (some 151) (.fa 1 (.tmp 150)) none ::
    MI.op (some 152) (.load true 32 (.tmp 151)) none ::
    MI.op (some 153) (.mov (.tmp 1)) none ::
    MI.op (some 154) (.call 23 [(.tmp 152), (.tmp 153)]) none ::
    m4_19))
  m4_20)
def m4_22 : MCode :=
 (.seq
  (.seq
   (.reg
    [MI.op (some 13) (.mov (.c (.int .i64 0))) none])
  m4_18)
  m4_21)
def m4_23 : MCode :=
 (.seq
  (.seq
   (.reg
    (MI.op (some 78) (.mov (.tmp 12)) none ::
     MI.op (some 79) (.bin .neq (.tmp 78) (.c (.int .i64 0))) none ::
     MI.op (some 80) (.mov (.tmp 79)) none ::
     MI.op (some 81) (.mov (.tmp 11)) (some (80, false)) ::
     MI.op (some 82) (.len (.tmp 81)) (some (80, false)) ::
     MI.op (some 83) (.mov (.tmp 0)) (some (80, false)) ::
     MI.op (some 84) (.len (.tmp 83)) (some (80, false)) ::
     MI.op (some 85) (.bin .add (.tmp 84) (.c (.int .i64 1))) (some (80, false)) ::
     MI.op (some 86) (.bin .neq (.tmp 82) (.tmp 85)) (some (80, false)) ::
     MI.op (some 87) (.pick (.tmp 80) (.c (.bool true)) (.tmp 86)) none ::
     MI.op (some 88) (.mov (.tmp 87)) none ::
     MI.op (some 89) (.mov (.tmp 11)) (some (88, false)) ::
     MI.op (some 90) (.mov (.tmp 0)) (some (88, false)) ::
     MI.op (some 91) (.len (.tmp 90)) (some (88, false)) ::
     MI.op (some 92) (.slSl 2 (.tmp 89) none (some (.tmp 91)) none) (some (88, false)) ::
     MI.op (some 93) (.mov (.tmp 0)) (some (88, false)) ::
     MI.op (some 94) (.call 15 [(.tmp 92), (.tmp 93)]) (some (88, false)) ::
     m4_13))
  m4_14)
  m4_22)
def m4_24 : MCode :=
 (.seq
  (.reg
   (MI.op (some 70) (.mov (.tmp 9)) none ::
    MI.op (some 71) (.mov (.tmp 2)) none ::
    MI.op (some 72) (.ixSl 33 (.tmp 70) (.tmp 71)) none ::
    MI.op (some 73) (.fa 1 (.tmp 72)) none ::
    MI.op (some 74) (.load true 32 (.tmp 73)) none ::
    MI.op (some 75) (.call 28 [(.tmp 74)]) none ::
    m4_12))
  m4_23)
def m4_25 : MCode :=
 (.seq
  (.seq
   (.reg
    (MI.op (some 47) (.mov (.tmp 2)) none ::
     MI.op (some 48) (.bin .lss (.tmp 47) (.c (.int .i64 0))) none ::
     MI.op (some 49) (.mov (.tmp 48)) none ::
     MI.op (some 50) (.mov (.tmp 9)) (some (49, false)) ::
     MI.op (some 51) (.call 27 [(.tmp 50)]) (some (49, false)) ::
     m4_10))
  m4_11)
  m4_24)
def m4_26 : MCode :=
 (.seq
  (.seq
   (.reg
    [MI.op (some 39) (.mov (.tmp 10)) none,
     MI.op (some 40) (.bin .neq (.tmp 39) (.c (.int .i64 0))) none])
  m4_9)
  m4_25)
def m4_27 : MCode :=
 (.seq
  (.reg
   (MI.op (some 33) (.load true 32 (.tmp 7)) none ::
    MI.op (some 34) (.mov (.tmp 1)) none ::
    MI.op (some 35) (.mov (.tmp 2)) none ::
    MI.op (some 36) (.call 21 [(.tmp 33), (.tmp 34), (.tmp 35)]) none ::
    m4_6))
  m4_26)
def m4_28 : MCode :=
 (.seq
  (.seq
   (.reg
    [MI.op (some 30) (.mov (.tmp 8)) none,
     MI.op (some 31) (.bin .neq (.tmp 30) (.c (.int .i64 0))) none])
  m4_5)
  m4_27)
def m4_29 : MCode :=
 (.seq
  (.reg
   (MI.op (some 26) (.mov (.tmp 0)) none ::
    MI.op (some 27) (.call 26 [(.tmp 26)]) none ::
    m4_4))
  m4_28)
def m4_30 : MCode :=
 (.seq
  (.seq
   (.reg
    (MI.op (some 16) (.mov (.tmp 1)) none ::
     MI.op (some 17) (.lenS (.tmp 16)) none ::
     MI.op (some 18) (.bin .gtr (.tmp 17) (.c (.int .i64 100))) none ::
     MI.op (some 19) (.mov (.tmp 18)) none ::
     MI.op (some 20) (.mov (.tmp 0)) (some (19, false)) ::
     MI.op (some 21) (.call 25 [(.tmp 20)]) (some (19, false)) ::
     m4_1))
  m4_3)
  m4_29)
def m4_r : List MRes := [.tmp 6]
def m4_b : MCode :=
 (.seq
  (.reg
   [MI.op (some 6) (.mov (.c (.bool false))) none])
  m4_30)
def m4 : MFunc := ⟨3, 182, m4_r, m4_b⟩
theorem c4 : compF Tryd.prog 4 m4 = some m4 := by kernel_rfl

/- tollhouse/tollhouseref08.Good -/
def m27_1 : MCode :=
 (.cond (.tmp 24)
  (.seq
   (.reg
    [MI.op (some 2) (.mov (.c (.bool false))) none])
   .ret)
  .skip)
def m27_2 : MCode :=
 (.cond (.tmp 40)
  (.seq
   (.reg
    [MI.op (some 2) (.mov (.c (.bool false))) none])
   .ret)
  .skip)
def m27_3 : MCode :=
 (.seq
  (.blk 3
   (.seq
    (.drw
     [MI.op (some 30) (.mov (.tmp 0)) none,
      MI.op (some 31) (.mov (.tmp 4)) none,
      MI.op (some 32) (.ixSl 33 (.tmp 30) (.tmp 31)) none,
      MI.op (some 33) (.fa 0 (.tmp 32)) none,
      MI.op (some 34) (.load false 1 (.tmp 33)) none,
      MI.op (some 35) (.mov (.tmp 0)) none,
      MI.op (some 36) (.mov (.tmp 3)) none,
      MI.op (some 37) (.ixSl 33 (.tmp 35) (.tmp 36)) none,
      MI.op (some 38) (.fa 0 (.tmp 37)) none,
      MI.op (some 39) (.load false 1 (.tmp 38)) none]
     [MI.op (some 40) (.bin .eql (.tmp 34) (.tmp 39)) none])
  m27_2))
  (.reg
   [MI.op (some 28) (.mov (.tmp 4)) none,
    MI.op (some 29) (.bin .add (.tmp 28) (.c (.int .i64 1))) none,
    MI.op (some 4) (.mov (.tmp 29)) none]))
def m27_4 : MCode :=
 (.seq
  (.seq
   (.reg
    [MI.op (some 25) (.mov (.tmp 4)) none,
     MI.op (some 26) (.mov (.tmp 3)) none,
     MI.op (some 27) (.bin .lss (.tmp 25) (.tmp 26)) none])
   (.cond (.tmp 27)
    .skip
    (.exit 2)))
  m27_3)
def m27_5 : MCode :=
 (.blk 2
  (.loop
  m27_4))
def m27_6 : MCode :=
 (.seq
  (.reg
   [MI.op (some 4) (.mov (.c (.int .i64 0))) none])
  m27_5)
def m27_7 : MCode :=
 (.seq
  (.blk 1
   (.seq
    (.seq
     (.reg
      [MI.op (some 11) (.mov (.tmp 0)) none,
       MI.op (some 12) (.mov (.tmp 3)) none,
       MI.op (some 13) (.ixSl 33 (.tmp 11) (.tmp 12)) none,
       MI.op (some 14) (.fa 0 (.tmp 13)) none,
       MI.op (some 15) (.load false 1 (.tmp 14)) none,
       MI.op (some 16) (.bin .lss (.tmp 15) (.c (.int .i64 0))) none,
       MI.op (some 17) (.mov (.tmp 16)) none,
       MI.op (some 18) (.mov (.tmp 0)) (some (17, false)),
       MI.op (some 19) (.mov (.tmp 3)) (some (17, false)),
       MI.op (some 20) (.ixSl 33 (.tmp 18) (.tmp 19)) (some (17, false)),
       MI.op (some 21) (.fa 0 (.tmp 20)) (some (17, false)),
       MI.op (some 22) (.load false 1 (.tmp 21)) (some (17, false)),
       MI.op (some 23) (.bin .geq (.tmp 22) (.c (.int .i64 12))) (some (17, false)),
       MI.op (some 24) (.pick (.tmp 17) (.c (.bool true)) (.tmp 23)) none])
  m27_1)
  m27_6))
  (.reg
   [MI.op (some 9) (.mov (.tmp 3)) none,
    MI.op (some 10) (.bin .add (.tmp 9) (.c (.int .i64 1))) none,
    MI.op (some 3) (.mov (.tmp 10)) none]))
def m27_8 : MCode :=
 (.seq
  (.seq
   (.reg
    [MI.op (some 5) (.mov (.tmp 3)) none,
     MI.op (some 6) (.mov (.tmp 0)) none,
     MI.op (some 7) (.len (.tmp 6)) none,
     MI.op (some 8) (.bin .lss (.tmp 5) (.tmp 7)) none])
   (.cond (.tmp 8)
    .skip
    (.exit 0)))
  m27_7)
def m27_9 : MCode :=
 (.blk 0
  (.loop
  m27_8))
def m27_10 : MCode :=
 (.seq
  (.reg
   [MI.op (some 41) (.mov (.tmp 0)) none,
    MI.op (some 42) (.len (.tmp 41)) none,
    MI.op (some 43) (.bin .geq (.tmp 42) (.c (.int .i64 1))) none,
    MI.op (some 44) (.mov (.tmp 43)) none,
    MI.op (some 45) (.mov (.tmp 0)) (some (44, true)),
    MI.op (some 46) (.len (.tmp 45)) (some (44, true)),
    MI.op (some 47) (.bin .leq (.tmp 46) (.c (.int .i64 5))) (some (44, true)),
    MI.op (some 48) (.pick (.tmp 44) (.tmp 47) (.c (.bool false))) none,
    MI.op (some 2) (.mov (.tmp 48)) none])
  .ret)
def m27_11 : MCode :=
 (.seq
  (.seq
   (.reg
    [MI.op (some 3) (.mov (.c (.int .i64 0))) none])
  m27_9)
  m27_10)
def m27_r : List MRes := [.tmp 2]
def m27_b : MCode :=
 (.seq
  (.reg
   [MI.op (some 2) (.mov (.c (.bool false))) none])
  m27_11)
def m27 : MFunc := ⟨1, 49, m27_r, m27_b⟩
theorem c27 : compF Tryd.prog 27 m27 = some m27 := by kernel_rfl

end Go.Proofs.YtilbipknodpmmaaDoor
