/- The loaded functions as texts of the ideal machine (written by a program of ours), and that they are the loaded ones. -/
import Derived.Test.YtkphojcmjffccaaE31
import Derived.Test.YtkphojcmjffccaaProg
set_option linter.unusedVariables false
set_option linter.unusedSimpArgs false
set_option linter.unusedSectionVars false
namespace Go.Proofs.Ytkphojcmjffccaa
open Go.RowKit

/- tollhouse/tollhouselaw25.AuditAdds -/
def m3_1 : MCode :=
 (.seq
  (.reg
   [MI.op (some 17) (.call 10 []) none,
    MI.op (some 4) (.mov (.tmp 17)) none])
  .ret)
def m3_2 : MCode :=
 (.cond (.tmp 16)
  m3_1
  .skip)
def m3_3 : MCode :=
 (.cond (.tmp 68)
  (.seq
   (.reg
    [MI.op (some 4) (.mov (.c (.bool false))) none])
   .ret)
  .skip)
def m3_4 : List MI :=
 [MI.op (some 69) (.mov (.tmp 72)) none,
  MI.op (some 73) (.ext (.tmp 69) 0) none,
  MI.op (some 74) (.ext (.tmp 69) 1) none,
  MI.op (some 10) (.mov (.tmp 73)) none,
  MI.op (some 11) (.mov (.tmp 74)) none]
def m3_5 : List MI :=
 [MI.op (some 75) (.mov (.tmp 83)) none,
  MI.op (some 84) (.ext (.tmp 75) 0) none,
  MI.op (some 85) (.ext (.tmp 75) 1) none,
  MI.op (some 12) (.mov (.tmp 84)) none,
  MI.op (some 13) (.mov (.tmp 85)) none]
def m3_6 : List MI :=
 [MI.op (some 89) (.un .not (.tmp 88)) none,
  MI.op (some 90) (.mov (.tmp 89)) none,
  MI.op (some 91) (.mov (.tmp 11)) (some (90, false)),
  MI.op (some 92) (.mov (.tmp 13)) (some (90, false)),
  MI.op (some 93) (.bin .neq (.tmp 91) (.tmp 92)) (some (90, false)),
  MI.op (some 94) (.pick (.tmp 90) (.c (.bool true)) (.tmp 93)) none]
def m3_7 : MCode :=
 (.cond (.tmp 94)
  (.seq
   (.reg
    [MI.op (some 4) (.mov (.c (.bool false))) none])
   .ret)
  .skip)
def m3_8 : MCode :=
 (.seq
  (.reg
   (MI.op (some 86) (.mov (.tmp 10)) none ::
    MI.op (some 87) (.mov (.tmp 12)) none ::
    MI.op (some 88) (.call 17 [(.tmp 86), (.tmp 87)]) none ::
    m3_6))
  m3_7)
def m3_9 : MCode :=
 (.seq
  (.reg
   (MI.op (some 76) (.load true 32 (.tmp 3)) none ::
    MI.op (some 77) (.fa 1 (.tmp 8)) none ::
    MI.op (some 78) (.fa 0 (.tmp 77)) none ::
    MI.op (some 79) (.load false 1 (.tmp 78)) none ::
    MI.op (some 80) (.fa 1 (.tmp 8)) none ::
    MI.op (some 81) (.fa 1 (.tmp 80)) none ::
    MI.op (some 82) (.load false 1 (.tmp 81)) none ::
    MI.op (some 83) (.call 16 [(.tmp 76), (.tmp 79), (.tmp 82)]) none ::
    m3_5))
  m3_8)
def m3_10 : MCode :=
 (.seq
  (.reg
   (MI.op (some 70) (.load true 32 (.tmp 3)) none ::
    MI.op (some 71) (.load true 3 (.tmp 9)) none ::
    MI.op (some 72) (.call 15 [(.tmp 70), (.tmp 71)]) none ::
    m3_4))
  m3_9)
def m3_11 : MCode :=
 (.seq
  (.seq
   (.drx
    [(MI.op (some 44) (.mov (.tmp 5)) none, []),
     (MI.op (some 45) (.bsl 0 1 [(.int .u8 0)] []) none, []),
     (MI.op (some 46) (.fa 0 (.tmp 8)) none, []),
     (MI.op (some 47) (.load false 1 (.tmp 46)) none, [2]),
     (MI.op (some 48) (.appP 1 1 (.tmp 45) (.tmp 47)) none, [1, 3]),
     (MI.op (some 49) (.load true 3 (.tmp 9)) none, []),
     (MI.op (some 50) (.calln 11 [(.tmp 44), (.tmp 48), (.tmp 49)]) none, [0, 4, 5]),
     (MI.op (some 51) (.mov (.tmp 6)) none, []),
     (MI.op (some 52) (.fa 0 (.tmp 8)) none, []),
     (MI.op (some 53) (.load false 1 (.tmp 52)) none, [8]),
     (MI.op (some 54) (.fa 1 (.tmp 8)) none, []),
     (MI.op (some 55) (.fa 0 (.tmp 54)) none, [10]),
     (MI.op (some 56) (.load false 1 (.tmp 55)) none, [11]),
     (MI.op (some 57) (.fa 1 (.tmp 8)) none, []),
     (MI.op (some 58) (.fa 1 (.tmp 57)) none, [13]),
     (MI.op (some 59) (.load false 1 (.tmp 58)) none, [14]),
     (MI.op (some 60) (.calln 12 [(.tmp 51), (.tmp 53), (.tmp 56), (.tmp 59)]) none, [7, 9, 12, 15, 6]),
     (MI.op (some 61) (.bin .neq (.tmp 50) (.tmp 60)) none, [6, 16]),
     (MI.op (some 62) (.mov (.tmp 61)) none, [17, 16]),
     (MI.op (some 63) (.mov (.tmp 5)) (some (62, false)), [18]),
     (MI.op (some 64) (.calln 13 [(.tmp 63)]) (some (62, false)), [19, 18]),
     (MI.op (some 65) (.mov (.tmp 6)) (some (62, false)), [18]),
     (MI.op (some 66) (.calln 14 [(.tmp 65)]) (some (62, false)), [21, 20, 18]),
     (MI.op (some 67) (.eqv true [(32, .i)] (.tmp 64) (.tmp 66)) (some (62, false)), [20, 22, 18]),
     (MI.op (some 68) (.pick (.tmp 62) (.c (.bool true)) (.tmp 67)) none, [18, 23])])
  m3_3)
  m3_10)
def m3_12 : MCode :=
 (.seq
  (.drw
   [MI.op (some 32) (.fa 1 (.tmp 8)) none,
    MI.op (some 33) (.fa 0 (.tmp 32)) none,
    MI.op (some 34) (.load false 1 (.tmp 33)) none,
    MI.op (some 35) (.fa 1 (.tmp 8)) none,
    MI.op (some 36) (.fa 1 (.tmp 35)) none,
    MI.op (some 37) (.load false 1 (.tmp 36)) none,
    MI.op (some 38) (.bsl 0 1 [(.int .u8 0)] []) none,
    MI.op (some 39) (.fa 1 (.tmp 8)) none,
    MI.op (some 40) (.fa 2 (.tmp 39)) none,
    MI.op (some 41) (.load false 1 (.tmp 40)) none,
    MI.op (some 42) (.appP 1 1 (.tmp 38) (.tmp 41)) none,
    MI.op (some 43) (.build [(.int .i64 0), (.int .i64 0), (.sl .full 0 [])] [(0, 1, (.tmp 34)), (1, 1, (.tmp 37)), (2, 1, (.tmp 42))]) none,
    MI.op (some 9) (.alloc [(.int .i64 0), (.int .i64 0), (.sl .full 0 [])]) none]
   [MI.op none (.store 3 (.tmp 9) (.tmp 43)) none])
  m3_11)
def m3_13 : MCode :=
 (.seq
  (.blk 1
   (.seq
    (.reg
     [MI.op (some 28) (.mov (.tmp 0)) none,
      MI.op (some 29) (.mov (.tmp 7)) none,
      MI.op (some 30) (.ixSl 4 (.tmp 28) (.tmp 29)) none,
      MI.op (some 31) (.load true 4 (.tmp 30)) none,
      MI.op (some 8) (.alloc [(.sl .full 0 []), (.int .i64 0), (.int .i64 0), (.sl .full 0 [])]) none,
      MI.op none (.store 4 (.tmp 8) (.tmp 31)) none])
  m3_12))
  (.reg
   [MI.op (some 26) (.mov (.tmp 7)) none,
    MI.op (some 27) (.bin .add (.tmp 26) (.c (.int .i64 1))) none,
    MI.op (some 7) (.mov (.tmp 27)) none]))
def m3_14 : MCode :=
 (.seq
  (.seq
   (.reg
    [MI.op (some 22) (.mov (.tmp 7)) none,
     MI.op (some 23) (.mov (.tmp 0)) none,
     MI.op (some 24) (.len (.tmp 23)) none,
     MI.op (some 25) (.bin .lss (.tmp 22) (.tmp 24)) none])
   (.cond (.tmp 25)
    .skip
    (.exit 0)))
  m3_13)
def m3_15 : MCode :=
 (.blk 0
  (.loop
  m3_14))
def m3_16 : MCode :=
 (.seq
  (.drc
   [MI.op (some 95) (.mov (.tmp 5)) none]
   (MI.op (some 96) (.calln 19 [(.tmp 95)]) none)
   [MI.op (some 97) (.mov (.tmp 6)) none,
    MI.op (some 98) (.chk (.tmp 97)) none,
    MI.op (some 99) (.fa 0 (.tmp 98)) none,
    MI.op (some 100) (.load false 1 (.tmp 99)) none]
   [MI.op (some 101) (.call 18 [(.tmp 96), (.tmp 100)]) none,
    MI.op (some 102) (.mov (.tmp 101)) none,
    MI.op (some 103) (.call 10 []) (some (102, true)),
    MI.op (some 104) (.pick (.tmp 102) (.tmp 103) (.c (.bool false))) none,
    MI.op (some 4) (.mov (.tmp 104)) none])
  .ret)
def m3_17 : MCode :=
 (.seq
  (.seq
   (.reg
    [MI.op (some 7) (.mov (.c (.int .i64 0))) none])
  m3_15)
  m3_16)
def m3_18 : MCode :=
 (.seq
  (.reg
   [MI.op (some 18) (.build [(.sl .full 0 [])] []) none,
    MI.op (some 19) (.box (.tmp 18)) none,
    MI.op (some 20) (.build [(.sl .full 0 [])] []) none,
    MI.op (some 21) (.box (.tmp 20)) none,
    MI.op (some 5) (.mov (.tmp 19)) none,
    MI.op (some 6) (.mov (.tmp 21)) none])
  m3_17)
def m3_19 : MCode :=
 (.seq
  (.seq
   (.reg
    [MI.op (some 14) (.mov (.tmp 0)) none,
     MI.op (some 15) (.call 9 [(.tmp 14)]) none,
     MI.op (some 16) (.un .not (.tmp 15)) none])
  m3_2)
  m3_18)
def m3_r : List MRes := [.tmp 4]
def m3_b : MCode :=
 (.seq
  (.reg
   [MI.op (some 3) (.box (.tmp 1)) none,
    MI.op (some 4) (.mov (.c (.bool false))) none])
  m3_19)
def m3 : MFunc := ⟨2, 105, m3_r, m3_b⟩
theorem c3 : compF Try.prog 3 m3 = some m3 := by kernel_rfl

/- tollhouse/tollhouselaw25.AuditVerifies -/
def m4_1 : MCode :=
 (.seq
  (.reg
   [MI.op (some 6) (.call 10 []) none,
    MI.op (some 2) (.mov (.tmp 6)) none])
  .ret)
def m4_2 : MCode :=
 (.cond (.tmp 5)
  m4_1
  .skip)
def m4_3 : List MI :=
 [MI.op (some 17) (.pick (.tmp 15) (.tmp 16) (.c (.bool false))) none,
  MI.op (some 2) (.mov (.tmp 17)) none]
def m4_4 : List MI :=
 (MI.op (some 14) (.bin .eql (.tmp 10) (.tmp 13)) none ::
  MI.op (some 15) (.mov (.tmp 14)) none ::
  MI.op (some 16) (.call 10 []) (some (15, true)) ::
  m4_3)
def m4_5 : List MI :=
 (MI.op (some 13) (.call 21 [(.tmp 12)]) none ::
  m4_4)
def m4_6 : List MI :=
 (MI.op (some 11) (.mov (.tmp 0)) none ::
  MI.op (some 12) (.call 22 [(.tmp 11)]) none ::
  m4_5)
def m4_7 : MCode :=
 (.seq
  (.reg
   (MI.op (some 7) (.bsl 0 66 [(.int .u8 0), (.int .u8 0), (.int .u8 0), (.int .u8 0), (.int .u8 0), (.int .u8 0), (.int .u8 0), (.int .u8 0), (.int .u8 0), (.int .u8 0), (.int .u8 0), (.int .u8 0), (.int .u8 0), (.int .u8 0), (.int .u8 0), (.int .u8 0), (.int .u8 0), (.int .u8 0), (.int .u8 0), (.int .u8 0), (.int .u8 0), (.int .u8 0), (.int .u8 0), (.int .u8 0), (.int .u8 0), (.int .u8 0), (.int .u8 0), (.int .u8 0), (.int .u8 0), (.int .u8 0), (.int .u8 0), (.int .u8 0), (.int .i64 0), (.int .i64 0), (.int .u8 0), (.int .u8 0), (.int .u8 0), (.int .u8 0), (.int .u8 0), (.int .u8 0), (.int .u8 0), (.int .u8 0), (.int .u8 0), (.int .u8 0), (.int .u8 0), (.int .u8 0), (.int .u8 0), (.int .u8 0), (.int .u8 0), (.int .u8 0), (.int .u8 0), (.int .u8 0), (.int .u8 0), (.int .u8 0), (.int .u8 0), (.int .u8 0), (.int .u8 0), (.int .u8 0), (.int .u8 0), (.int .u8 0), (.int .u8 0), (.int .u8 0), (.int .u8 0), (.int .u8 0), (.int .u8 0), (.int .u8 0)] []) none ::
    MI.op (some 8) (.mov (.tmp 0)) none ::
    MI.op (some 9) (.app 66 80 (.tmp 7) (.tmp 8)) none ::
    MI.op (some 10) (.call 20 [(.tmp 9)]) none ::
    m4_6))
  .ret)
def m4_8 : MCode :=
 (.seq
  (.seq
   (.reg
    [MI.op (some 3) (.mov (.tmp 0)) none,
     MI.op (some 4) (.len (.tmp 3)) none,
     MI.op (some 5) (.bin .gtr (.tmp 4) (.c (.int .i64 30))) none])
  m4_2)
  m4_7)
def m4_r : List MRes := [.tmp 2]
def m4_b : MCode :=
 (.seq
  (.reg
   [MI.op (some 2) (.mov (.c (.bool false))) none])
  m4_8)
def m4 : MFunc := ⟨1, 18, m4_r, m4_b⟩
theorem c4 : compF Try.prog 4 m4 = some m4 := by kernel_rfl

/- tollhouse/tollhouselaw25.AuditTurned -/
/- tollhouse/tollhouselaw25.AuditNone -/
/- tollhouse/tollhouselaw25.AuditGoes -/
def m7_1 : MCode :=
 (.seq
  (.reg
   [MI.op (some 18) (.call 10 []) none,
    MI.op (some 4) (.mov (.tmp 18)) none])
  .ret)
def m7_2 : MCode :=
 (.cond (.tmp 17)
  m7_1
  .skip)
def m7_3 : MCode :=
 (.cond (.tmp 50)
  (.reg
   [MI.op (some 51) (.fa 2 (.tmp 9)) none,
    MI.op none (.store 1 (.tmp 51) (.c (.sl .full 0 []))) none])
  .skip)
def m7_4 : MCode :=
 (.cond (.tmp 61)
  (.seq
   (.reg
    [MI.op (some 4) (.mov (.c (.bool false))) none])
   .ret)
  .skip)
def m7_5 : MCode :=
 (.seq
  (.drc
   [MI.op (some 52) (.mov (.tmp 6)) none,
    MI.op (some 53) (.mov (.tmp 0)) none,
    MI.op (some 54) (.mov (.tmp 8)) none,
    MI.op (some 55) (.ixSl 4 (.tmp 53) (.tmp 54)) none,
    MI.op (some 56) (.fa 0 (.tmp 55)) none,
    MI.op (some 57) (.load false 1 (.tmp 56)) none,
    MI.op (some 58) (.load true 3 (.tmp 9)) none]
   (MI.op (some 59) (.calln 11 [(.tmp 52), (.tmp 57), (.tmp 58)]) none)
   [MI.op (some 60) (.mov (.tmp 10)) none]
   [MI.op (some 61) (.bin .neq (.tmp 59) (.tmp 60)) none])
  m7_4)
def m7_6 : MCode :=
 (.seq
  (.seq
   (.reg
    [MI.op (some 48) (.mov (.tmp 8)) none,
     MI.op (some 49) (.mov (.tmp 7)) none,
     MI.op (some 50) (.bin .geq (.tmp 48) (.tmp 49)) none])
  m7_3)
  m7_5)
def m7_7 : MCode :=
 (.seq
  (.drw
   [MI.op (some 40) (.mov (.tmp 5)) none,
    MI.op (some 41) (.mov (.tmp 0)) none,
    MI.op (some 42) (.mov (.tmp 8)) none,
    MI.op (some 43) (.ixSl 4 (.tmp 41) (.tmp 42)) none,
    MI.op (some 44) (.fa 0 (.tmp 43)) none,
    MI.op (some 45) (.load false 1 (.tmp 44)) none,
    MI.op (some 46) (.load true 3 (.tmp 9)) none]
   [MI.op (some 47) (.calln 11 [(.tmp 40), (.tmp 45), (.tmp 46)]) none,
    MI.op (some 10) (.mov (.tmp 47)) none])
  m7_6)
def m7_8 : MCode :=
 (.seq
  (.blk 1
   (.seq
    (.reg
     [MI.op (some 35) (.mov (.tmp 0)) none,
      MI.op (some 36) (.mov (.tmp 8)) none,
      MI.op (some 37) (.ixSl 4 (.tmp 35) (.tmp 36)) none,
      MI.op (some 38) (.fa 1 (.tmp 37)) none,
      MI.op (some 39) (.load true 3 (.tmp 38)) none,
      MI.op (some 9) (.alloc [(.int .i64 0), (.int .i64 0), (.sl .full 0 [])]) none,
      MI.op none (.store 3 (.tmp 9) (.tmp 39)) none])
  m7_7))
  (.reg
   [MI.op (some 33) (.mov (.tmp 8)) none,
    MI.op (some 34) (.bin .add (.tmp 33) (.c (.int .i64 1))) none,
    MI.op (some 8) (.mov (.tmp 34)) none]))
def m7_9 : MCode :=
 (.seq
  (.seq
   (.reg
    [MI.op (some 29) (.mov (.tmp 8)) none,
     MI.op (some 30) (.mov (.tmp 0)) none,
     MI.op (some 31) (.len (.tmp 30)) none,
     MI.op (some 32) (.bin .lss (.tmp 29) (.tmp 31)) none])
   (.cond (.tmp 32)
    .skip
    (.exit 0)))
  m7_8)
def m7_10 : MCode :=
 (.blk 0
  (.loop
  m7_9))
def m7_11 : List MI :=
 [MI.op (some 11) (.mov (.tmp 63)) none,
  MI.op (some 12) (.mov (.tmp 65)) none]
def m7_12 : List MI :=
 (MI.op (some 64) (.mov (.tmp 6)) none ::
  MI.op (some 65) (.calln 19 [(.tmp 64)]) none ::
  m7_11)
def m7_13 : List MI :=
 [MI.op (some 76) (.eqv true [(32, .i)] (.tmp 73) (.tmp 75)) (some (71, false)),
  MI.op (some 77) (.pick (.tmp 71) (.c (.bool true)) (.tmp 76)) none,
  MI.op (some 78) (.mov (.tmp 77)) none,
  MI.op (some 79) (.mov (.tmp 11)) (some (78, false)),
  MI.op (some 80) (.len (.tmp 79)) (some (78, false)),
  MI.op (some 81) (.mov (.tmp 0)) (some (78, false)),
  MI.op (some 82) (.len (.tmp 81)) (some (78, false)),
  MI.op (some 83) (.bin .gtr (.tmp 80) (.tmp 82)) (some (78, false)),
  MI.op (some 84) (.pick (.tmp 78) (.c (.bool true)) (.tmp 83)) none]
def m7_14 : List MI :=
 (MI.op (some 74) (.mov (.tmp 6)) (some (71, false)) ::
  MI.op (some 75) (.calln 13 [(.tmp 74)]) (some (71, false)) ::
  m7_13)
def m7_15 : MCode :=
 (.cond (.tmp 84)
  (.seq
   (.reg
    [MI.op (some 4) (.mov (.c (.bool false))) none])
   .ret)
  .skip)
def m7_16 : MCode :=
 (.cond (.tmp 99)
  (.seq
   (.reg
    [MI.op (some 4) (.mov (.c (.bool false))) none])
   .ret)
  .skip)
def m7_17 : MCode :=
 (.seq
  (.blk 3
   (.seq
    (.drw
     [MI.op (some 91) (.mov (.tmp 11)) none,
      MI.op (some 92) (.mov (.tmp 13)) none,
      MI.op (some 93) (.ixSl 66 (.tmp 91) (.tmp 92)) none,
      MI.op (some 94) (.load true 66 (.tmp 93)) none,
      MI.op (some 95) (.mov (.tmp 12)) none,
      MI.op (some 96) (.mov (.tmp 13)) none,
      MI.op (some 97) (.ixSl 66 (.tmp 95) (.tmp 96)) none,
      MI.op (some 98) (.load true 66 (.tmp 97)) none]
     [MI.op (some 99) (.eqv true [(66, .i)] (.tmp 94) (.tmp 98)) none])
  m7_16))
  (.reg
   [MI.op (some 89) (.mov (.tmp 13)) none,
    MI.op (some 90) (.bin .add (.tmp 89) (.c (.int .i64 1))) none,
    MI.op (some 13) (.mov (.tmp 90)) none]))
def m7_18 : MCode :=
 (.seq
  (.seq
   (.reg
    [MI.op (some 85) (.mov (.tmp 13)) none,
     MI.op (some 86) (.mov (.tmp 11)) none,
     MI.op (some 87) (.len (.tmp 86)) none,
     MI.op (some 88) (.bin .lss (.tmp 85) (.tmp 87)) none])
   (.cond (.tmp 88)
    .skip
    (.exit 2)))
  m7_17)
def m7_19 : MCode :=
 (.blk 2
  (.loop
  m7_18))
def m7_20 : MCode :=
 (.cond (.tmp 105)
  (.seq
   (.reg
    [MI.op (some 4) (.mov (.c (.bool false))) none])
   .ret)
  .skip)
def m7_21 : MCode :=
 (.cond (.tmp 113)
  (.seq
   (.reg
    [MI.op (some 4) (.mov (.c (.bool false))) none])
   .ret)
  .skip)
def m7_22 : MCode :=
 (.cond (.tmp 128)
  (.seq
   (.reg
    [MI.op (some 4) (.mov (.c (.bool false))) none])
   .ret)
  .skip)
def m7_23 : MCode :=
 (.seq
  (.blk 5
   (.seq
    (.drw
     [MI.op (some 120) (.mov (.tmp 11)) none,
      MI.op (some 121) (.mov (.tmp 14)) none,
      MI.op (some 122) (.ixSl 66 (.tmp 120) (.tmp 121)) none,
      MI.op (some 123) (.load true 66 (.tmp 122)) none,
      MI.op (some 124) (.mov (.tmp 12)) none,
      MI.op (some 125) (.mov (.tmp 14)) none,
      MI.op (some 126) (.ixSl 66 (.tmp 124) (.tmp 125)) none,
      MI.op (some 127) (.load true 66 (.tmp 126)) none]
     [MI.op (some 128) (.eqv true [(66, .i)] (.tmp 123) (.tmp 127)) none])
  m7_22))
  (.reg
   [MI.op (some 118) (.mov (.tmp 14)) none,
    MI.op (some 119) (.bin .add (.tmp 118) (.c (.int .i64 1))) none,
    MI.op (some 14) (.mov (.tmp 119)) none]))
def m7_24 : MCode :=
 (.seq
  (.seq
   (.reg
    [MI.op (some 114) (.mov (.tmp 14)) none,
     MI.op (some 115) (.mov (.tmp 11)) none,
     MI.op (some 116) (.len (.tmp 115)) none,
     MI.op (some 117) (.bin .lss (.tmp 114) (.tmp 116)) none])
   (.cond (.tmp 117)
    .skip
    (.exit 4)))
  m7_23)
def m7_25 : MCode :=
 (.blk 4
  (.loop
  m7_24))
def m7_26 : List MI :=
 [MI.op (some 134) (.pick (.tmp 132) (.tmp 133) (.c (.bool false))) none,
  MI.op (some 4) (.mov (.tmp 134)) none]
def m7_27 : List MI :=
 (MI.op (some 131) (.bin .eql (.tmp 130) (.c (.int .i64 (-1)))) none ::
  MI.op (some 132) (.mov (.tmp 131)) none ::
  MI.op (some 133) (.call 10 []) (some (132, true)) ::
  m7_26)
def m7_28 : MCode :=
 (.seq
  (.reg
   (MI.op (some 129) (.mov (.tmp 12)) none ::
    MI.op (some 130) (.call 20 [(.tmp 129)]) none ::
    m7_27))
  .ret)
def m7_29 : MCode :=
 (.seq
  (.seq
   (.reg
    [MI.op (some 14) (.mov (.c (.int .i64 0))) none])
  m7_25)
  m7_28)
def m7_30 : MCode :=
 (.seq
  (.seq
   (.reg
    [MI.op (some 108) (.mov (.tmp 12)) none,
     MI.op (some 109) (.len (.tmp 108)) none,
     MI.op (some 110) (.mov (.tmp 11)) none,
     MI.op (some 111) (.len (.tmp 110)) none,
     MI.op (some 112) (.bin .add (.tmp 111) (.c (.int .i64 1))) none,
     MI.op (some 113) (.bin .neq (.tmp 109) (.tmp 112)) none])
  m7_21)
  m7_29)
def m7_31 : MCode :=
 (.seq
  (.reg
   [MI.op (some 106) (.mov (.tmp 5)) none,
    MI.op (some 107) (.calln 19 [(.tmp 106)]) none,
    MI.op (some 12) (.mov (.tmp 107)) none])
  m7_30)
def m7_32 : MCode :=
 (.seq
  (.seq
   (.reg
    [MI.op (some 100) (.mov (.tmp 5)) none,
     MI.op (some 101) (.bsl 4 1 [(.int .u8 0)] [(0, 1, (.c (.int .u8 109))), (1, 1, (.c (.int .u8 111))), (2, 1, (.c (.int .u8 114))), (3, 1, (.c (.int .u8 101)))]) none,
     MI.op (some 102) (.mark (.tmp 101)) none,
     MI.op (some 103) (.build [(.int .i64 0), (.int .i64 0), (.sl .full 0 [])] [(0, 1, (.c (.int .i64 9)))]) none,
     MI.op (some 104) (.calln 11 [(.tmp 100), (.tmp 102), (.tmp 103)]) none,
     MI.op (some 105) (.bin .neq (.tmp 104) (.c (.int .i64 0))) none])
  m7_20)
  m7_31)
def m7_33 : MCode :=
 (.seq
  (.seq
   (.reg
    [MI.op (some 13) (.mov (.c (.int .i64 0))) none])
  m7_19)
  m7_32)
def m7_34 : MCode :=
 (.seq
  (.seq
   (.reg
    (MI.op (some 66) (.mov (.tmp 11)) none ::
     MI.op (some 67) (.len (.tmp 66)) none ::
     MI.op (some 68) (.mov (.tmp 12)) none ::
     MI.op (some 69) (.len (.tmp 68)) none ::
     MI.op (some 70) (.bin .neq (.tmp 67) (.tmp 69)) none ::
     MI.op (some 71) (.mov (.tmp 70)) none ::
     MI.op (some 72) (.mov (.tmp 5)) (some (71, false)) ::
     MI.op (some 73) (.calln 13 [(.tmp 72)]) (some (71, false)) ::
     m7_14))
  m7_15)
  m7_33)
def m7_35 : MCode :=
 (.seq
  (.reg
   (MI.op (some 62) (.mov (.tmp 5)) none ::
    MI.op (some 63) (.calln 19 [(.tmp 62)]) none ::
    m7_12))
  m7_34)
def m7_36 : MCode :=
 (.seq
  (.seq
   (.reg
    [MI.op (some 8) (.mov (.c (.int .i64 0))) none])
  m7_10)
  m7_35)
def m7_37 : MCode :=
 (.seq
  (.reg
   [MI.op (some 23) (.mov (.tmp 1)) none,
    MI.op (some 24) (.toInt .i64 (.tmp 23)) none,
    MI.op (some 25) (.mov (.tmp 0)) none,
    MI.op (some 26) (.len (.tmp 25)) none,
    MI.op (some 27) (.bin .add (.tmp 26) (.c (.int .i64 1))) none,
    MI.op (some 28) (.bin .rem (.tmp 24) (.tmp 27)) none,
    MI.op (some 7) (.mov (.tmp 28)) none])
  m7_36)
def m7_38 : MCode :=
 (.seq
  (.reg
   [MI.op (some 19) (.build [(.sl .full 0 [])] []) none,
    MI.op (some 20) (.box (.tmp 19)) none,
    MI.op (some 21) (.build [(.sl .full 0 [])] []) none,
    MI.op (some 22) (.box (.tmp 21)) none,
    MI.op (some 5) (.mov (.tmp 20)) none,
    MI.op (some 6) (.mov (.tmp 22)) none])
  m7_37)
def m7_39 : MCode :=
 (.seq
  (.seq
   (.reg
    [MI.op (some 15) (.mov (.tmp 0)) none,
     MI.op (some 16) (.call 9 [(.tmp 15)]) none,
     MI.op (some 17) (.un .not (.tmp 16)) none])
  m7_2)
  m7_38)
def m7_r : List MRes := [.tmp 4]
def m7_b : MCode :=
 (.seq
  (.reg
   [MI.op (some 4) (.mov (.c (.bool false))) none])
  m7_39)
def m7 : MFunc := ⟨2, 135, m7_r, m7_b⟩
theorem c7 : compF Try.prog 7 m7 = some m7 := by kernel_rfl

/- tollhouse/tollhouselaw25.AuditSwaps -/
/- tollhouse/tollhouselaw25.fair -/
def m9_1 : MCode :=
 (.cond (.tmp 26)
  (.seq
   (.reg
    [MI.op (some 2) (.mov (.c (.bool false))) none])
   .ret)
  .skip)
def m9_2 : MCode :=
 (.seq
  (.blk 1
   (.seq
    (.reg
     [MI.op (some 10) (.mov (.tmp 0)) none,
      MI.op (some 11) (.mov (.tmp 3)) none,
      MI.op (some 12) (.ixSl 4 (.tmp 10) (.tmp 11)) none,
      MI.op (some 13) (.fa 0 (.tmp 12)) none,
      MI.op (some 14) (.load false 1 (.tmp 13)) none,
      MI.op (some 15) (.len (.tmp 14)) none,
      MI.op (some 16) (.bin .gtr (.tmp 15) (.c (.int .i64 300))) none,
      MI.op (some 17) (.mov (.tmp 16)) none,
      MI.op (some 18) (.mov (.tmp 0)) (some (17, false)),
      MI.op (some 19) (.mov (.tmp 3)) (some (17, false)),
      MI.op (some 20) (.ixSl 4 (.tmp 18) (.tmp 19)) (some (17, false)),
      MI.op (some 21) (.fa 1 (.tmp 20)) (some (17, false)),
      MI.op (some 22) (.fa 2 (.tmp 21)) (some (17, false)),
      MI.op (some 23) (.load false 1 (.tmp 22)) (some (17, false)),
      MI.op (some 24) (.len (.tmp 23)) (some (17, false)),
      MI.op (some 25) (.bin .gtr (.tmp 24) (.c (.int .i64 600))) (some (17, false)),
      MI.op (some 26) (.pick (.tmp 17) (.c (.bool true)) (.tmp 25)) none])
  m9_1))
  (.reg
   [MI.op (some 8) (.mov (.tmp 3)) none,
    MI.op (some 9) (.bin .add (.tmp 8) (.c (.int .i64 1))) none,
    MI.op (some 3) (.mov (.tmp 9)) none]))
def m9_3 : MCode :=
 (.seq
  (.seq
   (.reg
    [MI.op (some 4) (.mov (.tmp 3)) none,
     MI.op (some 5) (.mov (.tmp 0)) none,
     MI.op (some 6) (.len (.tmp 5)) none,
     MI.op (some 7) (.bin .lss (.tmp 4) (.tmp 6)) none])
   (.cond (.tmp 7)
    .skip
    (.exit 0)))
  m9_2)
def m9_4 : MCode :=
 (.blk 0
  (.loop
  m9_3))
def m9_5 : MCode :=
 (.seq
  (.reg
   [MI.op (some 27) (.mov (.tmp 0)) none,
    MI.op (some 28) (.len (.tmp 27)) none,
    MI.op (some 29) (.bin .leq (.tmp 28) (.c (.int .i64 30))) none,
    MI.op (some 2) (.mov (.tmp 29)) none])
  .ret)
def m9_6 : MCode :=
 (.seq
  (.seq
   (.reg
    [MI.op (some 3) (.mov (.c (.int .i64 0))) none])
  m9_4)
  m9_5)
def m9_r : List MRes := [.tmp 2]
def m9_b : MCode :=
 (.seq
  (.reg
   [MI.op (some 2) (.mov (.c (.bool false))) none])
  m9_6)
def m9 : MFunc := ⟨1, 30, m9_r, m9_b⟩
theorem c9 : compF Try.prog 9 m9 = some m9 := by kernel_rfl

/- tollhouse/tollhouselaw25.wakes -/
def m10_1 : List MI :=
 [MI.op (some 25) (.bin .neq (.tmp 24) (.c (.int .i64 11))) (some (21, false)),
  MI.op (some 26) (.pick (.tmp 21) (.c (.bool true)) (.tmp 25)) none]
def m10_2 : List MI :=
 (MI.op (some 19) (.bin .neq (.tmp 18) (.c (.int .i64 0))) (some (11, false)) ::
  MI.op (some 20) (.pick (.tmp 11) (.c (.bool true)) (.tmp 19)) none ::
  MI.op (some 21) (.mov (.tmp 20)) none ::
  MI.op (some 22) (.mov (.tmp 1)) (some (21, false)) ::
  MI.op (some 23) (.build [(.int .i64 0), (.int .i64 0), (.sl .full 0 [])] [(0, 1, (.c (.int .i64 (-1))))]) (some (21, false)) ::
  MI.op (some 24) (.calln 11 [(.tmp 22), (.c (.sl .full 0 [])), (.tmp 23)]) (some (21, false)) ::
  m10_1)
def m10_3 : List MI :=
 (MI.op (some 10) (.bin .neq (.tmp 9) (.c (.int .i64 0))) none ::
  MI.op (some 11) (.mov (.tmp 10)) none ::
  MI.op (some 12) (.mov (.tmp 1)) (some (11, false)) ::
  MI.op (some 13) (.bsl 1 1 [(.int .u8 0)] [(0, 1, (.c (.int .u8 98)))]) (some (11, false)) ::
  MI.op (some 14) (.mark (.tmp 13)) (some (11, false)) ::
  MI.op (some 15) (.bsl 1 1 [(.int .u8 0)] [(0, 1, (.c (.int .u8 120)))]) (some (11, false)) ::
  MI.op (some 16) (.mark (.tmp 15)) (some (11, false)) ::
  MI.op (some 17) (.build [(.int .i64 0), (.int .i64 0), (.sl .full 0 [])] [(0, 1, (.c (.int .i64 2))), (1, 1, (.c (.int .i64 16))), (2, 1, (.tmp 16))]) (some (11, false)) ::
  MI.op (some 18) (.calln 11 [(.tmp 12), (.tmp 14), (.tmp 17)]) (some (11, false)) ::
  m10_2)
def m10_4 : MCode :=
 (.cond (.tmp 26)
  (.seq
   (.reg
    [MI.op (some 0) (.mov (.c (.bool false))) none])
   .ret)
  .skip)
def m10_5 : MCode :=
 (.cond (.tmp 63)
  (.seq
   (.reg
    [MI.op (some 0) (.mov (.c (.bool false))) none])
   .ret)
  .skip)
def m10_6 : List MI :=
 [MI.op (some 69) (.bin .eql (.tmp 68) (.c (.int .i64 0))) none,
  MI.op (some 0) (.mov (.tmp 69)) none]
def m10_7 : MCode :=
 (.seq
  (.reg
   (MI.op (some 67) (.mov (.tmp 2)) none ::
    MI.op (some 68) (.call 20 [(.tmp 67)]) none ::
    m10_6))
  .ret)
def m10_8 : MCode :=
 (.seq
  (.reg
   [MI.op (some 64) (.mov (.tmp 2)) none,
    MI.op (some 65) (.ixSl 66 (.tmp 64) (.c (.int .i64 0))) none,
    MI.op (some 66) (.fa 32 (.tmp 65)) none,
    MI.op none (.store 1 (.tmp 66) (.c (.int .i64 3))) none])
  m10_7)
def m10_9 : MCode :=
 (.seq
  (.seq
   (.drx
    [(MI.op (some 29) (.mov (.tmp 2)) none, []),
     (MI.op (some 30) (.len (.tmp 29)) none, [0]),
     (MI.op (some 31) (.bin .neq (.tmp 30) (.c (.int .i64 2))) none, [1]),
     (MI.op (some 32) (.mov (.tmp 31)) none, [2]),
     (MI.op (some 33) (.mov (.tmp 2)) (some (32, false)), [3]),
     (MI.op (some 34) (.ixSl 66 (.tmp 33) (.c (.int .i64 0))) (some (32, false)), [4, 3]),
     (MI.op (some 35) (.fa 0 (.tmp 34)) (some (32, false)), [5, 3]),
     (MI.op (some 36) (.load true 32 (.tmp 35)) (some (32, false)), [6, 3]),
     (MI.op (some 37) (.bsl 1 1 [(.int .u8 0)] [(0, 1, (.c (.int .u8 97)))]) (some (32, false)), [3]),
     (MI.op (some 38) (.mark (.tmp 37)) (some (32, false)), [8, 3]),
     (MI.op (some 39) (.bsl 1 1 [(.sl .full 0 [])] [(0, 1, (.tmp 38))]) (some (32, false)), [9, 3]),
     (MI.op (some 40) (.call 25 [(.tmp 39)]) (some (32, false)), [10, 3]),
     (MI.op (some 41) (.eqv true [(32, .i)] (.tmp 36) (.tmp 40)) (some (32, false)), [7, 11, 3]),
     (MI.op (some 42) (.pick (.tmp 32) (.c (.bool true)) (.tmp 41)) none, [3, 12]),
     (MI.op (some 43) (.mov (.tmp 42)) none, [13, 11]),
     (MI.op (some 44) (.mov (.tmp 2)) (some (43, false)), [14]),
     (MI.op (some 45) (.ixSl 66 (.tmp 44) (.c (.int .i64 1))) (some (43, false)), [15, 14]),
     (MI.op (some 46) (.fa 33 (.tmp 45)) (some (43, false)), [16, 14]),
     (MI.op (some 47) (.load false 1 (.tmp 46)) (some (43, false)), [17, 14]),
     (MI.op (some 48) (.bin .neq (.tmp 47) (.c (.int .i64 16))) (some (43, false)), [18, 14]),
     (MI.op (some 49) (.pick (.tmp 43) (.c (.bool true)) (.tmp 48)) none, [14, 19]),
     (MI.op (some 50) (.mov (.tmp 49)) none, [20, 14]),
     (MI.op (some 51) (.mov (.tmp 2)) (some (50, false)), [21]),
     (MI.op (some 52) (.ixSl 66 (.tmp 51) (.c (.int .i64 1))) (some (50, false)), [22, 21]),
     (MI.op (some 53) (.fa 34 (.tmp 52)) (some (50, false)), [23, 21]),
     (MI.op (some 54) (.load true 32 (.tmp 53)) (some (50, false)), [24, 21]),
     (MI.op (some 55) (.mov (.tmp 1)) (some (50, false)), [21]),
     (MI.op (some 56) (.calln 13 [(.tmp 55)]) (some (50, false)), [26, 21]),
     (MI.op (some 57) (.eqv true [(32, .i)] (.tmp 54) (.tmp 56)) (some (50, false)), [25, 27, 21]),
     (MI.op (some 58) (.pick (.tmp 50) (.c (.bool true)) (.tmp 57)) none, [21, 28]),
     (MI.op (some 59) (.mov (.tmp 58)) none, [29, 27]),
     (MI.op (some 60) (.mov (.tmp 2)) (some (59, false)), [30]),
     (MI.op (some 61) (.call 20 [(.tmp 60)]) (some (59, false)), [31, 30]),
     (MI.op (some 62) (.bin .neq (.tmp 61) (.c (.int .i64 (-1)))) (some (59, false)), [32, 30]),
     (MI.op (some 63) (.pick (.tmp 59) (.c (.bool true)) (.tmp 62)) none, [30, 33])])
  m10_5)
  m10_8)
def m10_10 : MCode :=
 (.seq
  (.reg
   [MI.op (some 27) (.mov (.tmp 1)) none,
    MI.op (some 28) (.calln 19 [(.tmp 27)]) none,
    MI.op (some 2) (.mov (.tmp 28)) none])
  m10_9)
def m10_11 : MCode :=
 (.seq
  (.seq
   (.reg
    (MI.op (some 5) (.mov (.tmp 1)) none ::
     MI.op (some 6) (.bsl 1 1 [(.int .u8 0)] [(0, 1, (.c (.int .u8 97)))]) none ::
     MI.op (some 7) (.mark (.tmp 6)) none ::
     MI.op (some 8) (.build [(.int .i64 0), (.int .i64 0), (.sl .full 0 [])] [(0, 1, (.c (.int .i64 1)))]) none ::
     MI.op (some 9) (.calln 11 [(.tmp 5), (.tmp 7), (.tmp 8)]) none ::
     m10_3))
  m10_4)
  m10_10)
def m10_12 : MCode :=
 (.seq
  (.reg
   [MI.op (some 3) (.build [(.sl .full 0 [])] []) none,
    MI.op (some 4) (.box (.tmp 3)) none,
    MI.op (some 1) (.mov (.tmp 4)) none])
  m10_11)
def m10_r : List MRes := [.tmp 0]
def m10_b : MCode :=
 (.seq
  (.reg
   [MI.op (some 0) (.mov (.c (.bool false))) none])
  m10_12)
def m10 : MFunc := ⟨0, 70, m10_r, m10_b⟩
theorem c10 : compF Try.prog 10 m10 = some m10 := by kernel_rfl

/- (*tollhouse/audit.Log).Add -/
def m11_1 : MCode :=
 (.cond (.tmp 11)
  (.seq
   (.reg
    [MI.op (some 6) (.mov (.c (.int .i64 1))) none])
   .ret)
  .skip)
def m11_2 : List MI :=
 [MI.op (some 7) (.alloc (List.replicate 32 (.int .u8 0))) none,
  MI.op none (.store 32 (.tmp 7) (.tmp 14)) none]
def m11_3 : List MI :=
 [MI.op (some 15) (.mov (.tmp 18)) none,
  MI.op (some 19) (.ext (.tmp 15) 0) none,
  MI.op (some 20) (.ext (.tmp 15) 1) none,
  MI.op (some 8) (.mov (.tmp 19)) none,
  MI.op (some 9) (.mov (.tmp 20)) none]
def m11_4 : MCode :=
 (.seq
  (.reg
   [MI.op (some 23) (.mov (.tmp 9)) none,
    MI.op (some 6) (.mov (.tmp 23)) none])
  .ret)
def m11_5 : MCode :=
 (.cond (.tmp 22)
  m11_4
  .skip)
def m11_6 : MCode :=
 (.seq
  (.drx
   [(MI.op (some 24) (.mov (.tmp 0)) none, []),
    (MI.op (some 25) (.mov (.tmp 0)) none, []),
    (MI.op (some 26) (.chk (.tmp 25)) none, [1]),
    (MI.op (some 27) (.fa 0 (.tmp 26)) none, [2]),
    (MI.op (some 28) (.load false 1 (.tmp 27)) none, [3]),
    (MI.op (some 29) (.load true 32 (.tmp 7)) none, []),
    (MI.op (some 30) (.fa 0 (.tmp 5)) none, []),
    (MI.op (some 31) (.load false 1 (.tmp 30)) none, [6]),
    (MI.op (some 32) (.fa 1 (.tmp 5)) none, []),
    (MI.op (some 33) (.load false 1 (.tmp 32)) none, [8]),
    (MI.op (some 34) (.mov (.tmp 0)) none, []),
    (MI.op (some 35) (.calln 13 [(.tmp 34)]) none, [10]),
    (MI.op (some 36) (.mov (.tmp 8)) none, []),
    (MI.op (some 37) (.bsl 1 1 [(.sl .full 0 [])] [(0, 1, (.tmp 36))]) none, [12]),
    (MI.op (some 38) (.call 24 [(.tmp 35), (.tmp 37)]) none, [11, 13]),
    (MI.op (some 39) (.build [(.int .u8 0), (.int .u8 0), (.int .u8 0), (.int .u8 0), (.int .u8 0), (.int .u8 0), (.int .u8 0), (.int .u8 0), (.int .u8 0), (.int .u8 0), (.int .u8 0), (.int .u8 0), (.int .u8 0), (.int .u8 0), (.int .u8 0), (.int .u8 0), (.int .u8 0), (.int .u8 0), (.int .u8 0), (.int .u8 0), (.int .u8 0), (.int .u8 0), (.int .u8 0), (.int .u8 0), (.int .u8 0), (.int .u8 0), (.int .u8 0), (.int .u8 0), (.int .u8 0), (.int .u8 0), (.int .u8 0), (.int .u8 0), (.int .i64 0), (.int .i64 0), (.int .u8 0), (.int .u8 0), (.int .u8 0), (.int .u8 0), (.int .u8 0), (.int .u8 0), (.int .u8 0), (.int .u8 0), (.int .u8 0), (.int .u8 0), (.int .u8 0), (.int .u8 0), (.int .u8 0), (.int .u8 0), (.int .u8 0), (.int .u8 0), (.int .u8 0), (.int .u8 0), (.int .u8 0), (.int .u8 0), (.int .u8 0), (.int .u8 0), (.int .u8 0), (.int .u8 0), (.int .u8 0), (.int .u8 0), (.int .u8 0), (.int .u8 0), (.int .u8 0), (.int .u8 0), (.int .u8 0), (.int .u8 0)] [(0, 32, (.tmp 29)), (32, 1, (.tmp 31)), (33, 1, (.tmp 33)), (34, 32, (.tmp 38))]) none, [5, 7, 9, 14]),
    (MI.op (some 40) (.bsl 1 66 [(.int .u8 0), (.int .u8 0), (.int .u8 0), (.int .u8 0), (.int .u8 0), (.int .u8 0), (.int .u8 0), (.int .u8 0), (.int .u8 0), (.int .u8 0), (.int .u8 0), (.int .u8 0), (.int .u8 0), (.int .u8 0), (.int .u8 0), (.int .u8 0), (.int .u8 0), (.int .u8 0), (.int .u8 0), (.int .u8 0), (.int .u8 0), (.int .u8 0), (.int .u8 0), (.int .u8 0), (.int .u8 0), (.int .u8 0), (.int .u8 0), (.int .u8 0), (.int .u8 0), (.int .u8 0), (.int .u8 0), (.int .u8 0), (.int .i64 0), (.int .i64 0), (.int .u8 0), (.int .u8 0), (.int .u8 0), (.int .u8 0), (.int .u8 0), (.int .u8 0), (.int .u8 0), (.int .u8 0), (.int .u8 0), (.int .u8 0), (.int .u8 0), (.int .u8 0), (.int .u8 0), (.int .u8 0), (.int .u8 0), (.int .u8 0), (.int .u8 0), (.int .u8 0), (.int .u8 0), (.int .u8 0), (.int .u8 0), (.int .u8 0), (.int .u8 0), (.int .u8 0), (.int .u8 0), (.int .u8 0), (.int .u8 0), (.int .u8 0), (.int .u8 0), (.int .u8 0), (.int .u8 0), (.int .u8 0)] [(0, 66, (.tmp 39))]) none, [15]),
    (MI.op (some 41) (.app 66 80 (.tmp 28) (.tmp 40)) none, [4, 16, 14]),
    (MI.op (some 42) (.chk (.tmp 24)) none, [0, 1, 2, 3, 4, 5, 6, 7, 8, 9, 10, 11, 12, 13, 14, 15, 16, 17]),
    (MI.op (some 43) (.fa 0 (.tmp 42)) none, [18, 0, 1, 2, 3, 4, 5, 6, 7, 8, 9, 10, 11, 12, 13, 14, 15, 16, 17]),
    (MI.op none (.store 1 (.tmp 43) (.tmp 41)) none, [19, 17, 0, 1, 2, 3, 4, 5, 6, 7, 8, 9, 10, 11, 12, 13, 14, 15, 16])])
  (.seq
   (.reg
    [MI.op (some 6) (.mov (.c (.int .i64 0))) none])
   .ret))
def m11_7 : MCode :=
 (.seq
  (.seq
   (.reg
    [MI.op (some 21) (.mov (.tmp 9)) none,
     MI.op (some 22) (.bin .neq (.tmp 21) (.c (.int .i64 0))) none])
  m11_5)
  m11_6)
def m11_8 : MCode :=
 (.seq
  (.reg
   (MI.op (some 16) (.load true 32 (.tmp 7)) none ::
    MI.op (some 17) (.load true 3 (.tmp 5)) none ::
    MI.op (some 18) (.callp 15 [(.tmp 16), (.tmp 17)]) none ::
    m11_3))
  m11_7)
def m11_9 : MCode :=
 (.seq
  (.reg
   (MI.op (some 12) (.mov (.tmp 1)) none ::
    MI.op (some 13) (.bsl 1 1 [(.sl .full 0 [])] [(0, 1, (.tmp 12))]) none ::
    MI.op (some 14) (.call 25 [(.tmp 13)]) none ::
    m11_2))
  m11_8)
def m11_10 : MCode :=
 (.seq
  (.seq
   (.reg
    [MI.op (some 10) (.mov (.tmp 0)) none,
     MI.op (some 11) (.nilP false (.tmp 10)) none])
  m11_1)
  m11_9)
def m11_r : List MRes := [.tmp 6]
def m11_b : MCode :=
 (.seq
  (.reg
   [MI.op (some 5) (.box (.tmp 2)) none,
    MI.op (some 6) (.mov (.c (.int .i64 0))) none])
  m11_10)
def m11 : MFunc := ⟨3, 44, m11_r, m11_b⟩
theorem c11 : compF Try.prog 11 m11 = some m11 := by kernel_rfl

/- (*tollhouse/tollhouseref25.Log).Add -/
/- (*tollhouse/audit.Log).Last -/
def m13_1 : MCode :=
 (.seq
  (.reg
   [MI.op (some 13) (.build (List.replicate 32 (.int .u8 0)) []) none,
    MI.op none (.store 32 (.tmp 2) (.tmp 13)) none])
  .ret)
def m13_2 : MCode :=
 (.cond (.tmp 12)
  m13_1
  .skip)
def m13_3 : MCode :=
 (.seq
  (.drw
   [MI.op (some 14) (.mov (.tmp 0)) none,
    MI.op (some 15) (.chk (.tmp 14)) none,
    MI.op (some 16) (.fa 0 (.tmp 15)) none,
    MI.op (some 17) (.load false 1 (.tmp 16)) none,
    MI.op (some 18) (.mov (.tmp 0)) none,
    MI.op (some 19) (.chk (.tmp 18)) none,
    MI.op (some 20) (.fa 0 (.tmp 19)) none,
    MI.op (some 21) (.load false 1 (.tmp 20)) none,
    MI.op (some 22) (.len (.tmp 21)) none,
    MI.op (some 23) (.bin .sub (.tmp 22) (.c (.int .i64 1))) none]
   [MI.op (some 24) (.ixSl 66 (.tmp 17) (.tmp 23)) none,
    MI.op (some 25) (.fa 34 (.tmp 24)) none,
    MI.op (some 26) (.load true 32 (.tmp 25)) none,
    MI.op none (.store 32 (.tmp 2) (.tmp 26)) none])
  .ret)
def m13_4 : MCode :=
 (.seq
  (.seq
   (.reg
    [MI.op (some 3) (.mov (.tmp 0)) none,
     MI.op (some 4) (.nilP false (.tmp 3)) none,
     MI.op (some 5) (.mov (.tmp 4)) none,
     MI.op (some 6) (.mov (.tmp 0)) (some (5, false)),
     MI.op (some 7) (.chk (.tmp 6)) (some (5, false)),
     MI.op (some 8) (.fa 0 (.tmp 7)) (some (5, false)),
     MI.op (some 9) (.load false 1 (.tmp 8)) (some (5, false)),
     MI.op (some 10) (.len (.tmp 9)) (some (5, false)),
     MI.op (some 11) (.bin .eql (.tmp 10) (.c (.int .i64 0))) (some (5, false)),
     MI.op (some 12) (.pick (.tmp 5) (.c (.bool true)) (.tmp 11)) none])
  m13_2)
  m13_3)
def m13_r : List MRes := [.cell 2 true 32]
def m13_b : MCode :=
 (.seq
  (.reg
   [MI.op (some 2) (.alloc (List.replicate 32 (.int .u8 0))) none])
  m13_4)
def m13 : MFunc := ⟨1, 27, m13_r, m13_b⟩
theorem c13 : compF Try.prog 13 m13 = some m13 := by kernel_rfl

/- (*tollhouse/tollhouseref25.Log).Last -/
/- tollhouse/audit.Record -/
def m15_1 : List MI :=
 [MI.op (some 9) (.mov (.tmp 11)) none,
  MI.op (some 12) (.ext (.tmp 9) 0) none,
  MI.op (some 13) (.ext (.tmp 9) 1) none,
  MI.op (some 6) (.mov (.tmp 12)) none,
  MI.op (some 7) (.mov (.tmp 13)) none]
def m15_2 : MCode :=
 (.seq
  (.reg
   [MI.op (some 16) (.mov (.tmp 7)) none,
    MI.op (some 4) (.mov (.c (.sl .full 0 []))) none,
    MI.op (some 5) (.mov (.tmp 16)) none])
  .ret)
def m15_3 : MCode :=
 (.cond (.tmp 15)
  m15_2
  .skip)
def m15_4 : MCode :=
 (.seq
  (.reg
   [MI.frz 2,
    MI.op (some 17) (.slArrF 32 1 (.tmp 2)) none,
    MI.op (some 18) (.mov (.tmp 6)) none,
    MI.op (some 19) (.app 1 1 (.tmp 17) (.tmp 18)) none,
    MI.op (some 4) (.mov (.tmp 19)) none,
    MI.op (some 5) (.mov (.c (.int .i64 0))) none])
  .ret)
def m15_5 : MCode :=
 (.seq
  (.seq
   (.reg
    [MI.op (some 14) (.mov (.tmp 7)) none,
     MI.op (some 15) (.bin .neq (.tmp 14) (.c (.int .i64 0))) none])
  m15_3)
  m15_4)
def m15_6 : MCode :=
 (.seq
  (.reg
   (MI.op (some 10) (.load true 3 (.tmp 3)) none ::
    MI.op (some 11) (.call 28 [(.tmp 10)]) none ::
    m15_1))
  m15_5)
def m15_7 : MCode :=
 (.seq
  (.reg
   [MI.op (some 8) (.fa 2 (.tmp 3)) none,
    MI.op none (.store 1 (.tmp 8) (.c (.sl .full 0 []))) none])
  m15_6)
def m15_r : List MRes := [.tmp 4, .tmp 5]
def m15_b : MCode :=
 (.seq
  (.reg
   [MI.op (some 2) (.box (.tmp 0)) none,
    MI.op (some 3) (.box (.tmp 1)) none,
    MI.op (some 4) (.mov (.c (.sl .full 0 []))) none,
    MI.op (some 5) (.mov (.c (.int .i64 0))) none])
  m15_7)
def m15 : MFunc := ⟨2, 20, m15_r, m15_b⟩
theorem c15 : compF Try.prog 15 m15 = some m15 := by kernel_rfl

/- tollhouse/tollhouseref25.Record -/
def m16_1 : List MI :=
 [MI.op (some 10) (.mov (.tmp 14)) none,
  MI.op (some 15) (.ext (.tmp 10) 0) none,
  MI.op (some 16) (.ext (.tmp 10) 1) none,
  MI.op (some 8) (.mov (.tmp 15)) none,
  MI.op (some 9) (.mov (.tmp 16)) none]
def m16_2 : MCode :=
 (.seq
  (.reg
   [MI.op (some 6) (.mov (.c (.sl .full 0 []))) none,
    MI.op (some 7) (.mov (.c (.int .i64 11))) none])
  .ret)
def m16_3 : MCode :=
 (.cond (.tmp 18)
  m16_2
  .skip)
def m16_4 : MCode :=
 (.seq
  (.reg
   [MI.op (some 19) (.bsl 0 1 [(.int .u8 0)] []) none,
    MI.op (some 20) (.slArr 32 1 (.tmp 3) none none none) none,
    MI.op (some 21) (.app 1 1 (.tmp 19) (.tmp 20)) none,
    MI.op (some 22) (.mov (.tmp 8)) none,
    MI.op (some 23) (.app 1 1 (.tmp 21) (.tmp 22)) none,
    MI.op (some 6) (.mov (.tmp 23)) none,
    MI.op (some 7) (.mov (.c (.int .i64 0))) none])
  .ret)
def m16_5 : MCode :=
 (.seq
  (.seq
   (.reg
    [MI.op (some 17) (.mov (.tmp 9)) none,
     MI.op (some 18) (.bin .neq (.tmp 17) (.c (.int .i64 0))) none])
  m16_3)
  m16_4)
def m16_6 : MCode :=
 (.seq
  (.reg
   (MI.op (some 11) (.mov (.tmp 1)) none ::
    MI.op (some 12) (.mov (.tmp 2)) none ::
    MI.op (some 13) (.build [(.int .i64 0), (.int .i64 0), (.sl .full 0 [])] [(0, 1, (.tmp 11)), (1, 1, (.tmp 12))]) none ::
    MI.op (some 14) (.call 29 [(.tmp 13)]) none ::
    m16_1))
  m16_5)
def m16_r : List MRes := [.tmp 6, .tmp 7]
def m16_b : MCode :=
 (.seq
  (.reg
   [MI.op (some 3) (.box (.tmp 0)) none,
    MI.op (some 6) (.mov (.c (.sl .full 0 []))) none,
    MI.op (some 7) (.mov (.c (.int .i64 0))) none])
  m16_6)
def m16 : MFunc := ⟨3, 24, m16_r, m16_b⟩
/- tollhouse/tollhouselaw25.Same -/
/- (*tollhouse/audit.Log).Entries -/
def m19_1 : MCode :=
 (.cond (.tmp 4)
  (.seq
   (.reg
    [MI.op (some 2) (.mov (.c (.sl .full 0 []))) none])
   .ret)
  .skip)
def m19_2 : MCode :=
 (.seq
  (.reg
   [MI.op (some 5) (.mov (.tmp 0)) none,
    MI.op (some 6) (.chk (.tmp 5)) none,
    MI.op (some 7) (.fa 0 (.tmp 6)) none,
    MI.op (some 8) (.load false 1 (.tmp 7)) none,
    MI.op (some 9) (.call 30 [(.tmp 8)]) none,
    MI.op (some 2) (.mov (.tmp 9)) none])
  .ret)
def m19_3 : MCode :=
 (.seq
  (.seq
   (.reg
    [MI.op (some 3) (.mov (.tmp 0)) none,
     MI.op (some 4) (.nilP false (.tmp 3)) none])
  m19_1)
  m19_2)
def m19_r : List MRes := [.tmp 2]
def m19_b : MCode :=
 (.seq
  (.reg
   [MI.op (some 2) (.mov (.c (.sl .full 0 []))) none])
  m19_3)
def m19 : MFunc := ⟨1, 10, m19_r, m19_b⟩
theorem c19 : compF Try.prog 19 m19 = some m19 := by kernel_rfl

/- tollhouse/audit.Verify -/
def m20_1 : List MI :=
 [MI.op (some 15) (.mov (.tmp 23)) none,
  MI.op (some 24) (.ext (.tmp 15) 0) none,
  MI.op (some 25) (.ext (.tmp 15) 1) none,
  MI.op (some 6) (.mov (.tmp 24)) none,
  MI.op (some 7) (.mov (.tmp 25)) none]
def m20_2 : MCode :=
 (.seq
  (.reg
   [MI.op (some 28) (.mov (.tmp 4)) none,
    MI.op (some 2) (.mov (.tmp 28)) none])
  .ret)
def m20_3 : MCode :=
 (.cond (.tmp 27)
  m20_2
  .skip)
def m20_4 : MCode :=
 (.seq
  (.reg
   [MI.op (some 37) (.mov (.tmp 4)) none,
    MI.op (some 2) (.mov (.tmp 37)) none])
  .ret)
def m20_5 : MCode :=
 (.cond (.tmp 36)
  m20_4
  .skip)
def m20_6 : MCode :=
 (.seq
  (.reg
   [MI.op (some 33) (.load true 32 (.tmp 3)) none,
    MI.op (some 34) (.fa 34 (.tmp 5)) none,
    MI.op (some 35) (.load true 32 (.tmp 34)) none,
    MI.op (some 36) (.eqv true [(32, .i)] (.tmp 33) (.tmp 35)) none])
  m20_5)
def m20_7 : MCode :=
 (.seq
  (.reg
   [MI.op (some 29) (.load true 32 (.tmp 3)) none,
    MI.op (some 30) (.mov (.tmp 6)) none,
    MI.op (some 31) (.bsl 1 1 [(.sl .full 0 [])] [(0, 1, (.tmp 30))]) none,
    MI.op (some 32) (.call 24 [(.tmp 29), (.tmp 31)]) none,
    MI.op none (.store 32 (.tmp 3) (.tmp 32)) none])
  m20_6)
def m20_8 : MCode :=
 (.seq
  (.seq
   (.reg
    [MI.op (some 26) (.mov (.tmp 7)) none,
     MI.op (some 27) (.bin .neq (.tmp 26) (.c (.int .i64 0))) none])
  m20_3)
  m20_7)
def m20_9 : MCode :=
 (.seq
  (.reg
   (MI.op (some 16) (.fa 0 (.tmp 5)) none ::
    MI.op (some 17) (.load true 32 (.tmp 16)) none ::
    MI.op (some 18) (.fa 32 (.tmp 5)) none ::
    MI.op (some 19) (.load false 1 (.tmp 18)) none ::
    MI.op (some 20) (.fa 33 (.tmp 5)) none ::
    MI.op (some 21) (.load false 1 (.tmp 20)) none ::
    MI.op (some 22) (.build [(.int .i64 0), (.int .i64 0), (.sl .full 0 [])] [(0, 1, (.tmp 19)), (1, 1, (.tmp 21))]) none ::
    MI.op (some 23) (.callp 15 [(.tmp 17), (.tmp 22)]) none ::
    m20_1))
  m20_8)
def m20_10 : MCode :=
 (.seq
  (.blk 1
   (.seq
    (.reg
     [MI.op (some 12) (.mov (.tmp 10)) none,
      MI.op (some 13) (.ixSl 66 (.tmp 8) (.tmp 10)) none,
      MI.op (some 14) (.load true 66 (.tmp 13)) none,
      MI.op (some 5) (.alloc [(.int .u8 0), (.int .u8 0), (.int .u8 0), (.int .u8 0), (.int .u8 0), (.int .u8 0), (.int .u8 0), (.int .u8 0), (.int .u8 0), (.int .u8 0), (.int .u8 0), (.int .u8 0), (.int .u8 0), (.int .u8 0), (.int .u8 0), (.int .u8 0), (.int .u8 0), (.int .u8 0), (.int .u8 0), (.int .u8 0), (.int .u8 0), (.int .u8 0), (.int .u8 0), (.int .u8 0), (.int .u8 0), (.int .u8 0), (.int .u8 0), (.int .u8 0), (.int .u8 0), (.int .u8 0), (.int .u8 0), (.int .u8 0), (.int .i64 0), (.int .i64 0), (.int .u8 0), (.int .u8 0), (.int .u8 0), (.int .u8 0), (.int .u8 0), (.int .u8 0), (.int .u8 0), (.int .u8 0), (.int .u8 0), (.int .u8 0), (.int .u8 0), (.int .u8 0), (.int .u8 0), (.int .u8 0), (.int .u8 0), (.int .u8 0), (.int .u8 0), (.int .u8 0), (.int .u8 0), (.int .u8 0), (.int .u8 0), (.int .u8 0), (.int .u8 0), (.int .u8 0), (.int .u8 0), (.int .u8 0), (.int .u8 0), (.int .u8 0), (.int .u8 0), (.int .u8 0), (.int .u8 0), (.int .u8 0)]) none,
      MI.op (some 4) (.mov (.tmp 12)) none,
      MI.op none (.store 66 (.tmp 5) (.tmp 14)) none])
  m20_9))
  (.reg
   [MI.op (some 38) (.bin .add (.tmp 10) (.c (.int .i64 1))) none,
    MI.op (some 10) (.mov (.tmp 38)) none]))
def m20_11 : MCode :=
 (.seq
  (.cond (.tmp 11)
   .skip
   (.exit 0))
  m20_10)
def m20_12 : MCode :=
 (.seq
  (.reg
   [MI.op (some 11) (.bin .lss (.tmp 10) (.tmp 9)) none])
  m20_11)
def m20_13 : MCode :=
 (.blk 0
  (.loop
  m20_12))
def m20_14 : MCode :=
 (.seq
  (.seq
   (.reg
    [MI.op (some 8) (.mov (.tmp 0)) none,
     MI.op (some 9) (.len (.tmp 8)) none,
     MI.op (some 10) (.mov (.c (.int .i64 0))) none])
  m20_13)
  (.seq
   (.reg
    [MI.op (some 2) (.mov (.c (.int .i64 (-1)))) none])
   .ret))
def m20_15 : MCode :=
 (.seq
  (.reg
   [MI.op (some 3) (.alloc (List.replicate 32 (.int .u8 0))) none])
  m20_14)
def m20_r : List MRes := [.tmp 2]
def m20_b : MCode :=
 (.seq
  (.reg
   [MI.op (some 2) (.mov (.c (.int .i64 0))) none])
  m20_15)
def m20 : MFunc := ⟨1, 39, m20_r, m20_b⟩
theorem c20 : compF Try.prog 20 m20 = some m20 := by kernel_rfl

/- tollhouse/tollhouseref25.Verify -/
/- tollhouse/tollhouselaw25.Own -/
/- slices.Clone[[]tollhouse/audit.Entry,tollhouse/audit.Entry] -/
def m30_1 : MCode :=
 (.cond (.tmp 4)
  (.seq
   (.reg
    [MI.op (some 2) (.mov (.c (.sl .full 0 []))) none])
   .ret)
  .skip)
def m30_2 : MCode :=
 (.seq
  (.reg
   [MI.op (some 5) (.bsl 0 66 [(.int .u8 0), (.int .u8 0), (.int .u8 0), (.int .u8 0), (.int .u8 0), (.int .u8 0), (.int .u8 0), (.int .u8 0), (.int .u8 0), (.int .u8 0), (.int .u8 0), (.int .u8 0), (.int .u8 0), (.int .u8 0), (.int .u8 0), (.int .u8 0), (.int .u8 0), (.int .u8 0), (.int .u8 0), (.int .u8 0), (.int .u8 0), (.int .u8 0), (.int .u8 0), (.int .u8 0), (.int .u8 0), (.int .u8 0), (.int .u8 0), (.int .u8 0), (.int .u8 0), (.int .u8 0), (.int .u8 0), (.int .u8 0), (.int .i64 0), (.int .i64 0), (.int .u8 0), (.int .u8 0), (.int .u8 0), (.int .u8 0), (.int .u8 0), (.int .u8 0), (.int .u8 0), (.int .u8 0), (.int .u8 0), (.int .u8 0), (.int .u8 0), (.int .u8 0), (.int .u8 0), (.int .u8 0), (.int .u8 0), (.int .u8 0), (.int .u8 0), (.int .u8 0), (.int .u8 0), (.int .u8 0), (.int .u8 0), (.int .u8 0), (.int .u8 0), (.int .u8 0), (.int .u8 0), (.int .u8 0), (.int .u8 0), (.int .u8 0), (.int .u8 0), (.int .u8 0), (.int .u8 0), (.int .u8 0)] []) none,
    MI.op (some 6) (.mov (.tmp 0)) none,
    MI.op (some 7) (.app 66 80 (.tmp 5) (.tmp 6)) none,
    MI.op (some 2) (.mov (.tmp 7)) none])
  .ret)
def m30_3 : MCode :=
 (.seq
  (.seq
   (.reg
    [MI.op (some 3) (.mov (.tmp 0)) none,
     MI.op (some 4) (.nilS false (.tmp 3)) none])
  m30_1)
  m30_2)
def m30_r : List MRes := [.tmp 2]
def m30_b : MCode :=
 (.seq
  (.reg
   [MI.op (some 2) (.mov (.c (.sl .full 0 []))) none])
  m30_3)
def m30 : MFunc := ⟨1, 8, m30_r, m30_b⟩
theorem c30 : compF Try.prog 30 m30 = some m30 := by kernel_rfl

end Go.Proofs.Ytkphojcmjffccaa
