/- The loaded functions as texts of the ideal machine (written by a program of ours), and that they are the loaded ones. -/
import Derived.Test.YtfohfnhimgmnlaaE24
import Derived.Test.YtfohfnhimgmnlaaProg
set_option linter.unusedVariables false
namespace Go.Proofs.Ytfohfnhimgmnlaa
open Go.RowKit

/- tollhouse/tollhouselaw17.ReplyCodes -/
def m11_1 : List MI :=
 [MI.op (some 21) (.un .not (.tmp 20)) none,
  MI.op (some 22) (.mov (.tmp 21)) none,
  MI.op (some 23) (.mov (.tmp 1)) (some (22, false)),
  MI.op (some 24) (.len (.tmp 23)) (some (22, false)),
  MI.op (some 25) (.bin .gtr (.tmp 24) (.c (.int .i64 1000))) (some (22, false)),
  MI.op (some 26) (.pick (.tmp 22) (.c (.bool true)) (.tmp 25)) none]
def m11_2 : MCode :=
 (.seq
  (.reg
   [MI.op (some 27) (.call 36 []) none,
    MI.op (some 4) (.mov (.tmp 27)) none])
  .ret)
def m11_3 : MCode :=
 (.cond (.tmp 26)
  m11_2
  .skip)
def m11_4 : List MI :=
 [MI.op (some 36) (.mov (.tmp 41)) none,
  MI.op (some 42) (.ext (.tmp 36) 0) none,
  MI.op (some 43) (.ext (.tmp 36) 1) none,
  MI.op (some 7) (.mov (.tmp 42)) none,
  MI.op (some 8) (.mov (.tmp 43)) none]
def m11_5 : List MI :=
 [MI.op (some 44) (.mov (.tmp 49)) none,
  MI.op (some 50) (.ext (.tmp 44) 0) none,
  MI.op (some 51) (.ext (.tmp 44) 1) none,
  MI.op (some 9) (.mov (.tmp 50)) none,
  MI.op (some 10) (.mov (.tmp 51)) none]
def m11_6 : List MI :=
 [MI.op (some 55) (.un .not (.tmp 54)) none,
  MI.op (some 56) (.mov (.tmp 55)) none,
  MI.op (some 57) (.mov (.tmp 8)) (some (56, false)),
  MI.op (some 58) (.mov (.tmp 10)) (some (56, false)),
  MI.op (some 59) (.bin .neq (.tmp 57) (.tmp 58)) (some (56, false)),
  MI.op (some 60) (.pick (.tmp 56) (.c (.bool true)) (.tmp 59)) none]
def m11_7 : MCode :=
 (.cond (.tmp 60)
  (.seq
   (.reg
    [MI.op (some 4) (.mov (.c (.bool false))) none])
   .ret)
  .skip)
def m11_8 : MCode :=
 (.seq
  (.reg
   (MI.op (some 52) (.mov (.tmp 7)) none ::
    MI.op (some 53) (.mov (.tmp 9)) none ::
    MI.op (some 54) (.call 40 [(.tmp 52), (.tmp 53)]) none ::
    m11_6))
  m11_7)
def m11_9 : MCode :=
 (.seq
  (.reg
   (MI.op (some 45) (.mov (.tmp 0)) none ::
    MI.op (some 46) (.mov (.tmp 6)) none ::
    MI.op (some 47) (.ixSl 3 (.tmp 45) (.tmp 46)) none ::
    MI.op (some 48) (.load true 3 (.tmp 47)) none ::
    MI.op (some 49) (.callp 39 [(.tmp 48)]) none ::
    m11_5))
  m11_8)
def m11_10 : MCode :=
 (.seq
  (.blk 1
   (.seq
    (.reg
     (MI.op (some 37) (.mov (.tmp 5)) none ::
      MI.op (some 38) (.mov (.tmp 6)) none ::
      MI.op (some 39) (.ixSl 3 (.tmp 37) (.tmp 38)) none ::
      MI.op (some 40) (.load true 3 (.tmp 39)) none ::
      MI.op (some 41) (.callp 38 [(.tmp 40)]) none ::
      m11_4))
  m11_9))
  (.reg
   [MI.op (some 34) (.mov (.tmp 6)) none,
    MI.op (some 35) (.bin .add (.tmp 34) (.c (.int .i64 1))) none,
    MI.op (some 6) (.mov (.tmp 35)) none]))
def m11_11 : MCode :=
 (.seq
  (.seq
   (.reg
    [MI.op (some 30) (.mov (.tmp 6)) none,
     MI.op (some 31) (.mov (.tmp 0)) none,
     MI.op (some 32) (.len (.tmp 31)) none,
     MI.op (some 33) (.bin .lss (.tmp 30) (.tmp 32)) none])
   (.cond (.tmp 33)
    .skip
    (.exit 0)))
  m11_10)
def m11_12 : MCode :=
 (.blk 0
  (.loop
  m11_11))
def m11_13 : List MI :=
 [MI.op (some 61) (.mov (.tmp 63)) none,
  MI.op (some 64) (.ext (.tmp 61) 0) none,
  MI.op (some 65) (.ext (.tmp 61) 1) none,
  MI.op (some 11) (.mov (.tmp 64)) none,
  MI.op (some 12) (.mov (.tmp 65)) none]
def m11_14 : List MI :=
 [MI.op (some 66) (.mov (.tmp 68)) none,
  MI.op (some 69) (.ext (.tmp 66) 0) none,
  MI.op (some 70) (.ext (.tmp 66) 1) none,
  MI.op (some 13) (.mov (.tmp 69)) none,
  MI.op (some 14) (.mov (.tmp 70)) none]
def m11_15 : List MI :=
 [MI.op (some 71) (.mov (.tmp 75)) none,
  MI.op (some 76) (.ext (.tmp 71) 0) none,
  MI.op (some 77) (.ext (.tmp 71) 1) none,
  MI.op (some 15) (.alloc [(.int .i64 0), (.int .i64 0), (.sl .full 0 [])]) none,
  MI.op none (.store 3 (.tmp 15) (.tmp 76)) none,
  MI.op (some 16) (.mov (.tmp 77)) none]
def m11_16 : List MI :=
 [MI.op (some 78) (.mov (.tmp 80)) none,
  MI.op (some 81) (.ext (.tmp 78) 0) none,
  MI.op (some 82) (.ext (.tmp 78) 1) none,
  MI.op (some 17) (.alloc [(.int .i64 0), (.int .i64 0), (.sl .full 0 [])]) none,
  MI.op none (.store 3 (.tmp 17) (.tmp 81)) none,
  MI.op (some 18) (.mov (.tmp 82)) none]
def m11_17 : List MI :=
 [MI.op (some 110) (.pick (.tmp 108) (.tmp 109) (.c (.bool false))) none,
  MI.op (some 4) (.mov (.tmp 110)) none]
def m11_18 : List MI :=
 (MI.op (some 107) (.pick (.tmp 103) (.tmp 106) (.c (.bool false))) none ::
  MI.op (some 108) (.mov (.tmp 107)) none ::
  MI.op (some 109) (.call 36 []) (some (108, true)) ::
  m11_17)
def m11_19 : List MI :=
 (MI.op (some 97) (.pick (.tmp 91) (.tmp 96) (.c (.bool false))) none ::
  MI.op (some 98) (.mov (.tmp 97)) none ::
  MI.op (some 99) (.mov (.tmp 16)) (some (98, true)) ::
  MI.op (some 100) (.mov (.tmp 18)) (some (98, true)) ::
  MI.op (some 101) (.bin .eql (.tmp 99) (.tmp 100)) (some (98, true)) ::
  MI.op (some 102) (.pick (.tmp 98) (.tmp 101) (.c (.bool false))) none ::
  MI.op (some 103) (.mov (.tmp 102)) none ::
  MI.op (some 104) (.mov (.tmp 5)) (some (103, true)) ::
  MI.op (some 105) (.mov (.tmp 0)) (some (103, true)) ::
  MI.op (some 106) (.call 45 [(.tmp 104), (.tmp 105)]) (some (103, true)) ::
  m11_18)
def m11_20 : List MI :=
 (MI.op (some 86) (.mov (.tmp 85)) none ::
  MI.op (some 87) (.mov (.tmp 12)) (some (86, true)) ::
  MI.op (some 88) (.mov (.tmp 14)) (some (86, true)) ::
  MI.op (some 89) (.bin .eql (.tmp 87) (.tmp 88)) (some (86, true)) ::
  MI.op (some 90) (.pick (.tmp 86) (.tmp 89) (.c (.bool false))) none ::
  MI.op (some 91) (.mov (.tmp 90)) none ::
  MI.op (some 92) (.load true 3 (.tmp 15)) (some (91, true)) ::
  MI.op (some 93) (.bsl 1 3 [(.int .i64 0), (.int .i64 0), (.sl .full 0 [])] [(0, 3, (.tmp 92))]) (some (91, true)) ::
  MI.op (some 94) (.load true 3 (.tmp 17)) (some (91, true)) ::
  MI.op (some 95) (.bsl 1 3 [(.int .i64 0), (.int .i64 0), (.sl .full 0 [])] [(0, 3, (.tmp 94))]) (some (91, true)) ::
  MI.op (some 96) (.call 45 [(.tmp 93), (.tmp 95)]) (some (91, true)) ::
  m11_19)
def m11_21 : MCode :=
 (.seq
  (.reg
   (MI.op (some 83) (.mov (.tmp 11)) none ::
    MI.op (some 84) (.mov (.tmp 13)) none ::
    MI.op (some 85) (.call 40 [(.tmp 83), (.tmp 84)]) none ::
    m11_20))
  .ret)
def m11_22 : MCode :=
 (.seq
  (.reg
   (MI.op (some 79) (.mov (.tmp 1)) none ::
    MI.op (some 80) (.call 44 [(.tmp 79)]) none ::
    m11_16))
  m11_21)
def m11_23 : MCode :=
 (.seq
  (.reg
   (MI.op (some 72) (.bsl 0 1 [(.int .u8 0)] []) none ::
    MI.op (some 73) (.mov (.tmp 1)) none ::
    MI.op (some 74) (.appP 1 1 (.tmp 72) (.tmp 73)) none ::
    MI.op (some 75) (.call 43 [(.tmp 74)]) none ::
    m11_15))
  m11_22)
def m11_24 : MCode :=
 (.seq
  (.reg
   (MI.op (some 67) (.mov (.tmp 0)) none ::
    MI.op (some 68) (.callp 42 [(.tmp 67)]) none ::
    m11_14))
  m11_23)
def m11_25 : MCode :=
 (.seq
  (.reg
   (MI.op (some 62) (.mov (.tmp 5)) none ::
    MI.op (some 63) (.callp 41 [(.tmp 62)]) none ::
    m11_13))
  m11_24)
def m11_26 : MCode :=
 (.seq
  (.seq
   (.reg
    [MI.op (some 6) (.mov (.c (.int .i64 0))) none])
  m11_12)
  m11_25)
def m11_27 : MCode :=
 (.seq
  (.reg
   [MI.op (some 28) (.mov (.tmp 0)) none,
    MI.op (some 29) (.callp 37 [(.tmp 28)]) none,
    MI.op (some 5) (.mov (.tmp 29)) none])
  m11_26)
def m11_28 : MCode :=
 (.seq
  (.seq
   (.reg
    (MI.op (some 19) (.mov (.tmp 0)) none ::
     MI.op (some 20) (.call 35 [(.tmp 19)]) none ::
     m11_1))
  m11_3)
  m11_27)
def m11_r : List MRes := [.tmp 4]
def m11_b : MCode :=
 (.seq
  (.reg
   [MI.op (some 4) (.mov (.c (.bool false))) none])
  m11_28)
def m11 : MFunc := ⟨2, 111, m11_r, m11_b⟩
theorem c11 : compF Try.prog 11 m11 = some m11 := by kernel_rfl

/- tollhouse/tollhouselaw17.ReplyTurns -/
def m12_1 : MCode :=
 (.seq
  (.reg
   [MI.op (some 20) (.call 36 []) none,
    MI.op (some 6) (.mov (.tmp 20)) none])
  .ret)
def m12_2 : MCode :=
 (.cond (.tmp 19)
  m12_1
  .skip)
def m12_3 : List MI :=
 [MI.op (some 21) (.mov (.tmp 23)) none,
  MI.op (some 24) (.ext (.tmp 21) 0) none,
  MI.op (some 25) (.ext (.tmp 21) 1) none,
  MI.op (some 7) (.mov (.tmp 24)) none,
  MI.op (some 8) (.mov (.tmp 25)) none]
def m12_4 : List MI :=
 [MI.op (some 42) (.pick (.tmp 40) (.tmp 41) (.c (.bool false))) none,
  MI.op (some 6) (.mov (.tmp 42)) none]
def m12_5 : MCode :=
 (.seq
  (.reg
   (MI.op (some 33) (.mov (.tmp 8)) none ::
    MI.op (some 34) (.bin .eql (.tmp 33) (.c (.int .i64 11))) none ::
    MI.op (some 35) (.mov (.tmp 34)) none ::
    MI.op (some 36) (.mov (.tmp 7)) (some (35, true)) ::
    MI.op (some 37) (.len (.tmp 36)) (some (35, true)) ::
    MI.op (some 38) (.bin .eql (.tmp 37) (.c (.int .i64 0))) (some (35, true)) ::
    MI.op (some 39) (.pick (.tmp 35) (.tmp 38) (.c (.bool false))) none ::
    MI.op (some 40) (.mov (.tmp 39)) none ::
    MI.op (some 41) (.call 36 []) (some (40, true)) ::
    m12_4))
  .ret)
def m12_6 : MCode :=
 (.cond (.tmp 32)
  m12_5
  .skip)
def m12_7 : List MI :=
 [MI.op (some 43) (.mov (.tmp 45)) none,
  MI.op (some 46) (.ext (.tmp 43) 0) none,
  MI.op (some 47) (.ext (.tmp 43) 1) none,
  MI.op (some 9) (.alloc [(.int .i64 0), (.int .i64 0), (.sl .full 0 [])]) none,
  MI.op none (.store 3 (.tmp 9) (.tmp 46)) none,
  MI.op (some 10) (.mov (.tmp 47)) none]
def m12_8 : List MI :=
 [MI.op (some 56) (.un .not (.tmp 55)) (some (50, false)),
  MI.op (some 57) (.pick (.tmp 50) (.c (.bool true)) (.tmp 56)) none,
  MI.op (some 58) (.mov (.tmp 57)) none,
  MI.op (some 59) (.mov (.tmp 7)) (some (58, false)),
  MI.op (some 60) (.len (.tmp 59)) (some (58, false)),
  MI.op (some 61) (.fa 2 (.tmp 3)) (some (58, false)),
  MI.op (some 62) (.load false 1 (.tmp 61)) (some (58, false)),
  MI.op (some 63) (.len (.tmp 62)) (some (58, false)),
  MI.op (some 64) (.bin .add (.c (.int .i64 8)) (.tmp 63)) (some (58, false)),
  MI.op (some 65) (.bin .neq (.tmp 60) (.tmp 64)) (some (58, false)),
  MI.op (some 66) (.pick (.tmp 58) (.c (.bool true)) (.tmp 65)) none]
def m12_9 : MCode :=
 (.cond (.tmp 66)
  (.seq
   (.reg
    [MI.op (some 6) (.mov (.c (.bool false))) none])
   .ret)
  .skip)
def m12_10 : List MI :=
 [MI.op (some 75) (.ixSl 1 (.tmp 70) (.tmp 74)) none,
  MI.op (some 76) (.load false 1 (.tmp 75)) none,
  MI.op (some 77) (.mov (.tmp 2)) none,
  MI.op (some 78) (.bin .xor (.tmp 76) (.tmp 77)) none,
  MI.op (some 79) (.ixSl 1 (.tmp 70) (.tmp 74)) none,
  MI.op none (.store 1 (.tmp 79) (.tmp 78)) none]
def m12_11 : List MI :=
 [MI.op (some 80) (.mov (.tmp 82)) none,
  MI.op (some 83) (.ext (.tmp 80) 0) none,
  MI.op (some 84) (.ext (.tmp 80) 1) none,
  MI.op (some 12) (.alloc [(.int .i64 0), (.int .i64 0), (.sl .full 0 [])]) none,
  MI.op none (.store 3 (.tmp 12) (.tmp 83)) none,
  MI.op (some 13) (.mov (.tmp 84)) none]
def m12_12 : List MI :=
 [MI.op (some 85) (.mov (.tmp 91)) none,
  MI.op (some 92) (.ext (.tmp 85) 0) none,
  MI.op (some 93) (.ext (.tmp 85) 1) none,
  MI.op (some 14) (.alloc [(.int .i64 0), (.int .i64 0), (.sl .full 0 [])]) none,
  MI.op none (.store 3 (.tmp 14) (.tmp 92)) none,
  MI.op (some 15) (.mov (.tmp 93)) none]
def m12_13 : List MI :=
 [MI.op (some 105) (.pick (.tmp 103) (.tmp 104) (.c (.bool false))) none,
  MI.op (some 6) (.mov (.tmp 105)) none]
def m12_14 : MCode :=
 (.seq
  (.reg
   (MI.op (some 94) (.mov (.tmp 13)) none ::
    MI.op (some 95) (.bin .eql (.tmp 94) (.c (.int .i64 0))) none ::
    MI.op (some 96) (.mov (.tmp 2)) none ::
    MI.op (some 97) (.bin .eql (.tmp 96) (.c (.int .u8 0))) none ::
    MI.op (some 98) (.binB .eql (.tmp 95) (.tmp 97)) none ::
    MI.op (some 99) (.mov (.tmp 98)) none ::
    MI.op (some 100) (.mov (.tmp 15)) (some (99, true)) ::
    MI.op (some 101) (.bin .eql (.tmp 100) (.c (.int .i64 11))) (some (99, true)) ::
    MI.op (some 102) (.pick (.tmp 99) (.tmp 101) (.c (.bool false))) none ::
    MI.op (some 103) (.mov (.tmp 102)) none ::
    MI.op (some 104) (.call 36 []) (some (103, true)) ::
    m12_13))
  .ret)
def m12_15 : MCode :=
 (.seq
  (.reg
   (MI.op (some 86) (.mov (.tmp 7)) none ::
    MI.op (some 87) (.mov (.tmp 7)) none ::
    MI.op (some 88) (.len (.tmp 87)) none ::
    MI.op (some 89) (.bin .sub (.tmp 88) (.c (.int .i64 1))) none ::
    MI.op (some 90) (.slSl 1 (.tmp 86) none (some (.tmp 89)) none) none ::
    MI.op (some 91) (.call 43 [(.tmp 90)]) none ::
    m12_12))
  m12_14)
def m12_16 : MCode :=
 (.seq
  (.reg
   (MI.frz 11 ::
    MI.op (some 81) (.mov (.tmp 11)) none ::
    MI.op (some 82) (.call 43 [(.tmp 81)]) none ::
    m12_11))
  m12_15)
def m12_17 : MCode :=
 (.seq
  (.reg
   (MI.op (some 70) (.mov (.tmp 11)) none ::
    MI.op (some 71) (.mov (.tmp 1)) none ::
    MI.op (some 72) (.mov (.tmp 7)) none ::
    MI.op (some 73) (.len (.tmp 72)) none ::
    MI.op (some 74) (.call 46 [(.tmp 71), (.tmp 73)]) none ::
    m12_10))
  m12_16)
def m12_18 : MCode :=
 (.seq
  (.reg
   [MI.op (some 67) (.bsl 0 1 [(.int .u8 0)] []) none,
    MI.op (some 68) (.mov (.tmp 7)) none,
    MI.op (some 69) (.app 1 1 (.tmp 67) (.tmp 68)) none,
    MI.op (some 11) (.mov (.tmp 69)) none])
  m12_17)
def m12_19 : MCode :=
 (.seq
  (.seq
   (.reg
    (MI.op (some 48) (.mov (.tmp 10)) none ::
     MI.op (some 49) (.bin .neq (.tmp 48) (.c (.int .i64 0))) none ::
     MI.op (some 50) (.mov (.tmp 49)) none ::
     MI.op (some 51) (.load true 3 (.tmp 9)) (some (50, false)) ::
     MI.op (some 52) (.bsl 1 3 [(.int .i64 0), (.int .i64 0), (.sl .full 0 [])] [(0, 3, (.tmp 51))]) (some (50, false)) ::
     MI.op (some 53) (.load true 3 (.tmp 3)) (some (50, false)) ::
     MI.op (some 54) (.bsl 1 3 [(.int .i64 0), (.int .i64 0), (.sl .full 0 [])] [(0, 3, (.tmp 53))]) (some (50, false)) ::
     MI.op (some 55) (.call 45 [(.tmp 52), (.tmp 54)]) (some (50, false)) ::
     m12_8))
  m12_9)
  m12_18)
def m12_20 : MCode :=
 (.seq
  (.reg
   (MI.op (some 44) (.mov (.tmp 7)) none ::
    MI.op (some 45) (.call 43 [(.tmp 44)]) none ::
    m12_7))
  m12_19)
def m12_21 : MCode :=
 (.seq
  (.seq
   (.reg
    [MI.op (some 26) (.mov (.tmp 8)) none,
     MI.op (some 27) (.bin .neq (.tmp 26) (.c (.int .i64 0))) none,
     MI.op (some 28) (.mov (.tmp 27)) none,
     MI.op (some 29) (.mov (.tmp 7)) (some (28, false)),
     MI.op (some 30) (.len (.tmp 29)) (some (28, false)),
     MI.op (some 31) (.bin .eql (.tmp 30) (.c (.int .i64 0))) (some (28, false)),
     MI.op (some 32) (.pick (.tmp 28) (.c (.bool true)) (.tmp 31)) none])
  m12_6)
  m12_20)
def m12_22 : MCode :=
 (.seq
  (.reg
   (MI.op (some 22) (.load true 3 (.tmp 3)) none ::
    MI.op (some 23) (.callp 38 [(.tmp 22)]) none ::
    m12_3))
  m12_21)
def m12_23 : MCode :=
 (.seq
  (.seq
   (.reg
    [MI.op (some 16) (.load true 3 (.tmp 3)) none,
     MI.op (some 17) (.bsl 1 3 [(.int .i64 0), (.int .i64 0), (.sl .full 0 [])] [(0, 3, (.tmp 16))]) none,
     MI.op (some 18) (.call 35 [(.tmp 17)]) none,
     MI.op (some 19) (.un .not (.tmp 18)) none])
  m12_2)
  m12_22)
def m12_r : List MRes := [.tmp 6]
def m12_b : MCode :=
 (.seq
  (.reg
   [MI.op (some 3) (.box (.tmp 0)) none,
    MI.op (some 6) (.mov (.c (.bool false))) none])
  m12_23)
def m12 : MFunc := ⟨3, 106, m12_r, m12_b⟩
theorem c12 : compF Try.prog 12 m12 = some m12 := by kernel_rfl

/- tollhouse/tollhouselaw17.ReplyJoins -/
def m13_1 : MCode :=
 (.seq
  (.reg
   [MI.op (some 20) (.call 36 []) none,
    MI.op (some 4) (.mov (.tmp 20)) none])
  .ret)
def m13_2 : MCode :=
 (.cond (.tmp 19)
  m13_1
  .skip)
def m13_3 : List MI :=
 [MI.op (some 21) (.mov (.tmp 23)) none,
  MI.op (some 24) (.ext (.tmp 21) 0) none,
  MI.op (some 25) (.ext (.tmp 21) 1) none,
  MI.op (some 5) (.mov (.tmp 24)) none,
  MI.op (some 6) (.mov (.tmp 25)) none]
def m13_4 : List MI :=
 [MI.op (some 37) (.pick (.tmp 35) (.tmp 36) (.c (.bool false))) none,
  MI.op (some 4) (.mov (.tmp 37)) none]
def m13_5 : MCode :=
 (.seq
  (.reg
   (MI.op (some 28) (.mov (.tmp 6)) none ::
    MI.op (some 29) (.bin .eql (.tmp 28) (.c (.int .i64 11))) none ::
    MI.op (some 30) (.mov (.tmp 29)) none ::
    MI.op (some 31) (.mov (.tmp 5)) (some (30, true)) ::
    MI.op (some 32) (.len (.tmp 31)) (some (30, true)) ::
    MI.op (some 33) (.bin .eql (.tmp 32) (.c (.int .i64 0))) (some (30, true)) ::
    MI.op (some 34) (.pick (.tmp 30) (.tmp 33) (.c (.bool false))) none ::
    MI.op (some 35) (.mov (.tmp 34)) none ::
    MI.op (some 36) (.call 36 []) (some (35, true)) ::
    m13_4))
  .ret)
def m13_6 : MCode :=
 (.cond (.tmp 27)
  m13_5
  .skip)
def m13_7 : List MI :=
 [MI.op (some 44) (.mov (.tmp 48)) none,
  MI.op (some 49) (.ext (.tmp 44) 0) none,
  MI.op (some 50) (.ext (.tmp 44) 1) none,
  MI.op (some 8) (.mov (.tmp 49)) none,
  MI.op (some 9) (.mov (.tmp 50)) none]
def m13_8 : List MI :=
 [MI.op (some 51) (.mov (.tmp 55)) none,
  MI.op (some 56) (.ext (.tmp 51) 0) none,
  MI.op (some 57) (.ext (.tmp 51) 1) none,
  MI.op (some 10) (.mov (.tmp 56)) none,
  MI.op (some 11) (.mov (.tmp 57)) none]
def m13_9 : List MI :=
 [MI.op (some 70) (.un .not (.tmp 69)) (some (64, false)),
  MI.op (some 71) (.pick (.tmp 64) (.c (.bool true)) (.tmp 70)) none]
def m13_10 : MCode :=
 (.cond (.tmp 71)
  (.seq
   (.reg
    [MI.op (some 4) (.mov (.c (.bool false))) none])
   .ret)
  .skip)
def m13_11 : MCode :=
 (.cond (.tmp 105)
  (.seq
   (.reg
    [MI.op (some 4) (.mov (.c (.bool false))) none])
   .ret)
  .skip)
def m13_12 : List MI :=
 [MI.op (some 106) (.mov (.tmp 113)) none,
  MI.op (some 114) (.ext (.tmp 106) 0) none,
  MI.op (some 115) (.ext (.tmp 106) 1) none,
  MI.op (some 15) (.alloc [(.int .i64 0), (.int .i64 0), (.sl .full 0 [])]) none,
  MI.op none (.store 3 (.tmp 15) (.tmp 114)) none,
  MI.op (some 16) (.mov (.tmp 115)) none]
def m13_13 : MCode :=
 (.cond (.tmp 128)
  (.seq
   (.reg
    [MI.op (some 4) (.mov (.c (.bool false))) none])
   .ret)
  .skip)
def m13_14 : MCode :=
 (.reg
  [MI.op (some 129) (.mov (.tmp 12)) none,
   MI.op (some 130) (.mov (.tmp 14)) none,
   MI.op (some 131) (.bin .add (.tmp 129) (.tmp 130)) none,
   MI.op (some 12) (.mov (.tmp 131)) none])
def m13_15 : MCode :=
 (.seq
  (.seq
   (.drw
    [MI.op (some 116) (.mov (.tmp 16)) none,
     MI.op (some 117) (.bin .neq (.tmp 116) (.c (.int .i64 0))) none,
     MI.op (some 118) (.mov (.tmp 117)) none,
     MI.op (some 119) (.load true 3 (.tmp 15)) (some (118, false)),
     MI.op (some 120) (.bsl 1 3 [(.int .i64 0), (.int .i64 0), (.sl .full 0 [])] [(0, 3, (.tmp 119))]) (some (118, false)),
     MI.op (some 121) (.mov (.tmp 0)) (some (118, false)),
     MI.op (some 122) (.mov (.tmp 13)) (some (118, false)),
     MI.op (some 123) (.mov (.tmp 13)) (some (118, false)),
     MI.op (some 124) (.bin .add (.tmp 123) (.c (.int .i64 1))) (some (118, false)),
     MI.op (some 125) (.slSl 3 (.tmp 121) (some (.tmp 122)) (some (.tmp 124)) none) (some (118, false))]
    [MI.op (some 126) (.call 45 [(.tmp 120), (.tmp 125)]) (some (118, false)),
     MI.op (some 127) (.un .not (.tmp 126)) (some (118, false)),
     MI.op (some 128) (.pick (.tmp 118) (.c (.bool true)) (.tmp 127)) none])
  m13_13)
  m13_14)
def m13_16 : MCode :=
 (.seq
  (.reg
   (MI.op (some 107) (.mov (.tmp 5)) none ::
    MI.op (some 108) (.mov (.tmp 12)) none ::
    MI.op (some 109) (.mov (.tmp 12)) none ::
    MI.op (some 110) (.mov (.tmp 14)) none ::
    MI.op (some 111) (.bin .add (.tmp 109) (.tmp 110)) none ::
    MI.op (some 112) (.slSl 1 (.tmp 107) (some (.tmp 108)) (some (.tmp 111)) none) none ::
    MI.op (some 113) (.call 43 [(.tmp 112)]) none ::
    m13_12))
  m13_15)
def m13_17 : MCode :=
 (.seq
  (.seq
   (.drw
    [MI.op (some 85) (.mov (.tmp 5)) none,
     MI.op (some 86) (.len (.tmp 85)) none,
     MI.op (some 87) (.mov (.tmp 12)) none,
     MI.op (some 88) (.bin .sub (.tmp 86) (.tmp 87)) none,
     MI.op (some 89) (.mov (.tmp 14)) none,
     MI.op (some 90) (.bin .lss (.tmp 88) (.tmp 89)) none,
     MI.op (some 91) (.mov (.tmp 90)) none,
     MI.op (some 92) (.mov (.tmp 5)) (some (91, false)),
     MI.op (some 93) (.mov (.tmp 12)) (some (91, false)),
     MI.op (some 94) (.bin .add (.tmp 93) (.c (.int .i64 5))) (some (91, false)),
     MI.op (some 95) (.ixSl 1 (.tmp 92) (.tmp 94)) (some (91, false)),
     MI.op (some 96) (.load false 1 (.tmp 95)) (some (91, false)),
     MI.op (some 97) (.toInt .i64 (.tmp 96)) (some (91, false)),
     MI.op (some 98) (.mov (.tmp 0)) (some (91, false)),
     MI.op (some 99) (.mov (.tmp 13)) (some (91, false)),
     MI.op (some 100) (.ixSl 3 (.tmp 98) (.tmp 99)) (some (91, false)),
     MI.op (some 101) (.fa 2 (.tmp 100)) (some (91, false)),
     MI.op (some 102) (.load false 1 (.tmp 101)) (some (91, false)),
     MI.op (some 103) (.len (.tmp 102)) (some (91, false))]
    [MI.op (some 104) (.bin .neq (.tmp 97) (.tmp 103)) (some (91, false)),
     MI.op (some 105) (.pick (.tmp 91) (.c (.bool true)) (.tmp 104)) none])
  m13_11)
  m13_16)
def m13_18 : MCode :=
 (.seq
  (.blk 1
   (.seq
    (.reg
     [MI.op (some 78) (.mov (.tmp 0)) none,
      MI.op (some 79) (.mov (.tmp 13)) none,
      MI.op (some 80) (.ixSl 3 (.tmp 78) (.tmp 79)) none,
      MI.op (some 81) (.fa 2 (.tmp 80)) none,
      MI.op (some 82) (.load false 1 (.tmp 81)) none,
      MI.op (some 83) (.len (.tmp 82)) none,
      MI.op (some 84) (.bin .add (.c (.int .i64 8)) (.tmp 83)) none,
      MI.op (some 14) (.mov (.tmp 84)) none])
  m13_17))
  (.reg
   [MI.op (some 76) (.mov (.tmp 13)) none,
    MI.op (some 77) (.bin .add (.tmp 76) (.c (.int .i64 1))) none,
    MI.op (some 13) (.mov (.tmp 77)) none]))
def m13_19 : MCode :=
 (.seq
  (.seq
   (.reg
    [MI.op (some 72) (.mov (.tmp 13)) none,
     MI.op (some 73) (.mov (.tmp 0)) none,
     MI.op (some 74) (.len (.tmp 73)) none,
     MI.op (some 75) (.bin .lss (.tmp 72) (.tmp 74)) none])
   (.cond (.tmp 75)
    .skip
    (.exit 0)))
  m13_18)
def m13_20 : MCode :=
 (.blk 0
  (.loop
  m13_19))
def m13_21 : List MI :=
 [MI.op (some 138) (.pick (.tmp 136) (.tmp 137) (.c (.bool false))) none,
  MI.op (some 4) (.mov (.tmp 138)) none]
def m13_22 : MCode :=
 (.seq
  (.reg
   (MI.op (some 132) (.mov (.tmp 12)) none ::
    MI.op (some 133) (.mov (.tmp 5)) none ::
    MI.op (some 134) (.len (.tmp 133)) none ::
    MI.op (some 135) (.bin .eql (.tmp 132) (.tmp 134)) none ::
    MI.op (some 136) (.mov (.tmp 135)) none ::
    MI.op (some 137) (.call 36 []) (some (136, true)) ::
    m13_21))
  .ret)
def m13_23 : MCode :=
 (.seq
  (.seq
   (.reg
    [MI.op (some 13) (.mov (.c (.int .i64 0))) none])
  m13_20)
  m13_22)
def m13_24 : MCode :=
 (.seq
  (.reg
   [MI.op (some 12) (.mov (.c (.int .i64 0))) none])
  m13_23)
def m13_25 : MCode :=
 (.seq
  (.seq
   (.reg
    (MI.op (some 58) (.mov (.tmp 9)) none ::
     MI.op (some 59) (.bin .neq (.tmp 58) (.c (.int .i64 0))) none ::
     MI.op (some 60) (.mov (.tmp 59)) none ::
     MI.op (some 61) (.mov (.tmp 11)) (some (60, false)) ::
     MI.op (some 62) (.bin .neq (.tmp 61) (.c (.int .i64 0))) (some (60, false)) ::
     MI.op (some 63) (.pick (.tmp 60) (.c (.bool true)) (.tmp 62)) none ::
     MI.op (some 64) (.mov (.tmp 63)) none ::
     MI.op (some 65) (.mov (.tmp 8)) (some (64, false)) ::
     MI.op (some 66) (.mov (.tmp 10)) (some (64, false)) ::
     MI.op (some 67) (.app 1 1 (.tmp 65) (.tmp 66)) (some (64, false)) ::
     MI.op (some 68) (.mov (.tmp 5)) (some (64, false)) ::
     MI.op (some 69) (.call 40 [(.tmp 67), (.tmp 68)]) (some (64, false)) ::
     m13_9))
  m13_10)
  m13_24)
def m13_26 : MCode :=
 (.seq
  (.reg
   (MI.op (some 52) (.mov (.tmp 0)) none ::
    MI.op (some 53) (.mov (.tmp 7)) none ::
    MI.op (some 54) (.slSl 3 (.tmp 52) (some (.tmp 53)) none none) none ::
    MI.op (some 55) (.callp 41 [(.tmp 54)]) none ::
    m13_8))
  m13_25)
def m13_27 : MCode :=
 (.seq
  (.reg
   (MI.op (some 45) (.mov (.tmp 0)) none ::
    MI.op (some 46) (.mov (.tmp 7)) none ::
    MI.op (some 47) (.slSl 3 (.tmp 45) none (some (.tmp 46)) none) none ::
    MI.op (some 48) (.call 41 [(.tmp 47)]) none ::
    m13_7))
  m13_26)
def m13_28 : MCode :=
 (.seq
  (.reg
   [MI.op (some 38) (.mov (.tmp 1)) none,
    MI.op (some 39) (.toInt .i64 (.tmp 38)) none,
    MI.op (some 40) (.mov (.tmp 0)) none,
    MI.op (some 41) (.len (.tmp 40)) none,
    MI.op (some 42) (.bin .add (.tmp 41) (.c (.int .i64 1))) none,
    MI.op (some 43) (.bin .rem (.tmp 39) (.tmp 42)) none,
    MI.op (some 7) (.mov (.tmp 43)) none])
  m13_27)
def m13_29 : MCode :=
 (.seq
  (.seq
   (.reg
    [MI.op (some 26) (.mov (.tmp 6)) none,
     MI.op (some 27) (.bin .neq (.tmp 26) (.c (.int .i64 0))) none])
  m13_6)
  m13_28)
def m13_30 : MCode :=
 (.seq
  (.reg
   (MI.op (some 22) (.mov (.tmp 0)) none ::
    MI.op (some 23) (.callp 41 [(.tmp 22)]) none ::
    m13_3))
  m13_29)
def m13_31 : MCode :=
 (.seq
  (.seq
   (.reg
    [MI.op (some 17) (.mov (.tmp 0)) none,
     MI.op (some 18) (.call 35 [(.tmp 17)]) none,
     MI.op (some 19) (.un .not (.tmp 18)) none])
  m13_2)
  m13_30)
def m13_r : List MRes := [.tmp 4]
def m13_b : MCode :=
 (.seq
  (.reg
   [MI.op (some 4) (.mov (.c (.bool false))) none])
  m13_31)
def m13 : MFunc := ⟨2, 139, m13_r, m13_b⟩
theorem c13 : compF Try.prog 13 m13 = some m13 := by kernel_rfl

/- tollhouse/tollhouselaw17.ReplyPlaces -/
def m14_1 : MCode :=
 (.seq
  (.reg
   [MI.op (some 13) (.call 36 []) none,
    MI.op (some 2) (.mov (.tmp 13)) none])
  .ret)
def m14_2 : MCode :=
 (.cond (.tmp 12)
  m14_1
  .skip)
def m14_3 : List MI :=
 [MI.op (some 14) (.mov (.tmp 16)) none,
  MI.op (some 17) (.ext (.tmp 14) 0) none,
  MI.op (some 18) (.ext (.tmp 14) 1) none,
  MI.op (some 3) (.mov (.tmp 17)) none,
  MI.op (some 4) (.mov (.tmp 18)) none]
def m14_4 : MCode :=
 (.cond (.tmp 55)
  (.seq
   (.reg
    [MI.op (some 2) (.mov (.c (.bool false))) none])
   .ret)
  .skip)
def m14_5 : List MI :=
 [MI.op (some 62) (.pick (.tmp 60) (.tmp 61) (.c (.bool false))) none,
  MI.op (some 2) (.mov (.tmp 62)) none]
def m14_6 : MCode :=
 (.seq
  (.reg
   (MI.op (some 58) (.mov (.tmp 4)) none ::
    MI.op (some 59) (.bin .eql (.tmp 58) (.c (.int .i64 11))) none ::
    MI.op (some 60) (.mov (.tmp 59)) none ::
    MI.op (some 61) (.call 36 []) (some (60, true)) ::
    m14_5))
  .ret)
def m14_7 : MCode :=
 (.cond (.tmp 57)
  m14_6
  .skip)
def m14_8 : MCode :=
 (.cond (.tmp 99)
  (.seq
   (.reg
    [MI.op (some 2) (.mov (.c (.bool false))) none])
   .ret)
  .skip)
def m14_9 : MCode :=
 (.cond (.tmp 115)
  (.seq
   (.reg
    [MI.op (some 2) (.mov (.c (.bool false))) none])
   .ret)
  .skip)
def m14_10 : MCode :=
 (.seq
  (.blk 1
   (.seq
    (.drw
     [MI.op (some 104) (.mov (.tmp 3)) none,
      MI.op (some 105) (.mov (.tmp 7)) none,
      MI.op (some 106) (.ixSl 1 (.tmp 104) (.tmp 105)) none,
      MI.op (some 107) (.load false 1 (.tmp 106)) none,
      MI.op (some 108) (.fa 0 (.tmp 1)) none,
      MI.op (some 109) (.load false 1 (.tmp 108)) none,
      MI.op (some 110) (.mov (.tmp 7)) none,
      MI.op (some 111) (.bin .mul (.c (.int .i64 8)) (.tmp 110)) none,
      MI.op (some 112) (.toInt .u64 (.tmp 111)) none,
      MI.op (some 113) (.bin .shr (.tmp 109) (.tmp 112)) none,
      MI.op (some 114) (.toInt .u8 (.tmp 113)) none]
     [MI.op (some 115) (.bin .neq (.tmp 107) (.tmp 114)) none])
  m14_9))
  (.reg
   [MI.op (some 102) (.mov (.tmp 7)) none,
    MI.op (some 103) (.bin .add (.tmp 102) (.c (.int .i64 1))) none,
    MI.op (some 7) (.mov (.tmp 103)) none]))
def m14_11 : MCode :=
 (.seq
  (.seq
   (.reg
    [MI.op (some 100) (.mov (.tmp 7)) none,
     MI.op (some 101) (.bin .lss (.tmp 100) (.c (.int .i64 4))) none])
   (.cond (.tmp 101)
    .skip
    (.exit 0)))
  m14_10)
def m14_12 : MCode :=
 (.blk 0
  (.loop
  m14_11))
def m14_13 : List MI :=
 [MI.op (some 143) (.pick (.tmp 141) (.tmp 142) (.c (.bool false))) none,
  MI.op (some 2) (.mov (.tmp 143)) none]
def m14_14 : MCode :=
 (.seq
  (.reg
   (MI.op (some 122) (.mov (.tmp 3)) none ::
    MI.op (some 123) (.mov (.tmp 6)) none ::
    MI.op (some 124) (.bin .sub (.tmp 123) (.c (.int .i64 2))) none ::
    MI.op (some 125) (.ixSl 1 (.tmp 122) (.tmp 124)) none ::
    MI.op (some 126) (.load false 1 (.tmp 125)) none ::
    MI.op (some 127) (.mov (.tmp 8)) none ::
    MI.op (some 128) (.toInt .u8 (.tmp 127)) none ::
    MI.op (some 129) (.bin .eql (.tmp 126) (.tmp 128)) none ::
    MI.op (some 130) (.mov (.tmp 129)) none ::
    MI.op (some 131) (.mov (.tmp 3)) (some (130, true)) ::
    MI.op (some 132) (.mov (.tmp 6)) (some (130, true)) ::
    MI.op (some 133) (.bin .sub (.tmp 132) (.c (.int .i64 1))) (some (130, true)) ::
    MI.op (some 134) (.ixSl 1 (.tmp 131) (.tmp 133)) (some (130, true)) ::
    MI.op (some 135) (.load false 1 (.tmp 134)) (some (130, true)) ::
    MI.op (some 136) (.mov (.tmp 8)) (some (130, true)) ::
    MI.op (some 137) (.bin .shr (.tmp 136) (.c (.int .u64 8))) (some (130, true)) ::
    MI.op (some 138) (.toInt .u8 (.tmp 137)) (some (130, true)) ::
    MI.op (some 139) (.bin .eql (.tmp 135) (.tmp 138)) (some (130, true)) ::
    MI.op (some 140) (.pick (.tmp 130) (.tmp 139) (.c (.bool false))) none ::
    MI.op (some 141) (.mov (.tmp 140)) none ::
    MI.op (some 142) (.call 36 []) (some (141, true)) ::
    m14_13))
  .ret)
def m14_15 : MCode :=
 (.seq
  (.reg
   [MI.op (some 116) (.mov (.tmp 3)) none,
    MI.op (some 117) (.mov (.tmp 6)) none,
    MI.op (some 118) (.bin .sub (.tmp 117) (.c (.int .i64 2))) none,
    MI.op (some 119) (.slSl 1 (.tmp 116) none (some (.tmp 118)) none) none,
    MI.op (some 120) (.bsl 1 1 [(.sl .full 0 [])] [(0, 1, (.tmp 119))]) none,
    MI.op (some 121) (.call 47 [(.tmp 120)]) none,
    MI.op (some 8) (.mov (.tmp 121)) none])
  m14_14)
def m14_16 : MCode :=
 (.seq
  (.seq
   (.reg
    [MI.op (some 7) (.mov (.c (.int .i64 0))) none])
  m14_12)
  m14_15)
def m14_17 : MCode :=
 (.seq
  (.seq
   (.drw
    [MI.op (some 65) (.mov (.tmp 6)) none,
     MI.op (some 66) (.fa 2 (.tmp 1)) none,
     MI.op (some 67) (.load false 1 (.tmp 66)) none,
     MI.op (some 68) (.len (.tmp 67)) none,
     MI.op (some 69) (.bin .add (.c (.int .i64 8)) (.tmp 68)) none,
     MI.op (some 70) (.bin .neq (.tmp 65) (.tmp 69)) none,
     MI.op (some 71) (.mov (.tmp 70)) none,
     MI.op (some 72) (.mov (.tmp 3)) (some (71, false)),
     MI.op (some 73) (.ixSl 1 (.tmp 72) (.c (.int .i64 4))) (some (71, false)),
     MI.op (some 74) (.load false 1 (.tmp 73)) (some (71, false)),
     MI.op (some 75) (.toInt .i64 (.tmp 74)) (some (71, false)),
     MI.op (some 76) (.fa 1 (.tmp 1)) (some (71, false)),
     MI.op (some 77) (.load false 1 (.tmp 76)) (some (71, false)),
     MI.op (some 78) (.bin .neq (.tmp 75) (.tmp 77)) (some (71, false)),
     MI.op (some 79) (.pick (.tmp 71) (.c (.bool true)) (.tmp 78)) none,
     MI.op (some 80) (.mov (.tmp 79)) none,
     MI.op (some 81) (.mov (.tmp 3)) (some (80, false)),
     MI.op (some 82) (.ixSl 1 (.tmp 81) (.c (.int .i64 5))) (some (80, false)),
     MI.op (some 83) (.load false 1 (.tmp 82)) (some (80, false)),
     MI.op (some 84) (.toInt .i64 (.tmp 83)) (some (80, false)),
     MI.op (some 85) (.fa 2 (.tmp 1)) (some (80, false)),
     MI.op (some 86) (.load false 1 (.tmp 85)) (some (80, false)),
     MI.op (some 87) (.len (.tmp 86)) (some (80, false)),
     MI.op (some 88) (.bin .neq (.tmp 84) (.tmp 87)) (some (80, false)),
     MI.op (some 89) (.pick (.tmp 80) (.c (.bool true)) (.tmp 88)) none,
     MI.op (some 90) (.mov (.tmp 89)) none,
     MI.op (some 91) (.mov (.tmp 3)) (some (90, false)),
     MI.op (some 92) (.mov (.tmp 6)) (some (90, false)),
     MI.op (some 93) (.bin .sub (.tmp 92) (.c (.int .i64 2))) (some (90, false)),
     MI.op (some 94) (.slSl 1 (.tmp 91) (some (.c (.int .i64 6))) (some (.tmp 93)) none) (some (90, false)),
     MI.op (some 95) (.fa 2 (.tmp 1)) (some (90, false)),
     MI.op (some 96) (.load false 1 (.tmp 95)) (some (90, false))]
    [MI.op (some 97) (.call 40 [(.tmp 94), (.tmp 96)]) (some (90, false)),
     MI.op (some 98) (.un .not (.tmp 97)) (some (90, false)),
     MI.op (some 99) (.pick (.tmp 90) (.c (.bool true)) (.tmp 98)) none])
  m14_8)
  m14_16)
def m14_18 : MCode :=
 (.seq
  (.reg
   [MI.op (some 63) (.mov (.tmp 3)) none,
    MI.op (some 64) (.len (.tmp 63)) none,
    MI.op (some 6) (.mov (.tmp 64)) none])
  m14_17)
def m14_19 : MCode :=
 (.seq
  (.seq
   (.reg
    [MI.op (some 56) (.mov (.tmp 5)) none,
     MI.op (some 57) (.un .not (.tmp 56)) none])
  m14_7)
  m14_18)
def m14_20 : MCode :=
 (.seq
  (.seq
   (.reg
    [MI.op (some 43) (.mov (.tmp 4)) none,
     MI.op (some 44) (.bin .eql (.tmp 43) (.c (.int .i64 0))) none,
     MI.op (some 45) (.mov (.tmp 5)) none,
     MI.op (some 46) (.binB .neq (.tmp 44) (.tmp 45)) none,
     MI.op (some 47) (.mov (.tmp 46)) none,
     MI.op (some 48) (.mov (.tmp 5)) (some (47, false)),
     MI.op (some 49) (.un .not (.tmp 48)) (some (47, false)),
     MI.op (some 50) (.mov (.tmp 49)) (some (47, false)),
     MI.op (some 51) (.mov (.tmp 3)) (some (50, true)),
     MI.op (some 52) (.len (.tmp 51)) (some (50, true)),
     MI.op (some 53) (.bin .neq (.tmp 52) (.c (.int .i64 0))) (some (50, true)),
     MI.op (some 54) (.pick (.tmp 50) (.tmp 53) (.c (.bool false))) (some (47, false)),
     MI.op (some 55) (.pick (.tmp 47) (.c (.bool true)) (.tmp 54)) none])
  m14_4)
  m14_19)
def m14_21 : MCode :=
 (.seq
  (.reg
   [MI.op (some 19) (.fa 0 (.tmp 1)) none,
    MI.op (some 20) (.load false 1 (.tmp 19)) none,
    MI.op (some 21) (.bin .geq (.tmp 20) (.c (.int .i64 0))) none,
    MI.op (some 22) (.mov (.tmp 21)) none,
    MI.op (some 23) (.fa 0 (.tmp 1)) (some (22, true)),
    MI.op (some 24) (.load false 1 (.tmp 23)) (some (22, true)),
    MI.op (some 25) (.bin .lss (.tmp 24) (.c (.int .i64 2147483648))) (some (22, true)),
    MI.op (some 26) (.pick (.tmp 22) (.tmp 25) (.c (.bool false))) none,
    MI.op (some 27) (.mov (.tmp 26)) none,
    MI.op (some 28) (.fa 1 (.tmp 1)) (some (27, true)),
    MI.op (some 29) (.load false 1 (.tmp 28)) (some (27, true)),
    MI.op (some 30) (.bin .geq (.tmp 29) (.c (.int .i64 0))) (some (27, true)),
    MI.op (some 31) (.pick (.tmp 27) (.tmp 30) (.c (.bool false))) none,
    MI.op (some 32) (.mov (.tmp 31)) none,
    MI.op (some 33) (.fa 1 (.tmp 1)) (some (32, true)),
    MI.op (some 34) (.load false 1 (.tmp 33)) (some (32, true)),
    MI.op (some 35) (.bin .leq (.tmp 34) (.c (.int .i64 255))) (some (32, true)),
    MI.op (some 36) (.pick (.tmp 32) (.tmp 35) (.c (.bool false))) none,
    MI.op (some 37) (.mov (.tmp 36)) none,
    MI.op (some 38) (.fa 2 (.tmp 1)) (some (37, true)),
    MI.op (some 39) (.load false 1 (.tmp 38)) (some (37, true)),
    MI.op (some 40) (.len (.tmp 39)) (some (37, true)),
    MI.op (some 41) (.bin .leq (.tmp 40) (.c (.int .i64 255))) (some (37, true)),
    MI.op (some 42) (.pick (.tmp 37) (.tmp 41) (.c (.bool false))) none,
    MI.op (some 5) (.mov (.tmp 42)) none])
  m14_20)
def m14_22 : MCode :=
 (.seq
  (.reg
   (MI.op (some 15) (.load true 3 (.tmp 1)) none ::
    MI.op (some 16) (.callp 38 [(.tmp 15)]) none ::
    m14_3))
  m14_21)
def m14_23 : MCode :=
 (.seq
  (.seq
   (.reg
    [MI.op (some 9) (.load true 3 (.tmp 1)) none,
     MI.op (some 10) (.bsl 1 3 [(.int .i64 0), (.int .i64 0), (.sl .full 0 [])] [(0, 3, (.tmp 9))]) none,
     MI.op (some 11) (.call 35 [(.tmp 10)]) none,
     MI.op (some 12) (.un .not (.tmp 11)) none])
  m14_2)
  m14_22)
def m14_r : List MRes := [.tmp 2]
def m14_b : MCode :=
 (.seq
  (.reg
   [MI.op (some 1) (.box (.tmp 0)) none,
    MI.op (some 2) (.mov (.c (.bool false))) none])
  m14_23)
def m14 : MFunc := ⟨1, 144, m14_r, m14_b⟩
theorem c14 : compF Try.prog 14 m14 = some m14 := by kernel_rfl

/- tollhouse/tollhouselaw17.Fair -/
def m35_1 : MCode :=
 (.cond (.tmp 16)
  (.seq
   (.reg
    [MI.op (some 2) (.mov (.c (.bool false))) none])
   .ret)
  .skip)
def m35_2 : MCode :=
 (.seq
  (.blk 1
   (.seq
    (.reg
     [MI.op (some 10) (.mov (.tmp 0)) none,
      MI.op (some 11) (.mov (.tmp 3)) none,
      MI.op (some 12) (.ixSl 3 (.tmp 10) (.tmp 11)) none,
      MI.op (some 13) (.fa 2 (.tmp 12)) none,
      MI.op (some 14) (.load false 1 (.tmp 13)) none,
      MI.op (some 15) (.len (.tmp 14)) none,
      MI.op (some 16) (.bin .gtr (.tmp 15) (.c (.int .i64 600))) none])
  m35_1))
  (.reg
   [MI.op (some 8) (.mov (.tmp 3)) none,
    MI.op (some 9) (.bin .add (.tmp 8) (.c (.int .i64 1))) none,
    MI.op (some 3) (.mov (.tmp 9)) none]))
def m35_3 : MCode :=
 (.seq
  (.seq
   (.reg
    [MI.op (some 4) (.mov (.tmp 3)) none,
     MI.op (some 5) (.mov (.tmp 0)) none,
     MI.op (some 6) (.len (.tmp 5)) none,
     MI.op (some 7) (.bin .lss (.tmp 4) (.tmp 6)) none])
   (.cond (.tmp 7)
    .skip
    (.exit 0)))
  m35_2)
def m35_4 : MCode :=
 (.blk 0
  (.loop
  m35_3))
def m35_5 : MCode :=
 (.seq
  (.reg
   [MI.op (some 17) (.mov (.tmp 0)) none,
    MI.op (some 18) (.len (.tmp 17)) none,
    MI.op (some 19) (.bin .leq (.tmp 18) (.c (.int .i64 20))) none,
    MI.op (some 2) (.mov (.tmp 19)) none])
  .ret)
def m35_6 : MCode :=
 (.seq
  (.seq
   (.reg
    [MI.op (some 3) (.mov (.c (.int .i64 0))) none])
  m35_4)
  m35_5)
def m35_r : List MRes := [.tmp 2]
def m35_b : MCode :=
 (.seq
  (.reg
   [MI.op (some 2) (.mov (.c (.bool false))) none])
  m35_6)
def m35 : MFunc := ⟨1, 20, m35_r, m35_b⟩
theorem c35 : compF Try.prog 35 m35 = some m35 := by kernel_rfl

/- tollhouse/tollhouselaw17.wakes -/
def m36_1 : List MI :=
 [MI.op (some 13) (.mov (.tmp 15)) none,
  MI.op (some 16) (.ext (.tmp 13) 0) none,
  MI.op (some 17) (.ext (.tmp 13) 1) none,
  MI.op (some 2) (.mov (.tmp 16)) none,
  MI.op (some 3) (.mov (.tmp 17)) none]
def m36_2 : List MI :=
 [MI.op (some 18) (.mov (.tmp 20)) none,
  MI.op (some 21) (.ext (.tmp 18) 0) none,
  MI.op (some 22) (.ext (.tmp 18) 1) none,
  MI.op (some 4) (.alloc [(.int .i64 0), (.int .i64 0), (.sl .full 0 [])]) none,
  MI.op none (.store 3 (.tmp 4) (.tmp 21)) none,
  MI.op (some 5) (.mov (.tmp 22)) none]
def m36_3 : List MI :=
 [MI.op (some 23) (.mov (.tmp 27)) none,
  MI.op (some 28) (.ext (.tmp 23) 0) none,
  MI.op (some 29) (.ext (.tmp 23) 1) none,
  MI.op (some 6) (.mov (.tmp 28)) none,
  MI.op (some 7) (.mov (.tmp 29)) none]
def m36_4 : List MI :=
 [MI.op (some 30) (.mov (.tmp 32)) none,
  MI.op (some 33) (.ext (.tmp 30) 0) none,
  MI.op (some 34) (.ext (.tmp 30) 1) none,
  MI.op (some 8) (.mov (.tmp 33)) none,
  MI.op (some 9) (.mov (.tmp 34)) none]
def m36_5 : MCode :=
 (.seq
  (.reg
   [MI.op (some 35) (.mov (.tmp 3)) none,
    MI.op (some 36) (.bin .eql (.tmp 35) (.c (.int .i64 0))) none,
    MI.op (some 37) (.mov (.tmp 36)) none,
    MI.op (some 38) (.mov (.tmp 2)) (some (37, true)),
    MI.op (some 39) (.len (.tmp 38)) (some (37, true)),
    MI.op (some 40) (.bin .eql (.tmp 39) (.c (.int .i64 10))) (some (37, true)),
    MI.op (some 41) (.pick (.tmp 37) (.tmp 40) (.c (.bool false))) none,
    MI.op (some 42) (.mov (.tmp 41)) none,
    MI.op (some 43) (.mov (.tmp 2)) (some (42, true)),
    MI.op (some 44) (.ixSl 1 (.tmp 43) (.c (.int .i64 0))) (some (42, true)),
    MI.op (some 45) (.load false 1 (.tmp 44)) (some (42, true)),
    MI.op (some 46) (.bin .eql (.tmp 45) (.c (.int .u8 2))) (some (42, true)),
    MI.op (some 47) (.pick (.tmp 42) (.tmp 46) (.c (.bool false))) none,
    MI.op (some 48) (.mov (.tmp 47)) none,
    MI.op (some 49) (.mov (.tmp 2)) (some (48, true)),
    MI.op (some 50) (.ixSl 1 (.tmp 49) (.c (.int .i64 1))) (some (48, true)),
    MI.op (some 51) (.load false 1 (.tmp 50)) (some (48, true)),
    MI.op (some 52) (.bin .eql (.tmp 51) (.c (.int .u8 1))) (some (48, true)),
    MI.op (some 53) (.pick (.tmp 48) (.tmp 52) (.c (.bool false))) none,
    MI.op (some 54) (.mov (.tmp 53)) none,
    MI.op (some 55) (.mov (.tmp 2)) (some (54, true)),
    MI.op (some 56) (.ixSl 1 (.tmp 55) (.c (.int .i64 4))) (some (54, true)),
    MI.op (some 57) (.load false 1 (.tmp 56)) (some (54, true)),
    MI.op (some 58) (.bin .eql (.tmp 57) (.c (.int .u8 7))) (some (54, true)),
    MI.op (some 59) (.pick (.tmp 54) (.tmp 58) (.c (.bool false))) none,
    MI.op (some 60) (.mov (.tmp 59)) none,
    MI.op (some 61) (.mov (.tmp 2)) (some (60, true)),
    MI.op (some 62) (.ixSl 1 (.tmp 61) (.c (.int .i64 5))) (some (60, true)),
    MI.op (some 63) (.load false 1 (.tmp 62)) (some (60, true)),
    MI.op (some 64) (.bin .eql (.tmp 63) (.c (.int .u8 2))) (some (60, true)),
    MI.op (some 65) (.pick (.tmp 60) (.tmp 64) (.c (.bool false))) none,
    MI.op (some 66) (.mov (.tmp 65)) none,
    MI.op (some 67) (.mov (.tmp 2)) (some (66, true)),
    MI.op (some 68) (.ixSl 1 (.tmp 67) (.c (.int .i64 6))) (some (66, true)),
    MI.op (some 69) (.load false 1 (.tmp 68)) (some (66, true)),
    MI.op (some 70) (.bin .eql (.tmp 69) (.c (.int .u8 97))) (some (66, true)),
    MI.op (some 71) (.pick (.tmp 66) (.tmp 70) (.c (.bool false))) none,
    MI.op (some 72) (.mov (.tmp 71)) none,
    MI.op (some 73) (.mov (.tmp 5)) (some (72, true)),
    MI.op (some 74) (.bin .eql (.tmp 73) (.c (.int .i64 0))) (some (72, true)),
    MI.op (some 75) (.pick (.tmp 72) (.tmp 74) (.c (.bool false))) none,
    MI.op (some 76) (.mov (.tmp 75)) none,
    MI.op (some 77) (.fa 0 (.tmp 4)) (some (76, true)),
    MI.op (some 78) (.load false 1 (.tmp 77)) (some (76, true)),
    MI.op (some 79) (.bin .eql (.tmp 78) (.c (.int .i64 258))) (some (76, true)),
    MI.op (some 80) (.pick (.tmp 76) (.tmp 79) (.c (.bool false))) none,
    MI.op (some 81) (.mov (.tmp 80)) none,
    MI.op (some 82) (.fa 1 (.tmp 4)) (some (81, true)),
    MI.op (some 83) (.load false 1 (.tmp 82)) (some (81, true)),
    MI.op (some 84) (.bin .eql (.tmp 83) (.c (.int .i64 7))) (some (81, true)),
    MI.op (some 85) (.pick (.tmp 81) (.tmp 84) (.c (.bool false))) none,
    MI.op (some 86) (.mov (.tmp 85)) none,
    MI.op (some 87) (.mov (.tmp 7)) (some (86, true)),
    MI.op (some 88) (.bin .eql (.tmp 87) (.c (.int .i64 0))) (some (86, true)),
    MI.op (some 89) (.pick (.tmp 86) (.tmp 88) (.c (.bool false))) none,
    MI.op (some 90) (.mov (.tmp 89)) none,
    MI.op (some 91) (.mov (.tmp 6)) (some (90, true)),
    MI.op (some 92) (.len (.tmp 91)) (some (90, true)),
    MI.op (some 93) (.bin .eql (.tmp 92) (.c (.int .i64 18))) (some (90, true)),
    MI.op (some 94) (.pick (.tmp 90) (.tmp 93) (.c (.bool false))) none,
    MI.op (some 95) (.mov (.tmp 94)) none,
    MI.op (some 96) (.mov (.tmp 9)) (some (95, true)),
    MI.op (some 97) (.bin .eql (.tmp 96) (.c (.int .i64 11))) (some (95, true)),
    MI.op (some 98) (.pick (.tmp 95) (.tmp 97) (.c (.bool false))) none,
    MI.op (some 0) (.mov (.tmp 98)) none])
  .ret)
def m36_6 : MCode :=
 (.seq
  (.reg
   (MI.op (some 31) (.build [(.int .i64 0), (.int .i64 0), (.sl .full 0 [])] [(0, 1, (.c (.int .i64 (-1))))]) none ::
    MI.op (some 32) (.callp 38 [(.tmp 31)]) none ::
    m36_4))
  m36_5)
def m36_7 : MCode :=
 (.seq
  (.reg
   (MI.op (some 24) (.load true 3 (.tmp 1)) none ::
    MI.op (some 25) (.build [(.int .i64 0), (.int .i64 0), (.sl .full 0 [])] []) none ::
    MI.op (some 26) (.bsl 2 3 [(.int .i64 0), (.int .i64 0), (.sl .full 0 [])] [(0, 3, (.tmp 24)), (3, 3, (.tmp 25))]) none ::
    MI.op (some 27) (.callp 41 [(.tmp 26)]) none ::
    m36_3))
  m36_6)
def m36_8 : MCode :=
 (.seq
  (.reg
   (MI.op (some 19) (.mov (.tmp 2)) none ::
    MI.op (some 20) (.call 43 [(.tmp 19)]) none ::
    m36_2))
  m36_7)
def m36_9 : MCode :=
 (.seq
  (.reg
   (MI.op (some 14) (.load true 3 (.tmp 1)) none ::
    MI.op (some 15) (.callp 38 [(.tmp 14)]) none ::
    m36_1))
  m36_8)
def m36_10 : MCode :=
 (.seq
  (.reg
   [MI.op (some 10) (.bsl 2 1 [(.int .u8 0)] [(0, 1, (.c (.int .u8 97))), (1, 1, (.c (.int .u8 98)))]) none,
    MI.op (some 11) (.mark (.tmp 10)) none,
    MI.op (some 12) (.build [(.int .i64 0), (.int .i64 0), (.sl .full 0 [])] [(0, 1, (.c (.int .i64 258))), (1, 1, (.c (.int .i64 7))), (2, 1, (.tmp 11))]) none,
    MI.op (some 1) (.alloc [(.int .i64 0), (.int .i64 0), (.sl .full 0 [])]) none,
    MI.op none (.store 3 (.tmp 1) (.tmp 12)) none])
  m36_9)
def m36_r : List MRes := [.tmp 0]
def m36_b : MCode :=
 (.seq
  (.reg
   [MI.op (some 0) (.mov (.c (.bool false))) none])
  m36_10)
def m36 : MFunc := ⟨0, 99, m36_r, m36_b⟩
theorem c36 : compF Try.prog 36 m36 = some m36 := by kernel_rfl

/- tollhouse/tollhouselaw17.own -/
def m37_1 : MCode :=
 (.reg
  [MI.op (some 21) (.mov (.tmp 3)) none,
   MI.op (some 22) (.load true 3 (.tmp 5)) none,
   MI.op (some 23) (.bsl 1 3 [(.int .i64 0), (.int .i64 0), (.sl .full 0 [])] [(0, 3, (.tmp 22))]) none,
   MI.op (some 24) (.app 3 40 (.tmp 21) (.tmp 23)) none,
   MI.op (some 3) (.mov (.tmp 24)) none])
def m37_2 : MCode :=
 (.seq
  (.reg
   [MI.op (some 16) (.bsl 0 1 [(.int .u8 0)] []) none,
    MI.op (some 17) (.fa 2 (.tmp 5)) none,
    MI.op (some 18) (.load false 1 (.tmp 17)) none,
    MI.op (some 19) (.appP 1 1 (.tmp 16) (.tmp 18)) none,
    MI.op (some 20) (.fa 2 (.tmp 5)) none,
    MI.op none (.store 1 (.tmp 20) (.tmp 19)) none])
  m37_1)
def m37_3 : MCode :=
 (.seq
  (.blk 1
   (.seq
    (.reg
     [MI.op (some 12) (.mov (.tmp 0)) none,
      MI.op (some 13) (.mov (.tmp 4)) none,
      MI.op (some 14) (.ixSl 3 (.tmp 12) (.tmp 13)) none,
      MI.op (some 15) (.load true 3 (.tmp 14)) none,
      MI.op (some 5) (.alloc [(.int .i64 0), (.int .i64 0), (.sl .full 0 [])]) none,
      MI.op none (.store 3 (.tmp 5) (.tmp 15)) none])
  m37_2))
  (.reg
   [MI.op (some 10) (.mov (.tmp 4)) none,
    MI.op (some 11) (.bin .add (.tmp 10) (.c (.int .i64 1))) none,
    MI.op (some 4) (.mov (.tmp 11)) none]))
def m37_4 : MCode :=
 (.seq
  (.seq
   (.reg
    [MI.op (some 6) (.mov (.tmp 4)) none,
     MI.op (some 7) (.mov (.tmp 0)) none,
     MI.op (some 8) (.len (.tmp 7)) none,
     MI.op (some 9) (.bin .lss (.tmp 6) (.tmp 8)) none])
   (.cond (.tmp 9)
    .skip
    (.exit 0)))
  m37_3)
def m37_5 : MCode :=
 (.blk 0
  (.loop
  m37_4))
def m37_6 : MCode :=
 (.seq
  (.reg
   [MI.op (some 25) (.mov (.tmp 3)) none,
    MI.op (some 2) (.mov (.tmp 25)) none])
  .ret)
def m37_7 : MCode :=
 (.seq
  (.seq
   (.reg
    [MI.op (some 4) (.mov (.c (.int .i64 0))) none])
  m37_5)
  m37_6)
def m37_8 : MCode :=
 (.seq
  (.reg
   [MI.op (some 3) (.mov (.c (.sl .full 0 []))) none])
  m37_7)
def m37_r : List MRes := [.tmp 2]
def m37_b : MCode :=
 (.seq
  (.reg
   [MI.op (some 2) (.mov (.c (.sl .full 0 []))) none])
  m37_8)
def m37 : MFunc := ⟨1, 26, m37_r, m37_b⟩
theorem c37 : compF Try.prog 37 m37 = some m37 := by kernel_rfl

/- tollhouse/reply.Encode -/
def m38_1 : MCode :=
 (.seq
  (.reg
   [MI.op (some 2) (.mov (.c (.sl .full 0 []))) none,
    MI.op (some 3) (.mov (.c (.int .i64 11))) none])
  .ret)
def m38_2 : MCode :=
 (.cond (.tmp 30)
  m38_1
  .skip)
def m38_3 : MCode :=
 (.seq
  (.reg
   [MI.op (some 60) (.mov (.tmp 5)) none,
    MI.op (some 61) (.mov (.tmp 6)) none,
    MI.op (some 62) (.toInt .u8 (.tmp 61)) none,
    MI.op (some 63) (.mov (.tmp 6)) none,
    MI.op (some 64) (.bin .shr (.tmp 63) (.c (.int .u64 8))) none,
    MI.op (some 65) (.toInt .u8 (.tmp 64)) none,
    MI.op (some 66) (.bsl 2 1 [(.int .u8 0)] [(0, 1, (.tmp 62)), (1, 1, (.tmp 65))]) none,
    MI.op (some 67) (.app 1 1 (.tmp 60) (.tmp 66)) none,
    MI.op (some 2) (.mov (.tmp 67)) none,
    MI.op (some 3) (.mov (.c (.int .i64 0))) none])
  .ret)
def m38_4 : MCode :=
 (.seq
  (.reg
   [MI.op (some 57) (.mov (.tmp 5)) none,
    MI.op (some 58) (.bslR 1 1 [(.sl .full 0 [])] [(0, 1, (.tmp 57))]) none,
    MI.op (some 59) (.call 47 [(.tmp 58)]) none,
    MI.op (some 6) (.mov (.tmp 59)) none])
  m38_3)
def m38_5 : MCode :=
 (.seq
  (.reg
   [MI.op (some 34) (.mov (.tmp 4)) none,
    MI.op (some 35) (.toInt .u8 (.tmp 34)) none,
    MI.op (some 36) (.mov (.tmp 4)) none,
    MI.op (some 37) (.bin .shr (.tmp 36) (.c (.int .u64 8))) none,
    MI.op (some 38) (.toInt .u8 (.tmp 37)) none,
    MI.op (some 39) (.mov (.tmp 4)) none,
    MI.op (some 40) (.bin .shr (.tmp 39) (.c (.int .u64 16))) none,
    MI.op (some 41) (.toInt .u8 (.tmp 40)) none,
    MI.op (some 42) (.mov (.tmp 4)) none,
    MI.op (some 43) (.bin .shr (.tmp 42) (.c (.int .u64 24))) none,
    MI.op (some 44) (.toInt .u8 (.tmp 43)) none,
    MI.op (some 45) (.fa 1 (.tmp 1)) none,
    MI.op (some 46) (.load false 1 (.tmp 45)) none,
    MI.op (some 47) (.toInt .u8 (.tmp 46)) none,
    MI.op (some 48) (.fa 2 (.tmp 1)) none,
    MI.op (some 49) (.load false 1 (.tmp 48)) none,
    MI.op (some 50) (.len (.tmp 49)) none,
    MI.op (some 51) (.toInt .u8 (.tmp 50)) none,
    MI.op (some 52) (.bsl 6 1 [(.int .u8 0)] [(0, 1, (.tmp 35)), (1, 1, (.tmp 38)), (2, 1, (.tmp 41)), (3, 1, (.tmp 44)), (4, 1, (.tmp 47)), (5, 1, (.tmp 51))]) none,
    MI.op (some 53) (.fa 2 (.tmp 1)) none,
    MI.op (some 54) (.load false 1 (.tmp 53)) none,
    MI.op (some 55) (.bsl 2 1 [(.sl .full 0 [])] [(0, 1, (.tmp 52)), (1, 1, (.tmp 54))]) none,
    MI.op (some 56) (.call 53 [(.tmp 55)]) none,
    MI.op (some 5) (.mov (.tmp 56)) none])
  m38_4)
def m38_6 : MCode :=
 (.seq
  (.reg
   [MI.op (some 31) (.fa 0 (.tmp 1)) none,
    MI.op (some 32) (.load false 1 (.tmp 31)) none,
    MI.op (some 33) (.toInt .u32 (.tmp 32)) none,
    MI.op (some 4) (.mov (.tmp 33)) none])
  m38_5)
def m38_7 : MCode :=
 (.seq
  (.seq
   (.reg
    [MI.op (some 7) (.fa 0 (.tmp 1)) none,
     MI.op (some 8) (.load false 1 (.tmp 7)) none,
     MI.op (some 9) (.bin .lss (.tmp 8) (.c (.int .i64 0))) none,
     MI.op (some 10) (.mov (.tmp 9)) none,
     MI.op (some 11) (.fa 0 (.tmp 1)) (some (10, false)),
     MI.op (some 12) (.load false 1 (.tmp 11)) (some (10, false)),
     MI.op (some 13) (.bin .gtr (.tmp 12) (.c (.int .i64 2147483647))) (some (10, false)),
     MI.op (some 14) (.pick (.tmp 10) (.c (.bool true)) (.tmp 13)) none,
     MI.op (some 15) (.mov (.tmp 14)) none,
     MI.op (some 16) (.fa 1 (.tmp 1)) (some (15, false)),
     MI.op (some 17) (.load false 1 (.tmp 16)) (some (15, false)),
     MI.op (some 18) (.bin .lss (.tmp 17) (.c (.int .i64 0))) (some (15, false)),
     MI.op (some 19) (.pick (.tmp 15) (.c (.bool true)) (.tmp 18)) none,
     MI.op (some 20) (.mov (.tmp 19)) none,
     MI.op (some 21) (.fa 1 (.tmp 1)) (some (20, false)),
     MI.op (some 22) (.load false 1 (.tmp 21)) (some (20, false)),
     MI.op (some 23) (.bin .gtr (.tmp 22) (.c (.int .i64 255))) (some (20, false)),
     MI.op (some 24) (.pick (.tmp 20) (.c (.bool true)) (.tmp 23)) none,
     MI.op (some 25) (.mov (.tmp 24)) none,
     MI.op (some 26) (.fa 2 (.tmp 1)) (some (25, false)),
     MI.op (some 27) (.load false 1 (.tmp 26)) (some (25, false)),
     MI.op (some 28) (.len (.tmp 27)) (some (25, false)),
     MI.op (some 29) (.bin .gtr (.tmp 28) (.c (.int .i64 255))) (some (25, false)),
     MI.op (some 30) (.pick (.tmp 25) (.c (.bool true)) (.tmp 29)) none])
  m38_2)
  m38_6)
def m38_r : List MRes := [.tmp 2, .tmp 3]
def m38_b : MCode :=
 (.seq
  (.reg
   [MI.op (some 1) (.box (.tmp 0)) none,
    MI.op (some 2) (.mov (.c (.sl .full 0 []))) none,
    MI.op (some 3) (.mov (.c (.int .i64 0))) none])
  m38_7)
def m38 : MFunc := ⟨1, 68, m38_r, m38_b⟩
theorem c38 : compF Try.prog 38 m38 = some m38 := by kernel_rfl

/- tollhouse/tollhouseref17.Encode -/
def m39_1 : MCode :=
 (.seq
  (.reg
   [MI.op (some 2) (.mov (.c (.sl .full 0 []))) none,
    MI.op (some 3) (.mov (.c (.int .i64 11))) none])
  .ret)
def m39_2 : MCode :=
 (.cond (.tmp 28)
  m39_1
  .skip)
def m39_3 : List MI :=
 [MI.op (some 2) (.mov (.tmp 46)) none,
  MI.op (some 3) (.mov (.c (.int .i64 0))) none]
def m39_4 : MCode :=
 (.seq
  (.reg
   (MI.op (some 42) (.mov (.tmp 4)) none ::
    MI.op (some 43) (.fa 2 (.tmp 1)) none ::
    MI.op (some 44) (.load false 1 (.tmp 43)) none ::
    MI.op (some 45) (.app 1 1 (.tmp 42) (.tmp 44)) none ::
    MI.op (some 46) (.call 55 [(.tmp 45)]) none ::
    m39_3))
  .ret)
def m39_5 : MCode :=
 (.seq
  (.drw
   [MI.op (some 29) (.fa 0 (.tmp 1)) none,
    MI.op (some 30) (.load false 1 (.tmp 29)) none,
    MI.op (some 31) (.toInt .u32 (.tmp 30)) none,
    MI.op (some 32) (.call 54 [(.tmp 31), (.c (.int .i64 4))]) none,
    MI.op (some 33) (.fa 1 (.tmp 1)) none,
    MI.op (some 34) (.load false 1 (.tmp 33)) none,
    MI.op (some 35) (.toInt .u8 (.tmp 34)) none,
    MI.op (some 36) (.fa 2 (.tmp 1)) none,
    MI.op (some 37) (.load false 1 (.tmp 36)) none,
    MI.op (some 38) (.len (.tmp 37)) none,
    MI.op (some 39) (.toInt .u8 (.tmp 38)) none,
    MI.op (some 40) (.bsl 2 1 [(.int .u8 0)] [(0, 1, (.tmp 35)), (1, 1, (.tmp 39))]) none]
   [MI.op (some 41) (.app 1 1 (.tmp 32) (.tmp 40)) none,
    MI.op (some 4) (.mov (.tmp 41)) none])
  m39_4)
def m39_6 : MCode :=
 (.seq
  (.seq
   (.reg
    [MI.op (some 5) (.fa 0 (.tmp 1)) none,
     MI.op (some 6) (.load false 1 (.tmp 5)) none,
     MI.op (some 7) (.bin .lss (.tmp 6) (.c (.int .i64 0))) none,
     MI.op (some 8) (.mov (.tmp 7)) none,
     MI.op (some 9) (.fa 0 (.tmp 1)) (some (8, false)),
     MI.op (some 10) (.load false 1 (.tmp 9)) (some (8, false)),
     MI.op (some 11) (.bin .geq (.tmp 10) (.c (.int .i64 2147483648))) (some (8, false)),
     MI.op (some 12) (.pick (.tmp 8) (.c (.bool true)) (.tmp 11)) none,
     MI.op (some 13) (.mov (.tmp 12)) none,
     MI.op (some 14) (.fa 1 (.tmp 1)) (some (13, false)),
     MI.op (some 15) (.load false 1 (.tmp 14)) (some (13, false)),
     MI.op (some 16) (.bin .lss (.tmp 15) (.c (.int .i64 0))) (some (13, false)),
     MI.op (some 17) (.pick (.tmp 13) (.c (.bool true)) (.tmp 16)) none,
     MI.op (some 18) (.mov (.tmp 17)) none,
     MI.op (some 19) (.fa 1 (.tmp 1)) (some (18, false)),
     MI.op (some 20) (.load false 1 (.tmp 19)) (some (18, false)),
     MI.op (some 21) (.bin .gtr (.tmp 20) (.c (.int .i64 255))) (some (18, false)),
     MI.op (some 22) (.pick (.tmp 18) (.c (.bool true)) (.tmp 21)) none,
     MI.op (some 23) (.mov (.tmp 22)) none,
     MI.op (some 24) (.fa 2 (.tmp 1)) (some (23, false)),
     MI.op (some 25) (.load false 1 (.tmp 24)) (some (23, false)),
     MI.op (some 26) (.len (.tmp 25)) (some (23, false)),
     MI.op (some 27) (.bin .gtr (.tmp 26) (.c (.int .i64 255))) (some (23, false)),
     MI.op (some 28) (.pick (.tmp 23) (.c (.bool true)) (.tmp 27)) none])
  m39_2)
  m39_5)
def m39_r : List MRes := [.tmp 2, .tmp 3]
def m39_b : MCode :=
 (.seq
  (.reg
   [MI.op (some 1) (.box (.tmp 0)) none,
    MI.op (some 2) (.mov (.c (.sl .full 0 []))) none,
    MI.op (some 3) (.mov (.c (.int .i64 0))) none])
  m39_6)
def m39 : MFunc := ⟨1, 47, m39_r, m39_b⟩
theorem c39 : compF Try.prog 39 m39 = some m39 := by kernel_rfl

/- tollhouse/tollhousekeep.Bytes -/
def m40_1 : MCode :=
 (.seq
  (.reg
   [MI.op (some 5) (.mov (.tmp 0)) none,
    MI.op (some 6) (.toStr (.tmp 5)) none,
    MI.op (some 7) (.mov (.tmp 1)) none,
    MI.op (some 8) (.toStr (.tmp 7)) none,
    MI.op (some 9) (.bin .eql (.tmp 6) (.tmp 8)) none,
    MI.op (some 4) (.mov (.tmp 9)) none])
  .ret)
def m40_r : List MRes := [.tmp 4]
def m40_b : MCode :=
 (.seq
  (.reg
   [MI.op (some 4) (.mov (.c (.bool false))) none])
  m40_1)
def m40 : MFunc := ⟨2, 10, m40_r, m40_b⟩
theorem c40 : compF Try.prog 40 m40 = some m40 := by kernel_rfl

/- tollhouse/reply.Join -/
def m41_1 : List MI :=
 [MI.op (some 15) (.mov (.tmp 17)) none,
  MI.op (some 18) (.ext (.tmp 15) 0) none,
  MI.op (some 19) (.ext (.tmp 15) 1) none,
  MI.op (some 7) (.mov (.tmp 18)) none,
  MI.op (some 8) (.mov (.tmp 19)) none]
def m41_2 : MCode :=
 (.seq
  (.reg
   [MI.op (some 22) (.mov (.tmp 8)) none,
    MI.op (some 2) (.mov (.c (.sl .full 0 []))) none,
    MI.op (some 3) (.mov (.tmp 22)) none])
  .ret)
def m41_3 : MCode :=
 (.cond (.tmp 21)
  m41_2
  .skip)
def m41_4 : MCode :=
 (.reg
  [MI.op (some 23) (.mov (.tmp 4)) none,
   MI.op (some 24) (.mov (.tmp 7)) none,
   MI.op (some 25) (.app 1 1 (.tmp 23) (.tmp 24)) none,
   MI.op (some 4) (.mov (.tmp 25)) none])
def m41_5 : MCode :=
 (.seq
  (.seq
   (.reg
    [MI.op (some 20) (.mov (.tmp 8)) none,
     MI.op (some 21) (.bin .neq (.tmp 20) (.c (.int .i64 0))) none])
  m41_3)
  m41_4)
def m41_6 : MCode :=
 (.seq
  (.reg
   (MI.op (some 16) (.load true 3 (.tmp 6)) none ::
    MI.op (some 17) (.callp 38 [(.tmp 16)]) none ::
    m41_1))
  m41_5)
def m41_7 : MCode :=
 (.seq
  (.blk 1
   (.seq
    (.reg
     [MI.op (some 13) (.ixSl 3 (.tmp 9) (.tmp 11)) none,
      MI.op (some 14) (.load true 3 (.tmp 13)) none,
      MI.op (some 6) (.alloc [(.int .i64 0), (.int .i64 0), (.sl .full 0 [])]) none,
      MI.op none (.store 3 (.tmp 6) (.tmp 14)) none])
  m41_6))
  (.reg
   [MI.op (some 26) (.bin .add (.tmp 11) (.c (.int .i64 1))) none,
    MI.op (some 11) (.mov (.tmp 26)) none]))
def m41_8 : MCode :=
 (.seq
  (.cond (.tmp 12)
   .skip
   (.exit 0))
  m41_7)
def m41_9 : MCode :=
 (.seq
  (.reg
   [MI.op (some 12) (.bin .lss (.tmp 11) (.tmp 10)) none])
  m41_8)
def m41_10 : MCode :=
 (.blk 0
  (.loop
  m41_9))
def m41_11 : MCode :=
 (.seq
  (.reg
   [MI.op (some 27) (.mov (.tmp 4)) none,
    MI.op (some 2) (.mov (.tmp 27)) none,
    MI.op (some 3) (.mov (.c (.int .i64 0))) none])
  .ret)
def m41_12 : MCode :=
 (.seq
  (.seq
   (.reg
    [MI.op (some 9) (.mov (.tmp 0)) none,
     MI.op (some 10) (.len (.tmp 9)) none,
     MI.op (some 11) (.mov (.c (.int .i64 0))) none])
  m41_10)
  m41_11)
def m41_13 : MCode :=
 (.seq
  (.reg
   [MI.op (some 4) (.mov (.c (.sl .full 0 []))) none])
  m41_12)
def m41_r : List MRes := [.tmp 2, .tmp 3]
def m41_b : MCode :=
 (.seq
  (.reg
   [MI.op (some 2) (.mov (.c (.sl .full 0 []))) none,
    MI.op (some 3) (.mov (.c (.int .i64 0))) none])
  m41_13)
def m41 : MFunc := ⟨1, 28, m41_r, m41_b⟩
theorem c41 : compF Try.prog 41 m41 = some m41 := by kernel_rfl

/- tollhouse/tollhouseref17.Join -/
def m42_1 : List MI :=
 [MI.op (some 14) (.mov (.tmp 19)) none,
  MI.op (some 20) (.ext (.tmp 14) 0) none,
  MI.op (some 21) (.ext (.tmp 14) 1) none,
  MI.op (some 6) (.mov (.tmp 20)) none,
  MI.op (some 7) (.mov (.tmp 21)) none]
def m42_2 : MCode :=
 (.seq
  (.reg
   [MI.op (some 24) (.mov (.tmp 7)) none,
    MI.op (some 2) (.mov (.c (.sl .full 0 []))) none,
    MI.op (some 3) (.mov (.tmp 24)) none])
  .ret)
def m42_3 : MCode :=
 (.cond (.tmp 23)
  m42_2
  .skip)
def m42_4 : MCode :=
 (.reg
  [MI.op (some 25) (.mov (.tmp 4)) none,
   MI.op (some 26) (.mov (.tmp 6)) none,
   MI.op (some 27) (.app 1 1 (.tmp 25) (.tmp 26)) none,
   MI.op (some 4) (.mov (.tmp 27)) none])
def m42_5 : MCode :=
 (.seq
  (.seq
   (.reg
    [MI.op (some 22) (.mov (.tmp 7)) none,
     MI.op (some 23) (.bin .neq (.tmp 22) (.c (.int .i64 0))) none])
  m42_3)
  m42_4)
def m42_6 : MCode :=
 (.seq
  (.blk 1
   (.seq
    (.reg
     (MI.op (some 15) (.mov (.tmp 0)) none ::
      MI.op (some 16) (.mov (.tmp 5)) none ::
      MI.op (some 17) (.ixSl 3 (.tmp 15) (.tmp 16)) none ::
      MI.op (some 18) (.load true 3 (.tmp 17)) none ::
      MI.op (some 19) (.callp 39 [(.tmp 18)]) none ::
      m42_1))
  m42_5))
  (.reg
   [MI.op (some 12) (.mov (.tmp 5)) none,
    MI.op (some 13) (.bin .add (.tmp 12) (.c (.int .i64 1))) none,
    MI.op (some 5) (.mov (.tmp 13)) none]))
def m42_7 : MCode :=
 (.seq
  (.seq
   (.reg
    [MI.op (some 8) (.mov (.tmp 5)) none,
     MI.op (some 9) (.mov (.tmp 0)) none,
     MI.op (some 10) (.len (.tmp 9)) none,
     MI.op (some 11) (.bin .lss (.tmp 8) (.tmp 10)) none])
   (.cond (.tmp 11)
    .skip
    (.exit 0)))
  m42_6)
def m42_8 : MCode :=
 (.blk 0
  (.loop
  m42_7))
def m42_9 : MCode :=
 (.seq
  (.reg
   [MI.op (some 28) (.mov (.tmp 4)) none,
    MI.op (some 2) (.mov (.tmp 28)) none,
    MI.op (some 3) (.mov (.c (.int .i64 0))) none])
  .ret)
def m42_10 : MCode :=
 (.seq
  (.seq
   (.reg
    [MI.op (some 5) (.mov (.c (.int .i64 0))) none])
  m42_8)
  m42_9)
def m42_11 : MCode :=
 (.seq
  (.reg
   [MI.op (some 4) (.mov (.c (.sl .full 0 []))) none])
  m42_10)
def m42_r : List MRes := [.tmp 2, .tmp 3]
def m42_b : MCode :=
 (.seq
  (.reg
   [MI.op (some 2) (.mov (.c (.sl .full 0 []))) none,
    MI.op (some 3) (.mov (.c (.int .i64 0))) none])
  m42_11)
def m42 : MFunc := ⟨1, 29, m42_r, m42_b⟩
theorem c42 : compF Try.prog 42 m42 = some m42 := by kernel_rfl

/- tollhouse/reply.Decode -/
def m43_1 : MCode :=
 (.seq
  (.reg
   [MI.op (some 10) (.build [(.int .i64 0), (.int .i64 0), (.sl .full 0 [])] []) none,
    MI.op none (.store 3 (.tmp 2) (.tmp 10)) none,
    MI.op (some 3) (.mov (.c (.int .i64 11))) none])
  .ret)
def m43_2 : MCode :=
 (.cond (.tmp 9)
  m43_1
  .skip)
def m43_3 : List MI :=
 [MI.op (some 44) (.mov (.tmp 46)) none,
  MI.op (some 47) (.ext (.tmp 44) 0) none,
  MI.op (some 48) (.ext (.tmp 44) 1) none,
  MI.op (some 5) (.mov (.tmp 47)) none,
  MI.op (some 6) (.mov (.tmp 48)) none]
def m43_4 : List MI :=
 [MI.op (some 55) (.un .not (.tmp 54)) (some (51, false)),
  MI.op (some 56) (.pick (.tmp 51) (.c (.bool true)) (.tmp 55)) none]
def m43_5 : MCode :=
 (.seq
  (.reg
   [MI.op (some 57) (.build [(.int .i64 0), (.int .i64 0), (.sl .full 0 [])] []) none,
    MI.op none (.store 3 (.tmp 2) (.tmp 57)) none,
    MI.op (some 3) (.mov (.c (.int .i64 11))) none])
  .ret)
def m43_6 : MCode :=
 (.cond (.tmp 56)
  m43_5
  .skip)
def m43_7 : MCode :=
 (.seq
  (.reg
   (MI.op (some 49) (.mov (.tmp 6)) none ::
    MI.op (some 50) (.bin .neq (.tmp 49) (.c (.int .i64 0))) none ::
    MI.op (some 51) (.mov (.tmp 50)) none ::
    MI.op (some 52) (.mov (.tmp 5)) (some (51, false)) ::
    MI.op (some 53) (.mov (.tmp 0)) (some (51, false)) ::
    MI.op (some 54) (.call 57 [(.tmp 52), (.tmp 53)]) (some (51, false)) ::
    m43_4))
  m43_6)
def m43_8 : MCode :=
 (.seq
  (.reg
   [MI.op (some 58) (.load true 3 (.tmp 4)) none,
    MI.op none (.store 3 (.tmp 2) (.tmp 58)) none,
    MI.op (some 3) (.mov (.c (.int .i64 0))) none])
  .ret)
def m43_9 : MCode :=
 (.seq
  (.seq
   (.reg
    (MI.op (some 45) (.load true 3 (.tmp 4)) none ::
     MI.op (some 46) (.callp 38 [(.tmp 45)]) none ::
     m43_3))
  m43_7)
  m43_8)
def m43_10 : MCode :=
 (.seq
  (.drw
   [MI.op (some 11) (.mov (.tmp 0)) none,
    MI.op (some 12) (.ixSl 1 (.tmp 11) (.c (.int .i64 0))) none,
    MI.op (some 13) (.load false 1 (.tmp 12)) none,
    MI.op (some 14) (.toInt .i64 (.tmp 13)) none,
    MI.op (some 15) (.mov (.tmp 0)) none,
    MI.op (some 16) (.ixSl 1 (.tmp 15) (.c (.int .i64 1))) none,
    MI.op (some 17) (.load false 1 (.tmp 16)) none,
    MI.op (some 18) (.toInt .i64 (.tmp 17)) none,
    MI.op (some 19) (.bin .shl (.tmp 18) (.c (.int .u64 8))) none,
    MI.op (some 20) (.bin .or (.tmp 14) (.tmp 19)) none,
    MI.op (some 21) (.mov (.tmp 0)) none,
    MI.op (some 22) (.ixSl 1 (.tmp 21) (.c (.int .i64 2))) none,
    MI.op (some 23) (.load false 1 (.tmp 22)) none,
    MI.op (some 24) (.toInt .i64 (.tmp 23)) none,
    MI.op (some 25) (.bin .shl (.tmp 24) (.c (.int .u64 16))) none,
    MI.op (some 26) (.bin .or (.tmp 20) (.tmp 25)) none,
    MI.op (some 27) (.mov (.tmp 0)) none,
    MI.op (some 28) (.ixSl 1 (.tmp 27) (.c (.int .i64 3))) none,
    MI.op (some 29) (.load false 1 (.tmp 28)) none,
    MI.op (some 30) (.toInt .i64 (.tmp 29)) none,
    MI.op (some 31) (.bin .shl (.tmp 30) (.c (.int .u64 24))) none,
    MI.op (some 32) (.bin .or (.tmp 26) (.tmp 31)) none,
    MI.op (some 33) (.mov (.tmp 0)) none,
    MI.op (some 34) (.ixSl 1 (.tmp 33) (.c (.int .i64 4))) none,
    MI.op (some 35) (.load false 1 (.tmp 34)) none,
    MI.op (some 36) (.toInt .i64 (.tmp 35)) none,
    MI.op (some 37) (.mov (.tmp 0)) none,
    MI.op (some 38) (.mov (.tmp 0)) none,
    MI.op (some 39) (.len (.tmp 38)) none,
    MI.op (some 40) (.bin .sub (.tmp 39) (.c (.int .i64 2))) none,
    MI.op (some 41) (.slSl 1 (.tmp 37) (some (.c (.int .i64 6))) (some (.tmp 40)) none) none,
    MI.op (some 42) (.callp 56 [(.tmp 41)]) none,
    MI.op (some 43) (.build [(.int .i64 0), (.int .i64 0), (.sl .full 0 [])] [(0, 1, (.tmp 32)), (1, 1, (.tmp 36)), (2, 1, (.tmp 42))]) none,
    MI.op (some 4) (.alloc [(.int .i64 0), (.int .i64 0), (.sl .full 0 [])]) none]
   [MI.op none (.store 3 (.tmp 4) (.tmp 43)) none])
  m43_9)
def m43_11 : MCode :=
 (.seq
  (.seq
   (.reg
    [MI.op (some 7) (.mov (.tmp 0)) none,
     MI.op (some 8) (.len (.tmp 7)) none,
     MI.op (some 9) (.bin .lss (.tmp 8) (.c (.int .i64 8))) none])
  m43_2)
  m43_10)
def m43_r : List MRes := [.cell 2 true 3, .tmp 3]
def m43_b : MCode :=
 (.seq
  (.reg
   [MI.op (some 2) (.alloc [(.int .i64 0), (.int .i64 0), (.sl .full 0 [])]) none,
    MI.op (some 3) (.mov (.c (.int .i64 0))) none])
  m43_11)
def m43 : MFunc := ⟨1, 59, m43_r, m43_b⟩
theorem c43 : compF Try.prog 43 m43 = some m43 := by kernel_rfl

/- tollhouse/tollhouseref17.Decode -/
def m44_1 : MCode :=
 (.seq
  (.reg
   [MI.op (some 20) (.build [(.int .i64 0), (.int .i64 0), (.sl .full 0 [])] []) none,
    MI.op none (.store 3 (.tmp 2) (.tmp 20)) none,
    MI.op (some 3) (.mov (.c (.int .i64 11))) none])
  .ret)
def m44_2 : MCode :=
 (.cond (.tmp 19)
  m44_1
  .skip)
def m44_3 : List MI :=
 [MI.op (some 37) (.mov (.tmp 39)) none,
  MI.op (some 40) (.ext (.tmp 37) 0) none,
  MI.op (some 41) (.ext (.tmp 37) 1) none,
  MI.op (some 5) (.mov (.tmp 40)) none,
  MI.op (some 6) (.mov (.tmp 41)) none]
def m44_4 : MCode :=
 (.seq
  (.reg
   [MI.op (some 51) (.build [(.int .i64 0), (.int .i64 0), (.sl .full 0 [])] []) none,
    MI.op none (.store 3 (.tmp 2) (.tmp 51)) none,
    MI.op (some 3) (.mov (.c (.int .i64 11))) none])
  .ret)
def m44_5 : MCode :=
 (.cond (.tmp 50)
  m44_4
  .skip)
def m44_6 : MCode :=
 (.seq
  (.reg
   [MI.op (some 52) (.load true 3 (.tmp 4)) none,
    MI.op none (.store 3 (.tmp 2) (.tmp 52)) none,
    MI.op (some 3) (.mov (.c (.int .i64 0))) none])
  .ret)
def m44_7 : MCode :=
 (.seq
  (.seq
   (.reg
    [MI.op (some 42) (.mov (.tmp 6)) none,
     MI.op (some 43) (.bin .neq (.tmp 42) (.c (.int .i64 0))) none,
     MI.op (some 44) (.mov (.tmp 43)) none,
     MI.op (some 45) (.mov (.tmp 5)) (some (44, false)),
     MI.op (some 46) (.toStr (.tmp 45)) (some (44, false)),
     MI.op (some 47) (.mov (.tmp 0)) (some (44, false)),
     MI.op (some 48) (.toStr (.tmp 47)) (some (44, false)),
     MI.op (some 49) (.bin .neq (.tmp 46) (.tmp 48)) (some (44, false)),
     MI.op (some 50) (.pick (.tmp 44) (.c (.bool true)) (.tmp 49)) none])
  m44_5)
  m44_6)
def m44_8 : MCode :=
 (.seq
  (.reg
   (MI.op (some 38) (.load true 3 (.tmp 4)) none ::
    MI.op (some 39) (.callp 39 [(.tmp 38)]) none ::
    m44_3))
  m44_7)
def m44_9 : MCode :=
 (.seq
  (.drw
   [MI.op (some 21) (.mov (.tmp 0)) none,
    MI.op (some 22) (.slSl 1 (.tmp 21) none (some (.c (.int .i64 4))) none) none,
    MI.op (some 23) (.call 58 [(.tmp 22)]) none,
    MI.op (some 24) (.toInt .i64 (.tmp 23)) none,
    MI.op (some 25) (.mov (.tmp 0)) none,
    MI.op (some 26) (.ixSl 1 (.tmp 25) (.c (.int .i64 4))) none,
    MI.op (some 27) (.load false 1 (.tmp 26)) none,
    MI.op (some 28) (.toInt .i64 (.tmp 27)) none,
    MI.op (some 29) (.bsl 0 1 [(.int .u8 0)] []) none,
    MI.op (some 30) (.mov (.tmp 0)) none,
    MI.op (some 31) (.mov (.tmp 0)) none,
    MI.op (some 32) (.len (.tmp 31)) none,
    MI.op (some 33) (.bin .sub (.tmp 32) (.c (.int .i64 2))) none,
    MI.op (some 34) (.slSl 1 (.tmp 30) (some (.c (.int .i64 6))) (some (.tmp 33)) none) none,
    MI.op (some 35) (.appP 1 1 (.tmp 29) (.tmp 34)) none,
    MI.op (some 36) (.build [(.int .i64 0), (.int .i64 0), (.sl .full 0 [])] [(0, 1, (.tmp 24)), (1, 1, (.tmp 28)), (2, 1, (.tmp 35))]) none,
    MI.op (some 4) (.alloc [(.int .i64 0), (.int .i64 0), (.sl .full 0 [])]) none]
   [MI.op none (.store 3 (.tmp 4) (.tmp 36)) none])
  m44_8)
def m44_10 : MCode :=
 (.seq
  (.seq
   (.reg
    [MI.op (some 7) (.mov (.tmp 0)) none,
     MI.op (some 8) (.len (.tmp 7)) none,
     MI.op (some 9) (.bin .lss (.tmp 8) (.c (.int .i64 8))) none,
     MI.op (some 10) (.mov (.tmp 9)) none,
     MI.op (some 11) (.mov (.tmp 0)) (some (10, false)),
     MI.op (some 12) (.len (.tmp 11)) (some (10, false)),
     MI.op (some 13) (.mov (.tmp 0)) (some (10, false)),
     MI.op (some 14) (.ixSl 1 (.tmp 13) (.c (.int .i64 5))) (some (10, false)),
     MI.op (some 15) (.load false 1 (.tmp 14)) (some (10, false)),
     MI.op (some 16) (.toInt .i64 (.tmp 15)) (some (10, false)),
     MI.op (some 17) (.bin .add (.c (.int .i64 8)) (.tmp 16)) (some (10, false)),
     MI.op (some 18) (.bin .neq (.tmp 12) (.tmp 17)) (some (10, false)),
     MI.op (some 19) (.pick (.tmp 10) (.c (.bool true)) (.tmp 18)) none])
  m44_2)
  m44_9)
def m44_r : List MRes := [.cell 2 true 3, .tmp 3]
def m44_b : MCode :=
 (.seq
  (.reg
   [MI.op (some 2) (.alloc [(.int .i64 0), (.int .i64 0), (.sl .full 0 [])]) none,
    MI.op (some 3) (.mov (.c (.int .i64 0))) none])
  m44_10)
def m44 : MFunc := ⟨1, 53, m44_r, m44_b⟩
theorem c44 : compF Try.prog 44 m44 = some m44 := by kernel_rfl

/- tollhouse/tollhousekeep.Replies -/
def m45_1 : MCode :=
 (.cond (.tmp 10)
  (.seq
   (.reg
    [MI.op (some 4) (.mov (.c (.bool false))) none])
   .ret)
  .skip)
def m45_2 : MCode :=
 (.cond (.tmp 54)
  (.seq
   (.reg
    [MI.op (some 4) (.mov (.c (.bool false))) none])
   .ret)
  .skip)
def m45_3 : MCode :=
 (.seq
  (.blk 1
   (.seq
    (.drw
     [MI.op (some 17) (.mov (.tmp 0)) none,
      MI.op (some 18) (.mov (.tmp 5)) none,
      MI.op (some 19) (.ixSl 3 (.tmp 17) (.tmp 18)) none,
      MI.op (some 20) (.fa 0 (.tmp 19)) none,
      MI.op (some 21) (.load false 1 (.tmp 20)) none,
      MI.op (some 22) (.mov (.tmp 1)) none,
      MI.op (some 23) (.mov (.tmp 5)) none,
      MI.op (some 24) (.ixSl 3 (.tmp 22) (.tmp 23)) none,
      MI.op (some 25) (.fa 0 (.tmp 24)) none,
      MI.op (some 26) (.load false 1 (.tmp 25)) none,
      MI.op (some 27) (.bin .neq (.tmp 21) (.tmp 26)) none,
      MI.op (some 28) (.mov (.tmp 27)) none,
      MI.op (some 29) (.mov (.tmp 0)) (some (28, false)),
      MI.op (some 30) (.mov (.tmp 5)) (some (28, false)),
      MI.op (some 31) (.ixSl 3 (.tmp 29) (.tmp 30)) (some (28, false)),
      MI.op (some 32) (.fa 1 (.tmp 31)) (some (28, false)),
      MI.op (some 33) (.load false 1 (.tmp 32)) (some (28, false)),
      MI.op (some 34) (.mov (.tmp 1)) (some (28, false)),
      MI.op (some 35) (.mov (.tmp 5)) (some (28, false)),
      MI.op (some 36) (.ixSl 3 (.tmp 34) (.tmp 35)) (some (28, false)),
      MI.op (some 37) (.fa 1 (.tmp 36)) (some (28, false)),
      MI.op (some 38) (.load false 1 (.tmp 37)) (some (28, false)),
      MI.op (some 39) (.bin .neq (.tmp 33) (.tmp 38)) (some (28, false)),
      MI.op (some 40) (.pick (.tmp 28) (.c (.bool true)) (.tmp 39)) none,
      MI.op (some 41) (.mov (.tmp 40)) none,
      MI.op (some 42) (.mov (.tmp 0)) (some (41, false)),
      MI.op (some 43) (.mov (.tmp 5)) (some (41, false)),
      MI.op (some 44) (.ixSl 3 (.tmp 42) (.tmp 43)) (some (41, false)),
      MI.op (some 45) (.fa 2 (.tmp 44)) (some (41, false)),
      MI.op (some 46) (.load false 1 (.tmp 45)) (some (41, false)),
      MI.op (some 47) (.mov (.tmp 1)) (some (41, false)),
      MI.op (some 48) (.mov (.tmp 5)) (some (41, false)),
      MI.op (some 49) (.ixSl 3 (.tmp 47) (.tmp 48)) (some (41, false)),
      MI.op (some 50) (.fa 2 (.tmp 49)) (some (41, false)),
      MI.op (some 51) (.load false 1 (.tmp 50)) (some (41, false))]
     [MI.op (some 52) (.call 40 [(.tmp 46), (.tmp 51)]) (some (41, false)),
      MI.op (some 53) (.un .not (.tmp 52)) (some (41, false)),
      MI.op (some 54) (.pick (.tmp 41) (.c (.bool true)) (.tmp 53)) none])
  m45_2))
  (.reg
   [MI.op (some 15) (.mov (.tmp 5)) none,
    MI.op (some 16) (.bin .add (.tmp 15) (.c (.int .i64 1))) none,
    MI.op (some 5) (.mov (.tmp 16)) none]))
def m45_4 : MCode :=
 (.seq
  (.seq
   (.reg
    [MI.op (some 11) (.mov (.tmp 5)) none,
     MI.op (some 12) (.mov (.tmp 0)) none,
     MI.op (some 13) (.len (.tmp 12)) none,
     MI.op (some 14) (.bin .lss (.tmp 11) (.tmp 13)) none])
   (.cond (.tmp 14)
    .skip
    (.exit 0)))
  m45_3)
def m45_5 : MCode :=
 (.blk 0
  (.loop
  m45_4))
def m45_6 : MCode :=
 (.seq
  (.seq
   (.reg
    [MI.op (some 5) (.mov (.c (.int .i64 0))) none])
  m45_5)
  (.seq
   (.reg
    [MI.op (some 4) (.mov (.c (.bool true))) none])
   .ret))
def m45_7 : MCode :=
 (.seq
  (.seq
   (.reg
    [MI.op (some 6) (.mov (.tmp 0)) none,
     MI.op (some 7) (.len (.tmp 6)) none,
     MI.op (some 8) (.mov (.tmp 1)) none,
     MI.op (some 9) (.len (.tmp 8)) none,
     MI.op (some 10) (.bin .neq (.tmp 7) (.tmp 9)) none])
  m45_1)
  m45_6)
def m45_r : List MRes := [.tmp 4]
def m45_b : MCode :=
 (.seq
  (.reg
   [MI.op (some 4) (.mov (.c (.bool false))) none])
  m45_7)
def m45 : MFunc := ⟨2, 55, m45_r, m45_b⟩
theorem c45 : compF Try.prog 45 m45 = some m45 := by kernel_rfl

/- tollhouse/tollhousekeep.Mod -/
def m46_1 : MCode :=
 (.cond (.tmp 6)
  (.seq
   (.reg
    [MI.op (some 4) (.mov (.c (.int .i64 0))) none])
   .ret)
  .skip)
def m46_2 : MCode :=
 (.seq
  (.reg
   [MI.op (some 7) (.mov (.tmp 0)) none,
    MI.op (some 8) (.mov (.tmp 1)) none,
    MI.op (some 9) (.bin .rem (.tmp 7) (.tmp 8)) none,
    MI.op (some 10) (.mov (.tmp 1)) none,
    MI.op (some 11) (.bin .add (.tmp 9) (.tmp 10)) none,
    MI.op (some 12) (.mov (.tmp 1)) none,
    MI.op (some 13) (.bin .rem (.tmp 11) (.tmp 12)) none,
    MI.op (some 4) (.mov (.tmp 13)) none])
  .ret)
def m46_3 : MCode :=
 (.seq
  (.seq
   (.reg
    [MI.op (some 5) (.mov (.tmp 1)) none,
     MI.op (some 6) (.bin .lss (.tmp 5) (.c (.int .i64 1))) none])
  m46_1)
  m46_2)
def m46_r : List MRes := [.tmp 4]
def m46_b : MCode :=
 (.seq
  (.reg
   [MI.op (some 4) (.mov (.c (.int .i64 0))) none])
  m46_3)
def m46 : MFunc := ⟨2, 14, m46_r, m46_b⟩
theorem c46 : compF Try.prog 46 m46 = some m46 := by kernel_rfl

/- tollhouse/crc.Check -/
def m47_1 : MCode :=
 (.reg
  [MI.op (some 12) (.mov (.tmp 3)) none,
   MI.op (some 13) (.mov (.tmp 5)) none,
   MI.op (some 14) (.call 59 [(.tmp 12), (.tmp 13)]) none,
   MI.op (some 3) (.mov (.tmp 14)) none])
def m47_2 : MCode :=
 (.seq
  (.blk 1
   (.seq
    (.reg
     [MI.op (some 10) (.ixSl 1 (.tmp 6) (.tmp 8)) none,
      MI.op (some 11) (.load false 1 (.tmp 10)) none,
      MI.op (some 5) (.mov (.tmp 11)) none])
  m47_1))
  (.reg
   [MI.op (some 15) (.bin .add (.tmp 8) (.c (.int .i64 1))) none,
    MI.op (some 8) (.mov (.tmp 15)) none]))
def m47_3 : MCode :=
 (.seq
  (.cond (.tmp 9)
   .skip
   (.exit 0))
  m47_2)
def m47_4 : MCode :=
 (.seq
  (.reg
   [MI.op (some 9) (.bin .lss (.tmp 8) (.tmp 7)) none])
  m47_3)
def m47_5 : MCode :=
 (.blk 0
  (.loop
  m47_4))
def m47_6 : MCode :=
 (.seq
  (.reg
   [MI.op (some 16) (.mov (.tmp 3)) none,
    MI.op (some 17) (.un .xor (.tmp 16)) none,
    MI.op (some 2) (.mov (.tmp 17)) none])
  .ret)
def m47_7 : MCode :=
 (.seq
  (.seq
   (.reg
    [MI.op (some 6) (.mov (.tmp 0)) none,
     MI.op (some 7) (.len (.tmp 6)) none,
     MI.op (some 8) (.mov (.c (.int .i64 0))) none])
  m47_5)
  m47_6)
def m47_8 : MCode :=
 (.seq
  (.reg
   [MI.op (some 3) (.mov (.c (.int .u16 65535))) none])
  m47_7)
def m47_r : List MRes := [.tmp 2]
def m47_b : MCode :=
 (.seq
  (.reg
   [MI.op (some 2) (.mov (.c (.int .u16 0))) none])
  m47_8)
def m47 : MFunc := ⟨1, 18, m47_r, m47_b⟩
theorem c47 : compF Try.prog 47 m47 = some m47 := by kernel_rfl

/- slices.Concat[[]byte,byte] -/
def m53_1 : MCode :=
 (.cond (.tmp 20)
  (.reg
   [MI.op (some 21) (.bad) none,
    MI.op none (.bad) none])
  .skip)
def m53_2 : MCode :=
 (.seq
  (.reg
   [MI.op (some 19) (.mov (.tmp 3)) none,
    MI.op (some 20) (.bin .lss (.tmp 19) (.c (.int .i64 0))) none])
  m53_1)
def m53_3 : MCode :=
 (.seq
  (.reg
   [MI.op (some 15) (.mov (.tmp 3)) none,
    MI.op (some 16) (.mov (.tmp 5)) none,
    MI.op (some 17) (.len (.tmp 16)) none,
    MI.op (some 18) (.bin .add (.tmp 15) (.tmp 17)) none,
    MI.op (some 3) (.mov (.tmp 18)) none])
  m53_2)
def m53_4 : MCode :=
 (.seq
  (.blk 1
   (.seq
    (.reg
     [MI.op (some 13) (.ixSl 1 (.tmp 9) (.tmp 11)) none,
      MI.op (some 14) (.load false 1 (.tmp 13)) none,
      MI.op (some 5) (.mov (.tmp 14)) none])
  m53_3))
  (.reg
   [MI.op (some 22) (.bin .add (.tmp 11) (.c (.int .i64 1))) none,
    MI.op (some 11) (.mov (.tmp 22)) none]))
def m53_5 : MCode :=
 (.seq
  (.cond (.tmp 12)
   .skip
   (.exit 0))
  m53_4)
def m53_6 : MCode :=
 (.seq
  (.reg
   [MI.op (some 12) (.bin .lss (.tmp 11) (.tmp 10)) none])
  m53_5)
def m53_7 : MCode :=
 (.blk 0
  (.loop
  m53_6))
def m53_8 : MCode :=
 (.reg
  [MI.op (some 31) (.mov (.tmp 6)) none,
   MI.op (some 32) (.mov (.tmp 8)) none,
   MI.op (some 33) (.app 1 1 (.tmp 31) (.tmp 32)) none,
   MI.op (some 6) (.mov (.tmp 33)) none])
def m53_9 : MCode :=
 (.seq
  (.blk 3
   (.seq
    (.reg
     [MI.op (some 29) (.ixSl 1 (.tmp 25) (.tmp 27)) none,
      MI.op (some 30) (.load false 1 (.tmp 29)) none,
      MI.op (some 8) (.mov (.tmp 30)) none])
  m53_8))
  (.reg
   [MI.op (some 34) (.bin .add (.tmp 27) (.c (.int .i64 1))) none,
    MI.op (some 27) (.mov (.tmp 34)) none]))
def m53_10 : MCode :=
 (.seq
  (.cond (.tmp 28)
   .skip
   (.exit 2))
  m53_9)
def m53_11 : MCode :=
 (.seq
  (.reg
   [MI.op (some 28) (.bin .lss (.tmp 27) (.tmp 26)) none])
  m53_10)
def m53_12 : MCode :=
 (.blk 2
  (.loop
  m53_11))
def m53_13 : MCode :=
 (.seq
  (.reg
   [MI.op (some 35) (.mov (.tmp 6)) none,
    MI.op (some 2) (.mov (.tmp 35)) none])
  .ret)
def m53_14 : MCode :=
 (.seq
  (.seq
   (.reg
    [MI.op (some 25) (.mov (.tmp 0)) none,
     MI.op (some 26) (.len (.tmp 25)) none,
     MI.op (some 27) (.mov (.c (.int .i64 0))) none])
  m53_12)
  m53_13)
def m53_15 : MCode :=
 (.seq
  (.reg
   [MI.op (some 23) (.mov (.tmp 3)) none,
    MI.op (some 24) (.call 61 [(.c (.sl .full 0 [])), (.tmp 23)]) none,
    MI.op (some 6) (.mov (.tmp 24)) none])
  m53_14)
def m53_16 : MCode :=
 (.seq
  (.seq
   (.reg
    [MI.op (some 9) (.mov (.tmp 0)) none,
     MI.op (some 10) (.len (.tmp 9)) none,
     MI.op (some 11) (.mov (.c (.int .i64 0))) none])
  m53_7)
  m53_15)
def m53_17 : MCode :=
 (.seq
  (.reg
   [MI.op (some 3) (.mov (.c (.int .i64 0))) none])
  m53_16)
def m53_r : List MRes := [.tmp 2]
def m53_b : MCode :=
 (.seq
  (.reg
   [MI.op (some 2) (.mov (.c (.sl .full 0 []))) none])
  m53_17)
def m53 : MFunc := ⟨1, 36, m53_r, m53_b⟩
theorem c53 : compF Try.prog 53 m53 = some m53 := by kernel_rfl

/- tollhouse/tollhouseref06.Put -/
def m54_1 : MCode :=
 (.seq
  (.blk 1
   (.reg
    [MI.op (some 12) (.mov (.tmp 5)) none,
     MI.op (some 13) (.mov (.tmp 0)) none,
     MI.op (some 14) (.mov (.tmp 6)) none,
     MI.op (some 15) (.bin .mul (.c (.int .i64 8)) (.tmp 14)) none,
     MI.op (some 16) (.toInt .u64 (.tmp 15)) none,
     MI.op (some 17) (.bin .shr (.tmp 13) (.tmp 16)) none,
     MI.op (some 18) (.toInt .u8 (.tmp 17)) none,
     MI.op (some 19) (.bsl 1 1 [(.int .u8 0)] [(0, 1, (.tmp 18))]) none,
     MI.op (some 20) (.app 1 1 (.tmp 12) (.tmp 19)) none,
     MI.op (some 5) (.mov (.tmp 20)) none]))
  (.reg
   [MI.op (some 10) (.mov (.tmp 6)) none,
    MI.op (some 11) (.bin .add (.tmp 10) (.c (.int .i64 1))) none,
    MI.op (some 6) (.mov (.tmp 11)) none]))
def m54_2 : MCode :=
 (.seq
  (.seq
   (.reg
    [MI.op (some 7) (.mov (.tmp 6)) none,
     MI.op (some 8) (.mov (.tmp 1)) none,
     MI.op (some 9) (.bin .lss (.tmp 7) (.tmp 8)) none])
   (.cond (.tmp 9)
    .skip
    (.exit 0)))
  m54_1)
def m54_3 : MCode :=
 (.blk 0
  (.loop
  m54_2))
def m54_4 : MCode :=
 (.seq
  (.reg
   [MI.op (some 21) (.mov (.tmp 5)) none,
    MI.op (some 4) (.mov (.tmp 21)) none])
  .ret)
def m54_5 : MCode :=
 (.seq
  (.seq
   (.reg
    [MI.op (some 6) (.mov (.c (.int .i64 0))) none])
  m54_3)
  m54_4)
def m54_6 : MCode :=
 (.seq
  (.reg
   [MI.op (some 5) (.mov (.c (.sl .full 0 []))) none])
  m54_5)
def m54_r : List MRes := [.tmp 4]
def m54_b : MCode :=
 (.seq
  (.reg
   [MI.op (some 4) (.mov (.c (.sl .full 0 []))) none])
  m54_6)
def m54 : MFunc := ⟨2, 22, m54_r, m54_b⟩
theorem c54 : compF Try.prog 54 m54 = some m54 := by kernel_rfl

/- tollhouse/tollhouseref04.Sealed -/
def m55_1 : MCode :=
 (.seq
  (.reg
   [MI.op (some 7) (.bsl 0 1 [(.int .u8 0)] []) none,
    MI.op (some 8) (.mov (.tmp 0)) none,
    MI.op (some 9) (.app 1 1 (.tmp 7) (.tmp 8)) none,
    MI.op (some 10) (.mov (.tmp 3)) none,
    MI.op (some 11) (.toInt .u8 (.tmp 10)) none,
    MI.op (some 12) (.mov (.tmp 3)) none,
    MI.op (some 13) (.bin .shr (.tmp 12) (.c (.int .u64 8))) none,
    MI.op (some 14) (.toInt .u8 (.tmp 13)) none,
    MI.op (some 15) (.bsl 2 1 [(.int .u8 0)] [(0, 1, (.tmp 11)), (1, 1, (.tmp 14))]) none,
    MI.op (some 16) (.app 1 1 (.tmp 9) (.tmp 15)) none,
    MI.op (some 2) (.mov (.tmp 16)) none])
  .ret)
def m55_2 : MCode :=
 (.seq
  (.reg
   [MI.op (some 4) (.mov (.tmp 0)) none,
    MI.op (some 5) (.bsl 1 1 [(.sl .full 0 [])] [(0, 1, (.tmp 4))]) none,
    MI.op (some 6) (.call 62 [(.tmp 5)]) none,
    MI.op (some 3) (.mov (.tmp 6)) none])
  m55_1)
def m55_r : List MRes := [.tmp 2]
def m55_b : MCode :=
 (.seq
  (.reg
   [MI.op (some 2) (.mov (.c (.sl .full 0 []))) none])
  m55_2)
def m55 : MFunc := ⟨1, 17, m55_r, m55_b⟩
theorem c55 : compF Try.prog 55 m55 = some m55 := by kernel_rfl

/- slices.Clone[[]byte,byte] -/
def m56_1 : MCode :=
 (.cond (.tmp 4)
  (.seq
   (.reg
    [MI.op (some 2) (.mov (.c (.sl .full 0 []))) none])
   .ret)
  .skip)
def m56_2 : MCode :=
 (.seq
  (.reg
   [MI.op (some 5) (.bsl 0 1 [(.int .u8 0)] []) none,
    MI.op (some 6) (.mov (.tmp 0)) none,
    MI.op (some 7) (.app 1 1 (.tmp 5) (.tmp 6)) none,
    MI.op (some 2) (.mov (.tmp 7)) none])
  .ret)
def m56_3 : MCode :=
 (.seq
  (.seq
   (.reg
    [MI.op (some 3) (.mov (.tmp 0)) none,
     MI.op (some 4) (.nilS false (.tmp 3)) none])
  m56_1)
  m56_2)
def m56_r : List MRes := [.tmp 2]
def m56_b : MCode :=
 (.seq
  (.reg
   [MI.op (some 2) (.mov (.c (.sl .full 0 []))) none])
  m56_3)
def m56 : MFunc := ⟨1, 8, m56_r, m56_b⟩
theorem c56 : compF Try.prog 56 m56 = some m56 := by kernel_rfl

/- slices.Equal[[]byte,byte] -/
def m57_1 : MCode :=
 (.cond (.tmp 10)
  (.seq
   (.reg
    [MI.op (some 4) (.mov (.c (.bool false))) none])
   .ret)
  .skip)
def m57_2 : MCode :=
 (.cond (.tmp 24)
  (.seq
   (.reg
    [MI.op (some 4) (.mov (.c (.bool false))) none])
   .ret)
  .skip)
def m57_3 : MCode :=
 (.seq
  (.drw
   [MI.op (some 16) (.mov (.tmp 0)) none,
    MI.op (some 17) (.mov (.tmp 5)) none,
    MI.op (some 18) (.ixSl 1 (.tmp 16) (.tmp 17)) none,
    MI.op (some 19) (.load false 1 (.tmp 18)) none,
    MI.op (some 20) (.mov (.tmp 1)) none,
    MI.op (some 21) (.mov (.tmp 5)) none,
    MI.op (some 22) (.ixSl 1 (.tmp 20) (.tmp 21)) none,
    MI.op (some 23) (.load false 1 (.tmp 22)) none]
   [MI.op (some 24) (.bin .neq (.tmp 19) (.tmp 23)) none])
  m57_2)
def m57_4 : MCode :=
 (.seq
  (.blk 1
   (.seq
    (.reg
     [MI.op (some 15) (.mov (.tmp 13)) none,
      MI.op (some 5) (.mov (.tmp 15)) none])
  m57_3))
  (.reg
   [MI.op (some 25) (.bin .add (.tmp 13) (.c (.int .i64 1))) none,
    MI.op (some 13) (.mov (.tmp 25)) none]))
def m57_5 : MCode :=
 (.seq
  (.cond (.tmp 14)
   .skip
   (.exit 0))
  m57_4)
def m57_6 : MCode :=
 (.seq
  (.reg
   [MI.op (some 14) (.bin .lss (.tmp 13) (.tmp 12)) none])
  m57_5)
def m57_7 : MCode :=
 (.blk 0
  (.loop
  m57_6))
def m57_8 : MCode :=
 (.seq
  (.seq
   (.reg
    [MI.op (some 11) (.mov (.tmp 0)) none,
     MI.op (some 12) (.len (.tmp 11)) none,
     MI.op (some 13) (.mov (.c (.int .i64 0))) none])
  m57_7)
  (.seq
   (.reg
    [MI.op (some 4) (.mov (.c (.bool true))) none])
   .ret))
def m57_9 : MCode :=
 (.seq
  (.seq
   (.reg
    [MI.op (some 6) (.mov (.tmp 0)) none,
     MI.op (some 7) (.len (.tmp 6)) none,
     MI.op (some 8) (.mov (.tmp 1)) none,
     MI.op (some 9) (.len (.tmp 8)) none,
     MI.op (some 10) (.bin .neq (.tmp 7) (.tmp 9)) none])
  m57_1)
  m57_8)
def m57_r : List MRes := [.tmp 4]
def m57_b : MCode :=
 (.seq
  (.reg
   [MI.op (some 4) (.mov (.c (.bool false))) none])
  m57_9)
def m57 : MFunc := ⟨2, 26, m57_r, m57_b⟩
theorem c57 : compF Try.prog 57 m57 = some m57 := by kernel_rfl

/- tollhouse/tollhouseref06.Num -/
def m58_1 : MCode :=
 (.seq
  (.blk 1
   (.reg
    [MI.op (some 12) (.mov (.tmp 3)) none,
     MI.op (some 13) (.bin .shl (.tmp 12) (.c (.int .u64 8))) none,
     MI.op (some 14) (.mov (.tmp 0)) none,
     MI.op (some 15) (.mov (.tmp 4)) none,
     MI.op (some 16) (.ixSl 1 (.tmp 14) (.tmp 15)) none,
     MI.op (some 17) (.load false 1 (.tmp 16)) none,
     MI.op (some 18) (.toInt .u32 (.tmp 17)) none,
     MI.op (some 19) (.bin .add (.tmp 13) (.tmp 18)) none,
     MI.op (some 3) (.mov (.tmp 19)) none]))
  (.reg
   [MI.op (some 10) (.mov (.tmp 4)) none,
    MI.op (some 11) (.bin .sub (.tmp 10) (.c (.int .i64 1))) none,
    MI.op (some 4) (.mov (.tmp 11)) none]))
def m58_2 : MCode :=
 (.seq
  (.seq
   (.reg
    [MI.op (some 8) (.mov (.tmp 4)) none,
     MI.op (some 9) (.bin .geq (.tmp 8) (.c (.int .i64 0))) none])
   (.cond (.tmp 9)
    .skip
    (.exit 0)))
  m58_1)
def m58_3 : MCode :=
 (.blk 0
  (.loop
  m58_2))
def m58_4 : MCode :=
 (.seq
  (.reg
   [MI.op (some 20) (.mov (.tmp 3)) none,
    MI.op (some 2) (.mov (.tmp 20)) none])
  .ret)
def m58_5 : MCode :=
 (.seq
  (.seq
   (.reg
    [MI.op (some 5) (.mov (.tmp 0)) none,
     MI.op (some 6) (.len (.tmp 5)) none,
     MI.op (some 7) (.bin .sub (.tmp 6) (.c (.int .i64 1))) none,
     MI.op (some 4) (.mov (.tmp 7)) none])
  m58_3)
  m58_4)
def m58_6 : MCode :=
 (.seq
  (.reg
   [MI.op (some 3) (.mov (.c (.int .u32 0))) none])
  m58_5)
def m58_r : List MRes := [.tmp 2]
def m58_b : MCode :=
 (.seq
  (.reg
   [MI.op (some 2) (.mov (.c (.int .u32 0))) none])
  m58_6)
def m58 : MFunc := ⟨1, 21, m58_r, m58_b⟩
theorem c58 : compF Try.prog 58 m58 = some m58 := by kernel_rfl

/- tollhouse/crc.More -/
def m59_1 : MCode :=
 (.reg
  [MI.op (some 22) (.mov (.tmp 0)) none,
   MI.op (some 23) (.bin .shr (.tmp 22) (.c (.int .u64 1))) none,
   MI.op (some 24) (.mov (.tmp 7)) none,
   MI.op (some 25) (.bin .mul (.c (.int .u16 33800)) (.tmp 24)) none,
   MI.op (some 26) (.bin .xor (.tmp 23) (.tmp 25)) none,
   MI.op (some 0) (.mov (.tmp 26)) none])
def m59_2 : MCode :=
 (.seq
  (.blk 3
   (.seq
    (.reg
     [MI.op (some 20) (.mov (.tmp 0)) none,
      MI.op (some 21) (.bin .and (.tmp 20) (.c (.int .u16 1))) none,
      MI.op (some 7) (.mov (.tmp 21)) none])
  m59_1))
  (.reg
   [MI.op (some 27) (.bin .add (.tmp 18) (.c (.int .i64 1))) none,
    MI.op (some 18) (.mov (.tmp 27)) none]))
def m59_3 : MCode :=
 (.seq
  (.cond (.tmp 19)
   .skip
   (.exit 2))
  m59_2)
def m59_4 : MCode :=
 (.seq
  (.reg
   [MI.op (some 19) (.bin .lss (.tmp 18) (.c (.int .i64 8))) none])
  m59_3)
def m59_5 : MCode :=
 (.blk 2
  (.loop
  m59_4))
def m59_6 : MCode :=
 (.seq
  (.reg
   [MI.op (some 18) (.mov (.c (.int .i64 0))) none])
  m59_5)
def m59_7 : MCode :=
 (.seq
  (.reg
   [MI.op (some 14) (.mov (.tmp 0)) none,
    MI.op (some 15) (.mov (.tmp 6)) none,
    MI.op (some 16) (.toInt .u16 (.tmp 15)) none,
    MI.op (some 17) (.bin .xor (.tmp 14) (.tmp 16)) none,
    MI.op (some 0) (.mov (.tmp 17)) none])
  m59_6)
def m59_8 : MCode :=
 (.seq
  (.blk 1
   (.seq
    (.reg
     [MI.op (some 12) (.ixSl 1 (.tmp 8) (.tmp 10)) none,
      MI.op (some 13) (.load false 1 (.tmp 12)) none,
      MI.op (some 6) (.mov (.tmp 13)) none])
  m59_7))
  (.reg
   [MI.op (some 28) (.bin .add (.tmp 10) (.c (.int .i64 1))) none,
    MI.op (some 10) (.mov (.tmp 28)) none]))
def m59_9 : MCode :=
 (.seq
  (.cond (.tmp 11)
   .skip
   (.exit 0))
  m59_8)
def m59_10 : MCode :=
 (.seq
  (.reg
   [MI.op (some 11) (.bin .lss (.tmp 10) (.tmp 9)) none])
  m59_9)
def m59_11 : MCode :=
 (.blk 0
  (.loop
  m59_10))
def m59_12 : MCode :=
 (.seq
  (.reg
   [MI.op (some 29) (.mov (.tmp 0)) none,
    MI.op (some 4) (.mov (.tmp 29)) none])
  .ret)
def m59_13 : MCode :=
 (.seq
  (.seq
   (.reg
    [MI.op (some 8) (.mov (.tmp 1)) none,
     MI.op (some 9) (.len (.tmp 8)) none,
     MI.op (some 10) (.mov (.c (.int .i64 0))) none])
  m59_11)
  m59_12)
def m59_r : List MRes := [.tmp 4]
def m59_b : MCode :=
 (.seq
  (.reg
   [MI.op (some 4) (.mov (.c (.int .u16 0))) none])
  m59_13)
def m59 : MFunc := ⟨2, 30, m59_r, m59_b⟩
theorem c59 : compF Try.prog 59 m59 = some m59 := by kernel_rfl

/- slices.Grow[[]byte,byte] -/
def m61_1 : MCode :=
 (.cond (.tmp 6)
  (.reg
   [MI.op (some 7) (.bad) none,
    MI.op none (.bad) none])
  .skip)
def m61_2 : MCode :=
 (.reg
  [MI.op (some 17) (.mov (.tmp 0)) none,
   MI.op (some 18) (.mov (.tmp 0)) none,
   MI.op (some 19) (.cap (.tmp 18)) none,
   MI.op (some 20) (.slSl 1 (.tmp 17) none (some (.tmp 19)) none) none,
   MI.op (some 21) (.mov (.tmp 1)) none,
   MI.op (some 22) (.appZ 1 1 [(.int .u8 0)] (.tmp 20) (.tmp 21)) none,
   MI.op (some 23) (.mov (.tmp 0)) none,
   MI.op (some 24) (.len (.tmp 23)) none,
   MI.op (some 25) (.slSl 1 (.tmp 22) none (some (.tmp 24)) none) none,
   MI.op (some 0) (.mov (.tmp 25)) none])
def m61_3 : MCode :=
 (.cond (.tmp 16)
  m61_2
  .skip)
def m61_4 : MCode :=
 (.seq
  (.reg
   [MI.op (some 15) (.mov (.tmp 1)) none,
    MI.op (some 16) (.bin .gtr (.tmp 15) (.c (.int .i64 0))) none])
  m61_3)
def m61_5 : MCode :=
 (.seq
  (.reg
   [MI.op (some 26) (.mov (.tmp 0)) none,
    MI.op (some 4) (.mov (.tmp 26)) none])
  .ret)
def m61_6 : MCode :=
 (.seq
  (.seq
   (.reg
    [MI.op (some 8) (.mov (.tmp 1)) none,
     MI.op (some 9) (.mov (.tmp 0)) none,
     MI.op (some 10) (.cap (.tmp 9)) none,
     MI.op (some 11) (.mov (.tmp 0)) none,
     MI.op (some 12) (.len (.tmp 11)) none,
     MI.op (some 13) (.bin .sub (.tmp 10) (.tmp 12)) none,
     MI.op (some 14) (.bin .sub (.tmp 8) (.tmp 13)) none,
     MI.op (some 1) (.mov (.tmp 14)) none])
  m61_4)
  m61_5)
def m61_7 : MCode :=
 (.seq
  (.seq
   (.reg
    [MI.op (some 5) (.mov (.tmp 1)) none,
     MI.op (some 6) (.bin .lss (.tmp 5) (.c (.int .i64 0))) none])
  m61_1)
  m61_6)
def m61_r : List MRes := [.tmp 4]
def m61_b : MCode :=
 (.seq
  (.reg
   [MI.op (some 4) (.mov (.c (.sl .full 0 []))) none])
  m61_7)
def m61 : MFunc := ⟨2, 27, m61_r, m61_b⟩
theorem c61 : compF Try.prog 61 m61 = some m61 := by kernel_rfl

/- tollhouse/tollhouseref04.Check -/
def m62_1 : MCode :=
 (.seq
  (.blk 1
   (.reg
    [MI.op (some 11) (.mov (.tmp 3)) none,
     MI.op (some 12) (.mov (.tmp 0)) none,
     MI.op (some 13) (.mov (.tmp 4)) none,
     MI.op (some 14) (.ixSl 1 (.tmp 12) (.tmp 13)) none,
     MI.op (some 15) (.load false 1 (.tmp 14)) none,
     MI.op (some 16) (.call 63 [(.tmp 11), (.tmp 15)]) none,
     MI.op (some 3) (.mov (.tmp 16)) none]))
  (.reg
   [MI.op (some 9) (.mov (.tmp 4)) none,
    MI.op (some 10) (.bin .add (.tmp 9) (.c (.int .i64 1))) none,
    MI.op (some 4) (.mov (.tmp 10)) none]))
def m62_2 : MCode :=
 (.seq
  (.seq
   (.reg
    [MI.op (some 5) (.mov (.tmp 4)) none,
     MI.op (some 6) (.mov (.tmp 0)) none,
     MI.op (some 7) (.len (.tmp 6)) none,
     MI.op (some 8) (.bin .lss (.tmp 5) (.tmp 7)) none])
   (.cond (.tmp 8)
    .skip
    (.exit 0)))
  m62_1)
def m62_3 : MCode :=
 (.blk 0
  (.loop
  m62_2))
def m62_4 : MCode :=
 (.seq
  (.reg
   [MI.op (some 17) (.mov (.tmp 3)) none,
    MI.op (some 18) (.un .xor (.tmp 17)) none,
    MI.op (some 2) (.mov (.tmp 18)) none])
  .ret)
def m62_5 : MCode :=
 (.seq
  (.seq
   (.reg
    [MI.op (some 4) (.mov (.c (.int .i64 0))) none])
  m62_3)
  m62_4)
def m62_6 : MCode :=
 (.seq
  (.reg
   [MI.op (some 3) (.mov (.c (.int .u16 65535))) none])
  m62_5)
def m62_r : List MRes := [.tmp 2]
def m62_b : MCode :=
 (.seq
  (.reg
   [MI.op (some 2) (.mov (.c (.int .u16 0))) none])
  m62_6)
def m62 : MFunc := ⟨1, 19, m62_r, m62_b⟩
theorem c62 : compF Try.prog 62 m62 = some m62 := by kernel_rfl

/- tollhouse/tollhouseref04.More -/
def m63_1 : MCode :=
 (.cond (.tmp 30)
  (.reg
   [MI.op (some 31) (.mov (.tmp 0)) none,
    MI.op (some 32) (.bin .xor (.tmp 31) (.c (.int .u16 33800))) none,
    MI.op (some 0) (.mov (.tmp 32)) none])
  .skip)
def m63_2 : MCode :=
 (.seq
  (.reg
   [MI.op (some 29) (.mov (.tmp 7)) none,
    MI.op (some 30) (.bin .eql (.tmp 29) (.c (.int .u16 1))) none])
  m63_1)
def m63_3 : MCode :=
 (.seq
  (.reg
   [MI.op (some 27) (.mov (.tmp 0)) none,
    MI.op (some 28) (.bin .shr (.tmp 27) (.c (.int .u64 1))) none,
    MI.op (some 0) (.mov (.tmp 28)) none])
  m63_2)
def m63_4 : MCode :=
 (.seq
  (.blk 3
   (.seq
    (.reg
     [MI.op (some 25) (.mov (.tmp 0)) none,
      MI.op (some 26) (.bin .and (.tmp 25) (.c (.int .u16 1))) none,
      MI.op (some 7) (.mov (.tmp 26)) none])
  m63_3))
  (.reg
   [MI.op (some 23) (.mov (.tmp 6)) none,
    MI.op (some 24) (.bin .add (.tmp 23) (.c (.int .i64 1))) none,
    MI.op (some 6) (.mov (.tmp 24)) none]))
def m63_5 : MCode :=
 (.seq
  (.seq
   (.reg
    [MI.op (some 21) (.mov (.tmp 6)) none,
     MI.op (some 22) (.bin .lss (.tmp 21) (.c (.int .i64 8))) none])
   (.cond (.tmp 22)
    .skip
    (.exit 2)))
  m63_4)
def m63_6 : MCode :=
 (.blk 2
  (.loop
  m63_5))
def m63_7 : MCode :=
 (.seq
  (.reg
   [MI.op (some 6) (.mov (.c (.int .i64 0))) none])
  m63_6)
def m63_8 : MCode :=
 (.seq
  (.blk 1
   (.seq
    (.reg
     [MI.op (some 14) (.mov (.tmp 0)) none,
      MI.op (some 15) (.mov (.tmp 1)) none,
      MI.op (some 16) (.mov (.tmp 5)) none,
      MI.op (some 17) (.ixSl 1 (.tmp 15) (.tmp 16)) none,
      MI.op (some 18) (.load false 1 (.tmp 17)) none,
      MI.op (some 19) (.toInt .u16 (.tmp 18)) none,
      MI.op (some 20) (.bin .xor (.tmp 14) (.tmp 19)) none,
      MI.op (some 0) (.mov (.tmp 20)) none])
  m63_7))
  (.reg
   [MI.op (some 12) (.mov (.tmp 5)) none,
    MI.op (some 13) (.bin .add (.tmp 12) (.c (.int .i64 1))) none,
    MI.op (some 5) (.mov (.tmp 13)) none]))
def m63_9 : MCode :=
 (.seq
  (.seq
   (.reg
    [MI.op (some 8) (.mov (.tmp 5)) none,
     MI.op (some 9) (.mov (.tmp 1)) none,
     MI.op (some 10) (.len (.tmp 9)) none,
     MI.op (some 11) (.bin .lss (.tmp 8) (.tmp 10)) none])
   (.cond (.tmp 11)
    .skip
    (.exit 0)))
  m63_8)
def m63_10 : MCode :=
 (.blk 0
  (.loop
  m63_9))
def m63_11 : MCode :=
 (.seq
  (.reg
   [MI.op (some 33) (.mov (.tmp 0)) none,
    MI.op (some 4) (.mov (.tmp 33)) none])
  .ret)
def m63_12 : MCode :=
 (.seq
  (.seq
   (.reg
    [MI.op (some 5) (.mov (.c (.int .i64 0))) none])
  m63_10)
  m63_11)
def m63_r : List MRes := [.tmp 4]
def m63_b : MCode :=
 (.seq
  (.reg
   [MI.op (some 4) (.mov (.c (.int .u16 0))) none])
  m63_12)
def m63 : MFunc := ⟨2, 34, m63_r, m63_b⟩
theorem c63 : compF Try.prog 63 m63 = some m63 := by kernel_rfl

end Go.Proofs.Ytfohfnhimgmnlaa
