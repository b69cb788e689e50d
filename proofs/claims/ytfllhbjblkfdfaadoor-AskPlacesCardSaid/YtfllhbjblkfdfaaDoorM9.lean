/- The loaded functions as texts of the ideal machine (written by a program of ours), and that they are the loaded ones. -/
import Derived.Test.YtfllhbjblkfdfaaDoorE31
import Derived.Test.YtfllhbjblkfdfaaDoorProg
set_option linter.unusedVariables false
namespace Go.Proofs.YtfllhbjblkfdfaaDoor
open Go.RowKit

/- tollhouse/tollhouselaw16.AskCodes -/
def m3_1 : List MI :=
 [MI.op (some 15) (.un .not (.tmp 14)) none,
  MI.op (some 16) (.mov (.tmp 15)) none,
  MI.op (some 17) (.mov (.tmp 1)) (some (16, false)),
  MI.op (some 18) (.len (.tmp 17)) (some (16, false)),
  MI.op (some 19) (.bin .gtr (.tmp 18) (.c (.int .i64 500))) (some (16, false)),
  MI.op (some 20) (.pick (.tmp 16) (.c (.bool true)) (.tmp 19)) none]
def m3_2 : MCode :=
 (.seq
  (.reg
   [MI.op (some 21) (.call 7 []) none,
    MI.op (some 4) (.mov (.tmp 21)) none])
  .ret)
def m3_3 : MCode :=
 (.cond (.tmp 20)
  m3_2
  .skip)
def m3_4 : List MI :=
 [MI.op (some 22) (.mov (.tmp 24)) none,
  MI.op (some 25) (.ext (.tmp 22) 0) none,
  MI.op (some 26) (.ext (.tmp 22) 1) none,
  MI.op (some 5) (.mov (.tmp 25)) none,
  MI.op (some 6) (.mov (.tmp 26)) none]
def m3_5 : List MI :=
 [MI.op (some 27) (.mov (.tmp 29)) none,
  MI.op (some 30) (.ext (.tmp 27) 0) none,
  MI.op (some 31) (.ext (.tmp 27) 1) none,
  MI.op (some 7) (.mov (.tmp 30)) none,
  MI.op (some 8) (.mov (.tmp 31)) none]
def m3_6 : List MI :=
 [MI.op (some 32) (.mov (.tmp 36)) none,
  MI.op (some 37) (.ext (.tmp 32) 0) none,
  MI.op (some 38) (.ext (.tmp 32) 1) none,
  MI.op (some 9) (.alloc [(.int .i64 0), (.int .i64 0), (.str []), (.int .i64 0), (.int .u32 0), (.int .u32 0), (.int .u8 0), (.int .u8 0), (.int .u8 0), (.int .u8 0), (.int .u8 0), (.int .u8 0), (.int .u8 0), (.int .u8 0), (.int .u8 0), (.int .u8 0), (.int .u8 0), (.int .u8 0), (.int .u8 0), (.int .u8 0), (.int .u8 0), (.int .u8 0), (.int .u8 0), (.int .u8 0), (.int .u8 0), (.int .u8 0), (.int .u8 0), (.int .u8 0), (.int .u8 0), (.int .u8 0), (.int .u8 0), (.int .u8 0), (.int .u8 0), (.int .u8 0), (.int .u8 0), (.int .u8 0), (.int .u8 0), (.int .u8 0), (.str []), (.int .i64 0), (.int .u8 0), (.int .u8 0), (.int .u8 0), (.int .u8 0), (.int .u8 0), (.int .u8 0), (.int .u8 0), (.int .u8 0), (.int .u8 0), (.int .u8 0), (.int .u8 0), (.int .u8 0), (.int .u8 0), (.int .u8 0), (.int .u8 0), (.int .u8 0), (.int .u8 0), (.int .u8 0), (.int .u8 0), (.int .u8 0), (.int .u8 0), (.int .u8 0), (.int .u8 0), (.int .u8 0), (.int .u8 0), (.int .u8 0), (.int .u8 0), (.int .u8 0), (.int .u8 0), (.int .u8 0), (.int .u8 0), (.int .u8 0)]) none,
  MI.op none (.store 72 (.tmp 9) (.tmp 37)) none,
  MI.op (some 10) (.mov (.tmp 38)) none]
def m3_7 : List MI :=
 [MI.op (some 39) (.mov (.tmp 41)) none,
  MI.op (some 42) (.ext (.tmp 39) 0) none,
  MI.op (some 43) (.ext (.tmp 39) 1) none,
  MI.op (some 11) (.alloc [(.int .i64 0), (.int .i64 0), (.str []), (.int .i64 0), (.int .u32 0), (.int .u32 0), (.int .u8 0), (.int .u8 0), (.int .u8 0), (.int .u8 0), (.int .u8 0), (.int .u8 0), (.int .u8 0), (.int .u8 0), (.int .u8 0), (.int .u8 0), (.int .u8 0), (.int .u8 0), (.int .u8 0), (.int .u8 0), (.int .u8 0), (.int .u8 0), (.int .u8 0), (.int .u8 0), (.int .u8 0), (.int .u8 0), (.int .u8 0), (.int .u8 0), (.int .u8 0), (.int .u8 0), (.int .u8 0), (.int .u8 0), (.int .u8 0), (.int .u8 0), (.int .u8 0), (.int .u8 0), (.int .u8 0), (.int .u8 0), (.str []), (.int .i64 0), (.int .u8 0), (.int .u8 0), (.int .u8 0), (.int .u8 0), (.int .u8 0), (.int .u8 0), (.int .u8 0), (.int .u8 0), (.int .u8 0), (.int .u8 0), (.int .u8 0), (.int .u8 0), (.int .u8 0), (.int .u8 0), (.int .u8 0), (.int .u8 0), (.int .u8 0), (.int .u8 0), (.int .u8 0), (.int .u8 0), (.int .u8 0), (.int .u8 0), (.int .u8 0), (.int .u8 0), (.int .u8 0), (.int .u8 0), (.int .u8 0), (.int .u8 0), (.int .u8 0), (.int .u8 0), (.int .u8 0), (.int .u8 0)]) none,
  MI.op none (.store 72 (.tmp 11) (.tmp 42)) none,
  MI.op (some 12) (.mov (.tmp 43)) none]
def m3_8 : List MI :=
 [MI.op (some 64) (.pick (.tmp 62) (.tmp 63) (.c (.bool false))) none,
  MI.op (some 4) (.mov (.tmp 64)) none]
def m3_9 : List MI :=
 (MI.op (some 47) (.mov (.tmp 46)) none ::
  MI.op (some 48) (.mov (.tmp 6)) (some (47, true)) ::
  MI.op (some 49) (.mov (.tmp 8)) (some (47, true)) ::
  MI.op (some 50) (.bin .eql (.tmp 48) (.tmp 49)) (some (47, true)) ::
  MI.op (some 51) (.pick (.tmp 47) (.tmp 50) (.c (.bool false))) none ::
  MI.op (some 52) (.mov (.tmp 51)) none ::
  MI.op (some 53) (.load true 72 (.tmp 9)) (some (52, true)) ::
  MI.op (some 54) (.load true 72 (.tmp 11)) (some (52, true)) ::
  MI.op (some 55) (.eqv false [(2, .i), (1, .s), (35, .i), (1, .s), (33, .i)] (.tmp 53) (.tmp 54)) (some (52, true)) ::
  MI.op (some 56) (.pick (.tmp 52) (.tmp 55) (.c (.bool false))) none ::
  MI.op (some 57) (.mov (.tmp 56)) none ::
  MI.op (some 58) (.mov (.tmp 10)) (some (57, true)) ::
  MI.op (some 59) (.mov (.tmp 12)) (some (57, true)) ::
  MI.op (some 60) (.bin .eql (.tmp 58) (.tmp 59)) (some (57, true)) ::
  MI.op (some 61) (.pick (.tmp 57) (.tmp 60) (.c (.bool false))) none ::
  MI.op (some 62) (.mov (.tmp 61)) none ::
  MI.op (some 63) (.call 7 []) (some (62, true)) ::
  m3_8)
def m3_10 : MCode :=
 (.seq
  (.reg
   (MI.op (some 44) (.mov (.tmp 5)) none ::
    MI.op (some 45) (.mov (.tmp 7)) none ::
    MI.op (some 46) (.call 12 [(.tmp 44), (.tmp 45)]) none ::
    m3_9))
  .ret)
def m3_11 : MCode :=
 (.seq
  (.reg
   (MI.op (some 40) (.mov (.tmp 1)) none ::
    MI.op (some 41) (.call 11 [(.tmp 40)]) none ::
    m3_7))
  m3_10)
def m3_12 : MCode :=
 (.seq
  (.reg
   (MI.op (some 33) (.bsl 0 1 [(.int .u8 0)] []) none ::
    MI.op (some 34) (.mov (.tmp 1)) none ::
    MI.op (some 35) (.app 1 1 (.tmp 33) (.tmp 34)) none ::
    MI.op (some 36) (.call 10 [(.tmp 35)]) none ::
    m3_6))
  m3_11)
def m3_13 : MCode :=
 (.seq
  (.reg
   (MI.op (some 28) (.load true 72 (.tmp 2)) none ::
    MI.op (some 29) (.call 9 [(.tmp 28)]) none ::
    m3_5))
  m3_12)
def m3_14 : MCode :=
 (.seq
  (.reg
   (MI.op (some 23) (.load true 72 (.tmp 2)) none ::
    MI.op (some 24) (.call 8 [(.tmp 23)]) none ::
    m3_4))
  m3_13)
def m3_15 : MCode :=
 (.seq
  (.seq
   (.reg
    (MI.op (some 13) (.load true 72 (.tmp 2)) none ::
     MI.op (some 14) (.call 6 [(.tmp 13)]) none ::
     m3_1))
  m3_3)
  m3_14)
def m3_r : List MRes := [.tmp 4]
def m3_b : MCode :=
 (.seq
  (.reg
   [MI.op (some 2) (.box (.tmp 0)) none,
    MI.op (some 4) (.mov (.c (.bool false))) none])
  m3_15)
def m3 : MFunc := ⟨2, 65, m3_r, m3_b⟩
theorem c3 : compF Tryd.prog 3 m3 = some m3 := by kernel_rfl

/- tollhouse/tollhouselaw16.AskTurns -/
def m4_1 : MCode :=
 (.seq
  (.reg
   [MI.op (some 22) (.call 7 []) none,
    MI.op (some 6) (.mov (.tmp 22)) none])
  .ret)
def m4_2 : MCode :=
 (.cond (.tmp 21)
  m4_1
  .skip)
def m4_3 : List MI :=
 [MI.op (some 23) (.mov (.tmp 25)) none,
  MI.op (some 26) (.ext (.tmp 23) 0) none,
  MI.op (some 27) (.ext (.tmp 23) 1) none,
  MI.op (some 7) (.mov (.tmp 26)) none,
  MI.op (some 8) (.mov (.tmp 27)) none]
def m4_4 : List MI :=
 [MI.op (some 44) (.pick (.tmp 42) (.tmp 43) (.c (.bool false))) none,
  MI.op (some 6) (.mov (.tmp 44)) none]
def m4_5 : MCode :=
 (.seq
  (.reg
   (MI.op (some 35) (.mov (.tmp 8)) none ::
    MI.op (some 36) (.bin .eql (.tmp 35) (.c (.int .i64 11))) none ::
    MI.op (some 37) (.mov (.tmp 36)) none ::
    MI.op (some 38) (.mov (.tmp 7)) (some (37, true)) ::
    MI.op (some 39) (.len (.tmp 38)) (some (37, true)) ::
    MI.op (some 40) (.bin .eql (.tmp 39) (.c (.int .i64 0))) (some (37, true)) ::
    MI.op (some 41) (.pick (.tmp 37) (.tmp 40) (.c (.bool false))) none ::
    MI.op (some 42) (.mov (.tmp 41)) none ::
    MI.op (some 43) (.call 7 []) (some (42, true)) ::
    m4_4))
  .ret)
def m4_6 : MCode :=
 (.cond (.tmp 34)
  m4_5
  .skip)
def m4_7 : List MI :=
 [MI.op (some 45) (.mov (.tmp 47)) none,
  MI.op (some 48) (.ext (.tmp 45) 0) none,
  MI.op (some 49) (.ext (.tmp 45) 1) none,
  MI.op (some 9) (.alloc [(.int .i64 0), (.int .i64 0), (.str []), (.int .i64 0), (.int .u32 0), (.int .u32 0), (.int .u8 0), (.int .u8 0), (.int .u8 0), (.int .u8 0), (.int .u8 0), (.int .u8 0), (.int .u8 0), (.int .u8 0), (.int .u8 0), (.int .u8 0), (.int .u8 0), (.int .u8 0), (.int .u8 0), (.int .u8 0), (.int .u8 0), (.int .u8 0), (.int .u8 0), (.int .u8 0), (.int .u8 0), (.int .u8 0), (.int .u8 0), (.int .u8 0), (.int .u8 0), (.int .u8 0), (.int .u8 0), (.int .u8 0), (.int .u8 0), (.int .u8 0), (.int .u8 0), (.int .u8 0), (.int .u8 0), (.int .u8 0), (.str []), (.int .i64 0), (.int .u8 0), (.int .u8 0), (.int .u8 0), (.int .u8 0), (.int .u8 0), (.int .u8 0), (.int .u8 0), (.int .u8 0), (.int .u8 0), (.int .u8 0), (.int .u8 0), (.int .u8 0), (.int .u8 0), (.int .u8 0), (.int .u8 0), (.int .u8 0), (.int .u8 0), (.int .u8 0), (.int .u8 0), (.int .u8 0), (.int .u8 0), (.int .u8 0), (.int .u8 0), (.int .u8 0), (.int .u8 0), (.int .u8 0), (.int .u8 0), (.int .u8 0), (.int .u8 0), (.int .u8 0), (.int .u8 0), (.int .u8 0)]) none,
  MI.op none (.store 72 (.tmp 9) (.tmp 48)) none,
  MI.op (some 10) (.mov (.tmp 49)) none]
def m4_8 : MCode :=
 (.cond (.tmp 56)
  (.seq
   (.reg
    [MI.op (some 6) (.mov (.c (.bool false))) none])
   .ret)
  .skip)
def m4_9 : List MI :=
 [MI.op (some 82) (.mov (.tmp 84)) none,
  MI.op (some 85) (.ext (.tmp 82) 0) none,
  MI.op (some 86) (.ext (.tmp 82) 1) none,
  MI.op (some 13) (.alloc [(.int .i64 0), (.int .i64 0), (.str []), (.int .i64 0), (.int .u32 0), (.int .u32 0), (.int .u8 0), (.int .u8 0), (.int .u8 0), (.int .u8 0), (.int .u8 0), (.int .u8 0), (.int .u8 0), (.int .u8 0), (.int .u8 0), (.int .u8 0), (.int .u8 0), (.int .u8 0), (.int .u8 0), (.int .u8 0), (.int .u8 0), (.int .u8 0), (.int .u8 0), (.int .u8 0), (.int .u8 0), (.int .u8 0), (.int .u8 0), (.int .u8 0), (.int .u8 0), (.int .u8 0), (.int .u8 0), (.int .u8 0), (.int .u8 0), (.int .u8 0), (.int .u8 0), (.int .u8 0), (.int .u8 0), (.int .u8 0), (.str []), (.int .i64 0), (.int .u8 0), (.int .u8 0), (.int .u8 0), (.int .u8 0), (.int .u8 0), (.int .u8 0), (.int .u8 0), (.int .u8 0), (.int .u8 0), (.int .u8 0), (.int .u8 0), (.int .u8 0), (.int .u8 0), (.int .u8 0), (.int .u8 0), (.int .u8 0), (.int .u8 0), (.int .u8 0), (.int .u8 0), (.int .u8 0), (.int .u8 0), (.int .u8 0), (.int .u8 0), (.int .u8 0), (.int .u8 0), (.int .u8 0), (.int .u8 0), (.int .u8 0), (.int .u8 0), (.int .u8 0), (.int .u8 0), (.int .u8 0)]) none,
  MI.op none (.store 72 (.tmp 13) (.tmp 85)) none,
  MI.op (some 14) (.mov (.tmp 86)) none]
def m4_10 : List MI :=
 [MI.op (some 87) (.mov (.tmp 93)) none,
  MI.op (some 94) (.ext (.tmp 87) 0) none,
  MI.op (some 95) (.ext (.tmp 87) 1) none,
  MI.op (some 15) (.alloc [(.int .i64 0), (.int .i64 0), (.str []), (.int .i64 0), (.int .u32 0), (.int .u32 0), (.int .u8 0), (.int .u8 0), (.int .u8 0), (.int .u8 0), (.int .u8 0), (.int .u8 0), (.int .u8 0), (.int .u8 0), (.int .u8 0), (.int .u8 0), (.int .u8 0), (.int .u8 0), (.int .u8 0), (.int .u8 0), (.int .u8 0), (.int .u8 0), (.int .u8 0), (.int .u8 0), (.int .u8 0), (.int .u8 0), (.int .u8 0), (.int .u8 0), (.int .u8 0), (.int .u8 0), (.int .u8 0), (.int .u8 0), (.int .u8 0), (.int .u8 0), (.int .u8 0), (.int .u8 0), (.int .u8 0), (.int .u8 0), (.str []), (.int .i64 0), (.int .u8 0), (.int .u8 0), (.int .u8 0), (.int .u8 0), (.int .u8 0), (.int .u8 0), (.int .u8 0), (.int .u8 0), (.int .u8 0), (.int .u8 0), (.int .u8 0), (.int .u8 0), (.int .u8 0), (.int .u8 0), (.int .u8 0), (.int .u8 0), (.int .u8 0), (.int .u8 0), (.int .u8 0), (.int .u8 0), (.int .u8 0), (.int .u8 0), (.int .u8 0), (.int .u8 0), (.int .u8 0), (.int .u8 0), (.int .u8 0), (.int .u8 0), (.int .u8 0), (.int .u8 0), (.int .u8 0), (.int .u8 0)]) none,
  MI.op none (.store 72 (.tmp 15) (.tmp 94)) none,
  MI.op (some 16) (.mov (.tmp 95)) none]
def m4_11 : List MI :=
 [MI.op (some 96) (.mov (.tmp 102)) none,
  MI.op (some 103) (.ext (.tmp 96) 0) none,
  MI.op (some 104) (.ext (.tmp 96) 1) none,
  MI.op (some 17) (.alloc [(.int .i64 0), (.int .i64 0), (.str []), (.int .i64 0), (.int .u32 0), (.int .u32 0), (.int .u8 0), (.int .u8 0), (.int .u8 0), (.int .u8 0), (.int .u8 0), (.int .u8 0), (.int .u8 0), (.int .u8 0), (.int .u8 0), (.int .u8 0), (.int .u8 0), (.int .u8 0), (.int .u8 0), (.int .u8 0), (.int .u8 0), (.int .u8 0), (.int .u8 0), (.int .u8 0), (.int .u8 0), (.int .u8 0), (.int .u8 0), (.int .u8 0), (.int .u8 0), (.int .u8 0), (.int .u8 0), (.int .u8 0), (.int .u8 0), (.int .u8 0), (.int .u8 0), (.int .u8 0), (.int .u8 0), (.int .u8 0), (.str []), (.int .i64 0), (.int .u8 0), (.int .u8 0), (.int .u8 0), (.int .u8 0), (.int .u8 0), (.int .u8 0), (.int .u8 0), (.int .u8 0), (.int .u8 0), (.int .u8 0), (.int .u8 0), (.int .u8 0), (.int .u8 0), (.int .u8 0), (.int .u8 0), (.int .u8 0), (.int .u8 0), (.int .u8 0), (.int .u8 0), (.int .u8 0), (.int .u8 0), (.int .u8 0), (.int .u8 0), (.int .u8 0), (.int .u8 0), (.int .u8 0), (.int .u8 0), (.int .u8 0), (.int .u8 0), (.int .u8 0), (.int .u8 0), (.int .u8 0)]) none,
  MI.op none (.store 72 (.tmp 17) (.tmp 103)) none,
  MI.op (some 18) (.mov (.tmp 104)) none]
def m4_12 : List MI :=
 [MI.op (some 121) (.pick (.tmp 119) (.tmp 120) (.c (.bool false))) none,
  MI.op (some 6) (.mov (.tmp 121)) none]
def m4_13 : MCode :=
 (.seq
  (.reg
   (MI.op (some 105) (.mov (.tmp 14)) none ::
    MI.op (some 106) (.bin .eql (.tmp 105) (.c (.int .i64 0))) none ::
    MI.op (some 107) (.load true 2 (.tmp 5)) none ::
    MI.op (some 108) (.build [(.int .u8 0), (.int .u8 0)] []) none ::
    MI.op (some 109) (.eqv false [(2, .i)] (.tmp 107) (.tmp 108)) none ::
    MI.op (some 110) (.binB .eql (.tmp 106) (.tmp 109)) none ::
    MI.op (some 111) (.mov (.tmp 110)) none ::
    MI.op (some 112) (.mov (.tmp 16)) (some (111, true)) ::
    MI.op (some 113) (.bin .eql (.tmp 112) (.c (.int .i64 11))) (some (111, true)) ::
    MI.op (some 114) (.pick (.tmp 111) (.tmp 113) (.c (.bool false))) none ::
    MI.op (some 115) (.mov (.tmp 114)) none ::
    MI.op (some 116) (.mov (.tmp 18)) (some (115, true)) ::
    MI.op (some 117) (.bin .eql (.tmp 116) (.c (.int .i64 11))) (some (115, true)) ::
    MI.op (some 118) (.pick (.tmp 115) (.tmp 117) (.c (.bool false))) none ::
    MI.op (some 119) (.mov (.tmp 118)) none ::
    MI.op (some 120) (.call 7 []) (some (119, true)) ::
    m4_12))
  .ret)
def m4_14 : MCode :=
 (.seq
  (.reg
   (MI.op (some 97) (.bsl 0 1 [(.int .u8 0)] []) none ::
    MI.op (some 98) (.mov (.tmp 7)) none ::
    MI.op (some 99) (.app 1 1 (.tmp 97) (.tmp 98)) none ::
    MI.op (some 100) (.bsl 1 1 [(.int .u8 0)] [(0, 1, (.c (.int .u8 0)))]) none ::
    MI.op (some 101) (.app 1 1 (.tmp 99) (.tmp 100)) none ::
    MI.op (some 102) (.call 10 [(.tmp 101)]) none ::
    m4_11))
  m4_13)
def m4_15 : MCode :=
 (.seq
  (.reg
   (MI.op (some 88) (.mov (.tmp 7)) none ::
    MI.op (some 89) (.mov (.tmp 7)) none ::
    MI.op (some 90) (.len (.tmp 89)) none ::
    MI.op (some 91) (.bin .sub (.tmp 90) (.c (.int .i64 1))) none ::
    MI.op (some 92) (.slSl 1 (.tmp 88) none (some (.tmp 91)) none) none ::
    MI.op (some 93) (.call 10 [(.tmp 92)]) none ::
    m4_10))
  m4_14)
def m4_16 : MCode :=
 (.seq
  (.reg
   (MI.op (some 83) (.mov (.tmp 12)) none ::
    MI.op (some 84) (.call 10 [(.tmp 83)]) none ::
    m4_9))
  m4_15)
def m4_17 : MCode :=
 (.seq
  (.drw
   [MI.op (some 73) (.mov (.tmp 12)) none,
    MI.op (some 74) (.mov (.tmp 11)) none,
    MI.op (some 75) (.bin .add (.tmp 74) (.c (.int .i64 1))) none,
    MI.op (some 76) (.ixSl 1 (.tmp 73) (.tmp 75)) none,
    MI.op (some 77) (.load false 1 (.tmp 76)) none,
    MI.op (some 78) (.ixArr 2 1 (.tmp 5) (.c (.int .i64 1))) none,
    MI.op (some 79) (.load false 1 (.tmp 78)) none]
   [MI.op (some 80) (.bin .xor (.tmp 77) (.tmp 79)) none,
    MI.op (some 81) (.ixSl 1 (.tmp 73) (.tmp 75)) none,
    MI.op none (.store 1 (.tmp 81) (.tmp 80)) none])
  m4_16)
def m4_18 : MCode :=
 (.seq
  (.drw
   [MI.op (some 65) (.mov (.tmp 12)) none,
    MI.op (some 66) (.mov (.tmp 11)) none,
    MI.op (some 67) (.ixSl 1 (.tmp 65) (.tmp 66)) none,
    MI.op (some 68) (.load false 1 (.tmp 67)) none,
    MI.op (some 69) (.ixArr 2 1 (.tmp 5) (.c (.int .i64 0))) none,
    MI.op (some 70) (.load false 1 (.tmp 69)) none]
   [MI.op (some 71) (.bin .xor (.tmp 68) (.tmp 70)) none,
    MI.op (some 72) (.ixSl 1 (.tmp 65) (.tmp 66)) none,
    MI.op none (.store 1 (.tmp 72) (.tmp 71)) none])
  m4_17)
def m4_19 : MCode :=
 (.seq
  (.reg
   [MI.op (some 62) (.bsl 0 1 [(.int .u8 0)] []) none,
    MI.op (some 63) (.mov (.tmp 7)) none,
    MI.op (some 64) (.app 1 1 (.tmp 62) (.tmp 63)) none,
    MI.op (some 12) (.mov (.tmp 64)) none])
  m4_18)
def m4_20 : MCode :=
 (.seq
  (.reg
   [MI.op (some 57) (.mov (.tmp 1)) none,
    MI.op (some 58) (.mov (.tmp 7)) none,
    MI.op (some 59) (.len (.tmp 58)) none,
    MI.op (some 60) (.bin .sub (.tmp 59) (.c (.int .i64 1))) none,
    MI.op (some 61) (.call 13 [(.tmp 57), (.tmp 60)]) none,
    MI.op (some 11) (.mov (.tmp 61)) none])
  m4_19)
def m4_21 : MCode :=
 (.seq
  (.seq
   (.reg
    [MI.op (some 50) (.mov (.tmp 10)) none,
     MI.op (some 51) (.bin .neq (.tmp 50) (.c (.int .i64 0))) none,
     MI.op (some 52) (.mov (.tmp 51)) none,
     MI.op (some 53) (.load true 72 (.tmp 9)) (some (52, false)),
     MI.op (some 54) (.load true 72 (.tmp 3)) (some (52, false)),
     MI.op (some 55) (.eqv true [(2, .i), (1, .s), (35, .i), (1, .s), (33, .i)] (.tmp 53) (.tmp 54)) (some (52, false)),
     MI.op (some 56) (.pick (.tmp 52) (.c (.bool true)) (.tmp 55)) none])
  m4_8)
  m4_20)
def m4_22 : MCode :=
 (.seq
  (.reg
   (MI.op (some 46) (.mov (.tmp 7)) none ::
    MI.op (some 47) (.call 10 [(.tmp 46)]) none ::
    m4_7))
  m4_21)
def m4_23 : MCode :=
 (.seq
  (.seq
   (.reg
    [MI.op (some 28) (.mov (.tmp 8)) none,
     MI.op (some 29) (.bin .neq (.tmp 28) (.c (.int .i64 0))) none,
     MI.op (some 30) (.mov (.tmp 29)) none,
     MI.op (some 31) (.mov (.tmp 7)) (some (30, false)),
     MI.op (some 32) (.len (.tmp 31)) (some (30, false)),
     MI.op (some 33) (.bin .lss (.tmp 32) (.c (.int .i64 2))) (some (30, false)),
     MI.op (some 34) (.pick (.tmp 30) (.c (.bool true)) (.tmp 33)) none])
  m4_6)
  m4_22)
def m4_24 : MCode :=
 (.seq
  (.reg
   (MI.op (some 24) (.load true 72 (.tmp 3)) none ::
    MI.op (some 25) (.callp 8 [(.tmp 24)]) none ::
    m4_3))
  m4_23)
def m4_25 : MCode :=
 (.seq
  (.seq
   (.reg
    [MI.op (some 19) (.load true 72 (.tmp 3)) none,
     MI.op (some 20) (.call 6 [(.tmp 19)]) none,
     MI.op (some 21) (.un .not (.tmp 20)) none])
  m4_2)
  m4_24)
def m4_r : List MRes := [.tmp 6]
def m4_b : MCode :=
 (.seq
  (.reg
   [MI.op (some 3) (.box (.tmp 0)) none,
    MI.op (some 5) (.box (.tmp 2)) none,
    MI.op (some 6) (.mov (.c (.bool false))) none])
  m4_25)
def m4 : MFunc := ⟨3, 122, m4_r, m4_b⟩
theorem c4 : compF Tryd.prog 4 m4 = some m4 := by kernel_rfl

/- tollhouse/tollhouselaw16.AskPlaces -/
def m5_1 : MCode :=
 (.seq
  (.reg
   [MI.op (some 12) (.call 7 []) none,
    MI.op (some 2) (.mov (.tmp 12)) none])
  .ret)
def m5_2 : MCode :=
 (.cond (.tmp 11)
  m5_1
  .skip)
def m5_3 : List MI :=
 [MI.op (some 13) (.mov (.tmp 15)) none,
  MI.op (some 16) (.ext (.tmp 13) 0) none,
  MI.op (some 17) (.ext (.tmp 13) 1) none,
  MI.op (some 3) (.mov (.tmp 16)) none,
  MI.op (some 4) (.mov (.tmp 17)) none]
def m5_4 : List MI :=
 [MI.op (some 25) (.pick (.tmp 23) (.tmp 24) (.c (.bool false))) none,
  MI.op (some 2) (.mov (.tmp 25)) none]
def m5_5 : MCode :=
 (.seq
  (.reg
   (MI.op (some 20) (.mov (.tmp 3)) none ::
    MI.op (some 21) (.len (.tmp 20)) none ::
    MI.op (some 22) (.bin .eql (.tmp 21) (.c (.int .i64 0))) none ::
    MI.op (some 23) (.mov (.tmp 22)) none ::
    MI.op (some 24) (.call 7 []) (some (23, true)) ::
    m5_4))
  .ret)
def m5_6 : MCode :=
 (.cond (.tmp 19)
  m5_5
  .skip)
def m5_7 : List MI :=
 [MI.op (some 26) (.mov (.tmp 29)) none,
  MI.op (some 30) (.ext (.tmp 26) 0) none,
  MI.op (some 31) (.ext (.tmp 26) 1) none,
  MI.op (some 5) (.mov (.tmp 30)) none,
  MI.op (some 6) (.mov (.tmp 31)) none]
def m5_8 : List MI :=
 [MI.op (some 7) (.alloc [(.int .u8 0), (.int .u8 0), (.int .u8 0), (.int .u8 0)]) none,
  MI.op none (.store 4 (.tmp 7) (.tmp 34)) none]
def m5_9 : MCode :=
 (.cond (.tmp 55)
  (.seq
   (.reg
    [MI.op (some 2) (.mov (.c (.bool false))) none])
   .ret)
  .skip)
def m5_10 : MCode :=
 (.cond (.tmp 115)
  (.seq
   (.reg
    [MI.op (some 2) (.mov (.c (.bool false))) none])
   .ret)
  .skip)
def m5_11 : MCode :=
 (.seq
  (.drw
   [MI.op (some 116) (.fa 0 (.tmp 1)) none,
    MI.op (some 117) (.load false 1 (.tmp 116)) none,
    MI.op (some 118) (.bin .neq (.tmp 117) (.c (.int .i64 2))) none,
    MI.op (some 119) (.mov (.tmp 118)) none,
    MI.op (some 120) (.mov (.tmp 3)) (some (119, false)),
    MI.op (some 121) (.slSl 1 (.tmp 120) (some (.c (.int .i64 52))) (some (.c (.int .i64 84))) none) (some (119, false)),
    MI.op (some 122) (.fa 40 (.tmp 1)) (some (119, false)),
    MI.op (some 123) (.slArr 32 1 (.tmp 122) none none none) (some (119, false))]
   [MI.op (some 124) (.call 12 [(.tmp 121), (.tmp 123)]) (some (119, false)),
    MI.op (some 125) (.pick (.tmp 119) (.c (.bool true)) (.tmp 124)) none,
    MI.op (some 126) (.mov (.tmp 125)) none,
    MI.op (some 127) (.call 7 []) (some (126, true)),
    MI.op (some 128) (.pick (.tmp 126) (.tmp 127) (.c (.bool false))) none,
    MI.op (some 2) (.mov (.tmp 128)) none])
  .ret)
def m5_12 : MCode :=
 (.seq
  (.seq
   (.drw
    [MI.op (some 63) (.mov (.tmp 3)) none,
     MI.op (some 64) (.ixSl 1 (.tmp 63) (.c (.int .i64 0))) none,
     MI.op (some 65) (.load false 1 (.tmp 64)) none,
     MI.op (some 66) (.toInt .i64 (.tmp 65)) none,
     MI.op (some 67) (.fa 0 (.tmp 1)) none,
     MI.op (some 68) (.load false 1 (.tmp 67)) none,
     MI.op (some 69) (.bin .neq (.tmp 66) (.tmp 68)) none,
     MI.op (some 70) (.mov (.tmp 69)) none,
     MI.op (some 71) (.mov (.tmp 3)) (some (70, false)),
     MI.op (some 72) (.slSl 1 (.tmp 71) (some (.c (.int .i64 1))) (some (.c (.int .i64 47))) none) (some (70, false)),
     MI.op (some 73) (.mov (.tmp 5)) (some (70, false)),
     MI.op (some 74) (.call 12 [(.tmp 72), (.tmp 73)]) (some (70, false)),
     MI.op (some 75) (.un .not (.tmp 74)) (some (70, false)),
     MI.op (some 76) (.pick (.tmp 70) (.c (.bool true)) (.tmp 75)) none,
     MI.op (some 77) (.mov (.tmp 76)) none,
     MI.op (some 78) (.mov (.tmp 3)) (some (77, false)),
     MI.op (some 79) (.slSl 1 (.tmp 78) (some (.c (.int .i64 47))) (some (.c (.int .i64 51))) none) (some (77, false)),
     MI.op (some 80) (.slArr 4 1 (.tmp 7) none none none) (some (77, false)),
     MI.op (some 81) (.call 12 [(.tmp 79), (.tmp 80)]) (some (77, false)),
     MI.op (some 82) (.un .not (.tmp 81)) (some (77, false)),
     MI.op (some 83) (.pick (.tmp 77) (.c (.bool true)) (.tmp 82)) none,
     MI.op (some 84) (.mov (.tmp 83)) none,
     MI.op (some 85) (.mov (.tmp 3)) (some (84, false)),
     MI.op (some 86) (.ixSl 1 (.tmp 85) (.c (.int .i64 51))) (some (84, false)),
     MI.op (some 87) (.load false 1 (.tmp 86)) (some (84, false)),
     MI.op (some 88) (.toInt .i64 (.tmp 87)) (some (84, false)),
     MI.op (some 89) (.fa 39 (.tmp 1)) (some (84, false)),
     MI.op (some 90) (.load false 1 (.tmp 89)) (some (84, false)),
     MI.op (some 91) (.bin .neq (.tmp 88) (.tmp 90)) (some (84, false)),
     MI.op (some 92) (.pick (.tmp 84) (.c (.bool true)) (.tmp 91)) none,
     MI.op (some 93) (.mov (.tmp 92)) none,
     MI.op (some 94) (.mov (.tmp 3)) (some (93, false)),
     MI.op (some 95) (.mov (.tmp 3)) (some (93, false)),
     MI.op (some 96) (.len (.tmp 95)) (some (93, false)),
     MI.op (some 97) (.bin .sub (.tmp 96) (.c (.int .i64 2))) (some (93, false)),
     MI.op (some 98) (.ixSl 1 (.tmp 94) (.tmp 97)) (some (93, false)),
     MI.op (some 99) (.load false 1 (.tmp 98)) (some (93, false)),
     MI.op (some 100) (.mov (.tmp 8)) (some (93, false)),
     MI.op (some 101) (.toInt .u8 (.tmp 100)) (some (93, false)),
     MI.op (some 102) (.bin .neq (.tmp 99) (.tmp 101)) (some (93, false)),
     MI.op (some 103) (.pick (.tmp 93) (.c (.bool true)) (.tmp 102)) none,
     MI.op (some 104) (.mov (.tmp 103)) none,
     MI.op (some 105) (.mov (.tmp 3)) (some (104, false)),
     MI.op (some 106) (.mov (.tmp 3)) (some (104, false)),
     MI.op (some 107) (.len (.tmp 106)) (some (104, false)),
     MI.op (some 108) (.bin .sub (.tmp 107) (.c (.int .i64 1))) (some (104, false)),
     MI.op (some 109) (.ixSl 1 (.tmp 105) (.tmp 108)) (some (104, false)),
     MI.op (some 110) (.load false 1 (.tmp 109)) (some (104, false)),
     MI.op (some 111) (.mov (.tmp 8)) (some (104, false)),
     MI.op (some 112) (.bin .shr (.tmp 111) (.c (.int .u64 8))) (some (104, false)),
     MI.op (some 113) (.toInt .u8 (.tmp 112)) (some (104, false))]
    [MI.op (some 114) (.bin .neq (.tmp 110) (.tmp 113)) (some (104, false)),
     MI.op (some 115) (.pick (.tmp 104) (.c (.bool true)) (.tmp 114)) none])
  m5_10)
  m5_11)
def m5_13 : MCode :=
 (.seq
  (.reg
   [MI.op (some 56) (.mov (.tmp 3)) none,
    MI.op (some 57) (.mov (.tmp 3)) none,
    MI.op (some 58) (.len (.tmp 57)) none,
    MI.op (some 59) (.bin .sub (.tmp 58) (.c (.int .i64 2))) none,
    MI.op (some 60) (.slSl 1 (.tmp 56) none (some (.tmp 59)) none) none,
    MI.op (some 61) (.bsl 1 1 [(.sl .full 0 [])] [(0, 1, (.tmp 60))]) none,
    MI.op (some 62) (.call 16 [(.tmp 61)]) none,
    MI.op (some 8) (.mov (.tmp 62)) none])
  m5_12)
def m5_14 : MCode :=
 (.seq
  (.seq
   (.reg
    [MI.op (some 35) (.mov (.tmp 6)) none,
     MI.op (some 36) (.bin .neq (.tmp 35) (.c (.int .i64 0))) none,
     MI.op (some 37) (.mov (.tmp 36)) none,
     MI.op (some 38) (.mov (.tmp 3)) (some (37, false)),
     MI.op (some 39) (.len (.tmp 38)) (some (37, false)),
     MI.op (some 40) (.bin .neq (.tmp 39) (.c (.int .i64 54))) (some (37, false)),
     MI.op (some 41) (.mov (.tmp 40)) (some (37, false)),
     MI.op (some 42) (.mov (.tmp 3)) (some (41, true)),
     MI.op (some 43) (.len (.tmp 42)) (some (41, true)),
     MI.op (some 44) (.bin .neq (.tmp 43) (.c (.int .i64 86))) (some (41, true)),
     MI.op (some 45) (.pick (.tmp 41) (.tmp 44) (.c (.bool false))) (some (37, false)),
     MI.op (some 46) (.pick (.tmp 37) (.c (.bool true)) (.tmp 45)) none,
     MI.op (some 47) (.mov (.tmp 46)) none,
     MI.op (some 48) (.mov (.tmp 3)) (some (47, false)),
     MI.op (some 49) (.len (.tmp 48)) (some (47, false)),
     MI.op (some 50) (.bin .eql (.tmp 49) (.c (.int .i64 86))) (some (47, false)),
     MI.op (some 51) (.fa 0 (.tmp 1)) (some (47, false)),
     MI.op (some 52) (.load false 1 (.tmp 51)) (some (47, false)),
     MI.op (some 53) (.bin .eql (.tmp 52) (.c (.int .i64 2))) (some (47, false)),
     MI.op (some 54) (.binB .neq (.tmp 50) (.tmp 53)) (some (47, false)),
     MI.op (some 55) (.pick (.tmp 47) (.c (.bool true)) (.tmp 54)) none])
  m5_9)
  m5_13)
def m5_15 : MCode :=
 (.seq
  (.reg
   (MI.op (some 32) (.fa 38 (.tmp 1)) none ::
    MI.op (some 33) (.load false 1 (.tmp 32)) none ::
    MI.op (some 34) (.call 15 [(.tmp 33)]) none ::
    m5_8))
  m5_14)
def m5_16 : MCode :=
 (.seq
  (.reg
   (MI.op (some 27) (.fa 1 (.tmp 1)) none ::
    MI.op (some 28) (.load true 37 (.tmp 27)) none ::
    MI.op (some 29) (.callp 14 [(.tmp 28)]) none ::
    m5_7))
  m5_15)
def m5_17 : MCode :=
 (.seq
  (.seq
   (.reg
    [MI.op (some 18) (.mov (.tmp 4)) none,
     MI.op (some 19) (.bin .neq (.tmp 18) (.c (.int .i64 0))) none])
  m5_6)
  m5_16)
def m5_18 : MCode :=
 (.seq
  (.reg
   (MI.op (some 14) (.load true 72 (.tmp 1)) none ::
    MI.op (some 15) (.callp 8 [(.tmp 14)]) none ::
    m5_3))
  m5_17)
def m5_19 : MCode :=
 (.seq
  (.seq
   (.reg
    [MI.op (some 9) (.load true 72 (.tmp 1)) none,
     MI.op (some 10) (.call 6 [(.tmp 9)]) none,
     MI.op (some 11) (.un .not (.tmp 10)) none])
  m5_2)
  m5_18)
def m5_r : List MRes := [.tmp 2]
def m5_b : MCode :=
 (.seq
  (.reg
   [MI.op (some 1) (.box (.tmp 0)) none,
    MI.op (some 2) (.mov (.c (.bool false))) none])
  m5_19)
def m5 : MFunc := ⟨1, 129, m5_r, m5_b⟩
theorem c5 : compF Tryd.prog 5 m5 = some m5 := by kernel_rfl

/- tollhouse/tollhouselaw16.small -/
def m6_1 : MCode :=
 (.seq
  (.reg
   [MI.op (some 3) (.fa 1 (.tmp 1)) none,
    MI.op (some 4) (.fa 0 (.tmp 3)) none,
    MI.op (some 5) (.fa 1 (.tmp 4)) none,
    MI.op (some 6) (.load false 1 (.tmp 5)) none,
    MI.op (some 7) (.lenS (.tmp 6)) none,
    MI.op (some 8) (.bin .leq (.tmp 7) (.c (.int .i64 100))) none,
    MI.op (some 9) (.mov (.tmp 8)) none,
    MI.op (some 10) (.fa 38 (.tmp 1)) (some (9, true)),
    MI.op (some 11) (.load false 1 (.tmp 10)) (some (9, true)),
    MI.op (some 12) (.lenS (.tmp 11)) (some (9, true)),
    MI.op (some 13) (.bin .leq (.tmp 12) (.c (.int .i64 100))) (some (9, true)),
    MI.op (some 14) (.pick (.tmp 9) (.tmp 13) (.c (.bool false))) none,
    MI.op (some 2) (.mov (.tmp 14)) none])
  .ret)
def m6_r : List MRes := [.tmp 2]
def m6_b : MCode :=
 (.seq
  (.reg
   [MI.op (some 1) (.box (.tmp 0)) none,
    MI.op (some 2) (.mov (.c (.bool false))) none])
  m6_1)
def m6 : MFunc := ⟨1, 15, m6_r, m6_b⟩
theorem c6 : compF Tryd.prog 6 m6 = some m6 := by kernel_rfl

/- tollhouse/tollhouselaw16.wakes -/
def m7_1 : List MI :=
 [MI.op (some 18) (.mov (.tmp 20)) none,
  MI.op (some 21) (.ext (.tmp 18) 0) none,
  MI.op (some 22) (.ext (.tmp 18) 1) none,
  MI.op (some 2) (.mov (.tmp 21)) none,
  MI.op (some 3) (.mov (.tmp 22)) none]
def m7_2 : List MI :=
 [MI.op (some 23) (.mov (.tmp 25)) none,
  MI.op (some 26) (.ext (.tmp 23) 0) none,
  MI.op (some 27) (.ext (.tmp 23) 1) none,
  MI.op (some 4) (.alloc [(.int .i64 0), (.int .i64 0), (.str []), (.int .i64 0), (.int .u32 0), (.int .u32 0), (.int .u8 0), (.int .u8 0), (.int .u8 0), (.int .u8 0), (.int .u8 0), (.int .u8 0), (.int .u8 0), (.int .u8 0), (.int .u8 0), (.int .u8 0), (.int .u8 0), (.int .u8 0), (.int .u8 0), (.int .u8 0), (.int .u8 0), (.int .u8 0), (.int .u8 0), (.int .u8 0), (.int .u8 0), (.int .u8 0), (.int .u8 0), (.int .u8 0), (.int .u8 0), (.int .u8 0), (.int .u8 0), (.int .u8 0), (.int .u8 0), (.int .u8 0), (.int .u8 0), (.int .u8 0), (.int .u8 0), (.int .u8 0), (.str []), (.int .i64 0), (.int .u8 0), (.int .u8 0), (.int .u8 0), (.int .u8 0), (.int .u8 0), (.int .u8 0), (.int .u8 0), (.int .u8 0), (.int .u8 0), (.int .u8 0), (.int .u8 0), (.int .u8 0), (.int .u8 0), (.int .u8 0), (.int .u8 0), (.int .u8 0), (.int .u8 0), (.int .u8 0), (.int .u8 0), (.int .u8 0), (.int .u8 0), (.int .u8 0), (.int .u8 0), (.int .u8 0), (.int .u8 0), (.int .u8 0), (.int .u8 0), (.int .u8 0), (.int .u8 0), (.int .u8 0), (.int .u8 0), (.int .u8 0)]) none,
  MI.op none (.store 72 (.tmp 4) (.tmp 26)) none,
  MI.op (some 5) (.mov (.tmp 27)) none]
def m7_3 : List MI :=
 [MI.op (some 29) (.mov (.tmp 31)) none,
  MI.op (some 32) (.ext (.tmp 29) 0) none,
  MI.op (some 33) (.ext (.tmp 29) 1) none,
  MI.op (some 6) (.mov (.tmp 32)) none,
  MI.op (some 7) (.mov (.tmp 33)) none]
def m7_4 : List MI :=
 [MI.op (some 36) (.mov (.tmp 38)) none,
  MI.op (some 39) (.ext (.tmp 36) 0) none,
  MI.op (some 40) (.ext (.tmp 36) 1) none,
  MI.op (some 8) (.mov (.tmp 39)) none,
  MI.op (some 9) (.mov (.tmp 40)) none]
def m7_5 : MCode :=
 (.seq
  (.reg
   [MI.op (some 41) (.mov (.tmp 3)) none,
    MI.op (some 42) (.bin .eql (.tmp 41) (.c (.int .i64 0))) none,
    MI.op (some 43) (.mov (.tmp 42)) none,
    MI.op (some 44) (.mov (.tmp 2)) (some (43, true)),
    MI.op (some 45) (.len (.tmp 44)) (some (43, true)),
    MI.op (some 46) (.bin .eql (.tmp 45) (.c (.int .i64 86))) (some (43, true)),
    MI.op (some 47) (.pick (.tmp 43) (.tmp 46) (.c (.bool false))) none,
    MI.op (some 48) (.mov (.tmp 47)) none,
    MI.op (some 49) (.mov (.tmp 2)) (some (48, true)),
    MI.op (some 50) (.ixSl 1 (.tmp 49) (.c (.int .i64 0))) (some (48, true)),
    MI.op (some 51) (.load false 1 (.tmp 50)) (some (48, true)),
    MI.op (some 52) (.bin .eql (.tmp 51) (.c (.int .u8 2))) (some (48, true)),
    MI.op (some 53) (.pick (.tmp 48) (.tmp 52) (.c (.bool false))) none,
    MI.op (some 54) (.mov (.tmp 53)) none,
    MI.op (some 55) (.mov (.tmp 2)) (some (54, true)),
    MI.op (some 56) (.ixSl 1 (.tmp 55) (.c (.int .i64 47))) (some (54, true)),
    MI.op (some 57) (.load false 1 (.tmp 56)) (some (54, true)),
    MI.op (some 58) (.bin .eql (.tmp 57) (.c (.int .u8 97))) (some (54, true)),
    MI.op (some 59) (.pick (.tmp 54) (.tmp 58) (.c (.bool false))) none,
    MI.op (some 60) (.mov (.tmp 59)) none,
    MI.op (some 61) (.mov (.tmp 2)) (some (60, true)),
    MI.op (some 62) (.ixSl 1 (.tmp 61) (.c (.int .i64 51))) (some (60, true)),
    MI.op (some 63) (.load false 1 (.tmp 62)) (some (60, true)),
    MI.op (some 64) (.bin .eql (.tmp 63) (.c (.int .u8 3))) (some (60, true)),
    MI.op (some 65) (.pick (.tmp 60) (.tmp 64) (.c (.bool false))) none,
    MI.op (some 66) (.mov (.tmp 65)) none,
    MI.op (some 67) (.mov (.tmp 2)) (some (66, true)),
    MI.op (some 68) (.ixSl 1 (.tmp 67) (.c (.int .i64 52))) (some (66, true)),
    MI.op (some 69) (.load false 1 (.tmp 68)) (some (66, true)),
    MI.op (some 70) (.bin .eql (.tmp 69) (.c (.int .u8 7))) (some (66, true)),
    MI.op (some 71) (.pick (.tmp 66) (.tmp 70) (.c (.bool false))) none,
    MI.op (some 72) (.mov (.tmp 71)) none,
    MI.op (some 73) (.mov (.tmp 5)) (some (72, true)),
    MI.op (some 74) (.bin .eql (.tmp 73) (.c (.int .i64 0))) (some (72, true)),
    MI.op (some 75) (.pick (.tmp 72) (.tmp 74) (.c (.bool false))) none,
    MI.op (some 76) (.mov (.tmp 75)) none,
    MI.op (some 77) (.fa 0 (.tmp 4)) (some (76, true)),
    MI.op (some 78) (.load false 1 (.tmp 77)) (some (76, true)),
    MI.op (some 79) (.bin .eql (.tmp 78) (.c (.int .i64 2))) (some (76, true)),
    MI.op (some 80) (.pick (.tmp 76) (.tmp 79) (.c (.bool false))) none,
    MI.op (some 81) (.mov (.tmp 80)) none,
    MI.op (some 82) (.fa 1 (.tmp 4)) (some (81, true)),
    MI.op (some 83) (.fa 0 (.tmp 82)) (some (81, true)),
    MI.op (some 84) (.fa 0 (.tmp 83)) (some (81, true)),
    MI.op (some 85) (.load false 1 (.tmp 84)) (some (81, true)),
    MI.op (some 86) (.bin .eql (.tmp 85) (.c (.int .i64 1))) (some (81, true)),
    MI.op (some 87) (.pick (.tmp 81) (.tmp 86) (.c (.bool false))) none,
    MI.op (some 88) (.mov (.tmp 87)) none,
    MI.op (some 89) (.fa 40 (.tmp 4)) (some (88, true)),
    MI.op (some 90) (.ixArr 32 1 (.tmp 89) (.c (.int .i64 0))) (some (88, true)),
    MI.op (some 91) (.load false 1 (.tmp 90)) (some (88, true)),
    MI.op (some 92) (.bin .eql (.tmp 91) (.c (.int .u8 7))) (some (88, true)),
    MI.op (some 93) (.pick (.tmp 88) (.tmp 92) (.c (.bool false))) none,
    MI.op (some 94) (.mov (.tmp 93)) none,
    MI.op (some 95) (.mov (.tmp 7)) (some (94, true)),
    MI.op (some 96) (.bin .eql (.tmp 95) (.c (.int .i64 11))) (some (94, true)),
    MI.op (some 97) (.pick (.tmp 94) (.tmp 96) (.c (.bool false))) none,
    MI.op (some 98) (.mov (.tmp 97)) none,
    MI.op (some 99) (.mov (.tmp 9)) (some (98, true)),
    MI.op (some 100) (.bin .eql (.tmp 99) (.c (.int .i64 0))) (some (98, true)),
    MI.op (some 101) (.pick (.tmp 98) (.tmp 100) (.c (.bool false))) none,
    MI.op (some 102) (.mov (.tmp 101)) none,
    MI.op (some 103) (.mov (.tmp 8)) (some (102, true)),
    MI.op (some 104) (.len (.tmp 103)) (some (102, true)),
    MI.op (some 105) (.bin .eql (.tmp 104) (.c (.int .i64 54))) (some (102, true)),
    MI.op (some 106) (.pick (.tmp 102) (.tmp 105) (.c (.bool false))) none,
    MI.op (some 0) (.mov (.tmp 106)) none])
  .ret)
def m7_6 : MCode :=
 (.seq
  (.reg
   (MI.op (some 37) (.load true 72 (.tmp 1)) none ::
    MI.op (some 38) (.call 8 [(.tmp 37)]) none ::
    m7_4))
  m7_5)
def m7_7 : MCode :=
 (.seq
  (.reg
   [MI.op (some 34) (.fa 40 (.tmp 1)) none,
    MI.op (some 35) (.ixArr 32 1 (.tmp 34) (.c (.int .i64 0))) none,
    MI.op none (.store 1 (.tmp 35) (.c (.int .u8 0))) none])
  m7_6)
def m7_8 : MCode :=
 (.seq
  (.reg
   (MI.op (some 30) (.load true 72 (.tmp 1)) none ::
    MI.op (some 31) (.call 8 [(.tmp 30)]) none ::
    m7_3))
  m7_7)
def m7_9 : MCode :=
 (.seq
  (.reg
   [MI.op (some 28) (.fa 0 (.tmp 1)) none,
    MI.op none (.store 1 (.tmp 28) (.c (.int .i64 1))) none])
  m7_8)
def m7_10 : MCode :=
 (.seq
  (.reg
   (MI.op (some 24) (.mov (.tmp 2)) none ::
    MI.op (some 25) (.call 10 [(.tmp 24)]) none ::
    m7_2))
  m7_9)
def m7_11 : MCode :=
 (.seq
  (.reg
   (MI.op (some 19) (.load true 72 (.tmp 1)) none ::
    MI.op (some 20) (.call 8 [(.tmp 19)]) none ::
    m7_1))
  m7_10)
def m7_12 : MCode :=
 (.seq
  (.reg
   [MI.op (some 16) (.fa 40 (.tmp 1)) none,
    MI.op (some 17) (.ixArr 32 1 (.tmp 16) (.c (.int .i64 0))) none,
    MI.op none (.store 1 (.tmp 17) (.c (.int .u8 7))) none])
  m7_11)
def m7_13 : MCode :=
 (.seq
  (.reg
   [MI.op (some 13) (.build [(.int .i64 0), (.str []), (.int .i64 0), (.int .u32 0), (.int .u32 0)] [(0, 1, (.c (.int .i64 1))), (2, 1, (.c (.int .i64 3)))]) none,
    MI.op (some 14) (.fa 1 (.tmp 1)) none,
    MI.op (some 15) (.fa 0 (.tmp 14)) none,
    MI.op none (.store 5 (.tmp 15) (.tmp 13)) none])
  m7_12)
def m7_14 : MCode :=
 (.seq
  (.reg
   [MI.op (some 10) (.fa 0 (.tmp 1)) none,
    MI.op none (.store 1 (.tmp 10) (.c (.int .i64 2))) none,
    MI.op (some 11) (.fa 38 (.tmp 1)) none,
    MI.op none (.store 1 (.tmp 11) (.c (.str [97, 98]))) none,
    MI.op (some 12) (.fa 39 (.tmp 1)) none,
    MI.op none (.store 1 (.tmp 12) (.c (.int .i64 3))) none])
  m7_13)
def m7_15 : MCode :=
 (.seq
  (.reg
   [MI.op (some 1) (.alloc [(.int .i64 0), (.int .i64 0), (.str []), (.int .i64 0), (.int .u32 0), (.int .u32 0), (.int .u8 0), (.int .u8 0), (.int .u8 0), (.int .u8 0), (.int .u8 0), (.int .u8 0), (.int .u8 0), (.int .u8 0), (.int .u8 0), (.int .u8 0), (.int .u8 0), (.int .u8 0), (.int .u8 0), (.int .u8 0), (.int .u8 0), (.int .u8 0), (.int .u8 0), (.int .u8 0), (.int .u8 0), (.int .u8 0), (.int .u8 0), (.int .u8 0), (.int .u8 0), (.int .u8 0), (.int .u8 0), (.int .u8 0), (.int .u8 0), (.int .u8 0), (.int .u8 0), (.int .u8 0), (.int .u8 0), (.int .u8 0), (.str []), (.int .i64 0), (.int .u8 0), (.int .u8 0), (.int .u8 0), (.int .u8 0), (.int .u8 0), (.int .u8 0), (.int .u8 0), (.int .u8 0), (.int .u8 0), (.int .u8 0), (.int .u8 0), (.int .u8 0), (.int .u8 0), (.int .u8 0), (.int .u8 0), (.int .u8 0), (.int .u8 0), (.int .u8 0), (.int .u8 0), (.int .u8 0), (.int .u8 0), (.int .u8 0), (.int .u8 0), (.int .u8 0), (.int .u8 0), (.int .u8 0), (.int .u8 0), (.int .u8 0), (.int .u8 0), (.int .u8 0), (.int .u8 0), (.int .u8 0)]) none])
  m7_14)
def m7_r : List MRes := [.tmp 0]
def m7_b : MCode :=
 (.seq
  (.reg
   [MI.op (some 0) (.mov (.c (.bool false))) none])
  m7_15)
def m7 : MFunc := ⟨0, 107, m7_r, m7_b⟩
theorem c7 : compF Tryd.prog 7 m7 = some m7 := by kernel_rfl

/- tollhouse/ask.Encode -/
def m8_1 : List MI :=
 [MI.op (some 9) (.mov (.tmp 12)) none,
  MI.op (some 13) (.ext (.tmp 9) 0) none,
  MI.op (some 14) (.ext (.tmp 9) 1) none,
  MI.op (some 4) (.mov (.tmp 13)) none,
  MI.op (some 5) (.mov (.tmp 14)) none]
def m8_2 : List MI :=
 [MI.op (some 37) (.un .not (.tmp 36)) (some (32, false)),
  MI.op (some 38) (.pick (.tmp 32) (.c (.bool true)) (.tmp 37)) none,
  MI.op (some 39) (.mov (.tmp 38)) none,
  MI.op (some 40) (.fa 39 (.tmp 1)) (some (39, false)),
  MI.op (some 41) (.load false 1 (.tmp 40)) (some (39, false)),
  MI.op (some 42) (.bin .lss (.tmp 41) (.c (.int .i64 0))) (some (39, false)),
  MI.op (some 43) (.pick (.tmp 39) (.c (.bool true)) (.tmp 42)) none,
  MI.op (some 44) (.mov (.tmp 43)) none,
  MI.op (some 45) (.fa 39 (.tmp 1)) (some (44, false)),
  MI.op (some 46) (.load false 1 (.tmp 45)) (some (44, false)),
  MI.op (some 47) (.bin .gtr (.tmp 46) (.c (.int .i64 255))) (some (44, false)),
  MI.op (some 48) (.pick (.tmp 44) (.c (.bool true)) (.tmp 47)) none,
  MI.op (some 15) (.mov (.tmp 48)) none]
def m8_3 : MCode :=
 (.seq
  (.reg
   [MI.op (some 2) (.mov (.c (.sl .full 0 []))) none,
    MI.op (some 3) (.mov (.c (.int .i64 11))) none])
  .ret)
def m8_4 : MCode :=
 (.seq
  (.reg
   [MI.op (some 2) (.mov (.c (.sl .full 0 []))) none,
    MI.op (some 3) (.mov (.c (.int .i64 11))) none])
  .ret)
def m8_5 : MCode :=
 (.cond (.tmp 49)
  m8_4
  .skip)
def m8_6 : MCode :=
 (.seq
  (.reg
   [MI.op (some 50) (.fa 0 (.tmp 1)) none,
    MI.op (some 51) (.load false 1 (.tmp 50)) none,
    MI.op (some 52) (.bin .neq (.tmp 51) (.c (.int .i64 2))) none,
    MI.op (some 53) (.mov (.tmp 52)) none,
    MI.op (some 54) (.fa 0 (.tmp 1)) (some (53, true)),
    MI.op (some 55) (.load false 1 (.tmp 54)) (some (53, true)),
    MI.op (some 56) (.bin .neq (.tmp 55) (.c (.int .i64 1))) (some (53, true)),
    MI.op (some 57) (.mov (.tmp 56)) (some (53, true)),
    MI.op (some 58) (.fa 40 (.tmp 1)) (some (57, false)),
    MI.op (some 59) (.load true 32 (.tmp 58)) (some (57, false)),
    MI.op (some 60) (.build (List.replicate 32 (.int .u8 0)) []) (some (57, false)),
    MI.op (some 61) (.eqv true [(32, .i)] (.tmp 59) (.tmp 60)) (some (57, false)),
    MI.op (some 62) (.pick (.tmp 57) (.c (.bool true)) (.tmp 61)) (some (53, true)),
    MI.op (some 63) (.pick (.tmp 53) (.tmp 62) (.c (.bool false))) none,
    MI.op (some 49) (.mov (.tmp 63)) none])
  m8_5)
def m8_7 : MCode :=
 (.cond (.tmp 15)
  m8_3
  m8_6)
def m8_8 : List MI :=
 [MI.op (some 6) (.alloc [(.int .u8 0), (.int .u8 0), (.int .u8 0), (.int .u8 0)]) none,
  MI.op none (.store 4 (.tmp 6) (.tmp 66)) none]
def m8_9 : MCode :=
 (.reg
  [MI.op (some 82) (.mov (.tmp 7)) none,
   MI.op (some 83) (.fa 40 (.tmp 1)) none,
   MI.op (some 84) (.slArr 32 1 (.tmp 83) none none none) none,
   MI.op (some 85) (.app 1 1 (.tmp 82) (.tmp 84)) none,
   MI.op (some 7) (.mov (.tmp 85)) none])
def m8_10 : MCode :=
 (.cond (.tmp 81)
  m8_9
  .skip)
def m8_11 : MCode :=
 (.seq
  (.reg
   [MI.op (some 89) (.mov (.tmp 7)) none,
    MI.op (some 90) (.mov (.tmp 8)) none,
    MI.op (some 91) (.toInt .u8 (.tmp 90)) none,
    MI.op (some 92) (.mov (.tmp 8)) none,
    MI.op (some 93) (.bin .shr (.tmp 92) (.c (.int .u64 8))) none,
    MI.op (some 94) (.toInt .u8 (.tmp 93)) none,
    MI.op (some 95) (.bsl 2 1 [(.int .u8 0)] [(0, 1, (.tmp 91)), (1, 1, (.tmp 94))]) none,
    MI.op (some 96) (.app 1 1 (.tmp 89) (.tmp 95)) none,
    MI.op (some 2) (.mov (.tmp 96)) none,
    MI.op (some 3) (.mov (.c (.int .i64 0))) none])
  .ret)
def m8_12 : MCode :=
 (.seq
  (.reg
   [MI.op (some 86) (.mov (.tmp 7)) none,
    MI.op (some 87) (.bslR 1 1 [(.sl .full 0 [])] [(0, 1, (.tmp 86))]) none,
    MI.op (some 88) (.call 16 [(.tmp 87)]) none,
    MI.op (some 8) (.mov (.tmp 88)) none])
  m8_11)
def m8_13 : MCode :=
 (.seq
  (.seq
   (.reg
    [MI.op (some 79) (.fa 0 (.tmp 1)) none,
     MI.op (some 80) (.load false 1 (.tmp 79)) none,
     MI.op (some 81) (.bin .eql (.tmp 80) (.c (.int .i64 2))) none])
  m8_10)
  m8_12)
def m8_14 : MCode :=
 (.seq
  (.drw
   [MI.op (some 67) (.fa 0 (.tmp 1)) none,
    MI.op (some 68) (.load false 1 (.tmp 67)) none,
    MI.op (some 69) (.toInt .u8 (.tmp 68)) none,
    MI.op (some 70) (.bsl 1 1 [(.int .u8 0)] [(0, 1, (.tmp 69))]) none,
    MI.op (some 71) (.mov (.tmp 4)) none,
    MI.op (some 72) (.slArr 4 1 (.tmp 6) none none none) none,
    MI.op (some 73) (.fa 39 (.tmp 1)) none,
    MI.op (some 74) (.load false 1 (.tmp 73)) none,
    MI.op (some 75) (.toInt .u8 (.tmp 74)) none,
    MI.op (some 76) (.bsl 1 1 [(.int .u8 0)] [(0, 1, (.tmp 75))]) none]
   [MI.op (some 77) (.bslR 4 1 [(.sl .full 0 [])] [(0, 1, (.tmp 70)), (1, 1, (.tmp 71)), (2, 1, (.tmp 72)), (3, 1, (.tmp 76))]) none,
    MI.op (some 78) (.call 18 [(.tmp 77)]) none,
    MI.op (some 7) (.mov (.tmp 78)) none])
  m8_13)
def m8_15 : MCode :=
 (.seq
  (.reg
   (MI.op (some 64) (.fa 38 (.tmp 1)) none ::
    MI.op (some 65) (.load false 1 (.tmp 64)) none ::
    MI.op (some 66) (.call 15 [(.tmp 65)]) none ::
    m8_8))
  m8_14)
def m8_16 : MCode :=
 (.seq
  (.blk 0
   (.seq
    (.reg
     (MI.op (some 16) (.mov (.tmp 5)) none ::
      MI.op (some 17) (.bin .neq (.tmp 16) (.c (.int .i64 0))) none ::
      MI.op (some 18) (.mov (.tmp 17)) none ::
      MI.op (some 19) (.fa 1 (.tmp 1)) (some (18, false)) ::
      MI.op (some 20) (.fa 0 (.tmp 19)) (some (18, false)) ::
      MI.op (some 21) (.fa 2 (.tmp 20)) (some (18, false)) ::
      MI.op (some 22) (.load false 1 (.tmp 21)) (some (18, false)) ::
      MI.op (some 23) (.bin .eql (.tmp 22) (.c (.int .i64 0))) (some (18, false)) ::
      MI.op (some 24) (.pick (.tmp 18) (.c (.bool true)) (.tmp 23)) none ::
      MI.op (some 25) (.mov (.tmp 24)) none ::
      MI.op (some 26) (.fa 1 (.tmp 1)) (some (25, false)) ::
      MI.op (some 27) (.fa 0 (.tmp 26)) (some (25, false)) ::
      MI.op (some 28) (.fa 0 (.tmp 27)) (some (25, false)) ::
      MI.op (some 29) (.load false 1 (.tmp 28)) (some (25, false)) ::
      MI.op (some 30) (.bin .lss (.tmp 29) (.c (.int .i64 0))) (some (25, false)) ::
      MI.op (some 31) (.pick (.tmp 25) (.c (.bool true)) (.tmp 30)) none ::
      MI.op (some 32) (.mov (.tmp 31)) none ::
      MI.op (some 33) (.fa 38 (.tmp 1)) (some (32, false)) ::
      MI.op (some 34) (.load false 1 (.tmp 33)) (some (32, false)) ::
      MI.op (some 35) (.bsl 1 1 [(.str [])] [(0, 1, (.tmp 34))]) (some (32, false)) ::
      MI.op (some 36) (.call 17 [(.tmp 35)]) (some (32, false)) ::
      m8_2))
  m8_7))
  m8_15)
def m8_17 : MCode :=
 (.seq
  (.reg
   (MI.op (some 10) (.fa 1 (.tmp 1)) none ::
    MI.op (some 11) (.load true 37 (.tmp 10)) none ::
    MI.op (some 12) (.call 14 [(.tmp 11)]) none ::
    m8_1))
  m8_16)
def m8_r : List MRes := [.tmp 2, .tmp 3]
def m8_b : MCode :=
 (.seq
  (.reg
   [MI.op (some 1) (.box (.tmp 0)) none,
    MI.op (some 2) (.mov (.c (.sl .full 0 []))) none,
    MI.op (some 3) (.mov (.c (.int .i64 0))) none])
  m8_17)
def m8 : MFunc := ⟨1, 97, m8_r, m8_b⟩
theorem c8 : compF Tryd.prog 8 m8 = some m8 := by kernel_rfl

/- tollhouse/tollhouseref16.Encode -/
def m9_1 : List MI :=
 [MI.op (some 8) (.mov (.tmp 11)) none,
  MI.op (some 12) (.ext (.tmp 8) 0) none,
  MI.op (some 13) (.ext (.tmp 8) 1) none,
  MI.op (some 4) (.mov (.tmp 12)) none,
  MI.op (some 5) (.mov (.tmp 13)) none]
def m9_2 : List MI :=
 [MI.op (some 42) (.un .not (.tmp 41)) (some (37, false)),
  MI.op (some 43) (.pick (.tmp 37) (.c (.bool true)) (.tmp 42)) none,
  MI.op (some 44) (.mov (.tmp 43)) none,
  MI.op (some 45) (.fa 39 (.tmp 1)) (some (44, false)),
  MI.op (some 46) (.load false 1 (.tmp 45)) (some (44, false)),
  MI.op (some 47) (.bin .lss (.tmp 46) (.c (.int .i64 0))) (some (44, false)),
  MI.op (some 48) (.pick (.tmp 44) (.c (.bool true)) (.tmp 47)) none,
  MI.op (some 49) (.mov (.tmp 48)) none,
  MI.op (some 50) (.fa 39 (.tmp 1)) (some (49, false)),
  MI.op (some 51) (.load false 1 (.tmp 50)) (some (49, false)),
  MI.op (some 52) (.bin .gtr (.tmp 51) (.c (.int .i64 255))) (some (49, false)),
  MI.op (some 53) (.pick (.tmp 49) (.c (.bool true)) (.tmp 52)) none]
def m9_3 : MCode :=
 (.seq
  (.reg
   [MI.op (some 2) (.mov (.c (.sl .full 0 []))) none,
    MI.op (some 3) (.mov (.c (.int .i64 11))) none])
  .ret)
def m9_4 : MCode :=
 (.cond (.tmp 53)
  m9_3
  .skip)
def m9_5 : List MI :=
 [MI.op (some 6) (.alloc [(.int .u8 0), (.int .u8 0), (.int .u8 0), (.int .u8 0)]) none,
  MI.op none (.store 4 (.tmp 6) (.tmp 56)) none]
def m9_6 : MCode :=
 (.reg
  [MI.op (some 74) (.mov (.tmp 7)) none,
   MI.op (some 75) (.fa 40 (.tmp 1)) none,
   MI.op (some 76) (.slArr 32 1 (.tmp 75) none none none) none,
   MI.op (some 77) (.app 1 1 (.tmp 74) (.tmp 76)) none,
   MI.op (some 7) (.mov (.tmp 77)) none])
def m9_7 : MCode :=
 (.cond (.tmp 73)
  m9_6
  .skip)
def m9_8 : List MI :=
 [MI.op (some 2) (.mov (.tmp 79)) none,
  MI.op (some 3) (.mov (.c (.int .i64 0))) none]
def m9_9 : MCode :=
 (.seq
  (.reg
   (MI.op (some 78) (.mov (.tmp 7)) none ::
    MI.op (some 79) (.call 22 [(.tmp 78)]) none ::
    m9_8))
  .ret)
def m9_10 : MCode :=
 (.seq
  (.seq
   (.reg
    [MI.op (some 71) (.fa 0 (.tmp 1)) none,
     MI.op (some 72) (.load false 1 (.tmp 71)) none,
     MI.op (some 73) (.bin .eql (.tmp 72) (.c (.int .i64 2))) none])
  m9_7)
  m9_9)
def m9_11 : MCode :=
 (.seq
  (.drc
   [MI.op (some 63) (.mov (.tmp 7)) none,
    MI.op (some 64) (.slArr 4 1 (.tmp 6) none none none) none]
   (MI.op (some 65) (.app 1 1 (.tmp 63) (.tmp 64)) none)
   [MI.op (some 66) (.fa 39 (.tmp 1)) none,
    MI.op (some 67) (.load false 1 (.tmp 66)) none,
    MI.op (some 68) (.toInt .u8 (.tmp 67)) none,
    MI.op (some 69) (.bsl 1 1 [(.int .u8 0)] [(0, 1, (.tmp 68))]) none]
   [MI.op (some 70) (.app 1 1 (.tmp 65) (.tmp 69)) none,
    MI.op (some 7) (.mov (.tmp 70)) none])
  m9_10)
def m9_12 : MCode :=
 (.seq
  (.reg
   [MI.op (some 57) (.fa 0 (.tmp 1)) none,
    MI.op (some 58) (.load false 1 (.tmp 57)) none,
    MI.op (some 59) (.toInt .u8 (.tmp 58)) none,
    MI.op (some 60) (.bsl 1 1 [(.int .u8 0)] [(0, 1, (.tmp 59))]) none,
    MI.op (some 61) (.mov (.tmp 4)) none,
    MI.op (some 62) (.app 1 1 (.tmp 60) (.tmp 61)) none,
    MI.op (some 7) (.mov (.tmp 62)) none])
  m9_11)
def m9_13 : MCode :=
 (.seq
  (.reg
   (MI.op (some 54) (.fa 38 (.tmp 1)) none ::
    MI.op (some 55) (.load false 1 (.tmp 54)) none ::
    MI.op (some 56) (.call 21 [(.tmp 55)]) none ::
    m9_5))
  m9_12)
def m9_14 : MCode :=
 (.seq
  (.seq
   (.reg
    (MI.op (some 14) (.mov (.tmp 5)) none ::
     MI.op (some 15) (.bin .neq (.tmp 14) (.c (.int .i64 0))) none ::
     MI.op (some 16) (.mov (.tmp 15)) none ::
     MI.op (some 17) (.fa 0 (.tmp 1)) (some (16, false)) ::
     MI.op (some 18) (.load false 1 (.tmp 17)) (some (16, false)) ::
     MI.op (some 19) (.bin .neq (.tmp 18) (.c (.int .i64 1))) (some (16, false)) ::
     MI.op (some 20) (.mov (.tmp 19)) (some (16, false)) ::
     MI.op (some 21) (.fa 0 (.tmp 1)) (some (20, true)) ::
     MI.op (some 22) (.load false 1 (.tmp 21)) (some (20, true)) ::
     MI.op (some 23) (.bin .neq (.tmp 22) (.c (.int .i64 2))) (some (20, true)) ::
     MI.op (some 24) (.pick (.tmp 20) (.tmp 23) (.c (.bool false))) (some (16, false)) ::
     MI.op (some 25) (.pick (.tmp 16) (.c (.bool true)) (.tmp 24)) none ::
     MI.op (some 26) (.mov (.tmp 25)) none ::
     MI.op (some 27) (.fa 0 (.tmp 1)) (some (26, false)) ::
     MI.op (some 28) (.load false 1 (.tmp 27)) (some (26, false)) ::
     MI.op (some 29) (.bin .eql (.tmp 28) (.c (.int .i64 1))) (some (26, false)) ::
     MI.op (some 30) (.mov (.tmp 29)) (some (26, false)) ::
     MI.op (some 31) (.fa 40 (.tmp 1)) (some (30, true)) ::
     MI.op (some 32) (.load true 32 (.tmp 31)) (some (30, true)) ::
     MI.op (some 33) (.build (List.replicate 32 (.int .u8 0)) []) (some (30, true)) ::
     MI.op (some 34) (.eqv true [(32, .i)] (.tmp 32) (.tmp 33)) (some (30, true)) ::
     MI.op (some 35) (.pick (.tmp 30) (.tmp 34) (.c (.bool false))) (some (26, false)) ::
     MI.op (some 36) (.pick (.tmp 26) (.c (.bool true)) (.tmp 35)) none ::
     MI.op (some 37) (.mov (.tmp 36)) none ::
     MI.op (some 38) (.fa 38 (.tmp 1)) (some (37, false)) ::
     MI.op (some 39) (.load false 1 (.tmp 38)) (some (37, false)) ::
     MI.op (some 40) (.bsl 1 1 [(.str [])] [(0, 1, (.tmp 39))]) (some (37, false)) ::
     MI.op (some 41) (.call 20 [(.tmp 40)]) (some (37, false)) ::
     m9_2))
  m9_4)
  m9_13)
def m9_15 : MCode :=
 (.seq
  (.reg
   (MI.op (some 9) (.fa 1 (.tmp 1)) none ::
    MI.op (some 10) (.load true 37 (.tmp 9)) none ::
    MI.op (some 11) (.call 19 [(.tmp 10)]) none ::
    m9_1))
  m9_14)
def m9_r : List MRes := [.tmp 2, .tmp 3]
def m9_b : MCode :=
 (.seq
  (.reg
   [MI.op (some 1) (.box (.tmp 0)) none,
    MI.op (some 2) (.mov (.c (.sl .full 0 []))) none,
    MI.op (some 3) (.mov (.c (.int .i64 0))) none])
  m9_15)
def m9 : MFunc := ⟨1, 80, m9_r, m9_b⟩
theorem c9 : compF Tryd.prog 9 m9 = some m9 := by kernel_rfl

/- tollhouse/ask.Decode -/
def m10_1 : MCode :=
 (.seq
  (.reg
   [MI.op (some 19) (.build [(.int .i64 0), (.int .i64 0), (.str []), (.int .i64 0), (.int .u32 0), (.int .u32 0), (.int .u8 0), (.int .u8 0), (.int .u8 0), (.int .u8 0), (.int .u8 0), (.int .u8 0), (.int .u8 0), (.int .u8 0), (.int .u8 0), (.int .u8 0), (.int .u8 0), (.int .u8 0), (.int .u8 0), (.int .u8 0), (.int .u8 0), (.int .u8 0), (.int .u8 0), (.int .u8 0), (.int .u8 0), (.int .u8 0), (.int .u8 0), (.int .u8 0), (.int .u8 0), (.int .u8 0), (.int .u8 0), (.int .u8 0), (.int .u8 0), (.int .u8 0), (.int .u8 0), (.int .u8 0), (.int .u8 0), (.int .u8 0), (.str []), (.int .i64 0), (.int .u8 0), (.int .u8 0), (.int .u8 0), (.int .u8 0), (.int .u8 0), (.int .u8 0), (.int .u8 0), (.int .u8 0), (.int .u8 0), (.int .u8 0), (.int .u8 0), (.int .u8 0), (.int .u8 0), (.int .u8 0), (.int .u8 0), (.int .u8 0), (.int .u8 0), (.int .u8 0), (.int .u8 0), (.int .u8 0), (.int .u8 0), (.int .u8 0), (.int .u8 0), (.int .u8 0), (.int .u8 0), (.int .u8 0), (.int .u8 0), (.int .u8 0), (.int .u8 0), (.int .u8 0), (.int .u8 0), (.int .u8 0)] []) none,
    MI.op none (.store 72 (.tmp 2) (.tmp 19)) none,
    MI.op (some 3) (.mov (.c (.int .i64 11))) none])
  .ret)
def m10_2 : MCode :=
 (.cond (.tmp 18)
  m10_1
  .skip)
def m10_3 : List MI :=
 [MI.op (some 20) (.mov (.tmp 23)) none,
  MI.op (some 24) (.ext (.tmp 20) 0) none,
  MI.op (some 25) (.ext (.tmp 20) 1) none,
  MI.op (some 4) (.alloc [(.int .i64 0), (.str []), (.int .i64 0), (.int .u32 0), (.int .u32 0), (.int .u8 0), (.int .u8 0), (.int .u8 0), (.int .u8 0), (.int .u8 0), (.int .u8 0), (.int .u8 0), (.int .u8 0), (.int .u8 0), (.int .u8 0), (.int .u8 0), (.int .u8 0), (.int .u8 0), (.int .u8 0), (.int .u8 0), (.int .u8 0), (.int .u8 0), (.int .u8 0), (.int .u8 0), (.int .u8 0), (.int .u8 0), (.int .u8 0), (.int .u8 0), (.int .u8 0), (.int .u8 0), (.int .u8 0), (.int .u8 0), (.int .u8 0), (.int .u8 0), (.int .u8 0), (.int .u8 0), (.int .u8 0)]) none,
  MI.op none (.store 37 (.tmp 4) (.tmp 24)) none,
  MI.op (some 5) (.mov (.tmp 25)) none]
def m10_4 : List MI :=
 [MI.op (some 26) (.mov (.tmp 31)) none,
  MI.op (some 32) (.ext (.tmp 26) 0) none,
  MI.op (some 33) (.ext (.tmp 26) 1) none,
  MI.op (some 6) (.mov (.tmp 32)) none,
  MI.op (some 7) (.mov (.tmp 33)) none]
def m10_5 : MCode :=
 (.seq
  (.reg
   [MI.op (some 40) (.build [(.int .i64 0), (.int .i64 0), (.str []), (.int .i64 0), (.int .u32 0), (.int .u32 0), (.int .u8 0), (.int .u8 0), (.int .u8 0), (.int .u8 0), (.int .u8 0), (.int .u8 0), (.int .u8 0), (.int .u8 0), (.int .u8 0), (.int .u8 0), (.int .u8 0), (.int .u8 0), (.int .u8 0), (.int .u8 0), (.int .u8 0), (.int .u8 0), (.int .u8 0), (.int .u8 0), (.int .u8 0), (.int .u8 0), (.int .u8 0), (.int .u8 0), (.int .u8 0), (.int .u8 0), (.int .u8 0), (.int .u8 0), (.int .u8 0), (.int .u8 0), (.int .u8 0), (.int .u8 0), (.int .u8 0), (.int .u8 0), (.str []), (.int .i64 0), (.int .u8 0), (.int .u8 0), (.int .u8 0), (.int .u8 0), (.int .u8 0), (.int .u8 0), (.int .u8 0), (.int .u8 0), (.int .u8 0), (.int .u8 0), (.int .u8 0), (.int .u8 0), (.int .u8 0), (.int .u8 0), (.int .u8 0), (.int .u8 0), (.int .u8 0), (.int .u8 0), (.int .u8 0), (.int .u8 0), (.int .u8 0), (.int .u8 0), (.int .u8 0), (.int .u8 0), (.int .u8 0), (.int .u8 0), (.int .u8 0), (.int .u8 0), (.int .u8 0), (.int .u8 0), (.int .u8 0), (.int .u8 0)] []) none,
    MI.op none (.store 72 (.tmp 2) (.tmp 40)) none,
    MI.op (some 3) (.mov (.c (.int .i64 11))) none])
  .ret)
def m10_6 : MCode :=
 (.cond (.tmp 39)
  m10_5
  .skip)
def m10_7 : MCode :=
 (.reg
  [MI.op (some 55) (.mov (.tmp 0)) none,
   MI.op (some 56) (.slSl 1 (.tmp 55) (some (.c (.int .i64 52))) (some (.c (.int .i64 84))) none) none,
   MI.op (some 57) (.arrOf 32 1 (.tmp 56)) none,
   MI.op (some 58) (.load true 32 (.tmp 57)) none,
   MI.op (some 59) (.fa 40 (.tmp 8)) none,
   MI.op none (.store 32 (.tmp 59) (.tmp 58)) none])
def m10_8 : MCode :=
 (.cond (.tmp 54)
  m10_7
  .skip)
def m10_9 : List MI :=
 [MI.op (some 60) (.mov (.tmp 62)) none,
  MI.op (some 63) (.ext (.tmp 60) 0) none,
  MI.op (some 64) (.ext (.tmp 60) 1) none,
  MI.op (some 9) (.mov (.tmp 63)) none,
  MI.op (some 10) (.mov (.tmp 64)) none]
def m10_10 : List MI :=
 [MI.op (some 71) (.un .not (.tmp 70)) (some (67, false)),
  MI.op (some 72) (.pick (.tmp 67) (.c (.bool true)) (.tmp 71)) none]
def m10_11 : MCode :=
 (.seq
  (.reg
   [MI.op (some 73) (.build [(.int .i64 0), (.int .i64 0), (.str []), (.int .i64 0), (.int .u32 0), (.int .u32 0), (.int .u8 0), (.int .u8 0), (.int .u8 0), (.int .u8 0), (.int .u8 0), (.int .u8 0), (.int .u8 0), (.int .u8 0), (.int .u8 0), (.int .u8 0), (.int .u8 0), (.int .u8 0), (.int .u8 0), (.int .u8 0), (.int .u8 0), (.int .u8 0), (.int .u8 0), (.int .u8 0), (.int .u8 0), (.int .u8 0), (.int .u8 0), (.int .u8 0), (.int .u8 0), (.int .u8 0), (.int .u8 0), (.int .u8 0), (.int .u8 0), (.int .u8 0), (.int .u8 0), (.int .u8 0), (.int .u8 0), (.int .u8 0), (.str []), (.int .i64 0), (.int .u8 0), (.int .u8 0), (.int .u8 0), (.int .u8 0), (.int .u8 0), (.int .u8 0), (.int .u8 0), (.int .u8 0), (.int .u8 0), (.int .u8 0), (.int .u8 0), (.int .u8 0), (.int .u8 0), (.int .u8 0), (.int .u8 0), (.int .u8 0), (.int .u8 0), (.int .u8 0), (.int .u8 0), (.int .u8 0), (.int .u8 0), (.int .u8 0), (.int .u8 0), (.int .u8 0), (.int .u8 0), (.int .u8 0), (.int .u8 0), (.int .u8 0), (.int .u8 0), (.int .u8 0), (.int .u8 0), (.int .u8 0)] []) none,
    MI.op none (.store 72 (.tmp 2) (.tmp 73)) none,
    MI.op (some 3) (.mov (.c (.int .i64 11))) none])
  .ret)
def m10_12 : MCode :=
 (.cond (.tmp 72)
  m10_11
  .skip)
def m10_13 : MCode :=
 (.seq
  (.reg
   (MI.op (some 65) (.mov (.tmp 10)) none ::
    MI.op (some 66) (.bin .neq (.tmp 65) (.c (.int .i64 0))) none ::
    MI.op (some 67) (.mov (.tmp 66)) none ::
    MI.op (some 68) (.mov (.tmp 9)) (some (67, false)) ::
    MI.op (some 69) (.mov (.tmp 0)) (some (67, false)) ::
    MI.op (some 70) (.call 25 [(.tmp 68), (.tmp 69)]) (some (67, false)) ::
    m10_10))
  m10_12)
def m10_14 : MCode :=
 (.seq
  (.reg
   [MI.op (some 74) (.load true 72 (.tmp 8)) none,
    MI.op none (.store 72 (.tmp 2) (.tmp 74)) none,
    MI.op (some 3) (.mov (.c (.int .i64 0))) none])
  .ret)
def m10_15 : MCode :=
 (.seq
  (.seq
   (.reg
    (MI.op (some 61) (.load true 72 (.tmp 8)) none ::
     MI.op (some 62) (.call 8 [(.tmp 61)]) none ::
     m10_9))
  m10_13)
  m10_14)
def m10_16 : MCode :=
 (.seq
  (.seq
   (.reg
    [MI.op (some 52) (.mov (.tmp 0)) none,
     MI.op (some 53) (.len (.tmp 52)) none,
     MI.op (some 54) (.bin .eql (.tmp 53) (.c (.int .i64 86))) none])
  m10_8)
  m10_15)
def m10_17 : MCode :=
 (.seq
  (.drw
   [MI.op (some 41) (.mov (.tmp 0)) none,
    MI.op (some 42) (.ixSl 1 (.tmp 41) (.c (.int .i64 0))) none,
    MI.op (some 43) (.load false 1 (.tmp 42)) none,
    MI.op (some 44) (.toInt .i64 (.tmp 43)) none,
    MI.op (some 45) (.load true 37 (.tmp 4)) none,
    MI.op (some 46) (.mov (.tmp 6)) none,
    MI.op (some 47) (.mov (.tmp 0)) none,
    MI.op (some 48) (.ixSl 1 (.tmp 47) (.c (.int .i64 51))) none,
    MI.op (some 49) (.load false 1 (.tmp 48)) none,
    MI.op (some 50) (.toInt .i64 (.tmp 49)) none,
    MI.op (some 51) (.build [(.int .i64 0), (.int .i64 0), (.str []), (.int .i64 0), (.int .u32 0), (.int .u32 0), (.int .u8 0), (.int .u8 0), (.int .u8 0), (.int .u8 0), (.int .u8 0), (.int .u8 0), (.int .u8 0), (.int .u8 0), (.int .u8 0), (.int .u8 0), (.int .u8 0), (.int .u8 0), (.int .u8 0), (.int .u8 0), (.int .u8 0), (.int .u8 0), (.int .u8 0), (.int .u8 0), (.int .u8 0), (.int .u8 0), (.int .u8 0), (.int .u8 0), (.int .u8 0), (.int .u8 0), (.int .u8 0), (.int .u8 0), (.int .u8 0), (.int .u8 0), (.int .u8 0), (.int .u8 0), (.int .u8 0), (.int .u8 0), (.str []), (.int .i64 0), (.int .u8 0), (.int .u8 0), (.int .u8 0), (.int .u8 0), (.int .u8 0), (.int .u8 0), (.int .u8 0), (.int .u8 0), (.int .u8 0), (.int .u8 0), (.int .u8 0), (.int .u8 0), (.int .u8 0), (.int .u8 0), (.int .u8 0), (.int .u8 0), (.int .u8 0), (.int .u8 0), (.int .u8 0), (.int .u8 0), (.int .u8 0), (.int .u8 0), (.int .u8 0), (.int .u8 0), (.int .u8 0), (.int .u8 0), (.int .u8 0), (.int .u8 0), (.int .u8 0), (.int .u8 0), (.int .u8 0), (.int .u8 0)] [(0, 1, (.tmp 44)), (1, 37, (.tmp 45)), (38, 1, (.tmp 46)), (39, 1, (.tmp 50))]) none,
    MI.op (some 8) (.alloc [(.int .i64 0), (.int .i64 0), (.str []), (.int .i64 0), (.int .u32 0), (.int .u32 0), (.int .u8 0), (.int .u8 0), (.int .u8 0), (.int .u8 0), (.int .u8 0), (.int .u8 0), (.int .u8 0), (.int .u8 0), (.int .u8 0), (.int .u8 0), (.int .u8 0), (.int .u8 0), (.int .u8 0), (.int .u8 0), (.int .u8 0), (.int .u8 0), (.int .u8 0), (.int .u8 0), (.int .u8 0), (.int .u8 0), (.int .u8 0), (.int .u8 0), (.int .u8 0), (.int .u8 0), (.int .u8 0), (.int .u8 0), (.int .u8 0), (.int .u8 0), (.int .u8 0), (.int .u8 0), (.int .u8 0), (.int .u8 0), (.str []), (.int .i64 0), (.int .u8 0), (.int .u8 0), (.int .u8 0), (.int .u8 0), (.int .u8 0), (.int .u8 0), (.int .u8 0), (.int .u8 0), (.int .u8 0), (.int .u8 0), (.int .u8 0), (.int .u8 0), (.int .u8 0), (.int .u8 0), (.int .u8 0), (.int .u8 0), (.int .u8 0), (.int .u8 0), (.int .u8 0), (.int .u8 0), (.int .u8 0), (.int .u8 0), (.int .u8 0), (.int .u8 0), (.int .u8 0), (.int .u8 0), (.int .u8 0), (.int .u8 0), (.int .u8 0), (.int .u8 0), (.int .u8 0), (.int .u8 0)]) none]
   [MI.op none (.store 72 (.tmp 8) (.tmp 51)) none])
  m10_16)
def m10_18 : MCode :=
 (.seq
  (.seq
   (.reg
    [MI.op (some 34) (.mov (.tmp 5)) none,
     MI.op (some 35) (.bin .neq (.tmp 34) (.c (.int .i64 0))) none,
     MI.op (some 36) (.mov (.tmp 35)) none,
     MI.op (some 37) (.mov (.tmp 7)) (some (36, false)),
     MI.op (some 38) (.un .not (.tmp 37)) (some (36, false)),
     MI.op (some 39) (.pick (.tmp 36) (.c (.bool true)) (.tmp 38)) none])
  m10_6)
  m10_17)
def m10_19 : MCode :=
 (.seq
  (.reg
   (MI.op (some 27) (.mov (.tmp 0)) none ::
    MI.op (some 28) (.slSl 1 (.tmp 27) (some (.c (.int .i64 47))) (some (.c (.int .i64 51))) none) none ::
    MI.op (some 29) (.arrOf 4 1 (.tmp 28)) none ::
    MI.op (some 30) (.load true 4 (.tmp 29)) none ::
    MI.op (some 31) (.call 24 [(.tmp 30)]) none ::
    m10_4))
  m10_18)
def m10_20 : MCode :=
 (.seq
  (.reg
   (MI.op (some 21) (.mov (.tmp 0)) none ::
    MI.op (some 22) (.slSl 1 (.tmp 21) (some (.c (.int .i64 1))) (some (.c (.int .i64 47))) none) none ::
    MI.op (some 23) (.call 23 [(.tmp 22)]) none ::
    m10_3))
  m10_19)
def m10_21 : MCode :=
 (.seq
  (.seq
   (.reg
    [MI.op (some 11) (.mov (.tmp 0)) none,
     MI.op (some 12) (.len (.tmp 11)) none,
     MI.op (some 13) (.bin .neq (.tmp 12) (.c (.int .i64 54))) none,
     MI.op (some 14) (.mov (.tmp 13)) none,
     MI.op (some 15) (.mov (.tmp 0)) (some (14, true)),
     MI.op (some 16) (.len (.tmp 15)) (some (14, true)),
     MI.op (some 17) (.bin .neq (.tmp 16) (.c (.int .i64 86))) (some (14, true)),
     MI.op (some 18) (.pick (.tmp 14) (.tmp 17) (.c (.bool false))) none])
  m10_2)
  m10_20)
def m10_r : List MRes := [.cell 2 true 72, .tmp 3]
def m10_b : MCode :=
 (.seq
  (.reg
   [MI.op (some 2) (.alloc [(.int .i64 0), (.int .i64 0), (.str []), (.int .i64 0), (.int .u32 0), (.int .u32 0), (.int .u8 0), (.int .u8 0), (.int .u8 0), (.int .u8 0), (.int .u8 0), (.int .u8 0), (.int .u8 0), (.int .u8 0), (.int .u8 0), (.int .u8 0), (.int .u8 0), (.int .u8 0), (.int .u8 0), (.int .u8 0), (.int .u8 0), (.int .u8 0), (.int .u8 0), (.int .u8 0), (.int .u8 0), (.int .u8 0), (.int .u8 0), (.int .u8 0), (.int .u8 0), (.int .u8 0), (.int .u8 0), (.int .u8 0), (.int .u8 0), (.int .u8 0), (.int .u8 0), (.int .u8 0), (.int .u8 0), (.int .u8 0), (.str []), (.int .i64 0), (.int .u8 0), (.int .u8 0), (.int .u8 0), (.int .u8 0), (.int .u8 0), (.int .u8 0), (.int .u8 0), (.int .u8 0), (.int .u8 0), (.int .u8 0), (.int .u8 0), (.int .u8 0), (.int .u8 0), (.int .u8 0), (.int .u8 0), (.int .u8 0), (.int .u8 0), (.int .u8 0), (.int .u8 0), (.int .u8 0), (.int .u8 0), (.int .u8 0), (.int .u8 0), (.int .u8 0), (.int .u8 0), (.int .u8 0), (.int .u8 0), (.int .u8 0), (.int .u8 0), (.int .u8 0), (.int .u8 0), (.int .u8 0)]) none,
    MI.op (some 3) (.mov (.c (.int .i64 0))) none])
  m10_21)
def m10 : MFunc := ⟨1, 75, m10_r, m10_b⟩
theorem c10 : compF Tryd.prog 10 m10 = some m10 := by kernel_rfl

/- tollhouse/tollhouseref16.Decode -/
def m11_1 : MCode :=
 (.seq
  (.reg
   [MI.op (some 18) (.build [(.int .i64 0), (.int .i64 0), (.str []), (.int .i64 0), (.int .u32 0), (.int .u32 0), (.int .u8 0), (.int .u8 0), (.int .u8 0), (.int .u8 0), (.int .u8 0), (.int .u8 0), (.int .u8 0), (.int .u8 0), (.int .u8 0), (.int .u8 0), (.int .u8 0), (.int .u8 0), (.int .u8 0), (.int .u8 0), (.int .u8 0), (.int .u8 0), (.int .u8 0), (.int .u8 0), (.int .u8 0), (.int .u8 0), (.int .u8 0), (.int .u8 0), (.int .u8 0), (.int .u8 0), (.int .u8 0), (.int .u8 0), (.int .u8 0), (.int .u8 0), (.int .u8 0), (.int .u8 0), (.int .u8 0), (.int .u8 0), (.str []), (.int .i64 0), (.int .u8 0), (.int .u8 0), (.int .u8 0), (.int .u8 0), (.int .u8 0), (.int .u8 0), (.int .u8 0), (.int .u8 0), (.int .u8 0), (.int .u8 0), (.int .u8 0), (.int .u8 0), (.int .u8 0), (.int .u8 0), (.int .u8 0), (.int .u8 0), (.int .u8 0), (.int .u8 0), (.int .u8 0), (.int .u8 0), (.int .u8 0), (.int .u8 0), (.int .u8 0), (.int .u8 0), (.int .u8 0), (.int .u8 0), (.int .u8 0), (.int .u8 0), (.int .u8 0), (.int .u8 0), (.int .u8 0), (.int .u8 0)] []) none,
    MI.op none (.store 72 (.tmp 2) (.tmp 18)) none,
    MI.op (some 3) (.mov (.c (.int .i64 11))) none])
  .ret)
def m11_2 : MCode :=
 (.cond (.tmp 17)
  m11_1
  .skip)
def m11_3 : List MI :=
 [MI.op (some 19) (.mov (.tmp 22)) none,
  MI.op (some 23) (.ext (.tmp 19) 0) none,
  MI.op (some 24) (.ext (.tmp 19) 1) none,
  MI.op (some 4) (.alloc [(.int .i64 0), (.str []), (.int .i64 0), (.int .u32 0), (.int .u32 0), (.int .u8 0), (.int .u8 0), (.int .u8 0), (.int .u8 0), (.int .u8 0), (.int .u8 0), (.int .u8 0), (.int .u8 0), (.int .u8 0), (.int .u8 0), (.int .u8 0), (.int .u8 0), (.int .u8 0), (.int .u8 0), (.int .u8 0), (.int .u8 0), (.int .u8 0), (.int .u8 0), (.int .u8 0), (.int .u8 0), (.int .u8 0), (.int .u8 0), (.int .u8 0), (.int .u8 0), (.int .u8 0), (.int .u8 0), (.int .u8 0), (.int .u8 0), (.int .u8 0), (.int .u8 0), (.int .u8 0), (.int .u8 0)]) none,
  MI.op none (.store 37 (.tmp 4) (.tmp 23)) none,
  MI.op (some 5) (.mov (.tmp 24)) none]
def m11_4 : MCode :=
 (.drw
  [MI.op (some 54) (.fa 40 (.tmp 7)) none,
   MI.op (some 55) (.slArr 32 1 (.tmp 54) none none none) none,
   MI.op (some 56) (.mov (.tmp 0)) none,
   MI.op (some 57) (.slSl 1 (.tmp 56) (some (.c (.int .i64 52))) (some (.c (.int .i64 84))) none) none]
  [MI.op (some 58) (.copy 1 (.tmp 55) (.tmp 57)) none])
def m11_5 : MCode :=
 (.cond (.tmp 53)
  m11_4
  .skip)
def m11_6 : List MI :=
 [MI.op (some 59) (.mov (.tmp 61)) none,
  MI.op (some 62) (.ext (.tmp 59) 0) none,
  MI.op (some 63) (.ext (.tmp 59) 1) none,
  MI.op (some 8) (.mov (.tmp 62)) none,
  MI.op (some 9) (.mov (.tmp 63)) none]
def m11_7 : MCode :=
 (.seq
  (.reg
   [MI.op (some 77) (.build [(.int .i64 0), (.int .i64 0), (.str []), (.int .i64 0), (.int .u32 0), (.int .u32 0), (.int .u8 0), (.int .u8 0), (.int .u8 0), (.int .u8 0), (.int .u8 0), (.int .u8 0), (.int .u8 0), (.int .u8 0), (.int .u8 0), (.int .u8 0), (.int .u8 0), (.int .u8 0), (.int .u8 0), (.int .u8 0), (.int .u8 0), (.int .u8 0), (.int .u8 0), (.int .u8 0), (.int .u8 0), (.int .u8 0), (.int .u8 0), (.int .u8 0), (.int .u8 0), (.int .u8 0), (.int .u8 0), (.int .u8 0), (.int .u8 0), (.int .u8 0), (.int .u8 0), (.int .u8 0), (.int .u8 0), (.int .u8 0), (.str []), (.int .i64 0), (.int .u8 0), (.int .u8 0), (.int .u8 0), (.int .u8 0), (.int .u8 0), (.int .u8 0), (.int .u8 0), (.int .u8 0), (.int .u8 0), (.int .u8 0), (.int .u8 0), (.int .u8 0), (.int .u8 0), (.int .u8 0), (.int .u8 0), (.int .u8 0), (.int .u8 0), (.int .u8 0), (.int .u8 0), (.int .u8 0), (.int .u8 0), (.int .u8 0), (.int .u8 0), (.int .u8 0), (.int .u8 0), (.int .u8 0), (.int .u8 0), (.int .u8 0), (.int .u8 0), (.int .u8 0), (.int .u8 0), (.int .u8 0)] []) none,
    MI.op none (.store 72 (.tmp 2) (.tmp 77)) none,
    MI.op (some 3) (.mov (.c (.int .i64 11))) none])
  .ret)
def m11_8 : MCode :=
 (.cond (.tmp 76)
  m11_7
  .skip)
def m11_9 : MCode :=
 (.seq
  (.reg
   [MI.op (some 78) (.load true 72 (.tmp 7)) none,
    MI.op none (.store 72 (.tmp 2) (.tmp 78)) none,
    MI.op (some 3) (.mov (.c (.int .i64 0))) none])
  .ret)
def m11_10 : MCode :=
 (.seq
  (.seq
   (.reg
    [MI.op (some 64) (.mov (.tmp 5)) none,
     MI.op (some 65) (.bin .neq (.tmp 64) (.c (.int .i64 0))) none,
     MI.op (some 66) (.mov (.tmp 65)) none,
     MI.op (some 67) (.mov (.tmp 9)) (some (66, false)),
     MI.op (some 68) (.bin .neq (.tmp 67) (.c (.int .i64 0))) (some (66, false)),
     MI.op (some 69) (.pick (.tmp 66) (.c (.bool true)) (.tmp 68)) none,
     MI.op (some 70) (.mov (.tmp 69)) none,
     MI.op (some 71) (.mov (.tmp 8)) (some (70, false)),
     MI.op (some 72) (.toStr (.tmp 71)) (some (70, false)),
     MI.op (some 73) (.mov (.tmp 0)) (some (70, false)),
     MI.op (some 74) (.toStr (.tmp 73)) (some (70, false)),
     MI.op (some 75) (.bin .neq (.tmp 72) (.tmp 74)) (some (70, false)),
     MI.op (some 76) (.pick (.tmp 70) (.c (.bool true)) (.tmp 75)) none])
  m11_8)
  m11_9)
def m11_11 : MCode :=
 (.seq
  (.reg
   (MI.op (some 60) (.load true 72 (.tmp 7)) none ::
    MI.op (some 61) (.call 9 [(.tmp 60)]) none ::
    m11_6))
  m11_10)
def m11_12 : MCode :=
 (.seq
  (.seq
   (.reg
    [MI.op (some 51) (.mov (.tmp 0)) none,
     MI.op (some 52) (.len (.tmp 51)) none,
     MI.op (some 53) (.bin .eql (.tmp 52) (.c (.int .i64 86))) none])
  m11_5)
  m11_11)
def m11_13 : MCode :=
 (.seq
  (.drw
   [MI.op (some 39) (.mov (.tmp 0)) none,
    MI.op (some 40) (.ixSl 1 (.tmp 39) (.c (.int .i64 0))) none,
    MI.op (some 41) (.load false 1 (.tmp 40)) none,
    MI.op (some 42) (.toInt .i64 (.tmp 41)) none,
    MI.op (some 43) (.load true 37 (.tmp 4)) none,
    MI.op (some 44) (.fa 0 (.tmp 6)) none,
    MI.op (some 45) (.load false 1 (.tmp 44)) none,
    MI.op (some 46) (.mov (.tmp 0)) none,
    MI.op (some 47) (.ixSl 1 (.tmp 46) (.c (.int .i64 51))) none,
    MI.op (some 48) (.load false 1 (.tmp 47)) none,
    MI.op (some 49) (.toInt .i64 (.tmp 48)) none,
    MI.op (some 50) (.build [(.int .i64 0), (.int .i64 0), (.str []), (.int .i64 0), (.int .u32 0), (.int .u32 0), (.int .u8 0), (.int .u8 0), (.int .u8 0), (.int .u8 0), (.int .u8 0), (.int .u8 0), (.int .u8 0), (.int .u8 0), (.int .u8 0), (.int .u8 0), (.int .u8 0), (.int .u8 0), (.int .u8 0), (.int .u8 0), (.int .u8 0), (.int .u8 0), (.int .u8 0), (.int .u8 0), (.int .u8 0), (.int .u8 0), (.int .u8 0), (.int .u8 0), (.int .u8 0), (.int .u8 0), (.int .u8 0), (.int .u8 0), (.int .u8 0), (.int .u8 0), (.int .u8 0), (.int .u8 0), (.int .u8 0), (.int .u8 0), (.str []), (.int .i64 0), (.int .u8 0), (.int .u8 0), (.int .u8 0), (.int .u8 0), (.int .u8 0), (.int .u8 0), (.int .u8 0), (.int .u8 0), (.int .u8 0), (.int .u8 0), (.int .u8 0), (.int .u8 0), (.int .u8 0), (.int .u8 0), (.int .u8 0), (.int .u8 0), (.int .u8 0), (.int .u8 0), (.int .u8 0), (.int .u8 0), (.int .u8 0), (.int .u8 0), (.int .u8 0), (.int .u8 0), (.int .u8 0), (.int .u8 0), (.int .u8 0), (.int .u8 0), (.int .u8 0), (.int .u8 0), (.int .u8 0), (.int .u8 0)] [(0, 1, (.tmp 42)), (1, 37, (.tmp 43)), (38, 1, (.tmp 45)), (39, 1, (.tmp 49))]) none,
    MI.op (some 7) (.alloc [(.int .i64 0), (.int .i64 0), (.str []), (.int .i64 0), (.int .u32 0), (.int .u32 0), (.int .u8 0), (.int .u8 0), (.int .u8 0), (.int .u8 0), (.int .u8 0), (.int .u8 0), (.int .u8 0), (.int .u8 0), (.int .u8 0), (.int .u8 0), (.int .u8 0), (.int .u8 0), (.int .u8 0), (.int .u8 0), (.int .u8 0), (.int .u8 0), (.int .u8 0), (.int .u8 0), (.int .u8 0), (.int .u8 0), (.int .u8 0), (.int .u8 0), (.int .u8 0), (.int .u8 0), (.int .u8 0), (.int .u8 0), (.int .u8 0), (.int .u8 0), (.int .u8 0), (.int .u8 0), (.int .u8 0), (.int .u8 0), (.str []), (.int .i64 0), (.int .u8 0), (.int .u8 0), (.int .u8 0), (.int .u8 0), (.int .u8 0), (.int .u8 0), (.int .u8 0), (.int .u8 0), (.int .u8 0), (.int .u8 0), (.int .u8 0), (.int .u8 0), (.int .u8 0), (.int .u8 0), (.int .u8 0), (.int .u8 0), (.int .u8 0), (.int .u8 0), (.int .u8 0), (.int .u8 0), (.int .u8 0), (.int .u8 0), (.int .u8 0), (.int .u8 0), (.int .u8 0), (.int .u8 0), (.int .u8 0), (.int .u8 0), (.int .u8 0), (.int .u8 0), (.int .u8 0), (.int .u8 0)]) none]
   [MI.op none (.store 72 (.tmp 7) (.tmp 50)) none])
  m11_12)
def m11_14 : MCode :=
 (.seq
  (.drw
   [MI.op (some 25) (.mov (.tmp 0)) none,
    MI.op (some 26) (.ixSl 1 (.tmp 25) (.c (.int .i64 47))) none,
    MI.op (some 27) (.load false 1 (.tmp 26)) none,
    MI.op (some 28) (.mov (.tmp 0)) none,
    MI.op (some 29) (.ixSl 1 (.tmp 28) (.c (.int .i64 48))) none,
    MI.op (some 30) (.load false 1 (.tmp 29)) none,
    MI.op (some 31) (.mov (.tmp 0)) none,
    MI.op (some 32) (.ixSl 1 (.tmp 31) (.c (.int .i64 49))) none,
    MI.op (some 33) (.load false 1 (.tmp 32)) none,
    MI.op (some 34) (.mov (.tmp 0)) none,
    MI.op (some 35) (.ixSl 1 (.tmp 34) (.c (.int .i64 50))) none,
    MI.op (some 36) (.load false 1 (.tmp 35)) none,
    MI.op (some 37) (.build [(.int .u8 0), (.int .u8 0), (.int .u8 0), (.int .u8 0)] [(0, 1, (.tmp 27)), (1, 1, (.tmp 30)), (2, 1, (.tmp 33)), (3, 1, (.tmp 36))]) none,
    MI.op (some 38) (.call 27 [(.tmp 37)]) none,
    MI.op (some 6) (.alloc [(.str []), (.bool false)]) none]
   [MI.op none (.store 2 (.tmp 6) (.tmp 38)) none])
  m11_13)
def m11_15 : MCode :=
 (.seq
  (.reg
   (MI.op (some 20) (.mov (.tmp 0)) none ::
    MI.op (some 21) (.slSl 1 (.tmp 20) (some (.c (.int .i64 1))) (some (.c (.int .i64 47))) none) none ::
    MI.op (some 22) (.call 26 [(.tmp 21)]) none ::
    m11_3))
  m11_14)
def m11_16 : MCode :=
 (.seq
  (.seq
   (.reg
    [MI.op (some 10) (.mov (.tmp 0)) none,
     MI.op (some 11) (.len (.tmp 10)) none,
     MI.op (some 12) (.bin .neq (.tmp 11) (.c (.int .i64 54))) none,
     MI.op (some 13) (.mov (.tmp 12)) none,
     MI.op (some 14) (.mov (.tmp 0)) (some (13, true)),
     MI.op (some 15) (.len (.tmp 14)) (some (13, true)),
     MI.op (some 16) (.bin .neq (.tmp 15) (.c (.int .i64 86))) (some (13, true)),
     MI.op (some 17) (.pick (.tmp 13) (.tmp 16) (.c (.bool false))) none])
  m11_2)
  m11_15)
def m11_r : List MRes := [.cell 2 true 72, .tmp 3]
def m11_b : MCode :=
 (.seq
  (.reg
   [MI.op (some 2) (.alloc [(.int .i64 0), (.int .i64 0), (.str []), (.int .i64 0), (.int .u32 0), (.int .u32 0), (.int .u8 0), (.int .u8 0), (.int .u8 0), (.int .u8 0), (.int .u8 0), (.int .u8 0), (.int .u8 0), (.int .u8 0), (.int .u8 0), (.int .u8 0), (.int .u8 0), (.int .u8 0), (.int .u8 0), (.int .u8 0), (.int .u8 0), (.int .u8 0), (.int .u8 0), (.int .u8 0), (.int .u8 0), (.int .u8 0), (.int .u8 0), (.int .u8 0), (.int .u8 0), (.int .u8 0), (.int .u8 0), (.int .u8 0), (.int .u8 0), (.int .u8 0), (.int .u8 0), (.int .u8 0), (.int .u8 0), (.int .u8 0), (.str []), (.int .i64 0), (.int .u8 0), (.int .u8 0), (.int .u8 0), (.int .u8 0), (.int .u8 0), (.int .u8 0), (.int .u8 0), (.int .u8 0), (.int .u8 0), (.int .u8 0), (.int .u8 0), (.int .u8 0), (.int .u8 0), (.int .u8 0), (.int .u8 0), (.int .u8 0), (.int .u8 0), (.int .u8 0), (.int .u8 0), (.int .u8 0), (.int .u8 0), (.int .u8 0), (.int .u8 0), (.int .u8 0), (.int .u8 0), (.int .u8 0), (.int .u8 0), (.int .u8 0), (.int .u8 0), (.int .u8 0), (.int .u8 0), (.int .u8 0)]) none,
    MI.op (some 3) (.mov (.c (.int .i64 0))) none])
  m11_16)
def m11 : MFunc := ⟨1, 79, m11_r, m11_b⟩
theorem c11 : compF Tryd.prog 11 m11 = some m11 := by kernel_rfl

end Go.Proofs.YtfllhbjblkfdfaaDoor
