/- The loaded functions as texts of the ideal machine (written by a program of ours), and that they are the loaded ones. -/
import Derived.Test.YtkphojcmjffccaaDoorE31
import Derived.Test.YtkphojcmjffccaaDoorProg
set_option linter.unusedVariables false
set_option linter.unusedSimpArgs false
set_option linter.unusedSectionVars false
namespace Go.Proofs.YtkphojcmjffccaaDoor
open Go.RowKit

/- tollhouse/tollhouselaw15.CapsTell -/
def m3_1 : MCode :=
 (.seq
  (.reg
   [MI.op (some 28) (.call 6 []) none,
    MI.op (some 6) (.mov (.tmp 28)) none])
  .ret)
def m3_2 : MCode :=
 (.cond (.tmp 27)
  m3_1
  .skip)
def m3_3 : List MI :=
 [MI.op (some 39) (.mov (.tmp 44)) none,
  MI.op (some 45) (.ext (.tmp 39) 0) none,
  MI.op (some 46) (.ext (.tmp 39) 1) none,
  MI.op (some 9) (.alloc [(.int .i64 0), (.str []), (.int .i64 0), (.int .u32 0), (.int .u32 0), (.int .u8 0), (.int .u8 0), (.int .u8 0), (.int .u8 0), (.int .u8 0), (.int .u8 0), (.int .u8 0), (.int .u8 0), (.int .u8 0), (.int .u8 0), (.int .u8 0), (.int .u8 0), (.int .u8 0), (.int .u8 0), (.int .u8 0), (.int .u8 0), (.int .u8 0), (.int .u8 0), (.int .u8 0), (.int .u8 0), (.int .u8 0), (.int .u8 0), (.int .u8 0), (.int .u8 0), (.int .u8 0), (.int .u8 0), (.int .u8 0), (.int .u8 0), (.int .u8 0), (.int .u8 0), (.int .u8 0), (.int .u8 0)]) none,
  MI.op none (.store 37 (.tmp 9) (.tmp 45)) none,
  MI.op (some 10) (.mov (.tmp 46)) none]
def m3_4 : MCode :=
 (.seq
  (.drw
   [MI.op (some 47) (.load true 37 (.tmp 7)) none,
    MI.op (some 48) (.load true 37 (.tmp 9)) none,
    MI.op (some 49) (.eqv false [(1, .i), (1, .s), (35, .i)] (.tmp 47) (.tmp 48)) none,
    MI.op (some 50) (.mov (.tmp 49)) none,
    MI.op (some 51) (.mov (.tmp 8)) (some (50, true)),
    MI.op (some 52) (.mov (.tmp 10)) (some (50, true)),
    MI.op (some 53) (.bin .eql (.tmp 51) (.tmp 52)) (some (50, true)),
    MI.op (some 54) (.pick (.tmp 50) (.tmp 53) (.c (.bool false))) none,
    MI.op (some 55) (.mov (.tmp 54)) none,
    MI.op (some 56) (.load true 4 (.tmp 3)) (some (55, true)),
    MI.op (some 57) (.load true 37 (.tmp 4)) (some (55, true)),
    MI.op (some 58) (.fa 0 (.tmp 5)) (some (55, true)),
    MI.op (some 59) (.load false 1 (.tmp 58)) (some (55, true)),
    MI.op (some 60) (.fa 1 (.tmp 5)) (some (55, true)),
    MI.op (some 61) (.load false 1 (.tmp 60)) (some (55, true)),
    MI.op (some 62) (.call 9 [(.tmp 56), (.tmp 57), (.tmp 59), (.tmp 61)]) (some (55, true)),
    MI.op (some 63) (.load true 4 (.tmp 3)) (some (55, true)),
    MI.op (some 64) (.call 11 [(.tmp 63)]) (some (55, true)),
    MI.op (some 65) (.load true 37 (.tmp 4)) (some (55, true)),
    MI.op (some 66) (.fa 0 (.tmp 5)) (some (55, true)),
    MI.op (some 67) (.load false 1 (.tmp 66)) (some (55, true)),
    MI.op (some 68) (.fa 1 (.tmp 5)) (some (55, true)),
    MI.op (some 69) (.load false 1 (.tmp 68)) (some (55, true)),
    MI.op (some 70) (.call 10 [(.tmp 64), (.tmp 65), (.tmp 67), (.tmp 69)]) (some (55, true)),
    MI.op (some 71) (.bin .eql (.tmp 62) (.tmp 70)) (some (55, true)),
    MI.op (some 72) (.pick (.tmp 55) (.tmp 71) (.c (.bool false))) none,
    MI.op (some 73) (.mov (.tmp 72)) none,
    MI.op (some 74) (.load true 4 (.tmp 3)) (some (73, true)),
    MI.op (some 75) (.load true 37 (.tmp 7)) (some (73, true)),
    MI.op (some 76) (.fa 0 (.tmp 5)) (some (73, true)),
    MI.op (some 77) (.load false 1 (.tmp 76)) (some (73, true)),
    MI.op (some 78) (.fa 1 (.tmp 5)) (some (73, true)),
    MI.op (some 79) (.load false 1 (.tmp 78)) (some (73, true)),
    MI.op (some 80) (.call 9 [(.tmp 74), (.tmp 75), (.tmp 77), (.tmp 79)]) (some (73, true)),
    MI.op (some 81) (.load true 4 (.tmp 3)) (some (73, true)),
    MI.op (some 82) (.call 11 [(.tmp 81)]) (some (73, true)),
    MI.op (some 83) (.load true 37 (.tmp 9)) (some (73, true)),
    MI.op (some 84) (.fa 0 (.tmp 5)) (some (73, true)),
    MI.op (some 85) (.load false 1 (.tmp 84)) (some (73, true)),
    MI.op (some 86) (.fa 1 (.tmp 5)) (some (73, true)),
    MI.op (some 87) (.load false 1 (.tmp 86)) (some (73, true))]
   [MI.op (some 88) (.call 10 [(.tmp 82), (.tmp 83), (.tmp 85), (.tmp 87)]) (some (73, true)),
    MI.op (some 89) (.bin .eql (.tmp 80) (.tmp 88)) (some (73, true)),
    MI.op (some 90) (.pick (.tmp 73) (.tmp 89) (.c (.bool false))) none,
    MI.op (some 91) (.mov (.tmp 90)) none,
    MI.op (some 92) (.call 6 []) (some (91, true)),
    MI.op (some 93) (.pick (.tmp 91) (.tmp 92) (.c (.bool false))) none,
    MI.op (some 6) (.mov (.tmp 93)) none])
  .ret)
def m3_5 : MCode :=
 (.seq
  (.reg
   (MI.op (some 40) (.fa 0 (.tmp 3)) none ::
    MI.op (some 41) (.load false 1 (.tmp 40)) none ::
    MI.op (some 42) (.fa 0 (.tmp 4)) none ::
    MI.op (some 43) (.load true 5 (.tmp 42)) none ::
    MI.op (some 44) (.call 8 [(.tmp 41), (.tmp 43)]) none ::
    m3_3))
  m3_4)
def m3_6 : MCode :=
 (.seq
  (.drx
   [(MI.op (some 30) (.bsl 0 1 [(.int .u8 0)] []) none, []),
    (MI.op (some 31) (.fa 0 (.tmp 3)) none, []),
    (MI.op (some 32) (.load false 1 (.tmp 31)) none, [1]),
    (MI.op (some 33) (.appP 1 1 (.tmp 30) (.tmp 32)) none, [0, 2]),
    (MI.op (some 34) (.fa 0 (.tmp 4)) none, []),
    (MI.op (some 35) (.load true 5 (.tmp 34)) none, [4]),
    (MI.op (some 36) (.call 7 [(.tmp 33), (.tmp 35)]) none, [3, 5]),
    (MI.op (some 29) (.mov (.tmp 36)) none, [6]),
    (MI.op (some 37) (.ext (.tmp 29) 0) none, [7]),
    (MI.op (some 38) (.ext (.tmp 29) 1) none, [7]),
    (MI.op (some 7) (.alloc [(.int .i64 0), (.str []), (.int .i64 0), (.int .u32 0), (.int .u32 0), (.int .u8 0), (.int .u8 0), (.int .u8 0), (.int .u8 0), (.int .u8 0), (.int .u8 0), (.int .u8 0), (.int .u8 0), (.int .u8 0), (.int .u8 0), (.int .u8 0), (.int .u8 0), (.int .u8 0), (.int .u8 0), (.int .u8 0), (.int .u8 0), (.int .u8 0), (.int .u8 0), (.int .u8 0), (.int .u8 0), (.int .u8 0), (.int .u8 0), (.int .u8 0), (.int .u8 0), (.int .u8 0), (.int .u8 0), (.int .u8 0), (.int .u8 0), (.int .u8 0), (.int .u8 0), (.int .u8 0), (.int .u8 0)]) none, []),
    (MI.op none (.store 37 (.tmp 7) (.tmp 37)) none, [10, 8, 6, 0, 1, 2, 3, 4, 5, 7]),
    (MI.op (some 8) (.mov (.tmp 38)) none, [9, 11, 0, 1, 2, 3, 4, 5, 6, 7, 8, 10])])
  m3_5)
def m3_7 : MCode :=
 (.seq
  (.seq
   (.reg
    [MI.op (some 11) (.fa 0 (.tmp 3)) none,
     MI.op (some 12) (.load false 1 (.tmp 11)) none,
     MI.op (some 13) (.len (.tmp 12)) none,
     MI.op (some 14) (.bin .gtr (.tmp 13) (.c (.int .i64 200))) none,
     MI.op (some 15) (.mov (.tmp 14)) none,
     MI.op (some 16) (.fa 0 (.tmp 4)) (some (15, false)),
     MI.op (some 17) (.fa 1 (.tmp 16)) (some (15, false)),
     MI.op (some 18) (.load false 1 (.tmp 17)) (some (15, false)),
     MI.op (some 19) (.lenS (.tmp 18)) (some (15, false)),
     MI.op (some 20) (.bin .gtr (.tmp 19) (.c (.int .i64 100))) (some (15, false)),
     MI.op (some 21) (.pick (.tmp 15) (.c (.bool true)) (.tmp 20)) none,
     MI.op (some 22) (.mov (.tmp 21)) none,
     MI.op (some 23) (.fa 0 (.tmp 5)) (some (22, false)),
     MI.op (some 24) (.load false 1 (.tmp 23)) (some (22, false)),
     MI.op (some 25) (.lenS (.tmp 24)) (some (22, false)),
     MI.op (some 26) (.bin .gtr (.tmp 25) (.c (.int .i64 100))) (some (22, false)),
     MI.op (some 27) (.pick (.tmp 22) (.c (.bool true)) (.tmp 26)) none])
  m3_2)
  m3_6)
def m3_r : List MRes := [.tmp 6]
def m3_b : MCode :=
 (.seq
  (.reg
   [MI.op (some 3) (.box (.tmp 0)) none,
    MI.op (some 4) (.box (.tmp 1)) none,
    MI.op (some 5) (.box (.tmp 2)) none,
    MI.op (some 6) (.mov (.c (.bool false))) none])
  m3_7)
def m3 : MFunc := ⟨3, 94, m3_r, m3_b⟩
theorem c3 : compF Tryd.prog 3 m3 = some m3 := by kernel_rfl

/- tollhouse/tollhouselaw15.CapsScope -/
def m4_1 : MCode :=
 (.seq
  (.reg
   [MI.op (some 26) (.call 6 []) none,
    MI.op (some 6) (.mov (.tmp 26)) none])
  .ret)
def m4_2 : MCode :=
 (.cond (.tmp 25)
  m4_1
  .skip)
def m4_3 : List MI :=
 [MI.op (some 27) (.mov (.tmp 38)) none,
  MI.op (some 39) (.ext (.tmp 27) 0) none,
  MI.op (some 40) (.ext (.tmp 27) 1) none,
  MI.op (some 7) (.alloc [(.int .i64 0), (.str []), (.int .i64 0), (.int .u32 0), (.int .u32 0), (.int .u8 0), (.int .u8 0), (.int .u8 0), (.int .u8 0), (.int .u8 0), (.int .u8 0), (.int .u8 0), (.int .u8 0), (.int .u8 0), (.int .u8 0), (.int .u8 0), (.int .u8 0), (.int .u8 0), (.int .u8 0), (.int .u8 0), (.int .u8 0), (.int .u8 0), (.int .u8 0), (.int .u8 0), (.int .u8 0), (.int .u8 0), (.int .u8 0), (.int .u8 0), (.int .u8 0), (.int .u8 0), (.int .u8 0), (.int .u8 0), (.int .u8 0), (.int .u8 0), (.int .u8 0), (.int .u8 0), (.int .u8 0)]) none,
  MI.op none (.store 37 (.tmp 7) (.tmp 39)) none,
  MI.op (some 8) (.mov (.tmp 40)) none]
def m4_4 : List MI :=
 [MI.op (some 41) (.mov (.tmp 51)) none,
  MI.op (some 52) (.ext (.tmp 41) 0) none,
  MI.op (some 53) (.ext (.tmp 41) 1) none,
  MI.op (some 9) (.alloc [(.int .i64 0), (.str []), (.int .i64 0), (.int .u32 0), (.int .u32 0), (.int .u8 0), (.int .u8 0), (.int .u8 0), (.int .u8 0), (.int .u8 0), (.int .u8 0), (.int .u8 0), (.int .u8 0), (.int .u8 0), (.int .u8 0), (.int .u8 0), (.int .u8 0), (.int .u8 0), (.int .u8 0), (.int .u8 0), (.int .u8 0), (.int .u8 0), (.int .u8 0), (.int .u8 0), (.int .u8 0), (.int .u8 0), (.int .u8 0), (.int .u8 0), (.int .u8 0), (.int .u8 0), (.int .u8 0), (.int .u8 0), (.int .u8 0), (.int .u8 0), (.int .u8 0), (.int .u8 0), (.int .u8 0)]) none,
  MI.op none (.store 37 (.tmp 9) (.tmp 52)) none,
  MI.op (some 10) (.mov (.tmp 53)) none]
def m4_5 : List MI :=
 [MI.op (some 74) (.bin .neq (.tmp 73) (.c (.int .i64 15))) (some (69, false)),
  MI.op (some 75) (.pick (.tmp 69) (.c (.bool true)) (.tmp 74)) none]
def m4_6 : List MI :=
 (MI.op (some 67) (.mov (.tmp 11)) none ::
  MI.op (some 68) (.bin .neq (.tmp 66) (.tmp 67)) none ::
  MI.op (some 69) (.mov (.tmp 68)) none ::
  MI.op (some 70) (.load true 4 (.tmp 3)) (some (69, false)) ::
  MI.op (some 71) (.load true 37 (.tmp 7)) (some (69, false)) ::
  MI.op (some 72) (.mov (.tmp 1)) (some (69, false)) ::
  MI.op (some 73) (.call 9 [(.tmp 70), (.tmp 71), (.tmp 72), (.c (.int .i64 2))]) (some (69, false)) ::
  m4_5)
def m4_7 : MCode :=
 (.cond (.tmp 75)
  (.seq
   (.reg
    [MI.op (some 6) (.mov (.c (.bool false))) none])
   .ret)
  .skip)
def m4_8 : MCode :=
 (.seq
  (.reg
   (MI.op (some 63) (.load true 4 (.tmp 3)) none ::
    MI.op (some 64) (.load true 37 (.tmp 7)) none ::
    MI.op (some 65) (.mov (.tmp 2)) none ::
    MI.op (some 66) (.call 9 [(.tmp 63), (.tmp 64), (.tmp 65), (.c (.int .i64 1))]) none ::
    m4_6))
  m4_7)
def m4_9 : MCode :=
 (.seq
  (.seq
   (.reg
    [MI.op (some 56) (.mov (.tmp 1)) none,
     MI.op (some 57) (.bin .neq (.tmp 56) (.c (.str []))) none,
     MI.op (some 58) (.mov (.tmp 57)) none,
     MI.op (some 59) (.mov (.tmp 1)) (some (58, true)),
     MI.op (some 60) (.mov (.tmp 2)) (some (58, true)),
     MI.op (some 61) (.bin .neq (.tmp 59) (.tmp 60)) (some (58, true)),
     MI.op (some 62) (.pick (.tmp 58) (.tmp 61) (.c (.bool false))) none])
   (.cond (.tmp 62)
    (.reg
     [MI.op (some 11) (.mov (.c (.int .i64 15))) none])
    .skip))
  m4_8)
def m4_10 : MCode :=
 (.seq
  (.reg
   [MI.op (some 11) (.mov (.c (.int .i64 0))) none])
  m4_9)
def m4_11 : MCode :=
 (.cond (.tmp 55)
  m4_10
  .skip)
def m4_12 : List MI :=
 [MI.op (some 82) (.pick (.tmp 80) (.tmp 81) (.c (.bool false))) none,
  MI.op (some 6) (.mov (.tmp 82)) none]
def m4_13 : MCode :=
 (.seq
  (.reg
   (MI.op (some 78) (.mov (.tmp 10)) none ::
    MI.op (some 79) (.bin .eql (.tmp 78) (.c (.int .i64 11))) none ::
    MI.op (some 80) (.mov (.tmp 79)) none ::
    MI.op (some 81) (.call 6 []) (some (80, true)) ::
    m4_12))
  .ret)
def m4_14 : MCode :=
 (.cond (.tmp 77)
  m4_13
  .skip)
def m4_15 : List MI :=
 [MI.op (some 105) (.pick (.tmp 103) (.tmp 104) (.c (.bool false))) none,
  MI.op (some 6) (.mov (.tmp 105)) none]
def m4_16 : List MI :=
 (MI.op (some 99) (.mov (.tmp 1)) (some (95, true)) ::
  MI.op (some 100) (.lenS (.tmp 99)) (some (95, true)) ::
  MI.op (some 101) (.bin .eql (.tmp 98) (.tmp 100)) (some (95, true)) ::
  MI.op (some 102) (.pick (.tmp 95) (.tmp 101) (.c (.bool false))) none ::
  MI.op (some 103) (.mov (.tmp 102)) none ::
  MI.op (some 104) (.call 6 []) (some (103, true)) ::
  m4_15)
def m4_17 : List MI :=
 (MI.op (some 93) (.bin .eql (.tmp 92) (.c (.int .i64 0))) (some (88, true)) ::
  MI.op (some 94) (.pick (.tmp 88) (.tmp 93) (.c (.bool false))) none ::
  MI.op (some 95) (.mov (.tmp 94)) none ::
  MI.op (some 96) (.mov (.tmp 1)) (some (95, true)) ::
  MI.op (some 97) (.lenS (.tmp 96)) (some (95, true)) ::
  MI.op (some 98) (.call 12 [(.tmp 97), (.c (.int .i64 1000))]) (some (95, true)) ::
  m4_16)
def m4_18 : List MI :=
 (MI.op (some 87) (.bin .eql (.tmp 86) (.c (.int .i64 0))) none ::
  MI.op (some 88) (.mov (.tmp 87)) none ::
  MI.op (some 89) (.load true 4 (.tmp 3)) (some (88, true)) ::
  MI.op (some 90) (.load true 37 (.tmp 9)) (some (88, true)) ::
  MI.op (some 91) (.mov (.tmp 2)) (some (88, true)) ::
  MI.op (some 92) (.call 9 [(.tmp 89), (.tmp 90), (.tmp 91), (.c (.int .i64 2))]) (some (88, true)) ::
  m4_17)
def m4_19 : MCode :=
 (.seq
  (.reg
   (MI.op (some 83) (.load true 4 (.tmp 3)) none ::
    MI.op (some 84) (.load true 37 (.tmp 9)) none ::
    MI.op (some 85) (.mov (.tmp 1)) none ::
    MI.op (some 86) (.call 9 [(.tmp 83), (.tmp 84), (.tmp 85), (.c (.int .i64 1))]) none ::
    m4_18))
  .ret)
def m4_20 : MCode :=
 (.seq
  (.seq
   (.reg
    [MI.op (some 76) (.mov (.tmp 10)) none,
     MI.op (some 77) (.bin .neq (.tmp 76) (.c (.int .i64 0))) none])
  m4_14)
  m4_19)
def m4_21 : MCode :=
 (.seq
  (.seq
   (.reg
    [MI.op (some 54) (.mov (.tmp 8)) none,
     MI.op (some 55) (.bin .eql (.tmp 54) (.c (.int .i64 0))) none])
  m4_11)
  m4_20)
def m4_22 : MCode :=
 (.seq
  (.reg
   (MI.op (some 42) (.fa 0 (.tmp 3)) none ::
    MI.op (some 43) (.load false 1 (.tmp 42)) none ::
    MI.op (some 44) (.fa 1 (.tmp 3)) none ::
    MI.op (some 45) (.load false 1 (.tmp 44)) none ::
    MI.op (some 46) (.fa 3 (.tmp 3)) none ::
    MI.op (some 47) (.load false 1 (.tmp 46)) none ::
    MI.op (some 48) (.fa 2 (.tmp 3)) none ::
    MI.op (some 49) (.load false 1 (.tmp 48)) none ::
    MI.op (some 50) (.build [(.int .i64 0), (.str []), (.int .i64 0), (.int .u32 0), (.int .u32 0)] [(0, 1, (.tmp 45)), (2, 1, (.c (.int .i64 3))), (3, 1, (.tmp 47)), (4, 1, (.tmp 49))]) none ::
    MI.op (some 51) (.call 7 [(.tmp 43), (.tmp 50)]) none ::
    m4_4))
  m4_21)
def m4_23 : MCode :=
 (.seq
  (.reg
   (MI.op (some 28) (.fa 0 (.tmp 3)) none ::
    MI.op (some 29) (.load false 1 (.tmp 28)) none ::
    MI.op (some 30) (.fa 1 (.tmp 3)) none ::
    MI.op (some 31) (.load false 1 (.tmp 30)) none ::
    MI.op (some 32) (.mov (.tmp 1)) none ::
    MI.op (some 33) (.fa 3 (.tmp 3)) none ::
    MI.op (some 34) (.load false 1 (.tmp 33)) none ::
    MI.op (some 35) (.fa 2 (.tmp 3)) none ::
    MI.op (some 36) (.load false 1 (.tmp 35)) none ::
    MI.op (some 37) (.build [(.int .i64 0), (.str []), (.int .i64 0), (.int .u32 0), (.int .u32 0)] [(0, 1, (.tmp 31)), (1, 1, (.tmp 32)), (2, 1, (.c (.int .i64 1))), (3, 1, (.tmp 34)), (4, 1, (.tmp 36))]) none ::
    MI.op (some 38) (.call 7 [(.tmp 29), (.tmp 37)]) none ::
    m4_3))
  m4_22)
def m4_24 : MCode :=
 (.seq
  (.seq
   (.reg
    [MI.op (some 12) (.fa 0 (.tmp 3)) none,
     MI.op (some 13) (.load false 1 (.tmp 12)) none,
     MI.op (some 14) (.len (.tmp 13)) none,
     MI.op (some 15) (.bin .gtr (.tmp 14) (.c (.int .i64 200))) none,
     MI.op (some 16) (.mov (.tmp 15)) none,
     MI.op (some 17) (.mov (.tmp 1)) (some (16, false)),
     MI.op (some 18) (.lenS (.tmp 17)) (some (16, false)),
     MI.op (some 19) (.bin .gtr (.tmp 18) (.c (.int .i64 100))) (some (16, false)),
     MI.op (some 20) (.pick (.tmp 16) (.c (.bool true)) (.tmp 19)) none,
     MI.op (some 21) (.mov (.tmp 20)) none,
     MI.op (some 22) (.mov (.tmp 2)) (some (21, false)),
     MI.op (some 23) (.lenS (.tmp 22)) (some (21, false)),
     MI.op (some 24) (.bin .gtr (.tmp 23) (.c (.int .i64 100))) (some (21, false)),
     MI.op (some 25) (.pick (.tmp 21) (.c (.bool true)) (.tmp 24)) none])
  m4_2)
  m4_23)
def m4_r : List MRes := [.tmp 6]
def m4_b : MCode :=
 (.seq
  (.reg
   [MI.op (some 3) (.box (.tmp 0)) none,
    MI.op (some 6) (.mov (.c (.bool false))) none])
  m4_24)
def m4 : MFunc := ⟨3, 106, m4_r, m4_b⟩
theorem c4 : compF Tryd.prog 4 m4 = some m4 := by kernel_rfl

/- tollhouse/tollhouselaw15.CapsWards -/
def m5_1 : MCode :=
 (.seq
  (.reg
   [MI.op (some 22) (.call 6 []) none,
    MI.op (some 6) (.mov (.tmp 22)) none])
  .ret)
def m5_2 : MCode :=
 (.cond (.tmp 21)
  m5_1
  .skip)
def m5_3 : List MI :=
 [MI.op (some 23) (.mov (.tmp 27)) none,
  MI.op (some 28) (.ext (.tmp 23) 0) none,
  MI.op (some 29) (.ext (.tmp 23) 1) none,
  MI.op (some 7) (.alloc [(.int .i64 0), (.str []), (.int .i64 0), (.int .u32 0), (.int .u32 0), (.int .u8 0), (.int .u8 0), (.int .u8 0), (.int .u8 0), (.int .u8 0), (.int .u8 0), (.int .u8 0), (.int .u8 0), (.int .u8 0), (.int .u8 0), (.int .u8 0), (.int .u8 0), (.int .u8 0), (.int .u8 0), (.int .u8 0), (.int .u8 0), (.int .u8 0), (.int .u8 0), (.int .u8 0), (.int .u8 0), (.int .u8 0), (.int .u8 0), (.int .u8 0), (.int .u8 0), (.int .u8 0), (.int .u8 0), (.int .u8 0), (.int .u8 0), (.int .u8 0), (.int .u8 0), (.int .u8 0), (.int .u8 0)]) none,
  MI.op none (.store 37 (.tmp 7) (.tmp 28)) none,
  MI.op (some 8) (.mov (.tmp 29)) none]
def m5_4 : MCode :=
 (.seq
  (.reg
   [MI.op (some 32) (.call 6 []) none,
    MI.op (some 6) (.mov (.tmp 32)) none])
  .ret)
def m5_5 : MCode :=
 (.cond (.tmp 31)
  m5_4
  .skip)
def m5_6 : MCode :=
 (.cond (.tmp 44)
  (.reg
   [MI.op (some 45) (.fa 1 (.tmp 4)) none,
    MI.op (some 46) (.load false 1 (.tmp 45)) none,
    MI.op (some 9) (.mov (.tmp 46)) none])
  .skip)
def m5_7 : MCode :=
 (.cond (.tmp 53)
  (.seq
   (.reg
    [MI.op (some 6) (.mov (.c (.bool false))) none])
   .ret)
  .skip)
def m5_8 : List MI :=
 [MI.op (some 87) (.bin .neq (.tmp 86) (.c (.int .i64 14))) (some (80, false)),
  MI.op (some 88) (.pick (.tmp 80) (.c (.bool true)) (.tmp 87)) none]
def m5_9 : List MI :=
 (MI.op (some 79) (.bin .neq (.tmp 78) (.c (.int .i64 12))) none ::
  MI.op (some 80) (.mov (.tmp 79)) none ::
  MI.op (some 81) (.load true 4 (.tmp 11)) (some (80, false)) ::
  MI.op (some 82) (.load true 37 (.tmp 7)) (some (80, false)) ::
  MI.op (some 83) (.mov (.tmp 9)) (some (80, false)) ::
  MI.op (some 84) (.fa 2 (.tmp 4)) (some (80, false)) ::
  MI.op (some 85) (.load false 1 (.tmp 84)) (some (80, false)) ::
  MI.op (some 86) (.call 9 [(.tmp 81), (.tmp 82), (.tmp 83), (.tmp 85)]) (some (80, false)) ::
  m5_8)
def m5_10 : MCode :=
 (.cond (.tmp 88)
  (.seq
   (.reg
    [MI.op (some 6) (.mov (.c (.bool false))) none])
   .ret)
  .skip)
def m5_11 : List MI :=
 [MI.op (some 101) (.pick (.tmp 99) (.tmp 100) (.c (.bool false))) none,
  MI.op (some 6) (.mov (.tmp 101)) none]
def m5_12 : List MI :=
 (MI.op (some 98) (.bin .eql (.tmp 97) (.c (.int .i64 12))) none ::
  MI.op (some 99) (.mov (.tmp 98)) none ::
  MI.op (some 100) (.call 6 []) (some (99, true)) ::
  m5_11)
def m5_13 : MCode :=
 (.seq
  (.reg
   (MI.op (some 95) (.load true 4 (.tmp 11)) none ::
    MI.op (some 96) (.load true 37 (.tmp 7)) none ::
    MI.op (some 97) (.call 9 [(.tmp 95), (.tmp 96), (.c (.str [111, 116, 104, 101, 114])), (.c (.int .i64 7))]) none ::
    m5_12))
  .ret)
def m5_14 : MCode :=
 (.seq
  (.reg
   [MI.op (some 89) (.fa 5 (.tmp 7)) none,
    MI.op (some 90) (.ixArr 32 1 (.tmp 89) (.c (.int .i64 0))) none,
    MI.op (some 91) (.load false 1 (.tmp 90)) none,
    MI.op (some 92) (.bin .add (.tmp 91) (.c (.int .u8 1))) none,
    MI.op (some 93) (.fa 5 (.tmp 7)) none,
    MI.op (some 94) (.ixArr 32 1 (.tmp 93) (.c (.int .i64 0))) none,
    MI.op none (.store 1 (.tmp 94) (.tmp 92)) none])
  m5_13)
def m5_15 : MCode :=
 (.seq
  (.seq
   (.reg
    (MI.op (some 73) (.load true 4 (.tmp 10)) none ::
     MI.op (some 74) (.load true 37 (.tmp 7)) none ::
     MI.op (some 75) (.mov (.tmp 9)) none ::
     MI.op (some 76) (.fa 2 (.tmp 4)) none ::
     MI.op (some 77) (.load false 1 (.tmp 76)) none ::
     MI.op (some 78) (.call 9 [(.tmp 73), (.tmp 74), (.tmp 75), (.tmp 77)]) none ::
     m5_9))
  m5_10)
  m5_14)
def m5_16 : MCode :=
 (.seq
  (.reg
   [MI.op (some 65) (.fa 2 (.tmp 11)) none,
    MI.op (some 66) (.load false 1 (.tmp 65)) none,
    MI.op (some 67) (.ixArr 2 1 (.tmp 5) (.c (.int .i64 1))) none,
    MI.op (some 68) (.load false 1 (.tmp 67)) none,
    MI.op (some 69) (.toInt .u32 (.tmp 68)) none,
    MI.op (some 70) (.bin .add (.c (.int .u32 1)) (.tmp 69)) none,
    MI.op (some 71) (.bin .add (.tmp 66) (.tmp 70)) none,
    MI.op (some 72) (.fa 2 (.tmp 11)) none,
    MI.op none (.store 1 (.tmp 72) (.tmp 71)) none])
  m5_15)
def m5_17 : MCode :=
 (.seq
  (.reg
   [MI.op (some 56) (.fa 1 (.tmp 10)) none,
    MI.op (some 57) (.load false 1 (.tmp 56)) none,
    MI.op (some 58) (.ixArr 2 1 (.tmp 5) (.c (.int .i64 0))) none,
    MI.op (some 59) (.load false 1 (.tmp 58)) none,
    MI.op (some 60) (.toInt .i64 (.tmp 59)) none,
    MI.op (some 61) (.bin .rem (.tmp 60) (.c (.int .i64 3))) none,
    MI.op (some 62) (.bin .add (.c (.int .i64 1)) (.tmp 61)) none,
    MI.op (some 63) (.bin .add (.tmp 57) (.tmp 62)) none,
    MI.op (some 64) (.fa 1 (.tmp 10)) none,
    MI.op none (.store 1 (.tmp 64) (.tmp 63)) none])
  m5_16)
def m5_18 : MCode :=
 (.seq
  (.drx
   [(MI.op (some 54) (.load true 4 (.tmp 3)) none, []),
    (MI.op (some 55) (.load true 4 (.tmp 3)) none, []),
    (MI.op (some 10) (.alloc [(.sl .full 0 []), (.int .i64 0), (.int .u32 0), (.int .u32 0)]) none, []),
    (MI.op (some 11) (.alloc [(.sl .full 0 []), (.int .i64 0), (.int .u32 0), (.int .u32 0)]) none, []),
    (MI.op none (.store 4 (.tmp 10) (.tmp 54)) none, [2, 0, 3]),
    (MI.op none (.store 4 (.tmp 11) (.tmp 55)) none, [3, 1, 4, 0, 2])])
  m5_17)
def m5_19 : MCode :=
 (.seq
  (.seq
   (.reg
    [MI.op (some 47) (.load true 4 (.tmp 3)) none,
     MI.op (some 48) (.load true 37 (.tmp 7)) none,
     MI.op (some 49) (.mov (.tmp 9)) none,
     MI.op (some 50) (.fa 2 (.tmp 4)) none,
     MI.op (some 51) (.load false 1 (.tmp 50)) none,
     MI.op (some 52) (.call 9 [(.tmp 47), (.tmp 48), (.tmp 49), (.tmp 51)]) none,
     MI.op (some 53) (.bin .neq (.tmp 52) (.c (.int .i64 0))) none])
  m5_7)
  m5_18)
def m5_20 : MCode :=
 (.seq
  (.seq
   (.reg
    [MI.op (some 42) (.fa 1 (.tmp 4)) none,
     MI.op (some 43) (.load false 1 (.tmp 42)) none,
     MI.op (some 44) (.bin .neq (.tmp 43) (.c (.str []))) none])
  m5_6)
  m5_19)
def m5_21 : MCode :=
 (.seq
  (.reg
   [MI.op (some 9) (.mov (.c (.str [120]))) none])
  m5_20)
def m5_22 : MCode :=
 (.seq
  (.drx
   [(MI.op (some 33) (.fa 0 (.tmp 4)) none, []),
    (MI.op (some 34) (.load false 1 (.tmp 33)) none, [0]),
    (MI.op (some 35) (.fa 4 (.tmp 4)) none, []),
    (MI.op (some 36) (.load false 1 (.tmp 35)) none, [2]),
    (MI.op (some 37) (.fa 3 (.tmp 4)) none, []),
    (MI.op (some 38) (.load false 1 (.tmp 37)) none, [4]),
    (MI.op (some 39) (.fa 1 (.tmp 3)) none, [0, 1]),
    (MI.op none (.store 1 (.tmp 39) (.tmp 34)) none, [6, 1, 0]),
    (MI.op (some 40) (.fa 2 (.tmp 3)) none, [0, 1, 2, 3, 6, 7]),
    (MI.op none (.store 1 (.tmp 40) (.tmp 36)) none, [8, 3, 7, 0, 1, 2, 6]),
    (MI.op (some 41) (.fa 3 (.tmp 3)) none, [0, 1, 2, 3, 4, 5, 6, 7, 8, 9]),
    (MI.op none (.store 1 (.tmp 41) (.tmp 38)) none, [10, 5, 9, 0, 1, 2, 3, 4, 6, 7, 8])])
  m5_21)
def m5_23 : MCode :=
 (.seq
  (.seq
   (.reg
    [MI.op (some 30) (.mov (.tmp 8)) none,
     MI.op (some 31) (.bin .neq (.tmp 30) (.c (.int .i64 0))) none])
  m5_5)
  m5_22)
def m5_24 : MCode :=
 (.seq
  (.reg
   (MI.op (some 24) (.fa 0 (.tmp 3)) none ::
    MI.op (some 25) (.load false 1 (.tmp 24)) none ::
    MI.op (some 26) (.load true 5 (.tmp 4)) none ::
    MI.op (some 27) (.call 7 [(.tmp 25), (.tmp 26)]) none ::
    m5_3))
  m5_23)
def m5_25 : MCode :=
 (.seq
  (.seq
   (.reg
    [MI.op (some 12) (.fa 0 (.tmp 3)) none,
     MI.op (some 13) (.load false 1 (.tmp 12)) none,
     MI.op (some 14) (.len (.tmp 13)) none,
     MI.op (some 15) (.bin .gtr (.tmp 14) (.c (.int .i64 200))) none,
     MI.op (some 16) (.mov (.tmp 15)) none,
     MI.op (some 17) (.fa 1 (.tmp 4)) (some (16, false)),
     MI.op (some 18) (.load false 1 (.tmp 17)) (some (16, false)),
     MI.op (some 19) (.lenS (.tmp 18)) (some (16, false)),
     MI.op (some 20) (.bin .gtr (.tmp 19) (.c (.int .i64 100))) (some (16, false)),
     MI.op (some 21) (.pick (.tmp 16) (.c (.bool true)) (.tmp 20)) none])
  m5_2)
  m5_24)
def m5_r : List MRes := [.tmp 6]
def m5_b : MCode :=
 (.seq
  (.reg
   [MI.op (some 3) (.box (.tmp 0)) none,
    MI.op (some 4) (.box (.tmp 1)) none,
    MI.op (some 5) (.box (.tmp 2)) none,
    MI.op (some 6) (.mov (.c (.bool false))) none])
  m5_25)
def m5 : MFunc := ⟨3, 102, m5_r, m5_b⟩
theorem c5 : compF Tryd.prog 5 m5 = some m5 := by kernel_rfl

/- tollhouse/tollhouselaw15.wakes -/
def m6_1 : List MI :=
 [MI.op (some 7) (.mov (.tmp 11)) none,
  MI.op (some 12) (.ext (.tmp 7) 0) none,
  MI.op (some 13) (.ext (.tmp 7) 1) none,
  MI.op (some 1) (.alloc [(.int .i64 0), (.str []), (.int .i64 0), (.int .u32 0), (.int .u32 0), (.int .u8 0), (.int .u8 0), (.int .u8 0), (.int .u8 0), (.int .u8 0), (.int .u8 0), (.int .u8 0), (.int .u8 0), (.int .u8 0), (.int .u8 0), (.int .u8 0), (.int .u8 0), (.int .u8 0), (.int .u8 0), (.int .u8 0), (.int .u8 0), (.int .u8 0), (.int .u8 0), (.int .u8 0), (.int .u8 0), (.int .u8 0), (.int .u8 0), (.int .u8 0), (.int .u8 0), (.int .u8 0), (.int .u8 0), (.int .u8 0), (.int .u8 0), (.int .u8 0), (.int .u8 0), (.int .u8 0), (.int .u8 0)]) none,
  MI.op none (.store 37 (.tmp 1) (.tmp 12)) none,
  MI.op (some 2) (.mov (.tmp 13)) none]
def m6_2 : List MI :=
 [MI.op (some 3) (.alloc [(.sl .full 0 []), (.int .i64 0), (.int .u32 0), (.int .u32 0)]) none,
  MI.op none (.store 4 (.tmp 3) (.tmp 14)) none]
def m6_3 : List MI :=
 [MI.op (some 59) (.bin .eql (.tmp 58) (.c (.int .i64 14))) (some (55, true)),
  MI.op (some 60) (.pick (.tmp 55) (.tmp 59) (.c (.bool false))) none,
  MI.op (some 0) (.mov (.tmp 60)) none]
def m6_4 : List MI :=
 (MI.op (some 53) (.bin .eql (.tmp 52) (.c (.int .i64 12))) (some (49, true)) ::
  MI.op (some 54) (.pick (.tmp 49) (.tmp 53) (.c (.bool false))) none ::
  MI.op (some 55) (.mov (.tmp 54)) none ::
  MI.op (some 56) (.load true 4 (.tmp 6)) (some (55, true)) ::
  MI.op (some 57) (.load true 37 (.tmp 1)) (some (55, true)) ::
  MI.op (some 58) (.call 9 [(.tmp 56), (.tmp 57), (.c (.str [97, 98])), (.c (.int .i64 1))]) (some (55, true)) ::
  m6_3)
def m6_5 : List MI :=
 (MI.op (some 47) (.bin .eql (.tmp 46) (.c (.int .i64 13))) (some (43, true)) ::
  MI.op (some 48) (.pick (.tmp 43) (.tmp 47) (.c (.bool false))) none ::
  MI.op (some 49) (.mov (.tmp 48)) none ::
  MI.op (some 50) (.load true 4 (.tmp 5)) (some (49, true)) ::
  MI.op (some 51) (.load true 37 (.tmp 1)) (some (49, true)) ::
  MI.op (some 52) (.call 9 [(.tmp 50), (.tmp 51), (.c (.str [97, 98])), (.c (.int .i64 1))]) (some (49, true)) ::
  m6_4)
def m6_6 : List MI :=
 (MI.op (some 41) (.bin .eql (.tmp 40) (.c (.int .i64 15))) (some (37, true)) ::
  MI.op (some 42) (.pick (.tmp 37) (.tmp 41) (.c (.bool false))) none ::
  MI.op (some 43) (.mov (.tmp 42)) none ::
  MI.op (some 44) (.load true 4 (.tmp 4)) (some (43, true)) ::
  MI.op (some 45) (.load true 37 (.tmp 1)) (some (43, true)) ::
  MI.op (some 46) (.call 9 [(.tmp 44), (.tmp 45), (.c (.str [97, 98])), (.c (.int .i64 1))]) (some (43, true)) ::
  m6_5)
def m6_7 : List MI :=
 (MI.op (some 35) (.bin .eql (.tmp 34) (.c (.int .i64 15))) (some (31, true)) ::
  MI.op (some 36) (.pick (.tmp 31) (.tmp 35) (.c (.bool false))) none ::
  MI.op (some 37) (.mov (.tmp 36)) none ::
  MI.op (some 38) (.load true 4 (.tmp 3)) (some (37, true)) ::
  MI.op (some 39) (.load true 37 (.tmp 1)) (some (37, true)) ::
  MI.op (some 40) (.call 9 [(.tmp 38), (.tmp 39), (.c (.str [98])), (.c (.int .i64 1))]) (some (37, true)) ::
  m6_6)
def m6_8 : List MI :=
 (MI.op (some 29) (.bin .eql (.tmp 28) (.c (.int .i64 0))) (some (25, true)) ::
  MI.op (some 30) (.pick (.tmp 25) (.tmp 29) (.c (.bool false))) none ::
  MI.op (some 31) (.mov (.tmp 30)) none ::
  MI.op (some 32) (.load true 4 (.tmp 3)) (some (31, true)) ::
  MI.op (some 33) (.load true 37 (.tmp 1)) (some (31, true)) ::
  MI.op (some 34) (.call 9 [(.tmp 32), (.tmp 33), (.c (.str [97, 98])), (.c (.int .i64 2))]) (some (31, true)) ::
  m6_7)
def m6_9 : MCode :=
 (.seq
  (.reg
   (MI.op (some 23) (.mov (.tmp 2)) none ::
    MI.op (some 24) (.bin .eql (.tmp 23) (.c (.int .i64 0))) none ::
    MI.op (some 25) (.mov (.tmp 24)) none ::
    MI.op (some 26) (.load true 4 (.tmp 3)) (some (25, true)) ::
    MI.op (some 27) (.load true 37 (.tmp 1)) (some (25, true)) ::
    MI.op (some 28) (.call 9 [(.tmp 26), (.tmp 27), (.c (.str [97, 98])), (.c (.int .i64 1))]) (some (25, true)) ::
    m6_8))
  .ret)
def m6_10 : MCode :=
 (.seq
  (.reg
   [MI.op (some 18) (.bsl 1 1 [(.int .u8 0)] [(0, 1, (.c (.int .u8 106)))]) none,
    MI.op (some 19) (.mark (.tmp 18)) none,
    MI.op (some 20) (.fa 3 (.tmp 4)) none,
    MI.op none (.store 1 (.tmp 20) (.c (.int .u32 10))) none,
    MI.op (some 21) (.fa 0 (.tmp 5)) none,
    MI.op none (.store 1 (.tmp 21) (.tmp 19)) none,
    MI.op (some 22) (.fa 2 (.tmp 6)) none,
    MI.op none (.store 1 (.tmp 22) (.c (.int .u32 3))) none])
  m6_9)
def m6_11 : MCode :=
 (.seq
  (.drx
   [(MI.op (some 15) (.load true 4 (.tmp 3)) none, []),
    (MI.op (some 16) (.load true 4 (.tmp 3)) none, []),
    (MI.op (some 17) (.load true 4 (.tmp 3)) none, []),
    (MI.op (some 4) (.alloc [(.sl .full 0 []), (.int .i64 0), (.int .u32 0), (.int .u32 0)]) none, []),
    (MI.op (some 5) (.alloc [(.sl .full 0 []), (.int .i64 0), (.int .u32 0), (.int .u32 0)]) none, []),
    (MI.op (some 6) (.alloc [(.sl .full 0 []), (.int .i64 0), (.int .u32 0), (.int .u32 0)]) none, []),
    (MI.op none (.store 4 (.tmp 4) (.tmp 15)) none, [3, 0, 4, 5]),
    (MI.op none (.store 4 (.tmp 5) (.tmp 16)) none, [4, 1, 6, 0, 3, 5]),
    (MI.op none (.store 4 (.tmp 6) (.tmp 17)) none, [5, 2, 7, 0, 1, 3, 4, 6])])
  m6_10)
def m6_12 : MCode :=
 (.seq
  (.reg
   (MI.op (some 14) (.call 13 []) none ::
    m6_2))
  m6_11)
def m6_13 : MCode :=
 (.seq
  (.reg
   (MI.op (some 8) (.bsl 1 1 [(.int .u8 0)] [(0, 1, (.c (.int .u8 107)))]) none ::
    MI.op (some 9) (.mark (.tmp 8)) none ::
    MI.op (some 10) (.build [(.int .i64 0), (.str []), (.int .i64 0), (.int .u32 0), (.int .u32 0)] [(0, 1, (.c (.int .i64 1))), (1, 1, (.c (.str [97, 98]))), (2, 1, (.c (.int .i64 1))), (3, 1, (.c (.int .u32 9))), (4, 1, (.c (.int .u32 2)))]) none ::
    MI.op (some 11) (.call 7 [(.tmp 9), (.tmp 10)]) none ::
    m6_1))
  m6_12)
def m6_r : List MRes := [.tmp 0]
def m6_b : MCode :=
 (.seq
  (.reg
   [MI.op (some 0) (.mov (.c (.bool false))) none])
  m6_13)
def m6 : MFunc := ⟨0, 61, m6_r, m6_b⟩
theorem c6 : compF Tryd.prog 6 m6 = some m6 := by kernel_rfl

/- tollhouse/caps.Mint -/
def m7_1 : List MI :=
 [MI.op (some 8) (.mov (.tmp 10)) none,
  MI.op (some 11) (.ext (.tmp 8) 0) none,
  MI.op (some 12) (.ext (.tmp 8) 1) none,
  MI.op (some 6) (.mov (.tmp 11)) none,
  MI.op (some 7) (.mov (.tmp 12)) none]
def m7_2 : MCode :=
 (.seq
  (.reg
   [MI.op (some 15) (.build [(.int .i64 0), (.str []), (.int .i64 0), (.int .u32 0), (.int .u32 0), (.int .u8 0), (.int .u8 0), (.int .u8 0), (.int .u8 0), (.int .u8 0), (.int .u8 0), (.int .u8 0), (.int .u8 0), (.int .u8 0), (.int .u8 0), (.int .u8 0), (.int .u8 0), (.int .u8 0), (.int .u8 0), (.int .u8 0), (.int .u8 0), (.int .u8 0), (.int .u8 0), (.int .u8 0), (.int .u8 0), (.int .u8 0), (.int .u8 0), (.int .u8 0), (.int .u8 0), (.int .u8 0), (.int .u8 0), (.int .u8 0), (.int .u8 0), (.int .u8 0), (.int .u8 0), (.int .u8 0), (.int .u8 0)] []) none,
    MI.op (some 16) (.mov (.tmp 7)) none,
    MI.op none (.store 37 (.tmp 4) (.tmp 15)) none,
    MI.op (some 5) (.mov (.tmp 16)) none])
  .ret)
def m7_3 : MCode :=
 (.cond (.tmp 14)
  m7_2
  .skip)
def m7_4 : MCode :=
 (.seq
  (.drw
   [MI.op (some 17) (.load true 5 (.tmp 3)) none,
    MI.op (some 18) (.mov (.tmp 0)) none,
    MI.op (some 19) (.mov (.tmp 6)) none,
    MI.op (some 20) (.bsl 1 1 [(.sl .full 0 [])] [(0, 1, (.tmp 19))]) none,
    MI.op (some 21) (.call 15 [(.tmp 18), (.tmp 20)]) none]
   [MI.op (some 22) (.build [(.int .i64 0), (.str []), (.int .i64 0), (.int .u32 0), (.int .u32 0), (.int .u8 0), (.int .u8 0), (.int .u8 0), (.int .u8 0), (.int .u8 0), (.int .u8 0), (.int .u8 0), (.int .u8 0), (.int .u8 0), (.int .u8 0), (.int .u8 0), (.int .u8 0), (.int .u8 0), (.int .u8 0), (.int .u8 0), (.int .u8 0), (.int .u8 0), (.int .u8 0), (.int .u8 0), (.int .u8 0), (.int .u8 0), (.int .u8 0), (.int .u8 0), (.int .u8 0), (.int .u8 0), (.int .u8 0), (.int .u8 0), (.int .u8 0), (.int .u8 0), (.int .u8 0), (.int .u8 0), (.int .u8 0)] [(0, 5, (.tmp 17)), (5, 32, (.tmp 21))]) none,
    MI.op none (.store 37 (.tmp 4) (.tmp 22)) none,
    MI.op (some 5) (.mov (.c (.int .i64 0))) none])
  .ret)
def m7_5 : MCode :=
 (.seq
  (.seq
   (.reg
    [MI.op (some 13) (.mov (.tmp 7)) none,
     MI.op (some 14) (.bin .neq (.tmp 13) (.c (.int .i64 0))) none])
  m7_3)
  m7_4)
def m7_6 : MCode :=
 (.seq
  (.reg
   (MI.op (some 9) (.load true 5 (.tmp 3)) none ::
    MI.op (some 10) (.callp 14 [(.tmp 9)]) none ::
    m7_1))
  m7_5)
def m7_r : List MRes := [.cell 4 true 37, .tmp 5]
def m7_b : MCode :=
 (.seq
  (.reg
   [MI.op (some 3) (.box (.tmp 1)) none,
    MI.op (some 4) (.alloc [(.int .i64 0), (.str []), (.int .i64 0), (.int .u32 0), (.int .u32 0), (.int .u8 0), (.int .u8 0), (.int .u8 0), (.int .u8 0), (.int .u8 0), (.int .u8 0), (.int .u8 0), (.int .u8 0), (.int .u8 0), (.int .u8 0), (.int .u8 0), (.int .u8 0), (.int .u8 0), (.int .u8 0), (.int .u8 0), (.int .u8 0), (.int .u8 0), (.int .u8 0), (.int .u8 0), (.int .u8 0), (.int .u8 0), (.int .u8 0), (.int .u8 0), (.int .u8 0), (.int .u8 0), (.int .u8 0), (.int .u8 0), (.int .u8 0), (.int .u8 0), (.int .u8 0), (.int .u8 0), (.int .u8 0)]) none,
    MI.op (some 5) (.mov (.c (.int .i64 0))) none])
  m7_6)
def m7 : MFunc := ⟨2, 23, m7_r, m7_b⟩
theorem c7 : compF Tryd.prog 7 m7 = some m7 := by kernel_rfl

/- tollhouse/tollhouseref15.Mint -/
def m8_1 : List MI :=
 [MI.op (some 8) (.mov (.tmp 10)) none,
  MI.op (some 11) (.ext (.tmp 8) 0) none,
  MI.op (some 12) (.ext (.tmp 8) 1) none,
  MI.op (some 6) (.mov (.tmp 11)) none,
  MI.op (some 7) (.mov (.tmp 12)) none]
def m8_2 : MCode :=
 (.seq
  (.reg
   [MI.op (some 15) (.build [(.int .i64 0), (.str []), (.int .i64 0), (.int .u32 0), (.int .u32 0), (.int .u8 0), (.int .u8 0), (.int .u8 0), (.int .u8 0), (.int .u8 0), (.int .u8 0), (.int .u8 0), (.int .u8 0), (.int .u8 0), (.int .u8 0), (.int .u8 0), (.int .u8 0), (.int .u8 0), (.int .u8 0), (.int .u8 0), (.int .u8 0), (.int .u8 0), (.int .u8 0), (.int .u8 0), (.int .u8 0), (.int .u8 0), (.int .u8 0), (.int .u8 0), (.int .u8 0), (.int .u8 0), (.int .u8 0), (.int .u8 0), (.int .u8 0), (.int .u8 0), (.int .u8 0), (.int .u8 0), (.int .u8 0)] []) none,
    MI.op none (.store 37 (.tmp 4) (.tmp 15)) none,
    MI.op (some 5) (.mov (.c (.int .i64 11))) none])
  .ret)
def m8_3 : MCode :=
 (.cond (.tmp 14)
  m8_2
  .skip)
def m8_4 : MCode :=
 (.seq
  (.drw
   [MI.op (some 16) (.load true 5 (.tmp 3)) none,
    MI.op (some 17) (.mov (.tmp 0)) none,
    MI.op (some 18) (.mov (.tmp 6)) none,
    MI.op (some 19) (.bsl 1 1 [(.sl .full 0 [])] [(0, 1, (.tmp 18))]) none,
    MI.op (some 20) (.call 17 [(.tmp 17), (.tmp 19)]) none]
   [MI.op (some 21) (.build [(.int .i64 0), (.str []), (.int .i64 0), (.int .u32 0), (.int .u32 0), (.int .u8 0), (.int .u8 0), (.int .u8 0), (.int .u8 0), (.int .u8 0), (.int .u8 0), (.int .u8 0), (.int .u8 0), (.int .u8 0), (.int .u8 0), (.int .u8 0), (.int .u8 0), (.int .u8 0), (.int .u8 0), (.int .u8 0), (.int .u8 0), (.int .u8 0), (.int .u8 0), (.int .u8 0), (.int .u8 0), (.int .u8 0), (.int .u8 0), (.int .u8 0), (.int .u8 0), (.int .u8 0), (.int .u8 0), (.int .u8 0), (.int .u8 0), (.int .u8 0), (.int .u8 0), (.int .u8 0), (.int .u8 0)] [(0, 5, (.tmp 16)), (5, 32, (.tmp 20))]) none,
    MI.op none (.store 37 (.tmp 4) (.tmp 21)) none,
    MI.op (some 5) (.mov (.c (.int .i64 0))) none])
  .ret)
def m8_5 : MCode :=
 (.seq
  (.seq
   (.reg
    [MI.op (some 13) (.mov (.tmp 7)) none,
     MI.op (some 14) (.bin .neq (.tmp 13) (.c (.int .i64 0))) none])
  m8_3)
  m8_4)
def m8_6 : MCode :=
 (.seq
  (.reg
   (MI.op (some 9) (.load true 5 (.tmp 3)) none ::
    MI.op (some 10) (.callp 16 [(.tmp 9)]) none ::
    m8_1))
  m8_5)
def m8_r : List MRes := [.cell 4 true 37, .tmp 5]
def m8_b : MCode :=
 (.seq
  (.reg
   [MI.op (some 3) (.box (.tmp 1)) none,
    MI.op (some 4) (.alloc [(.int .i64 0), (.str []), (.int .i64 0), (.int .u32 0), (.int .u32 0), (.int .u8 0), (.int .u8 0), (.int .u8 0), (.int .u8 0), (.int .u8 0), (.int .u8 0), (.int .u8 0), (.int .u8 0), (.int .u8 0), (.int .u8 0), (.int .u8 0), (.int .u8 0), (.int .u8 0), (.int .u8 0), (.int .u8 0), (.int .u8 0), (.int .u8 0), (.int .u8 0), (.int .u8 0), (.int .u8 0), (.int .u8 0), (.int .u8 0), (.int .u8 0), (.int .u8 0), (.int .u8 0), (.int .u8 0), (.int .u8 0), (.int .u8 0), (.int .u8 0), (.int .u8 0), (.int .u8 0), (.int .u8 0)]) none,
    MI.op (some 5) (.mov (.c (.int .i64 0))) none])
  m8_6)
def m8 : MFunc := ⟨2, 22, m8_r, m8_b⟩
theorem c8 : compF Tryd.prog 8 m8 = some m8 := by kernel_rfl

/- tollhouse/caps.Check -/
def m9_1 : List MI :=
 [MI.op (some 11) (.mov (.tmp 16)) none,
  MI.op (some 17) (.ext (.tmp 11) 0) none,
  MI.op (some 18) (.ext (.tmp 11) 1) none,
  MI.op (some 9) (.alloc [(.int .i64 0), (.str []), (.int .i64 0), (.int .u32 0), (.int .u32 0), (.int .u8 0), (.int .u8 0), (.int .u8 0), (.int .u8 0), (.int .u8 0), (.int .u8 0), (.int .u8 0), (.int .u8 0), (.int .u8 0), (.int .u8 0), (.int .u8 0), (.int .u8 0), (.int .u8 0), (.int .u8 0), (.int .u8 0), (.int .u8 0), (.int .u8 0), (.int .u8 0), (.int .u8 0), (.int .u8 0), (.int .u8 0), (.int .u8 0), (.int .u8 0), (.int .u8 0), (.int .u8 0), (.int .u8 0), (.int .u8 0), (.int .u8 0), (.int .u8 0), (.int .u8 0), (.int .u8 0), (.int .u8 0)]) none,
  MI.op none (.store 37 (.tmp 9) (.tmp 17)) none,
  MI.op (some 10) (.mov (.tmp 18)) none]
def m9_2 : MCode :=
 (.cond (.tmp 52)
  (.seq
   (.reg
    [MI.op (some 8) (.mov (.c (.int .i64 15))) none])
   .ret)
  .skip)
def m9_3 : MCode :=
 (.seq
  (.reg
   [MI.op (some 53) (.fa 0 (.tmp 5)) none,
    MI.op (some 54) (.fa 1 (.tmp 53)) none,
    MI.op (some 55) (.load false 1 (.tmp 54)) none,
    MI.op (some 56) (.bin .neq (.tmp 55) (.c (.str []))) none,
    MI.op (some 57) (.mov (.tmp 56)) none,
    MI.op (some 58) (.fa 0 (.tmp 5)) (some (57, true)),
    MI.op (some 59) (.fa 1 (.tmp 58)) (some (57, true)),
    MI.op (some 60) (.load false 1 (.tmp 59)) (some (57, true)),
    MI.op (some 61) (.mov (.tmp 2)) (some (57, true)),
    MI.op (some 62) (.bin .neq (.tmp 60) (.tmp 61)) (some (57, true)),
    MI.op (some 63) (.pick (.tmp 57) (.tmp 62) (.c (.bool false))) none,
    MI.op (some 64) (.mov (.tmp 63)) none,
    MI.op (some 65) (.fa 0 (.tmp 5)) (some (64, false)),
    MI.op (some 66) (.fa 2 (.tmp 65)) (some (64, false)),
    MI.op (some 67) (.load false 1 (.tmp 66)) (some (64, false)),
    MI.op (some 68) (.mov (.tmp 3)) (some (64, false)),
    MI.op (some 69) (.bin .and (.tmp 67) (.tmp 68)) (some (64, false)),
    MI.op (some 70) (.mov (.tmp 3)) (some (64, false)),
    MI.op (some 71) (.bin .neq (.tmp 69) (.tmp 70)) (some (64, false)),
    MI.op (some 72) (.pick (.tmp 64) (.c (.bool true)) (.tmp 71)) none,
    MI.op (some 52) (.mov (.tmp 72)) none])
  m9_2)
def m9_4 : MCode :=
 (.cond (.tmp 45)
  (.seq
   (.reg
    [MI.op (some 8) (.mov (.c (.int .i64 13))) none])
   .ret)
  m9_3)
def m9_5 : MCode :=
 (.seq
  (.reg
   [MI.op (some 46) (.fa 3 (.tmp 4)) none,
    MI.op (some 47) (.load false 1 (.tmp 46)) none,
    MI.op (some 48) (.fa 0 (.tmp 5)) none,
    MI.op (some 49) (.fa 3 (.tmp 48)) none,
    MI.op (some 50) (.load false 1 (.tmp 49)) none,
    MI.op (some 51) (.bin .gtr (.tmp 47) (.tmp 50)) none,
    MI.op (some 45) (.mov (.tmp 51)) none])
  m9_4)
def m9_6 : MCode :=
 (.cond (.tmp 38)
  (.seq
   (.reg
    [MI.op (some 8) (.mov (.c (.int .i64 14))) none])
   .ret)
  m9_5)
def m9_7 : MCode :=
 (.seq
  (.reg
   [MI.op (some 39) (.fa 0 (.tmp 5)) none,
    MI.op (some 40) (.fa 4 (.tmp 39)) none,
    MI.op (some 41) (.load false 1 (.tmp 40)) none,
    MI.op (some 42) (.fa 2 (.tmp 4)) none,
    MI.op (some 43) (.load false 1 (.tmp 42)) none,
    MI.op (some 44) (.bin .neq (.tmp 41) (.tmp 43)) none,
    MI.op (some 38) (.mov (.tmp 44)) none])
  m9_6)
def m9_8 : MCode :=
 (.cond (.tmp 19)
  (.seq
   (.reg
    [MI.op (some 8) (.mov (.c (.int .i64 12))) none])
   .ret)
  m9_7)
def m9_9 : MCode :=
 (.seq
  (.blk 0
   (.seq
    (.drw
     [MI.op (some 20) (.mov (.tmp 10)) none,
      MI.op (some 21) (.bin .neq (.tmp 20) (.c (.int .i64 0))) none,
      MI.op (some 22) (.mov (.tmp 21)) none,
      MI.op (some 23) (.fa 0 (.tmp 5)) (some (22, false)),
      MI.op (some 24) (.fa 0 (.tmp 23)) (some (22, false)),
      MI.op (some 25) (.load false 1 (.tmp 24)) (some (22, false)),
      MI.op (some 26) (.fa 1 (.tmp 4)) (some (22, false)),
      MI.op (some 27) (.load false 1 (.tmp 26)) (some (22, false)),
      MI.op (some 28) (.bin .neq (.tmp 25) (.tmp 27)) (some (22, false)),
      MI.op (some 29) (.pick (.tmp 22) (.c (.bool true)) (.tmp 28)) none,
      MI.op (some 30) (.mov (.tmp 29)) none,
      MI.op (some 31) (.fa 5 (.tmp 9)) (some (30, false)),
      MI.op (some 32) (.slArr 32 1 (.tmp 31) none none none) (some (30, false)),
      MI.op (some 33) (.fa 5 (.tmp 5)) (some (30, false)),
      MI.op (some 34) (.slArr 32 1 (.tmp 33) none none none) (some (30, false))]
     [MI.op (some 35) (.call 18 [(.tmp 32), (.tmp 34)]) (some (30, false)),
      MI.op (some 36) (.un .not (.tmp 35)) (some (30, false)),
      MI.op (some 37) (.pick (.tmp 30) (.c (.bool true)) (.tmp 36)) none,
      MI.op (some 19) (.mov (.tmp 37)) none])
  m9_8))
  (.seq
   (.reg
    [MI.op (some 8) (.mov (.c (.int .i64 0))) none])
   .ret))
def m9_10 : MCode :=
 (.seq
  (.reg
   (MI.op (some 12) (.fa 0 (.tmp 4)) none ::
    MI.op (some 13) (.load false 1 (.tmp 12)) none ::
    MI.op (some 14) (.fa 0 (.tmp 5)) none ::
    MI.op (some 15) (.load true 5 (.tmp 14)) none ::
    MI.op (some 16) (.call 7 [(.tmp 13), (.tmp 15)]) none ::
    m9_1))
  m9_9)
def m9_r : List MRes := [.tmp 8]
def m9_b : MCode :=
 (.seq
  (.reg
   [MI.op (some 4) (.box (.tmp 0)) none,
    MI.op (some 5) (.box (.tmp 1)) none,
    MI.op (some 8) (.mov (.c (.int .i64 0))) none])
  m9_10)
def m9 : MFunc := ⟨4, 73, m9_r, m9_b⟩
theorem c9 : compF Tryd.prog 9 m9 = some m9 := by kernel_rfl

/- tollhouse/tollhouseref15.Check -/
def m10_1 : List MI :=
 [MI.op (some 11) (.mov (.tmp 16)) none,
  MI.op (some 17) (.ext (.tmp 11) 0) none,
  MI.op (some 18) (.ext (.tmp 11) 1) none,
  MI.op (some 9) (.alloc [(.int .i64 0), (.str []), (.int .i64 0), (.int .u32 0), (.int .u32 0), (.int .u8 0), (.int .u8 0), (.int .u8 0), (.int .u8 0), (.int .u8 0), (.int .u8 0), (.int .u8 0), (.int .u8 0), (.int .u8 0), (.int .u8 0), (.int .u8 0), (.int .u8 0), (.int .u8 0), (.int .u8 0), (.int .u8 0), (.int .u8 0), (.int .u8 0), (.int .u8 0), (.int .u8 0), (.int .u8 0), (.int .u8 0), (.int .u8 0), (.int .u8 0), (.int .u8 0), (.int .u8 0), (.int .u8 0), (.int .u8 0), (.int .u8 0), (.int .u8 0), (.int .u8 0), (.int .u8 0), (.int .u8 0)]) none,
  MI.op none (.store 37 (.tmp 9) (.tmp 17)) none,
  MI.op (some 10) (.mov (.tmp 18)) none]
def m10_2 : MCode :=
 (.cond (.tmp 51)
  (.seq
   (.reg
    [MI.op (some 8) (.mov (.c (.int .i64 15))) none])
   .ret)
  .skip)
def m10_3 : MCode :=
 (.seq
  (.reg
   [MI.op (some 52) (.fa 0 (.tmp 5)) none,
    MI.op (some 53) (.fa 1 (.tmp 52)) none,
    MI.op (some 54) (.load false 1 (.tmp 53)) none,
    MI.op (some 55) (.bin .neq (.tmp 54) (.c (.str []))) none,
    MI.op (some 56) (.mov (.tmp 55)) none,
    MI.op (some 57) (.fa 0 (.tmp 5)) (some (56, true)),
    MI.op (some 58) (.fa 1 (.tmp 57)) (some (56, true)),
    MI.op (some 59) (.load false 1 (.tmp 58)) (some (56, true)),
    MI.op (some 60) (.mov (.tmp 2)) (some (56, true)),
    MI.op (some 61) (.bin .neq (.tmp 59) (.tmp 60)) (some (56, true)),
    MI.op (some 62) (.pick (.tmp 56) (.tmp 61) (.c (.bool false))) none,
    MI.op (some 63) (.mov (.tmp 62)) none,
    MI.op (some 64) (.fa 0 (.tmp 5)) (some (63, false)),
    MI.op (some 65) (.fa 2 (.tmp 64)) (some (63, false)),
    MI.op (some 66) (.load false 1 (.tmp 65)) (some (63, false)),
    MI.op (some 67) (.mov (.tmp 3)) (some (63, false)),
    MI.op (some 68) (.bin .and (.tmp 66) (.tmp 67)) (some (63, false)),
    MI.op (some 69) (.mov (.tmp 3)) (some (63, false)),
    MI.op (some 70) (.bin .neq (.tmp 68) (.tmp 69)) (some (63, false)),
    MI.op (some 71) (.pick (.tmp 63) (.c (.bool true)) (.tmp 70)) none,
    MI.op (some 51) (.mov (.tmp 71)) none])
  m10_2)
def m10_4 : MCode :=
 (.cond (.tmp 44)
  (.seq
   (.reg
    [MI.op (some 8) (.mov (.c (.int .i64 13))) none])
   .ret)
  m10_3)
def m10_5 : MCode :=
 (.seq
  (.reg
   [MI.op (some 45) (.fa 3 (.tmp 4)) none,
    MI.op (some 46) (.load false 1 (.tmp 45)) none,
    MI.op (some 47) (.fa 0 (.tmp 5)) none,
    MI.op (some 48) (.fa 3 (.tmp 47)) none,
    MI.op (some 49) (.load false 1 (.tmp 48)) none,
    MI.op (some 50) (.bin .gtr (.tmp 46) (.tmp 49)) none,
    MI.op (some 44) (.mov (.tmp 50)) none])
  m10_4)
def m10_6 : MCode :=
 (.cond (.tmp 37)
  (.seq
   (.reg
    [MI.op (some 8) (.mov (.c (.int .i64 14))) none])
   .ret)
  m10_5)
def m10_7 : MCode :=
 (.seq
  (.reg
   [MI.op (some 38) (.fa 0 (.tmp 5)) none,
    MI.op (some 39) (.fa 4 (.tmp 38)) none,
    MI.op (some 40) (.load false 1 (.tmp 39)) none,
    MI.op (some 41) (.fa 2 (.tmp 4)) none,
    MI.op (some 42) (.load false 1 (.tmp 41)) none,
    MI.op (some 43) (.bin .neq (.tmp 40) (.tmp 42)) none,
    MI.op (some 37) (.mov (.tmp 43)) none])
  m10_6)
def m10_8 : MCode :=
 (.cond (.tmp 19)
  (.seq
   (.reg
    [MI.op (some 8) (.mov (.c (.int .i64 12))) none])
   .ret)
  m10_7)
def m10_9 : MCode :=
 (.seq
  (.blk 0
   (.seq
    (.reg
     [MI.op (some 20) (.mov (.tmp 10)) none,
      MI.op (some 21) (.bin .neq (.tmp 20) (.c (.int .i64 0))) none,
      MI.op (some 22) (.mov (.tmp 21)) none,
      MI.op (some 23) (.fa 0 (.tmp 5)) (some (22, false)),
      MI.op (some 24) (.fa 0 (.tmp 23)) (some (22, false)),
      MI.op (some 25) (.load false 1 (.tmp 24)) (some (22, false)),
      MI.op (some 26) (.fa 1 (.tmp 4)) (some (22, false)),
      MI.op (some 27) (.load false 1 (.tmp 26)) (some (22, false)),
      MI.op (some 28) (.bin .neq (.tmp 25) (.tmp 27)) (some (22, false)),
      MI.op (some 29) (.pick (.tmp 22) (.c (.bool true)) (.tmp 28)) none,
      MI.op (some 30) (.mov (.tmp 29)) none,
      MI.op (some 31) (.fa 5 (.tmp 9)) (some (30, false)),
      MI.op (some 32) (.load true 32 (.tmp 31)) (some (30, false)),
      MI.op (some 33) (.fa 5 (.tmp 5)) (some (30, false)),
      MI.op (some 34) (.load true 32 (.tmp 33)) (some (30, false)),
      MI.op (some 35) (.eqv true [(32, .i)] (.tmp 32) (.tmp 34)) (some (30, false)),
      MI.op (some 36) (.pick (.tmp 30) (.c (.bool true)) (.tmp 35)) none,
      MI.op (some 19) (.mov (.tmp 36)) none])
  m10_8))
  (.seq
   (.reg
    [MI.op (some 8) (.mov (.c (.int .i64 0))) none])
   .ret))
def m10_10 : MCode :=
 (.seq
  (.reg
   (MI.op (some 12) (.fa 0 (.tmp 4)) none ::
    MI.op (some 13) (.load false 1 (.tmp 12)) none ::
    MI.op (some 14) (.fa 0 (.tmp 5)) none ::
    MI.op (some 15) (.load true 5 (.tmp 14)) none ::
    MI.op (some 16) (.call 8 [(.tmp 13), (.tmp 15)]) none ::
    m10_1))
  m10_9)
def m10_r : List MRes := [.tmp 8]
def m10_b : MCode :=
 (.seq
  (.reg
   [MI.op (some 4) (.box (.tmp 0)) none,
    MI.op (some 5) (.box (.tmp 1)) none,
    MI.op (some 8) (.mov (.c (.int .i64 0))) none])
  m10_10)
def m10 : MFunc := ⟨4, 72, m10_r, m10_b⟩
theorem c10 : compF Tryd.prog 10 m10 = some m10 := by kernel_rfl

/- tollhouse/tollhouselaw15.own -/
def m11_1 : MCode :=
 (.seq
  (.drw
   [MI.op (some 3) (.bsl 0 1 [(.int .u8 0)] []) none,
    MI.op (some 4) (.fa 0 (.tmp 1)) none,
    MI.op (some 5) (.load false 1 (.tmp 4)) none,
    MI.op (some 6) (.appP 1 1 (.tmp 3) (.tmp 5)) none,
    MI.op (some 7) (.fa 1 (.tmp 1)) none,
    MI.op (some 8) (.load false 1 (.tmp 7)) none,
    MI.op (some 9) (.fa 2 (.tmp 1)) none,
    MI.op (some 10) (.load false 1 (.tmp 9)) none,
    MI.op (some 11) (.fa 3 (.tmp 1)) none,
    MI.op (some 12) (.load false 1 (.tmp 11)) none]
   [MI.op (some 13) (.build [(.sl .full 0 []), (.int .i64 0), (.int .u32 0), (.int .u32 0)] [(0, 1, (.tmp 6)), (1, 1, (.tmp 8)), (2, 1, (.tmp 10)), (3, 1, (.tmp 12))]) none,
    MI.op none (.store 4 (.tmp 2) (.tmp 13)) none])
  .ret)
def m11_r : List MRes := [.cell 2 true 4]
def m11_b : MCode :=
 (.seq
  (.reg
   [MI.op (some 1) (.box (.tmp 0)) none,
    MI.op (some 2) (.alloc [(.sl .full 0 []), (.int .i64 0), (.int .u32 0), (.int .u32 0)]) none])
  m11_1)
def m11 : MFunc := ⟨1, 14, m11_r, m11_b⟩
theorem c11 : compF Tryd.prog 11 m11 = some m11 := by kernel_rfl

/- tollhouse/tollhouselaw15.ward -/
def m13_1 : MCode :=
 (.seq
  (.reg
   [MI.op (some 1) (.bsl 1 1 [(.int .u8 0)] [(0, 1, (.c (.int .u8 107)))]) none,
    MI.op (some 2) (.mark (.tmp 1)) none,
    MI.op (some 3) (.build [(.sl .full 0 []), (.int .i64 0), (.int .u32 0), (.int .u32 0)] [(0, 1, (.tmp 2)), (1, 1, (.c (.int .i64 1))), (2, 1, (.c (.int .u32 2))), (3, 1, (.c (.int .u32 9)))]) none,
    MI.op none (.store 4 (.tmp 0) (.tmp 3)) none])
  .ret)
def m13_r : List MRes := [.cell 0 true 4]
def m13_b : MCode :=
 (.seq
  (.reg
   [MI.op (some 0) (.alloc [(.sl .full 0 []), (.int .i64 0), (.int .u32 0), (.int .u32 0)]) none])
  m13_1)
def m13 : MFunc := ⟨0, 4, m13_r, m13_b⟩
theorem c13 : compF Tryd.prog 13 m13 = some m13 := by kernel_rfl

end Go.Proofs.YtkphojcmjffccaaDoor
