/- The loaded functions as texts of the ideal machine (written by a program of ours), and that they are the loaded ones. -/
import Derived.Test.YtmblapgoimegkaaDoorE31
import Derived.Test.YtmblapgoimegkaaDoorProg
set_option linter.unusedVariables false
namespace Go.Proofs.YtmblapgoimegkaaDoor
open Go.RowKit

/- tollhouse/tollhouselaw14.wakes -/
def m24_1 : List MI :=
 [MI.op (some 14) (.mov (.tmp 16)) none,
  MI.op (some 17) (.ext (.tmp 14) 0) none,
  MI.op (some 18) (.ext (.tmp 14) 1) none,
  MI.op (some 2) (.mov (.tmp 17)) none,
  MI.op (some 3) (.mov (.tmp 18)) none]
def m24_2 : List MI :=
 [MI.op (some 19) (.mov (.tmp 21)) none,
  MI.op (some 22) (.ext (.tmp 19) 0) none,
  MI.op (some 23) (.ext (.tmp 19) 1) none,
  MI.op (some 4) (.alloc [(.int .i64 0), (.str []), (.int .i64 0), (.int .u32 0), (.int .u32 0), (.int .u8 0), (.int .u8 0), (.int .u8 0), (.int .u8 0), (.int .u8 0), (.int .u8 0), (.int .u8 0), (.int .u8 0), (.int .u8 0), (.int .u8 0), (.int .u8 0), (.int .u8 0), (.int .u8 0), (.int .u8 0), (.int .u8 0), (.int .u8 0), (.int .u8 0), (.int .u8 0), (.int .u8 0), (.int .u8 0), (.int .u8 0), (.int .u8 0), (.int .u8 0), (.int .u8 0), (.int .u8 0), (.int .u8 0), (.int .u8 0), (.int .u8 0), (.int .u8 0), (.int .u8 0), (.int .u8 0), (.int .u8 0)]) none,
  MI.op none (.store 37 (.tmp 4) (.tmp 22)) none,
  MI.op (some 5) (.mov (.tmp 23)) none]
def m24_3 : List MI :=
 [MI.op (some 24) (.mov (.tmp 27)) none,
  MI.op (some 28) (.ext (.tmp 24) 0) none,
  MI.op (some 29) (.ext (.tmp 24) 1) none,
  MI.op (some 6) (.mov (.tmp 28)) none,
  MI.op (some 7) (.mov (.tmp 29)) none]
def m24_4 : List MI :=
 [MI.op (some 30) (.mov (.tmp 32)) none,
  MI.op (some 33) (.ext (.tmp 30) 0) none,
  MI.op (some 34) (.ext (.tmp 30) 1) none,
  MI.op (some 8) (.mov (.tmp 33)) none,
  MI.op (some 9) (.mov (.tmp 34)) none]
def m24_5 : List MI :=
 [MI.op (some 102) (.pick (.tmp 97) (.tmp 101) (.c (.bool false))) none,
  MI.op (some 103) (.mov (.tmp 102)) none,
  MI.op (some 104) (.mov (.tmp 9)) (some (103, true)),
  MI.op (some 105) (.bin .eql (.tmp 104) (.c (.int .i64 11))) (some (103, true)),
  MI.op (some 106) (.pick (.tmp 103) (.tmp 105) (.c (.bool false))) none,
  MI.op (some 0) (.mov (.tmp 106)) none]
def m24_6 : MCode :=
 (.seq
  (.reg
   (MI.op (some 35) (.mov (.tmp 3)) none ::
    MI.op (some 36) (.bin .eql (.tmp 35) (.c (.int .i64 0))) none ::
    MI.op (some 37) (.mov (.tmp 36)) none ::
    MI.op (some 38) (.mov (.tmp 2)) (some (37, true)) ::
    MI.op (some 39) (.len (.tmp 38)) (some (37, true)) ::
    MI.op (some 40) (.bin .eql (.tmp 39) (.c (.int .i64 46))) (some (37, true)) ::
    MI.op (some 41) (.pick (.tmp 37) (.tmp 40) (.c (.bool false))) none ::
    MI.op (some 42) (.mov (.tmp 41)) none ::
    MI.op (some 43) (.mov (.tmp 2)) (some (42, true)) ::
    MI.op (some 44) (.ixSl 1 (.tmp 43) (.c (.int .i64 0))) (some (42, true)) ::
    MI.op (some 45) (.load false 1 (.tmp 44)) (some (42, true)) ::
    MI.op (some 46) (.bin .eql (.tmp 45) (.c (.int .u8 2))) (some (42, true)) ::
    MI.op (some 47) (.pick (.tmp 42) (.tmp 46) (.c (.bool false))) none ::
    MI.op (some 48) (.mov (.tmp 47)) none ::
    MI.op (some 49) (.mov (.tmp 2)) (some (48, true)) ::
    MI.op (some 50) (.ixSl 1 (.tmp 49) (.c (.int .i64 1))) (some (48, true)) ::
    MI.op (some 51) (.load false 1 (.tmp 50)) (some (48, true)) ::
    MI.op (some 52) (.bin .eql (.tmp 51) (.c (.int .u8 97))) (some (48, true)) ::
    MI.op (some 53) (.pick (.tmp 48) (.tmp 52) (.c (.bool false))) none ::
    MI.op (some 54) (.mov (.tmp 53)) none ::
    MI.op (some 55) (.mov (.tmp 2)) (some (54, true)) ::
    MI.op (some 56) (.ixSl 1 (.tmp 55) (.c (.int .i64 5))) (some (54, true)) ::
    MI.op (some 57) (.load false 1 (.tmp 56)) (some (54, true)) ::
    MI.op (some 58) (.bin .eql (.tmp 57) (.c (.int .u8 3))) (some (54, true)) ::
    MI.op (some 59) (.pick (.tmp 54) (.tmp 58) (.c (.bool false))) none ::
    MI.op (some 60) (.mov (.tmp 59)) none ::
    MI.op (some 61) (.mov (.tmp 2)) (some (60, true)) ::
    MI.op (some 62) (.ixSl 1 (.tmp 61) (.c (.int .i64 6))) (some (60, true)) ::
    MI.op (some 63) (.load false 1 (.tmp 62)) (some (60, true)) ::
    MI.op (some 64) (.bin .eql (.tmp 63) (.c (.int .u8 2))) (some (60, true)) ::
    MI.op (some 65) (.pick (.tmp 60) (.tmp 64) (.c (.bool false))) none ::
    MI.op (some 66) (.mov (.tmp 65)) none ::
    MI.op (some 67) (.mov (.tmp 2)) (some (66, true)) ::
    MI.op (some 68) (.ixSl 1 (.tmp 67) (.c (.int .i64 7))) (some (66, true)) ::
    MI.op (some 69) (.load false 1 (.tmp 68)) (some (66, true)) ::
    MI.op (some 70) (.bin .eql (.tmp 69) (.c (.int .u8 1))) (some (66, true)) ::
    MI.op (some 71) (.pick (.tmp 66) (.tmp 70) (.c (.bool false))) none ::
    MI.op (some 72) (.mov (.tmp 71)) none ::
    MI.op (some 73) (.mov (.tmp 2)) (some (72, true)) ::
    MI.op (some 74) (.ixSl 1 (.tmp 73) (.c (.int .i64 10))) (some (72, true)) ::
    MI.op (some 75) (.load false 1 (.tmp 74)) (some (72, true)) ::
    MI.op (some 76) (.bin .eql (.tmp 75) (.c (.int .u8 4))) (some (72, true)) ::
    MI.op (some 77) (.pick (.tmp 72) (.tmp 76) (.c (.bool false))) none ::
    MI.op (some 78) (.mov (.tmp 77)) none ::
    MI.op (some 79) (.mov (.tmp 2)) (some (78, true)) ::
    MI.op (some 80) (.ixSl 1 (.tmp 79) (.c (.int .i64 45))) (some (78, true)) ::
    MI.op (some 81) (.load false 1 (.tmp 80)) (some (78, true)) ::
    MI.op (some 82) (.bin .eql (.tmp 81) (.c (.int .u8 9))) (some (78, true)) ::
    MI.op (some 83) (.pick (.tmp 78) (.tmp 82) (.c (.bool false))) none ::
    MI.op (some 84) (.mov (.tmp 83)) none ::
    MI.op (some 85) (.mov (.tmp 5)) (some (84, true)) ::
    MI.op (some 86) (.bin .eql (.tmp 85) (.c (.int .i64 0))) (some (84, true)) ::
    MI.op (some 87) (.pick (.tmp 84) (.tmp 86) (.c (.bool false))) none ::
    MI.op (some 88) (.mov (.tmp 87)) none ::
    MI.op (some 89) (.load true 37 (.tmp 4)) (some (88, true)) ::
    MI.op (some 90) (.load true 37 (.tmp 1)) (some (88, true)) ::
    MI.op (some 91) (.eqv false [(1, .i), (1, .s), (35, .i)] (.tmp 89) (.tmp 90)) (some (88, true)) ::
    MI.op (some 92) (.pick (.tmp 88) (.tmp 91) (.c (.bool false))) none ::
    MI.op (some 93) (.mov (.tmp 92)) none ::
    MI.op (some 94) (.mov (.tmp 7)) (some (93, true)) ::
    MI.op (some 95) (.bin .eql (.tmp 94) (.c (.int .i64 0))) (some (93, true)) ::
    MI.op (some 96) (.pick (.tmp 93) (.tmp 95) (.c (.bool false))) none ::
    MI.op (some 97) (.mov (.tmp 96)) none ::
    MI.op (some 98) (.mov (.tmp 6)) (some (97, true)) ::
    MI.op (some 99) (.mov (.tmp 2)) (some (97, true)) ::
    MI.op (some 100) (.slSl 1 (.tmp 99) none (some (.c (.int .i64 14))) none) (some (97, true)) ::
    MI.op (some 101) (.call 31 [(.tmp 98), (.tmp 100)]) (some (97, true)) ::
    m24_5))
  .ret)
def m24_7 : MCode :=
 (.seq
  (.reg
   (MI.op (some 31) (.build [(.int .i64 0), (.str []), (.int .i64 0), (.int .u32 0), (.int .u32 0)] []) none ::
    MI.op (some 32) (.call 27 [(.tmp 31)]) none ::
    m24_4))
  m24_6)
def m24_8 : MCode :=
 (.seq
  (.reg
   (MI.op (some 25) (.fa 0 (.tmp 1)) none ::
    MI.op (some 26) (.load true 5 (.tmp 25)) none ::
    MI.op (some 27) (.call 27 [(.tmp 26)]) none ::
    m24_3))
  m24_7)
def m24_9 : MCode :=
 (.seq
  (.reg
   (MI.op (some 20) (.mov (.tmp 2)) none ::
    MI.op (some 21) (.call 29 [(.tmp 20)]) none ::
    m24_2))
  m24_8)
def m24_10 : MCode :=
 (.seq
  (.reg
   (MI.op (some 15) (.load true 37 (.tmp 1)) none ::
    MI.op (some 16) (.call 25 [(.tmp 15)]) none ::
    m24_1))
  m24_9)
def m24_11 : MCode :=
 (.seq
  (.reg
   [MI.op (some 12) (.fa 5 (.tmp 1)) none,
    MI.op (some 13) (.ixArr 32 1 (.tmp 12) (.c (.int .i64 31))) none,
    MI.op none (.store 1 (.tmp 13) (.c (.int .u8 9))) none])
  m24_10)
def m24_12 : MCode :=
 (.seq
  (.reg
   [MI.op (some 10) (.build [(.int .i64 0), (.str []), (.int .i64 0), (.int .u32 0), (.int .u32 0)] [(0, 1, (.c (.int .i64 2))), (1, 1, (.c (.str [97, 98]))), (2, 1, (.c (.int .i64 3))), (3, 1, (.c (.int .u32 258))), (4, 1, (.c (.int .u32 4)))]) none,
    MI.op (some 11) (.fa 0 (.tmp 1)) none,
    MI.op none (.store 5 (.tmp 11) (.tmp 10)) none])
  m24_11)
def m24_13 : MCode :=
 (.seq
  (.reg
   [MI.op (some 1) (.alloc [(.int .i64 0), (.str []), (.int .i64 0), (.int .u32 0), (.int .u32 0), (.int .u8 0), (.int .u8 0), (.int .u8 0), (.int .u8 0), (.int .u8 0), (.int .u8 0), (.int .u8 0), (.int .u8 0), (.int .u8 0), (.int .u8 0), (.int .u8 0), (.int .u8 0), (.int .u8 0), (.int .u8 0), (.int .u8 0), (.int .u8 0), (.int .u8 0), (.int .u8 0), (.int .u8 0), (.int .u8 0), (.int .u8 0), (.int .u8 0), (.int .u8 0), (.int .u8 0), (.int .u8 0), (.int .u8 0), (.int .u8 0), (.int .u8 0), (.int .u8 0), (.int .u8 0), (.int .u8 0), (.int .u8 0)]) none])
  m24_12)
def m24_r : List MRes := [.tmp 0]
def m24_b : MCode :=
 (.seq
  (.reg
   [MI.op (some 0) (.mov (.c (.bool false))) none])
  m24_13)
def m24 : MFunc := ⟨0, 107, m24_r, m24_b⟩
theorem c24 : compF Tryd.prog 24 m24 = some m24 := by kernel_rfl

/- tollhouse/token.Encode -/
def m25_1 : List MI :=
 [MI.op (some 6) (.mov (.tmp 9)) none,
  MI.op (some 10) (.ext (.tmp 6) 0) none,
  MI.op (some 11) (.ext (.tmp 6) 1) none,
  MI.op (some 4) (.mov (.tmp 10)) none,
  MI.op (some 5) (.mov (.tmp 11)) none]
def m25_2 : MCode :=
 (.seq
  (.reg
   [MI.op (some 14) (.mov (.tmp 5)) none,
    MI.op (some 2) (.mov (.c (.sl .full 0 []))) none,
    MI.op (some 3) (.mov (.tmp 14)) none])
  .ret)
def m25_3 : MCode :=
 (.cond (.tmp 13)
  m25_2
  .skip)
def m25_4 : MCode :=
 (.seq
  (.reg
   [MI.op (some 15) (.mov (.tmp 4)) none,
    MI.op (some 16) (.fa 5 (.tmp 1)) none,
    MI.op (some 17) (.slArr 32 1 (.tmp 16) none none none) none,
    MI.op (some 18) (.app 1 1 (.tmp 15) (.tmp 17)) none,
    MI.op (some 2) (.mov (.tmp 18)) none,
    MI.op (some 3) (.mov (.c (.int .i64 0))) none])
  .ret)
def m25_5 : MCode :=
 (.seq
  (.seq
   (.reg
    [MI.op (some 12) (.mov (.tmp 5)) none,
     MI.op (some 13) (.bin .neq (.tmp 12) (.c (.int .i64 0))) none])
  m25_3)
  m25_4)
def m25_6 : MCode :=
 (.seq
  (.reg
   (MI.op (some 7) (.fa 0 (.tmp 1)) none ::
    MI.op (some 8) (.load true 5 (.tmp 7)) none ::
    MI.op (some 9) (.call 27 [(.tmp 8)]) none ::
    m25_1))
  m25_5)
def m25_r : List MRes := [.tmp 2, .tmp 3]
def m25_b : MCode :=
 (.seq
  (.reg
   [MI.op (some 1) (.box (.tmp 0)) none,
    MI.op (some 2) (.mov (.c (.sl .full 0 []))) none,
    MI.op (some 3) (.mov (.c (.int .i64 0))) none])
  m25_6)
def m25 : MFunc := ⟨1, 19, m25_r, m25_b⟩
theorem c25 : compF Tryd.prog 25 m25 = some m25 := by kernel_rfl

/- tollhouse/tollhouseref14.Encode -/
def m26_1 : List MI :=
 [MI.op (some 6) (.mov (.tmp 9)) none,
  MI.op (some 10) (.ext (.tmp 6) 0) none,
  MI.op (some 11) (.ext (.tmp 6) 1) none,
  MI.op (some 4) (.mov (.tmp 10)) none,
  MI.op (some 5) (.mov (.tmp 11)) none]
def m26_2 : MCode :=
 (.seq
  (.reg
   [MI.op (some 14) (.mov (.tmp 5)) none,
    MI.op (some 2) (.mov (.c (.sl .full 0 []))) none,
    MI.op (some 3) (.mov (.tmp 14)) none])
  .ret)
def m26_3 : MCode :=
 (.cond (.tmp 13)
  m26_2
  .skip)
def m26_4 : MCode :=
 (.seq
  (.reg
   [MI.op (some 15) (.mov (.tmp 4)) none,
    MI.op (some 16) (.fa 5 (.tmp 1)) none,
    MI.op (some 17) (.slArr 32 1 (.tmp 16) none none none) none,
    MI.op (some 18) (.app 1 1 (.tmp 15) (.tmp 17)) none,
    MI.op (some 2) (.mov (.tmp 18)) none,
    MI.op (some 3) (.mov (.c (.int .i64 0))) none])
  .ret)
def m26_5 : MCode :=
 (.seq
  (.seq
   (.reg
    [MI.op (some 12) (.mov (.tmp 5)) none,
     MI.op (some 13) (.bin .neq (.tmp 12) (.c (.int .i64 0))) none])
  m26_3)
  m26_4)
def m26_6 : MCode :=
 (.seq
  (.reg
   (MI.op (some 7) (.fa 0 (.tmp 1)) none ::
    MI.op (some 8) (.load true 5 (.tmp 7)) none ::
    MI.op (some 9) (.call 28 [(.tmp 8)]) none ::
    m26_1))
  m26_5)
def m26_r : List MRes := [.tmp 2, .tmp 3]
def m26_b : MCode :=
 (.seq
  (.reg
   [MI.op (some 1) (.box (.tmp 0)) none,
    MI.op (some 2) (.mov (.c (.sl .full 0 []))) none,
    MI.op (some 3) (.mov (.c (.int .i64 0))) none])
  m26_6)
def m26 : MFunc := ⟨1, 19, m26_r, m26_b⟩
theorem c26 : compF Tryd.prog 26 m26 = some m26 := by kernel_rfl

/- tollhouse/token.Claim -/
def m27_1 : List MI :=
 [MI.op (some 22) (.un .not (.tmp 21)) (some (17, true)),
  MI.op (some 23) (.pick (.tmp 17) (.tmp 22) (.c (.bool false))) (some (13, false)),
  MI.op (some 24) (.pick (.tmp 13) (.c (.bool true)) (.tmp 23)) none,
  MI.op (some 25) (.mov (.tmp 24)) none,
  MI.op (some 26) (.fa 2 (.tmp 1)) (some (25, false)),
  MI.op (some 27) (.load false 1 (.tmp 26)) (some (25, false)),
  MI.op (some 28) (.bin .lss (.tmp 27) (.c (.int .i64 1))) (some (25, false)),
  MI.op (some 29) (.pick (.tmp 25) (.c (.bool true)) (.tmp 28)) none,
  MI.op (some 30) (.mov (.tmp 29)) none,
  MI.op (some 31) (.fa 2 (.tmp 1)) (some (30, false)),
  MI.op (some 32) (.load false 1 (.tmp 31)) (some (30, false)),
  MI.op (some 33) (.bin .gtr (.tmp 32) (.c (.int .i64 3))) (some (30, false)),
  MI.op (some 34) (.pick (.tmp 30) (.c (.bool true)) (.tmp 33)) none]
def m27_2 : MCode :=
 (.seq
  (.reg
   [MI.op (some 2) (.mov (.c (.sl .full 0 []))) none,
    MI.op (some 3) (.mov (.c (.int .i64 11))) none])
  .ret)
def m27_3 : MCode :=
 (.cond (.tmp 34)
  m27_2
  .skip)
def m27_4 : List MI :=
 [MI.op (some 4) (.alloc [(.int .u8 0), (.int .u8 0), (.int .u8 0), (.int .u8 0)]) none,
  MI.op none (.store 4 (.tmp 4) (.tmp 37)) none]
def m27_5 : MCode :=
 (.seq
  (.drw
   [MI.op (some 38) (.fa 0 (.tmp 1)) none,
    MI.op (some 39) (.load false 1 (.tmp 38)) none,
    MI.op (some 40) (.toInt .u8 (.tmp 39)) none,
    MI.op (some 41) (.bsl 1 1 [(.int .u8 0)] [(0, 1, (.tmp 40))]) none,
    MI.op (some 42) (.slArr 4 1 (.tmp 4) none none none) none,
    MI.op (some 43) (.fa 2 (.tmp 1)) none,
    MI.op (some 44) (.load false 1 (.tmp 43)) none,
    MI.op (some 45) (.toInt .u8 (.tmp 44)) none,
    MI.op (some 46) (.bsl 1 1 [(.int .u8 0)] [(0, 1, (.tmp 45))]) none,
    MI.op (some 47) (.fa 3 (.tmp 1)) none,
    MI.op (some 48) (.load false 1 (.tmp 47)) none,
    MI.op (some 49) (.call 47 [(.tmp 48)]) none,
    MI.op (some 50) (.fa 4 (.tmp 1)) none,
    MI.op (some 51) (.load false 1 (.tmp 50)) none,
    MI.op (some 52) (.call 47 [(.tmp 51)]) none]
   [MI.op (some 53) (.bslR 5 1 [(.sl .full 0 [])] [(0, 1, (.tmp 41)), (1, 1, (.tmp 42)), (2, 1, (.tmp 46)), (3, 1, (.tmp 49)), (4, 1, (.tmp 52))]) none,
    MI.op (some 54) (.call 46 [(.tmp 53)]) none,
    MI.op (some 2) (.mov (.tmp 54)) none,
    MI.op (some 3) (.mov (.c (.int .i64 0))) none])
  .ret)
def m27_6 : MCode :=
 (.seq
  (.reg
   (MI.op (some 35) (.fa 1 (.tmp 1)) none ::
    MI.op (some 36) (.load false 1 (.tmp 35)) none ::
    MI.op (some 37) (.call 21 [(.tmp 36)]) none ::
    m27_4))
  m27_5)
def m27_7 : MCode :=
 (.seq
  (.seq
   (.reg
    (MI.op (some 5) (.fa 0 (.tmp 1)) none ::
     MI.op (some 6) (.load false 1 (.tmp 5)) none ::
     MI.op (some 7) (.bin .lss (.tmp 6) (.c (.int .i64 0))) none ::
     MI.op (some 8) (.mov (.tmp 7)) none ::
     MI.op (some 9) (.fa 0 (.tmp 1)) (some (8, false)) ::
     MI.op (some 10) (.load false 1 (.tmp 9)) (some (8, false)) ::
     MI.op (some 11) (.bin .geq (.tmp 10) (.c (.int .i64 4))) (some (8, false)) ::
     MI.op (some 12) (.pick (.tmp 8) (.c (.bool true)) (.tmp 11)) none ::
     MI.op (some 13) (.mov (.tmp 12)) none ::
     MI.op (some 14) (.fa 1 (.tmp 1)) (some (13, false)) ::
     MI.op (some 15) (.load false 1 (.tmp 14)) (some (13, false)) ::
     MI.op (some 16) (.bin .neq (.tmp 15) (.c (.str []))) (some (13, false)) ::
     MI.op (some 17) (.mov (.tmp 16)) (some (13, false)) ::
     MI.op (some 18) (.fa 1 (.tmp 1)) (some (17, true)) ::
     MI.op (some 19) (.load false 1 (.tmp 18)) (some (17, true)) ::
     MI.op (some 20) (.bsl 1 1 [(.str [])] [(0, 1, (.tmp 19))]) (some (17, true)) ::
     MI.op (some 21) (.call 19 [(.tmp 20)]) (some (17, true)) ::
     m27_1))
  m27_3)
  m27_6)
def m27_r : List MRes := [.tmp 2, .tmp 3]
def m27_b : MCode :=
 (.seq
  (.reg
   [MI.op (some 1) (.box (.tmp 0)) none,
    MI.op (some 2) (.mov (.c (.sl .full 0 []))) none,
    MI.op (some 3) (.mov (.c (.int .i64 0))) none])
  m27_7)
def m27 : MFunc := ⟨1, 55, m27_r, m27_b⟩
theorem c27 : compF Tryd.prog 27 m27 = some m27 := by kernel_rfl

/- tollhouse/tollhouseref14.Claim -/
def m28_1 : List MI :=
 [MI.op (some 23) (.un .not (.tmp 22)) (some (18, true)),
  MI.op (some 24) (.pick (.tmp 18) (.tmp 23) (.c (.bool false))) (some (14, false)),
  MI.op (some 25) (.pick (.tmp 14) (.c (.bool true)) (.tmp 24)) none,
  MI.op (some 26) (.mov (.tmp 25)) none,
  MI.op (some 27) (.fa 2 (.tmp 1)) (some (26, false)),
  MI.op (some 28) (.load false 1 (.tmp 27)) (some (26, false)),
  MI.op (some 29) (.bin .lss (.tmp 28) (.c (.int .i64 1))) (some (26, false)),
  MI.op (some 30) (.pick (.tmp 26) (.c (.bool true)) (.tmp 29)) none,
  MI.op (some 31) (.mov (.tmp 30)) none,
  MI.op (some 32) (.fa 2 (.tmp 1)) (some (31, false)),
  MI.op (some 33) (.load false 1 (.tmp 32)) (some (31, false)),
  MI.op (some 34) (.bin .gtr (.tmp 33) (.c (.int .i64 3))) (some (31, false)),
  MI.op (some 35) (.pick (.tmp 31) (.c (.bool true)) (.tmp 34)) none]
def m28_2 : MCode :=
 (.seq
  (.reg
   [MI.op (some 2) (.mov (.c (.sl .full 0 []))) none,
    MI.op (some 3) (.mov (.c (.int .i64 11))) none])
  .ret)
def m28_3 : MCode :=
 (.cond (.tmp 35)
  m28_2
  .skip)
def m28_4 : List MI :=
 [MI.op (some 4) (.alloc [(.int .u8 0), (.int .u8 0), (.int .u8 0), (.int .u8 0)]) none,
  MI.op none (.store 4 (.tmp 4) (.tmp 38)) none]
def m28_5 : List MI :=
 [MI.op (some 59) (.app 1 1 (.tmp 55) (.tmp 58)) none,
  MI.op (some 2) (.mov (.tmp 59)) none,
  MI.op (some 3) (.mov (.c (.int .i64 0))) none]
def m28_6 : MCode :=
 (.seq
  (.reg
   (MI.op (some 55) (.mov (.tmp 5)) none ::
    MI.op (some 56) (.fa 4 (.tmp 1)) none ::
    MI.op (some 57) (.load false 1 (.tmp 56)) none ::
    MI.op (some 58) (.call 48 [(.tmp 57), (.c (.int .i64 4))]) none ::
    m28_5))
  .ret)
def m28_7 : MCode :=
 (.seq
  (.drc
   [MI.op (some 45) (.mov (.tmp 5)) none,
    MI.op (some 46) (.fa 2 (.tmp 1)) none,
    MI.op (some 47) (.load false 1 (.tmp 46)) none,
    MI.op (some 48) (.toInt .u8 (.tmp 47)) none,
    MI.op (some 49) (.bsl 1 1 [(.int .u8 0)] [(0, 1, (.tmp 48))]) none]
   (MI.op (some 50) (.app 1 1 (.tmp 45) (.tmp 49)) none)
   [MI.op (some 51) (.fa 3 (.tmp 1)) none,
    MI.op (some 52) (.load false 1 (.tmp 51)) none]
   [MI.op (some 53) (.call 48 [(.tmp 52), (.c (.int .i64 4))]) none,
    MI.op (some 54) (.app 1 1 (.tmp 50) (.tmp 53)) none,
    MI.op (some 5) (.mov (.tmp 54)) none])
  m28_6)
def m28_8 : MCode :=
 (.seq
  (.drw
   [MI.op (some 39) (.fa 0 (.tmp 1)) none,
    MI.op (some 40) (.load false 1 (.tmp 39)) none,
    MI.op (some 41) (.toInt .u8 (.tmp 40)) none,
    MI.op (some 42) (.bsl 1 1 [(.int .u8 0)] [(0, 1, (.tmp 41))]) none,
    MI.op (some 43) (.slArr 4 1 (.tmp 4) none none none) none]
   [MI.op (some 44) (.app 1 1 (.tmp 42) (.tmp 43)) none,
    MI.op (some 5) (.mov (.tmp 44)) none])
  m28_7)
def m28_9 : MCode :=
 (.seq
  (.reg
   (MI.op (some 36) (.fa 1 (.tmp 1)) none ::
    MI.op (some 37) (.load false 1 (.tmp 36)) none ::
    MI.op (some 38) (.call 22 [(.tmp 37)]) none ::
    m28_4))
  m28_8)
def m28_10 : MCode :=
 (.seq
  (.seq
   (.reg
    (MI.op (some 6) (.fa 0 (.tmp 1)) none ::
     MI.op (some 7) (.load false 1 (.tmp 6)) none ::
     MI.op (some 8) (.bin .lss (.tmp 7) (.c (.int .i64 0))) none ::
     MI.op (some 9) (.mov (.tmp 8)) none ::
     MI.op (some 10) (.fa 0 (.tmp 1)) (some (9, false)) ::
     MI.op (some 11) (.load false 1 (.tmp 10)) (some (9, false)) ::
     MI.op (some 12) (.bin .gtr (.tmp 11) (.c (.int .i64 3))) (some (9, false)) ::
     MI.op (some 13) (.pick (.tmp 9) (.c (.bool true)) (.tmp 12)) none ::
     MI.op (some 14) (.mov (.tmp 13)) none ::
     MI.op (some 15) (.fa 1 (.tmp 1)) (some (14, false)) ::
     MI.op (some 16) (.load false 1 (.tmp 15)) (some (14, false)) ::
     MI.op (some 17) (.bin .neq (.tmp 16) (.c (.str []))) (some (14, false)) ::
     MI.op (some 18) (.mov (.tmp 17)) (some (14, false)) ::
     MI.op (some 19) (.fa 1 (.tmp 1)) (some (18, true)) ::
     MI.op (some 20) (.load false 1 (.tmp 19)) (some (18, true)) ::
     MI.op (some 21) (.bsl 1 1 [(.str [])] [(0, 1, (.tmp 20))]) (some (18, true)) ::
     MI.op (some 22) (.call 20 [(.tmp 21)]) (some (18, true)) ::
     m28_1))
  m28_3)
  m28_9)
def m28_r : List MRes := [.tmp 2, .tmp 3]
def m28_b : MCode :=
 (.seq
  (.reg
   [MI.op (some 1) (.box (.tmp 0)) none,
    MI.op (some 2) (.mov (.c (.sl .full 0 []))) none,
    MI.op (some 3) (.mov (.c (.int .i64 0))) none])
  m28_10)
def m28 : MFunc := ⟨1, 60, m28_r, m28_b⟩
theorem c28 : compF Tryd.prog 28 m28 = some m28 := by kernel_rfl

/- tollhouse/token.Decode -/
def m29_1 : MCode :=
 (.seq
  (.reg
   [MI.op (some 12) (.build [(.int .i64 0), (.str []), (.int .i64 0), (.int .u32 0), (.int .u32 0), (.int .u8 0), (.int .u8 0), (.int .u8 0), (.int .u8 0), (.int .u8 0), (.int .u8 0), (.int .u8 0), (.int .u8 0), (.int .u8 0), (.int .u8 0), (.int .u8 0), (.int .u8 0), (.int .u8 0), (.int .u8 0), (.int .u8 0), (.int .u8 0), (.int .u8 0), (.int .u8 0), (.int .u8 0), (.int .u8 0), (.int .u8 0), (.int .u8 0), (.int .u8 0), (.int .u8 0), (.int .u8 0), (.int .u8 0), (.int .u8 0), (.int .u8 0), (.int .u8 0), (.int .u8 0), (.int .u8 0), (.int .u8 0)] []) none,
    MI.op none (.store 37 (.tmp 2) (.tmp 12)) none,
    MI.op (some 3) (.mov (.c (.int .i64 11))) none])
  .ret)
def m29_2 : MCode :=
 (.cond (.tmp 11)
  m29_1
  .skip)
def m29_3 : List MI :=
 [MI.op (some 13) (.mov (.tmp 18)) none,
  MI.op (some 19) (.ext (.tmp 13) 0) none,
  MI.op (some 20) (.ext (.tmp 13) 1) none,
  MI.op (some 4) (.mov (.tmp 19)) none,
  MI.op (some 5) (.mov (.tmp 20)) none]
def m29_4 : MCode :=
 (.seq
  (.reg
   [MI.op (some 23) (.build [(.int .i64 0), (.str []), (.int .i64 0), (.int .u32 0), (.int .u32 0), (.int .u8 0), (.int .u8 0), (.int .u8 0), (.int .u8 0), (.int .u8 0), (.int .u8 0), (.int .u8 0), (.int .u8 0), (.int .u8 0), (.int .u8 0), (.int .u8 0), (.int .u8 0), (.int .u8 0), (.int .u8 0), (.int .u8 0), (.int .u8 0), (.int .u8 0), (.int .u8 0), (.int .u8 0), (.int .u8 0), (.int .u8 0), (.int .u8 0), (.int .u8 0), (.int .u8 0), (.int .u8 0), (.int .u8 0), (.int .u8 0), (.int .u8 0), (.int .u8 0), (.int .u8 0), (.int .u8 0), (.int .u8 0)] []) none,
    MI.op none (.store 37 (.tmp 2) (.tmp 23)) none,
    MI.op (some 3) (.mov (.c (.int .i64 11))) none])
  .ret)
def m29_5 : MCode :=
 (.cond (.tmp 22)
  m29_4
  .skip)
def m29_6 : List MI :=
 [MI.op (some 45) (.mov (.tmp 47)) none,
  MI.op (some 48) (.ext (.tmp 45) 0) none,
  MI.op (some 49) (.ext (.tmp 45) 1) none,
  MI.op (some 7) (.mov (.tmp 48)) none,
  MI.op (some 8) (.mov (.tmp 49)) none]
def m29_7 : List MI :=
 [MI.op (some 56) (.un .not (.tmp 55)) (some (52, false)),
  MI.op (some 57) (.pick (.tmp 52) (.c (.bool true)) (.tmp 56)) none]
def m29_8 : MCode :=
 (.seq
  (.reg
   [MI.op (some 58) (.build [(.int .i64 0), (.str []), (.int .i64 0), (.int .u32 0), (.int .u32 0), (.int .u8 0), (.int .u8 0), (.int .u8 0), (.int .u8 0), (.int .u8 0), (.int .u8 0), (.int .u8 0), (.int .u8 0), (.int .u8 0), (.int .u8 0), (.int .u8 0), (.int .u8 0), (.int .u8 0), (.int .u8 0), (.int .u8 0), (.int .u8 0), (.int .u8 0), (.int .u8 0), (.int .u8 0), (.int .u8 0), (.int .u8 0), (.int .u8 0), (.int .u8 0), (.int .u8 0), (.int .u8 0), (.int .u8 0), (.int .u8 0), (.int .u8 0), (.int .u8 0), (.int .u8 0), (.int .u8 0), (.int .u8 0)] []) none,
    MI.op none (.store 37 (.tmp 2) (.tmp 58)) none,
    MI.op (some 3) (.mov (.c (.int .i64 11))) none])
  .ret)
def m29_9 : MCode :=
 (.cond (.tmp 57)
  m29_8
  .skip)
def m29_10 : MCode :=
 (.seq
  (.reg
   (MI.op (some 50) (.mov (.tmp 8)) none ::
    MI.op (some 51) (.bin .neq (.tmp 50) (.c (.int .i64 0))) none ::
    MI.op (some 52) (.mov (.tmp 51)) none ::
    MI.op (some 53) (.mov (.tmp 7)) (some (52, false)) ::
    MI.op (some 54) (.mov (.tmp 0)) (some (52, false)) ::
    MI.op (some 55) (.call 50 [(.tmp 53), (.tmp 54)]) (some (52, false)) ::
    m29_7))
  m29_9)
def m29_11 : MCode :=
 (.seq
  (.reg
   [MI.op (some 59) (.load true 37 (.tmp 6)) none,
    MI.op none (.store 37 (.tmp 2) (.tmp 59)) none,
    MI.op (some 3) (.mov (.c (.int .i64 0))) none])
  .ret)
def m29_12 : MCode :=
 (.seq
  (.seq
   (.reg
    (MI.op (some 46) (.load true 37 (.tmp 6)) none ::
     MI.op (some 47) (.call 25 [(.tmp 46)]) none ::
     m29_6))
  m29_10)
  m29_11)
def m29_13 : MCode :=
 (.seq
  (.drw
   [MI.op (some 24) (.mov (.tmp 0)) none,
    MI.op (some 25) (.ixSl 1 (.tmp 24) (.c (.int .i64 0))) none,
    MI.op (some 26) (.load false 1 (.tmp 25)) none,
    MI.op (some 27) (.toInt .i64 (.tmp 26)) none,
    MI.op (some 28) (.mov (.tmp 4)) none,
    MI.op (some 29) (.mov (.tmp 0)) none,
    MI.op (some 30) (.ixSl 1 (.tmp 29) (.c (.int .i64 5))) none,
    MI.op (some 31) (.load false 1 (.tmp 30)) none,
    MI.op (some 32) (.toInt .i64 (.tmp 31)) none,
    MI.op (some 33) (.mov (.tmp 0)) none,
    MI.op (some 34) (.slSl 1 (.tmp 33) (some (.c (.int .i64 6))) (some (.c (.int .i64 10))) none) none,
    MI.op (some 35) (.call 49 [(.tmp 34)]) none,
    MI.op (some 36) (.mov (.tmp 0)) none,
    MI.op (some 37) (.slSl 1 (.tmp 36) (some (.c (.int .i64 10))) (some (.c (.int .i64 14))) none) none,
    MI.op (some 38) (.call 49 [(.tmp 37)]) none,
    MI.op (some 39) (.build [(.int .i64 0), (.str []), (.int .i64 0), (.int .u32 0), (.int .u32 0)] [(0, 1, (.tmp 27)), (1, 1, (.tmp 28)), (2, 1, (.tmp 32)), (3, 1, (.tmp 35)), (4, 1, (.tmp 38))]) none,
    MI.op (some 40) (.mov (.tmp 0)) none,
    MI.op (some 41) (.slSl 1 (.tmp 40) (some (.c (.int .i64 14))) none none) none,
    MI.op (some 42) (.arrOf 32 1 (.tmp 41)) none,
    MI.op (some 43) (.load true 32 (.tmp 42)) none,
    MI.op (some 44) (.build [(.int .i64 0), (.str []), (.int .i64 0), (.int .u32 0), (.int .u32 0), (.int .u8 0), (.int .u8 0), (.int .u8 0), (.int .u8 0), (.int .u8 0), (.int .u8 0), (.int .u8 0), (.int .u8 0), (.int .u8 0), (.int .u8 0), (.int .u8 0), (.int .u8 0), (.int .u8 0), (.int .u8 0), (.int .u8 0), (.int .u8 0), (.int .u8 0), (.int .u8 0), (.int .u8 0), (.int .u8 0), (.int .u8 0), (.int .u8 0), (.int .u8 0), (.int .u8 0), (.int .u8 0), (.int .u8 0), (.int .u8 0), (.int .u8 0), (.int .u8 0), (.int .u8 0), (.int .u8 0), (.int .u8 0)] [(0, 5, (.tmp 39)), (5, 32, (.tmp 43))]) none,
    MI.op (some 6) (.alloc [(.int .i64 0), (.str []), (.int .i64 0), (.int .u32 0), (.int .u32 0), (.int .u8 0), (.int .u8 0), (.int .u8 0), (.int .u8 0), (.int .u8 0), (.int .u8 0), (.int .u8 0), (.int .u8 0), (.int .u8 0), (.int .u8 0), (.int .u8 0), (.int .u8 0), (.int .u8 0), (.int .u8 0), (.int .u8 0), (.int .u8 0), (.int .u8 0), (.int .u8 0), (.int .u8 0), (.int .u8 0), (.int .u8 0), (.int .u8 0), (.int .u8 0), (.int .u8 0), (.int .u8 0), (.int .u8 0), (.int .u8 0), (.int .u8 0), (.int .u8 0), (.int .u8 0), (.int .u8 0), (.int .u8 0)]) none]
   [MI.op none (.store 37 (.tmp 6) (.tmp 44)) none])
  m29_12)
def m29_14 : MCode :=
 (.seq
  (.seq
   (.reg
    [MI.op (some 21) (.mov (.tmp 5)) none,
     MI.op (some 22) (.un .not (.tmp 21)) none])
  m29_5)
  m29_13)
def m29_15 : MCode :=
 (.seq
  (.reg
   (MI.op (some 14) (.mov (.tmp 0)) none ::
    MI.op (some 15) (.slSl 1 (.tmp 14) (some (.c (.int .i64 1))) (some (.c (.int .i64 5))) none) none ::
    MI.op (some 16) (.arrOf 4 1 (.tmp 15)) none ::
    MI.op (some 17) (.load true 4 (.tmp 16)) none ::
    MI.op (some 18) (.call 17 [(.tmp 17)]) none ::
    m29_3))
  m29_14)
def m29_16 : MCode :=
 (.seq
  (.seq
   (.reg
    [MI.op (some 9) (.mov (.tmp 0)) none,
     MI.op (some 10) (.len (.tmp 9)) none,
     MI.op (some 11) (.bin .neq (.tmp 10) (.c (.int .i64 46))) none])
  m29_2)
  m29_15)
def m29_r : List MRes := [.cell 2 true 37, .tmp 3]
def m29_b : MCode :=
 (.seq
  (.reg
   [MI.op (some 2) (.alloc [(.int .i64 0), (.str []), (.int .i64 0), (.int .u32 0), (.int .u32 0), (.int .u8 0), (.int .u8 0), (.int .u8 0), (.int .u8 0), (.int .u8 0), (.int .u8 0), (.int .u8 0), (.int .u8 0), (.int .u8 0), (.int .u8 0), (.int .u8 0), (.int .u8 0), (.int .u8 0), (.int .u8 0), (.int .u8 0), (.int .u8 0), (.int .u8 0), (.int .u8 0), (.int .u8 0), (.int .u8 0), (.int .u8 0), (.int .u8 0), (.int .u8 0), (.int .u8 0), (.int .u8 0), (.int .u8 0), (.int .u8 0), (.int .u8 0), (.int .u8 0), (.int .u8 0), (.int .u8 0), (.int .u8 0)]) none,
    MI.op (some 3) (.mov (.c (.int .i64 0))) none])
  m29_16)
def m29 : MFunc := ⟨1, 60, m29_r, m29_b⟩
theorem c29 : compF Tryd.prog 29 m29 = some m29 := by kernel_rfl

/- tollhouse/tollhouseref14.Decode -/
def m30_1 : MCode :=
 (.seq
  (.reg
   [MI.op (some 11) (.build [(.int .i64 0), (.str []), (.int .i64 0), (.int .u32 0), (.int .u32 0), (.int .u8 0), (.int .u8 0), (.int .u8 0), (.int .u8 0), (.int .u8 0), (.int .u8 0), (.int .u8 0), (.int .u8 0), (.int .u8 0), (.int .u8 0), (.int .u8 0), (.int .u8 0), (.int .u8 0), (.int .u8 0), (.int .u8 0), (.int .u8 0), (.int .u8 0), (.int .u8 0), (.int .u8 0), (.int .u8 0), (.int .u8 0), (.int .u8 0), (.int .u8 0), (.int .u8 0), (.int .u8 0), (.int .u8 0), (.int .u8 0), (.int .u8 0), (.int .u8 0), (.int .u8 0), (.int .u8 0), (.int .u8 0)] []) none,
    MI.op none (.store 37 (.tmp 2) (.tmp 11)) none,
    MI.op (some 3) (.mov (.c (.int .i64 11))) none])
  .ret)
def m30_2 : MCode :=
 (.cond (.tmp 10)
  m30_1
  .skip)
def m30_3 : List MI :=
 [MI.op (some 49) (.mov (.tmp 51)) none,
  MI.op (some 52) (.ext (.tmp 49) 0) none,
  MI.op (some 53) (.ext (.tmp 49) 1) none,
  MI.op (some 6) (.mov (.tmp 52)) none,
  MI.op (some 7) (.mov (.tmp 53)) none]
def m30_4 : MCode :=
 (.seq
  (.reg
   [MI.op (some 63) (.build [(.int .i64 0), (.str []), (.int .i64 0), (.int .u32 0), (.int .u32 0), (.int .u8 0), (.int .u8 0), (.int .u8 0), (.int .u8 0), (.int .u8 0), (.int .u8 0), (.int .u8 0), (.int .u8 0), (.int .u8 0), (.int .u8 0), (.int .u8 0), (.int .u8 0), (.int .u8 0), (.int .u8 0), (.int .u8 0), (.int .u8 0), (.int .u8 0), (.int .u8 0), (.int .u8 0), (.int .u8 0), (.int .u8 0), (.int .u8 0), (.int .u8 0), (.int .u8 0), (.int .u8 0), (.int .u8 0), (.int .u8 0), (.int .u8 0), (.int .u8 0), (.int .u8 0), (.int .u8 0), (.int .u8 0)] []) none,
    MI.op none (.store 37 (.tmp 2) (.tmp 63)) none,
    MI.op (some 3) (.mov (.c (.int .i64 11))) none])
  .ret)
def m30_5 : MCode :=
 (.cond (.tmp 62)
  m30_4
  .skip)
def m30_6 : MCode :=
 (.seq
  (.reg
   [MI.op (some 64) (.load true 37 (.tmp 5)) none,
    MI.op none (.store 37 (.tmp 2) (.tmp 64)) none,
    MI.op (some 3) (.mov (.c (.int .i64 0))) none])
  .ret)
def m30_7 : MCode :=
 (.seq
  (.seq
   (.reg
    [MI.op (some 54) (.mov (.tmp 7)) none,
     MI.op (some 55) (.bin .neq (.tmp 54) (.c (.int .i64 0))) none,
     MI.op (some 56) (.mov (.tmp 55)) none,
     MI.op (some 57) (.mov (.tmp 6)) (some (56, false)),
     MI.op (some 58) (.toStr (.tmp 57)) (some (56, false)),
     MI.op (some 59) (.mov (.tmp 0)) (some (56, false)),
     MI.op (some 60) (.toStr (.tmp 59)) (some (56, false)),
     MI.op (some 61) (.bin .neq (.tmp 58) (.tmp 60)) (some (56, false)),
     MI.op (some 62) (.pick (.tmp 56) (.c (.bool true)) (.tmp 61)) none])
  m30_5)
  m30_6)
def m30_8 : MCode :=
 (.seq
  (.reg
   (MI.op (some 50) (.load true 37 (.tmp 5)) none ::
    MI.op (some 51) (.call 26 [(.tmp 50)]) none ::
    m30_3))
  m30_7)
def m30_9 : MCode :=
 (.seq
  (.drw
   [MI.op (some 44) (.fa 5 (.tmp 5)) none,
    MI.op (some 45) (.slArr 32 1 (.tmp 44) none none none) none,
    MI.op (some 46) (.mov (.tmp 0)) none,
    MI.op (some 47) (.slSl 1 (.tmp 46) (some (.c (.int .i64 14))) none none) none]
   [MI.op (some 48) (.copy 1 (.tmp 45) (.tmp 47)) none])
  m30_8)
def m30_10 : MCode :=
 (.seq
  (.drw
   [MI.op (some 26) (.mov (.tmp 0)) none,
    MI.op (some 27) (.ixSl 1 (.tmp 26) (.c (.int .i64 0))) none,
    MI.op (some 28) (.load false 1 (.tmp 27)) none,
    MI.op (some 29) (.toInt .i64 (.tmp 28)) none,
    MI.op (some 30) (.fa 0 (.tmp 4)) none,
    MI.op (some 31) (.load false 1 (.tmp 30)) none,
    MI.op (some 32) (.mov (.tmp 0)) none,
    MI.op (some 33) (.ixSl 1 (.tmp 32) (.c (.int .i64 5))) none,
    MI.op (some 34) (.load false 1 (.tmp 33)) none,
    MI.op (some 35) (.toInt .i64 (.tmp 34)) none,
    MI.op (some 36) (.mov (.tmp 0)) none,
    MI.op (some 37) (.slSl 1 (.tmp 36) (some (.c (.int .i64 6))) (some (.c (.int .i64 10))) none) none,
    MI.op (some 38) (.call 51 [(.tmp 37)]) none,
    MI.op (some 39) (.mov (.tmp 0)) none,
    MI.op (some 40) (.slSl 1 (.tmp 39) (some (.c (.int .i64 10))) (some (.c (.int .i64 14))) none) none,
    MI.op (some 41) (.call 51 [(.tmp 40)]) none]
   [MI.op (some 42) (.build [(.int .i64 0), (.str []), (.int .i64 0), (.int .u32 0), (.int .u32 0)] [(0, 1, (.tmp 29)), (1, 1, (.tmp 31)), (2, 1, (.tmp 35)), (3, 1, (.tmp 38)), (4, 1, (.tmp 41))]) none,
    MI.op (some 43) (.fa 0 (.tmp 5)) none,
    MI.op none (.store 5 (.tmp 43) (.tmp 42)) none])
  m30_9)
def m30_11 : MCode :=
 (.seq
  (.reg
   [MI.op (some 5) (.alloc [(.int .i64 0), (.str []), (.int .i64 0), (.int .u32 0), (.int .u32 0), (.int .u8 0), (.int .u8 0), (.int .u8 0), (.int .u8 0), (.int .u8 0), (.int .u8 0), (.int .u8 0), (.int .u8 0), (.int .u8 0), (.int .u8 0), (.int .u8 0), (.int .u8 0), (.int .u8 0), (.int .u8 0), (.int .u8 0), (.int .u8 0), (.int .u8 0), (.int .u8 0), (.int .u8 0), (.int .u8 0), (.int .u8 0), (.int .u8 0), (.int .u8 0), (.int .u8 0), (.int .u8 0), (.int .u8 0), (.int .u8 0), (.int .u8 0), (.int .u8 0), (.int .u8 0), (.int .u8 0), (.int .u8 0)]) none])
  m30_10)
def m30_12 : MCode :=
 (.seq
  (.drw
   [MI.op (some 12) (.mov (.tmp 0)) none,
    MI.op (some 13) (.ixSl 1 (.tmp 12) (.c (.int .i64 1))) none,
    MI.op (some 14) (.load false 1 (.tmp 13)) none,
    MI.op (some 15) (.mov (.tmp 0)) none,
    MI.op (some 16) (.ixSl 1 (.tmp 15) (.c (.int .i64 2))) none,
    MI.op (some 17) (.load false 1 (.tmp 16)) none,
    MI.op (some 18) (.mov (.tmp 0)) none,
    MI.op (some 19) (.ixSl 1 (.tmp 18) (.c (.int .i64 3))) none,
    MI.op (some 20) (.load false 1 (.tmp 19)) none,
    MI.op (some 21) (.mov (.tmp 0)) none,
    MI.op (some 22) (.ixSl 1 (.tmp 21) (.c (.int .i64 4))) none,
    MI.op (some 23) (.load false 1 (.tmp 22)) none,
    MI.op (some 24) (.build [(.int .u8 0), (.int .u8 0), (.int .u8 0), (.int .u8 0)] [(0, 1, (.tmp 14)), (1, 1, (.tmp 17)), (2, 1, (.tmp 20)), (3, 1, (.tmp 23))]) none,
    MI.op (some 25) (.call 18 [(.tmp 24)]) none,
    MI.op (some 4) (.alloc [(.str []), (.bool false)]) none]
   [MI.op none (.store 2 (.tmp 4) (.tmp 25)) none])
  m30_11)
def m30_13 : MCode :=
 (.seq
  (.seq
   (.reg
    [MI.op (some 8) (.mov (.tmp 0)) none,
     MI.op (some 9) (.len (.tmp 8)) none,
     MI.op (some 10) (.bin .neq (.tmp 9) (.c (.int .i64 46))) none])
  m30_2)
  m30_12)
def m30_r : List MRes := [.cell 2 true 37, .tmp 3]
def m30_b : MCode :=
 (.seq
  (.reg
   [MI.op (some 2) (.alloc [(.int .i64 0), (.str []), (.int .i64 0), (.int .u32 0), (.int .u32 0), (.int .u8 0), (.int .u8 0), (.int .u8 0), (.int .u8 0), (.int .u8 0), (.int .u8 0), (.int .u8 0), (.int .u8 0), (.int .u8 0), (.int .u8 0), (.int .u8 0), (.int .u8 0), (.int .u8 0), (.int .u8 0), (.int .u8 0), (.int .u8 0), (.int .u8 0), (.int .u8 0), (.int .u8 0), (.int .u8 0), (.int .u8 0), (.int .u8 0), (.int .u8 0), (.int .u8 0), (.int .u8 0), (.int .u8 0), (.int .u8 0), (.int .u8 0), (.int .u8 0), (.int .u8 0), (.int .u8 0), (.int .u8 0)]) none,
    MI.op (some 3) (.mov (.c (.int .i64 0))) none])
  m30_13)
def m30 : MFunc := ⟨1, 65, m30_r, m30_b⟩
theorem c30 : compF Tryd.prog 30 m30 = some m30 := by kernel_rfl

/- tollhouse/tollhousekeep.Bytes -/
def m31_1 : MCode :=
 (.seq
  (.reg
   [MI.op (some 5) (.mov (.tmp 0)) none,
    MI.op (some 6) (.toStr (.tmp 5)) none,
    MI.op (some 7) (.mov (.tmp 1)) none,
    MI.op (some 8) (.toStr (.tmp 7)) none,
    MI.op (some 9) (.bin .eql (.tmp 6) (.tmp 8)) none,
    MI.op (some 4) (.mov (.tmp 9)) none])
  .ret)
def m31_r : List MRes := [.tmp 4]
def m31_b : MCode :=
 (.seq
  (.reg
   [MI.op (some 4) (.mov (.c (.bool false))) none])
  m31_1)
def m31 : MFunc := ⟨2, 10, m31_r, m31_b⟩
theorem c31 : compF Tryd.prog 31 m31 = some m31 := by kernel_rfl

/- slices.Concat[[]byte,byte] -/
def m46_1 : MCode :=
 (.cond (.tmp 20)
  (.reg
   [MI.op (some 21) (.bad) none,
    MI.op none (.bad) none])
  .skip)
def m46_2 : MCode :=
 (.seq
  (.reg
   [MI.op (some 19) (.mov (.tmp 3)) none,
    MI.op (some 20) (.bin .lss (.tmp 19) (.c (.int .i64 0))) none])
  m46_1)
def m46_3 : MCode :=
 (.seq
  (.reg
   [MI.op (some 15) (.mov (.tmp 3)) none,
    MI.op (some 16) (.mov (.tmp 5)) none,
    MI.op (some 17) (.len (.tmp 16)) none,
    MI.op (some 18) (.bin .add (.tmp 15) (.tmp 17)) none,
    MI.op (some 3) (.mov (.tmp 18)) none])
  m46_2)
def m46_4 : MCode :=
 (.seq
  (.blk 1
   (.seq
    (.reg
     [MI.op (some 13) (.ixSl 1 (.tmp 9) (.tmp 11)) none,
      MI.op (some 14) (.load false 1 (.tmp 13)) none,
      MI.op (some 5) (.mov (.tmp 14)) none])
  m46_3))
  (.reg
   [MI.op (some 22) (.bin .add (.tmp 11) (.c (.int .i64 1))) none,
    MI.op (some 11) (.mov (.tmp 22)) none]))
def m46_5 : MCode :=
 (.seq
  (.cond (.tmp 12)
   .skip
   (.exit 0))
  m46_4)
def m46_6 : MCode :=
 (.seq
  (.reg
   [MI.op (some 12) (.bin .lss (.tmp 11) (.tmp 10)) none])
  m46_5)
def m46_7 : MCode :=
 (.blk 0
  (.loop
  m46_6))
def m46_8 : MCode :=
 (.reg
  [MI.op (some 31) (.mov (.tmp 6)) none,
   MI.op (some 32) (.mov (.tmp 8)) none,
   MI.op (some 33) (.app 1 1 (.tmp 31) (.tmp 32)) none,
   MI.op (some 6) (.mov (.tmp 33)) none])
def m46_9 : MCode :=
 (.seq
  (.blk 3
   (.seq
    (.reg
     [MI.op (some 29) (.ixSl 1 (.tmp 25) (.tmp 27)) none,
      MI.op (some 30) (.load false 1 (.tmp 29)) none,
      MI.op (some 8) (.mov (.tmp 30)) none])
  m46_8))
  (.reg
   [MI.op (some 34) (.bin .add (.tmp 27) (.c (.int .i64 1))) none,
    MI.op (some 27) (.mov (.tmp 34)) none]))
def m46_10 : MCode :=
 (.seq
  (.cond (.tmp 28)
   .skip
   (.exit 2))
  m46_9)
def m46_11 : MCode :=
 (.seq
  (.reg
   [MI.op (some 28) (.bin .lss (.tmp 27) (.tmp 26)) none])
  m46_10)
def m46_12 : MCode :=
 (.blk 2
  (.loop
  m46_11))
def m46_13 : MCode :=
 (.seq
  (.reg
   [MI.op (some 35) (.mov (.tmp 6)) none,
    MI.op (some 2) (.mov (.tmp 35)) none])
  .ret)
def m46_14 : MCode :=
 (.seq
  (.seq
   (.reg
    [MI.op (some 25) (.mov (.tmp 0)) none,
     MI.op (some 26) (.len (.tmp 25)) none,
     MI.op (some 27) (.mov (.c (.int .i64 0))) none])
  m46_12)
  m46_13)
def m46_15 : MCode :=
 (.seq
  (.reg
   [MI.op (some 23) (.mov (.tmp 3)) none,
    MI.op (some 24) (.call 63 [(.c (.sl .full 0 [])), (.tmp 23)]) none,
    MI.op (some 6) (.mov (.tmp 24)) none])
  m46_14)
def m46_16 : MCode :=
 (.seq
  (.seq
   (.reg
    [MI.op (some 9) (.mov (.tmp 0)) none,
     MI.op (some 10) (.len (.tmp 9)) none,
     MI.op (some 11) (.mov (.c (.int .i64 0))) none])
  m46_7)
  m46_15)
def m46_17 : MCode :=
 (.seq
  (.reg
   [MI.op (some 3) (.mov (.c (.int .i64 0))) none])
  m46_16)
def m46_r : List MRes := [.tmp 2]
def m46_b : MCode :=
 (.seq
  (.reg
   [MI.op (some 2) (.mov (.c (.sl .full 0 []))) none])
  m46_17)
def m46 : MFunc := ⟨1, 36, m46_r, m46_b⟩
theorem c46 : compF Tryd.prog 46 m46 = some m46 := by kernel_rfl

/- tollhouse/token.four -/
def m47_1 : MCode :=
 (.seq
  (.reg
   [MI.op (some 3) (.mov (.tmp 0)) none,
    MI.op (some 4) (.toInt .u8 (.tmp 3)) none,
    MI.op (some 5) (.mov (.tmp 0)) none,
    MI.op (some 6) (.bin .shr (.tmp 5) (.c (.int .u64 8))) none,
    MI.op (some 7) (.toInt .u8 (.tmp 6)) none,
    MI.op (some 8) (.mov (.tmp 0)) none,
    MI.op (some 9) (.bin .shr (.tmp 8) (.c (.int .u64 16))) none,
    MI.op (some 10) (.toInt .u8 (.tmp 9)) none,
    MI.op (some 11) (.mov (.tmp 0)) none,
    MI.op (some 12) (.bin .shr (.tmp 11) (.c (.int .u64 24))) none,
    MI.op (some 13) (.toInt .u8 (.tmp 12)) none,
    MI.op (some 14) (.bsl 4 1 [(.int .u8 0)] [(0, 1, (.tmp 4)), (1, 1, (.tmp 7)), (2, 1, (.tmp 10)), (3, 1, (.tmp 13))]) none,
    MI.op (some 2) (.mov (.tmp 14)) none])
  .ret)
def m47_r : List MRes := [.tmp 2]
def m47_b : MCode :=
 (.seq
  (.reg
   [MI.op (some 2) (.mov (.c (.sl .full 0 []))) none])
  m47_1)
def m47 : MFunc := ⟨1, 15, m47_r, m47_b⟩
theorem c47 : compF Tryd.prog 47 m47 = some m47 := by kernel_rfl

/- tollhouse/tollhouseref06.Put -/
def m48_1 : MCode :=
 (.seq
  (.blk 1
   (.reg
    [MI.op (some 12) (.mov (.tmp 5)) none,
     MI.op (some 13) (.mov (.tmp 0)) none,
     MI.op (some 14) (.mov (.tmp 6)) none,
     MI.op (some 15) (.bin .mul (.c (.int .i64 8)) (.tmp 14)) none,
     MI.op (some 16) (.toInt .u64 (.tmp 15)) none,
     MI.op (some 17) (.bin .shr (.tmp 13) (.tmp 16)) none,
     MI.op (some 18) (.toInt .u8 (.tmp 17)) none,
     MI.op (some 19) (.bsl 1 1 [(.int .u8 0)] [(0, 1, (.tmp 18))]) none,
     MI.op (some 20) (.app 1 1 (.tmp 12) (.tmp 19)) none,
     MI.op (some 5) (.mov (.tmp 20)) none]))
  (.reg
   [MI.op (some 10) (.mov (.tmp 6)) none,
    MI.op (some 11) (.bin .add (.tmp 10) (.c (.int .i64 1))) none,
    MI.op (some 6) (.mov (.tmp 11)) none]))
def m48_2 : MCode :=
 (.seq
  (.seq
   (.reg
    [MI.op (some 7) (.mov (.tmp 6)) none,
     MI.op (some 8) (.mov (.tmp 1)) none,
     MI.op (some 9) (.bin .lss (.tmp 7) (.tmp 8)) none])
   (.cond (.tmp 9)
    .skip
    (.exit 0)))
  m48_1)
def m48_3 : MCode :=
 (.blk 0
  (.loop
  m48_2))
def m48_4 : MCode :=
 (.seq
  (.reg
   [MI.op (some 21) (.mov (.tmp 5)) none,
    MI.op (some 4) (.mov (.tmp 21)) none])
  .ret)
def m48_5 : MCode :=
 (.seq
  (.seq
   (.reg
    [MI.op (some 6) (.mov (.c (.int .i64 0))) none])
  m48_3)
  m48_4)
def m48_6 : MCode :=
 (.seq
  (.reg
   [MI.op (some 5) (.mov (.c (.sl .full 0 []))) none])
  m48_5)
def m48_r : List MRes := [.tmp 4]
def m48_b : MCode :=
 (.seq
  (.reg
   [MI.op (some 4) (.mov (.c (.sl .full 0 []))) none])
  m48_6)
def m48 : MFunc := ⟨2, 22, m48_r, m48_b⟩
theorem c48 : compF Tryd.prog 48 m48 = some m48 := by kernel_rfl

/- tollhouse/token.number -/
def m49_1 : MCode :=
 (.seq
  (.drw
   [MI.op (some 3) (.mov (.tmp 0)) none,
    MI.op (some 4) (.ixSl 1 (.tmp 3) (.c (.int .i64 0))) none,
    MI.op (some 5) (.load false 1 (.tmp 4)) none,
    MI.op (some 6) (.toInt .u32 (.tmp 5)) none,
    MI.op (some 7) (.mov (.tmp 0)) none,
    MI.op (some 8) (.ixSl 1 (.tmp 7) (.c (.int .i64 1))) none,
    MI.op (some 9) (.load false 1 (.tmp 8)) none,
    MI.op (some 10) (.toInt .u32 (.tmp 9)) none,
    MI.op (some 11) (.bin .shl (.tmp 10) (.c (.int .u64 8))) none,
    MI.op (some 12) (.bin .or (.tmp 6) (.tmp 11)) none,
    MI.op (some 13) (.mov (.tmp 0)) none,
    MI.op (some 14) (.ixSl 1 (.tmp 13) (.c (.int .i64 2))) none,
    MI.op (some 15) (.load false 1 (.tmp 14)) none,
    MI.op (some 16) (.toInt .u32 (.tmp 15)) none,
    MI.op (some 17) (.bin .shl (.tmp 16) (.c (.int .u64 16))) none,
    MI.op (some 18) (.bin .or (.tmp 12) (.tmp 17)) none,
    MI.op (some 19) (.mov (.tmp 0)) none,
    MI.op (some 20) (.ixSl 1 (.tmp 19) (.c (.int .i64 3))) none,
    MI.op (some 21) (.load false 1 (.tmp 20)) none,
    MI.op (some 22) (.toInt .u32 (.tmp 21)) none,
    MI.op (some 23) (.bin .shl (.tmp 22) (.c (.int .u64 24))) none]
   [MI.op (some 24) (.bin .or (.tmp 18) (.tmp 23)) none,
    MI.op (some 2) (.mov (.tmp 24)) none])
  .ret)
def m49_r : List MRes := [.tmp 2]
def m49_b : MCode :=
 (.seq
  (.reg
   [MI.op (some 2) (.mov (.c (.int .u32 0))) none])
  m49_1)
def m49 : MFunc := ⟨1, 25, m49_r, m49_b⟩
theorem c49 : compF Tryd.prog 49 m49 = some m49 := by kernel_rfl

/- slices.Equal[[]byte,byte] -/
def m50_1 : MCode :=
 (.cond (.tmp 10)
  (.seq
   (.reg
    [MI.op (some 4) (.mov (.c (.bool false))) none])
   .ret)
  .skip)
def m50_2 : MCode :=
 (.cond (.tmp 24)
  (.seq
   (.reg
    [MI.op (some 4) (.mov (.c (.bool false))) none])
   .ret)
  .skip)
def m50_3 : MCode :=
 (.seq
  (.drw
   [MI.op (some 16) (.mov (.tmp 0)) none,
    MI.op (some 17) (.mov (.tmp 5)) none,
    MI.op (some 18) (.ixSl 1 (.tmp 16) (.tmp 17)) none,
    MI.op (some 19) (.load false 1 (.tmp 18)) none,
    MI.op (some 20) (.mov (.tmp 1)) none,
    MI.op (some 21) (.mov (.tmp 5)) none,
    MI.op (some 22) (.ixSl 1 (.tmp 20) (.tmp 21)) none,
    MI.op (some 23) (.load false 1 (.tmp 22)) none]
   [MI.op (some 24) (.bin .neq (.tmp 19) (.tmp 23)) none])
  m50_2)
def m50_4 : MCode :=
 (.seq
  (.blk 1
   (.seq
    (.reg
     [MI.op (some 15) (.mov (.tmp 13)) none,
      MI.op (some 5) (.mov (.tmp 15)) none])
  m50_3))
  (.reg
   [MI.op (some 25) (.bin .add (.tmp 13) (.c (.int .i64 1))) none,
    MI.op (some 13) (.mov (.tmp 25)) none]))
def m50_5 : MCode :=
 (.seq
  (.cond (.tmp 14)
   .skip
   (.exit 0))
  m50_4)
def m50_6 : MCode :=
 (.seq
  (.reg
   [MI.op (some 14) (.bin .lss (.tmp 13) (.tmp 12)) none])
  m50_5)
def m50_7 : MCode :=
 (.blk 0
  (.loop
  m50_6))
def m50_8 : MCode :=
 (.seq
  (.seq
   (.reg
    [MI.op (some 11) (.mov (.tmp 0)) none,
     MI.op (some 12) (.len (.tmp 11)) none,
     MI.op (some 13) (.mov (.c (.int .i64 0))) none])
  m50_7)
  (.seq
   (.reg
    [MI.op (some 4) (.mov (.c (.bool true))) none])
   .ret))
def m50_9 : MCode :=
 (.seq
  (.seq
   (.reg
    [MI.op (some 6) (.mov (.tmp 0)) none,
     MI.op (some 7) (.len (.tmp 6)) none,
     MI.op (some 8) (.mov (.tmp 1)) none,
     MI.op (some 9) (.len (.tmp 8)) none,
     MI.op (some 10) (.bin .neq (.tmp 7) (.tmp 9)) none])
  m50_1)
  m50_8)
def m50_r : List MRes := [.tmp 4]
def m50_b : MCode :=
 (.seq
  (.reg
   [MI.op (some 4) (.mov (.c (.bool false))) none])
  m50_9)
def m50 : MFunc := ⟨2, 26, m50_r, m50_b⟩
theorem c50 : compF Tryd.prog 50 m50 = some m50 := by kernel_rfl

/- tollhouse/tollhouseref06.Num -/
def m51_1 : MCode :=
 (.seq
  (.blk 1
   (.reg
    [MI.op (some 12) (.mov (.tmp 3)) none,
     MI.op (some 13) (.bin .shl (.tmp 12) (.c (.int .u64 8))) none,
     MI.op (some 14) (.mov (.tmp 0)) none,
     MI.op (some 15) (.mov (.tmp 4)) none,
     MI.op (some 16) (.ixSl 1 (.tmp 14) (.tmp 15)) none,
     MI.op (some 17) (.load false 1 (.tmp 16)) none,
     MI.op (some 18) (.toInt .u32 (.tmp 17)) none,
     MI.op (some 19) (.bin .add (.tmp 13) (.tmp 18)) none,
     MI.op (some 3) (.mov (.tmp 19)) none]))
  (.reg
   [MI.op (some 10) (.mov (.tmp 4)) none,
    MI.op (some 11) (.bin .sub (.tmp 10) (.c (.int .i64 1))) none,
    MI.op (some 4) (.mov (.tmp 11)) none]))
def m51_2 : MCode :=
 (.seq
  (.seq
   (.reg
    [MI.op (some 8) (.mov (.tmp 4)) none,
     MI.op (some 9) (.bin .geq (.tmp 8) (.c (.int .i64 0))) none])
   (.cond (.tmp 9)
    .skip
    (.exit 0)))
  m51_1)
def m51_3 : MCode :=
 (.blk 0
  (.loop
  m51_2))
def m51_4 : MCode :=
 (.seq
  (.reg
   [MI.op (some 20) (.mov (.tmp 3)) none,
    MI.op (some 2) (.mov (.tmp 20)) none])
  .ret)
def m51_5 : MCode :=
 (.seq
  (.seq
   (.reg
    [MI.op (some 5) (.mov (.tmp 0)) none,
     MI.op (some 6) (.len (.tmp 5)) none,
     MI.op (some 7) (.bin .sub (.tmp 6) (.c (.int .i64 1))) none,
     MI.op (some 4) (.mov (.tmp 7)) none])
  m51_3)
  m51_4)
def m51_6 : MCode :=
 (.seq
  (.reg
   [MI.op (some 3) (.mov (.c (.int .u32 0))) none])
  m51_5)
def m51_r : List MRes := [.tmp 2]
def m51_b : MCode :=
 (.seq
  (.reg
   [MI.op (some 2) (.mov (.c (.int .u32 0))) none])
  m51_6)
def m51 : MFunc := ⟨1, 21, m51_r, m51_b⟩
theorem c51 : compF Tryd.prog 51 m51 = some m51 := by kernel_rfl

/- slices.Grow[[]byte,byte] -/
def m63_1 : MCode :=
 (.cond (.tmp 6)
  (.reg
   [MI.op (some 7) (.bad) none,
    MI.op none (.bad) none])
  .skip)
def m63_2 : MCode :=
 (.reg
  [MI.op (some 17) (.mov (.tmp 0)) none,
   MI.op (some 18) (.mov (.tmp 0)) none,
   MI.op (some 19) (.cap (.tmp 18)) none,
   MI.op (some 20) (.slSl 1 (.tmp 17) none (some (.tmp 19)) none) none,
   MI.op (some 21) (.mov (.tmp 1)) none,
   MI.op (some 22) (.appZ 1 1 [(.int .u8 0)] (.tmp 20) (.tmp 21)) none,
   MI.op (some 23) (.mov (.tmp 0)) none,
   MI.op (some 24) (.len (.tmp 23)) none,
   MI.op (some 25) (.slSl 1 (.tmp 22) none (some (.tmp 24)) none) none,
   MI.op (some 0) (.mov (.tmp 25)) none])
def m63_3 : MCode :=
 (.cond (.tmp 16)
  m63_2
  .skip)
def m63_4 : MCode :=
 (.seq
  (.reg
   [MI.op (some 15) (.mov (.tmp 1)) none,
    MI.op (some 16) (.bin .gtr (.tmp 15) (.c (.int .i64 0))) none])
  m63_3)
def m63_5 : MCode :=
 (.seq
  (.reg
   [MI.op (some 26) (.mov (.tmp 0)) none,
    MI.op (some 4) (.mov (.tmp 26)) none])
  .ret)
def m63_6 : MCode :=
 (.seq
  (.seq
   (.reg
    [MI.op (some 8) (.mov (.tmp 1)) none,
     MI.op (some 9) (.mov (.tmp 0)) none,
     MI.op (some 10) (.cap (.tmp 9)) none,
     MI.op (some 11) (.mov (.tmp 0)) none,
     MI.op (some 12) (.len (.tmp 11)) none,
     MI.op (some 13) (.bin .sub (.tmp 10) (.tmp 12)) none,
     MI.op (some 14) (.bin .sub (.tmp 8) (.tmp 13)) none,
     MI.op (some 1) (.mov (.tmp 14)) none])
  m63_4)
  m63_5)
def m63_7 : MCode :=
 (.seq
  (.seq
   (.reg
    [MI.op (some 5) (.mov (.tmp 1)) none,
     MI.op (some 6) (.bin .lss (.tmp 5) (.c (.int .i64 0))) none])
  m63_1)
  m63_6)
def m63_r : List MRes := [.tmp 4]
def m63_b : MCode :=
 (.seq
  (.reg
   [MI.op (some 4) (.mov (.c (.sl .full 0 []))) none])
  m63_7)
def m63 : MFunc := ⟨2, 27, m63_r, m63_b⟩
theorem c63 : compF Tryd.prog 63 m63 = some m63 := by kernel_rfl

/- tollhouse/tollhouselaw14.TokenCodes -/
def m7_1 : MCode :=
 (.seq
  (.reg
   [MI.op (some 27) (.call 24 []) none,
    MI.op (some 4) (.mov (.tmp 27)) none])
  .ret)
def m7_2 : MCode :=
 (.cond (.tmp 26)
  m7_1
  .skip)
def m7_3 : List MI :=
 [MI.op (some 28) (.mov (.tmp 30)) none,
  MI.op (some 31) (.ext (.tmp 28) 0) none,
  MI.op (some 32) (.ext (.tmp 28) 1) none,
  MI.op (some 5) (.mov (.tmp 31)) none,
  MI.op (some 6) (.mov (.tmp 32)) none]
def m7_4 : List MI :=
 [MI.op (some 33) (.mov (.tmp 35)) none,
  MI.op (some 36) (.ext (.tmp 33) 0) none,
  MI.op (some 37) (.ext (.tmp 33) 1) none,
  MI.op (some 7) (.mov (.tmp 36)) none,
  MI.op (some 8) (.mov (.tmp 37)) none]
def m7_5 : List MI :=
 [MI.op (some 38) (.mov (.tmp 41)) none,
  MI.op (some 42) (.ext (.tmp 38) 0) none,
  MI.op (some 43) (.ext (.tmp 38) 1) none,
  MI.op (some 9) (.mov (.tmp 42)) none,
  MI.op (some 10) (.mov (.tmp 43)) none]
def m7_6 : List MI :=
 [MI.op (some 44) (.mov (.tmp 47)) none,
  MI.op (some 48) (.ext (.tmp 44) 0) none,
  MI.op (some 49) (.ext (.tmp 44) 1) none,
  MI.op (some 11) (.mov (.tmp 48)) none,
  MI.op (some 12) (.mov (.tmp 49)) none]
def m7_7 : List MI :=
 [MI.op (some 50) (.mov (.tmp 54)) none,
  MI.op (some 55) (.ext (.tmp 50) 0) none,
  MI.op (some 56) (.ext (.tmp 50) 1) none,
  MI.op (some 13) (.alloc [(.int .i64 0), (.str []), (.int .i64 0), (.int .u32 0), (.int .u32 0), (.int .u8 0), (.int .u8 0), (.int .u8 0), (.int .u8 0), (.int .u8 0), (.int .u8 0), (.int .u8 0), (.int .u8 0), (.int .u8 0), (.int .u8 0), (.int .u8 0), (.int .u8 0), (.int .u8 0), (.int .u8 0), (.int .u8 0), (.int .u8 0), (.int .u8 0), (.int .u8 0), (.int .u8 0), (.int .u8 0), (.int .u8 0), (.int .u8 0), (.int .u8 0), (.int .u8 0), (.int .u8 0), (.int .u8 0), (.int .u8 0), (.int .u8 0), (.int .u8 0), (.int .u8 0), (.int .u8 0), (.int .u8 0)]) none,
  MI.op none (.store 37 (.tmp 13) (.tmp 55)) none,
  MI.op (some 14) (.mov (.tmp 56)) none]
def m7_8 : List MI :=
 [MI.op (some 57) (.mov (.tmp 59)) none,
  MI.op (some 60) (.ext (.tmp 57) 0) none,
  MI.op (some 61) (.ext (.tmp 57) 1) none,
  MI.op (some 15) (.alloc [(.int .i64 0), (.str []), (.int .i64 0), (.int .u32 0), (.int .u32 0), (.int .u8 0), (.int .u8 0), (.int .u8 0), (.int .u8 0), (.int .u8 0), (.int .u8 0), (.int .u8 0), (.int .u8 0), (.int .u8 0), (.int .u8 0), (.int .u8 0), (.int .u8 0), (.int .u8 0), (.int .u8 0), (.int .u8 0), (.int .u8 0), (.int .u8 0), (.int .u8 0), (.int .u8 0), (.int .u8 0), (.int .u8 0), (.int .u8 0), (.int .u8 0), (.int .u8 0), (.int .u8 0), (.int .u8 0), (.int .u8 0), (.int .u8 0), (.int .u8 0), (.int .u8 0), (.int .u8 0), (.int .u8 0)]) none,
  MI.op none (.store 37 (.tmp 15) (.tmp 60)) none,
  MI.op (some 16) (.mov (.tmp 61)) none]
def m7_9 : List MI :=
 [MI.op (some 92) (.pick (.tmp 90) (.tmp 91) (.c (.bool false))) none,
  MI.op (some 4) (.mov (.tmp 92)) none]
def m7_10 : List MI :=
 (MI.op (some 74) (.pick (.tmp 70) (.tmp 73) (.c (.bool false))) none ::
  MI.op (some 75) (.mov (.tmp 74)) none ::
  MI.op (some 76) (.mov (.tmp 10)) (some (75, true)) ::
  MI.op (some 77) (.mov (.tmp 12)) (some (75, true)) ::
  MI.op (some 78) (.bin .eql (.tmp 76) (.tmp 77)) (some (75, true)) ::
  MI.op (some 79) (.pick (.tmp 75) (.tmp 78) (.c (.bool false))) none ::
  MI.op (some 80) (.mov (.tmp 79)) none ::
  MI.op (some 81) (.load true 37 (.tmp 13)) (some (80, true)) ::
  MI.op (some 82) (.load true 37 (.tmp 15)) (some (80, true)) ::
  MI.op (some 83) (.eqv false [(1, .i), (1, .s), (35, .i)] (.tmp 81) (.tmp 82)) (some (80, true)) ::
  MI.op (some 84) (.pick (.tmp 80) (.tmp 83) (.c (.bool false))) none ::
  MI.op (some 85) (.mov (.tmp 84)) none ::
  MI.op (some 86) (.mov (.tmp 14)) (some (85, true)) ::
  MI.op (some 87) (.mov (.tmp 16)) (some (85, true)) ::
  MI.op (some 88) (.bin .eql (.tmp 86) (.tmp 87)) (some (85, true)) ::
  MI.op (some 89) (.pick (.tmp 85) (.tmp 88) (.c (.bool false))) none ::
  MI.op (some 90) (.mov (.tmp 89)) none ::
  MI.op (some 91) (.call 24 []) (some (90, true)) ::
  m7_9)
def m7_11 : List MI :=
 (MI.op (some 65) (.mov (.tmp 64)) none ::
  MI.op (some 66) (.mov (.tmp 6)) (some (65, true)) ::
  MI.op (some 67) (.mov (.tmp 8)) (some (65, true)) ::
  MI.op (some 68) (.bin .eql (.tmp 66) (.tmp 67)) (some (65, true)) ::
  MI.op (some 69) (.pick (.tmp 65) (.tmp 68) (.c (.bool false))) none ::
  MI.op (some 70) (.mov (.tmp 69)) none ::
  MI.op (some 71) (.mov (.tmp 9)) (some (70, true)) ::
  MI.op (some 72) (.mov (.tmp 11)) (some (70, true)) ::
  MI.op (some 73) (.call 31 [(.tmp 71), (.tmp 72)]) (some (70, true)) ::
  m7_10)
def m7_12 : MCode :=
 (.seq
  (.reg
   (MI.op (some 62) (.mov (.tmp 5)) none ::
    MI.op (some 63) (.mov (.tmp 7)) none ::
    MI.op (some 64) (.call 31 [(.tmp 62), (.tmp 63)]) none ::
    m7_11))
  .ret)
def m7_13 : MCode :=
 (.seq
  (.reg
   (MI.op (some 58) (.mov (.tmp 1)) none ::
    MI.op (some 59) (.call 30 [(.tmp 58)]) none ::
    m7_8))
  m7_12)
def m7_14 : MCode :=
 (.seq
  (.reg
   (MI.op (some 51) (.bsl 0 1 [(.int .u8 0)] []) none ::
    MI.op (some 52) (.mov (.tmp 1)) none ::
    MI.op (some 53) (.app 1 1 (.tmp 51) (.tmp 52)) none ::
    MI.op (some 54) (.call 29 [(.tmp 53)]) none ::
    m7_7))
  m7_13)
def m7_15 : MCode :=
 (.seq
  (.reg
   (MI.op (some 45) (.fa 0 (.tmp 2)) none ::
    MI.op (some 46) (.load true 5 (.tmp 45)) none ::
    MI.op (some 47) (.call 28 [(.tmp 46)]) none ::
    m7_6))
  m7_14)
def m7_16 : MCode :=
 (.seq
  (.reg
   (MI.op (some 39) (.fa 0 (.tmp 2)) none ::
    MI.op (some 40) (.load true 5 (.tmp 39)) none ::
    MI.op (some 41) (.call 27 [(.tmp 40)]) none ::
    m7_5))
  m7_15)
def m7_17 : MCode :=
 (.seq
  (.reg
   (MI.op (some 34) (.load true 37 (.tmp 2)) none ::
    MI.op (some 35) (.call 26 [(.tmp 34)]) none ::
    m7_4))
  m7_16)
def m7_18 : MCode :=
 (.seq
  (.reg
   (MI.op (some 29) (.load true 37 (.tmp 2)) none ::
    MI.op (some 30) (.call 25 [(.tmp 29)]) none ::
    m7_3))
  m7_17)
def m7_19 : MCode :=
 (.seq
  (.seq
   (.reg
    [MI.op (some 17) (.fa 0 (.tmp 2)) none,
     MI.op (some 18) (.fa 1 (.tmp 17)) none,
     MI.op (some 19) (.load false 1 (.tmp 18)) none,
     MI.op (some 20) (.lenS (.tmp 19)) none,
     MI.op (some 21) (.bin .gtr (.tmp 20) (.c (.int .i64 100))) none,
     MI.op (some 22) (.mov (.tmp 21)) none,
     MI.op (some 23) (.mov (.tmp 1)) (some (22, false)),
     MI.op (some 24) (.len (.tmp 23)) (some (22, false)),
     MI.op (some 25) (.bin .gtr (.tmp 24) (.c (.int .i64 500))) (some (22, false)),
     MI.op (some 26) (.pick (.tmp 22) (.c (.bool true)) (.tmp 25)) none])
  m7_2)
  m7_18)
def m7_r : List MRes := [.tmp 4]
def m7_b : MCode :=
 (.seq
  (.reg
   [MI.op (some 2) (.box (.tmp 0)) none,
    MI.op (some 4) (.mov (.c (.bool false))) none])
  m7_19)
def m7 : MFunc := ⟨2, 93, m7_r, m7_b⟩
theorem c7 : compF Tryd.prog 7 m7 = some m7 := by kernel_rfl

/- tollhouse/tollhouselaw14.TokenBack -/
def m8_1 : MCode :=
 (.seq
  (.reg
   [MI.op (some 34) (.call 24 []) none,
    MI.op (some 6) (.mov (.tmp 34)) none])
  .ret)
def m8_2 : MCode :=
 (.cond (.tmp 33)
  m8_1
  .skip)
def m8_3 : List MI :=
 [MI.op (some 35) (.mov (.tmp 37)) none,
  MI.op (some 38) (.ext (.tmp 35) 0) none,
  MI.op (some 39) (.ext (.tmp 35) 1) none,
  MI.op (some 7) (.mov (.tmp 38)) none,
  MI.op (some 8) (.mov (.tmp 39)) none]
def m8_4 : List MI :=
 [MI.op (some 40) (.mov (.tmp 42)) none,
  MI.op (some 43) (.ext (.tmp 40) 0) none,
  MI.op (some 44) (.ext (.tmp 40) 1) none,
  MI.op (some 9) (.mov (.tmp 43)) none,
  MI.op (some 10) (.mov (.tmp 44)) none]
def m8_5 : List MI :=
 [MI.op (some 47) (.mov (.tmp 49)) none,
  MI.op (some 50) (.ext (.tmp 47) 0) none,
  MI.op (some 51) (.ext (.tmp 47) 1) none,
  MI.op (some 11) (.alloc [(.int .i64 0), (.str []), (.int .i64 0), (.int .u32 0), (.int .u32 0), (.int .u8 0), (.int .u8 0), (.int .u8 0), (.int .u8 0), (.int .u8 0), (.int .u8 0), (.int .u8 0), (.int .u8 0), (.int .u8 0), (.int .u8 0), (.int .u8 0), (.int .u8 0), (.int .u8 0), (.int .u8 0), (.int .u8 0), (.int .u8 0), (.int .u8 0), (.int .u8 0), (.int .u8 0), (.int .u8 0), (.int .u8 0), (.int .u8 0), (.int .u8 0), (.int .u8 0), (.int .u8 0), (.int .u8 0), (.int .u8 0), (.int .u8 0), (.int .u8 0), (.int .u8 0), (.int .u8 0), (.int .u8 0)]) none,
  MI.op none (.store 37 (.tmp 11) (.tmp 50)) none,
  MI.op (some 12) (.mov (.tmp 51)) none]
def m8_6 : MCode :=
 (.cond (.tmp 58)
  (.seq
   (.reg
    [MI.op (some 6) (.mov (.c (.bool false))) none])
   .ret)
  .skip)
def m8_7 : MCode :=
 (.seq
  (.reg
   [MI.op (some 52) (.mov (.tmp 12)) none,
    MI.op (some 53) (.bin .neq (.tmp 52) (.c (.int .i64 0))) none,
    MI.op (some 54) (.mov (.tmp 53)) none,
    MI.op (some 55) (.load true 37 (.tmp 11)) (some (54, false)),
    MI.op (some 56) (.load true 37 (.tmp 3)) (some (54, false)),
    MI.op (some 57) (.eqv true [(1, .i), (1, .s), (35, .i)] (.tmp 55) (.tmp 56)) (some (54, false)),
    MI.op (some 58) (.pick (.tmp 54) (.c (.bool true)) (.tmp 57)) none])
  m8_6)
def m8_8 : MCode :=
 (.seq
  (.reg
   (MI.op (some 48) (.mov (.tmp 7)) none ::
    MI.op (some 49) (.call 29 [(.tmp 48)]) none ::
    m8_5))
  m8_7)
def m8_9 : MCode :=
 (.cond (.tmp 46)
  m8_8
  .skip)
def m8_10 : MCode :=
 (.cond (.tmp 73)
  (.seq
   (.reg
    [MI.op (some 6) (.mov (.c (.bool false))) none])
   .ret)
  .skip)
def m8_11 : List MI :=
 [MI.op (some 74) (.mov (.tmp 76)) none,
  MI.op (some 77) (.ext (.tmp 74) 0) none,
  MI.op (some 78) (.ext (.tmp 74) 1) none,
  MI.op (some 13) (.alloc [(.int .i64 0), (.str []), (.int .i64 0), (.int .u32 0), (.int .u32 0), (.int .u8 0), (.int .u8 0), (.int .u8 0), (.int .u8 0), (.int .u8 0), (.int .u8 0), (.int .u8 0), (.int .u8 0), (.int .u8 0), (.int .u8 0), (.int .u8 0), (.int .u8 0), (.int .u8 0), (.int .u8 0), (.int .u8 0), (.int .u8 0), (.int .u8 0), (.int .u8 0), (.int .u8 0), (.int .u8 0), (.int .u8 0), (.int .u8 0), (.int .u8 0), (.int .u8 0), (.int .u8 0), (.int .u8 0), (.int .u8 0), (.int .u8 0), (.int .u8 0), (.int .u8 0), (.int .u8 0), (.int .u8 0)]) none,
  MI.op none (.store 37 (.tmp 13) (.tmp 77)) none,
  MI.op (some 14) (.mov (.tmp 78)) none]
def m8_12 : List MI :=
 [MI.op (some 81) (.mov (.tmp 83)) none,
  MI.op (some 84) (.ext (.tmp 81) 0) none,
  MI.op (some 85) (.ext (.tmp 81) 1) none,
  MI.op (some 15) (.mov (.tmp 84)) none,
  MI.op (some 16) (.mov (.tmp 85)) none]
def m8_13 : List MI :=
 [MI.op (some 95) (.pick (.tmp 93) (.tmp 94) (.c (.bool false))) none,
  MI.op (some 6) (.mov (.tmp 95)) none]
def m8_14 : List MI :=
 (MI.op (some 92) (.pick (.tmp 88) (.tmp 91) (.c (.bool false))) none ::
  MI.op (some 93) (.mov (.tmp 92)) none ::
  MI.op (some 94) (.call 24 []) (some (93, true)) ::
  m8_13)
def m8_15 : MCode :=
 (.seq
  (.reg
   (MI.op (some 86) (.mov (.tmp 16)) none ::
    MI.op (some 87) (.bin .eql (.tmp 86) (.c (.int .i64 0))) none ::
    MI.op (some 88) (.mov (.tmp 87)) none ::
    MI.op (some 89) (.mov (.tmp 15)) (some (88, true)) ::
    MI.op (some 90) (.mov (.tmp 2)) (some (88, true)) ::
    MI.op (some 91) (.call 31 [(.tmp 89), (.tmp 90)]) (some (88, true)) ::
    m8_14))
  .ret)
def m8_16 : MCode :=
 (.seq
  (.reg
   (MI.op (some 82) (.load true 37 (.tmp 13)) none ::
    MI.op (some 83) (.call 25 [(.tmp 82)]) none ::
    m8_12))
  m8_15)
def m8_17 : MCode :=
 (.cond (.tmp 80)
  m8_16
  .skip)
def m8_18 : List MI :=
 [MI.op (some 101) (.pick (.tmp 99) (.tmp 100) (.c (.bool false))) none,
  MI.op (some 6) (.mov (.tmp 101)) none]
def m8_19 : MCode :=
 (.seq
  (.reg
   (MI.op (some 96) (.load true 37 (.tmp 13)) none ::
    MI.op (some 97) (.build [(.int .i64 0), (.str []), (.int .i64 0), (.int .u32 0), (.int .u32 0), (.int .u8 0), (.int .u8 0), (.int .u8 0), (.int .u8 0), (.int .u8 0), (.int .u8 0), (.int .u8 0), (.int .u8 0), (.int .u8 0), (.int .u8 0), (.int .u8 0), (.int .u8 0), (.int .u8 0), (.int .u8 0), (.int .u8 0), (.int .u8 0), (.int .u8 0), (.int .u8 0), (.int .u8 0), (.int .u8 0), (.int .u8 0), (.int .u8 0), (.int .u8 0), (.int .u8 0), (.int .u8 0), (.int .u8 0), (.int .u8 0), (.int .u8 0), (.int .u8 0), (.int .u8 0), (.int .u8 0), (.int .u8 0)] []) none ::
    MI.op (some 98) (.eqv false [(1, .i), (1, .s), (35, .i)] (.tmp 96) (.tmp 97)) none ::
    MI.op (some 99) (.mov (.tmp 98)) none ::
    MI.op (some 100) (.call 24 []) (some (99, true)) ::
    m8_18))
  .ret)
def m8_20 : MCode :=
 (.seq
  (.seq
   (.reg
    [MI.op (some 79) (.mov (.tmp 14)) none,
     MI.op (some 80) (.bin .eql (.tmp 79) (.c (.int .i64 0))) none])
  m8_17)
  m8_19)
def m8_21 : MCode :=
 (.seq
  (.reg
   (MI.op (some 75) (.mov (.tmp 2)) none ::
    MI.op (some 76) (.call 29 [(.tmp 75)]) none ::
    m8_11))
  m8_20)
def m8_22 : MCode :=
 (.seq
  (.seq
   (.drw
    [MI.op (some 59) (.mov (.tmp 8)) none,
     MI.op (some 60) (.bin .eql (.tmp 59) (.c (.int .i64 0))) none,
     MI.op (some 61) (.mov (.tmp 60)) none,
     MI.op (some 62) (.mov (.tmp 10)) (some (61, true)),
     MI.op (some 63) (.bin .eql (.tmp 62) (.c (.int .i64 0))) (some (61, true)),
     MI.op (some 64) (.pick (.tmp 61) (.tmp 63) (.c (.bool false))) none,
     MI.op (some 65) (.mov (.tmp 64)) none,
     MI.op (some 66) (.mov (.tmp 7)) (some (65, true)),
     MI.op (some 67) (.mov (.tmp 9)) (some (65, true)),
     MI.op (some 68) (.call 31 [(.tmp 66), (.tmp 67)]) (some (65, true)),
     MI.op (some 69) (.load true 37 (.tmp 3)) (some (65, true)),
     MI.op (some 70) (.load true 37 (.tmp 4)) (some (65, true)),
     MI.op (some 71) (.eqv false [(1, .i), (1, .s), (35, .i)] (.tmp 69) (.tmp 70)) (some (65, true))]
    [MI.op (some 72) (.binB .neq (.tmp 68) (.tmp 71)) (some (65, true)),
     MI.op (some 73) (.pick (.tmp 65) (.tmp 72) (.c (.bool false))) none])
  m8_10)
  m8_21)
def m8_23 : MCode :=
 (.seq
  (.seq
   (.reg
    [MI.op (some 45) (.mov (.tmp 8)) none,
     MI.op (some 46) (.bin .eql (.tmp 45) (.c (.int .i64 0))) none])
  m8_9)
  m8_22)
def m8_24 : MCode :=
 (.seq
  (.reg
   (MI.op (some 41) (.load true 37 (.tmp 4)) none ::
    MI.op (some 42) (.call 25 [(.tmp 41)]) none ::
    m8_4))
  m8_23)
def m8_25 : MCode :=
 (.seq
  (.reg
   (MI.op (some 36) (.load true 37 (.tmp 3)) none ::
    MI.op (some 37) (.call 25 [(.tmp 36)]) none ::
    m8_3))
  m8_24)
def m8_26 : MCode :=
 (.seq
  (.seq
   (.reg
    [MI.op (some 17) (.fa 0 (.tmp 3)) none,
     MI.op (some 18) (.fa 1 (.tmp 17)) none,
     MI.op (some 19) (.load false 1 (.tmp 18)) none,
     MI.op (some 20) (.lenS (.tmp 19)) none,
     MI.op (some 21) (.bin .gtr (.tmp 20) (.c (.int .i64 100))) none,
     MI.op (some 22) (.mov (.tmp 21)) none,
     MI.op (some 23) (.fa 0 (.tmp 4)) (some (22, false)),
     MI.op (some 24) (.fa 1 (.tmp 23)) (some (22, false)),
     MI.op (some 25) (.load false 1 (.tmp 24)) (some (22, false)),
     MI.op (some 26) (.lenS (.tmp 25)) (some (22, false)),
     MI.op (some 27) (.bin .gtr (.tmp 26) (.c (.int .i64 100))) (some (22, false)),
     MI.op (some 28) (.pick (.tmp 22) (.c (.bool true)) (.tmp 27)) none,
     MI.op (some 29) (.mov (.tmp 28)) none,
     MI.op (some 30) (.mov (.tmp 2)) (some (29, false)),
     MI.op (some 31) (.len (.tmp 30)) (some (29, false)),
     MI.op (some 32) (.bin .gtr (.tmp 31) (.c (.int .i64 500))) (some (29, false)),
     MI.op (some 33) (.pick (.tmp 29) (.c (.bool true)) (.tmp 32)) none])
  m8_2)
  m8_25)
def m8_r : List MRes := [.tmp 6]
def m8_b : MCode :=
 (.seq
  (.reg
   [MI.op (some 3) (.box (.tmp 0)) none,
    MI.op (some 4) (.box (.tmp 1)) none,
    MI.op (some 6) (.mov (.c (.bool false))) none])
  m8_26)
def m8 : MFunc := ⟨3, 102, m8_r, m8_b⟩
theorem c8 : compF Tryd.prog 8 m8 = some m8 := by kernel_rfl

/- tollhouse/tollhouselaw14.TokenPlaces -/
def m9_1 : MCode :=
 (.seq
  (.reg
   [MI.op (some 12) (.call 24 []) none,
    MI.op (some 2) (.mov (.tmp 12)) none])
  .ret)
def m9_2 : MCode :=
 (.cond (.tmp 11)
  m9_1
  .skip)
def m9_3 : List MI :=
 [MI.op (some 13) (.mov (.tmp 15)) none,
  MI.op (some 16) (.ext (.tmp 13) 0) none,
  MI.op (some 17) (.ext (.tmp 13) 1) none,
  MI.op (some 3) (.mov (.tmp 16)) none,
  MI.op (some 4) (.mov (.tmp 17)) none]
def m9_4 : List MI :=
 [MI.op (some 34) (.pick (.tmp 32) (.tmp 33) (.c (.bool false))) none,
  MI.op (some 2) (.mov (.tmp 34)) none]
def m9_5 : MCode :=
 (.seq
  (.reg
   (MI.op (some 25) (.mov (.tmp 4)) none ::
    MI.op (some 26) (.bin .eql (.tmp 25) (.c (.int .i64 11))) none ::
    MI.op (some 27) (.mov (.tmp 26)) none ::
    MI.op (some 28) (.mov (.tmp 3)) (some (27, true)) ::
    MI.op (some 29) (.len (.tmp 28)) (some (27, true)) ::
    MI.op (some 30) (.bin .eql (.tmp 29) (.c (.int .i64 0))) (some (27, true)) ::
    MI.op (some 31) (.pick (.tmp 27) (.tmp 30) (.c (.bool false))) none ::
    MI.op (some 32) (.mov (.tmp 31)) none ::
    MI.op (some 33) (.call 24 []) (some (32, true)) ::
    m9_4))
  .ret)
def m9_6 : MCode :=
 (.cond (.tmp 24)
  m9_5
  .skip)
def m9_7 : MCode :=
 (.cond (.tmp 52)
  (.seq
   (.reg
    [MI.op (some 2) (.mov (.c (.bool false))) none])
   .ret)
  .skip)
def m9_8 : MCode :=
 (.reg
  [MI.op (some 63) (.fa 0 (.tmp 1)) none,
   MI.op (some 64) (.fa 1 (.tmp 63)) none,
   MI.op (some 65) (.load false 1 (.tmp 64)) none,
   MI.op (some 66) (.mov (.tmp 5)) none,
   MI.op (some 67) (.idxStr (.tmp 65) (.tmp 66)) none,
   MI.op (some 6) (.mov (.tmp 67)) none])
def m9_9 : MCode :=
 (.cond (.tmp 62)
  m9_8
  .skip)
def m9_10 : MCode :=
 (.cond (.tmp 106)
  (.seq
   (.reg
    [MI.op (some 2) (.mov (.c (.bool false))) none])
   .ret)
  .skip)
def m9_11 : MCode :=
 (.seq
  (.drw
   [MI.op (some 68) (.mov (.tmp 3)) none,
    MI.op (some 69) (.mov (.tmp 5)) none,
    MI.op (some 70) (.bin .add (.c (.int .i64 1)) (.tmp 69)) none,
    MI.op (some 71) (.ixSl 1 (.tmp 68) (.tmp 70)) none,
    MI.op (some 72) (.load false 1 (.tmp 71)) none,
    MI.op (some 73) (.mov (.tmp 6)) none,
    MI.op (some 74) (.bin .neq (.tmp 72) (.tmp 73)) none,
    MI.op (some 75) (.mov (.tmp 74)) none,
    MI.op (some 76) (.mov (.tmp 3)) (some (75, false)),
    MI.op (some 77) (.mov (.tmp 5)) (some (75, false)),
    MI.op (some 78) (.bin .add (.c (.int .i64 6)) (.tmp 77)) (some (75, false)),
    MI.op (some 79) (.ixSl 1 (.tmp 76) (.tmp 78)) (some (75, false)),
    MI.op (some 80) (.load false 1 (.tmp 79)) (some (75, false)),
    MI.op (some 81) (.fa 0 (.tmp 1)) (some (75, false)),
    MI.op (some 82) (.fa 3 (.tmp 81)) (some (75, false)),
    MI.op (some 83) (.load false 1 (.tmp 82)) (some (75, false)),
    MI.op (some 84) (.mov (.tmp 5)) (some (75, false)),
    MI.op (some 85) (.bin .mul (.c (.int .i64 8)) (.tmp 84)) (some (75, false)),
    MI.op (some 86) (.toInt .u64 (.tmp 85)) (some (75, false)),
    MI.op (some 87) (.bin .shr (.tmp 83) (.tmp 86)) (some (75, false)),
    MI.op (some 88) (.toInt .u8 (.tmp 87)) (some (75, false)),
    MI.op (some 89) (.bin .neq (.tmp 80) (.tmp 88)) (some (75, false)),
    MI.op (some 90) (.pick (.tmp 75) (.c (.bool true)) (.tmp 89)) none,
    MI.op (some 91) (.mov (.tmp 90)) none,
    MI.op (some 92) (.mov (.tmp 3)) (some (91, false)),
    MI.op (some 93) (.mov (.tmp 5)) (some (91, false)),
    MI.op (some 94) (.bin .add (.c (.int .i64 10)) (.tmp 93)) (some (91, false)),
    MI.op (some 95) (.ixSl 1 (.tmp 92) (.tmp 94)) (some (91, false)),
    MI.op (some 96) (.load false 1 (.tmp 95)) (some (91, false)),
    MI.op (some 97) (.fa 0 (.tmp 1)) (some (91, false)),
    MI.op (some 98) (.fa 4 (.tmp 97)) (some (91, false)),
    MI.op (some 99) (.load false 1 (.tmp 98)) (some (91, false)),
    MI.op (some 100) (.mov (.tmp 5)) (some (91, false)),
    MI.op (some 101) (.bin .mul (.c (.int .i64 8)) (.tmp 100)) (some (91, false)),
    MI.op (some 102) (.toInt .u64 (.tmp 101)) (some (91, false)),
    MI.op (some 103) (.bin .shr (.tmp 99) (.tmp 102)) (some (91, false)),
    MI.op (some 104) (.toInt .u8 (.tmp 103)) (some (91, false))]
   [MI.op (some 105) (.bin .neq (.tmp 96) (.tmp 104)) (some (91, false)),
    MI.op (some 106) (.pick (.tmp 91) (.c (.bool true)) (.tmp 105)) none])
  m9_10)
def m9_12 : MCode :=
 (.seq
  (.seq
   (.reg
    [MI.op (some 57) (.mov (.tmp 5)) none,
     MI.op (some 58) (.fa 0 (.tmp 1)) none,
     MI.op (some 59) (.fa 1 (.tmp 58)) none,
     MI.op (some 60) (.load false 1 (.tmp 59)) none,
     MI.op (some 61) (.lenS (.tmp 60)) none,
     MI.op (some 62) (.bin .lss (.tmp 57) (.tmp 61)) none])
  m9_9)
  m9_11)
def m9_13 : MCode :=
 (.seq
  (.blk 1
   (.seq
    (.reg
     [MI.op (some 6) (.mov (.c (.int .u8 0))) none])
  m9_12))
  (.reg
   [MI.op (some 55) (.mov (.tmp 5)) none,
    MI.op (some 56) (.bin .add (.tmp 55) (.c (.int .i64 1))) none,
    MI.op (some 5) (.mov (.tmp 56)) none]))
def m9_14 : MCode :=
 (.seq
  (.seq
   (.reg
    [MI.op (some 53) (.mov (.tmp 5)) none,
     MI.op (some 54) (.bin .lss (.tmp 53) (.c (.int .i64 4))) none])
   (.cond (.tmp 54)
    .skip
    (.exit 0)))
  m9_13)
def m9_15 : MCode :=
 (.blk 0
  (.loop
  m9_14))
def m9_16 : MCode :=
 (.seq
  (.drw
   [MI.op (some 107) (.mov (.tmp 3)) none,
    MI.op (some 108) (.slSl 1 (.tmp 107) (some (.c (.int .i64 14))) none none) none,
    MI.op (some 109) (.fa 5 (.tmp 1)) none,
    MI.op (some 110) (.slArr 32 1 (.tmp 109) none none none) none]
   [MI.op (some 111) (.call 31 [(.tmp 108), (.tmp 110)]) none,
    MI.op (some 112) (.mov (.tmp 111)) none,
    MI.op (some 113) (.call 24 []) (some (112, true)),
    MI.op (some 114) (.pick (.tmp 112) (.tmp 113) (.c (.bool false))) none,
    MI.op (some 2) (.mov (.tmp 114)) none])
  .ret)
def m9_17 : MCode :=
 (.seq
  (.seq
   (.reg
    [MI.op (some 5) (.mov (.c (.int .i64 0))) none])
  m9_15)
  m9_16)
def m9_18 : MCode :=
 (.seq
  (.seq
   (.drw
    [MI.op (some 35) (.mov (.tmp 3)) none,
     MI.op (some 36) (.ixSl 1 (.tmp 35) (.c (.int .i64 0))) none,
     MI.op (some 37) (.load false 1 (.tmp 36)) none,
     MI.op (some 38) (.toInt .i64 (.tmp 37)) none,
     MI.op (some 39) (.fa 0 (.tmp 1)) none,
     MI.op (some 40) (.fa 0 (.tmp 39)) none,
     MI.op (some 41) (.load false 1 (.tmp 40)) none,
     MI.op (some 42) (.bin .neq (.tmp 38) (.tmp 41)) none,
     MI.op (some 43) (.mov (.tmp 42)) none,
     MI.op (some 44) (.mov (.tmp 3)) (some (43, false)),
     MI.op (some 45) (.ixSl 1 (.tmp 44) (.c (.int .i64 5))) (some (43, false)),
     MI.op (some 46) (.load false 1 (.tmp 45)) (some (43, false)),
     MI.op (some 47) (.toInt .i64 (.tmp 46)) (some (43, false)),
     MI.op (some 48) (.fa 0 (.tmp 1)) (some (43, false)),
     MI.op (some 49) (.fa 2 (.tmp 48)) (some (43, false)),
     MI.op (some 50) (.load false 1 (.tmp 49)) (some (43, false))]
    [MI.op (some 51) (.bin .neq (.tmp 47) (.tmp 50)) (some (43, false)),
     MI.op (some 52) (.pick (.tmp 43) (.c (.bool true)) (.tmp 51)) none])
  m9_7)
  m9_17)
def m9_19 : MCode :=
 (.seq
  (.seq
   (.reg
    [MI.op (some 18) (.mov (.tmp 4)) none,
     MI.op (some 19) (.bin .neq (.tmp 18) (.c (.int .i64 0))) none,
     MI.op (some 20) (.mov (.tmp 19)) none,
     MI.op (some 21) (.mov (.tmp 3)) (some (20, false)),
     MI.op (some 22) (.len (.tmp 21)) (some (20, false)),
     MI.op (some 23) (.bin .neq (.tmp 22) (.c (.int .i64 46))) (some (20, false)),
     MI.op (some 24) (.pick (.tmp 20) (.c (.bool true)) (.tmp 23)) none])
  m9_6)
  m9_18)
def m9_20 : MCode :=
 (.seq
  (.reg
   (MI.op (some 14) (.load true 37 (.tmp 1)) none ::
    MI.op (some 15) (.callp 25 [(.tmp 14)]) none ::
    m9_3))
  m9_19)
def m9_21 : MCode :=
 (.seq
  (.seq
   (.reg
    [MI.op (some 7) (.fa 0 (.tmp 1)) none,
     MI.op (some 8) (.fa 1 (.tmp 7)) none,
     MI.op (some 9) (.load false 1 (.tmp 8)) none,
     MI.op (some 10) (.lenS (.tmp 9)) none,
     MI.op (some 11) (.bin .gtr (.tmp 10) (.c (.int .i64 100))) none])
  m9_2)
  m9_20)
def m9_r : List MRes := [.tmp 2]
def m9_b : MCode :=
 (.seq
  (.reg
   [MI.op (some 1) (.box (.tmp 0)) none,
    MI.op (some 2) (.mov (.c (.bool false))) none])
  m9_21)
def m9 : MFunc := ⟨1, 115, m9_r, m9_b⟩
theorem c9 : compF Tryd.prog 9 m9 = some m9 := by kernel_rfl

/- tollhouse/tollhouselaw14.TokenTurns -/
def m10_1 : MCode :=
 (.seq
  (.reg
   [MI.op (some 21) (.call 24 []) none,
    MI.op (some 6) (.mov (.tmp 21)) none])
  .ret)
def m10_2 : MCode :=
 (.cond (.tmp 20)
  m10_1
  .skip)
def m10_3 : List MI :=
 [MI.op (some 22) (.mov (.tmp 24)) none,
  MI.op (some 25) (.ext (.tmp 22) 0) none,
  MI.op (some 26) (.ext (.tmp 22) 1) none,
  MI.op (some 7) (.mov (.tmp 25)) none,
  MI.op (some 8) (.mov (.tmp 26)) none]
def m10_4 : List MI :=
 [MI.op (some 38) (.pick (.tmp 36) (.tmp 37) (.c (.bool false))) none,
  MI.op (some 6) (.mov (.tmp 38)) none]
def m10_5 : MCode :=
 (.seq
  (.reg
   (MI.op (some 34) (.mov (.tmp 8)) none ::
    MI.op (some 35) (.bin .eql (.tmp 34) (.c (.int .i64 11))) none ::
    MI.op (some 36) (.mov (.tmp 35)) none ::
    MI.op (some 37) (.call 24 []) (some (36, true)) ::
    m10_4))
  .ret)
def m10_6 : MCode :=
 (.cond (.tmp 33)
  m10_5
  .skip)
def m10_7 : List MI :=
 [MI.op (some 51) (.mov (.tmp 53)) none,
  MI.op (some 54) (.ext (.tmp 51) 0) none,
  MI.op (some 55) (.ext (.tmp 51) 1) none,
  MI.op (some 10) (.alloc [(.int .i64 0), (.str []), (.int .i64 0), (.int .u32 0), (.int .u32 0), (.int .u8 0), (.int .u8 0), (.int .u8 0), (.int .u8 0), (.int .u8 0), (.int .u8 0), (.int .u8 0), (.int .u8 0), (.int .u8 0), (.int .u8 0), (.int .u8 0), (.int .u8 0), (.int .u8 0), (.int .u8 0), (.int .u8 0), (.int .u8 0), (.int .u8 0), (.int .u8 0), (.int .u8 0), (.int .u8 0), (.int .u8 0), (.int .u8 0), (.int .u8 0), (.int .u8 0), (.int .u8 0), (.int .u8 0), (.int .u8 0), (.int .u8 0), (.int .u8 0), (.int .u8 0), (.int .u8 0), (.int .u8 0)]) none,
  MI.op none (.store 37 (.tmp 10) (.tmp 54)) none,
  MI.op (some 11) (.mov (.tmp 55)) none]
def m10_8 : List MI :=
 [MI.op (some 56) (.mov (.tmp 59)) none,
  MI.op (some 60) (.ext (.tmp 56) 0) none,
  MI.op (some 61) (.ext (.tmp 56) 1) none,
  MI.op (some 12) (.alloc [(.int .i64 0), (.str []), (.int .i64 0), (.int .u32 0), (.int .u32 0), (.int .u8 0), (.int .u8 0), (.int .u8 0), (.int .u8 0), (.int .u8 0), (.int .u8 0), (.int .u8 0), (.int .u8 0), (.int .u8 0), (.int .u8 0), (.int .u8 0), (.int .u8 0), (.int .u8 0), (.int .u8 0), (.int .u8 0), (.int .u8 0), (.int .u8 0), (.int .u8 0), (.int .u8 0), (.int .u8 0), (.int .u8 0), (.int .u8 0), (.int .u8 0), (.int .u8 0), (.int .u8 0), (.int .u8 0), (.int .u8 0), (.int .u8 0), (.int .u8 0), (.int .u8 0), (.int .u8 0), (.int .u8 0)]) none,
  MI.op none (.store 37 (.tmp 12) (.tmp 60)) none,
  MI.op (some 13) (.mov (.tmp 61)) none]
def m10_9 : List MI :=
 [MI.op (some 62) (.mov (.tmp 68)) none,
  MI.op (some 69) (.ext (.tmp 62) 0) none,
  MI.op (some 70) (.ext (.tmp 62) 1) none,
  MI.op (some 14) (.alloc [(.int .i64 0), (.str []), (.int .i64 0), (.int .u32 0), (.int .u32 0), (.int .u8 0), (.int .u8 0), (.int .u8 0), (.int .u8 0), (.int .u8 0), (.int .u8 0), (.int .u8 0), (.int .u8 0), (.int .u8 0), (.int .u8 0), (.int .u8 0), (.int .u8 0), (.int .u8 0), (.int .u8 0), (.int .u8 0), (.int .u8 0), (.int .u8 0), (.int .u8 0), (.int .u8 0), (.int .u8 0), (.int .u8 0), (.int .u8 0), (.int .u8 0), (.int .u8 0), (.int .u8 0), (.int .u8 0), (.int .u8 0), (.int .u8 0), (.int .u8 0), (.int .u8 0), (.int .u8 0), (.int .u8 0)]) none,
  MI.op none (.store 37 (.tmp 14) (.tmp 69)) none,
  MI.op (some 15) (.mov (.tmp 70)) none]
def m10_10 : List MI :=
 [MI.op (some 96) (.pick (.tmp 94) (.tmp 95) (.c (.bool false))) none,
  MI.op (some 6) (.mov (.tmp 96)) none]
def m10_11 : MCode :=
 (.seq
  (.reg
   (MI.op (some 71) (.mov (.tmp 13)) none ::
    MI.op (some 72) (.bin .eql (.tmp 71) (.c (.int .i64 11))) none ::
    MI.op (some 73) (.mov (.tmp 72)) none ::
    MI.op (some 74) (.mov (.tmp 15)) (some (73, true)) ::
    MI.op (some 75) (.bin .eql (.tmp 74) (.c (.int .i64 11))) (some (73, true)) ::
    MI.op (some 76) (.pick (.tmp 73) (.tmp 75) (.c (.bool false))) none ::
    MI.op (some 77) (.mov (.tmp 76)) none ::
    MI.op (some 78) (.mov (.tmp 11)) (some (77, true)) ::
    MI.op (some 79) (.bin .eql (.tmp 78) (.c (.int .i64 0))) (some (77, true)) ::
    MI.op (some 80) (.mov (.tmp 79)) (some (77, true)) ::
    MI.op (some 81) (.load true 37 (.tmp 10)) (some (80, false)) ::
    MI.op (some 82) (.build [(.int .i64 0), (.str []), (.int .i64 0), (.int .u32 0), (.int .u32 0), (.int .u8 0), (.int .u8 0), (.int .u8 0), (.int .u8 0), (.int .u8 0), (.int .u8 0), (.int .u8 0), (.int .u8 0), (.int .u8 0), (.int .u8 0), (.int .u8 0), (.int .u8 0), (.int .u8 0), (.int .u8 0), (.int .u8 0), (.int .u8 0), (.int .u8 0), (.int .u8 0), (.int .u8 0), (.int .u8 0), (.int .u8 0), (.int .u8 0), (.int .u8 0), (.int .u8 0), (.int .u8 0), (.int .u8 0), (.int .u8 0), (.int .u8 0), (.int .u8 0), (.int .u8 0), (.int .u8 0), (.int .u8 0)] []) (some (80, false)) ::
    MI.op (some 83) (.eqv false [(1, .i), (1, .s), (35, .i)] (.tmp 81) (.tmp 82)) (some (80, false)) ::
    MI.op (some 84) (.pick (.tmp 80) (.c (.bool true)) (.tmp 83)) (some (77, true)) ::
    MI.op (some 85) (.pick (.tmp 77) (.tmp 84) (.c (.bool false))) none ::
    MI.op (some 86) (.mov (.tmp 85)) none ::
    MI.op (some 87) (.load true 37 (.tmp 10)) (some (86, true)) ::
    MI.op (some 88) (.load true 37 (.tmp 3)) (some (86, true)) ::
    MI.op (some 89) (.eqv false [(1, .i), (1, .s), (35, .i)] (.tmp 87) (.tmp 88)) (some (86, true)) ::
    MI.op (some 90) (.mov (.tmp 2)) (some (86, true)) ::
    MI.op (some 91) (.bin .eql (.tmp 90) (.c (.int .u8 0))) (some (86, true)) ::
    MI.op (some 92) (.binB .eql (.tmp 89) (.tmp 91)) (some (86, true)) ::
    MI.op (some 93) (.pick (.tmp 86) (.tmp 92) (.c (.bool false))) none ::
    MI.op (some 94) (.mov (.tmp 93)) none ::
    MI.op (some 95) (.call 24 []) (some (94, true)) ::
    m10_10))
  .ret)
def m10_12 : MCode :=
 (.seq
  (.reg
   (MI.op (some 63) (.bsl 0 1 [(.int .u8 0)] []) none ::
    MI.op (some 64) (.mov (.tmp 7)) none ::
    MI.op (some 65) (.app 1 1 (.tmp 63) (.tmp 64)) none ::
    MI.op (some 66) (.bsl 1 1 [(.int .u8 0)] [(0, 1, (.c (.int .u8 0)))]) none ::
    MI.op (some 67) (.app 1 1 (.tmp 65) (.tmp 66)) none ::
    MI.op (some 68) (.call 29 [(.tmp 67)]) none ::
    m10_9))
  m10_11)
def m10_13 : MCode :=
 (.seq
  (.reg
   (MI.op (some 57) (.mov (.tmp 7)) none ::
    MI.op (some 58) (.slSl 1 (.tmp 57) none (some (.c (.int .i64 45))) none) none ::
    MI.op (some 59) (.call 29 [(.tmp 58)]) none ::
    m10_8))
  m10_12)
def m10_14 : MCode :=
 (.seq
  (.reg
   (MI.op (some 52) (.mov (.tmp 9)) none ::
    MI.op (some 53) (.call 29 [(.tmp 52)]) none ::
    m10_7))
  m10_13)
def m10_15 : MCode :=
 (.seq
  (.reg
   [MI.op (some 42) (.mov (.tmp 9)) none,
    MI.op (some 43) (.mov (.tmp 1)) none,
    MI.op (some 44) (.toInt .i64 (.tmp 43)) none,
    MI.op (some 45) (.bin .rem (.tmp 44) (.c (.int .i64 46))) none,
    MI.op (some 46) (.ixSl 1 (.tmp 42) (.tmp 45)) none,
    MI.op (some 47) (.load false 1 (.tmp 46)) none,
    MI.op (some 48) (.mov (.tmp 2)) none,
    MI.op (some 49) (.bin .xor (.tmp 47) (.tmp 48)) none,
    MI.op (some 50) (.ixSl 1 (.tmp 42) (.tmp 45)) none,
    MI.op none (.store 1 (.tmp 50) (.tmp 49)) none])
  m10_14)
def m10_16 : MCode :=
 (.seq
  (.reg
   [MI.op (some 39) (.bsl 0 1 [(.int .u8 0)] []) none,
    MI.op (some 40) (.mov (.tmp 7)) none,
    MI.op (some 41) (.app 1 1 (.tmp 39) (.tmp 40)) none,
    MI.op (some 9) (.mov (.tmp 41)) none])
  m10_15)
def m10_17 : MCode :=
 (.seq
  (.seq
   (.reg
    [MI.op (some 27) (.mov (.tmp 8)) none,
     MI.op (some 28) (.bin .neq (.tmp 27) (.c (.int .i64 0))) none,
     MI.op (some 29) (.mov (.tmp 28)) none,
     MI.op (some 30) (.mov (.tmp 7)) (some (29, false)),
     MI.op (some 31) (.len (.tmp 30)) (some (29, false)),
     MI.op (some 32) (.bin .neq (.tmp 31) (.c (.int .i64 46))) (some (29, false)),
     MI.op (some 33) (.pick (.tmp 29) (.c (.bool true)) (.tmp 32)) none])
  m10_6)
  m10_16)
def m10_18 : MCode :=
 (.seq
  (.reg
   (MI.op (some 23) (.load true 37 (.tmp 3)) none ::
    MI.op (some 24) (.call 25 [(.tmp 23)]) none ::
    m10_3))
  m10_17)
def m10_19 : MCode :=
 (.seq
  (.seq
   (.reg
    [MI.op (some 16) (.fa 0 (.tmp 3)) none,
     MI.op (some 17) (.fa 1 (.tmp 16)) none,
     MI.op (some 18) (.load false 1 (.tmp 17)) none,
     MI.op (some 19) (.lenS (.tmp 18)) none,
     MI.op (some 20) (.bin .gtr (.tmp 19) (.c (.int .i64 100))) none])
  m10_2)
  m10_18)
def m10_r : List MRes := [.tmp 6]
def m10_b : MCode :=
 (.seq
  (.reg
   [MI.op (some 3) (.box (.tmp 0)) none,
    MI.op (some 6) (.mov (.c (.bool false))) none])
  m10_19)
def m10 : MFunc := ⟨3, 97, m10_r, m10_b⟩
theorem c10 : compF Tryd.prog 10 m10 = some m10 := by kernel_rfl

end Go.Proofs.YtmblapgoimegkaaDoor
