/- The loaded functions as texts of the ideal machine (written by a program of ours), and that they are the loaded ones. -/
import Derived.Test.YtfllhbjblkfdfaaDoorE31
import Derived.Test.YtfllhbjblkfdfaaDoorProg
set_option linter.unusedVariables false
namespace Go.Proofs.YtfllhbjblkfdfaaDoor
open Go.RowKit

/- tollhouse/token.Encode -/
def m14_1 : List MI :=
 [MI.op (some 6) (.mov (.tmp 9)) none,
  MI.op (some 10) (.ext (.tmp 6) 0) none,
  MI.op (some 11) (.ext (.tmp 6) 1) none,
  MI.op (some 4) (.mov (.tmp 10)) none,
  MI.op (some 5) (.mov (.tmp 11)) none]
def m14_2 : MCode :=
 (.seq
  (.reg
   [MI.op (some 14) (.mov (.tmp 5)) none,
    MI.op (some 2) (.mov (.c (.sl .full 0 []))) none,
    MI.op (some 3) (.mov (.tmp 14)) none])
  .ret)
def m14_3 : MCode :=
 (.cond (.tmp 13)
  m14_2
  .skip)
def m14_4 : MCode :=
 (.seq
  (.reg
   [MI.op (some 15) (.mov (.tmp 4)) none,
    MI.op (some 16) (.fa 5 (.tmp 1)) none,
    MI.op (some 17) (.slArr 32 1 (.tmp 16) none none none) none,
    MI.op (some 18) (.app 1 1 (.tmp 15) (.tmp 17)) none,
    MI.op (some 2) (.mov (.tmp 18)) none,
    MI.op (some 3) (.mov (.c (.int .i64 0))) none])
  .ret)
def m14_5 : MCode :=
 (.seq
  (.seq
   (.reg
    [MI.op (some 12) (.mov (.tmp 5)) none,
     MI.op (some 13) (.bin .neq (.tmp 12) (.c (.int .i64 0))) none])
  m14_3)
  m14_4)
def m14_6 : MCode :=
 (.seq
  (.reg
   (MI.op (some 7) (.fa 0 (.tmp 1)) none ::
    MI.op (some 8) (.load true 5 (.tmp 7)) none ::
    MI.op (some 9) (.call 28 [(.tmp 8)]) none ::
    m14_1))
  m14_5)
def m14_r : List MRes := [.tmp 2, .tmp 3]
def m14_b : MCode :=
 (.seq
  (.reg
   [MI.op (some 1) (.box (.tmp 0)) none,
    MI.op (some 2) (.mov (.c (.sl .full 0 []))) none,
    MI.op (some 3) (.mov (.c (.int .i64 0))) none])
  m14_6)
def m14 : MFunc := ⟨1, 19, m14_r, m14_b⟩
theorem c14 : compF Tryd.prog 14 m14 = some m14 := by kernel_rfl

/- tollhouse/tollhouseref14.Encode -/
def m19_1 : List MI :=
 [MI.op (some 6) (.mov (.tmp 9)) none,
  MI.op (some 10) (.ext (.tmp 6) 0) none,
  MI.op (some 11) (.ext (.tmp 6) 1) none,
  MI.op (some 4) (.mov (.tmp 10)) none,
  MI.op (some 5) (.mov (.tmp 11)) none]
def m19_2 : MCode :=
 (.seq
  (.reg
   [MI.op (some 14) (.mov (.tmp 5)) none,
    MI.op (some 2) (.mov (.c (.sl .full 0 []))) none,
    MI.op (some 3) (.mov (.tmp 14)) none])
  .ret)
def m19_3 : MCode :=
 (.cond (.tmp 13)
  m19_2
  .skip)
def m19_4 : MCode :=
 (.seq
  (.reg
   [MI.op (some 15) (.mov (.tmp 4)) none,
    MI.op (some 16) (.fa 5 (.tmp 1)) none,
    MI.op (some 17) (.slArr 32 1 (.tmp 16) none none none) none,
    MI.op (some 18) (.app 1 1 (.tmp 15) (.tmp 17)) none,
    MI.op (some 2) (.mov (.tmp 18)) none,
    MI.op (some 3) (.mov (.c (.int .i64 0))) none])
  .ret)
def m19_5 : MCode :=
 (.seq
  (.seq
   (.reg
    [MI.op (some 12) (.mov (.tmp 5)) none,
     MI.op (some 13) (.bin .neq (.tmp 12) (.c (.int .i64 0))) none])
  m19_3)
  m19_4)
def m19_6 : MCode :=
 (.seq
  (.reg
   (MI.op (some 7) (.fa 0 (.tmp 1)) none ::
    MI.op (some 8) (.load true 5 (.tmp 7)) none ::
    MI.op (some 9) (.call 32 [(.tmp 8)]) none ::
    m19_1))
  m19_5)
def m19_r : List MRes := [.tmp 2, .tmp 3]
def m19_b : MCode :=
 (.seq
  (.reg
   [MI.op (some 1) (.box (.tmp 0)) none,
    MI.op (some 2) (.mov (.c (.sl .full 0 []))) none,
    MI.op (some 3) (.mov (.c (.int .i64 0))) none])
  m19_6)
def m19 : MFunc := ⟨1, 19, m19_r, m19_b⟩
theorem c19 : compF Tryd.prog 19 m19 = some m19 := by kernel_rfl

/- tollhouse/token.Claim -/
def m28_1 : List MI :=
 [MI.op (some 22) (.un .not (.tmp 21)) (some (17, true)),
  MI.op (some 23) (.pick (.tmp 17) (.tmp 22) (.c (.bool false))) (some (13, false)),
  MI.op (some 24) (.pick (.tmp 13) (.c (.bool true)) (.tmp 23)) none,
  MI.op (some 25) (.mov (.tmp 24)) none,
  MI.op (some 26) (.fa 2 (.tmp 1)) (some (25, false)),
  MI.op (some 27) (.load false 1 (.tmp 26)) (some (25, false)),
  MI.op (some 28) (.bin .lss (.tmp 27) (.c (.int .i64 1))) (some (25, false)),
  MI.op (some 29) (.pick (.tmp 25) (.c (.bool true)) (.tmp 28)) none,
  MI.op (some 30) (.mov (.tmp 29)) none,
  MI.op (some 31) (.fa 2 (.tmp 1)) (some (30, false)),
  MI.op (some 32) (.load false 1 (.tmp 31)) (some (30, false)),
  MI.op (some 33) (.bin .gtr (.tmp 32) (.c (.int .i64 3))) (some (30, false)),
  MI.op (some 34) (.pick (.tmp 30) (.c (.bool true)) (.tmp 33)) none]
def m28_2 : MCode :=
 (.seq
  (.reg
   [MI.op (some 2) (.mov (.c (.sl .full 0 []))) none,
    MI.op (some 3) (.mov (.c (.int .i64 11))) none])
  .ret)
def m28_3 : MCode :=
 (.cond (.tmp 34)
  m28_2
  .skip)
def m28_4 : List MI :=
 [MI.op (some 4) (.alloc [(.int .u8 0), (.int .u8 0), (.int .u8 0), (.int .u8 0)]) none,
  MI.op none (.store 4 (.tmp 4) (.tmp 37)) none]
def m28_5 : MCode :=
 (.seq
  (.drw
   [MI.op (some 38) (.fa 0 (.tmp 1)) none,
    MI.op (some 39) (.load false 1 (.tmp 38)) none,
    MI.op (some 40) (.toInt .u8 (.tmp 39)) none,
    MI.op (some 41) (.bsl 1 1 [(.int .u8 0)] [(0, 1, (.tmp 40))]) none,
    MI.op (some 42) (.slArr 4 1 (.tmp 4) none none none) none,
    MI.op (some 43) (.fa 2 (.tmp 1)) none,
    MI.op (some 44) (.load false 1 (.tmp 43)) none,
    MI.op (some 45) (.toInt .u8 (.tmp 44)) none,
    MI.op (some 46) (.bsl 1 1 [(.int .u8 0)] [(0, 1, (.tmp 45))]) none,
    MI.op (some 47) (.fa 3 (.tmp 1)) none,
    MI.op (some 48) (.load false 1 (.tmp 47)) none,
    MI.op (some 49) (.call 37 [(.tmp 48)]) none,
    MI.op (some 50) (.fa 4 (.tmp 1)) none,
    MI.op (some 51) (.load false 1 (.tmp 50)) none,
    MI.op (some 52) (.call 37 [(.tmp 51)]) none]
   [MI.op (some 53) (.bslR 5 1 [(.sl .full 0 [])] [(0, 1, (.tmp 41)), (1, 1, (.tmp 42)), (2, 1, (.tmp 46)), (3, 1, (.tmp 49)), (4, 1, (.tmp 52))]) none,
    MI.op (some 54) (.call 18 [(.tmp 53)]) none,
    MI.op (some 2) (.mov (.tmp 54)) none,
    MI.op (some 3) (.mov (.c (.int .i64 0))) none])
  .ret)
def m28_6 : MCode :=
 (.seq
  (.reg
   (MI.op (some 35) (.fa 1 (.tmp 1)) none ::
    MI.op (some 36) (.load false 1 (.tmp 35)) none ::
    MI.op (some 37) (.call 15 [(.tmp 36)]) none ::
    m28_4))
  m28_5)
def m28_7 : MCode :=
 (.seq
  (.seq
   (.reg
    (MI.op (some 5) (.fa 0 (.tmp 1)) none ::
     MI.op (some 6) (.load false 1 (.tmp 5)) none ::
     MI.op (some 7) (.bin .lss (.tmp 6) (.c (.int .i64 0))) none ::
     MI.op (some 8) (.mov (.tmp 7)) none ::
     MI.op (some 9) (.fa 0 (.tmp 1)) (some (8, false)) ::
     MI.op (some 10) (.load false 1 (.tmp 9)) (some (8, false)) ::
     MI.op (some 11) (.bin .geq (.tmp 10) (.c (.int .i64 4))) (some (8, false)) ::
     MI.op (some 12) (.pick (.tmp 8) (.c (.bool true)) (.tmp 11)) none ::
     MI.op (some 13) (.mov (.tmp 12)) none ::
     MI.op (some 14) (.fa 1 (.tmp 1)) (some (13, false)) ::
     MI.op (some 15) (.load false 1 (.tmp 14)) (some (13, false)) ::
     MI.op (some 16) (.bin .neq (.tmp 15) (.c (.str []))) (some (13, false)) ::
     MI.op (some 17) (.mov (.tmp 16)) (some (13, false)) ::
     MI.op (some 18) (.fa 1 (.tmp 1)) (some (17, true)) ::
     MI.op (some 19) (.load false 1 (.tmp 18)) (some (17, true)) ::
     MI.op (some 20) (.bsl 1 1 [(.str [])] [(0, 1, (.tmp 19))]) (some (17, true)) ::
     MI.op (some 21) (.call 17 [(.tmp 20)]) (some (17, true)) ::
     m28_1))
  m28_3)
  m28_6)
def m28_r : List MRes := [.tmp 2, .tmp 3]
def m28_b : MCode :=
 (.seq
  (.reg
   [MI.op (some 1) (.box (.tmp 0)) none,
    MI.op (some 2) (.mov (.c (.sl .full 0 []))) none,
    MI.op (some 3) (.mov (.c (.int .i64 0))) none])
  m28_7)
def m28 : MFunc := ⟨1, 55, m28_r, m28_b⟩
theorem c28 : compF Tryd.prog 28 m28 = some m28 := by kernel_rfl

/- tollhouse/tollhouseref14.Claim -/
def m32_1 : List MI :=
 [MI.op (some 23) (.un .not (.tmp 22)) (some (18, true)),
  MI.op (some 24) (.pick (.tmp 18) (.tmp 23) (.c (.bool false))) (some (14, false)),
  MI.op (some 25) (.pick (.tmp 14) (.c (.bool true)) (.tmp 24)) none,
  MI.op (some 26) (.mov (.tmp 25)) none,
  MI.op (some 27) (.fa 2 (.tmp 1)) (some (26, false)),
  MI.op (some 28) (.load false 1 (.tmp 27)) (some (26, false)),
  MI.op (some 29) (.bin .lss (.tmp 28) (.c (.int .i64 1))) (some (26, false)),
  MI.op (some 30) (.pick (.tmp 26) (.c (.bool true)) (.tmp 29)) none,
  MI.op (some 31) (.mov (.tmp 30)) none,
  MI.op (some 32) (.fa 2 (.tmp 1)) (some (31, false)),
  MI.op (some 33) (.load false 1 (.tmp 32)) (some (31, false)),
  MI.op (some 34) (.bin .gtr (.tmp 33) (.c (.int .i64 3))) (some (31, false)),
  MI.op (some 35) (.pick (.tmp 31) (.c (.bool true)) (.tmp 34)) none]
def m32_2 : MCode :=
 (.seq
  (.reg
   [MI.op (some 2) (.mov (.c (.sl .full 0 []))) none,
    MI.op (some 3) (.mov (.c (.int .i64 11))) none])
  .ret)
def m32_3 : MCode :=
 (.cond (.tmp 35)
  m32_2
  .skip)
def m32_4 : List MI :=
 [MI.op (some 4) (.alloc [(.int .u8 0), (.int .u8 0), (.int .u8 0), (.int .u8 0)]) none,
  MI.op none (.store 4 (.tmp 4) (.tmp 38)) none]
def m32_5 : List MI :=
 [MI.op (some 59) (.app 1 1 (.tmp 55) (.tmp 58)) none,
  MI.op (some 2) (.mov (.tmp 59)) none,
  MI.op (some 3) (.mov (.c (.int .i64 0))) none]
def m32_6 : MCode :=
 (.seq
  (.reg
   (MI.op (some 55) (.mov (.tmp 5)) none ::
    MI.op (some 56) (.fa 4 (.tmp 1)) none ::
    MI.op (some 57) (.load false 1 (.tmp 56)) none ::
    MI.op (some 58) (.call 45 [(.tmp 57), (.c (.int .i64 4))]) none ::
    m32_5))
  .ret)
def m32_7 : MCode :=
 (.seq
  (.drc
   [MI.op (some 45) (.mov (.tmp 5)) none,
    MI.op (some 46) (.fa 2 (.tmp 1)) none,
    MI.op (some 47) (.load false 1 (.tmp 46)) none,
    MI.op (some 48) (.toInt .u8 (.tmp 47)) none,
    MI.op (some 49) (.bsl 1 1 [(.int .u8 0)] [(0, 1, (.tmp 48))]) none]
   (MI.op (some 50) (.app 1 1 (.tmp 45) (.tmp 49)) none)
   [MI.op (some 51) (.fa 3 (.tmp 1)) none,
    MI.op (some 52) (.load false 1 (.tmp 51)) none]
   [MI.op (some 53) (.call 45 [(.tmp 52), (.c (.int .i64 4))]) none,
    MI.op (some 54) (.app 1 1 (.tmp 50) (.tmp 53)) none,
    MI.op (some 5) (.mov (.tmp 54)) none])
  m32_6)
def m32_8 : MCode :=
 (.seq
  (.drw
   [MI.op (some 39) (.fa 0 (.tmp 1)) none,
    MI.op (some 40) (.load false 1 (.tmp 39)) none,
    MI.op (some 41) (.toInt .u8 (.tmp 40)) none,
    MI.op (some 42) (.bsl 1 1 [(.int .u8 0)] [(0, 1, (.tmp 41))]) none,
    MI.op (some 43) (.slArr 4 1 (.tmp 4) none none none) none]
   [MI.op (some 44) (.app 1 1 (.tmp 42) (.tmp 43)) none,
    MI.op (some 5) (.mov (.tmp 44)) none])
  m32_7)
def m32_9 : MCode :=
 (.seq
  (.reg
   (MI.op (some 36) (.fa 1 (.tmp 1)) none ::
    MI.op (some 37) (.load false 1 (.tmp 36)) none ::
    MI.op (some 38) (.call 21 [(.tmp 37)]) none ::
    m32_4))
  m32_8)
def m32_10 : MCode :=
 (.seq
  (.seq
   (.reg
    (MI.op (some 6) (.fa 0 (.tmp 1)) none ::
     MI.op (some 7) (.load false 1 (.tmp 6)) none ::
     MI.op (some 8) (.bin .lss (.tmp 7) (.c (.int .i64 0))) none ::
     MI.op (some 9) (.mov (.tmp 8)) none ::
     MI.op (some 10) (.fa 0 (.tmp 1)) (some (9, false)) ::
     MI.op (some 11) (.load false 1 (.tmp 10)) (some (9, false)) ::
     MI.op (some 12) (.bin .gtr (.tmp 11) (.c (.int .i64 3))) (some (9, false)) ::
     MI.op (some 13) (.pick (.tmp 9) (.c (.bool true)) (.tmp 12)) none ::
     MI.op (some 14) (.mov (.tmp 13)) none ::
     MI.op (some 15) (.fa 1 (.tmp 1)) (some (14, false)) ::
     MI.op (some 16) (.load false 1 (.tmp 15)) (some (14, false)) ::
     MI.op (some 17) (.bin .neq (.tmp 16) (.c (.str []))) (some (14, false)) ::
     MI.op (some 18) (.mov (.tmp 17)) (some (14, false)) ::
     MI.op (some 19) (.fa 1 (.tmp 1)) (some (18, true)) ::
     MI.op (some 20) (.load false 1 (.tmp 19)) (some (18, true)) ::
     MI.op (some 21) (.bsl 1 1 [(.str [])] [(0, 1, (.tmp 20))]) (some (18, true)) ::
     MI.op (some 22) (.call 20 [(.tmp 21)]) (some (18, true)) ::
     m32_1))
  m32_3)
  m32_9)
def m32_r : List MRes := [.tmp 2, .tmp 3]
def m32_b : MCode :=
 (.seq
  (.reg
   [MI.op (some 1) (.box (.tmp 0)) none,
    MI.op (some 2) (.mov (.c (.sl .full 0 []))) none,
    MI.op (some 3) (.mov (.c (.int .i64 0))) none])
  m32_10)
def m32 : MFunc := ⟨1, 60, m32_r, m32_b⟩
theorem c32 : compF Tryd.prog 32 m32 = some m32 := by kernel_rfl

/- tollhouse/token.Decode -/
def m23_1 : MCode :=
 (.seq
  (.reg
   [MI.op (some 12) (.build [(.int .i64 0), (.str []), (.int .i64 0), (.int .u32 0), (.int .u32 0), (.int .u8 0), (.int .u8 0), (.int .u8 0), (.int .u8 0), (.int .u8 0), (.int .u8 0), (.int .u8 0), (.int .u8 0), (.int .u8 0), (.int .u8 0), (.int .u8 0), (.int .u8 0), (.int .u8 0), (.int .u8 0), (.int .u8 0), (.int .u8 0), (.int .u8 0), (.int .u8 0), (.int .u8 0), (.int .u8 0), (.int .u8 0), (.int .u8 0), (.int .u8 0), (.int .u8 0), (.int .u8 0), (.int .u8 0), (.int .u8 0), (.int .u8 0), (.int .u8 0), (.int .u8 0), (.int .u8 0), (.int .u8 0)] []) none,
    MI.op none (.store 37 (.tmp 2) (.tmp 12)) none,
    MI.op (some 3) (.mov (.c (.int .i64 11))) none])
  .ret)
def m23_2 : MCode :=
 (.cond (.tmp 11)
  m23_1
  .skip)
def m23_3 : List MI :=
 [MI.op (some 13) (.mov (.tmp 18)) none,
  MI.op (some 19) (.ext (.tmp 13) 0) none,
  MI.op (some 20) (.ext (.tmp 13) 1) none,
  MI.op (some 4) (.mov (.tmp 19)) none,
  MI.op (some 5) (.mov (.tmp 20)) none]
def m23_4 : MCode :=
 (.seq
  (.reg
   [MI.op (some 23) (.build [(.int .i64 0), (.str []), (.int .i64 0), (.int .u32 0), (.int .u32 0), (.int .u8 0), (.int .u8 0), (.int .u8 0), (.int .u8 0), (.int .u8 0), (.int .u8 0), (.int .u8 0), (.int .u8 0), (.int .u8 0), (.int .u8 0), (.int .u8 0), (.int .u8 0), (.int .u8 0), (.int .u8 0), (.int .u8 0), (.int .u8 0), (.int .u8 0), (.int .u8 0), (.int .u8 0), (.int .u8 0), (.int .u8 0), (.int .u8 0), (.int .u8 0), (.int .u8 0), (.int .u8 0), (.int .u8 0), (.int .u8 0), (.int .u8 0), (.int .u8 0), (.int .u8 0), (.int .u8 0), (.int .u8 0)] []) none,
    MI.op none (.store 37 (.tmp 2) (.tmp 23)) none,
    MI.op (some 3) (.mov (.c (.int .i64 11))) none])
  .ret)
def m23_5 : MCode :=
 (.cond (.tmp 22)
  m23_4
  .skip)
def m23_6 : List MI :=
 [MI.op (some 45) (.mov (.tmp 47)) none,
  MI.op (some 48) (.ext (.tmp 45) 0) none,
  MI.op (some 49) (.ext (.tmp 45) 1) none,
  MI.op (some 7) (.mov (.tmp 48)) none,
  MI.op (some 8) (.mov (.tmp 49)) none]
def m23_7 : List MI :=
 [MI.op (some 56) (.un .not (.tmp 55)) (some (52, false)),
  MI.op (some 57) (.pick (.tmp 52) (.c (.bool true)) (.tmp 56)) none]
def m23_8 : MCode :=
 (.seq
  (.reg
   [MI.op (some 58) (.build [(.int .i64 0), (.str []), (.int .i64 0), (.int .u32 0), (.int .u32 0), (.int .u8 0), (.int .u8 0), (.int .u8 0), (.int .u8 0), (.int .u8 0), (.int .u8 0), (.int .u8 0), (.int .u8 0), (.int .u8 0), (.int .u8 0), (.int .u8 0), (.int .u8 0), (.int .u8 0), (.int .u8 0), (.int .u8 0), (.int .u8 0), (.int .u8 0), (.int .u8 0), (.int .u8 0), (.int .u8 0), (.int .u8 0), (.int .u8 0), (.int .u8 0), (.int .u8 0), (.int .u8 0), (.int .u8 0), (.int .u8 0), (.int .u8 0), (.int .u8 0), (.int .u8 0), (.int .u8 0), (.int .u8 0)] []) none,
    MI.op none (.store 37 (.tmp 2) (.tmp 58)) none,
    MI.op (some 3) (.mov (.c (.int .i64 11))) none])
  .ret)
def m23_9 : MCode :=
 (.cond (.tmp 57)
  m23_8
  .skip)
def m23_10 : MCode :=
 (.seq
  (.reg
   (MI.op (some 50) (.mov (.tmp 8)) none ::
    MI.op (some 51) (.bin .neq (.tmp 50) (.c (.int .i64 0))) none ::
    MI.op (some 52) (.mov (.tmp 51)) none ::
    MI.op (some 53) (.mov (.tmp 7)) (some (52, false)) ::
    MI.op (some 54) (.mov (.tmp 0)) (some (52, false)) ::
    MI.op (some 55) (.call 25 [(.tmp 53), (.tmp 54)]) (some (52, false)) ::
    m23_7))
  m23_9)
def m23_11 : MCode :=
 (.seq
  (.reg
   [MI.op (some 59) (.load true 37 (.tmp 6)) none,
    MI.op none (.store 37 (.tmp 2) (.tmp 59)) none,
    MI.op (some 3) (.mov (.c (.int .i64 0))) none])
  .ret)
def m23_12 : MCode :=
 (.seq
  (.seq
   (.reg
    (MI.op (some 46) (.load true 37 (.tmp 6)) none ::
     MI.op (some 47) (.call 14 [(.tmp 46)]) none ::
     m23_6))
  m23_10)
  m23_11)
def m23_13 : MCode :=
 (.seq
  (.drw
   [MI.op (some 24) (.mov (.tmp 0)) none,
    MI.op (some 25) (.ixSl 1 (.tmp 24) (.c (.int .i64 0))) none,
    MI.op (some 26) (.load false 1 (.tmp 25)) none,
    MI.op (some 27) (.toInt .i64 (.tmp 26)) none,
    MI.op (some 28) (.mov (.tmp 4)) none,
    MI.op (some 29) (.mov (.tmp 0)) none,
    MI.op (some 30) (.ixSl 1 (.tmp 29) (.c (.int .i64 5))) none,
    MI.op (some 31) (.load false 1 (.tmp 30)) none,
    MI.op (some 32) (.toInt .i64 (.tmp 31)) none,
    MI.op (some 33) (.mov (.tmp 0)) none,
    MI.op (some 34) (.slSl 1 (.tmp 33) (some (.c (.int .i64 6))) (some (.c (.int .i64 10))) none) none,
    MI.op (some 35) (.call 34 [(.tmp 34)]) none,
    MI.op (some 36) (.mov (.tmp 0)) none,
    MI.op (some 37) (.slSl 1 (.tmp 36) (some (.c (.int .i64 10))) (some (.c (.int .i64 14))) none) none,
    MI.op (some 38) (.call 34 [(.tmp 37)]) none,
    MI.op (some 39) (.build [(.int .i64 0), (.str []), (.int .i64 0), (.int .u32 0), (.int .u32 0)] [(0, 1, (.tmp 27)), (1, 1, (.tmp 28)), (2, 1, (.tmp 32)), (3, 1, (.tmp 35)), (4, 1, (.tmp 38))]) none,
    MI.op (some 40) (.mov (.tmp 0)) none,
    MI.op (some 41) (.slSl 1 (.tmp 40) (some (.c (.int .i64 14))) none none) none,
    MI.op (some 42) (.arrOf 32 1 (.tmp 41)) none,
    MI.op (some 43) (.load true 32 (.tmp 42)) none,
    MI.op (some 44) (.build [(.int .i64 0), (.str []), (.int .i64 0), (.int .u32 0), (.int .u32 0), (.int .u8 0), (.int .u8 0), (.int .u8 0), (.int .u8 0), (.int .u8 0), (.int .u8 0), (.int .u8 0), (.int .u8 0), (.int .u8 0), (.int .u8 0), (.int .u8 0), (.int .u8 0), (.int .u8 0), (.int .u8 0), (.int .u8 0), (.int .u8 0), (.int .u8 0), (.int .u8 0), (.int .u8 0), (.int .u8 0), (.int .u8 0), (.int .u8 0), (.int .u8 0), (.int .u8 0), (.int .u8 0), (.int .u8 0), (.int .u8 0), (.int .u8 0), (.int .u8 0), (.int .u8 0), (.int .u8 0), (.int .u8 0)] [(0, 5, (.tmp 39)), (5, 32, (.tmp 43))]) none,
    MI.op (some 6) (.alloc [(.int .i64 0), (.str []), (.int .i64 0), (.int .u32 0), (.int .u32 0), (.int .u8 0), (.int .u8 0), (.int .u8 0), (.int .u8 0), (.int .u8 0), (.int .u8 0), (.int .u8 0), (.int .u8 0), (.int .u8 0), (.int .u8 0), (.int .u8 0), (.int .u8 0), (.int .u8 0), (.int .u8 0), (.int .u8 0), (.int .u8 0), (.int .u8 0), (.int .u8 0), (.int .u8 0), (.int .u8 0), (.int .u8 0), (.int .u8 0), (.int .u8 0), (.int .u8 0), (.int .u8 0), (.int .u8 0), (.int .u8 0), (.int .u8 0), (.int .u8 0), (.int .u8 0), (.int .u8 0), (.int .u8 0)]) none]
   [MI.op none (.store 37 (.tmp 6) (.tmp 44)) none])
  m23_12)
def m23_14 : MCode :=
 (.seq
  (.seq
   (.reg
    [MI.op (some 21) (.mov (.tmp 5)) none,
     MI.op (some 22) (.un .not (.tmp 21)) none])
  m23_5)
  m23_13)
def m23_15 : MCode :=
 (.seq
  (.reg
   (MI.op (some 14) (.mov (.tmp 0)) none ::
    MI.op (some 15) (.slSl 1 (.tmp 14) (some (.c (.int .i64 1))) (some (.c (.int .i64 5))) none) none ::
    MI.op (some 16) (.arrOf 4 1 (.tmp 15)) none ::
    MI.op (some 17) (.load true 4 (.tmp 16)) none ::
    MI.op (some 18) (.call 24 [(.tmp 17)]) none ::
    m23_3))
  m23_14)
def m23_16 : MCode :=
 (.seq
  (.seq
   (.reg
    [MI.op (some 9) (.mov (.tmp 0)) none,
     MI.op (some 10) (.len (.tmp 9)) none,
     MI.op (some 11) (.bin .neq (.tmp 10) (.c (.int .i64 46))) none])
  m23_2)
  m23_15)
def m23_r : List MRes := [.cell 2 true 37, .tmp 3]
def m23_b : MCode :=
 (.seq
  (.reg
   [MI.op (some 2) (.alloc [(.int .i64 0), (.str []), (.int .i64 0), (.int .u32 0), (.int .u32 0), (.int .u8 0), (.int .u8 0), (.int .u8 0), (.int .u8 0), (.int .u8 0), (.int .u8 0), (.int .u8 0), (.int .u8 0), (.int .u8 0), (.int .u8 0), (.int .u8 0), (.int .u8 0), (.int .u8 0), (.int .u8 0), (.int .u8 0), (.int .u8 0), (.int .u8 0), (.int .u8 0), (.int .u8 0), (.int .u8 0), (.int .u8 0), (.int .u8 0), (.int .u8 0), (.int .u8 0), (.int .u8 0), (.int .u8 0), (.int .u8 0), (.int .u8 0), (.int .u8 0), (.int .u8 0), (.int .u8 0), (.int .u8 0)]) none,
    MI.op (some 3) (.mov (.c (.int .i64 0))) none])
  m23_16)
def m23 : MFunc := ⟨1, 60, m23_r, m23_b⟩
theorem c23 : compF Tryd.prog 23 m23 = some m23 := by kernel_rfl

/- tollhouse/tollhouseref14.Decode -/
def m26_1 : MCode :=
 (.seq
  (.reg
   [MI.op (some 11) (.build [(.int .i64 0), (.str []), (.int .i64 0), (.int .u32 0), (.int .u32 0), (.int .u8 0), (.int .u8 0), (.int .u8 0), (.int .u8 0), (.int .u8 0), (.int .u8 0), (.int .u8 0), (.int .u8 0), (.int .u8 0), (.int .u8 0), (.int .u8 0), (.int .u8 0), (.int .u8 0), (.int .u8 0), (.int .u8 0), (.int .u8 0), (.int .u8 0), (.int .u8 0), (.int .u8 0), (.int .u8 0), (.int .u8 0), (.int .u8 0), (.int .u8 0), (.int .u8 0), (.int .u8 0), (.int .u8 0), (.int .u8 0), (.int .u8 0), (.int .u8 0), (.int .u8 0), (.int .u8 0), (.int .u8 0)] []) none,
    MI.op none (.store 37 (.tmp 2) (.tmp 11)) none,
    MI.op (some 3) (.mov (.c (.int .i64 11))) none])
  .ret)
def m26_2 : MCode :=
 (.cond (.tmp 10)
  m26_1
  .skip)
def m26_3 : List MI :=
 [MI.op (some 49) (.mov (.tmp 51)) none,
  MI.op (some 52) (.ext (.tmp 49) 0) none,
  MI.op (some 53) (.ext (.tmp 49) 1) none,
  MI.op (some 6) (.mov (.tmp 52)) none,
  MI.op (some 7) (.mov (.tmp 53)) none]
def m26_4 : MCode :=
 (.seq
  (.reg
   [MI.op (some 63) (.build [(.int .i64 0), (.str []), (.int .i64 0), (.int .u32 0), (.int .u32 0), (.int .u8 0), (.int .u8 0), (.int .u8 0), (.int .u8 0), (.int .u8 0), (.int .u8 0), (.int .u8 0), (.int .u8 0), (.int .u8 0), (.int .u8 0), (.int .u8 0), (.int .u8 0), (.int .u8 0), (.int .u8 0), (.int .u8 0), (.int .u8 0), (.int .u8 0), (.int .u8 0), (.int .u8 0), (.int .u8 0), (.int .u8 0), (.int .u8 0), (.int .u8 0), (.int .u8 0), (.int .u8 0), (.int .u8 0), (.int .u8 0), (.int .u8 0), (.int .u8 0), (.int .u8 0), (.int .u8 0), (.int .u8 0)] []) none,
    MI.op none (.store 37 (.tmp 2) (.tmp 63)) none,
    MI.op (some 3) (.mov (.c (.int .i64 11))) none])
  .ret)
def m26_5 : MCode :=
 (.cond (.tmp 62)
  m26_4
  .skip)
def m26_6 : MCode :=
 (.seq
  (.reg
   [MI.op (some 64) (.load true 37 (.tmp 5)) none,
    MI.op none (.store 37 (.tmp 2) (.tmp 64)) none,
    MI.op (some 3) (.mov (.c (.int .i64 0))) none])
  .ret)
def m26_7 : MCode :=
 (.seq
  (.seq
   (.reg
    [MI.op (some 54) (.mov (.tmp 7)) none,
     MI.op (some 55) (.bin .neq (.tmp 54) (.c (.int .i64 0))) none,
     MI.op (some 56) (.mov (.tmp 55)) none,
     MI.op (some 57) (.mov (.tmp 6)) (some (56, false)),
     MI.op (some 58) (.toStr (.tmp 57)) (some (56, false)),
     MI.op (some 59) (.mov (.tmp 0)) (some (56, false)),
     MI.op (some 60) (.toStr (.tmp 59)) (some (56, false)),
     MI.op (some 61) (.bin .neq (.tmp 58) (.tmp 60)) (some (56, false)),
     MI.op (some 62) (.pick (.tmp 56) (.c (.bool true)) (.tmp 61)) none])
  m26_5)
  m26_6)
def m26_8 : MCode :=
 (.seq
  (.reg
   (MI.op (some 50) (.load true 37 (.tmp 5)) none ::
    MI.op (some 51) (.call 19 [(.tmp 50)]) none ::
    m26_3))
  m26_7)
def m26_9 : MCode :=
 (.seq
  (.drw
   [MI.op (some 44) (.fa 5 (.tmp 5)) none,
    MI.op (some 45) (.slArr 32 1 (.tmp 44) none none none) none,
    MI.op (some 46) (.mov (.tmp 0)) none,
    MI.op (some 47) (.slSl 1 (.tmp 46) (some (.c (.int .i64 14))) none none) none]
   [MI.op (some 48) (.copy 1 (.tmp 45) (.tmp 47)) none])
  m26_8)
def m26_10 : MCode :=
 (.seq
  (.drw
   [MI.op (some 26) (.mov (.tmp 0)) none,
    MI.op (some 27) (.ixSl 1 (.tmp 26) (.c (.int .i64 0))) none,
    MI.op (some 28) (.load false 1 (.tmp 27)) none,
    MI.op (some 29) (.toInt .i64 (.tmp 28)) none,
    MI.op (some 30) (.fa 0 (.tmp 4)) none,
    MI.op (some 31) (.load false 1 (.tmp 30)) none,
    MI.op (some 32) (.mov (.tmp 0)) none,
    MI.op (some 33) (.ixSl 1 (.tmp 32) (.c (.int .i64 5))) none,
    MI.op (some 34) (.load false 1 (.tmp 33)) none,
    MI.op (some 35) (.toInt .i64 (.tmp 34)) none,
    MI.op (some 36) (.mov (.tmp 0)) none,
    MI.op (some 37) (.slSl 1 (.tmp 36) (some (.c (.int .i64 6))) (some (.c (.int .i64 10))) none) none,
    MI.op (some 38) (.call 36 [(.tmp 37)]) none,
    MI.op (some 39) (.mov (.tmp 0)) none,
    MI.op (some 40) (.slSl 1 (.tmp 39) (some (.c (.int .i64 10))) (some (.c (.int .i64 14))) none) none,
    MI.op (some 41) (.call 36 [(.tmp 40)]) none]
   [MI.op (some 42) (.build [(.int .i64 0), (.str []), (.int .i64 0), (.int .u32 0), (.int .u32 0)] [(0, 1, (.tmp 29)), (1, 1, (.tmp 31)), (2, 1, (.tmp 35)), (3, 1, (.tmp 38)), (4, 1, (.tmp 41))]) none,
    MI.op (some 43) (.fa 0 (.tmp 5)) none,
    MI.op none (.store 5 (.tmp 43) (.tmp 42)) none])
  m26_9)
def m26_11 : MCode :=
 (.seq
  (.reg
   [MI.op (some 5) (.alloc [(.int .i64 0), (.str []), (.int .i64 0), (.int .u32 0), (.int .u32 0), (.int .u8 0), (.int .u8 0), (.int .u8 0), (.int .u8 0), (.int .u8 0), (.int .u8 0), (.int .u8 0), (.int .u8 0), (.int .u8 0), (.int .u8 0), (.int .u8 0), (.int .u8 0), (.int .u8 0), (.int .u8 0), (.int .u8 0), (.int .u8 0), (.int .u8 0), (.int .u8 0), (.int .u8 0), (.int .u8 0), (.int .u8 0), (.int .u8 0), (.int .u8 0), (.int .u8 0), (.int .u8 0), (.int .u8 0), (.int .u8 0), (.int .u8 0), (.int .u8 0), (.int .u8 0), (.int .u8 0), (.int .u8 0)]) none])
  m26_10)
def m26_12 : MCode :=
 (.seq
  (.drw
   [MI.op (some 12) (.mov (.tmp 0)) none,
    MI.op (some 13) (.ixSl 1 (.tmp 12) (.c (.int .i64 1))) none,
    MI.op (some 14) (.load false 1 (.tmp 13)) none,
    MI.op (some 15) (.mov (.tmp 0)) none,
    MI.op (some 16) (.ixSl 1 (.tmp 15) (.c (.int .i64 2))) none,
    MI.op (some 17) (.load false 1 (.tmp 16)) none,
    MI.op (some 18) (.mov (.tmp 0)) none,
    MI.op (some 19) (.ixSl 1 (.tmp 18) (.c (.int .i64 3))) none,
    MI.op (some 20) (.load false 1 (.tmp 19)) none,
    MI.op (some 21) (.mov (.tmp 0)) none,
    MI.op (some 22) (.ixSl 1 (.tmp 21) (.c (.int .i64 4))) none,
    MI.op (some 23) (.load false 1 (.tmp 22)) none,
    MI.op (some 24) (.build [(.int .u8 0), (.int .u8 0), (.int .u8 0), (.int .u8 0)] [(0, 1, (.tmp 14)), (1, 1, (.tmp 17)), (2, 1, (.tmp 20)), (3, 1, (.tmp 23))]) none,
    MI.op (some 25) (.call 27 [(.tmp 24)]) none,
    MI.op (some 4) (.alloc [(.str []), (.bool false)]) none]
   [MI.op none (.store 2 (.tmp 4) (.tmp 25)) none])
  m26_11)
def m26_13 : MCode :=
 (.seq
  (.seq
   (.reg
    [MI.op (some 8) (.mov (.tmp 0)) none,
     MI.op (some 9) (.len (.tmp 8)) none,
     MI.op (some 10) (.bin .neq (.tmp 9) (.c (.int .i64 46))) none])
  m26_2)
  m26_12)
def m26_r : List MRes := [.cell 2 true 37, .tmp 3]
def m26_b : MCode :=
 (.seq
  (.reg
   [MI.op (some 2) (.alloc [(.int .i64 0), (.str []), (.int .i64 0), (.int .u32 0), (.int .u32 0), (.int .u8 0), (.int .u8 0), (.int .u8 0), (.int .u8 0), (.int .u8 0), (.int .u8 0), (.int .u8 0), (.int .u8 0), (.int .u8 0), (.int .u8 0), (.int .u8 0), (.int .u8 0), (.int .u8 0), (.int .u8 0), (.int .u8 0), (.int .u8 0), (.int .u8 0), (.int .u8 0), (.int .u8 0), (.int .u8 0), (.int .u8 0), (.int .u8 0), (.int .u8 0), (.int .u8 0), (.int .u8 0), (.int .u8 0), (.int .u8 0), (.int .u8 0), (.int .u8 0), (.int .u8 0), (.int .u8 0), (.int .u8 0)]) none,
    MI.op (some 3) (.mov (.c (.int .i64 0))) none])
  m26_13)
def m26 : MFunc := ⟨1, 65, m26_r, m26_b⟩
theorem c26 : compF Tryd.prog 26 m26 = some m26 := by kernel_rfl

/- tollhouse/tollhousekeep.Bytes -/
def m12_1 : MCode :=
 (.seq
  (.reg
   [MI.op (some 5) (.mov (.tmp 0)) none,
    MI.op (some 6) (.toStr (.tmp 5)) none,
    MI.op (some 7) (.mov (.tmp 1)) none,
    MI.op (some 8) (.toStr (.tmp 7)) none,
    MI.op (some 9) (.bin .eql (.tmp 6) (.tmp 8)) none,
    MI.op (some 4) (.mov (.tmp 9)) none])
  .ret)
def m12_r : List MRes := [.tmp 4]
def m12_b : MCode :=
 (.seq
  (.reg
   [MI.op (some 4) (.mov (.c (.bool false))) none])
  m12_1)
def m12 : MFunc := ⟨2, 10, m12_r, m12_b⟩
theorem c12 : compF Tryd.prog 12 m12 = some m12 := by kernel_rfl

/- slices.Concat[[]byte,byte] -/
def m18_1 : MCode :=
 (.cond (.tmp 20)
  (.reg
   [MI.op (some 21) (.bad) none,
    MI.op none (.bad) none])
  .skip)
def m18_2 : MCode :=
 (.seq
  (.reg
   [MI.op (some 19) (.mov (.tmp 3)) none,
    MI.op (some 20) (.bin .lss (.tmp 19) (.c (.int .i64 0))) none])
  m18_1)
def m18_3 : MCode :=
 (.seq
  (.reg
   [MI.op (some 15) (.mov (.tmp 3)) none,
    MI.op (some 16) (.mov (.tmp 5)) none,
    MI.op (some 17) (.len (.tmp 16)) none,
    MI.op (some 18) (.bin .add (.tmp 15) (.tmp 17)) none,
    MI.op (some 3) (.mov (.tmp 18)) none])
  m18_2)
def m18_4 : MCode :=
 (.seq
  (.blk 1
   (.seq
    (.reg
     [MI.op (some 13) (.ixSl 1 (.tmp 9) (.tmp 11)) none,
      MI.op (some 14) (.load false 1 (.tmp 13)) none,
      MI.op (some 5) (.mov (.tmp 14)) none])
  m18_3))
  (.reg
   [MI.op (some 22) (.bin .add (.tmp 11) (.c (.int .i64 1))) none,
    MI.op (some 11) (.mov (.tmp 22)) none]))
def m18_5 : MCode :=
 (.seq
  (.cond (.tmp 12)
   .skip
   (.exit 0))
  m18_4)
def m18_6 : MCode :=
 (.seq
  (.reg
   [MI.op (some 12) (.bin .lss (.tmp 11) (.tmp 10)) none])
  m18_5)
def m18_7 : MCode :=
 (.blk 0
  (.loop
  m18_6))
def m18_8 : MCode :=
 (.reg
  [MI.op (some 31) (.mov (.tmp 6)) none,
   MI.op (some 32) (.mov (.tmp 8)) none,
   MI.op (some 33) (.app 1 1 (.tmp 31) (.tmp 32)) none,
   MI.op (some 6) (.mov (.tmp 33)) none])
def m18_9 : MCode :=
 (.seq
  (.blk 3
   (.seq
    (.reg
     [MI.op (some 29) (.ixSl 1 (.tmp 25) (.tmp 27)) none,
      MI.op (some 30) (.load false 1 (.tmp 29)) none,
      MI.op (some 8) (.mov (.tmp 30)) none])
  m18_8))
  (.reg
   [MI.op (some 34) (.bin .add (.tmp 27) (.c (.int .i64 1))) none,
    MI.op (some 27) (.mov (.tmp 34)) none]))
def m18_10 : MCode :=
 (.seq
  (.cond (.tmp 28)
   .skip
   (.exit 2))
  m18_9)
def m18_11 : MCode :=
 (.seq
  (.reg
   [MI.op (some 28) (.bin .lss (.tmp 27) (.tmp 26)) none])
  m18_10)
def m18_12 : MCode :=
 (.blk 2
  (.loop
  m18_11))
def m18_13 : MCode :=
 (.seq
  (.reg
   [MI.op (some 35) (.mov (.tmp 6)) none,
    MI.op (some 2) (.mov (.tmp 35)) none])
  .ret)
def m18_14 : MCode :=
 (.seq
  (.seq
   (.reg
    [MI.op (some 25) (.mov (.tmp 0)) none,
     MI.op (some 26) (.len (.tmp 25)) none,
     MI.op (some 27) (.mov (.c (.int .i64 0))) none])
  m18_12)
  m18_13)
def m18_15 : MCode :=
 (.seq
  (.reg
   [MI.op (some 23) (.mov (.tmp 3)) none,
    MI.op (some 24) (.call 31 [(.c (.sl .full 0 [])), (.tmp 23)]) none,
    MI.op (some 6) (.mov (.tmp 24)) none])
  m18_14)
def m18_16 : MCode :=
 (.seq
  (.seq
   (.reg
    [MI.op (some 9) (.mov (.tmp 0)) none,
     MI.op (some 10) (.len (.tmp 9)) none,
     MI.op (some 11) (.mov (.c (.int .i64 0))) none])
  m18_7)
  m18_15)
def m18_17 : MCode :=
 (.seq
  (.reg
   [MI.op (some 3) (.mov (.c (.int .i64 0))) none])
  m18_16)
def m18_r : List MRes := [.tmp 2]
def m18_b : MCode :=
 (.seq
  (.reg
   [MI.op (some 2) (.mov (.c (.sl .full 0 []))) none])
  m18_17)
def m18 : MFunc := ⟨1, 36, m18_r, m18_b⟩
theorem c18 : compF Tryd.prog 18 m18 = some m18 := by kernel_rfl

/- tollhouse/token.four -/
def m37_1 : MCode :=
 (.seq
  (.reg
   [MI.op (some 3) (.mov (.tmp 0)) none,
    MI.op (some 4) (.toInt .u8 (.tmp 3)) none,
    MI.op (some 5) (.mov (.tmp 0)) none,
    MI.op (some 6) (.bin .shr (.tmp 5) (.c (.int .u64 8))) none,
    MI.op (some 7) (.toInt .u8 (.tmp 6)) none,
    MI.op (some 8) (.mov (.tmp 0)) none,
    MI.op (some 9) (.bin .shr (.tmp 8) (.c (.int .u64 16))) none,
    MI.op (some 10) (.toInt .u8 (.tmp 9)) none,
    MI.op (some 11) (.mov (.tmp 0)) none,
    MI.op (some 12) (.bin .shr (.tmp 11) (.c (.int .u64 24))) none,
    MI.op (some 13) (.toInt .u8 (.tmp 12)) none,
    MI.op (some 14) (.bsl 4 1 [(.int .u8 0)] [(0, 1, (.tmp 4)), (1, 1, (.tmp 7)), (2, 1, (.tmp 10)), (3, 1, (.tmp 13))]) none,
    MI.op (some 2) (.mov (.tmp 14)) none])
  .ret)
def m37_r : List MRes := [.tmp 2]
def m37_b : MCode :=
 (.seq
  (.reg
   [MI.op (some 2) (.mov (.c (.sl .full 0 []))) none])
  m37_1)
def m37 : MFunc := ⟨1, 15, m37_r, m37_b⟩
theorem c37 : compF Tryd.prog 37 m37 = some m37 := by kernel_rfl

/- tollhouse/tollhouseref06.Put -/
def m45_1 : MCode :=
 (.seq
  (.blk 1
   (.reg
    [MI.op (some 12) (.mov (.tmp 5)) none,
     MI.op (some 13) (.mov (.tmp 0)) none,
     MI.op (some 14) (.mov (.tmp 6)) none,
     MI.op (some 15) (.bin .mul (.c (.int .i64 8)) (.tmp 14)) none,
     MI.op (some 16) (.toInt .u64 (.tmp 15)) none,
     MI.op (some 17) (.bin .shr (.tmp 13) (.tmp 16)) none,
     MI.op (some 18) (.toInt .u8 (.tmp 17)) none,
     MI.op (some 19) (.bsl 1 1 [(.int .u8 0)] [(0, 1, (.tmp 18))]) none,
     MI.op (some 20) (.app 1 1 (.tmp 12) (.tmp 19)) none,
     MI.op (some 5) (.mov (.tmp 20)) none]))
  (.reg
   [MI.op (some 10) (.mov (.tmp 6)) none,
    MI.op (some 11) (.bin .add (.tmp 10) (.c (.int .i64 1))) none,
    MI.op (some 6) (.mov (.tmp 11)) none]))
def m45_2 : MCode :=
 (.seq
  (.seq
   (.reg
    [MI.op (some 7) (.mov (.tmp 6)) none,
     MI.op (some 8) (.mov (.tmp 1)) none,
     MI.op (some 9) (.bin .lss (.tmp 7) (.tmp 8)) none])
   (.cond (.tmp 9)
    .skip
    (.exit 0)))
  m45_1)
def m45_3 : MCode :=
 (.blk 0
  (.loop
  m45_2))
def m45_4 : MCode :=
 (.seq
  (.reg
   [MI.op (some 21) (.mov (.tmp 5)) none,
    MI.op (some 4) (.mov (.tmp 21)) none])
  .ret)
def m45_5 : MCode :=
 (.seq
  (.seq
   (.reg
    [MI.op (some 6) (.mov (.c (.int .i64 0))) none])
  m45_3)
  m45_4)
def m45_6 : MCode :=
 (.seq
  (.reg
   [MI.op (some 5) (.mov (.c (.sl .full 0 []))) none])
  m45_5)
def m45_r : List MRes := [.tmp 4]
def m45_b : MCode :=
 (.seq
  (.reg
   [MI.op (some 4) (.mov (.c (.sl .full 0 []))) none])
  m45_6)
def m45 : MFunc := ⟨2, 22, m45_r, m45_b⟩
theorem c45 : compF Tryd.prog 45 m45 = some m45 := by kernel_rfl

/- tollhouse/token.number -/
def m34_1 : MCode :=
 (.seq
  (.drw
   [MI.op (some 3) (.mov (.tmp 0)) none,
    MI.op (some 4) (.ixSl 1 (.tmp 3) (.c (.int .i64 0))) none,
    MI.op (some 5) (.load false 1 (.tmp 4)) none,
    MI.op (some 6) (.toInt .u32 (.tmp 5)) none,
    MI.op (some 7) (.mov (.tmp 0)) none,
    MI.op (some 8) (.ixSl 1 (.tmp 7) (.c (.int .i64 1))) none,
    MI.op (some 9) (.load false 1 (.tmp 8)) none,
    MI.op (some 10) (.toInt .u32 (.tmp 9)) none,
    MI.op (some 11) (.bin .shl (.tmp 10) (.c (.int .u64 8))) none,
    MI.op (some 12) (.bin .or (.tmp 6) (.tmp 11)) none,
    MI.op (some 13) (.mov (.tmp 0)) none,
    MI.op (some 14) (.ixSl 1 (.tmp 13) (.c (.int .i64 2))) none,
    MI.op (some 15) (.load false 1 (.tmp 14)) none,
    MI.op (some 16) (.toInt .u32 (.tmp 15)) none,
    MI.op (some 17) (.bin .shl (.tmp 16) (.c (.int .u64 16))) none,
    MI.op (some 18) (.bin .or (.tmp 12) (.tmp 17)) none,
    MI.op (some 19) (.mov (.tmp 0)) none,
    MI.op (some 20) (.ixSl 1 (.tmp 19) (.c (.int .i64 3))) none,
    MI.op (some 21) (.load false 1 (.tmp 20)) none,
    MI.op (some 22) (.toInt .u32 (.tmp 21)) none,
    MI.op (some 23) (.bin .shl (.tmp 22) (.c (.int .u64 24))) none]
   [MI.op (some 24) (.bin .or (.tmp 18) (.tmp 23)) none,
    MI.op (some 2) (.mov (.tmp 24)) none])
  .ret)
def m34_r : List MRes := [.tmp 2]
def m34_b : MCode :=
 (.seq
  (.reg
   [MI.op (some 2) (.mov (.c (.int .u32 0))) none])
  m34_1)
def m34 : MFunc := ⟨1, 25, m34_r, m34_b⟩
theorem c34 : compF Tryd.prog 34 m34 = some m34 := by kernel_rfl

/- slices.Equal[[]byte,byte] -/
def m25_1 : MCode :=
 (.cond (.tmp 10)
  (.seq
   (.reg
    [MI.op (some 4) (.mov (.c (.bool false))) none])
   .ret)
  .skip)
def m25_2 : MCode :=
 (.cond (.tmp 24)
  (.seq
   (.reg
    [MI.op (some 4) (.mov (.c (.bool false))) none])
   .ret)
  .skip)
def m25_3 : MCode :=
 (.seq
  (.drw
   [MI.op (some 16) (.mov (.tmp 0)) none,
    MI.op (some 17) (.mov (.tmp 5)) none,
    MI.op (some 18) (.ixSl 1 (.tmp 16) (.tmp 17)) none,
    MI.op (some 19) (.load false 1 (.tmp 18)) none,
    MI.op (some 20) (.mov (.tmp 1)) none,
    MI.op (some 21) (.mov (.tmp 5)) none,
    MI.op (some 22) (.ixSl 1 (.tmp 20) (.tmp 21)) none,
    MI.op (some 23) (.load false 1 (.tmp 22)) none]
   [MI.op (some 24) (.bin .neq (.tmp 19) (.tmp 23)) none])
  m25_2)
def m25_4 : MCode :=
 (.seq
  (.blk 1
   (.seq
    (.reg
     [MI.op (some 15) (.mov (.tmp 13)) none,
      MI.op (some 5) (.mov (.tmp 15)) none])
  m25_3))
  (.reg
   [MI.op (some 25) (.bin .add (.tmp 13) (.c (.int .i64 1))) none,
    MI.op (some 13) (.mov (.tmp 25)) none]))
def m25_5 : MCode :=
 (.seq
  (.cond (.tmp 14)
   .skip
   (.exit 0))
  m25_4)
def m25_6 : MCode :=
 (.seq
  (.reg
   [MI.op (some 14) (.bin .lss (.tmp 13) (.tmp 12)) none])
  m25_5)
def m25_7 : MCode :=
 (.blk 0
  (.loop
  m25_6))
def m25_8 : MCode :=
 (.seq
  (.seq
   (.reg
    [MI.op (some 11) (.mov (.tmp 0)) none,
     MI.op (some 12) (.len (.tmp 11)) none,
     MI.op (some 13) (.mov (.c (.int .i64 0))) none])
  m25_7)
  (.seq
   (.reg
    [MI.op (some 4) (.mov (.c (.bool true))) none])
   .ret))
def m25_9 : MCode :=
 (.seq
  (.seq
   (.reg
    [MI.op (some 6) (.mov (.tmp 0)) none,
     MI.op (some 7) (.len (.tmp 6)) none,
     MI.op (some 8) (.mov (.tmp 1)) none,
     MI.op (some 9) (.len (.tmp 8)) none,
     MI.op (some 10) (.bin .neq (.tmp 7) (.tmp 9)) none])
  m25_1)
  m25_8)
def m25_r : List MRes := [.tmp 4]
def m25_b : MCode :=
 (.seq
  (.reg
   [MI.op (some 4) (.mov (.c (.bool false))) none])
  m25_9)
def m25 : MFunc := ⟨2, 26, m25_r, m25_b⟩
theorem c25 : compF Tryd.prog 25 m25 = some m25 := by kernel_rfl

/- tollhouse/tollhouseref06.Num -/
def m36_1 : MCode :=
 (.seq
  (.blk 1
   (.reg
    [MI.op (some 12) (.mov (.tmp 3)) none,
     MI.op (some 13) (.bin .shl (.tmp 12) (.c (.int .u64 8))) none,
     MI.op (some 14) (.mov (.tmp 0)) none,
     MI.op (some 15) (.mov (.tmp 4)) none,
     MI.op (some 16) (.ixSl 1 (.tmp 14) (.tmp 15)) none,
     MI.op (some 17) (.load false 1 (.tmp 16)) none,
     MI.op (some 18) (.toInt .u32 (.tmp 17)) none,
     MI.op (some 19) (.bin .add (.tmp 13) (.tmp 18)) none,
     MI.op (some 3) (.mov (.tmp 19)) none]))
  (.reg
   [MI.op (some 10) (.mov (.tmp 4)) none,
    MI.op (some 11) (.bin .sub (.tmp 10) (.c (.int .i64 1))) none,
    MI.op (some 4) (.mov (.tmp 11)) none]))
def m36_2 : MCode :=
 (.seq
  (.seq
   (.reg
    [MI.op (some 8) (.mov (.tmp 4)) none,
     MI.op (some 9) (.bin .geq (.tmp 8) (.c (.int .i64 0))) none])
   (.cond (.tmp 9)
    .skip
    (.exit 0)))
  m36_1)
def m36_3 : MCode :=
 (.blk 0
  (.loop
  m36_2))
def m36_4 : MCode :=
 (.seq
  (.reg
   [MI.op (some 20) (.mov (.tmp 3)) none,
    MI.op (some 2) (.mov (.tmp 20)) none])
  .ret)
def m36_5 : MCode :=
 (.seq
  (.seq
   (.reg
    [MI.op (some 5) (.mov (.tmp 0)) none,
     MI.op (some 6) (.len (.tmp 5)) none,
     MI.op (some 7) (.bin .sub (.tmp 6) (.c (.int .i64 1))) none,
     MI.op (some 4) (.mov (.tmp 7)) none])
  m36_3)
  m36_4)
def m36_6 : MCode :=
 (.seq
  (.reg
   [MI.op (some 3) (.mov (.c (.int .u32 0))) none])
  m36_5)
def m36_r : List MRes := [.tmp 2]
def m36_b : MCode :=
 (.seq
  (.reg
   [MI.op (some 2) (.mov (.c (.int .u32 0))) none])
  m36_6)
def m36 : MFunc := ⟨1, 21, m36_r, m36_b⟩
theorem c36 : compF Tryd.prog 36 m36 = some m36 := by kernel_rfl

/- slices.Grow[[]byte,byte] -/
def m31_1 : MCode :=
 (.cond (.tmp 6)
  (.reg
   [MI.op (some 7) (.bad) none,
    MI.op none (.bad) none])
  .skip)
def m31_2 : MCode :=
 (.reg
  [MI.op (some 17) (.mov (.tmp 0)) none,
   MI.op (some 18) (.mov (.tmp 0)) none,
   MI.op (some 19) (.cap (.tmp 18)) none,
   MI.op (some 20) (.slSl 1 (.tmp 17) none (some (.tmp 19)) none) none,
   MI.op (some 21) (.mov (.tmp 1)) none,
   MI.op (some 22) (.appZ 1 1 [(.int .u8 0)] (.tmp 20) (.tmp 21)) none,
   MI.op (some 23) (.mov (.tmp 0)) none,
   MI.op (some 24) (.len (.tmp 23)) none,
   MI.op (some 25) (.slSl 1 (.tmp 22) none (some (.tmp 24)) none) none,
   MI.op (some 0) (.mov (.tmp 25)) none])
def m31_3 : MCode :=
 (.cond (.tmp 16)
  m31_2
  .skip)
def m31_4 : MCode :=
 (.seq
  (.reg
   [MI.op (some 15) (.mov (.tmp 1)) none,
    MI.op (some 16) (.bin .gtr (.tmp 15) (.c (.int .i64 0))) none])
  m31_3)
def m31_5 : MCode :=
 (.seq
  (.reg
   [MI.op (some 26) (.mov (.tmp 0)) none,
    MI.op (some 4) (.mov (.tmp 26)) none])
  .ret)
def m31_6 : MCode :=
 (.seq
  (.seq
   (.reg
    [MI.op (some 8) (.mov (.tmp 1)) none,
     MI.op (some 9) (.mov (.tmp 0)) none,
     MI.op (some 10) (.cap (.tmp 9)) none,
     MI.op (some 11) (.mov (.tmp 0)) none,
     MI.op (some 12) (.len (.tmp 11)) none,
     MI.op (some 13) (.bin .sub (.tmp 10) (.tmp 12)) none,
     MI.op (some 14) (.bin .sub (.tmp 8) (.tmp 13)) none,
     MI.op (some 1) (.mov (.tmp 14)) none])
  m31_4)
  m31_5)
def m31_7 : MCode :=
 (.seq
  (.seq
   (.reg
    [MI.op (some 5) (.mov (.tmp 1)) none,
     MI.op (some 6) (.bin .lss (.tmp 5) (.c (.int .i64 0))) none])
  m31_1)
  m31_6)
def m31_r : List MRes := [.tmp 4]
def m31_b : MCode :=
 (.seq
  (.reg
   [MI.op (some 4) (.mov (.c (.sl .full 0 []))) none])
  m31_7)
def m31 : MFunc := ⟨2, 27, m31_r, m31_b⟩
theorem c31 : compF Tryd.prog 31 m31 = some m31 := by kernel_rfl

end Go.Proofs.YtfllhbjblkfdfaaDoor
