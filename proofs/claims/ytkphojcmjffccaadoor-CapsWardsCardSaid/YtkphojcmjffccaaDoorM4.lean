/- The loaded functions as texts of the ideal machine (written by a program of ours), and that they are the loaded ones. -/
import Derived.Test.YtkphojcmjffccaaDoorE31
import Derived.Test.YtkphojcmjffccaaDoorProg
set_option linter.unusedVariables false
namespace Go.Proofs.YtkphojcmjffccaaDoor
open Go.RowKit

/- tollhouse/token.Claim -/
def m14_1 : List MI :=
 [MI.op (some 22) (.un .not (.tmp 21)) (some (17, true)),
  MI.op (some 23) (.pick (.tmp 17) (.tmp 22) (.c (.bool false))) (some (13, false)),
  MI.op (some 24) (.pick (.tmp 13) (.c (.bool true)) (.tmp 23)) none,
  MI.op (some 25) (.mov (.tmp 24)) none,
  MI.op (some 26) (.fa 2 (.tmp 1)) (some (25, false)),
  MI.op (some 27) (.load false 1 (.tmp 26)) (some (25, false)),
  MI.op (some 28) (.bin .lss (.tmp 27) (.c (.int .i64 1))) (some (25, false)),
  MI.op (some 29) (.pick (.tmp 25) (.c (.bool true)) (.tmp 28)) none,
  MI.op (some 30) (.mov (.tmp 29)) none,
  MI.op (some 31) (.fa 2 (.tmp 1)) (some (30, false)),
  MI.op (some 32) (.load false 1 (.tmp 31)) (some (30, false)),
  MI.op (some 33) (.bin .gtr (.tmp 32) (.c (.int .i64 3))) (some (30, false)),
  MI.op (some 34) (.pick (.tmp 30) (.c (.bool true)) (.tmp 33)) none]
def m14_2 : MCode :=
 (.seq
  (.reg
   [MI.op (some 2) (.mov (.c (.sl .full 0 []))) none,
    MI.op (some 3) (.mov (.c (.int .i64 11))) none])
  .ret)
def m14_3 : MCode :=
 (.cond (.tmp 34)
  m14_2
  .skip)
def m14_4 : List MI :=
 [MI.op (some 4) (.alloc [(.int .u8 0), (.int .u8 0), (.int .u8 0), (.int .u8 0)]) none,
  MI.op none (.store 4 (.tmp 4) (.tmp 37)) none]
def m14_5 : MCode :=
 (.seq
  (.drw
   [MI.op (some 38) (.fa 0 (.tmp 1)) none,
    MI.op (some 39) (.load false 1 (.tmp 38)) none,
    MI.op (some 40) (.toInt .u8 (.tmp 39)) none,
    MI.op (some 41) (.bsl 1 1 [(.int .u8 0)] [(0, 1, (.tmp 40))]) none,
    MI.op (some 42) (.slArr 4 1 (.tmp 4) none none none) none,
    MI.op (some 43) (.fa 2 (.tmp 1)) none,
    MI.op (some 44) (.load false 1 (.tmp 43)) none,
    MI.op (some 45) (.toInt .u8 (.tmp 44)) none,
    MI.op (some 46) (.bsl 1 1 [(.int .u8 0)] [(0, 1, (.tmp 45))]) none,
    MI.op (some 47) (.fa 3 (.tmp 1)) none,
    MI.op (some 48) (.load false 1 (.tmp 47)) none,
    MI.op (some 49) (.call 22 [(.tmp 48)]) none,
    MI.op (some 50) (.fa 4 (.tmp 1)) none,
    MI.op (some 51) (.load false 1 (.tmp 50)) none,
    MI.op (some 52) (.call 22 [(.tmp 51)]) none]
   [MI.op (some 53) (.bslR 5 1 [(.sl .full 0 [])] [(0, 1, (.tmp 41)), (1, 1, (.tmp 42)), (2, 1, (.tmp 46)), (3, 1, (.tmp 49)), (4, 1, (.tmp 52))]) none,
    MI.op (some 54) (.call 21 [(.tmp 53)]) none,
    MI.op (some 2) (.mov (.tmp 54)) none,
    MI.op (some 3) (.mov (.c (.int .i64 0))) none])
  .ret)
def m14_6 : MCode :=
 (.seq
  (.reg
   (MI.op (some 35) (.fa 1 (.tmp 1)) none ::
    MI.op (some 36) (.load false 1 (.tmp 35)) none ::
    MI.op (some 37) (.call 20 [(.tmp 36)]) none ::
    m14_4))
  m14_5)
def m14_7 : MCode :=
 (.seq
  (.seq
   (.reg
    (MI.op (some 5) (.fa 0 (.tmp 1)) none ::
     MI.op (some 6) (.load false 1 (.tmp 5)) none ::
     MI.op (some 7) (.bin .lss (.tmp 6) (.c (.int .i64 0))) none ::
     MI.op (some 8) (.mov (.tmp 7)) none ::
     MI.op (some 9) (.fa 0 (.tmp 1)) (some (8, false)) ::
     MI.op (some 10) (.load false 1 (.tmp 9)) (some (8, false)) ::
     MI.op (some 11) (.bin .geq (.tmp 10) (.c (.int .i64 4))) (some (8, false)) ::
     MI.op (some 12) (.pick (.tmp 8) (.c (.bool true)) (.tmp 11)) none ::
     MI.op (some 13) (.mov (.tmp 12)) none ::
     MI.op (some 14) (.fa 1 (.tmp 1)) (some (13, false)) ::
     MI.op (some 15) (.load false 1 (.tmp 14)) (some (13, false)) ::
     MI.op (some 16) (.bin .neq (.tmp 15) (.c (.str []))) (some (13, false)) ::
     MI.op (some 17) (.mov (.tmp 16)) (some (13, false)) ::
     MI.op (some 18) (.fa 1 (.tmp 1)) (some (17, true)) ::
     MI.op (some 19) (.load false 1 (.tmp 18)) (some (17, true)) ::
     MI.op (some 20) (.bsl 1 1 [(.str [])] [(0, 1, (.tmp 19))]) (some (17, true)) ::
     MI.op (some 21) (.call 19 [(.tmp 20)]) (some (17, true)) ::
     m14_1))
  m14_3)
  m14_6)
def m14_r : List MRes := [.tmp 2, .tmp 3]
def m14_b : MCode :=
 (.seq
  (.reg
   [MI.op (some 1) (.box (.tmp 0)) none,
    MI.op (some 2) (.mov (.c (.sl .full 0 []))) none,
    MI.op (some 3) (.mov (.c (.int .i64 0))) none])
  m14_7)
def m14 : MFunc := ⟨1, 55, m14_r, m14_b⟩
theorem c14 : compF Tryd.prog 14 m14 = some m14 := by kernel_rfl

/- tollhouse/tollhouseref14.Claim -/
def m16_1 : List MI :=
 [MI.op (some 23) (.un .not (.tmp 22)) (some (18, true)),
  MI.op (some 24) (.pick (.tmp 18) (.tmp 23) (.c (.bool false))) (some (14, false)),
  MI.op (some 25) (.pick (.tmp 14) (.c (.bool true)) (.tmp 24)) none,
  MI.op (some 26) (.mov (.tmp 25)) none,
  MI.op (some 27) (.fa 2 (.tmp 1)) (some (26, false)),
  MI.op (some 28) (.load false 1 (.tmp 27)) (some (26, false)),
  MI.op (some 29) (.bin .lss (.tmp 28) (.c (.int .i64 1))) (some (26, false)),
  MI.op (some 30) (.pick (.tmp 26) (.c (.bool true)) (.tmp 29)) none,
  MI.op (some 31) (.mov (.tmp 30)) none,
  MI.op (some 32) (.fa 2 (.tmp 1)) (some (31, false)),
  MI.op (some 33) (.load false 1 (.tmp 32)) (some (31, false)),
  MI.op (some 34) (.bin .gtr (.tmp 33) (.c (.int .i64 3))) (some (31, false)),
  MI.op (some 35) (.pick (.tmp 31) (.c (.bool true)) (.tmp 34)) none]
def m16_2 : MCode :=
 (.seq
  (.reg
   [MI.op (some 2) (.mov (.c (.sl .full 0 []))) none,
    MI.op (some 3) (.mov (.c (.int .i64 11))) none])
  .ret)
def m16_3 : MCode :=
 (.cond (.tmp 35)
  m16_2
  .skip)
def m16_4 : List MI :=
 [MI.op (some 4) (.alloc [(.int .u8 0), (.int .u8 0), (.int .u8 0), (.int .u8 0)]) none,
  MI.op none (.store 4 (.tmp 4) (.tmp 38)) none]
def m16_5 : List MI :=
 [MI.op (some 59) (.app 1 1 (.tmp 55) (.tmp 58)) none,
  MI.op (some 2) (.mov (.tmp 59)) none,
  MI.op (some 3) (.mov (.c (.int .i64 0))) none]
def m16_6 : MCode :=
 (.seq
  (.reg
   (MI.op (some 55) (.mov (.tmp 5)) none ::
    MI.op (some 56) (.fa 4 (.tmp 1)) none ::
    MI.op (some 57) (.load false 1 (.tmp 56)) none ::
    MI.op (some 58) (.call 30 [(.tmp 57), (.c (.int .i64 4))]) none ::
    m16_5))
  .ret)
def m16_7 : MCode :=
 (.seq
  (.drc
   [MI.op (some 45) (.mov (.tmp 5)) none,
    MI.op (some 46) (.fa 2 (.tmp 1)) none,
    MI.op (some 47) (.load false 1 (.tmp 46)) none,
    MI.op (some 48) (.toInt .u8 (.tmp 47)) none,
    MI.op (some 49) (.bsl 1 1 [(.int .u8 0)] [(0, 1, (.tmp 48))]) none]
   (MI.op (some 50) (.app 1 1 (.tmp 45) (.tmp 49)) none)
   [MI.op (some 51) (.fa 3 (.tmp 1)) none,
    MI.op (some 52) (.load false 1 (.tmp 51)) none]
   [MI.op (some 53) (.call 30 [(.tmp 52), (.c (.int .i64 4))]) none,
    MI.op (some 54) (.app 1 1 (.tmp 50) (.tmp 53)) none,
    MI.op (some 5) (.mov (.tmp 54)) none])
  m16_6)
def m16_8 : MCode :=
 (.seq
  (.drw
   [MI.op (some 39) (.fa 0 (.tmp 1)) none,
    MI.op (some 40) (.load false 1 (.tmp 39)) none,
    MI.op (some 41) (.toInt .u8 (.tmp 40)) none,
    MI.op (some 42) (.bsl 1 1 [(.int .u8 0)] [(0, 1, (.tmp 41))]) none,
    MI.op (some 43) (.slArr 4 1 (.tmp 4) none none none) none]
   [MI.op (some 44) (.app 1 1 (.tmp 42) (.tmp 43)) none,
    MI.op (some 5) (.mov (.tmp 44)) none])
  m16_7)
def m16_9 : MCode :=
 (.seq
  (.reg
   (MI.op (some 36) (.fa 1 (.tmp 1)) none ::
    MI.op (some 37) (.load false 1 (.tmp 36)) none ::
    MI.op (some 38) (.call 29 [(.tmp 37)]) none ::
    m16_4))
  m16_8)
def m16_10 : MCode :=
 (.seq
  (.seq
   (.reg
    (MI.op (some 6) (.fa 0 (.tmp 1)) none ::
     MI.op (some 7) (.load false 1 (.tmp 6)) none ::
     MI.op (some 8) (.bin .lss (.tmp 7) (.c (.int .i64 0))) none ::
     MI.op (some 9) (.mov (.tmp 8)) none ::
     MI.op (some 10) (.fa 0 (.tmp 1)) (some (9, false)) ::
     MI.op (some 11) (.load false 1 (.tmp 10)) (some (9, false)) ::
     MI.op (some 12) (.bin .gtr (.tmp 11) (.c (.int .i64 3))) (some (9, false)) ::
     MI.op (some 13) (.pick (.tmp 9) (.c (.bool true)) (.tmp 12)) none ::
     MI.op (some 14) (.mov (.tmp 13)) none ::
     MI.op (some 15) (.fa 1 (.tmp 1)) (some (14, false)) ::
     MI.op (some 16) (.load false 1 (.tmp 15)) (some (14, false)) ::
     MI.op (some 17) (.bin .neq (.tmp 16) (.c (.str []))) (some (14, false)) ::
     MI.op (some 18) (.mov (.tmp 17)) (some (14, false)) ::
     MI.op (some 19) (.fa 1 (.tmp 1)) (some (18, true)) ::
     MI.op (some 20) (.load false 1 (.tmp 19)) (some (18, true)) ::
     MI.op (some 21) (.bsl 1 1 [(.str [])] [(0, 1, (.tmp 20))]) (some (18, true)) ::
     MI.op (some 22) (.call 28 [(.tmp 21)]) (some (18, true)) ::
     m16_1))
  m16_3)
  m16_9)
def m16_r : List MRes := [.tmp 2, .tmp 3]
def m16_b : MCode :=
 (.seq
  (.reg
   [MI.op (some 1) (.box (.tmp 0)) none,
    MI.op (some 2) (.mov (.c (.sl .full 0 []))) none,
    MI.op (some 3) (.mov (.c (.int .i64 0))) none])
  m16_10)
def m16 : MFunc := ⟨1, 60, m16_r, m16_b⟩
theorem c16 : compF Tryd.prog 16 m16 = some m16 := by kernel_rfl

/- tollhouse/token.four -/
def m22_1 : MCode :=
 (.seq
  (.reg
   [MI.op (some 3) (.mov (.tmp 0)) none,
    MI.op (some 4) (.toInt .u8 (.tmp 3)) none,
    MI.op (some 5) (.mov (.tmp 0)) none,
    MI.op (some 6) (.bin .shr (.tmp 5) (.c (.int .u64 8))) none,
    MI.op (some 7) (.toInt .u8 (.tmp 6)) none,
    MI.op (some 8) (.mov (.tmp 0)) none,
    MI.op (some 9) (.bin .shr (.tmp 8) (.c (.int .u64 16))) none,
    MI.op (some 10) (.toInt .u8 (.tmp 9)) none,
    MI.op (some 11) (.mov (.tmp 0)) none,
    MI.op (some 12) (.bin .shr (.tmp 11) (.c (.int .u64 24))) none,
    MI.op (some 13) (.toInt .u8 (.tmp 12)) none,
    MI.op (some 14) (.bsl 4 1 [(.int .u8 0)] [(0, 1, (.tmp 4)), (1, 1, (.tmp 7)), (2, 1, (.tmp 10)), (3, 1, (.tmp 13))]) none,
    MI.op (some 2) (.mov (.tmp 14)) none])
  .ret)
def m22_r : List MRes := [.tmp 2]
def m22_b : MCode :=
 (.seq
  (.reg
   [MI.op (some 2) (.mov (.c (.sl .full 0 []))) none])
  m22_1)
def m22 : MFunc := ⟨1, 15, m22_r, m22_b⟩
theorem c22 : compF Tryd.prog 22 m22 = some m22 := by kernel_rfl

/- tollhouse/tollhouseref06.Put -/
def m30_1 : MCode :=
 (.seq
  (.blk 1
   (.reg
    [MI.op (some 12) (.mov (.tmp 5)) none,
     MI.op (some 13) (.mov (.tmp 0)) none,
     MI.op (some 14) (.mov (.tmp 6)) none,
     MI.op (some 15) (.bin .mul (.c (.int .i64 8)) (.tmp 14)) none,
     MI.op (some 16) (.toInt .u64 (.tmp 15)) none,
     MI.op (some 17) (.bin .shr (.tmp 13) (.tmp 16)) none,
     MI.op (some 18) (.toInt .u8 (.tmp 17)) none,
     MI.op (some 19) (.bsl 1 1 [(.int .u8 0)] [(0, 1, (.tmp 18))]) none,
     MI.op (some 20) (.app 1 1 (.tmp 12) (.tmp 19)) none,
     MI.op (some 5) (.mov (.tmp 20)) none]))
  (.reg
   [MI.op (some 10) (.mov (.tmp 6)) none,
    MI.op (some 11) (.bin .add (.tmp 10) (.c (.int .i64 1))) none,
    MI.op (some 6) (.mov (.tmp 11)) none]))
def m30_2 : MCode :=
 (.seq
  (.seq
   (.reg
    [MI.op (some 7) (.mov (.tmp 6)) none,
     MI.op (some 8) (.mov (.tmp 1)) none,
     MI.op (some 9) (.bin .lss (.tmp 7) (.tmp 8)) none])
   (.cond (.tmp 9)
    .skip
    (.exit 0)))
  m30_1)
def m30_3 : MCode :=
 (.blk 0
  (.loop
  m30_2))
def m30_4 : MCode :=
 (.seq
  (.reg
   [MI.op (some 21) (.mov (.tmp 5)) none,
    MI.op (some 4) (.mov (.tmp 21)) none])
  .ret)
def m30_5 : MCode :=
 (.seq
  (.seq
   (.reg
    [MI.op (some 6) (.mov (.c (.int .i64 0))) none])
  m30_3)
  m30_4)
def m30_6 : MCode :=
 (.seq
  (.reg
   [MI.op (some 5) (.mov (.c (.sl .full 0 []))) none])
  m30_5)
def m30_r : List MRes := [.tmp 4]
def m30_b : MCode :=
 (.seq
  (.reg
   [MI.op (some 4) (.mov (.c (.sl .full 0 []))) none])
  m30_6)
def m30 : MFunc := ⟨2, 22, m30_r, m30_b⟩
theorem c30 : compF Tryd.prog 30 m30 = some m30 := by kernel_rfl

end Go.Proofs.YtkphojcmjffccaaDoor
/- The loaded functions as texts of the ideal machine (written by a program of ours), and that they are the loaded ones. -/
set_option linter.unusedVariables false
namespace Go.Proofs.YtkphojcmjffccaaDoor
open Go.RowKit

/- tollhouse/names.Good -/
def m19_1 : List MI :=
 [MI.op (some 21) (.bin .neq (.tmp 20) (.c (.str []))) (some (18, false)),
  MI.op (some 22) (.pick (.tmp 18) (.c (.bool true)) (.tmp 21)) none]
def m19_2 : MCode :=
 (.cond (.tmp 22)
  (.seq
   (.reg
    [MI.op (some 2) (.mov (.c (.bool false))) none])
   .ret)
  .skip)
def m19_3 : MCode :=
 (.seq
  (.reg
   (MI.op (some 11) (.mov (.tmp 4)) none ::
    MI.op (some 12) (.bin .eql (.tmp 11) (.c (.str []))) none ::
    MI.op (some 13) (.mov (.tmp 12)) none ::
    MI.op (some 14) (.mov (.tmp 4)) (some (13, false)) ::
    MI.op (some 15) (.lenS (.tmp 14)) (some (13, false)) ::
    MI.op (some 16) (.bin .gtr (.tmp 15) (.c (.int .i64 4))) (some (13, false)) ::
    MI.op (some 17) (.pick (.tmp 13) (.c (.bool true)) (.tmp 16)) none ::
    MI.op (some 18) (.mov (.tmp 17)) none ::
    MI.op (some 19) (.mov (.tmp 4)) (some (18, false)) ::
    MI.op (some 20) (.call 33 [(.tmp 19), (.c (.str [97, 98, 99, 100, 101, 102, 103, 104, 105, 106, 107, 108, 109, 110, 111, 112, 113, 114, 115, 116, 117, 118, 119, 120, 121, 122]))]) (some (18, false)) ::
    m19_1))
  m19_2)
def m19_4 : MCode :=
 (.seq
  (.blk 1
   (.seq
    (.reg
     [MI.op (some 9) (.ixSl 1 (.tmp 5) (.tmp 7)) none,
      MI.op (some 10) (.load false 1 (.tmp 9)) none,
      MI.op (some 4) (.mov (.tmp 10)) none])
  m19_3))
  (.reg
   [MI.op (some 23) (.bin .add (.tmp 7) (.c (.int .i64 1))) none,
    MI.op (some 7) (.mov (.tmp 23)) none]))
def m19_5 : MCode :=
 (.seq
  (.cond (.tmp 8)
   .skip
   (.exit 0))
  m19_4)
def m19_6 : MCode :=
 (.seq
  (.reg
   [MI.op (some 8) (.bin .lss (.tmp 7) (.tmp 6)) none])
  m19_5)
def m19_7 : MCode :=
 (.blk 0
  (.loop
  m19_6))
def m19_8 : MCode :=
 (.seq
  (.seq
   (.reg
    [MI.op (some 5) (.mov (.tmp 0)) none,
     MI.op (some 6) (.len (.tmp 5)) none,
     MI.op (some 7) (.mov (.c (.int .i64 0))) none])
  m19_7)
  (.seq
   (.reg
    [MI.op (some 2) (.mov (.c (.bool true))) none])
   .ret))
def m19_r : List MRes := [.tmp 2]
def m19_b : MCode :=
 (.seq
  (.reg
   [MI.op (some 2) (.mov (.c (.bool false))) none])
  m19_8)
def m19 : MFunc := ⟨1, 24, m19_r, m19_b⟩
theorem c19 : compF Tryd.prog 19 m19 = some m19 := by kernel_rfl

/- tollhouse/tollhouseref10.Good -/
def m28_1 : MCode :=
 (.cond (.tmp 24)
  (.seq
   (.reg
    [MI.op (some 2) (.mov (.c (.bool false))) none])
   .ret)
  .skip)
def m28_2 : MCode :=
 (.cond (.tmp 49)
  (.seq
   (.reg
    [MI.op (some 2) (.mov (.c (.bool false))) none])
   .ret)
  .skip)
def m28_3 : MCode :=
 (.seq
  (.blk 3
   (.seq
    (.reg
     [MI.op (some 34) (.mov (.tmp 0)) none,
      MI.op (some 35) (.mov (.tmp 3)) none,
      MI.op (some 36) (.ixSl 1 (.tmp 34) (.tmp 35)) none,
      MI.op (some 37) (.load false 1 (.tmp 36)) none,
      MI.op (some 38) (.mov (.tmp 4)) none,
      MI.op (some 39) (.idxStr (.tmp 37) (.tmp 38)) none,
      MI.op (some 40) (.bin .lss (.tmp 39) (.c (.int .u8 97))) none,
      MI.op (some 41) (.mov (.tmp 40)) none,
      MI.op (some 42) (.mov (.tmp 0)) (some (41, false)),
      MI.op (some 43) (.mov (.tmp 3)) (some (41, false)),
      MI.op (some 44) (.ixSl 1 (.tmp 42) (.tmp 43)) (some (41, false)),
      MI.op (some 45) (.load false 1 (.tmp 44)) (some (41, false)),
      MI.op (some 46) (.mov (.tmp 4)) (some (41, false)),
      MI.op (some 47) (.idxStr (.tmp 45) (.tmp 46)) (some (41, false)),
      MI.op (some 48) (.bin .gtr (.tmp 47) (.c (.int .u8 122))) (some (41, false)),
      MI.op (some 49) (.pick (.tmp 41) (.c (.bool true)) (.tmp 48)) none])
  m28_2))
  (.reg
   [MI.op (some 32) (.mov (.tmp 4)) none,
    MI.op (some 33) (.bin .add (.tmp 32) (.c (.int .i64 1))) none,
    MI.op (some 4) (.mov (.tmp 33)) none]))
def m28_4 : MCode :=
 (.seq
  (.seq
   (.reg
    [MI.op (some 25) (.mov (.tmp 4)) none,
     MI.op (some 26) (.mov (.tmp 0)) none,
     MI.op (some 27) (.mov (.tmp 3)) none,
     MI.op (some 28) (.ixSl 1 (.tmp 26) (.tmp 27)) none,
     MI.op (some 29) (.load false 1 (.tmp 28)) none,
     MI.op (some 30) (.lenS (.tmp 29)) none,
     MI.op (some 31) (.bin .lss (.tmp 25) (.tmp 30)) none])
   (.cond (.tmp 31)
    .skip
    (.exit 2)))
  m28_3)
def m28_5 : MCode :=
 (.blk 2
  (.loop
  m28_4))
def m28_6 : MCode :=
 (.seq
  (.reg
   [MI.op (some 4) (.mov (.c (.int .i64 0))) none])
  m28_5)
def m28_7 : MCode :=
 (.seq
  (.blk 1
   (.seq
    (.seq
     (.reg
      [MI.op (some 11) (.mov (.tmp 0)) none,
       MI.op (some 12) (.mov (.tmp 3)) none,
       MI.op (some 13) (.ixSl 1 (.tmp 11) (.tmp 12)) none,
       MI.op (some 14) (.load false 1 (.tmp 13)) none,
       MI.op (some 15) (.lenS (.tmp 14)) none,
       MI.op (some 16) (.bin .lss (.tmp 15) (.c (.int .i64 1))) none,
       MI.op (some 17) (.mov (.tmp 16)) none,
       MI.op (some 18) (.mov (.tmp 0)) (some (17, false)),
       MI.op (some 19) (.mov (.tmp 3)) (some (17, false)),
       MI.op (some 20) (.ixSl 1 (.tmp 18) (.tmp 19)) (some (17, false)),
       MI.op (some 21) (.load false 1 (.tmp 20)) (some (17, false)),
       MI.op (some 22) (.lenS (.tmp 21)) (some (17, false)),
       MI.op (some 23) (.bin .gtr (.tmp 22) (.c (.int .i64 4))) (some (17, false)),
       MI.op (some 24) (.pick (.tmp 17) (.c (.bool true)) (.tmp 23)) none])
  m28_1)
  m28_6))
  (.reg
   [MI.op (some 9) (.mov (.tmp 3)) none,
    MI.op (some 10) (.bin .add (.tmp 9) (.c (.int .i64 1))) none,
    MI.op (some 3) (.mov (.tmp 10)) none]))
def m28_8 : MCode :=
 (.seq
  (.seq
   (.reg
    [MI.op (some 5) (.mov (.tmp 3)) none,
     MI.op (some 6) (.mov (.tmp 0)) none,
     MI.op (some 7) (.len (.tmp 6)) none,
     MI.op (some 8) (.bin .lss (.tmp 5) (.tmp 7)) none])
   (.cond (.tmp 8)
    .skip
    (.exit 0)))
  m28_7)
def m28_9 : MCode :=
 (.blk 0
  (.loop
  m28_8))
def m28_10 : MCode :=
 (.seq
  (.seq
   (.reg
    [MI.op (some 3) (.mov (.c (.int .i64 0))) none])
  m28_9)
  (.seq
   (.reg
    [MI.op (some 2) (.mov (.c (.bool true))) none])
   .ret))
def m28_r : List MRes := [.tmp 2]
def m28_b : MCode :=
 (.seq
  (.reg
   [MI.op (some 2) (.mov (.c (.bool false))) none])
  m28_10)
def m28 : MFunc := ⟨1, 50, m28_r, m28_b⟩
theorem c28 : compF Tryd.prog 28 m28 = some m28 := by kernel_rfl

/- tollhouse/names.Pad -/
def m20_1 : MCode :=
 (.seq
  (.reg
   [MI.op (some 7) (.load true 4 (.tmp 3)) none,
    MI.op none (.store 4 (.tmp 2) (.tmp 7)) none])
  .ret)
def m20_2 : MCode :=
 (.seq
  (.reg
   [MI.op (some 4) (.slArr 4 1 (.tmp 3) none none none) none,
    MI.op (some 5) (.mov (.tmp 0)) none,
    MI.op (some 6) (.copy 1 (.tmp 4) (.tmp 5)) none])
  m20_1)
def m20_3 : MCode :=
 (.seq
  (.reg
   [MI.op (some 3) (.alloc [(.int .u8 0), (.int .u8 0), (.int .u8 0), (.int .u8 0)]) none])
  m20_2)
def m20_r : List MRes := [.cell 2 true 4]
def m20_b : MCode :=
 (.seq
  (.reg
   [MI.op (some 2) (.alloc [(.int .u8 0), (.int .u8 0), (.int .u8 0), (.int .u8 0)]) none])
  m20_3)
def m20 : MFunc := ⟨1, 8, m20_r, m20_b⟩
theorem c20 : compF Tryd.prog 20 m20 = some m20 := by kernel_rfl

/- tollhouse/tollhouseref10.Pad -/
def m29_1 : MCode :=
 (.seq
  (.blk 1
   (.reg
    [MI.op (some 15) (.mov (.tmp 4)) none,
     MI.op (some 16) (.mov (.tmp 0)) none,
     MI.op (some 17) (.mov (.tmp 4)) none,
     MI.op (some 18) (.idxStr (.tmp 16) (.tmp 17)) none,
     MI.op (some 19) (.ixArr 4 1 (.tmp 3) (.tmp 15)) none,
     MI.op none (.store 1 (.tmp 19) (.tmp 18)) none]))
  (.reg
   [MI.op (some 13) (.mov (.tmp 4)) none,
    MI.op (some 14) (.bin .add (.tmp 13) (.c (.int .i64 1))) none,
    MI.op (some 4) (.mov (.tmp 14)) none]))
def m29_2 : MCode :=
 (.seq
  (.seq
   (.reg
    [MI.op (some 5) (.mov (.tmp 4)) none,
     MI.op (some 6) (.bin .lss (.tmp 5) (.c (.int .i64 4))) none,
     MI.op (some 7) (.mov (.tmp 6)) none,
     MI.op (some 8) (.mov (.tmp 4)) (some (7, true)),
     MI.op (some 9) (.mov (.tmp 0)) (some (7, true)),
     MI.op (some 10) (.lenS (.tmp 9)) (some (7, true)),
     MI.op (some 11) (.bin .lss (.tmp 8) (.tmp 10)) (some (7, true)),
     MI.op (some 12) (.pick (.tmp 7) (.tmp 11) (.c (.bool false))) none])
   (.cond (.tmp 12)
    .skip
    (.exit 0)))
  m29_1)
def m29_3 : MCode :=
 (.blk 0
  (.loop
  m29_2))
def m29_4 : MCode :=
 (.seq
  (.reg
   [MI.op (some 20) (.load true 4 (.tmp 3)) none,
    MI.op none (.store 4 (.tmp 2) (.tmp 20)) none])
  .ret)
def m29_5 : MCode :=
 (.seq
  (.seq
   (.reg
    [MI.op (some 4) (.mov (.c (.int .i64 0))) none])
  m29_3)
  m29_4)
def m29_6 : MCode :=
 (.seq
  (.reg
   [MI.op (some 3) (.alloc [(.int .u8 0), (.int .u8 0), (.int .u8 0), (.int .u8 0)]) none])
  m29_5)
def m29_r : List MRes := [.cell 2 true 4]
def m29_b : MCode :=
 (.seq
  (.reg
   [MI.op (some 2) (.alloc [(.int .u8 0), (.int .u8 0), (.int .u8 0), (.int .u8 0)]) none])
  m29_6)
def m29 : MFunc := ⟨1, 21, m29_r, m29_b⟩
theorem c29 : compF Tryd.prog 29 m29 = some m29 := by kernel_rfl

/- strings.Trim -/
def m33_1 : MCode :=
 (.seq
  (.reg
   [MI.op (some 13) (.mov (.tmp 0)) none,
    MI.op (some 4) (.mov (.tmp 13)) none])
  .ret)
def m33_2 : MCode :=
 (.cond (.tmp 12)
  m33_1
  .skip)
def m33_3 : MCode :=
 (.seq
  (.drw
   [MI.op (some 22) (.mov (.tmp 0)) none,
    MI.op (some 23) (.mov (.tmp 1)) none,
    MI.op (some 24) (.idxStr (.tmp 23) (.c (.int .i64 0))) none,
    MI.op (some 25) (.call 45 [(.tmp 22), (.tmp 24)]) none,
    MI.op (some 26) (.mov (.tmp 1)) none,
    MI.op (some 27) (.idxStr (.tmp 26) (.c (.int .i64 0))) none]
   [MI.op (some 28) (.call 44 [(.tmp 25), (.tmp 27)]) none,
    MI.op (some 4) (.mov (.tmp 28)) none])
  .ret)
def m33_4 : MCode :=
 (.cond (.tmp 21)
  m33_3
  .skip)
def m33_5 : List MI :=
 [MI.op (some 29) (.mov (.tmp 31)) none,
  MI.op (some 32) (.ext (.tmp 29) 0) none,
  MI.op (some 33) (.ext (.tmp 29) 1) none,
  MI.op (some 5) (.alloc (List.replicate 256 (.bool false))) none,
  MI.op none (.store 256 (.tmp 5) (.tmp 32)) none,
  MI.op (some 6) (.mov (.tmp 33)) none]
def m33_6 : List MI :=
 [MI.op (some 37) (.calln 47 [(.tmp 36), (.tmp 5)]) none,
  MI.op (some 4) (.mov (.tmp 37)) none]
def m33_7 : MCode :=
 (.seq
  (.reg
   (MI.op (some 35) (.mov (.tmp 0)) none ::
    MI.op (some 36) (.calln 48 [(.tmp 35), (.tmp 5)]) none ::
    m33_6))
  .ret)
def m33_8 : MCode :=
 (.cond (.tmp 34)
  m33_7
  .skip)
def m33_9 : MCode :=
 (.seq
  (.reg
   [MI.op (some 34) (.mov (.tmp 6)) none])
  m33_8)
def m33_10 : List MI :=
 [MI.op (some 41) (.mov (.tmp 1)) none,
  MI.op (some 42) (.call 49 [(.tmp 40), (.tmp 41)]) none,
  MI.op (some 4) (.mov (.tmp 42)) none]
def m33_11 : MCode :=
 (.seq
  (.reg
   (MI.op (some 38) (.mov (.tmp 0)) none ::
    MI.op (some 39) (.mov (.tmp 1)) none ::
    MI.op (some 40) (.call 50 [(.tmp 38), (.tmp 39)]) none ::
    m33_10))
  .ret)
def m33_12 : MCode :=
 (.seq
  (.seq
   (.reg
    (MI.op (some 30) (.mov (.tmp 1)) none ::
     MI.op (some 31) (.call 46 [(.tmp 30)]) none ::
     m33_5))
  m33_9)
  m33_11)
def m33_13 : MCode :=
 (.seq
  (.seq
   (.reg
    [MI.op (some 14) (.mov (.tmp 1)) none,
     MI.op (some 15) (.lenS (.tmp 14)) none,
     MI.op (some 16) (.bin .eql (.tmp 15) (.c (.int .i64 1))) none,
     MI.op (some 17) (.mov (.tmp 16)) none,
     MI.op (some 18) (.mov (.tmp 1)) (some (17, true)),
     MI.op (some 19) (.idxStr (.tmp 18) (.c (.int .i64 0))) (some (17, true)),
     MI.op (some 20) (.bin .lss (.tmp 19) (.c (.int .u8 128))) (some (17, true)),
     MI.op (some 21) (.pick (.tmp 17) (.tmp 20) (.c (.bool false))) none])
  m33_4)
  m33_12)
def m33_14 : MCode :=
 (.seq
  (.seq
   (.reg
    [MI.op (some 7) (.mov (.tmp 0)) none,
     MI.op (some 8) (.bin .eql (.tmp 7) (.c (.str []))) none,
     MI.op (some 9) (.mov (.tmp 8)) none,
     MI.op (some 10) (.mov (.tmp 1)) (some (9, false)),
     MI.op (some 11) (.bin .eql (.tmp 10) (.c (.str []))) (some (9, false)),
     MI.op (some 12) (.pick (.tmp 9) (.c (.bool true)) (.tmp 11)) none])
  m33_2)
  m33_13)
def m33_r : List MRes := [.tmp 4]
def m33_b : MCode :=
 (.seq
  (.reg
   [MI.op (some 4) (.mov (.c (.str []))) none])
  m33_14)
def m33 : MFunc := ⟨2, 43, m33_r, m33_b⟩
theorem c33 : compF Tryd.prog 33 m33 = some m33 := by kernel_rfl

/- strings.trimRightByte -/
def m45_1 : MCode :=
 (.blk 1
  (.reg
   [MI.op (some 17) (.mov (.tmp 0)) none,
    MI.op (some 18) (.mov (.tmp 0)) none,
    MI.op (some 19) (.lenS (.tmp 18)) none,
    MI.op (some 20) (.bin .sub (.tmp 19) (.c (.int .i64 1))) none,
    MI.op (some 21) (.slStr (.tmp 17) none (some (.tmp 20))) none,
    MI.op (some 0) (.mov (.tmp 21)) none]))
def m45_2 : MCode :=
 (.seq
  (.seq
   (.reg
    [MI.op (some 5) (.mov (.tmp 0)) none,
     MI.op (some 6) (.lenS (.tmp 5)) none,
     MI.op (some 7) (.bin .gtr (.tmp 6) (.c (.int .i64 0))) none,
     MI.op (some 8) (.mov (.tmp 7)) none,
     MI.op (some 9) (.mov (.tmp 0)) (some (8, true)),
     MI.op (some 10) (.mov (.tmp 0)) (some (8, true)),
     MI.op (some 11) (.lenS (.tmp 10)) (some (8, true)),
     MI.op (some 12) (.bin .sub (.tmp 11) (.c (.int .i64 1))) (some (8, true)),
     MI.op (some 13) (.idxStr (.tmp 9) (.tmp 12)) (some (8, true)),
     MI.op (some 14) (.mov (.tmp 1)) (some (8, true)),
     MI.op (some 15) (.bin .eql (.tmp 13) (.tmp 14)) (some (8, true)),
     MI.op (some 16) (.pick (.tmp 8) (.tmp 15) (.c (.bool false))) none])
   (.cond (.tmp 16)
    .skip
    (.exit 0)))
  m45_1)
def m45_3 : MCode :=
 (.seq
  (.reg
   [MI.op (some 22) (.mov (.tmp 0)) none,
    MI.op (some 4) (.mov (.tmp 22)) none])
  .ret)
def m45_4 : MCode :=
 (.seq
  (.blk 0
   (.loop
  m45_2))
  m45_3)
def m45_r : List MRes := [.tmp 4]
def m45_b : MCode :=
 (.seq
  (.reg
   [MI.op (some 4) (.mov (.c (.str []))) none])
  m45_4)
def m45 : MFunc := ⟨2, 23, m45_r, m45_b⟩
theorem c45 : compF Tryd.prog 45 m45 = some m45 := by kernel_rfl

/- strings.makeASCIISet -/
def m46_1 : MCode :=
 (.seq
  (.reg
   [MI.op (some 17) (.load true 256 (.tmp 2)) none,
    MI.op none (.store 256 (.tmp 2) (.tmp 17)) none,
    MI.op (some 3) (.mov (.c (.bool false))) none])
  .ret)
def m46_2 : MCode :=
 (.cond (.tmp 16)
  m46_1
  .skip)
def m46_3 : MCode :=
 (.seq
  (.seq
   (.reg
    [MI.op (some 15) (.mov (.tmp 5)) none,
     MI.op (some 16) (.bin .geq (.tmp 15) (.c (.int .u8 128))) none])
  m46_2)
  (.reg
   [MI.op (some 18) (.mov (.tmp 5)) none,
    MI.op (some 19) (.ixArr 256 1 (.tmp 2) (.tmp 18)) none,
    MI.op none (.store 1 (.tmp 19) (.c (.bool true))) none]))
def m46_4 : MCode :=
 (.seq
  (.blk 1
   (.seq
    (.reg
     [MI.op (some 12) (.mov (.tmp 0)) none,
      MI.op (some 13) (.mov (.tmp 4)) none,
      MI.op (some 14) (.idxStr (.tmp 12) (.tmp 13)) none,
      MI.op (some 5) (.mov (.tmp 14)) none])
  m46_3))
  (.reg
   [MI.op (some 10) (.mov (.tmp 4)) none,
    MI.op (some 11) (.bin .add (.tmp 10) (.c (.int .i64 1))) none,
    MI.op (some 4) (.mov (.tmp 11)) none]))
def m46_5 : MCode :=
 (.seq
  (.seq
   (.reg
    [MI.op (some 6) (.mov (.tmp 4)) none,
     MI.op (some 7) (.mov (.tmp 0)) none,
     MI.op (some 8) (.lenS (.tmp 7)) none,
     MI.op (some 9) (.bin .lss (.tmp 6) (.tmp 8)) none])
   (.cond (.tmp 9)
    .skip
    (.exit 0)))
  m46_4)
def m46_6 : MCode :=
 (.blk 0
  (.loop
  m46_5))
def m46_7 : MCode :=
 (.seq
  (.reg
   [MI.op (some 20) (.load true 256 (.tmp 2)) none,
    MI.op none (.store 256 (.tmp 2) (.tmp 20)) none,
    MI.op (some 3) (.mov (.c (.bool true))) none])
  .ret)
def m46_8 : MCode :=
 (.seq
  (.seq
   (.reg
    [MI.op (some 4) (.mov (.c (.int .i64 0))) none])
  m46_6)
  m46_7)
def m46_r : List MRes := [.cell 2 true 256, .tmp 3]
def m46_b : MCode :=
 (.seq
  (.reg
   [MI.op (some 2) (.alloc (List.replicate 256 (.bool false))) none,
    MI.op (some 3) (.mov (.c (.bool false))) none])
  m46_8)
def m46 : MFunc := ⟨1, 21, m46_r, m46_b⟩
theorem c46 : compF Tryd.prog 46 m46 = some m46 := by kernel_rfl

/- strings.trimRightASCII -/
def m48_1 : MCode :=
 (.reg
  [MI.op (some 16) (.mov (.tmp 0)) none,
   MI.op (some 17) (.mov (.tmp 0)) none,
   MI.op (some 18) (.lenS (.tmp 17)) none,
   MI.op (some 19) (.bin .sub (.tmp 18) (.c (.int .i64 1))) none,
   MI.op (some 20) (.slStr (.tmp 16) none (some (.tmp 19))) none,
   MI.op (some 0) (.mov (.tmp 20)) none])
def m48_2 : MCode :=
 (.blk 1
  (.seq
   (.seq
    (.reg
     [MI.op (some 8) (.mov (.tmp 1)) none,
      MI.op (some 9) (.mov (.tmp 0)) none,
      MI.op (some 10) (.mov (.tmp 0)) none,
      MI.op (some 11) (.lenS (.tmp 10)) none,
      MI.op (some 12) (.bin .sub (.tmp 11) (.c (.int .i64 1))) none,
      MI.op (some 13) (.idxStr (.tmp 9) (.tmp 12)) none,
      MI.op (some 14) (.calln 58 [(.tmp 8), (.tmp 13)]) none,
      MI.op (some 15) (.un .not (.tmp 14)) none])
    (.cond (.tmp 15)
     (.exit 0)
     .skip))
  m48_1))
def m48_3 : MCode :=
 (.seq
  (.seq
   (.reg
    [MI.op (some 5) (.mov (.tmp 0)) none,
     MI.op (some 6) (.lenS (.tmp 5)) none,
     MI.op (some 7) (.bin .gtr (.tmp 6) (.c (.int .i64 0))) none])
   (.cond (.tmp 7)
    .skip
    (.exit 0)))
  m48_2)
def m48_4 : MCode :=
 (.seq
  (.reg
   [MI.op (some 21) (.mov (.tmp 0)) none,
    MI.op (some 4) (.mov (.tmp 21)) none])
  .ret)
def m48_5 : MCode :=
 (.seq
  (.blk 0
   (.loop
  m48_3))
  m48_4)
def m48_r : List MRes := [.tmp 4]
def m48_b : MCode :=
 (.seq
  (.reg
   [MI.op (some 4) (.mov (.c (.str []))) none])
  m48_5)
def m48 : MFunc := ⟨2, 22, m48_r, m48_b⟩
theorem c48 : compF Tryd.prog 48 m48 = some m48 := by kernel_rfl

/- strings.trimLeftASCII -/
def m47_1 : MCode :=
 (.blk 1
  (.seq
   (.seq
    (.reg
     [MI.op (some 8) (.mov (.tmp 1)) none,
      MI.op (some 9) (.mov (.tmp 0)) none,
      MI.op (some 10) (.idxStr (.tmp 9) (.c (.int .i64 0))) none,
      MI.op (some 11) (.calln 58 [(.tmp 8), (.tmp 10)]) none,
      MI.op (some 12) (.un .not (.tmp 11)) none])
    (.cond (.tmp 12)
     (.exit 0)
     .skip))
   (.reg
    [MI.op (some 13) (.mov (.tmp 0)) none,
     MI.op (some 14) (.slStr (.tmp 13) (some (.c (.int .i64 1))) none) none,
     MI.op (some 0) (.mov (.tmp 14)) none])))
def m47_2 : MCode :=
 (.seq
  (.seq
   (.reg
    [MI.op (some 5) (.mov (.tmp 0)) none,
     MI.op (some 6) (.lenS (.tmp 5)) none,
     MI.op (some 7) (.bin .gtr (.tmp 6) (.c (.int .i64 0))) none])
   (.cond (.tmp 7)
    .skip
    (.exit 0)))
  m47_1)
def m47_3 : MCode :=
 (.seq
  (.reg
   [MI.op (some 15) (.mov (.tmp 0)) none,
    MI.op (some 4) (.mov (.tmp 15)) none])
  .ret)
def m47_4 : MCode :=
 (.seq
  (.blk 0
   (.loop
  m47_2))
  m47_3)
def m47_r : List MRes := [.tmp 4]
def m47_b : MCode :=
 (.seq
  (.reg
   [MI.op (some 4) (.mov (.c (.str []))) none])
  m47_4)
def m47 : MFunc := ⟨2, 16, m47_r, m47_b⟩
theorem c47 : compF Tryd.prog 47 m47 = some m47 := by kernel_rfl

/- (*strings.asciiSet).contains -/
def m58_1 : MCode :=
 (.seq
  (.reg
   [MI.op (some 5) (.mov (.tmp 0)) none,
    MI.op (some 6) (.mov (.tmp 1)) none,
    MI.op (some 7) (.chk (.tmp 5)) none,
    MI.op (some 8) (.ixArr 256 1 (.tmp 7) (.tmp 6)) none,
    MI.op (some 9) (.load false 1 (.tmp 8)) none,
    MI.op (some 4) (.mov (.tmp 9)) none])
  .ret)
def m58_r : List MRes := [.tmp 4]
def m58_b : MCode :=
 (.seq
  (.reg
   [MI.op (some 4) (.mov (.c (.bool false))) none])
  m58_1)
def m58 : MFunc := ⟨2, 10, m58_r, m58_b⟩
theorem c58 : compF Tryd.prog 58 m58 = some m58 := by kernel_rfl

end Go.Proofs.YtkphojcmjffccaaDoor
