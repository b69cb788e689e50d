/- The loaded functions as texts of the ideal machine (written by a program of ours), and that they are the loaded ones. -/
import Derived.Test.YtilbipknodpmmaaDoorE31
import Derived.Test.YtilbipknodpmmaaDoorProg
set_option linter.unusedVariables false
namespace Go.Proofs.YtilbipknodpmmaaDoor
open Go.RowKit

/- tollhouse/table.Encode -/
def m26_1 : MCode :=
 (.seq
  (.reg
   [MI.op (some 14) (.build (List.replicate 32 (.int .u8 0)) []) none,
    MI.op none (.store 32 (.tmp 2) (.tmp 14)) none,
    MI.op (some 3) (.mov (.c (.int .i64 11))) none])
  .ret)
def m26_2 : MCode :=
 (.cond (.tmp 13)
  m26_1
  .skip)
def m26_3 : List MI :=
 [MI.op (some 8) (.alloc [(.int .u8 0), (.int .u8 0), (.int .u8 0), (.int .u8 0)]) none,
  MI.op none (.store 4 (.tmp 8) (.tmp 32)) none]
def m26_4 : MCode :=
 (.reg
  [MI.op (some 50) (.mov (.tmp 7)) none,
   MI.op (some 51) (.mov (.tmp 9)) none,
   MI.op (some 52) (.bin .add (.c (.int .i64 5)) (.tmp 51)) none,
   MI.op (some 53) (.mov (.tmp 10)) none,
   MI.op (some 54) (.toInt .u8 (.tmp 53)) none,
   MI.op (some 55) (.ixSl 1 (.tmp 50) (.tmp 52)) none,
   MI.op none (.store 1 (.tmp 55) (.tmp 54)) none])
def m26_5 : MCode :=
 (.seq
  (.blk 3
   (.seq
    (.reg
     [MI.op (some 47) (.mov (.tmp 45)) none,
      MI.op (some 48) (.ixSl 1 (.tmp 43) (.tmp 45)) none,
      MI.op (some 49) (.load false 1 (.tmp 48)) none,
      MI.op (some 9) (.mov (.tmp 47)) none,
      MI.op (some 10) (.mov (.tmp 49)) none])
  m26_4))
  (.reg
   [MI.op (some 56) (.bin .add (.tmp 45) (.c (.int .i64 1))) none,
    MI.op (some 45) (.mov (.tmp 56)) none]))
def m26_6 : MCode :=
 (.seq
  (.cond (.tmp 46)
   .skip
   (.exit 2))
  m26_5)
def m26_7 : MCode :=
 (.seq
  (.reg
   [MI.op (some 46) (.bin .lss (.tmp 45) (.tmp 44)) none])
  m26_6)
def m26_8 : MCode :=
 (.blk 2
  (.loop
  m26_7))
def m26_9 : MCode :=
 (.seq
  (.reg
   [MI.op (some 42) (.fa 1 (.tmp 6)) none,
    MI.op (some 43) (.load false 1 (.tmp 42)) none,
    MI.op (some 44) (.len (.tmp 43)) none,
    MI.op (some 45) (.mov (.c (.int .i64 0))) none])
  m26_8)
def m26_10 : MCode :=
 (.seq
  (.reg
   [MI.op (some 36) (.mov (.tmp 7)) none,
    MI.op (some 37) (.fa 1 (.tmp 6)) none,
    MI.op (some 38) (.load false 1 (.tmp 37)) none,
    MI.op (some 39) (.len (.tmp 38)) none,
    MI.op (some 40) (.toInt .u8 (.tmp 39)) none,
    MI.op (some 41) (.ixSl 1 (.tmp 36) (.c (.int .i64 4))) none,
    MI.op none (.store 1 (.tmp 41) (.tmp 40)) none])
  m26_9)
def m26_11 : MCode :=
 (.seq
  (.reg
   [MI.op (some 33) (.mov (.tmp 7)) none,
    MI.op (some 34) (.slArr 4 1 (.tmp 8) none none none) none,
    MI.op (some 35) (.copy 1 (.tmp 33) (.tmp 34)) none])
  m26_10)
def m26_12 : MCode :=
 (.seq
  (.reg
   (MI.op (some 30) (.fa 0 (.tmp 6)) none ::
    MI.op (some 31) (.load false 1 (.tmp 30)) none ::
    MI.op (some 32) (.call 55 [(.tmp 31)]) none ::
    m26_3))
  m26_11)
def m26_13 : MCode :=
 (.seq
  (.reg
   [MI.op (some 26) (.mov (.tmp 5)) none,
    MI.op (some 27) (.bin .mul (.c (.int .i64 9)) (.tmp 26)) none,
    MI.op (some 28) (.bin .add (.c (.int .i64 1)) (.tmp 27)) none,
    MI.op (some 29) (.slArr 32 1 (.tmp 4) (some (.tmp 28)) none none) none,
    MI.op (some 7) (.mov (.tmp 29)) none])
  m26_12)
def m26_14 : MCode :=
 (.seq
  (.blk 1
   (.seq
    (.reg
     [MI.op (some 23) (.mov (.tmp 21)) none,
      MI.op (some 24) (.ixSl 2 (.tmp 19) (.tmp 21)) none,
      MI.op (some 25) (.load true 2 (.tmp 24)) none,
      MI.op (some 6) (.alloc [(.str []), (.sl .full 0 [])]) none,
      MI.op (some 5) (.mov (.tmp 23)) none,
      MI.op none (.store 2 (.tmp 6) (.tmp 25)) none])
  m26_13))
  (.reg
   [MI.op (some 57) (.bin .add (.tmp 21) (.c (.int .i64 1))) none,
    MI.op (some 21) (.mov (.tmp 57)) none]))
def m26_15 : MCode :=
 (.seq
  (.cond (.tmp 22)
   .skip
   (.exit 0))
  m26_14)
def m26_16 : MCode :=
 (.seq
  (.reg
   [MI.op (some 22) (.bin .lss (.tmp 21) (.tmp 20)) none])
  m26_15)
def m26_17 : MCode :=
 (.blk 0
  (.loop
  m26_16))
def m26_18 : MCode :=
 (.seq
  (.reg
   [MI.op (some 58) (.load true 32 (.tmp 4)) none,
    MI.op none (.store 32 (.tmp 2) (.tmp 58)) none,
    MI.op (some 3) (.mov (.c (.int .i64 0))) none])
  .ret)
def m26_19 : MCode :=
 (.seq
  (.seq
   (.reg
    [MI.op (some 19) (.mov (.tmp 0)) none,
     MI.op (some 20) (.len (.tmp 19)) none,
     MI.op (some 21) (.mov (.c (.int .i64 0))) none])
  m26_17)
  m26_18)
def m26_20 : MCode :=
 (.seq
  (.reg
   [MI.op (some 15) (.mov (.tmp 0)) none,
    MI.op (some 16) (.len (.tmp 15)) none,
    MI.op (some 17) (.toInt .u8 (.tmp 16)) none,
    MI.op (some 18) (.build (List.replicate 32 (.int .u8 0)) [(0, 1, (.tmp 17))]) none,
    MI.op (some 4) (.alloc (List.replicate 32 (.int .u8 0))) none,
    MI.op none (.store 32 (.tmp 4) (.tmp 18)) none])
  m26_19)
def m26_21 : MCode :=
 (.seq
  (.seq
   (.reg
    [MI.op (some 11) (.mov (.tmp 0)) none,
     MI.op (some 12) (.call 54 [(.tmp 11)]) none,
     MI.op (some 13) (.un .not (.tmp 12)) none])
  m26_2)
  m26_20)
def m26_r : List MRes := [.cell 2 true 32, .tmp 3]
def m26_b : MCode :=
 (.seq
  (.reg
   [MI.op (some 2) (.alloc (List.replicate 32 (.int .u8 0))) none,
    MI.op (some 3) (.mov (.c (.int .i64 0))) none])
  m26_21)
def m26 : MFunc := ⟨1, 59, m26_r, m26_b⟩
theorem c26 : compF Tryd.prog 26 m26 = some m26 := by kernel_rfl

/- tollhouse/tollhouseref12.Encode -/
/- tollhouse/table.Decode -/
def m28_1 : MCode :=
 (.seq
  (.reg
   [MI.op (some 2) (.mov (.c (.sl .full 0 []))) none,
    MI.op (some 3) (.mov (.c (.int .i64 11))) none])
  .ret)
def m28_2 : MCode :=
 (.cond (.tmp 17)
  m28_1
  .skip)
def m28_3 : List MI :=
 [MI.op (some 32) (.mov (.tmp 37)) none,
  MI.op (some 38) (.ext (.tmp 32) 0) none,
  MI.op (some 39) (.ext (.tmp 32) 1) none,
  MI.op (some 7) (.mov (.tmp 38)) none,
  MI.op (some 8) (.mov (.tmp 39)) none]
def m28_4 : MCode :=
 (.seq
  (.reg
   [MI.op (some 2) (.mov (.c (.sl .full 0 []))) none,
    MI.op (some 3) (.mov (.c (.int .i64 11))) none])
  .ret)
def m28_5 : MCode :=
 (.cond (.tmp 49)
  m28_4
  .skip)
def m28_6 : MCode :=
 (.reg
  [MI.op (some 61) (.fa 1 (.tmp 10)) none,
   MI.op (some 62) (.load false 1 (.tmp 61)) none,
   MI.op (some 63) (.mov (.tmp 12)) none,
   MI.op (some 64) (.toInt .i64 (.tmp 63)) none,
   MI.op (some 65) (.bsl 1 1 [(.int .i64 0)] [(0, 1, (.tmp 64))]) none,
   MI.op (some 66) (.app 1 8 (.tmp 62) (.tmp 65)) none,
   MI.op (some 67) (.fa 1 (.tmp 10)) none,
   MI.op none (.store 1 (.tmp 67) (.tmp 66)) none])
def m28_7 : MCode :=
 (.seq
  (.blk 3
   (.seq
    (.reg
     [MI.op (some 59) (.ixSl 1 (.tmp 55) (.tmp 57)) none,
      MI.op (some 60) (.load false 1 (.tmp 59)) none,
      MI.op (some 12) (.mov (.tmp 60)) none])
  m28_6))
  (.reg
   [MI.op (some 68) (.bin .add (.tmp 57) (.c (.int .i64 1))) none,
    MI.op (some 57) (.mov (.tmp 68)) none]))
def m28_8 : MCode :=
 (.seq
  (.cond (.tmp 58)
   .skip
   (.exit 2))
  m28_7)
def m28_9 : MCode :=
 (.seq
  (.reg
   [MI.op (some 58) (.bin .lss (.tmp 57) (.tmp 56)) none])
  m28_8)
def m28_10 : MCode :=
 (.blk 2
  (.loop
  m28_9))
def m28_11 : MCode :=
 (.reg
  [MI.op (some 69) (.mov (.tmp 4)) none,
   MI.op (some 70) (.load true 2 (.tmp 10)) none,
   MI.frz 70,
   MI.op (some 71) (.bsl 1 2 [(.str []), (.sl .full 0 [])] [(0, 2, (.tmp 70))]) none,
   MI.op (some 72) (.app 2 40 (.tmp 69) (.tmp 71)) none,
   MI.op (some 4) (.mov (.tmp 72)) none])
def m28_12 : MCode :=
 (.seq
  (.seq
   (.reg
    [MI.op (some 52) (.mov (.tmp 6)) none,
     MI.op (some 53) (.mov (.tmp 9)) none,
     MI.op (some 54) (.bin .add (.c (.int .i64 5)) (.tmp 53)) none,
     MI.op (some 55) (.slSl 1 (.tmp 52) (some (.c (.int .i64 5))) (some (.tmp 54)) none) none,
     MI.op (some 56) (.len (.tmp 55)) none,
     MI.op (some 57) (.mov (.c (.int .i64 0))) none])
  m28_10)
  m28_11)
def m28_13 : MCode :=
 (.seq
  (.reg
   [MI.op (some 50) (.mov (.tmp 7)) none,
    MI.op (some 51) (.build [(.str []), (.sl .full 0 [])] [(0, 1, (.tmp 50))]) none,
    MI.op (some 10) (.alloc [(.str []), (.sl .full 0 [])]) none,
    MI.op none (.store 2 (.tmp 10) (.tmp 51)) none])
  m28_12)
def m28_14 : MCode :=
 (.seq
  (.seq
   (.reg
    [MI.op (some 44) (.mov (.tmp 8)) none,
     MI.op (some 45) (.un .not (.tmp 44)) none,
     MI.op (some 46) (.mov (.tmp 45)) none,
     MI.op (some 47) (.mov (.tmp 9)) (some (46, false)),
     MI.op (some 48) (.bin .gtr (.tmp 47) (.c (.int .i64 4))) (some (46, false)),
     MI.op (some 49) (.pick (.tmp 46) (.c (.bool true)) (.tmp 48)) none])
  m28_5)
  m28_13)
def m28_15 : MCode :=
 (.seq
  (.reg
   [MI.op (some 40) (.mov (.tmp 6)) none,
    MI.op (some 41) (.ixSl 1 (.tmp 40) (.c (.int .i64 4))) none,
    MI.op (some 42) (.load false 1 (.tmp 41)) none,
    MI.op (some 43) (.toInt .i64 (.tmp 42)) none,
    MI.op (some 9) (.mov (.tmp 43)) none])
  m28_14)
def m28_16 : MCode :=
 (.seq
  (.reg
   (MI.op (some 33) (.mov (.tmp 6)) none ::
    MI.op (some 34) (.slSl 1 (.tmp 33) none (some (.c (.int .i64 4))) none) none ::
    MI.op (some 35) (.arrOf 4 1 (.tmp 34)) none ::
    MI.op (some 36) (.load true 4 (.tmp 35)) none ::
    MI.op (some 37) (.call 56 [(.tmp 36)]) none ::
    m28_3))
  m28_15)
def m28_17 : MCode :=
 (.seq
  (.reg
   [MI.op (some 24) (.mov (.tmp 5)) none,
    MI.op (some 25) (.bin .mul (.c (.int .i64 9)) (.tmp 24)) none,
    MI.op (some 26) (.bin .add (.c (.int .i64 1)) (.tmp 25)) none,
    MI.op (some 27) (.mov (.tmp 5)) none,
    MI.op (some 28) (.bin .add (.tmp 27) (.c (.int .i64 1))) none,
    MI.op (some 29) (.bin .mul (.c (.int .i64 9)) (.tmp 28)) none,
    MI.op (some 30) (.bin .add (.c (.int .i64 1)) (.tmp 29)) none,
    MI.op (some 31) (.slArr 32 1 (.tmp 1) (some (.tmp 26)) (some (.tmp 30)) none) none,
    MI.op (some 6) (.mov (.tmp 31)) none])
  m28_16)
def m28_18 : MCode :=
 (.seq
  (.blk 1
   (.seq
    (.reg
     [MI.op (some 23) (.mov (.tmp 21)) none,
      MI.op (some 5) (.mov (.tmp 23)) none])
  m28_17))
  (.reg
   [MI.op (some 73) (.bin .add (.tmp 21) (.c (.int .i64 1))) none,
    MI.op (some 21) (.mov (.tmp 73)) none]))
def m28_19 : MCode :=
 (.seq
  (.cond (.tmp 22)
   .skip
   (.exit 0))
  m28_18)
def m28_20 : MCode :=
 (.seq
  (.reg
   [MI.op (some 22) (.bin .lss (.tmp 21) (.tmp 20)) none])
  m28_19)
def m28_21 : MCode :=
 (.blk 0
  (.loop
  m28_20))
def m28_22 : List MI :=
 [MI.op (some 74) (.mov (.tmp 76)) none,
  MI.op (some 77) (.ext (.tmp 74) 0) none,
  MI.op (some 78) (.ext (.tmp 74) 1) none,
  MI.op (some 13) (.alloc (List.replicate 32 (.int .u8 0))) none,
  MI.op none (.store 32 (.tmp 13) (.tmp 77)) none,
  MI.op (some 14) (.mov (.tmp 78)) none]
def m28_23 : MCode :=
 (.seq
  (.reg
   [MI.op (some 2) (.mov (.c (.sl .full 0 []))) none,
    MI.op (some 3) (.mov (.c (.int .i64 11))) none])
  .ret)
def m28_24 : MCode :=
 (.cond (.tmp 85)
  m28_23
  .skip)
def m28_25 : MCode :=
 (.seq
  (.reg
   [MI.op (some 79) (.mov (.tmp 14)) none,
    MI.op (some 80) (.bin .neq (.tmp 79) (.c (.int .i64 0))) none,
    MI.op (some 81) (.mov (.tmp 80)) none,
    MI.op (some 82) (.load true 32 (.tmp 13)) (some (81, false)),
    MI.op (some 83) (.load true 32 (.tmp 1)) (some (81, false)),
    MI.op (some 84) (.eqv true [(32, .i)] (.tmp 82) (.tmp 83)) (some (81, false)),
    MI.op (some 85) (.pick (.tmp 81) (.c (.bool true)) (.tmp 84)) none])
  m28_24)
def m28_26 : MCode :=
 (.seq
  (.reg
   [MI.op (some 86) (.mov (.tmp 4)) none,
    MI.op (some 2) (.mov (.tmp 86)) none,
    MI.op (some 3) (.mov (.c (.int .i64 0))) none])
  .ret)
def m28_27 : MCode :=
 (.seq
  (.seq
   (.reg
    (MI.op (some 75) (.mov (.tmp 4)) none ::
     MI.op (some 76) (.call 26 [(.tmp 75)]) none ::
     m28_22))
  m28_25)
  m28_26)
def m28_28 : MCode :=
 (.seq
  (.seq
   (.reg
    [MI.op (some 18) (.ixArr 32 1 (.tmp 1) (.c (.int .i64 0))) none,
     MI.op (some 19) (.load false 1 (.tmp 18)) none,
     MI.op (some 20) (.toInt .i64 (.tmp 19)) none,
     MI.op (some 21) (.mov (.c (.int .i64 0))) none])
  m28_21)
  m28_27)
def m28_29 : MCode :=
 (.seq
  (.reg
   [MI.op (some 4) (.mov (.c (.sl .full 0 []))) none])
  m28_28)
def m28_30 : MCode :=
 (.seq
  (.seq
   (.reg
    [MI.op (some 15) (.ixArr 32 1 (.tmp 1) (.c (.int .i64 0))) none,
     MI.op (some 16) (.load false 1 (.tmp 15)) none,
     MI.op (some 17) (.bin .gtr (.tmp 16) (.c (.int .u8 3))) none])
  m28_2)
  m28_29)
def m28_r : List MRes := [.tmp 2, .tmp 3]
def m28_b : MCode :=
 (.seq
  (.reg
   [MI.op (some 1) (.box (.tmp 0)) none,
    MI.op (some 2) (.mov (.c (.sl .full 0 []))) none,
    MI.op (some 3) (.mov (.c (.int .i64 0))) none])
  m28_30)
def m28 : MFunc := ⟨1, 87, m28_r, m28_b⟩
theorem c28 : compF Tryd.prog 28 m28 = some m28 := by kernel_rfl

/- tollhouse/tollhouseref12.Decode -/
/- tollhouse/table.Good -/
def m54_1 : MCode :=
 (.cond (.tmp 10)
  (.seq
   (.reg
    [MI.op (some 2) (.mov (.c (.bool false))) none])
   .ret)
  .skip)
def m54_2 : List MI :=
 [MI.op (some 28) (.mov (.tmp 4)) (some (23, false)),
  MI.op (some 29) (.bin .neq (.tmp 27) (.tmp 28)) (some (23, false)),
  MI.op (some 30) (.pick (.tmp 23) (.c (.bool true)) (.tmp 29)) none,
  MI.op (some 31) (.mov (.tmp 30)) none,
  MI.op (some 32) (.fa 1 (.tmp 5)) (some (31, false)),
  MI.op (some 33) (.load false 1 (.tmp 32)) (some (31, false)),
  MI.op (some 34) (.len (.tmp 33)) (some (31, false)),
  MI.op (some 35) (.bin .lss (.tmp 34) (.c (.int .i64 1))) (some (31, false)),
  MI.op (some 36) (.pick (.tmp 31) (.c (.bool true)) (.tmp 35)) none,
  MI.op (some 37) (.mov (.tmp 36)) none,
  MI.op (some 38) (.fa 1 (.tmp 5)) (some (37, false)),
  MI.op (some 39) (.load false 1 (.tmp 38)) (some (37, false)),
  MI.op (some 40) (.len (.tmp 39)) (some (37, false)),
  MI.op (some 41) (.bin .gtr (.tmp 40) (.c (.int .i64 4))) (some (37, false)),
  MI.op (some 42) (.pick (.tmp 37) (.c (.bool true)) (.tmp 41)) none]
def m54_3 : List MI :=
 (MI.op (some 22) (.un .not (.tmp 21)) none ::
  MI.op (some 23) (.mov (.tmp 22)) none ::
  MI.op (some 24) (.fa 0 (.tmp 5)) (some (23, false)) ::
  MI.op (some 25) (.load false 1 (.tmp 24)) (some (23, false)) ::
  MI.op (some 26) (.mov (.tmp 0)) (some (23, false)) ::
  MI.op (some 27) (.call 44 [(.tmp 25), (.tmp 26)]) (some (23, false)) ::
  m54_2)
def m54_4 : MCode :=
 (.cond (.tmp 42)
  (.seq
   (.reg
    [MI.op (some 2) (.mov (.c (.bool false))) none])
   .ret)
  .skip)
def m54_5 : MCode :=
 (.cond (.tmp 60)
  (.seq
   (.reg
    [MI.op (some 2) (.mov (.c (.bool false))) none])
   .ret)
  .skip)
def m54_6 : MCode :=
 (.reg
  [MI.op (some 61) (.mov (.tmp 3)) none,
   MI.op (some 62) (.mov (.tmp 7)) none,
   MI.op (some 63) (.bsl 1 1 [(.int .i64 0)] [(0, 1, (.tmp 62))]) none,
   MI.op (some 64) (.app 1 8 (.tmp 61) (.tmp 63)) none,
   MI.op (some 3) (.mov (.tmp 64)) none])
def m54_7 : MCode :=
 (.seq
  (.seq
   (.reg
    [MI.op (some 50) (.mov (.tmp 7)) none,
     MI.op (some 51) (.bin .lss (.tmp 50) (.c (.int .i64 1))) none,
     MI.op (some 52) (.mov (.tmp 51)) none,
     MI.op (some 53) (.mov (.tmp 7)) (some (52, false)),
     MI.op (some 54) (.bin .geq (.tmp 53) (.c (.int .i64 12))) (some (52, false)),
     MI.op (some 55) (.pick (.tmp 52) (.c (.bool true)) (.tmp 54)) none,
     MI.op (some 56) (.mov (.tmp 55)) none,
     MI.op (some 57) (.mov (.tmp 3)) (some (56, false)),
     MI.op (some 58) (.mov (.tmp 7)) (some (56, false)),
     MI.op (some 59) (.call 65 [(.tmp 57), (.tmp 58)]) (some (56, false)),
     MI.op (some 60) (.pick (.tmp 56) (.c (.bool true)) (.tmp 59)) none])
  m54_5)
  m54_6)
def m54_8 : MCode :=
 (.seq
  (.blk 3
   (.seq
    (.reg
     [MI.op (some 48) (.ixSl 1 (.tmp 44) (.tmp 46)) none,
      MI.op (some 49) (.load false 1 (.tmp 48)) none,
      MI.op (some 7) (.mov (.tmp 49)) none])
  m54_7))
  (.reg
   [MI.op (some 65) (.bin .add (.tmp 46) (.c (.int .i64 1))) none,
    MI.op (some 46) (.mov (.tmp 65)) none]))
def m54_9 : MCode :=
 (.seq
  (.cond (.tmp 47)
   .skip
   (.exit 2))
  m54_8)
def m54_10 : MCode :=
 (.seq
  (.reg
   [MI.op (some 47) (.bin .lss (.tmp 46) (.tmp 45)) none])
  m54_9)
def m54_11 : MCode :=
 (.blk 2
  (.loop
  m54_10))
def m54_12 : MCode :=
 (.seq
  (.reg
   [MI.op (some 43) (.fa 1 (.tmp 5)) none,
    MI.op (some 44) (.load false 1 (.tmp 43)) none,
    MI.op (some 45) (.len (.tmp 44)) none,
    MI.op (some 46) (.mov (.c (.int .i64 0))) none])
  m54_11)
def m54_13 : MCode :=
 (.seq
  (.seq
   (.reg
    (MI.op (some 18) (.fa 0 (.tmp 5)) none ::
     MI.op (some 19) (.load false 1 (.tmp 18)) none ::
     MI.op (some 20) (.bsl 1 1 [(.str [])] [(0, 1, (.tmp 19))]) none ::
     MI.op (some 21) (.call 47 [(.tmp 20)]) none ::
     m54_3))
  m54_4)
  m54_12)
def m54_14 : MCode :=
 (.seq
  (.blk 1
   (.seq
    (.reg
     [MI.op (some 15) (.mov (.tmp 13)) none,
      MI.op (some 16) (.ixSl 2 (.tmp 11) (.tmp 13)) none,
      MI.op (some 17) (.load true 2 (.tmp 16)) none,
      MI.op (some 5) (.alloc [(.str []), (.sl .full 0 [])]) none,
      MI.op (some 4) (.mov (.tmp 15)) none,
      MI.op none (.store 2 (.tmp 5) (.tmp 17)) none])
  m54_13))
  (.reg
   [MI.op (some 66) (.bin .add (.tmp 13) (.c (.int .i64 1))) none,
    MI.op (some 13) (.mov (.tmp 66)) none]))
def m54_15 : MCode :=
 (.seq
  (.cond (.tmp 14)
   .skip
   (.exit 0))
  m54_14)
def m54_16 : MCode :=
 (.seq
  (.reg
   [MI.op (some 14) (.bin .lss (.tmp 13) (.tmp 12)) none])
  m54_15)
def m54_17 : MCode :=
 (.blk 0
  (.loop
  m54_16))
def m54_18 : MCode :=
 (.seq
  (.seq
   (.reg
    [MI.op (some 11) (.mov (.tmp 0)) none,
     MI.op (some 12) (.len (.tmp 11)) none,
     MI.op (some 13) (.mov (.c (.int .i64 0))) none])
  m54_17)
  (.seq
   (.reg
    [MI.op (some 2) (.mov (.c (.bool true))) none])
   .ret))
def m54_19 : MCode :=
 (.seq
  (.reg
   [MI.op (some 3) (.mov (.c (.sl .full 0 []))) none])
  m54_18)
def m54_20 : MCode :=
 (.seq
  (.seq
   (.reg
    [MI.op (some 8) (.mov (.tmp 0)) none,
     MI.op (some 9) (.len (.tmp 8)) none,
     MI.op (some 10) (.bin .gtr (.tmp 9) (.c (.int .i64 3))) none])
  m54_1)
  m54_19)
def m54_r : List MRes := [.tmp 2]
def m54_b : MCode :=
 (.seq
  (.reg
   [MI.op (some 2) (.mov (.c (.bool false))) none])
  m54_20)
def m54 : MFunc := ⟨1, 67, m54_r, m54_b⟩
theorem c54 : compF Tryd.prog 54 m54 = some m54 := by kernel_rfl

/- tollhouse/tollhouseref12.Good -/
def m25_1 : MCode :=
 (.cond (.tmp 10)
  (.seq
   (.reg
    [MI.op (some 2) (.mov (.c (.bool false))) none])
   .ret)
  .skip)
def m25_2 : List MI :=
 [MI.op (some 31) (.mov (.tmp 4)) (some (26, false)),
  MI.op (some 32) (.bin .neq (.tmp 30) (.tmp 31)) (some (26, false)),
  MI.op (some 33) (.pick (.tmp 26) (.c (.bool true)) (.tmp 32)) none,
  MI.op (some 34) (.mov (.tmp 33)) none,
  MI.op (some 35) (.fa 1 (.tmp 5)) (some (34, false)),
  MI.op (some 36) (.load false 1 (.tmp 35)) (some (34, false)),
  MI.op (some 37) (.len (.tmp 36)) (some (34, false)),
  MI.op (some 38) (.bin .lss (.tmp 37) (.c (.int .i64 1))) (some (34, false)),
  MI.op (some 39) (.pick (.tmp 34) (.c (.bool true)) (.tmp 38)) none,
  MI.op (some 40) (.mov (.tmp 39)) none,
  MI.op (some 41) (.fa 1 (.tmp 5)) (some (40, false)),
  MI.op (some 42) (.load false 1 (.tmp 41)) (some (40, false)),
  MI.op (some 43) (.len (.tmp 42)) (some (40, false)),
  MI.op (some 44) (.bin .gtr (.tmp 43) (.c (.int .i64 4))) (some (40, false)),
  MI.op (some 45) (.pick (.tmp 40) (.c (.bool true)) (.tmp 44)) none]
def m25_3 : List MI :=
 (MI.op (some 25) (.un .not (.tmp 24)) none ::
  MI.op (some 26) (.mov (.tmp 25)) none ::
  MI.op (some 27) (.fa 0 (.tmp 5)) (some (26, false)) ::
  MI.op (some 28) (.load false 1 (.tmp 27)) (some (26, false)) ::
  MI.op (some 29) (.mov (.tmp 0)) (some (26, false)) ::
  MI.op (some 30) (.call 45 [(.tmp 28), (.tmp 29)]) (some (26, false)) ::
  m25_2)
def m25_4 : MCode :=
 (.cond (.tmp 45)
  (.seq
   (.reg
    [MI.op (some 2) (.mov (.c (.bool false))) none])
   .ret)
  .skip)
def m25_5 : MCode :=
 (.cond (.tmp 68)
  (.seq
   (.reg
    [MI.op (some 2) (.mov (.c (.bool false))) none])
   .ret)
  .skip)
def m25_6 : MCode :=
 (.seq
  (.seq
   (.reg
    [MI.op (some 58) (.mov (.tmp 7)) none,
     MI.op (some 59) (.bin .lss (.tmp 58) (.c (.int .i64 1))) none,
     MI.op (some 60) (.mov (.tmp 59)) none,
     MI.op (some 61) (.mov (.tmp 7)) (some (60, false)),
     MI.op (some 62) (.bin .geq (.tmp 61) (.c (.int .i64 12))) (some (60, false)),
     MI.op (some 63) (.pick (.tmp 60) (.c (.bool true)) (.tmp 62)) none,
     MI.op (some 64) (.mov (.tmp 63)) none,
     MI.op (some 65) (.mov (.tmp 7)) (some (64, false)),
     MI.op (some 66) (.ixArr 12 1 (.tmp 3) (.tmp 65)) (some (64, false)),
     MI.op (some 67) (.load false 1 (.tmp 66)) (some (64, false)),
     MI.op (some 68) (.pick (.tmp 64) (.c (.bool true)) (.tmp 67)) none])
  m25_5)
  (.reg
   [MI.op (some 69) (.mov (.tmp 7)) none,
    MI.op (some 70) (.ixArr 12 1 (.tmp 3) (.tmp 69)) none,
    MI.op none (.store 1 (.tmp 70) (.c (.bool true))) none]))
def m25_7 : MCode :=
 (.seq
  (.blk 3
   (.seq
    (.reg
     [MI.op (some 53) (.fa 1 (.tmp 5)) none,
      MI.op (some 54) (.load false 1 (.tmp 53)) none,
      MI.op (some 55) (.mov (.tmp 6)) none,
      MI.op (some 56) (.ixSl 1 (.tmp 54) (.tmp 55)) none,
      MI.op (some 57) (.load false 1 (.tmp 56)) none,
      MI.op (some 7) (.mov (.tmp 57)) none])
  m25_6))
  (.reg
   [MI.op (some 51) (.mov (.tmp 6)) none,
    MI.op (some 52) (.bin .add (.tmp 51) (.c (.int .i64 1))) none,
    MI.op (some 6) (.mov (.tmp 52)) none]))
def m25_8 : MCode :=
 (.seq
  (.seq
   (.reg
    [MI.op (some 46) (.mov (.tmp 6)) none,
     MI.op (some 47) (.fa 1 (.tmp 5)) none,
     MI.op (some 48) (.load false 1 (.tmp 47)) none,
     MI.op (some 49) (.len (.tmp 48)) none,
     MI.op (some 50) (.bin .lss (.tmp 46) (.tmp 49)) none])
   (.cond (.tmp 50)
    .skip
    (.exit 2)))
  m25_7)
def m25_9 : MCode :=
 (.blk 2
  (.loop
  m25_8))
def m25_10 : MCode :=
 (.seq
  (.reg
   [MI.op (some 6) (.mov (.c (.int .i64 0))) none])
  m25_9)
def m25_11 : MCode :=
 (.seq
  (.seq
   (.reg
    (MI.op (some 21) (.fa 0 (.tmp 5)) none ::
     MI.op (some 22) (.load false 1 (.tmp 21)) none ::
     MI.op (some 23) (.bsl 1 1 [(.str [])] [(0, 1, (.tmp 22))]) none ::
     MI.op (some 24) (.call 50 [(.tmp 23)]) none ::
     m25_3))
  m25_4)
  m25_10)
def m25_12 : MCode :=
 (.seq
  (.blk 1
   (.seq
    (.reg
     [MI.op (some 17) (.mov (.tmp 0)) none,
      MI.op (some 18) (.mov (.tmp 4)) none,
      MI.op (some 19) (.ixSl 2 (.tmp 17) (.tmp 18)) none,
      MI.op (some 20) (.load true 2 (.tmp 19)) none,
      MI.op (some 5) (.alloc [(.str []), (.sl .full 0 [])]) none,
      MI.op none (.store 2 (.tmp 5) (.tmp 20)) none])
  m25_11))
  (.reg
   [MI.op (some 15) (.mov (.tmp 4)) none,
    MI.op (some 16) (.bin .add (.tmp 15) (.c (.int .i64 1))) none,
    MI.op (some 4) (.mov (.tmp 16)) none]))
def m25_13 : MCode :=
 (.seq
  (.seq
   (.reg
    [MI.op (some 11) (.mov (.tmp 4)) none,
     MI.op (some 12) (.mov (.tmp 0)) none,
     MI.op (some 13) (.len (.tmp 12)) none,
     MI.op (some 14) (.bin .lss (.tmp 11) (.tmp 13)) none])
   (.cond (.tmp 14)
    .skip
    (.exit 0)))
  m25_12)
def m25_14 : MCode :=
 (.blk 0
  (.loop
  m25_13))
def m25_15 : MCode :=
 (.seq
  (.seq
   (.reg
    [MI.op (some 4) (.mov (.c (.int .i64 0))) none])
  m25_14)
  (.seq
   (.reg
    [MI.op (some 2) (.mov (.c (.bool true))) none])
   .ret))
def m25_16 : MCode :=
 (.seq
  (.reg
   [MI.op (some 3) (.alloc (List.replicate 12 (.bool false))) none])
  m25_15)
def m25_17 : MCode :=
 (.seq
  (.seq
   (.reg
    [MI.op (some 8) (.mov (.tmp 0)) none,
     MI.op (some 9) (.len (.tmp 8)) none,
     MI.op (some 10) (.bin .gtr (.tmp 9) (.c (.int .i64 3))) none])
  m25_1)
  m25_16)
def m25_r : List MRes := [.tmp 2]
def m25_b : MCode :=
 (.seq
  (.reg
   [MI.op (some 2) (.mov (.c (.bool false))) none])
  m25_17)
def m25 : MFunc := ⟨1, 71, m25_r, m25_b⟩
theorem c25 : compF Tryd.prog 25 m25 = some m25 := by kernel_rfl

/- tollhouse/tollhousekeep.Volumes -/
def m15_1 : MCode :=
 (.cond (.tmp 10)
  (.seq
   (.reg
    [MI.op (some 4) (.mov (.c (.bool false))) none])
   .ret)
  .skip)
def m15_2 : MCode :=
 (.cond (.tmp 41)
  (.seq
   (.reg
    [MI.op (some 4) (.mov (.c (.bool false))) none])
   .ret)
  .skip)
def m15_3 : MCode :=
 (.seq
  (.blk 1
   (.seq
    (.drw
     [MI.op (some 17) (.mov (.tmp 0)) none,
      MI.op (some 18) (.mov (.tmp 5)) none,
      MI.op (some 19) (.ixSl 2 (.tmp 17) (.tmp 18)) none,
      MI.op (some 20) (.fa 0 (.tmp 19)) none,
      MI.op (some 21) (.load false 1 (.tmp 20)) none,
      MI.op (some 22) (.mov (.tmp 1)) none,
      MI.op (some 23) (.mov (.tmp 5)) none,
      MI.op (some 24) (.ixSl 2 (.tmp 22) (.tmp 23)) none,
      MI.op (some 25) (.fa 0 (.tmp 24)) none,
      MI.op (some 26) (.load false 1 (.tmp 25)) none,
      MI.op (some 27) (.bin .neq (.tmp 21) (.tmp 26)) none,
      MI.op (some 28) (.mov (.tmp 27)) none,
      MI.op (some 29) (.mov (.tmp 0)) (some (28, false)),
      MI.op (some 30) (.mov (.tmp 5)) (some (28, false)),
      MI.op (some 31) (.ixSl 2 (.tmp 29) (.tmp 30)) (some (28, false)),
      MI.op (some 32) (.fa 1 (.tmp 31)) (some (28, false)),
      MI.op (some 33) (.load false 1 (.tmp 32)) (some (28, false)),
      MI.op (some 34) (.mov (.tmp 1)) (some (28, false)),
      MI.op (some 35) (.mov (.tmp 5)) (some (28, false)),
      MI.op (some 36) (.ixSl 2 (.tmp 34) (.tmp 35)) (some (28, false)),
      MI.op (some 37) (.fa 1 (.tmp 36)) (some (28, false)),
      MI.op (some 38) (.load false 1 (.tmp 37)) (some (28, false))]
     [MI.op (some 39) (.call 36 [(.tmp 33), (.tmp 38)]) (some (28, false)),
      MI.op (some 40) (.un .not (.tmp 39)) (some (28, false)),
      MI.op (some 41) (.pick (.tmp 28) (.c (.bool true)) (.tmp 40)) none])
  m15_2))
  (.reg
   [MI.op (some 15) (.mov (.tmp 5)) none,
    MI.op (some 16) (.bin .add (.tmp 15) (.c (.int .i64 1))) none,
    MI.op (some 5) (.mov (.tmp 16)) none]))
def m15_4 : MCode :=
 (.seq
  (.seq
   (.reg
    [MI.op (some 11) (.mov (.tmp 5)) none,
     MI.op (some 12) (.mov (.tmp 0)) none,
     MI.op (some 13) (.len (.tmp 12)) none,
     MI.op (some 14) (.bin .lss (.tmp 11) (.tmp 13)) none])
   (.cond (.tmp 14)
    .skip
    (.exit 0)))
  m15_3)
def m15_5 : MCode :=
 (.blk 0
  (.loop
  m15_4))
def m15_6 : MCode :=
 (.seq
  (.seq
   (.reg
    [MI.op (some 5) (.mov (.c (.int .i64 0))) none])
  m15_5)
  (.seq
   (.reg
    [MI.op (some 4) (.mov (.c (.bool true))) none])
   .ret))
def m15_7 : MCode :=
 (.seq
  (.seq
   (.reg
    [MI.op (some 6) (.mov (.tmp 0)) none,
     MI.op (some 7) (.len (.tmp 6)) none,
     MI.op (some 8) (.mov (.tmp 1)) none,
     MI.op (some 9) (.len (.tmp 8)) none,
     MI.op (some 10) (.bin .neq (.tmp 7) (.tmp 9)) none])
  m15_1)
  m15_6)
def m15_r : List MRes := [.tmp 4]
def m15_b : MCode :=
 (.seq
  (.reg
   [MI.op (some 4) (.mov (.c (.bool false))) none])
  m15_7)
def m15 : MFunc := ⟨2, 42, m15_r, m15_b⟩
theorem c15 : compF Tryd.prog 15 m15 = some m15 := by kernel_rfl

/- tollhouse/table.Find -/
def m44_1 : MCode :=
 (.seq
  (.reg
   [MI.op (some 5) (.mov (.tmp 1)) none,
    MI.op (some 6) (.mkf 58 [(.tmp 2)]) none,
    MI.op (some 7) (.call 57 [(.tmp 5), (.tmp 6)]) none,
    MI.op (some 4) (.mov (.tmp 7)) none])
  .ret)
def m44_r : List MRes := [.tmp 4]
def m44_b : MCode :=
 (.seq
  (.reg
   [MI.op (some 2) (.box (.tmp 0)) none,
    MI.op (some 4) (.mov (.c (.int .i64 0))) none])
  m44_1)
def m44 : MFunc := ⟨2, 8, m44_r, m44_b⟩
theorem c44 : compF Tryd.prog 44 m44 = some m44 := by kernel_rfl

/- tollhouse/tollhouseref12.Find -/
def m45_1 : MCode :=
 (.seq
  (.reg
   [MI.op (some 19) (.mov (.tmp 5)) none,
    MI.op (some 4) (.mov (.tmp 19)) none])
  .ret)
def m45_2 : MCode :=
 (.cond (.tmp 18)
  m45_1
  .skip)
def m45_3 : MCode :=
 (.seq
  (.blk 1
   (.seq
    (.reg
     [MI.op (some 12) (.mov (.tmp 1)) none,
      MI.op (some 13) (.mov (.tmp 5)) none,
      MI.op (some 14) (.ixSl 2 (.tmp 12) (.tmp 13)) none,
      MI.op (some 15) (.fa 0 (.tmp 14)) none,
      MI.op (some 16) (.load false 1 (.tmp 15)) none,
      MI.op (some 17) (.mov (.tmp 0)) none,
      MI.op (some 18) (.bin .eql (.tmp 16) (.tmp 17)) none])
  m45_2))
  (.reg
   [MI.op (some 10) (.mov (.tmp 5)) none,
    MI.op (some 11) (.bin .add (.tmp 10) (.c (.int .i64 1))) none,
    MI.op (some 5) (.mov (.tmp 11)) none]))
def m45_4 : MCode :=
 (.seq
  (.seq
   (.reg
    [MI.op (some 6) (.mov (.tmp 5)) none,
     MI.op (some 7) (.mov (.tmp 1)) none,
     MI.op (some 8) (.len (.tmp 7)) none,
     MI.op (some 9) (.bin .lss (.tmp 6) (.tmp 8)) none])
   (.cond (.tmp 9)
    .skip
    (.exit 0)))
  m45_3)
def m45_5 : MCode :=
 (.blk 0
  (.loop
  m45_4))
def m45_6 : MCode :=
 (.seq
  (.seq
   (.reg
    [MI.op (some 5) (.mov (.c (.int .i64 0))) none])
  m45_5)
  (.seq
   (.reg
    [MI.op (some 4) (.mov (.c (.int .i64 (-1)))) none])
   .ret))
def m45_r : List MRes := [.tmp 4]
def m45_b : MCode :=
 (.seq
  (.reg
   [MI.op (some 4) (.mov (.c (.int .i64 0))) none])
  m45_6)
def m45 : MFunc := ⟨2, 20, m45_r, m45_b⟩
theorem c45 : compF Tryd.prog 45 m45 = some m45 := by kernel_rfl

/- slices.Contains[[]int,int] -/
def m65_1 : List MI :=
 [MI.op (some 8) (.bin .geq (.tmp 7) (.c (.int .i64 0))) none,
  MI.op (some 4) (.mov (.tmp 8)) none]
def m65_2 : MCode :=
 (.seq
  (.reg
   (MI.op (some 5) (.mov (.tmp 0)) none ::
    MI.op (some 6) (.mov (.tmp 1)) none ::
    MI.op (some 7) (.call 76 [(.tmp 5), (.tmp 6)]) none ::
    m65_1))
  .ret)
def m65_r : List MRes := [.tmp 4]
def m65_b : MCode :=
 (.seq
  (.reg
   [MI.op (some 4) (.mov (.c (.bool false))) none])
  m65_2)
def m65 : MFunc := ⟨2, 9, m65_r, m65_b⟩
theorem c65 : compF Tryd.prog 65 m65 = some m65 := by kernel_rfl

/- tollhouse/tollhousekeep.Ints -/
def m36_1 : MCode :=
 (.cond (.tmp 10)
  (.seq
   (.reg
    [MI.op (some 4) (.mov (.c (.bool false))) none])
   .ret)
  .skip)
def m36_2 : MCode :=
 (.cond (.tmp 25)
  (.seq
   (.reg
    [MI.op (some 4) (.mov (.c (.bool false))) none])
   .ret)
  .skip)
def m36_3 : MCode :=
 (.seq
  (.blk 1
   (.seq
    (.drw
     [MI.op (some 17) (.mov (.tmp 0)) none,
      MI.op (some 18) (.mov (.tmp 5)) none,
      MI.op (some 19) (.ixSl 1 (.tmp 17) (.tmp 18)) none,
      MI.op (some 20) (.load false 1 (.tmp 19)) none,
      MI.op (some 21) (.mov (.tmp 1)) none,
      MI.op (some 22) (.mov (.tmp 5)) none,
      MI.op (some 23) (.ixSl 1 (.tmp 21) (.tmp 22)) none,
      MI.op (some 24) (.load false 1 (.tmp 23)) none]
     [MI.op (some 25) (.bin .neq (.tmp 20) (.tmp 24)) none])
  m36_2))
  (.reg
   [MI.op (some 15) (.mov (.tmp 5)) none,
    MI.op (some 16) (.bin .add (.tmp 15) (.c (.int .i64 1))) none,
    MI.op (some 5) (.mov (.tmp 16)) none]))
def m36_4 : MCode :=
 (.seq
  (.seq
   (.reg
    [MI.op (some 11) (.mov (.tmp 5)) none,
     MI.op (some 12) (.mov (.tmp 0)) none,
     MI.op (some 13) (.len (.tmp 12)) none,
     MI.op (some 14) (.bin .lss (.tmp 11) (.tmp 13)) none])
   (.cond (.tmp 14)
    .skip
    (.exit 0)))
  m36_3)
def m36_5 : MCode :=
 (.blk 0
  (.loop
  m36_4))
def m36_6 : MCode :=
 (.seq
  (.seq
   (.reg
    [MI.op (some 5) (.mov (.c (.int .i64 0))) none])
  m36_5)
  (.seq
   (.reg
    [MI.op (some 4) (.mov (.c (.bool true))) none])
   .ret))
def m36_7 : MCode :=
 (.seq
  (.seq
   (.reg
    [MI.op (some 6) (.mov (.tmp 0)) none,
     MI.op (some 7) (.len (.tmp 6)) none,
     MI.op (some 8) (.mov (.tmp 1)) none,
     MI.op (some 9) (.len (.tmp 8)) none,
     MI.op (some 10) (.bin .neq (.tmp 7) (.tmp 9)) none])
  m36_1)
  m36_6)
def m36_r : List MRes := [.tmp 4]
def m36_b : MCode :=
 (.seq
  (.reg
   [MI.op (some 4) (.mov (.c (.bool false))) none])
  m36_7)
def m36 : MFunc := ⟨2, 26, m36_r, m36_b⟩
theorem c36 : compF Tryd.prog 36 m36 = some m36 := by kernel_rfl

/- slices.IndexFunc[[]tollhouse/api.Volume,tollhouse/api.Volume] -/
def m57_1 : MCode :=
 (.seq
  (.reg
   [MI.op (some 17) (.mov (.tmp 5)) none,
    MI.op (some 4) (.mov (.tmp 17)) none])
  .ret)
def m57_2 : MCode :=
 (.cond (.tmp 16)
  m57_1
  .skip)
def m57_3 : MCode :=
 (.seq
  (.reg
   [MI.op (some 11) (.mov (.tmp 1)) none,
    MI.op (some 12) (.mov (.tmp 0)) none,
    MI.op (some 13) (.mov (.tmp 5)) none,
    MI.op (some 14) (.ixSl 2 (.tmp 12) (.tmp 13)) none,
    MI.op (some 15) (.load true 2 (.tmp 14)) none,
    MI.op (some 16) (.calli (.tmp 11) [(.tmp 15)]) none])
  m57_2)
def m57_4 : MCode :=
 (.seq
  (.blk 1
   (.seq
    (.reg
     [MI.op (some 10) (.mov (.tmp 8)) none,
      MI.op (some 5) (.mov (.tmp 10)) none])
  m57_3))
  (.reg
   [MI.op (some 18) (.bin .add (.tmp 8) (.c (.int .i64 1))) none,
    MI.op (some 8) (.mov (.tmp 18)) none]))
def m57_5 : MCode :=
 (.seq
  (.cond (.tmp 9)
   .skip
   (.exit 0))
  m57_4)
def m57_6 : MCode :=
 (.seq
  (.reg
   [MI.op (some 9) (.bin .lss (.tmp 8) (.tmp 7)) none])
  m57_5)
def m57_7 : MCode :=
 (.blk 0
  (.loop
  m57_6))
def m57_8 : MCode :=
 (.seq
  (.seq
   (.reg
    [MI.op (some 6) (.mov (.tmp 0)) none,
     MI.op (some 7) (.len (.tmp 6)) none,
     MI.op (some 8) (.mov (.c (.int .i64 0))) none])
  m57_7)
  (.seq
   (.reg
    [MI.op (some 4) (.mov (.c (.int .i64 (-1)))) none])
   .ret))
def m57_r : List MRes := [.tmp 4]
def m57_b : MCode :=
 (.seq
  (.reg
   [MI.op (some 4) (.mov (.c (.int .i64 0))) none])
  m57_8)
def m57 : MFunc := ⟨2, 19, m57_r, m57_b⟩
theorem c57 : compF Tryd.prog 57 m57 = some m57 := by kernel_rfl

/- tollhouse/table.Find$1 -/
def m58_1 : MCode :=
 (.seq
  (.reg
   [MI.op (some 4) (.fa 0 (.tmp 2)) none,
    MI.op (some 5) (.load false 1 (.tmp 4)) none,
    MI.op (some 6) (.load false 1 (.tmp 1)) none,
    MI.op (some 7) (.bin .eql (.tmp 5) (.tmp 6)) none,
    MI.op (some 3) (.mov (.tmp 7)) none])
  .ret)
def m58_r : List MRes := [.tmp 3]
def m58_b : MCode :=
 (.seq
  (.reg
   [MI.op (some 2) (.box (.tmp 0)) none,
    MI.op (some 3) (.mov (.c (.bool false))) none])
  m58_1)
def m58 : MFunc := ⟨2, 8, m58_r, m58_b⟩
theorem c58 : compF Tryd.prog 58 m58 = some m58 := by kernel_rfl

/- slices.Index[[]int,int] -/
def m76_1 : MCode :=
 (.seq
  (.reg
   [MI.op (some 17) (.mov (.tmp 5)) none,
    MI.op (some 4) (.mov (.tmp 17)) none])
  .ret)
def m76_2 : MCode :=
 (.cond (.tmp 16)
  m76_1
  .skip)
def m76_3 : MCode :=
 (.seq
  (.reg
   [MI.op (some 11) (.mov (.tmp 1)) none,
    MI.op (some 12) (.mov (.tmp 0)) none,
    MI.op (some 13) (.mov (.tmp 5)) none,
    MI.op (some 14) (.ixSl 1 (.tmp 12) (.tmp 13)) none,
    MI.op (some 15) (.load false 1 (.tmp 14)) none,
    MI.op (some 16) (.bin .eql (.tmp 11) (.tmp 15)) none])
  m76_2)
def m76_4 : MCode :=
 (.seq
  (.blk 1
   (.seq
    (.reg
     [MI.op (some 10) (.mov (.tmp 8)) none,
      MI.op (some 5) (.mov (.tmp 10)) none])
  m76_3))
  (.reg
   [MI.op (some 18) (.bin .add (.tmp 8) (.c (.int .i64 1))) none,
    MI.op (some 8) (.mov (.tmp 18)) none]))
def m76_5 : MCode :=
 (.seq
  (.cond (.tmp 9)
   .skip
   (.exit 0))
  m76_4)
def m76_6 : MCode :=
 (.seq
  (.reg
   [MI.op (some 9) (.bin .lss (.tmp 8) (.tmp 7)) none])
  m76_5)
def m76_7 : MCode :=
 (.blk 0
  (.loop
  m76_6))
def m76_8 : MCode :=
 (.seq
  (.seq
   (.reg
    [MI.op (some 6) (.mov (.tmp 0)) none,
     MI.op (some 7) (.len (.tmp 6)) none,
     MI.op (some 8) (.mov (.c (.int .i64 0))) none])
  m76_7)
  (.seq
   (.reg
    [MI.op (some 4) (.mov (.c (.int .i64 (-1)))) none])
   .ret))
def m76_r : List MRes := [.tmp 4]
def m76_b : MCode :=
 (.seq
  (.reg
   [MI.op (some 4) (.mov (.c (.int .i64 0))) none])
  m76_8)
def m76 : MFunc := ⟨2, 19, m76_r, m76_b⟩
theorem c76 : compF Tryd.prog 76 m76 = some m76 := by kernel_rfl

end Go.Proofs.YtilbipknodpmmaaDoor
