/- The loaded functions as texts of the ideal machine (written by a program of ours), and that they are the loaded ones. -/
import Derived.Test.YtlbilkldjhhopaaE31
import Derived.Test.YtlbilkldjhhopaaProg
set_option linter.unusedSimpArgs false
set_option linter.unusedSectionVars false
set_option linter.unusedVariables false
namespace Go.Proofs.Ytlbilkldjhhopaa
open Go.RowKit

/- tollhouse/tollhouselaw01.ShaSums -/
def m3_1 : MCode :=
 (.seq
  (.reg
   [MI.op (some 9) (.call 15 []) none,
    MI.op (some 2) (.mov (.tmp 9)) none])
  .ret)
def m3_2 : MCode :=
 (.cond (.tmp 8)
  m3_1
  .skip)
def m3_3 : List MI :=
 [MI.op (some 4) (.alloc (List.replicate 32 (.int .u8 0))) none,
  MI.op none (.store 32 (.tmp 4) (.tmp 13)) none]
def m3_4 : MCode :=
 (.cond (.tmp 29)
  (.seq
   (.reg
    [MI.op (some 2) (.mov (.c (.bool false))) none])
   .ret)
  .skip)
def m3_5 : MCode :=
 (.seq
  (.blk 1
   (.seq
    (.drw
     [MI.op (some 20) (.mov (.tmp 3)) none,
      MI.op (some 21) (.mov (.tmp 5)) none,
      MI.op (some 22) (.ixSl 1 (.tmp 20) (.tmp 21)) none,
      MI.op (some 23) (.load false 1 (.tmp 22)) none,
      MI.op (some 24) (.mov (.tmp 0)) none,
      MI.op (some 25) (.mov (.tmp 5)) none,
      MI.op (some 26) (.ixSl 1 (.tmp 24) (.tmp 25)) none,
      MI.op (some 27) (.load false 1 (.tmp 26)) none]
     [MI.op (some 28) (.call 18 [(.tmp 23), (.tmp 27)]) none,
      MI.op (some 29) (.un .not (.tmp 28)) none])
  m3_4))
  (.reg
   [MI.op (some 18) (.mov (.tmp 5)) none,
    MI.op (some 19) (.bin .add (.tmp 18) (.c (.int .i64 1))) none,
    MI.op (some 5) (.mov (.tmp 19)) none]))
def m3_6 : MCode :=
 (.seq
  (.seq
   (.reg
    [MI.op (some 14) (.mov (.tmp 5)) none,
     MI.op (some 15) (.mov (.tmp 3)) none,
     MI.op (some 16) (.len (.tmp 15)) none,
     MI.op (some 17) (.bin .lss (.tmp 14) (.tmp 16)) none])
   (.cond (.tmp 17)
    .skip
    (.exit 0)))
  m3_5)
def m3_7 : MCode :=
 (.blk 0
  (.loop
  m3_6))
def m3_8 : MCode :=
 (.seq
  (.drw
   [MI.op (some 30) (.load true 32 (.tmp 4)) none,
    MI.op (some 31) (.mov (.tmp 0)) none,
    MI.op (some 32) (.call 19 [(.tmp 31)]) none]
   [MI.op (some 33) (.eqv false [(32, .i)] (.tmp 30) (.tmp 32)) none,
    MI.op (some 34) (.mov (.tmp 33)) none,
    MI.op (some 35) (.call 15 []) (some (34, true)),
    MI.op (some 36) (.pick (.tmp 34) (.tmp 35) (.c (.bool false))) none,
    MI.op (some 2) (.mov (.tmp 36)) none])
  .ret)
def m3_9 : MCode :=
 (.seq
  (.seq
   (.reg
    [MI.op (some 5) (.mov (.c (.int .i64 0))) none])
  m3_7)
  m3_8)
def m3_10 : MCode :=
 (.seq
  (.reg
   (MI.op (some 12) (.mov (.tmp 3)) none ::
    MI.op (some 13) (.call 17 [(.tmp 12)]) none ::
    m3_3))
  m3_9)
def m3_11 : MCode :=
 (.seq
  (.reg
   [MI.op (some 10) (.mov (.tmp 0)) none,
    MI.op (some 11) (.call 16 [(.tmp 10)]) none,
    MI.op (some 3) (.mov (.tmp 11)) none])
  m3_10)
def m3_12 : MCode :=
 (.seq
  (.seq
   (.reg
    [MI.op (some 6) (.mov (.tmp 0)) none,
     MI.op (some 7) (.call 14 [(.tmp 6)]) none,
     MI.op (some 8) (.un .not (.tmp 7)) none])
  m3_2)
  m3_11)
def m3_r : List MRes := [.tmp 2]
def m3_b : MCode :=
 (.seq
  (.reg
   [MI.op (some 2) (.mov (.c (.bool false))) none])
  m3_12)
def m3 : MFunc := ⟨1, 37, m3_r, m3_b⟩
theorem c3 : compF Try.prog 3 m3 = some m3 := by kernel_rfl

/- tollhouse/tollhouselaw01.ShaTurns -/
def m4_1 : MCode :=
 (.seq
  (.drw
   [MI.op (some 7) (.load true 8 (.tmp 3)) none,
    MI.op (some 8) (.load true 64 (.tmp 4)) none,
    MI.op (some 9) (.call 20 [(.tmp 7), (.tmp 8)]) none,
    MI.op (some 10) (.load true 8 (.tmp 3)) none,
    MI.op (some 11) (.load true 64 (.tmp 4)) none,
    MI.op (some 12) (.call 21 [(.tmp 10), (.tmp 11)]) none,
    MI.op (some 13) (.eqv false [(8, .i)] (.tmp 9) (.tmp 12)) none,
    MI.op (some 14) (.mov (.tmp 13)) none,
    MI.op (some 15) (.mov (.tmp 2)) (some (14, true)),
    MI.op (some 16) (.call 22 [(.tmp 15)]) (some (14, true)),
    MI.op (some 17) (.mov (.tmp 2)) (some (14, true))]
   [MI.op (some 18) (.call 23 [(.tmp 17)]) (some (14, true)),
    MI.op (some 19) (.call 18 [(.tmp 16), (.tmp 18)]) (some (14, true)),
    MI.op (some 20) (.pick (.tmp 14) (.tmp 19) (.c (.bool false))) none,
    MI.op (some 21) (.mov (.tmp 20)) none,
    MI.op (some 22) (.call 24 []) (some (21, true)),
    MI.op (some 23) (.call 25 []) (some (21, true)),
    MI.op (some 24) (.eqv false [(8, .i)] (.tmp 22) (.tmp 23)) (some (21, true)),
    MI.op (some 25) (.pick (.tmp 21) (.tmp 24) (.c (.bool false))) none,
    MI.op (some 26) (.mov (.tmp 25)) none,
    MI.op (some 27) (.call 15 []) (some (26, true)),
    MI.op (some 28) (.pick (.tmp 26) (.tmp 27) (.c (.bool false))) none,
    MI.op (some 6) (.mov (.tmp 28)) none])
  .ret)
def m4_r : List MRes := [.tmp 6]
def m4_b : MCode :=
 (.seq
  (.reg
   [MI.op (some 3) (.box (.tmp 0)) none,
    MI.op (some 4) (.box (.tmp 1)) none,
    MI.op (some 6) (.mov (.c (.bool false))) none])
  m4_1)
def m4 : MFunc := ⟨3, 29, m4_r, m4_b⟩
theorem c4 : compF Try.prog 4 m4 = some m4 := by kernel_rfl

/- tollhouse/tollhouselaw01.ShaParts -/
def m5_1 : MCode :=
 (.seq
  (.reg
   [MI.op (some 16) (.call 15 []) none,
    MI.op (some 4) (.mov (.tmp 16)) none])
  .ret)
def m5_2 : MCode :=
 (.cond (.tmp 15)
  m5_1
  .skip)
def m5_3 : List MI :=
 [MI.op (some 6) (.alloc (List.replicate 32 (.int .u8 0))) none,
  MI.op none (.store 32 (.tmp 6) (.tmp 24)) none]
def m5_4 : MCode :=
 (.cond (.tmp 34)
  (.seq
   (.reg
    [MI.op (some 4) (.mov (.c (.bool false))) none])
   .ret)
  .skip)
def m5_5 : List MI :=
 [MI.op (some 42) (.app 1 1 (.tmp 37) (.tmp 41)) none,
  MI.op (some 7) (.mov (.tmp 42)) none]
def m5_6 : MCode :=
 (.cond (.tmp 46)
  (.seq
   (.reg
    [MI.op (some 4) (.mov (.c (.bool false))) none])
   .ret)
  .skip)
def m5_7 : List MI :=
 [MI.op (some 8) (.alloc (List.replicate 8 (.int .u32 0))) none,
  MI.op none (.store 8 (.tmp 8) (.tmp 47)) none]
def m5_8 : MCode :=
 (.reg
  [MI.op (some 61) (.load true 8 (.tmp 8)) none,
   MI.op (some 62) (.load true 64 (.tmp 10)) none,
   MI.op (some 63) (.call 20 [(.tmp 61), (.tmp 62)]) none,
   MI.op none (.store 8 (.tmp 8) (.tmp 63)) none])
def m5_9 : MCode :=
 (.seq
  (.drw
   [MI.op (some 54) (.slArr 64 1 (.tmp 10) none none none) none,
    MI.op (some 55) (.mov (.tmp 7)) none,
    MI.op (some 56) (.mov (.tmp 9)) none,
    MI.op (some 57) (.mov (.tmp 9)) none,
    MI.op (some 58) (.bin .add (.tmp 57) (.c (.int .i64 64))) none,
    MI.op (some 59) (.slSl 1 (.tmp 55) (some (.tmp 56)) (some (.tmp 58)) none) none]
   [MI.op (some 60) (.copy 1 (.tmp 54) (.tmp 59)) none])
  m5_8)
def m5_10 : MCode :=
 (.seq
  (.blk 1
   (.seq
    (.reg
     [MI.op (some 10) (.alloc (List.replicate 64 (.int .u8 0))) none])
  m5_9))
  (.reg
   [MI.op (some 52) (.mov (.tmp 9)) none,
    MI.op (some 53) (.bin .add (.tmp 52) (.c (.int .i64 64))) none,
    MI.op (some 9) (.mov (.tmp 53)) none]))
def m5_11 : MCode :=
 (.seq
  (.seq
   (.reg
    [MI.op (some 48) (.mov (.tmp 9)) none,
     MI.op (some 49) (.mov (.tmp 7)) none,
     MI.op (some 50) (.len (.tmp 49)) none,
     MI.op (some 51) (.bin .lss (.tmp 48) (.tmp 50)) none])
   (.cond (.tmp 51)
    .skip
    (.exit 0)))
  m5_10)
def m5_12 : MCode :=
 (.blk 0
  (.loop
  m5_11))
def m5_13 : MCode :=
 (.seq
  (.blk 3
   (.reg
    [MI.op (some 68) (.mov (.tmp 12)) none,
     MI.op (some 69) (.mov (.tmp 12)) none,
     MI.op (some 70) (.bin .quo (.tmp 69) (.c (.int .i64 4))) none,
     MI.op (some 71) (.ixArr 8 1 (.tmp 8) (.tmp 70)) none,
     MI.op (some 72) (.load false 1 (.tmp 71)) none,
     MI.op (some 73) (.mov (.tmp 12)) none,
     MI.op (some 74) (.bin .rem (.tmp 73) (.c (.int .i64 4))) none,
     MI.op (some 75) (.bin .mul (.c (.int .i64 8)) (.tmp 74)) none,
     MI.op (some 76) (.bin .sub (.c (.int .i64 24)) (.tmp 75)) none,
     MI.op (some 77) (.toInt .u64 (.tmp 76)) none,
     MI.op (some 78) (.bin .shr (.tmp 72) (.tmp 77)) none,
     MI.op (some 79) (.toInt .u8 (.tmp 78)) none,
     MI.op (some 80) (.ixArr 32 1 (.tmp 11) (.tmp 68)) none,
     MI.op none (.store 1 (.tmp 80) (.tmp 79)) none]))
  (.reg
   [MI.op (some 66) (.mov (.tmp 12)) none,
    MI.op (some 67) (.bin .add (.tmp 66) (.c (.int .i64 1))) none,
    MI.op (some 12) (.mov (.tmp 67)) none]))
def m5_14 : MCode :=
 (.seq
  (.seq
   (.reg
    [MI.op (some 64) (.mov (.tmp 12)) none,
     MI.op (some 65) (.bin .lss (.tmp 64) (.c (.int .i64 32))) none])
   (.cond (.tmp 65)
    .skip
    (.exit 2)))
  m5_13)
def m5_15 : MCode :=
 (.blk 2
  (.loop
  m5_14))
def m5_16 : List MI :=
 [MI.op (some 86) (.pick (.tmp 84) (.tmp 85) (.c (.bool false))) none,
  MI.op (some 4) (.mov (.tmp 86)) none]
def m5_17 : MCode :=
 (.seq
  (.reg
   (MI.op (some 81) (.load true 32 (.tmp 11)) none ::
    MI.op (some 82) (.load true 32 (.tmp 6)) none ::
    MI.op (some 83) (.eqv false [(32, .i)] (.tmp 81) (.tmp 82)) none ::
    MI.op (some 84) (.mov (.tmp 83)) none ::
    MI.op (some 85) (.call 15 []) (some (84, true)) ::
    m5_16))
  .ret)
def m5_18 : MCode :=
 (.seq
  (.seq
   (.reg
    [MI.op (some 12) (.mov (.c (.int .i64 0))) none])
  m5_15)
  m5_17)
def m5_19 : MCode :=
 (.seq
  (.reg
   [MI.op (some 11) (.alloc (List.replicate 32 (.int .u8 0))) none])
  m5_18)
def m5_20 : MCode :=
 (.seq
  (.seq
   (.reg
    [MI.op (some 9) (.mov (.c (.int .i64 0))) none])
  m5_12)
  m5_19)
def m5_21 : MCode :=
 (.seq
  (.reg
   (MI.op (some 47) (.call 24 []) none ::
    m5_7))
  m5_20)
def m5_22 : MCode :=
 (.seq
  (.seq
   (.reg
    [MI.op (some 43) (.mov (.tmp 7)) none,
     MI.op (some 44) (.len (.tmp 43)) none,
     MI.op (some 45) (.bin .rem (.tmp 44) (.c (.int .i64 64))) none,
     MI.op (some 46) (.bin .neq (.tmp 45) (.c (.int .i64 0))) none])
  m5_6)
  m5_21)
def m5_23 : MCode :=
 (.seq
  (.reg
   (MI.op (some 35) (.bsl 0 1 [(.int .u8 0)] []) none ::
    MI.op (some 36) (.mov (.tmp 0)) none ::
    MI.op (some 37) (.app 1 1 (.tmp 35) (.tmp 36)) none ::
    MI.op (some 38) (.mov (.tmp 0)) none ::
    MI.op (some 39) (.len (.tmp 38)) none ::
    MI.op (some 40) (.toInt .u64 (.tmp 39)) none ::
    MI.op (some 41) (.call 22 [(.tmp 40)]) none ::
    m5_5))
  m5_22)
def m5_24 : MCode :=
 (.seq
  (.seq
   (.drw
    [MI.op (some 25) (.mov (.tmp 0)) none,
     MI.op (some 26) (.mov (.tmp 5)) none,
     MI.op (some 27) (.slSl 1 (.tmp 25) none (some (.tmp 26)) none) none,
     MI.op (some 28) (.mov (.tmp 0)) none,
     MI.op (some 29) (.mov (.tmp 5)) none,
     MI.op (some 30) (.slSl 1 (.tmp 28) (some (.tmp 29)) none none) none,
     MI.op (some 31) (.bsl 3 1 [(.sl .full 0 [])] [(0, 1, (.tmp 27)), (1, 1, (.c (.sl .full 0 []))), (2, 1, (.tmp 30))]) none,
     MI.op (some 32) (.call 17 [(.tmp 31)]) none,
     MI.op (some 33) (.load true 32 (.tmp 6)) none]
    [MI.op (some 34) (.eqv true [(32, .i)] (.tmp 32) (.tmp 33)) none])
  m5_4)
  m5_23)
def m5_25 : MCode :=
 (.seq
  (.reg
   (MI.op (some 22) (.mov (.tmp 0)) none ::
    MI.op (some 23) (.bsl 1 1 [(.sl .full 0 [])] [(0, 1, (.tmp 22))]) none ::
    MI.op (some 24) (.call 17 [(.tmp 23)]) none ::
    m5_3))
  m5_24)
def m5_26 : MCode :=
 (.seq
  (.reg
   [MI.op (some 17) (.mov (.tmp 1)) none,
    MI.op (some 18) (.mov (.tmp 0)) none,
    MI.op (some 19) (.len (.tmp 18)) none,
    MI.op (some 20) (.bin .add (.tmp 19) (.c (.int .i64 1))) none,
    MI.op (some 21) (.call 26 [(.tmp 17), (.tmp 20)]) none,
    MI.op (some 5) (.mov (.tmp 21)) none])
  m5_25)
def m5_27 : MCode :=
 (.seq
  (.seq
   (.reg
    [MI.op (some 13) (.mov (.tmp 0)) none,
     MI.op (some 14) (.len (.tmp 13)) none,
     MI.op (some 15) (.bin .gtr (.tmp 14) (.c (.int .i64 3000))) none])
  m5_2)
  m5_26)
def m5_r : List MRes := [.tmp 4]
def m5_b : MCode :=
 (.seq
  (.reg
   [MI.op (some 4) (.mov (.c (.bool false))) none])
  m5_27)
def m5 : MFunc := ⟨2, 87, m5_r, m5_b⟩
theorem c5 : compF Try.prog 5 m5 = some m5 := by kernel_rfl

/- tollhouse/tollhouselaw01.ShaPads -/
def m6_1 : MCode :=
 (.cond (.tmp 35)
  (.seq
   (.reg
    [MI.op (some 2) (.mov (.c (.bool false))) none])
   .ret)
  .skip)
def m6_2 : MCode :=
 (.seq
  (.blk 1
   (.reg
    [MI.op (some 45) (.mov (.tmp 5)) none,
     MI.op (some 46) (.bin .shl (.tmp 45) (.c (.int .u64 8))) none,
     MI.op (some 47) (.mov (.tmp 4)) none,
     MI.op (some 48) (.mov (.tmp 6)) none,
     MI.op (some 49) (.ixSl 1 (.tmp 47) (.tmp 48)) none,
     MI.op (some 50) (.load false 1 (.tmp 49)) none,
     MI.op (some 51) (.toInt .u64 (.tmp 50)) none,
     MI.op (some 52) (.bin .add (.tmp 46) (.tmp 51)) none,
     MI.op (some 5) (.mov (.tmp 52)) none]))
  (.reg
   [MI.op (some 43) (.mov (.tmp 6)) none,
    MI.op (some 44) (.bin .add (.tmp 43) (.c (.int .i64 1))) none,
    MI.op (some 6) (.mov (.tmp 44)) none]))
def m6_3 : MCode :=
 (.seq
  (.seq
   (.reg
    [MI.op (some 39) (.mov (.tmp 6)) none,
     MI.op (some 40) (.mov (.tmp 4)) none,
     MI.op (some 41) (.len (.tmp 40)) none,
     MI.op (some 42) (.bin .lss (.tmp 39) (.tmp 41)) none])
   (.cond (.tmp 42)
    .skip
    (.exit 0)))
  m6_2)
def m6_4 : MCode :=
 (.blk 0
  (.loop
  m6_3))
def m6_5 : MCode :=
 (.cond (.tmp 64)
  (.seq
   (.reg
    [MI.op (some 2) (.mov (.c (.bool false))) none])
   .ret)
  .skip)
def m6_6 : MCode :=
 (.seq
  (.blk 3
   (.seq
    (.reg
     [MI.op (some 60) (.mov (.tmp 4)) none,
      MI.op (some 61) (.mov (.tmp 7)) none,
      MI.op (some 62) (.ixSl 1 (.tmp 60) (.tmp 61)) none,
      MI.op (some 63) (.load false 1 (.tmp 62)) none,
      MI.op (some 64) (.bin .neq (.tmp 63) (.c (.int .u8 0))) none])
  m6_5))
  (.reg
   [MI.op (some 58) (.mov (.tmp 7)) none,
    MI.op (some 59) (.bin .add (.tmp 58) (.c (.int .i64 1))) none,
    MI.op (some 7) (.mov (.tmp 59)) none]))
def m6_7 : MCode :=
 (.seq
  (.seq
   (.reg
    [MI.op (some 53) (.mov (.tmp 7)) none,
     MI.op (some 54) (.mov (.tmp 4)) none,
     MI.op (some 55) (.len (.tmp 54)) none,
     MI.op (some 56) (.bin .sub (.tmp 55) (.c (.int .i64 8))) none,
     MI.op (some 57) (.bin .lss (.tmp 53) (.tmp 56)) none])
   (.cond (.tmp 57)
    .skip
    (.exit 2)))
  m6_6)
def m6_8 : MCode :=
 (.blk 2
  (.loop
  m6_7))
def m6_9 : List MI :=
 [MI.op (some 77) (.pick (.tmp 75) (.tmp 76) (.c (.bool false))) none,
  MI.op (some 2) (.mov (.tmp 77)) none]
def m6_10 : List MI :=
 (MI.op (some 74) (.pick (.tmp 69) (.tmp 73) (.c (.bool false))) none ::
  MI.op (some 75) (.mov (.tmp 74)) none ::
  MI.op (some 76) (.call 15 []) (some (75, true)) ::
  m6_9)
def m6_11 : List MI :=
 (MI.op (some 72) (.mov (.tmp 4)) (some (69, true)) ::
  MI.op (some 73) (.call 18 [(.tmp 71), (.tmp 72)]) (some (69, true)) ::
  m6_10)
def m6_12 : MCode :=
 (.seq
  (.reg
   (MI.op (some 65) (.mov (.tmp 5)) none ::
    MI.op (some 66) (.mov (.tmp 3)) none ::
    MI.op (some 67) (.bin .mul (.c (.int .u64 8)) (.tmp 66)) none ::
    MI.op (some 68) (.bin .eql (.tmp 65) (.tmp 67)) none ::
    MI.op (some 69) (.mov (.tmp 68)) none ::
    MI.op (some 70) (.mov (.tmp 0)) (some (69, true)) ::
    MI.op (some 71) (.call 22 [(.tmp 70)]) (some (69, true)) ::
    m6_11))
  .ret)
def m6_13 : MCode :=
 (.seq
  (.seq
   (.reg
    [MI.op (some 7) (.mov (.c (.int .i64 1))) none])
  m6_8)
  m6_12)
def m6_14 : MCode :=
 (.seq
  (.seq
   (.reg
    [MI.op (some 36) (.mov (.tmp 4)) none,
     MI.op (some 37) (.len (.tmp 36)) none,
     MI.op (some 38) (.bin .sub (.tmp 37) (.c (.int .i64 8))) none,
     MI.op (some 6) (.mov (.tmp 38)) none])
  m6_4)
  m6_13)
def m6_15 : MCode :=
 (.seq
  (.reg
   [MI.op (some 5) (.mov (.c (.int .u64 0))) none])
  m6_14)
def m6_16 : MCode :=
 (.seq
  (.seq
   (.reg
    [MI.op (some 12) (.mov (.tmp 4)) none,
     MI.op (some 13) (.len (.tmp 12)) none,
     MI.op (some 14) (.bin .lss (.tmp 13) (.c (.int .i64 9))) none,
     MI.op (some 15) (.mov (.tmp 14)) none,
     MI.op (some 16) (.mov (.tmp 4)) (some (15, false)),
     MI.op (some 17) (.len (.tmp 16)) (some (15, false)),
     MI.op (some 18) (.bin .gtr (.tmp 17) (.c (.int .i64 72))) (some (15, false)),
     MI.op (some 19) (.pick (.tmp 15) (.c (.bool true)) (.tmp 18)) none,
     MI.op (some 20) (.mov (.tmp 19)) none,
     MI.op (some 21) (.mov (.tmp 3)) (some (20, false)),
     MI.op (some 22) (.bin .rem (.tmp 21) (.c (.int .u64 64))) (some (20, false)),
     MI.op (some 23) (.mov (.tmp 4)) (some (20, false)),
     MI.op (some 24) (.len (.tmp 23)) (some (20, false)),
     MI.op (some 25) (.toInt .u64 (.tmp 24)) (some (20, false)),
     MI.op (some 26) (.bin .add (.tmp 22) (.tmp 25)) (some (20, false)),
     MI.op (some 27) (.bin .rem (.tmp 26) (.c (.int .u64 64))) (some (20, false)),
     MI.op (some 28) (.bin .neq (.tmp 27) (.c (.int .u64 0))) (some (20, false)),
     MI.op (some 29) (.pick (.tmp 20) (.c (.bool true)) (.tmp 28)) none,
     MI.op (some 30) (.mov (.tmp 29)) none,
     MI.op (some 31) (.mov (.tmp 4)) (some (30, false)),
     MI.op (some 32) (.ixSl 1 (.tmp 31) (.c (.int .i64 0))) (some (30, false)),
     MI.op (some 33) (.load false 1 (.tmp 32)) (some (30, false)),
     MI.op (some 34) (.bin .neq (.tmp 33) (.c (.int .u8 128))) (some (30, false)),
     MI.op (some 35) (.pick (.tmp 30) (.c (.bool true)) (.tmp 34)) none])
  m6_1)
  m6_15)
def m6_17 : MCode :=
 (.seq
  (.reg
   [MI.op (some 10) (.mov (.tmp 3)) none,
    MI.op (some 11) (.call 22 [(.tmp 10)]) none,
    MI.op (some 4) (.mov (.tmp 11)) none])
  m6_16)
def m6_18 : MCode :=
 (.seq
  (.reg
   [MI.op (some 8) (.mov (.tmp 0)) none,
    MI.op (some 9) (.bin .rem (.tmp 8) (.c (.int .u64 2305843009213693952))) none,
    MI.op (some 3) (.mov (.tmp 9)) none])
  m6_17)
def m6_r : List MRes := [.tmp 2]
def m6_b : MCode :=
 (.seq
  (.reg
   [MI.op (some 2) (.mov (.c (.bool false))) none])
  m6_18)
def m6 : MFunc := ⟨1, 78, m6_r, m6_b⟩
theorem c6 : compF Try.prog 6 m6 = some m6 := by kernel_rfl

/- tollhouse/tollhouselaw01.Fair -/
def m14_1 : MCode :=
 (.cond (.tmp 20)
  (.seq
   (.reg
    [MI.op (some 2) (.mov (.c (.bool false))) none])
   .ret)
  .skip)
def m14_2 : MCode :=
 (.seq
  (.reg
   [MI.op (some 19) (.mov (.tmp 3)) none,
    MI.op (some 20) (.bin .gtr (.tmp 19) (.c (.int .i64 3000))) none])
  m14_1)
def m14_3 : MCode :=
 (.seq
  (.blk 1
   (.seq
    (.reg
     [MI.op (some 11) (.mov (.tmp 3)) none,
      MI.op (some 12) (.mov (.tmp 0)) none,
      MI.op (some 13) (.mov (.tmp 4)) none,
      MI.op (some 14) (.ixSl 1 (.tmp 12) (.tmp 13)) none,
      MI.op (some 15) (.load false 1 (.tmp 14)) none,
      MI.op (some 16) (.len (.tmp 15)) none,
      MI.op (some 17) (.mnx true (.tmp 16) (.c (.int .i64 3001))) none,
      MI.op (some 18) (.bin .add (.tmp 11) (.tmp 17)) none,
      MI.op (some 3) (.mov (.tmp 18)) none])
  m14_2))
  (.reg
   [MI.op (some 9) (.mov (.tmp 4)) none,
    MI.op (some 10) (.bin .add (.tmp 9) (.c (.int .i64 1))) none,
    MI.op (some 4) (.mov (.tmp 10)) none]))
def m14_4 : MCode :=
 (.seq
  (.seq
   (.reg
    [MI.op (some 5) (.mov (.tmp 4)) none,
     MI.op (some 6) (.mov (.tmp 0)) none,
     MI.op (some 7) (.len (.tmp 6)) none,
     MI.op (some 8) (.bin .lss (.tmp 5) (.tmp 7)) none])
   (.cond (.tmp 8)
    .skip
    (.exit 0)))
  m14_3)
def m14_5 : MCode :=
 (.blk 0
  (.loop
  m14_4))
def m14_6 : MCode :=
 (.seq
  (.reg
   [MI.op (some 21) (.mov (.tmp 0)) none,
    MI.op (some 22) (.len (.tmp 21)) none,
    MI.op (some 23) (.bin .leq (.tmp 22) (.c (.int .i64 60))) none,
    MI.op (some 2) (.mov (.tmp 23)) none])
  .ret)
def m14_7 : MCode :=
 (.seq
  (.seq
   (.reg
    [MI.op (some 4) (.mov (.c (.int .i64 0))) none])
  m14_5)
  m14_6)
def m14_8 : MCode :=
 (.seq
  (.reg
   [MI.op (some 3) (.mov (.c (.int .i64 0))) none])
  m14_7)
def m14_r : List MRes := [.tmp 2]
def m14_b : MCode :=
 (.seq
  (.reg
   [MI.op (some 2) (.mov (.c (.bool false))) none])
  m14_8)
def m14 : MFunc := ⟨1, 24, m14_r, m14_b⟩
theorem c14 : compF Try.prog 14 m14 = some m14 := by kernel_rfl

/- tollhouse/tollhouselaw01.wakes -/
def m15_1 : List MI :=
 [MI.op (some 1) (.alloc (List.replicate 32 (.int .u8 0))) none,
  MI.op none (.store 32 (.tmp 1) (.tmp 9)) none]
def m15_2 : List MI :=
 [MI.op (some 2) (.alloc (List.replicate 32 (.int .u8 0))) none,
  MI.op none (.store 32 (.tmp 2) (.tmp 10)) none]
def m15_3 : List MI :=
 [MI.op (some 52) (.idx 8 1 false (.tmp 51) (.c (.int .i64 0))) (some (50, true)),
  MI.op (some 53) (.bin .eql (.tmp 52) (.c (.int .u32 1779033703))) (some (50, true)),
  MI.op (some 54) (.pick (.tmp 50) (.tmp 53) (.c (.bool false))) none,
  MI.op (some 55) (.mov (.tmp 54)) none,
  MI.op (some 56) (.mov (.tmp 3)) (some (55, true)),
  MI.op (some 57) (.len (.tmp 56)) (some (55, true)),
  MI.op (some 58) (.bin .eql (.tmp 57) (.c (.int .i64 61))) (some (55, true)),
  MI.op (some 59) (.pick (.tmp 55) (.tmp 58) (.c (.bool false))) none,
  MI.op (some 60) (.mov (.tmp 59)) none,
  MI.op (some 61) (.mov (.tmp 3)) (some (60, true)),
  MI.op (some 62) (.ixSl 1 (.tmp 61) (.c (.int .i64 0))) (some (60, true)),
  MI.op (some 63) (.load false 1 (.tmp 62)) (some (60, true)),
  MI.op (some 64) (.bin .eql (.tmp 63) (.c (.int .u8 128))) (some (60, true)),
  MI.op (some 65) (.pick (.tmp 60) (.tmp 64) (.c (.bool false))) none,
  MI.op (some 66) (.mov (.tmp 65)) none,
  MI.op (some 67) (.mov (.tmp 3)) (some (66, true)),
  MI.op (some 68) (.ixSl 1 (.tmp 67) (.c (.int .i64 60))) (some (66, true)),
  MI.op (some 69) (.load false 1 (.tmp 68)) (some (66, true)),
  MI.op (some 70) (.bin .eql (.tmp 69) (.c (.int .u8 24))) (some (66, true)),
  MI.op (some 71) (.pick (.tmp 66) (.tmp 70) (.c (.bool false))) none,
  MI.op (some 0) (.mov (.tmp 71)) none]
def m15_4 : MCode :=
 (.seq
  (.reg
   (MI.op (some 12) (.ixArr 32 1 (.tmp 1) (.c (.int .i64 0))) none ::
    MI.op (some 13) (.load false 1 (.tmp 12)) none ::
    MI.op (some 14) (.bin .eql (.tmp 13) (.c (.int .u8 186))) none ::
    MI.op (some 15) (.mov (.tmp 14)) none ::
    MI.op (some 16) (.ixArr 32 1 (.tmp 1) (.c (.int .i64 1))) (some (15, true)) ::
    MI.op (some 17) (.load false 1 (.tmp 16)) (some (15, true)) ::
    MI.op (some 18) (.bin .eql (.tmp 17) (.c (.int .u8 120))) (some (15, true)) ::
    MI.op (some 19) (.pick (.tmp 15) (.tmp 18) (.c (.bool false))) none ::
    MI.op (some 20) (.mov (.tmp 19)) none ::
    MI.op (some 21) (.ixArr 32 1 (.tmp 1) (.c (.int .i64 2))) (some (20, true)) ::
    MI.op (some 22) (.load false 1 (.tmp 21)) (some (20, true)) ::
    MI.op (some 23) (.bin .eql (.tmp 22) (.c (.int .u8 22))) (some (20, true)) ::
    MI.op (some 24) (.pick (.tmp 20) (.tmp 23) (.c (.bool false))) none ::
    MI.op (some 25) (.mov (.tmp 24)) none ::
    MI.op (some 26) (.ixArr 32 1 (.tmp 1) (.c (.int .i64 3))) (some (25, true)) ::
    MI.op (some 27) (.load false 1 (.tmp 26)) (some (25, true)) ::
    MI.op (some 28) (.bin .eql (.tmp 27) (.c (.int .u8 191))) (some (25, true)) ::
    MI.op (some 29) (.pick (.tmp 25) (.tmp 28) (.c (.bool false))) none ::
    MI.op (some 30) (.mov (.tmp 29)) none ::
    MI.op (some 31) (.ixArr 32 1 (.tmp 1) (.c (.int .i64 31))) (some (30, true)) ::
    MI.op (some 32) (.load false 1 (.tmp 31)) (some (30, true)) ::
    MI.op (some 33) (.bin .eql (.tmp 32) (.c (.int .u8 173))) (some (30, true)) ::
    MI.op (some 34) (.pick (.tmp 30) (.tmp 33) (.c (.bool false))) none ::
    MI.op (some 35) (.mov (.tmp 34)) none ::
    MI.op (some 36) (.ixArr 32 1 (.tmp 2) (.c (.int .i64 0))) (some (35, true)) ::
    MI.op (some 37) (.load false 1 (.tmp 36)) (some (35, true)) ::
    MI.op (some 38) (.bin .eql (.tmp 37) (.c (.int .u8 227))) (some (35, true)) ::
    MI.op (some 39) (.pick (.tmp 35) (.tmp 38) (.c (.bool false))) none ::
    MI.op (some 40) (.mov (.tmp 39)) none ::
    MI.op (some 41) (.ixArr 32 1 (.tmp 2) (.c (.int .i64 1))) (some (40, true)) ::
    MI.op (some 42) (.load false 1 (.tmp 41)) (some (40, true)) ::
    MI.op (some 43) (.bin .eql (.tmp 42) (.c (.int .u8 176))) (some (40, true)) ::
    MI.op (some 44) (.pick (.tmp 40) (.tmp 43) (.c (.bool false))) none ::
    MI.op (some 45) (.mov (.tmp 44)) none ::
    MI.op (some 46) (.ixArr 32 1 (.tmp 2) (.c (.int .i64 31))) (some (45, true)) ::
    MI.op (some 47) (.load false 1 (.tmp 46)) (some (45, true)) ::
    MI.op (some 48) (.bin .eql (.tmp 47) (.c (.int .u8 85))) (some (45, true)) ::
    MI.op (some 49) (.pick (.tmp 45) (.tmp 48) (.c (.bool false))) none ::
    MI.op (some 50) (.mov (.tmp 49)) none ::
    MI.op (some 51) (.call 24 []) (some (50, true)) ::
    m15_3))
  .ret)
def m15_5 : MCode :=
 (.seq
  (.reg
   [MI.op (some 11) (.call 22 [(.c (.int .u64 3))]) none,
    MI.op (some 3) (.mov (.tmp 11)) none])
  m15_4)
def m15_6 : MCode :=
 (.seq
  (.reg
   (MI.op (some 10) (.call 17 [(.c (.sl .full 0 []))]) none ::
    m15_2))
  m15_5)
def m15_7 : MCode :=
 (.seq
  (.reg
   (MI.op (some 4) (.bsl 1 1 [(.int .u8 0)] [(0, 1, (.c (.int .u8 97)))]) none ::
    MI.op (some 5) (.mark (.tmp 4)) none ::
    MI.op (some 6) (.bsl 2 1 [(.int .u8 0)] [(0, 1, (.c (.int .u8 98))), (1, 1, (.c (.int .u8 99)))]) none ::
    MI.op (some 7) (.mark (.tmp 6)) none ::
    MI.op (some 8) (.bsl 2 1 [(.sl .full 0 [])] [(0, 1, (.tmp 5)), (1, 1, (.tmp 7))]) none ::
    MI.op (some 9) (.call 17 [(.tmp 8)]) none ::
    m15_1))
  m15_6)
def m15_r : List MRes := [.tmp 0]
def m15_b : MCode :=
 (.seq
  (.reg
   [MI.op (some 0) (.mov (.c (.bool false))) none])
  m15_7)
def m15 : MFunc := ⟨0, 72, m15_r, m15_b⟩
theorem c15 : compF Try.prog 15 m15 = some m15 := by kernel_rfl

/- tollhouse/tollhouselaw01.Copy -/
def m16_1 : MCode :=
 (.seq
  (.blk 1
   (.reg
    [MI.op (some 11) (.mov (.tmp 3)) none,
     MI.op (some 12) (.bsl 0 1 [(.int .u8 0)] []) none,
     MI.op (some 13) (.mov (.tmp 0)) none,
     MI.op (some 14) (.mov (.tmp 4)) none,
     MI.op (some 15) (.ixSl 1 (.tmp 13) (.tmp 14)) none,
     MI.op (some 16) (.load false 1 (.tmp 15)) none,
     MI.op (some 17) (.appP 1 1 (.tmp 12) (.tmp 16)) none,
     MI.op (some 18) (.bsl 1 1 [(.sl .full 0 [])] [(0, 1, (.tmp 17))]) none,
     MI.op (some 19) (.app 1 24 (.tmp 11) (.tmp 18)) none,
     MI.op (some 3) (.mov (.tmp 19)) none]))
  (.reg
   [MI.op (some 9) (.mov (.tmp 4)) none,
    MI.op (some 10) (.bin .add (.tmp 9) (.c (.int .i64 1))) none,
    MI.op (some 4) (.mov (.tmp 10)) none]))
def m16_2 : MCode :=
 (.seq
  (.seq
   (.reg
    [MI.op (some 5) (.mov (.tmp 4)) none,
     MI.op (some 6) (.mov (.tmp 0)) none,
     MI.op (some 7) (.len (.tmp 6)) none,
     MI.op (some 8) (.bin .lss (.tmp 5) (.tmp 7)) none])
   (.cond (.tmp 8)
    .skip
    (.exit 0)))
  m16_1)
def m16_3 : MCode :=
 (.blk 0
  (.loop
  m16_2))
def m16_4 : MCode :=
 (.seq
  (.reg
   [MI.op (some 20) (.mov (.tmp 3)) none,
    MI.op (some 2) (.mov (.tmp 20)) none])
  .ret)
def m16_5 : MCode :=
 (.seq
  (.seq
   (.reg
    [MI.op (some 4) (.mov (.c (.int .i64 0))) none])
  m16_3)
  m16_4)
def m16_6 : MCode :=
 (.seq
  (.reg
   [MI.op (some 3) (.mov (.c (.sl .full 0 []))) none])
  m16_5)
def m16_r : List MRes := [.tmp 2]
def m16_b : MCode :=
 (.seq
  (.reg
   [MI.op (some 2) (.mov (.c (.sl .full 0 []))) none])
  m16_6)
def m16 : MFunc := ⟨1, 21, m16_r, m16_b⟩
theorem c16 : compF Try.prog 16 m16 = some m16 := by kernel_rfl

/- tollhouse/tollhousekeep.Bytes -/
def m18_1 : MCode :=
 (.seq
  (.reg
   [MI.op (some 5) (.mov (.tmp 0)) none,
    MI.op (some 6) (.toStr (.tmp 5)) none,
    MI.op (some 7) (.mov (.tmp 1)) none,
    MI.op (some 8) (.toStr (.tmp 7)) none,
    MI.op (some 9) (.bin .eql (.tmp 6) (.tmp 8)) none,
    MI.op (some 4) (.mov (.tmp 9)) none])
  .ret)
def m18_r : List MRes := [.tmp 4]
def m18_b : MCode :=
 (.seq
  (.reg
   [MI.op (some 4) (.mov (.c (.bool false))) none])
  m18_1)
def m18 : MFunc := ⟨2, 10, m18_r, m18_b⟩
theorem c18 : compF Try.prog 18 m18 = some m18 := by kernel_rfl

/- tollhouse/tollhouseref01.Sum -/
def m19_1 : MCode :=
 (.seq
  (.blk 1
   (.reg
    [MI.op (some 16) (.mov (.tmp 3)) none,
     MI.op (some 17) (.mov (.tmp 0)) none,
     MI.op (some 18) (.mov (.tmp 4)) none,
     MI.op (some 19) (.ixSl 1 (.tmp 17) (.tmp 18)) none,
     MI.op (some 20) (.load false 1 (.tmp 19)) none,
     MI.op (some 21) (.app 1 1 (.tmp 16) (.tmp 20)) none,
     MI.op (some 3) (.mov (.tmp 21)) none]))
  (.reg
   [MI.op (some 14) (.mov (.tmp 4)) none,
    MI.op (some 15) (.bin .add (.tmp 14) (.c (.int .i64 1))) none,
    MI.op (some 4) (.mov (.tmp 15)) none]))
def m19_2 : MCode :=
 (.seq
  (.seq
   (.reg
    [MI.op (some 10) (.mov (.tmp 4)) none,
     MI.op (some 11) (.mov (.tmp 0)) none,
     MI.op (some 12) (.len (.tmp 11)) none,
     MI.op (some 13) (.bin .lss (.tmp 10) (.tmp 12)) none])
   (.cond (.tmp 13)
    .skip
    (.exit 0)))
  m19_1)
def m19_3 : MCode :=
 (.blk 0
  (.loop
  m19_2))
def m19_4 : List MI :=
 [MI.op (some 27) (.app 1 1 (.tmp 22) (.tmp 26)) none,
  MI.op (some 3) (.mov (.tmp 27)) none]
def m19_5 : List MI :=
 [MI.op (some 5) (.alloc (List.replicate 8 (.int .u32 0))) none,
  MI.op none (.store 8 (.tmp 5) (.tmp 28)) none]
def m19_6 : MCode :=
 (.reg
  [MI.op (some 43) (.load true 8 (.tmp 5)) none,
   MI.op (some 44) (.load true 64 (.tmp 7)) none,
   MI.op (some 45) (.call 21 [(.tmp 43), (.tmp 44)]) none,
   MI.op none (.store 8 (.tmp 5) (.tmp 45)) none])
def m19_7 : MCode :=
 (.seq
  (.drw
   [MI.op (some 36) (.slArr 64 1 (.tmp 7) none none none) none,
    MI.op (some 37) (.mov (.tmp 3)) none,
    MI.op (some 38) (.mov (.tmp 6)) none,
    MI.op (some 39) (.mov (.tmp 6)) none,
    MI.op (some 40) (.bin .add (.tmp 39) (.c (.int .i64 64))) none,
    MI.op (some 41) (.slSl 1 (.tmp 37) (some (.tmp 38)) (some (.tmp 40)) none) none]
   [MI.op (some 42) (.copy 1 (.tmp 36) (.tmp 41)) none])
  m19_6)
def m19_8 : MCode :=
 (.seq
  (.blk 3
   (.seq
    (.reg
     [MI.op (some 7) (.alloc (List.replicate 64 (.int .u8 0))) none])
  m19_7))
  (.reg
   [MI.op (some 34) (.mov (.tmp 6)) none,
    MI.op (some 35) (.bin .add (.tmp 34) (.c (.int .i64 64))) none,
    MI.op (some 6) (.mov (.tmp 35)) none]))
def m19_9 : MCode :=
 (.seq
  (.seq
   (.reg
    [MI.op (some 29) (.mov (.tmp 6)) none,
     MI.op (some 30) (.bin .add (.tmp 29) (.c (.int .i64 64))) none,
     MI.op (some 31) (.mov (.tmp 3)) none,
     MI.op (some 32) (.len (.tmp 31)) none,
     MI.op (some 33) (.bin .leq (.tmp 30) (.tmp 32)) none])
   (.cond (.tmp 33)
    .skip
    (.exit 2)))
  m19_8)
def m19_10 : MCode :=
 (.blk 2
  (.loop
  m19_9))
def m19_11 : MCode :=
 (.seq
  (.blk 5
   (.reg
    [MI.op (some 50) (.mov (.tmp 9)) none,
     MI.op (some 51) (.mov (.tmp 9)) none,
     MI.op (some 52) (.bin .quo (.tmp 51) (.c (.int .i64 4))) none,
     MI.op (some 53) (.ixArr 8 1 (.tmp 5) (.tmp 52)) none,
     MI.op (some 54) (.load false 1 (.tmp 53)) none,
     MI.op (some 55) (.mov (.tmp 9)) none,
     MI.op (some 56) (.bin .rem (.tmp 55) (.c (.int .i64 4))) none,
     MI.op (some 57) (.bin .mul (.c (.int .i64 8)) (.tmp 56)) none,
     MI.op (some 58) (.bin .sub (.c (.int .i64 24)) (.tmp 57)) none,
     MI.op (some 59) (.toInt .u64 (.tmp 58)) none,
     MI.op (some 60) (.bin .shr (.tmp 54) (.tmp 59)) none,
     MI.op (some 61) (.toInt .u8 (.tmp 60)) none,
     MI.op (some 62) (.ixArr 32 1 (.tmp 8) (.tmp 50)) none,
     MI.op none (.store 1 (.tmp 62) (.tmp 61)) none]))
  (.reg
   [MI.op (some 48) (.mov (.tmp 9)) none,
    MI.op (some 49) (.bin .add (.tmp 48) (.c (.int .i64 1))) none,
    MI.op (some 9) (.mov (.tmp 49)) none]))
def m19_12 : MCode :=
 (.seq
  (.seq
   (.reg
    [MI.op (some 46) (.mov (.tmp 9)) none,
     MI.op (some 47) (.bin .lss (.tmp 46) (.c (.int .i64 32))) none])
   (.cond (.tmp 47)
    .skip
    (.exit 4)))
  m19_11)
def m19_13 : MCode :=
 (.blk 4
  (.loop
  m19_12))
def m19_14 : MCode :=
 (.seq
  (.reg
   [MI.op (some 63) (.load true 32 (.tmp 8)) none,
    MI.op none (.store 32 (.tmp 2) (.tmp 63)) none])
  .ret)
def m19_15 : MCode :=
 (.seq
  (.seq
   (.reg
    [MI.op (some 9) (.mov (.c (.int .i64 0))) none])
  m19_13)
  m19_14)
def m19_16 : MCode :=
 (.seq
  (.reg
   [MI.op (some 8) (.alloc (List.replicate 32 (.int .u8 0))) none])
  m19_15)
def m19_17 : MCode :=
 (.seq
  (.seq
   (.reg
    [MI.op (some 6) (.mov (.c (.int .i64 0))) none])
  m19_10)
  m19_16)
def m19_18 : MCode :=
 (.seq
  (.reg
   (MI.op (some 28) (.call 25 []) none ::
    m19_5))
  m19_17)
def m19_19 : MCode :=
 (.seq
  (.reg
   (MI.op (some 22) (.mov (.tmp 3)) none ::
    MI.op (some 23) (.mov (.tmp 3)) none ::
    MI.op (some 24) (.len (.tmp 23)) none ::
    MI.op (some 25) (.toInt .u64 (.tmp 24)) none ::
    MI.op (some 26) (.call 23 [(.tmp 25)]) none ::
    m19_4))
  m19_18)
def m19_20 : MCode :=
 (.seq
  (.seq
   (.reg
    [MI.op (some 4) (.mov (.c (.int .i64 0))) none])
  m19_3)
  m19_19)
def m19_21 : MCode :=
 (.seq
  (.reg
   [MI.op (some 3) (.mov (.c (.sl .full 0 []))) none])
  m19_20)
def m19_r : List MRes := [.cell 2 true 32]
def m19_b : MCode :=
 (.seq
  (.reg
   [MI.op (some 2) (.alloc (List.replicate 32 (.int .u8 0))) none])
  m19_21)
def m19 : MFunc := ⟨1, 64, m19_r, m19_b⟩
theorem c19 : compF Try.prog 19 m19 = some m19 := by kernel_rfl

/- tollhouse/sha.Turn -/
def m20_1 : List MI :=
 [MI.op (some 5) (.alloc (List.replicate 64 (.int .u32 0))) none,
  MI.op none (.store 64 (.tmp 5) (.tmp 18)) none]
def m20_2 : List MI :=
 [MI.op (some 60) (.mov (.tmp 9)) none,
  MI.op (some 61) (.mov (.tmp 10)) none,
  MI.op (some 62) (.bin .and (.tmp 60) (.tmp 61)) none,
  MI.op (some 63) (.mov (.tmp 9)) none,
  MI.op (some 64) (.mov (.tmp 11)) none,
  MI.op (some 65) (.bin .and (.tmp 63) (.tmp 64)) none,
  MI.op (some 66) (.bin .xor (.tmp 62) (.tmp 65)) none,
  MI.op (some 67) (.mov (.tmp 10)) none,
  MI.op (some 68) (.mov (.tmp 11)) none,
  MI.op (some 69) (.bin .and (.tmp 67) (.tmp 68)) none,
  MI.op (some 70) (.bin .xor (.tmp 66) (.tmp 69)) none,
  MI.op (some 71) (.bin .add (.tmp 59) (.tmp 70)) none,
  MI.op (some 16) (.mov (.tmp 71)) none]
def m20_3 : MCode :=
 (.reg
  [MI.op (some 72) (.mov (.tmp 15)) none,
   MI.op (some 73) (.mov (.tmp 16)) none,
   MI.op (some 74) (.bin .add (.tmp 72) (.tmp 73)) none,
   MI.op (some 75) (.mov (.tmp 9)) none,
   MI.op (some 76) (.mov (.tmp 10)) none,
   MI.op (some 77) (.mov (.tmp 11)) none,
   MI.op (some 78) (.ixArr 8 1 (.tmp 6) (.c (.int .i64 3))) none,
   MI.op (some 79) (.load false 1 (.tmp 78)) none,
   MI.op (some 80) (.mov (.tmp 15)) none,
   MI.op (some 81) (.bin .add (.tmp 79) (.tmp 80)) none,
   MI.op (some 82) (.mov (.tmp 12)) none,
   MI.op (some 83) (.mov (.tmp 13)) none,
   MI.op (some 84) (.mov (.tmp 14)) none,
   MI.op (some 85) (.build (List.replicate 8 (.int .u32 0)) [(0, 1, (.tmp 74)), (1, 1, (.tmp 75)), (2, 1, (.tmp 76)), (3, 1, (.tmp 77)), (4, 1, (.tmp 81)), (5, 1, (.tmp 82)), (6, 1, (.tmp 83)), (7, 1, (.tmp 84))]) none,
   MI.op none (.store 8 (.tmp 6) (.tmp 85)) none])
def m20_4 : MCode :=
 (.seq
  (.reg
   (MI.op (some 58) (.mov (.tmp 9)) none ::
    MI.op (some 59) (.call 42 [(.tmp 58), (.c (.int .i64 2)), (.c (.int .i64 13)), (.c (.int .i64 22)), (.c (.bool false))]) none ::
    m20_2))
  m20_3)
def m20_5 : MCode :=
 (.seq
  (.drw
   [MI.op (some 38) (.ixArr 8 1 (.tmp 6) (.c (.int .i64 7))) none,
    MI.op (some 39) (.load false 1 (.tmp 38)) none,
    MI.op (some 40) (.mov (.tmp 12)) none,
    MI.op (some 41) (.call 42 [(.tmp 40), (.c (.int .i64 6)), (.c (.int .i64 11)), (.c (.int .i64 25)), (.c (.bool false))]) none,
    MI.op (some 42) (.bin .add (.tmp 39) (.tmp 41)) none,
    MI.op (some 43) (.mov (.tmp 12)) none,
    MI.op (some 44) (.mov (.tmp 13)) none,
    MI.op (some 45) (.bin .and (.tmp 43) (.tmp 44)) none,
    MI.op (some 46) (.mov (.tmp 12)) none,
    MI.op (some 47) (.un .xor (.tmp 46)) none,
    MI.op (some 48) (.mov (.tmp 14)) none,
    MI.op (some 49) (.bin .and (.tmp 47) (.tmp 48)) none,
    MI.op (some 50) (.bin .xor (.tmp 45) (.tmp 49)) none,
    MI.op (some 51) (.bin .add (.tmp 42) (.tmp 50)) none,
    MI.op (some 52) (.mov (.tmp 7)) none,
    MI.op (some 53) (.ixArr 64 1 (.tmp 5) (.tmp 52)) none,
    MI.op (some 54) (.load false 1 (.tmp 53)) none,
    MI.op (some 55) (.bin .add (.tmp 51) (.tmp 54)) none,
    MI.op (some 56) (.mov (.tmp 8)) none]
   [MI.op (some 57) (.bin .add (.tmp 55) (.tmp 56)) none,
    MI.op (some 15) (.mov (.tmp 57)) none])
  m20_4)
def m20_6 : MCode :=
 (.seq
  (.drw
   [MI.op (some 26) (.ixArr 8 1 (.tmp 6) (.c (.int .i64 0))) none,
    MI.op (some 27) (.load false 1 (.tmp 26)) none,
    MI.op (some 28) (.ixArr 8 1 (.tmp 6) (.c (.int .i64 1))) none,
    MI.op (some 29) (.load false 1 (.tmp 28)) none,
    MI.op (some 30) (.ixArr 8 1 (.tmp 6) (.c (.int .i64 2))) none,
    MI.op (some 31) (.load false 1 (.tmp 30)) none,
    MI.op (some 32) (.ixArr 8 1 (.tmp 6) (.c (.int .i64 4))) none,
    MI.op (some 33) (.load false 1 (.tmp 32)) none,
    MI.op (some 34) (.ixArr 8 1 (.tmp 6) (.c (.int .i64 5))) none,
    MI.op (some 35) (.load false 1 (.tmp 34)) none,
    MI.op (some 36) (.ixArr 8 1 (.tmp 6) (.c (.int .i64 6))) none,
    MI.op (some 37) (.load false 1 (.tmp 36)) none,
    MI.op (some 9) (.mov (.tmp 27)) none,
    MI.op (some 10) (.mov (.tmp 29)) none,
    MI.op (some 11) (.mov (.tmp 31)) none,
    MI.op (some 12) (.mov (.tmp 33)) none,
    MI.op (some 13) (.mov (.tmp 35)) none]
   [MI.op (some 14) (.mov (.tmp 37)) none])
  m20_5)
def m20_7 : MCode :=
 (.seq
  (.blk 1
   (.seq
    (.reg
     [MI.op (some 24) (.mov (.tmp 22)) none,
      MI.op (some 25) (.idx 64 1 false (.tmp 21) (.tmp 22)) none,
      MI.op (some 7) (.mov (.tmp 24)) none,
      MI.op (some 8) (.mov (.tmp 25)) none])
  m20_6))
  (.reg
   [MI.op (some 86) (.bin .add (.tmp 22) (.c (.int .i64 1))) none,
    MI.op (some 22) (.mov (.tmp 86)) none]))
def m20_8 : MCode :=
 (.seq
  (.cond (.tmp 23)
   .skip
   (.exit 0))
  m20_7)
def m20_9 : MCode :=
 (.seq
  (.reg
   [MI.op (some 23) (.bin .lss (.tmp 22) (.c (.int .i64 64))) none])
  m20_8)
def m20_10 : MCode :=
 (.blk 0
  (.loop
  m20_9))
def m20_11 : MCode :=
 (.drw
  [MI.op (some 90) (.mov (.tmp 17)) none,
   MI.op (some 91) (.ixArr 8 1 (.tmp 6) (.tmp 90)) none,
   MI.op (some 92) (.load false 1 (.tmp 91)) none,
   MI.op (some 93) (.mov (.tmp 17)) none,
   MI.op (some 94) (.ixArr 8 1 (.tmp 2) (.tmp 93)) none,
   MI.op (some 95) (.load false 1 (.tmp 94)) none]
  [MI.op (some 96) (.bin .add (.tmp 92) (.tmp 95)) none,
   MI.op (some 97) (.ixArr 8 1 (.tmp 6) (.tmp 90)) none,
   MI.op none (.store 1 (.tmp 97) (.tmp 96)) none])
def m20_12 : MCode :=
 (.seq
  (.blk 3
   (.seq
    (.reg
     [MI.op (some 89) (.mov (.tmp 87)) none,
      MI.op (some 17) (.mov (.tmp 89)) none])
  m20_11))
  (.reg
   [MI.op (some 98) (.bin .add (.tmp 87) (.c (.int .i64 1))) none,
    MI.op (some 87) (.mov (.tmp 98)) none]))
def m20_13 : MCode :=
 (.seq
  (.cond (.tmp 88)
   .skip
   (.exit 2))
  m20_12)
def m20_14 : MCode :=
 (.seq
  (.reg
   [MI.op (some 88) (.bin .lss (.tmp 87) (.c (.int .i64 8))) none])
  m20_13)
def m20_15 : MCode :=
 (.blk 2
  (.loop
  m20_14))
def m20_16 : MCode :=
 (.seq
  (.reg
   [MI.op (some 99) (.load true 8 (.tmp 6)) none,
    MI.op none (.store 8 (.tmp 4) (.tmp 99)) none])
  .ret)
def m20_17 : MCode :=
 (.seq
  (.seq
   (.reg
    [MI.op (some 87) (.mov (.c (.int .i64 0))) none])
  m20_15)
  m20_16)
def m20_18 : MCode :=
 (.seq
  (.seq
   (.reg
    [MI.op (some 20) (.load true 64 (.tmp 3)) none,
     MI.op (some 21) (.call 41 [(.tmp 20)]) none,
     MI.op (some 22) (.mov (.c (.int .i64 0))) none])
  m20_10)
  m20_17)
def m20_19 : MCode :=
 (.seq
  (.reg
   [MI.op (some 19) (.load true 8 (.tmp 2)) none,
    MI.op (some 6) (.alloc (List.replicate 8 (.int .u32 0))) none,
    MI.op none (.store 8 (.tmp 6) (.tmp 19)) none])
  m20_18)
def m20_20 : MCode :=
 (.seq
  (.reg
   (MI.op (some 18) (.call 40 []) none ::
    m20_1))
  m20_19)
def m20_r : List MRes := [.cell 4 true 8]
def m20_b : MCode :=
 (.seq
  (.reg
   [MI.op (some 2) (.box (.tmp 0)) none,
    MI.op (some 3) (.box (.tmp 1)) none,
    MI.op (some 4) (.alloc (List.replicate 8 (.int .u32 0))) none])
  m20_20)
def m20 : MFunc := ⟨2, 100, m20_r, m20_b⟩
theorem c20 : compF Try.prog 20 m20 = some m20 := by kernel_rfl

/- tollhouse/tollhouseref01.Turn -/
def m21_1 : MCode :=
 (.seq
  (.drw
   [MI.op (some 27) (.mov (.tmp 6)) none,
    MI.op (some 28) (.mov (.tmp 6)) none,
    MI.op (some 29) (.bin .mul (.c (.int .i64 4)) (.tmp 28)) none,
    MI.op (some 30) (.ixArr 64 1 (.tmp 3) (.tmp 29)) none,
    MI.op (some 31) (.load false 1 (.tmp 30)) none,
    MI.op (some 32) (.toInt .u32 (.tmp 31)) none,
    MI.op (some 33) (.bin .shl (.tmp 32) (.c (.int .u64 24))) none,
    MI.op (some 34) (.mov (.tmp 6)) none,
    MI.op (some 35) (.bin .mul (.c (.int .i64 4)) (.tmp 34)) none,
    MI.op (some 36) (.bin .add (.tmp 35) (.c (.int .i64 1))) none,
    MI.op (some 37) (.ixArr 64 1 (.tmp 3) (.tmp 36)) none,
    MI.op (some 38) (.load false 1 (.tmp 37)) none,
    MI.op (some 39) (.toInt .u32 (.tmp 38)) none,
    MI.op (some 40) (.bin .shl (.tmp 39) (.c (.int .u64 16))) none,
    MI.op (some 41) (.bin .or (.tmp 33) (.tmp 40)) none,
    MI.op (some 42) (.mov (.tmp 6)) none,
    MI.op (some 43) (.bin .mul (.c (.int .i64 4)) (.tmp 42)) none,
    MI.op (some 44) (.bin .add (.tmp 43) (.c (.int .i64 2))) none,
    MI.op (some 45) (.ixArr 64 1 (.tmp 3) (.tmp 44)) none,
    MI.op (some 46) (.load false 1 (.tmp 45)) none,
    MI.op (some 47) (.toInt .u32 (.tmp 46)) none,
    MI.op (some 48) (.bin .shl (.tmp 47) (.c (.int .u64 8))) none,
    MI.op (some 49) (.bin .or (.tmp 41) (.tmp 48)) none,
    MI.op (some 50) (.mov (.tmp 6)) none,
    MI.op (some 51) (.bin .mul (.c (.int .i64 4)) (.tmp 50)) none,
    MI.op (some 52) (.bin .add (.tmp 51) (.c (.int .i64 3))) none,
    MI.op (some 53) (.ixArr 64 1 (.tmp 3) (.tmp 52)) none,
    MI.op (some 54) (.load false 1 (.tmp 53)) none,
    MI.op (some 55) (.toInt .u32 (.tmp 54)) none,
    MI.op (some 56) (.bin .or (.tmp 49) (.tmp 55)) none]
   [MI.op (some 57) (.ixArr 64 1 (.tmp 5) (.tmp 27)) none,
    MI.op none (.store 1 (.tmp 57) (.tmp 56)) none])
  (.exit 1))
def m21_2 : MCode :=
 (.cond (.tmp 26)
  m21_1
  .skip)
def m21_3 : MCode :=
 (.drw
  [MI.op (some 66) (.mov (.tmp 6)) none,
   MI.op (some 67) (.mov (.tmp 8)) none,
   MI.op (some 68) (.call 43 [(.tmp 67), (.c (.int .u64 17))]) none,
   MI.op (some 69) (.mov (.tmp 8)) none,
   MI.op (some 70) (.call 43 [(.tmp 69), (.c (.int .u64 19))]) none,
   MI.op (some 71) (.bin .xor (.tmp 68) (.tmp 70)) none,
   MI.op (some 72) (.mov (.tmp 8)) none,
   MI.op (some 73) (.bin .shr (.tmp 72) (.c (.int .u64 10))) none,
   MI.op (some 74) (.bin .xor (.tmp 71) (.tmp 73)) none,
   MI.op (some 75) (.mov (.tmp 6)) none,
   MI.op (some 76) (.bin .sub (.tmp 75) (.c (.int .i64 7))) none,
   MI.op (some 77) (.ixArr 64 1 (.tmp 5) (.tmp 76)) none,
   MI.op (some 78) (.load false 1 (.tmp 77)) none,
   MI.op (some 79) (.bin .add (.tmp 74) (.tmp 78)) none,
   MI.op (some 80) (.mov (.tmp 7)) none,
   MI.op (some 81) (.call 43 [(.tmp 80), (.c (.int .u64 7))]) none,
   MI.op (some 82) (.mov (.tmp 7)) none,
   MI.op (some 83) (.call 43 [(.tmp 82), (.c (.int .u64 18))]) none,
   MI.op (some 84) (.bin .xor (.tmp 81) (.tmp 83)) none,
   MI.op (some 85) (.mov (.tmp 7)) none,
   MI.op (some 86) (.bin .shr (.tmp 85) (.c (.int .u64 3))) none,
   MI.op (some 87) (.bin .xor (.tmp 84) (.tmp 86)) none,
   MI.op (some 88) (.bin .add (.tmp 79) (.tmp 87)) none,
   MI.op (some 89) (.mov (.tmp 6)) none,
   MI.op (some 90) (.bin .sub (.tmp 89) (.c (.int .i64 16))) none,
   MI.op (some 91) (.ixArr 64 1 (.tmp 5) (.tmp 90)) none,
   MI.op (some 92) (.load false 1 (.tmp 91)) none,
   MI.op (some 93) (.bin .add (.tmp 88) (.tmp 92)) none]
  [MI.op (some 94) (.ixArr 64 1 (.tmp 5) (.tmp 66)) none,
   MI.op none (.store 1 (.tmp 94) (.tmp 93)) none])
def m21_4 : MCode :=
 (.seq
  (.drw
   [MI.op (some 58) (.mov (.tmp 6)) none,
    MI.op (some 59) (.bin .sub (.tmp 58) (.c (.int .i64 15))) none,
    MI.op (some 60) (.ixArr 64 1 (.tmp 5) (.tmp 59)) none,
    MI.op (some 61) (.load false 1 (.tmp 60)) none,
    MI.op (some 62) (.mov (.tmp 6)) none,
    MI.op (some 63) (.bin .sub (.tmp 62) (.c (.int .i64 2))) none,
    MI.op (some 64) (.ixArr 64 1 (.tmp 5) (.tmp 63)) none,
    MI.op (some 65) (.load false 1 (.tmp 64)) none,
    MI.op (some 7) (.mov (.tmp 61)) none]
   [MI.op (some 8) (.mov (.tmp 65)) none])
  m21_3)
def m21_5 : MCode :=
 (.seq
  (.blk 1
   (.seq
    (.seq
     (.reg
      [MI.op (some 25) (.mov (.tmp 6)) none,
       MI.op (some 26) (.bin .lss (.tmp 25) (.c (.int .i64 16))) none])
  m21_2)
  m21_4))
  (.reg
   [MI.op (some 23) (.mov (.tmp 6)) none,
    MI.op (some 24) (.bin .add (.tmp 23) (.c (.int .i64 1))) none,
    MI.op (some 6) (.mov (.tmp 24)) none]))
def m21_6 : MCode :=
 (.seq
  (.seq
   (.reg
    [MI.op (some 21) (.mov (.tmp 6)) none,
     MI.op (some 22) (.bin .lss (.tmp 21) (.c (.int .i64 64))) none])
   (.cond (.tmp 22)
    .skip
    (.exit 0)))
  m21_5)
def m21_7 : MCode :=
 (.blk 0
  (.loop
  m21_6))
def m21_8 : List MI :=
 [MI.op (some 9) (.alloc (List.replicate 64 (.int .u32 0))) none,
  MI.op none (.store 64 (.tmp 9) (.tmp 95)) none]
def m21_9 : List MI :=
 [MI.op (some 148) (.bin .xor (.tmp 145) (.tmp 147)) none,
  MI.op (some 149) (.mov (.tmp 12)) none,
  MI.op (some 150) (.mov (.tmp 13)) none,
  MI.op (some 151) (.bin .and (.tmp 149) (.tmp 150)) none,
  MI.op (some 152) (.mov (.tmp 12)) none,
  MI.op (some 153) (.mov (.tmp 14)) none,
  MI.op (some 154) (.bin .and (.tmp 152) (.tmp 153)) none,
  MI.op (some 155) (.bin .xor (.tmp 151) (.tmp 154)) none,
  MI.op (some 156) (.mov (.tmp 13)) none,
  MI.op (some 157) (.mov (.tmp 14)) none,
  MI.op (some 158) (.bin .and (.tmp 156) (.tmp 157)) none,
  MI.op (some 159) (.bin .xor (.tmp 155) (.tmp 158)) none,
  MI.op (some 160) (.bin .add (.tmp 148) (.tmp 159)) none,
  MI.op (some 19) (.mov (.tmp 160)) none]
def m21_10 : List MI :=
 (MI.op (some 145) (.bin .xor (.tmp 142) (.tmp 144)) none ::
  MI.op (some 146) (.mov (.tmp 12)) none ::
  MI.op (some 147) (.call 43 [(.tmp 146), (.c (.int .u64 22))]) none ::
  m21_9)
def m21_11 : List MI :=
 (MI.op (some 143) (.mov (.tmp 12)) none ::
  MI.op (some 144) (.call 43 [(.tmp 143), (.c (.int .u64 13))]) none ::
  m21_10)
def m21_12 : MCode :=
 (.reg
  [MI.op (some 161) (.mov (.tmp 18)) none,
   MI.op (some 162) (.mov (.tmp 19)) none,
   MI.op (some 163) (.bin .add (.tmp 161) (.tmp 162)) none,
   MI.op (some 164) (.mov (.tmp 12)) none,
   MI.op (some 165) (.mov (.tmp 13)) none,
   MI.op (some 166) (.mov (.tmp 14)) none,
   MI.op (some 167) (.ixArr 8 1 (.tmp 10) (.c (.int .i64 3))) none,
   MI.op (some 168) (.load false 1 (.tmp 167)) none,
   MI.op (some 169) (.mov (.tmp 18)) none,
   MI.op (some 170) (.bin .add (.tmp 168) (.tmp 169)) none,
   MI.op (some 171) (.mov (.tmp 15)) none,
   MI.op (some 172) (.mov (.tmp 16)) none,
   MI.op (some 173) (.mov (.tmp 17)) none,
   MI.op (some 174) (.build (List.replicate 8 (.int .u32 0)) [(0, 1, (.tmp 163)), (1, 1, (.tmp 164)), (2, 1, (.tmp 165)), (3, 1, (.tmp 166)), (4, 1, (.tmp 170)), (5, 1, (.tmp 171)), (6, 1, (.tmp 172)), (7, 1, (.tmp 173))]) none,
   MI.op none (.store 8 (.tmp 10) (.tmp 174)) none])
def m21_13 : MCode :=
 (.seq
  (.reg
   (MI.op (some 141) (.mov (.tmp 12)) none ::
    MI.op (some 142) (.call 43 [(.tmp 141), (.c (.int .u64 2))]) none ::
    m21_11))
  m21_12)
def m21_14 : MCode :=
 (.seq
  (.drw
   [MI.op (some 113) (.ixArr 8 1 (.tmp 10) (.c (.int .i64 7))) none,
    MI.op (some 114) (.load false 1 (.tmp 113)) none,
    MI.op (some 115) (.mov (.tmp 15)) none,
    MI.op (some 116) (.call 43 [(.tmp 115), (.c (.int .u64 6))]) none,
    MI.op (some 117) (.mov (.tmp 15)) none,
    MI.op (some 118) (.call 43 [(.tmp 117), (.c (.int .u64 11))]) none,
    MI.op (some 119) (.bin .xor (.tmp 116) (.tmp 118)) none,
    MI.op (some 120) (.mov (.tmp 15)) none,
    MI.op (some 121) (.call 43 [(.tmp 120), (.c (.int .u64 25))]) none,
    MI.op (some 122) (.bin .xor (.tmp 119) (.tmp 121)) none,
    MI.op (some 123) (.bin .add (.tmp 114) (.tmp 122)) none,
    MI.op (some 124) (.mov (.tmp 15)) none,
    MI.op (some 125) (.mov (.tmp 16)) none,
    MI.op (some 126) (.bin .and (.tmp 124) (.tmp 125)) none,
    MI.op (some 127) (.mov (.tmp 15)) none,
    MI.op (some 128) (.un .xor (.tmp 127)) none,
    MI.op (some 129) (.mov (.tmp 17)) none,
    MI.op (some 130) (.bin .and (.tmp 128) (.tmp 129)) none,
    MI.op (some 131) (.bin .xor (.tmp 126) (.tmp 130)) none,
    MI.op (some 132) (.bin .add (.tmp 123) (.tmp 131)) none,
    MI.op (some 133) (.mov (.tmp 11)) none,
    MI.op (some 134) (.ixArr 64 1 (.tmp 9) (.tmp 133)) none,
    MI.op (some 135) (.load false 1 (.tmp 134)) none,
    MI.op (some 136) (.bin .add (.tmp 132) (.tmp 135)) none,
    MI.op (some 137) (.mov (.tmp 11)) none,
    MI.op (some 138) (.ixArr 64 1 (.tmp 5) (.tmp 137)) none,
    MI.op (some 139) (.load false 1 (.tmp 138)) none]
   [MI.op (some 140) (.bin .add (.tmp 136) (.tmp 139)) none,
    MI.op (some 18) (.mov (.tmp 140)) none])
  m21_13)
def m21_15 : MCode :=
 (.seq
  (.blk 3
   (.seq
    (.drw
     [MI.op (some 101) (.ixArr 8 1 (.tmp 10) (.c (.int .i64 0))) none,
      MI.op (some 102) (.load false 1 (.tmp 101)) none,
      MI.op (some 103) (.ixArr 8 1 (.tmp 10) (.c (.int .i64 1))) none,
      MI.op (some 104) (.load false 1 (.tmp 103)) none,
      MI.op (some 105) (.ixArr 8 1 (.tmp 10) (.c (.int .i64 2))) none,
      MI.op (some 106) (.load false 1 (.tmp 105)) none,
      MI.op (some 107) (.ixArr 8 1 (.tmp 10) (.c (.int .i64 4))) none,
      MI.op (some 108) (.load false 1 (.tmp 107)) none,
      MI.op (some 109) (.ixArr 8 1 (.tmp 10) (.c (.int .i64 5))) none,
      MI.op (some 110) (.load false 1 (.tmp 109)) none,
      MI.op (some 111) (.ixArr 8 1 (.tmp 10) (.c (.int .i64 6))) none,
      MI.op (some 112) (.load false 1 (.tmp 111)) none,
      MI.op (some 12) (.mov (.tmp 102)) none,
      MI.op (some 13) (.mov (.tmp 104)) none,
      MI.op (some 14) (.mov (.tmp 106)) none,
      MI.op (some 15) (.mov (.tmp 108)) none,
      MI.op (some 16) (.mov (.tmp 110)) none]
     [MI.op (some 17) (.mov (.tmp 112)) none])
  m21_14))
  (.reg
   [MI.op (some 99) (.mov (.tmp 11)) none,
    MI.op (some 100) (.bin .add (.tmp 99) (.c (.int .i64 1))) none,
    MI.op (some 11) (.mov (.tmp 100)) none]))
def m21_16 : MCode :=
 (.seq
  (.seq
   (.reg
    [MI.op (some 97) (.mov (.tmp 11)) none,
     MI.op (some 98) (.bin .lss (.tmp 97) (.c (.int .i64 64))) none])
   (.cond (.tmp 98)
    .skip
    (.exit 2)))
  m21_15)
def m21_17 : MCode :=
 (.blk 2
  (.loop
  m21_16))
def m21_18 : MCode :=
 (.seq
  (.blk 5
   (.drw
    [MI.op (some 179) (.mov (.tmp 20)) none,
     MI.op (some 180) (.ixArr 8 1 (.tmp 10) (.tmp 179)) none,
     MI.op (some 181) (.load false 1 (.tmp 180)) none,
     MI.op (some 182) (.mov (.tmp 20)) none,
     MI.op (some 183) (.ixArr 8 1 (.tmp 2) (.tmp 182)) none,
     MI.op (some 184) (.load false 1 (.tmp 183)) none]
    [MI.op (some 185) (.bin .add (.tmp 181) (.tmp 184)) none,
     MI.op (some 186) (.ixArr 8 1 (.tmp 10) (.tmp 179)) none,
     MI.op none (.store 1 (.tmp 186) (.tmp 185)) none]))
  (.reg
   [MI.op (some 177) (.mov (.tmp 20)) none,
    MI.op (some 178) (.bin .add (.tmp 177) (.c (.int .i64 1))) none,
    MI.op (some 20) (.mov (.tmp 178)) none]))
def m21_19 : MCode :=
 (.seq
  (.seq
   (.reg
    [MI.op (some 175) (.mov (.tmp 20)) none,
     MI.op (some 176) (.bin .lss (.tmp 175) (.c (.int .i64 8))) none])
   (.cond (.tmp 176)
    .skip
    (.exit 4)))
  m21_18)
def m21_20 : MCode :=
 (.blk 4
  (.loop
  m21_19))
def m21_21 : MCode :=
 (.seq
  (.reg
   [MI.op (some 187) (.load true 8 (.tmp 10)) none,
    MI.op none (.store 8 (.tmp 4) (.tmp 187)) none])
  .ret)
def m21_22 : MCode :=
 (.seq
  (.seq
   (.reg
    [MI.op (some 20) (.mov (.c (.int .i64 0))) none])
  m21_20)
  m21_21)
def m21_23 : MCode :=
 (.seq
  (.seq
   (.reg
    [MI.op (some 11) (.mov (.c (.int .i64 0))) none])
  m21_17)
  m21_22)
def m21_24 : MCode :=
 (.seq
  (.reg
   [MI.op (some 96) (.load true 8 (.tmp 2)) none,
    MI.op (some 10) (.alloc (List.replicate 8 (.int .u32 0))) none,
    MI.op none (.store 8 (.tmp 10) (.tmp 96)) none])
  m21_23)
def m21_25 : MCode :=
 (.seq
  (.reg
   (MI.op (some 95) (.call 44 []) none ::
    m21_8))
  m21_24)
def m21_26 : MCode :=
 (.seq
  (.seq
   (.reg
    [MI.op (some 6) (.mov (.c (.int .i64 0))) none])
  m21_7)
  m21_25)
def m21_27 : MCode :=
 (.seq
  (.reg
   [MI.op (some 5) (.alloc (List.replicate 64 (.int .u32 0))) none])
  m21_26)
def m21_r : List MRes := [.cell 4 true 8]
def m21_b : MCode :=
 (.seq
  (.reg
   [MI.op (some 2) (.box (.tmp 0)) none,
    MI.op (some 3) (.box (.tmp 1)) none,
    MI.op (some 4) (.alloc (List.replicate 8 (.int .u32 0))) none])
  m21_27)
def m21 : MFunc := ⟨2, 188, m21_r, m21_b⟩
theorem c21 : compF Try.prog 21 m21 = some m21 := by kernel_rfl

/- tollhouse/sha.Pad -/
def m22_1 : MCode :=
 (.blk 1
  (.reg
   [MI.op (some 15) (.mov (.tmp 3)) none,
    MI.op (some 16) (.bsl 1 1 [(.int .u8 0)] [(0, 1, (.c (.int .u8 0)))]) none,
    MI.op (some 17) (.app 1 1 (.tmp 15) (.tmp 16)) none,
    MI.op (some 3) (.mov (.tmp 17)) none]))
def m22_2 : MCode :=
 (.seq
  (.seq
   (.reg
    [MI.op (some 8) (.mov (.tmp 0)) none,
     MI.op (some 9) (.mov (.tmp 3)) none,
     MI.op (some 10) (.len (.tmp 9)) none,
     MI.op (some 11) (.toInt .u64 (.tmp 10)) none,
     MI.op (some 12) (.bin .add (.tmp 8) (.tmp 11)) none,
     MI.op (some 13) (.bin .rem (.tmp 12) (.c (.int .u64 64))) none,
     MI.op (some 14) (.bin .neq (.tmp 13) (.c (.int .u64 56))) none])
   (.cond (.tmp 14)
    .skip
    (.exit 0)))
  m22_1)
def m22_3 : MCode :=
 (.reg
  [MI.op (some 21) (.mov (.tmp 3)) none,
   MI.op (some 22) (.mov (.tmp 0)) none,
   MI.op (some 23) (.bin .mul (.tmp 22) (.c (.int .u64 8))) none,
   MI.op (some 24) (.mov (.tmp 4)) none,
   MI.op (some 25) (.bin .mul (.c (.int .i64 8)) (.tmp 24)) none,
   MI.op (some 26) (.bin .sub (.c (.int .i64 56)) (.tmp 25)) none,
   MI.op (some 27) (.bin .shr (.tmp 23) (.tmp 26)) none,
   MI.op (some 28) (.toInt .u8 (.tmp 27)) none,
   MI.op (some 29) (.bsl 1 1 [(.int .u8 0)] [(0, 1, (.tmp 28))]) none,
   MI.op (some 30) (.app 1 1 (.tmp 21) (.tmp 29)) none,
   MI.op (some 3) (.mov (.tmp 30)) none])
def m22_4 : MCode :=
 (.seq
  (.blk 3
   (.seq
    (.reg
     [MI.op (some 20) (.mov (.tmp 18)) none,
      MI.op (some 4) (.mov (.tmp 20)) none])
  m22_3))
  (.reg
   [MI.op (some 31) (.bin .add (.tmp 18) (.c (.int .i64 1))) none,
    MI.op (some 18) (.mov (.tmp 31)) none]))
def m22_5 : MCode :=
 (.seq
  (.cond (.tmp 19)
   .skip
   (.exit 2))
  m22_4)
def m22_6 : MCode :=
 (.seq
  (.reg
   [MI.op (some 19) (.bin .lss (.tmp 18) (.c (.int .i64 8))) none])
  m22_5)
def m22_7 : MCode :=
 (.blk 2
  (.loop
  m22_6))
def m22_8 : MCode :=
 (.seq
  (.reg
   [MI.op (some 32) (.mov (.tmp 3)) none,
    MI.op (some 2) (.mov (.tmp 32)) none])
  .ret)
def m22_9 : MCode :=
 (.seq
  (.seq
   (.reg
    [MI.op (some 18) (.mov (.c (.int .i64 0))) none])
  m22_7)
  m22_8)
def m22_10 : MCode :=
 (.seq
  (.blk 0
   (.loop
  m22_2))
  m22_9)
def m22_11 : MCode :=
 (.seq
  (.reg
   [MI.op (some 7) (.bsl 1 1 [(.int .u8 0)] [(0, 1, (.c (.int .u8 128)))]) none,
    MI.op (some 3) (.mov (.tmp 7)) none])
  m22_10)
def m22_12 : MCode :=
 (.seq
  (.reg
   [MI.op (some 5) (.mov (.tmp 0)) none,
    MI.op (some 6) (.bin .rem (.tmp 5) (.c (.int .u64 2305843009213693952))) none,
    MI.op (some 0) (.mov (.tmp 6)) none])
  m22_11)
def m22_r : List MRes := [.tmp 2]
def m22_b : MCode :=
 (.seq
  (.reg
   [MI.op (some 2) (.mov (.c (.sl .full 0 []))) none])
  m22_12)
def m22 : MFunc := ⟨1, 33, m22_r, m22_b⟩
theorem c22 : compF Try.prog 22 m22 = some m22 := by kernel_rfl

/- tollhouse/tollhouseref01.Pad -/
def m23_1 : MCode :=
 (.blk 1
  (.reg
   [MI.op (some 13) (.mov (.tmp 3)) none,
    MI.op (some 14) (.bsl 1 1 [(.int .u8 0)] [(0, 1, (.c (.int .u8 0)))]) none,
    MI.op (some 15) (.app 1 1 (.tmp 13) (.tmp 14)) none,
    MI.op (some 3) (.mov (.tmp 15)) none]))
def m23_2 : MCode :=
 (.seq
  (.seq
   (.reg
    [MI.op (some 6) (.mov (.tmp 0)) none,
     MI.op (some 7) (.mov (.tmp 3)) none,
     MI.op (some 8) (.len (.tmp 7)) none,
     MI.op (some 9) (.toInt .u64 (.tmp 8)) none,
     MI.op (some 10) (.bin .add (.tmp 6) (.tmp 9)) none,
     MI.op (some 11) (.bin .rem (.tmp 10) (.c (.int .u64 64))) none,
     MI.op (some 12) (.bin .neq (.tmp 11) (.c (.int .u64 56))) none])
   (.cond (.tmp 12)
    .skip
    (.exit 0)))
  m23_1)
def m23_3 : MCode :=
 (.seq
  (.blk 3
   (.reg
    [MI.op (some 20) (.mov (.tmp 3)) none,
     MI.op (some 21) (.mov (.tmp 0)) none,
     MI.op (some 22) (.bin .shl (.tmp 21) (.c (.int .u64 3))) none,
     MI.op (some 23) (.mov (.tmp 4)) none,
     MI.op (some 24) (.bin .mul (.c (.int .i64 8)) (.tmp 23)) none,
     MI.op (some 25) (.toInt .u64 (.tmp 24)) none,
     MI.op (some 26) (.bin .shr (.tmp 22) (.tmp 25)) none,
     MI.op (some 27) (.toInt .u8 (.tmp 26)) none,
     MI.op (some 28) (.bsl 1 1 [(.int .u8 0)] [(0, 1, (.tmp 27))]) none,
     MI.op (some 29) (.app 1 1 (.tmp 20) (.tmp 28)) none,
     MI.op (some 3) (.mov (.tmp 29)) none]))
  (.reg
   [MI.op (some 18) (.mov (.tmp 4)) none,
    MI.op (some 19) (.bin .sub (.tmp 18) (.c (.int .i64 1))) none,
    MI.op (some 4) (.mov (.tmp 19)) none]))
def m23_4 : MCode :=
 (.seq
  (.seq
   (.reg
    [MI.op (some 16) (.mov (.tmp 4)) none,
     MI.op (some 17) (.bin .geq (.tmp 16) (.c (.int .i64 0))) none])
   (.cond (.tmp 17)
    .skip
    (.exit 2)))
  m23_3)
def m23_5 : MCode :=
 (.blk 2
  (.loop
  m23_4))
def m23_6 : MCode :=
 (.seq
  (.reg
   [MI.op (some 30) (.mov (.tmp 3)) none,
    MI.op (some 2) (.mov (.tmp 30)) none])
  .ret)
def m23_7 : MCode :=
 (.seq
  (.seq
   (.reg
    [MI.op (some 4) (.mov (.c (.int .i64 7))) none])
  m23_5)
  m23_6)
def m23_8 : MCode :=
 (.seq
  (.blk 0
   (.loop
  m23_2))
  m23_7)
def m23_9 : MCode :=
 (.seq
  (.reg
   [MI.op (some 5) (.bsl 1 1 [(.int .u8 0)] [(0, 1, (.c (.int .u8 128)))]) none,
    MI.op (some 3) (.mov (.tmp 5)) none])
  m23_8)
def m23_r : List MRes := [.tmp 2]
def m23_b : MCode :=
 (.seq
  (.reg
   [MI.op (some 2) (.mov (.c (.sl .full 0 []))) none])
  m23_9)
def m23 : MFunc := ⟨1, 31, m23_r, m23_b⟩
theorem c23 : compF Try.prog 23 m23 = some m23 := by kernel_rfl

/- tollhouse/sha.Start -/
def m24_1 : MCode :=
 (.seq
  (.reg
   [MI.op (some 1) (.build (List.replicate 8 (.int .u32 0)) [(0, 1, (.c (.int .u32 1779033703))), (1, 1, (.c (.int .u32 3144134277))), (2, 1, (.c (.int .u32 1013904242))), (3, 1, (.c (.int .u32 2773480762))), (4, 1, (.c (.int .u32 1359893119))), (5, 1, (.c (.int .u32 2600822924))), (6, 1, (.c (.int .u32 528734635))), (7, 1, (.c (.int .u32 1541459225)))]) none,
    MI.op none (.store 8 (.tmp 0) (.tmp 1)) none])
  .ret)
def m24_r : List MRes := [.cell 0 true 8]
def m24_b : MCode :=
 (.seq
  (.reg
   [MI.op (some 0) (.alloc (List.replicate 8 (.int .u32 0))) none])
  m24_1)
def m24 : MFunc := ⟨0, 2, m24_r, m24_b⟩
theorem c24 : compF Try.prog 24 m24 = some m24 := by kernel_rfl

/- tollhouse/tollhouseref01.Start -/
def m25_1 : MCode :=
 (.seq
  (.reg
   [MI.op (some 1) (.build (List.replicate 8 (.int .u32 0)) [(0, 1, (.c (.int .u32 1779033703))), (1, 1, (.c (.int .u32 3144134277))), (2, 1, (.c (.int .u32 1013904242))), (3, 1, (.c (.int .u32 2773480762))), (4, 1, (.c (.int .u32 1359893119))), (5, 1, (.c (.int .u32 2600822924))), (6, 1, (.c (.int .u32 528734635))), (7, 1, (.c (.int .u32 1541459225)))]) none,
    MI.op none (.store 8 (.tmp 0) (.tmp 1)) none])
  .ret)
def m25_r : List MRes := [.cell 0 true 8]
def m25_b : MCode :=
 (.seq
  (.reg
   [MI.op (some 0) (.alloc (List.replicate 8 (.int .u32 0))) none])
  m25_1)
def m25 : MFunc := ⟨0, 2, m25_r, m25_b⟩
theorem c25 : compF Try.prog 25 m25 = some m25 := by kernel_rfl

/- tollhouse/tollhousekeep.Mod -/
def m26_1 : MCode :=
 (.cond (.tmp 6)
  (.seq
   (.reg
    [MI.op (some 4) (.mov (.c (.int .i64 0))) none])
   .ret)
  .skip)
def m26_2 : MCode :=
 (.seq
  (.reg
   [MI.op (some 7) (.mov (.tmp 0)) none,
    MI.op (some 8) (.mov (.tmp 1)) none,
    MI.op (some 9) (.bin .rem (.tmp 7) (.tmp 8)) none,
    MI.op (some 10) (.mov (.tmp 1)) none,
    MI.op (some 11) (.bin .add (.tmp 9) (.tmp 10)) none,
    MI.op (some 12) (.mov (.tmp 1)) none,
    MI.op (some 13) (.bin .rem (.tmp 11) (.tmp 12)) none,
    MI.op (some 4) (.mov (.tmp 13)) none])
  .ret)
def m26_3 : MCode :=
 (.seq
  (.seq
   (.reg
    [MI.op (some 5) (.mov (.tmp 1)) none,
     MI.op (some 6) (.bin .lss (.tmp 5) (.c (.int .i64 1))) none])
  m26_1)
  m26_2)
def m26_r : List MRes := [.tmp 4]
def m26_b : MCode :=
 (.seq
  (.reg
   [MI.op (some 4) (.mov (.c (.int .i64 0))) none])
  m26_3)
def m26 : MFunc := ⟨2, 14, m26_r, m26_b⟩
theorem c26 : compF Try.prog 26 m26 = some m26 := by kernel_rfl

/- slices.Concat[[]byte,byte] -/
def m38_1 : MCode :=
 (.cond (.tmp 20)
  (.reg
   [MI.op (some 21) (.bad) none,
    MI.op none (.bad) none])
  .skip)
def m38_2 : MCode :=
 (.seq
  (.reg
   [MI.op (some 19) (.mov (.tmp 3)) none,
    MI.op (some 20) (.bin .lss (.tmp 19) (.c (.int .i64 0))) none])
  m38_1)
def m38_3 : MCode :=
 (.seq
  (.reg
   [MI.op (some 15) (.mov (.tmp 3)) none,
    MI.op (some 16) (.mov (.tmp 5)) none,
    MI.op (some 17) (.len (.tmp 16)) none,
    MI.op (some 18) (.bin .add (.tmp 15) (.tmp 17)) none,
    MI.op (some 3) (.mov (.tmp 18)) none])
  m38_2)
def m38_4 : MCode :=
 (.seq
  (.blk 1
   (.seq
    (.reg
     [MI.op (some 13) (.ixSl 1 (.tmp 9) (.tmp 11)) none,
      MI.op (some 14) (.load false 1 (.tmp 13)) none,
      MI.op (some 5) (.mov (.tmp 14)) none])
  m38_3))
  (.reg
   [MI.op (some 22) (.bin .add (.tmp 11) (.c (.int .i64 1))) none,
    MI.op (some 11) (.mov (.tmp 22)) none]))
def m38_5 : MCode :=
 (.seq
  (.cond (.tmp 12)
   .skip
   (.exit 0))
  m38_4)
def m38_6 : MCode :=
 (.seq
  (.reg
   [MI.op (some 12) (.bin .lss (.tmp 11) (.tmp 10)) none])
  m38_5)
def m38_7 : MCode :=
 (.blk 0
  (.loop
  m38_6))
def m38_8 : MCode :=
 (.reg
  [MI.op (some 31) (.mov (.tmp 6)) none,
   MI.op (some 32) (.mov (.tmp 8)) none,
   MI.op (some 33) (.app 1 1 (.tmp 31) (.tmp 32)) none,
   MI.op (some 6) (.mov (.tmp 33)) none])
def m38_9 : MCode :=
 (.seq
  (.blk 3
   (.seq
    (.reg
     [MI.op (some 29) (.ixSl 1 (.tmp 25) (.tmp 27)) none,
      MI.op (some 30) (.load false 1 (.tmp 29)) none,
      MI.op (some 8) (.mov (.tmp 30)) none])
  m38_8))
  (.reg
   [MI.op (some 34) (.bin .add (.tmp 27) (.c (.int .i64 1))) none,
    MI.op (some 27) (.mov (.tmp 34)) none]))
def m38_10 : MCode :=
 (.seq
  (.cond (.tmp 28)
   .skip
   (.exit 2))
  m38_9)
def m38_11 : MCode :=
 (.seq
  (.reg
   [MI.op (some 28) (.bin .lss (.tmp 27) (.tmp 26)) none])
  m38_10)
def m38_12 : MCode :=
 (.blk 2
  (.loop
  m38_11))
def m38_13 : MCode :=
 (.seq
  (.reg
   [MI.op (some 35) (.mov (.tmp 6)) none,
    MI.op (some 2) (.mov (.tmp 35)) none])
  .ret)
def m38_14 : MCode :=
 (.seq
  (.seq
   (.reg
    [MI.op (some 25) (.mov (.tmp 0)) none,
     MI.op (some 26) (.len (.tmp 25)) none,
     MI.op (some 27) (.mov (.c (.int .i64 0))) none])
  m38_12)
  m38_13)
def m38_15 : MCode :=
 (.seq
  (.reg
   [MI.op (some 23) (.mov (.tmp 3)) none,
    MI.op (some 24) (.call 48 [(.c (.sl .full 0 [])), (.tmp 23)]) none,
    MI.op (some 6) (.mov (.tmp 24)) none])
  m38_14)
def m38_16 : MCode :=
 (.seq
  (.seq
   (.reg
    [MI.op (some 9) (.mov (.tmp 0)) none,
     MI.op (some 10) (.len (.tmp 9)) none,
     MI.op (some 11) (.mov (.c (.int .i64 0))) none])
  m38_7)
  m38_15)
def m38_17 : MCode :=
 (.seq
  (.reg
   [MI.op (some 3) (.mov (.c (.int .i64 0))) none])
  m38_16)
def m38_r : List MRes := [.tmp 2]
def m38_b : MCode :=
 (.seq
  (.reg
   [MI.op (some 2) (.mov (.c (.sl .full 0 []))) none])
  m38_17)
def m38 : MFunc := ⟨1, 36, m38_r, m38_b⟩
theorem c38 : compF Try.prog 38 m38 = some m38 := by kernel_rfl

/- tollhouse/sha.constants -/
def m40_1 : MCode :=
 (.seq
  (.reg
   [MI.op (some 1) (.build (List.replicate 64 (.int .u32 0)) [(0, 1, (.c (.int .u32 1116352408))), (1, 1, (.c (.int .u32 1899447441))), (2, 1, (.c (.int .u32 3049323471))), (3, 1, (.c (.int .u32 3921009573))), (4, 1, (.c (.int .u32 961987163))), (5, 1, (.c (.int .u32 1508970993))), (6, 1, (.c (.int .u32 2453635748))), (7, 1, (.c (.int .u32 2870763221))), (8, 1, (.c (.int .u32 3624381080))), (9, 1, (.c (.int .u32 310598401))), (10, 1, (.c (.int .u32 607225278))), (11, 1, (.c (.int .u32 1426881987))), (12, 1, (.c (.int .u32 1925078388))), (13, 1, (.c (.int .u32 2162078206))), (14, 1, (.c (.int .u32 2614888103))), (15, 1, (.c (.int .u32 3248222580))), (16, 1, (.c (.int .u32 3835390401))), (17, 1, (.c (.int .u32 4022224774))), (18, 1, (.c (.int .u32 264347078))), (19, 1, (.c (.int .u32 604807628))), (20, 1, (.c (.int .u32 770255983))), (21, 1, (.c (.int .u32 1249150122))), (22, 1, (.c (.int .u32 1555081692))), (23, 1, (.c (.int .u32 1996064986))), (24, 1, (.c (.int .u32 2554220882))), (25, 1, (.c (.int .u32 2821834349))), (26, 1, (.c (.int .u32 2952996808))), (27, 1, (.c (.int .u32 3210313671))), (28, 1, (.c (.int .u32 3336571891))), (29, 1, (.c (.int .u32 3584528711))), (30, 1, (.c (.int .u32 113926993))), (31, 1, (.c (.int .u32 338241895))), (32, 1, (.c (.int .u32 666307205))), (33, 1, (.c (.int .u32 773529912))), (34, 1, (.c (.int .u32 1294757372))), (35, 1, (.c (.int .u32 1396182291))), (36, 1, (.c (.int .u32 1695183700))), (37, 1, (.c (.int .u32 1986661051))), (38, 1, (.c (.int .u32 2177026350))), (39, 1, (.c (.int .u32 2456956037))), (40, 1, (.c (.int .u32 2730485921))), (41, 1, (.c (.int .u32 2820302411))), (42, 1, (.c (.int .u32 3259730800))), (43, 1, (.c (.int .u32 3345764771))), (44, 1, (.c (.int .u32 3516065817))), (45, 1, (.c (.int .u32 3600352804))), (46, 1, (.c (.int .u32 4094571909))), (47, 1, (.c (.int .u32 275423344))), (48, 1, (.c (.int .u32 430227734))), (49, 1, (.c (.int .u32 506948616))), (50, 1, (.c (.int .u32 659060556))), (51, 1, (.c (.int .u32 883997877))), (52, 1, (.c (.int .u32 958139571))), (53, 1, (.c (.int .u32 1322822218))), (54, 1, (.c (.int .u32 1537002063))), (55, 1, (.c (.int .u32 1747873779))), (56, 1, (.c (.int .u32 1955562222))), (57, 1, (.c (.int .u32 2024104815))), (58, 1, (.c (.int .u32 2227730452))), (59, 1, (.c (.int .u32 2361852424))), (60, 1, (.c (.int .u32 2428436474))), (61, 1, (.c (.int .u32 2756734187))), (62, 1, (.c (.int .u32 3204031479))), (63, 1, (.c (.int .u32 3329325298)))]) none,
    MI.op none (.store 64 (.tmp 0) (.tmp 1)) none])
  .ret)
def m40_r : List MRes := [.cell 0 true 64]
def m40_b : MCode :=
 (.seq
  (.reg
   [MI.op (some 0) (.alloc (List.replicate 64 (.int .u32 0))) none])
  m40_1)
def m40 : MFunc := ⟨0, 2, m40_r, m40_b⟩
theorem c40 : compF Try.prog 40 m40 = some m40 := by kernel_rfl

/- tollhouse/sha.schedule -/
def m41_1 : MCode :=
 (.drw
  [MI.op (some 14) (.mov (.tmp 4)) none,
   MI.op (some 15) (.mov (.tmp 4)) none,
   MI.op (some 16) (.ixArr 64 1 (.tmp 3) (.tmp 15)) none,
   MI.op (some 17) (.load false 1 (.tmp 16)) none,
   MI.op (some 18) (.bin .shl (.tmp 17) (.c (.int .u64 8))) none,
   MI.op (some 19) (.mov (.tmp 4)) none,
   MI.op (some 20) (.bin .mul (.c (.int .i64 4)) (.tmp 19)) none,
   MI.op (some 21) (.mov (.tmp 5)) none,
   MI.op (some 22) (.bin .add (.tmp 20) (.tmp 21)) none,
   MI.op (some 23) (.ixArr 64 1 (.tmp 1) (.tmp 22)) none,
   MI.op (some 24) (.load false 1 (.tmp 23)) none,
   MI.op (some 25) (.toInt .u32 (.tmp 24)) none,
   MI.op (some 26) (.bin .or (.tmp 18) (.tmp 25)) none]
  [MI.op (some 27) (.ixArr 64 1 (.tmp 3) (.tmp 14)) none,
   MI.op none (.store 1 (.tmp 27) (.tmp 26)) none])
def m41_2 : MCode :=
 (.seq
  (.blk 3
   (.seq
    (.reg
     [MI.op (some 13) (.mov (.tmp 11)) none,
      MI.op (some 5) (.mov (.tmp 13)) none])
  m41_1))
  (.reg
   [MI.op (some 28) (.bin .add (.tmp 11) (.c (.int .i64 1))) none,
    MI.op (some 11) (.mov (.tmp 28)) none]))
def m41_3 : MCode :=
 (.seq
  (.cond (.tmp 12)
   .skip
   (.exit 2))
  m41_2)
def m41_4 : MCode :=
 (.seq
  (.reg
   [MI.op (some 12) (.bin .lss (.tmp 11) (.c (.int .i64 4))) none])
  m41_3)
def m41_5 : MCode :=
 (.blk 2
  (.loop
  m41_4))
def m41_6 : MCode :=
 (.seq
  (.seq
   (.reg
    [MI.op (some 11) (.mov (.c (.int .i64 0))) none])
  m41_5)
  (.exit 1))
def m41_7 : MCode :=
 (.cond (.tmp 10)
  m41_6
  .skip)
def m41_8 : MCode :=
 (.drw
  [MI.op (some 29) (.mov (.tmp 4)) none,
   MI.op (some 30) (.mov (.tmp 4)) none,
   MI.op (some 31) (.bin .sub (.tmp 30) (.c (.int .i64 2))) none,
   MI.op (some 32) (.ixArr 64 1 (.tmp 3) (.tmp 31)) none,
   MI.op (some 33) (.load false 1 (.tmp 32)) none,
   MI.op (some 34) (.call 42 [(.tmp 33), (.c (.int .i64 17)), (.c (.int .i64 19)), (.c (.int .i64 10)), (.c (.bool true))]) none,
   MI.op (some 35) (.mov (.tmp 4)) none,
   MI.op (some 36) (.bin .sub (.tmp 35) (.c (.int .i64 7))) none,
   MI.op (some 37) (.ixArr 64 1 (.tmp 3) (.tmp 36)) none,
   MI.op (some 38) (.load false 1 (.tmp 37)) none,
   MI.op (some 39) (.bin .add (.tmp 34) (.tmp 38)) none,
   MI.op (some 40) (.mov (.tmp 4)) none,
   MI.op (some 41) (.bin .sub (.tmp 40) (.c (.int .i64 15))) none,
   MI.op (some 42) (.ixArr 64 1 (.tmp 3) (.tmp 41)) none,
   MI.op (some 43) (.load false 1 (.tmp 42)) none,
   MI.op (some 44) (.call 42 [(.tmp 43), (.c (.int .i64 7)), (.c (.int .i64 18)), (.c (.int .i64 3)), (.c (.bool true))]) none,
   MI.op (some 45) (.bin .add (.tmp 39) (.tmp 44)) none,
   MI.op (some 46) (.mov (.tmp 4)) none,
   MI.op (some 47) (.bin .sub (.tmp 46) (.c (.int .i64 16))) none,
   MI.op (some 48) (.ixArr 64 1 (.tmp 3) (.tmp 47)) none,
   MI.op (some 49) (.load false 1 (.tmp 48)) none,
   MI.op (some 50) (.bin .add (.tmp 45) (.tmp 49)) none]
  [MI.op (some 51) (.ixArr 64 1 (.tmp 3) (.tmp 29)) none,
   MI.op none (.store 1 (.tmp 51) (.tmp 50)) none])
def m41_9 : MCode :=
 (.seq
  (.seq
   (.reg
    [MI.op (some 9) (.mov (.tmp 4)) none,
     MI.op (some 10) (.bin .lss (.tmp 9) (.c (.int .i64 16))) none])
  m41_7)
  m41_8)
def m41_10 : MCode :=
 (.seq
  (.blk 1
   (.seq
    (.reg
     [MI.op (some 8) (.mov (.tmp 6)) none,
      MI.op (some 4) (.mov (.tmp 8)) none])
  m41_9))
  (.reg
   [MI.op (some 52) (.bin .add (.tmp 6) (.c (.int .i64 1))) none,
    MI.op (some 6) (.mov (.tmp 52)) none]))
def m41_11 : MCode :=
 (.seq
  (.cond (.tmp 7)
   .skip
   (.exit 0))
  m41_10)
def m41_12 : MCode :=
 (.seq
  (.reg
   [MI.op (some 7) (.bin .lss (.tmp 6) (.c (.int .i64 64))) none])
  m41_11)
def m41_13 : MCode :=
 (.blk 0
  (.loop
  m41_12))
def m41_14 : MCode :=
 (.seq
  (.reg
   [MI.op (some 53) (.load true 64 (.tmp 3)) none,
    MI.op none (.store 64 (.tmp 2) (.tmp 53)) none])
  .ret)
def m41_15 : MCode :=
 (.seq
  (.seq
   (.reg
    [MI.op (some 6) (.mov (.c (.int .i64 0))) none])
  m41_13)
  m41_14)
def m41_16 : MCode :=
 (.seq
  (.reg
   [MI.op (some 3) (.alloc (List.replicate 64 (.int .u32 0))) none])
  m41_15)
def m41_r : List MRes := [.cell 2 true 64]
def m41_b : MCode :=
 (.seq
  (.reg
   [MI.op (some 1) (.box (.tmp 0)) none,
    MI.op (some 2) (.alloc (List.replicate 64 (.int .u32 0))) none])
  m41_16)
def m41 : MFunc := ⟨1, 54, m41_r, m41_b⟩
theorem c41 : compF Try.prog 41 m41 = some m41 := by kernel_rfl

/- tollhouse/sha.turned -/
def m42_1 : MCode :=
 (.reg
  [MI.op (some 17) (.mov (.tmp 0)) none,
   MI.op (some 18) (.mov (.tmp 3)) none,
   MI.op (some 19) (.bin .shr (.tmp 17) (.tmp 18)) none,
   MI.op (some 11) (.mov (.tmp 19)) none])
def m42_2 : MCode :=
 (.cond (.tmp 16)
  m42_1
  .skip)
def m42_3 : List MI :=
 [MI.op (some 28) (.bin .xor (.tmp 23) (.tmp 27)) none,
  MI.op (some 29) (.mov (.tmp 11)) none,
  MI.op (some 30) (.bin .xor (.tmp 28) (.tmp 29)) none,
  MI.op (some 10) (.mov (.tmp 30)) none]
def m42_4 : List MI :=
 (MI.op (some 24) (.mov (.tmp 0)) none ::
  MI.op (some 25) (.mov (.tmp 2)) none ::
  MI.op (some 26) (.un .neg (.tmp 25)) none ::
  MI.op (some 27) (.call 50 [(.tmp 24), (.tmp 26)]) none ::
  m42_3)
def m42_5 : MCode :=
 (.seq
  (.reg
   (MI.op (some 20) (.mov (.tmp 0)) none ::
    MI.op (some 21) (.mov (.tmp 1)) none ::
    MI.op (some 22) (.un .neg (.tmp 21)) none ::
    MI.op (some 23) (.call 50 [(.tmp 20), (.tmp 22)]) none ::
    m42_4))
  .ret)
def m42_6 : MCode :=
 (.seq
  (.seq
   (.reg
    [MI.op (some 16) (.mov (.tmp 4)) none])
  m42_2)
  m42_5)
def m42_7 : MCode :=
 (.seq
  (.reg
   [MI.op (some 12) (.mov (.tmp 0)) none,
    MI.op (some 13) (.mov (.tmp 3)) none,
    MI.op (some 14) (.un .neg (.tmp 13)) none,
    MI.op (some 15) (.call 50 [(.tmp 12), (.tmp 14)]) none,
    MI.op (some 11) (.mov (.tmp 15)) none])
  m42_6)
def m42_r : List MRes := [.tmp 10]
def m42_b : MCode :=
 (.seq
  (.reg
   [MI.op (some 10) (.mov (.c (.int .u32 0))) none])
  m42_7)
def m42 : MFunc := ⟨5, 31, m42_r, m42_b⟩
theorem c42 : compF Try.prog 42 m42 = some m42 := by kernel_rfl

/- tollhouse/tollhouseref01.right -/
def m43_1 : MCode :=
 (.seq
  (.reg
   [MI.op (some 5) (.mov (.tmp 0)) none,
    MI.op (some 6) (.mov (.tmp 1)) none,
    MI.op (some 7) (.bin .shr (.tmp 5) (.tmp 6)) none,
    MI.op (some 8) (.mov (.tmp 0)) none,
    MI.op (some 9) (.mov (.tmp 1)) none,
    MI.op (some 10) (.bin .sub (.c (.int .u64 32)) (.tmp 9)) none,
    MI.op (some 11) (.bin .shl (.tmp 8) (.tmp 10)) none,
    MI.op (some 12) (.bin .or (.tmp 7) (.tmp 11)) none,
    MI.op (some 4) (.mov (.tmp 12)) none])
  .ret)
def m43_r : List MRes := [.tmp 4]
def m43_b : MCode :=
 (.seq
  (.reg
   [MI.op (some 4) (.mov (.c (.int .u32 0))) none])
  m43_1)
def m43 : MFunc := ⟨2, 13, m43_r, m43_b⟩
theorem c43 : compF Try.prog 43 m43 = some m43 := by kernel_rfl

/- tollhouse/tollhouseref01.table -/
def m44_1 : MCode :=
 (.seq
  (.reg
   [MI.op (some 1) (.build (List.replicate 64 (.int .u32 0)) [(0, 1, (.c (.int .u32 1116352408))), (1, 1, (.c (.int .u32 1899447441))), (2, 1, (.c (.int .u32 3049323471))), (3, 1, (.c (.int .u32 3921009573))), (4, 1, (.c (.int .u32 961987163))), (5, 1, (.c (.int .u32 1508970993))), (6, 1, (.c (.int .u32 2453635748))), (7, 1, (.c (.int .u32 2870763221))), (8, 1, (.c (.int .u32 3624381080))), (9, 1, (.c (.int .u32 310598401))), (10, 1, (.c (.int .u32 607225278))), (11, 1, (.c (.int .u32 1426881987))), (12, 1, (.c (.int .u32 1925078388))), (13, 1, (.c (.int .u32 2162078206))), (14, 1, (.c (.int .u32 2614888103))), (15, 1, (.c (.int .u32 3248222580))), (16, 1, (.c (.int .u32 3835390401))), (17, 1, (.c (.int .u32 4022224774))), (18, 1, (.c (.int .u32 264347078))), (19, 1, (.c (.int .u32 604807628))), (20, 1, (.c (.int .u32 770255983))), (21, 1, (.c (.int .u32 1249150122))), (22, 1, (.c (.int .u32 1555081692))), (23, 1, (.c (.int .u32 1996064986))), (24, 1, (.c (.int .u32 2554220882))), (25, 1, (.c (.int .u32 2821834349))), (26, 1, (.c (.int .u32 2952996808))), (27, 1, (.c (.int .u32 3210313671))), (28, 1, (.c (.int .u32 3336571891))), (29, 1, (.c (.int .u32 3584528711))), (30, 1, (.c (.int .u32 113926993))), (31, 1, (.c (.int .u32 338241895))), (32, 1, (.c (.int .u32 666307205))), (33, 1, (.c (.int .u32 773529912))), (34, 1, (.c (.int .u32 1294757372))), (35, 1, (.c (.int .u32 1396182291))), (36, 1, (.c (.int .u32 1695183700))), (37, 1, (.c (.int .u32 1986661051))), (38, 1, (.c (.int .u32 2177026350))), (39, 1, (.c (.int .u32 2456956037))), (40, 1, (.c (.int .u32 2730485921))), (41, 1, (.c (.int .u32 2820302411))), (42, 1, (.c (.int .u32 3259730800))), (43, 1, (.c (.int .u32 3345764771))), (44, 1, (.c (.int .u32 3516065817))), (45, 1, (.c (.int .u32 3600352804))), (46, 1, (.c (.int .u32 4094571909))), (47, 1, (.c (.int .u32 275423344))), (48, 1, (.c (.int .u32 430227734))), (49, 1, (.c (.int .u32 506948616))), (50, 1, (.c (.int .u32 659060556))), (51, 1, (.c (.int .u32 883997877))), (52, 1, (.c (.int .u32 958139571))), (53, 1, (.c (.int .u32 1322822218))), (54, 1, (.c (.int .u32 1537002063))), (55, 1, (.c (.int .u32 1747873779))), (56, 1, (.c (.int .u32 1955562222))), (57, 1, (.c (.int .u32 2024104815))), (58, 1, (.c (.int .u32 2227730452))), (59, 1, (.c (.int .u32 2361852424))), (60, 1, (.c (.int .u32 2428436474))), (61, 1, (.c (.int .u32 2756734187))), (62, 1, (.c (.int .u32 3204031479))), (63, 1, (.c (.int .u32 3329325298)))]) none,
    MI.op none (.store 64 (.tmp 0) (.tmp 1)) none])
  .ret)
def m44_r : List MRes := [.cell 0 true 64]
def m44_b : MCode :=
 (.seq
  (.reg
   [MI.op (some 0) (.alloc (List.replicate 64 (.int .u32 0))) none])
  m44_1)
def m44 : MFunc := ⟨0, 2, m44_r, m44_b⟩
theorem c44 : compF Try.prog 44 m44 = some m44 := by kernel_rfl

/- slices.Grow[[]byte,byte] -/
def m48_1 : MCode :=
 (.cond (.tmp 6)
  (.reg
   [MI.op (some 7) (.bad) none,
    MI.op none (.bad) none])
  .skip)
def m48_2 : MCode :=
 (.reg
  [MI.op (some 17) (.mov (.tmp 0)) none,
   MI.op (some 18) (.mov (.tmp 0)) none,
   MI.op (some 19) (.cap (.tmp 18)) none,
   MI.op (some 20) (.slSl 1 (.tmp 17) none (some (.tmp 19)) none) none,
   MI.op (some 21) (.mov (.tmp 1)) none,
   MI.op (some 22) (.appZ 1 1 [(.int .u8 0)] (.tmp 20) (.tmp 21)) none,
   MI.op (some 23) (.mov (.tmp 0)) none,
   MI.op (some 24) (.len (.tmp 23)) none,
   MI.op (some 25) (.slSl 1 (.tmp 22) none (some (.tmp 24)) none) none,
   MI.op (some 0) (.mov (.tmp 25)) none])
def m48_3 : MCode :=
 (.cond (.tmp 16)
  m48_2
  .skip)
def m48_4 : MCode :=
 (.seq
  (.reg
   [MI.op (some 15) (.mov (.tmp 1)) none,
    MI.op (some 16) (.bin .gtr (.tmp 15) (.c (.int .i64 0))) none])
  m48_3)
def m48_5 : MCode :=
 (.seq
  (.reg
   [MI.op (some 26) (.mov (.tmp 0)) none,
    MI.op (some 4) (.mov (.tmp 26)) none])
  .ret)
def m48_6 : MCode :=
 (.seq
  (.seq
   (.reg
    [MI.op (some 8) (.mov (.tmp 1)) none,
     MI.op (some 9) (.mov (.tmp 0)) none,
     MI.op (some 10) (.cap (.tmp 9)) none,
     MI.op (some 11) (.mov (.tmp 0)) none,
     MI.op (some 12) (.len (.tmp 11)) none,
     MI.op (some 13) (.bin .sub (.tmp 10) (.tmp 12)) none,
     MI.op (some 14) (.bin .sub (.tmp 8) (.tmp 13)) none,
     MI.op (some 1) (.mov (.tmp 14)) none])
  m48_4)
  m48_5)
def m48_7 : MCode :=
 (.seq
  (.seq
   (.reg
    [MI.op (some 5) (.mov (.tmp 1)) none,
     MI.op (some 6) (.bin .lss (.tmp 5) (.c (.int .i64 0))) none])
  m48_1)
  m48_6)
def m48_r : List MRes := [.tmp 4]
def m48_b : MCode :=
 (.seq
  (.reg
   [MI.op (some 4) (.mov (.c (.sl .full 0 []))) none])
  m48_7)
def m48 : MFunc := ⟨2, 27, m48_r, m48_b⟩
theorem c48 : compF Try.prog 48 m48 = some m48 := by kernel_rfl

/- math/bits.RotateLeft32 -/
def m50_1 : MCode :=
 (.seq
  (.reg
   [MI.op (some 9) (.mov (.tmp 0)) none,
    MI.op (some 10) (.mov (.tmp 5)) none,
    MI.op (some 11) (.bin .shl (.tmp 9) (.tmp 10)) none,
    MI.op (some 12) (.mov (.tmp 0)) none,
    MI.op (some 13) (.mov (.tmp 5)) none,
    MI.op (some 14) (.bin .sub (.c (.int .u64 32)) (.tmp 13)) none,
    MI.op (some 15) (.bin .shr (.tmp 12) (.tmp 14)) none,
    MI.op (some 16) (.bin .or (.tmp 11) (.tmp 15)) none,
    MI.op (some 4) (.mov (.tmp 16)) none])
  .ret)
def m50_2 : MCode :=
 (.seq
  (.reg
   [MI.op (some 6) (.mov (.tmp 1)) none,
    MI.op (some 7) (.toInt .u64 (.tmp 6)) none,
    MI.op (some 8) (.bin .and (.tmp 7) (.c (.int .u64 31))) none,
    MI.op (some 5) (.mov (.tmp 8)) none])
  m50_1)
def m50_r : List MRes := [.tmp 4]
def m50_b : MCode :=
 (.seq
  (.reg
   [MI.op (some 4) (.mov (.c (.int .u32 0))) none])
  m50_2)
def m50 : MFunc := ⟨2, 17, m50_r, m50_b⟩
theorem c50 : compF Try.prog 50 m50 = some m50 := by kernel_rfl

/- slices.Insert[[][]byte,[]byte] -/
def m45_stub : Nat := 45
/- slices.overlaps[[]byte] -/
def m51_stub : Nat := 51
end Go.Proofs.Ytlbilkldjhhopaa
