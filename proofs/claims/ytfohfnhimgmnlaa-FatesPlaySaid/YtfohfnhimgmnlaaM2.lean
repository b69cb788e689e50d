/- The loaded functions as texts of the ideal machine (written by a program of ours), and that they are the loaded ones. -/
import Derived.Test.YtfohfnhimgmnlaaE24
import Derived.Test.YtfohfnhimgmnlaaProg
set_option linter.unusedVariables false
namespace Go.Proofs.Ytfohfnhimgmnlaa
open Go.RowKit

/- tollhouse/tollhouselaw20.FatesPlay -/
def m7_1 : MCode :=
 (.seq
  (.reg
   [MI.op (some 11) (.call 26 []) none,
    MI.op (some 4) (.mov (.tmp 11)) none])
  .ret)
def m7_2 : MCode :=
 (.cond (.tmp 10)
  m7_1
  .skip)
def m7_3 : MCode :=
 (.seq
  (.reg
   [MI.op (some 29) (.call 26 []) none,
    MI.op (some 4) (.mov (.tmp 29)) none])
  .ret)
def m7_4 : MCode :=
 (.cond (.tmp 28)
  m7_3
  .skip)
def m7_5 : List MI :=
 [MI.op (some 38) (.mov (.tmp 6)) none,
  MI.op (some 39) (.calln 29 [(.tmp 38)]) none,
  MI.op (some 40) (.eqv true [(4, .b)] (.tmp 37) (.tmp 39)) none]
def m7_6 : List MI :=
 (MI.op (some 37) (.call 27 [(.tmp 36)]) none ::
  m7_5)
def m7_7 : MCode :=
 (.cond (.tmp 40)
  (.seq
   (.reg
    [MI.op (some 4) (.mov (.c (.bool false))) none])
   .ret)
  .skip)
def m7_8 : MCode :=
 (.seq
  (.reg
   (MI.op (some 35) (.mov (.tmp 5)) none ::
    MI.op (some 36) (.calln 28 [(.tmp 35)]) none ::
    m7_6))
  m7_7)
def m7_9 : MCode :=
 (.cond (.tmp 57)
  (.seq
   (.reg
    [MI.op (some 4) (.mov (.c (.bool false))) none])
   .ret)
  .skip)
def m7_10 : MCode :=
 (.seq
  (.drc
   [MI.op (some 41) (.mov (.tmp 5)) none,
    MI.op (some 42) (.bsl 0 1 [(.int .i64 0)] []) none,
    MI.op (some 43) (.mov (.tmp 0)) none,
    MI.op (some 44) (.mov (.tmp 7)) none,
    MI.op (some 45) (.ixSl 2 (.tmp 43) (.tmp 44)) none,
    MI.op (some 46) (.fa 1 (.tmp 45)) none,
    MI.op (some 47) (.load false 1 (.tmp 46)) none,
    MI.op (some 48) (.app 1 8 (.tmp 42) (.tmp 47)) none]
   (MI.op (some 49) (.calln 30 [(.tmp 41), (.tmp 48)]) none)
   [MI.op (some 50) (.mov (.tmp 6)) none,
    MI.op (some 51) (.mov (.tmp 0)) none,
    MI.op (some 52) (.mov (.tmp 7)) none,
    MI.op (some 53) (.ixSl 2 (.tmp 51) (.tmp 52)) none,
    MI.op (some 54) (.fa 1 (.tmp 53)) none,
    MI.op (some 55) (.load false 1 (.tmp 54)) none]
   [MI.op (some 56) (.calln 31 [(.tmp 50), (.tmp 55)]) none,
    MI.op (some 57) (.bin .neq (.tmp 49) (.tmp 56)) none])
  m7_9)
def m7_11 : MCode :=
 (.cond (.tmp 34)
  m7_8
  m7_10)
def m7_12 : MCode :=
 (.cond (.tmp 65)
  (.seq
   (.reg
    [MI.op (some 4) (.mov (.c (.bool false))) none])
   .ret)
  .skip)
def m7_13 : MCode :=
 (.seq
  (.drc
   [MI.op (some 58) (.mov (.tmp 5)) none]
   (MI.op (some 59) (.calln 32 [(.tmp 58)]) none)
   [MI.op (some 60) (.mov (.tmp 6)) none,
    MI.op (some 61) (.chk (.tmp 60)) none,
    MI.op (some 62) (.fa 0 (.tmp 61)) none,
    MI.op (some 63) (.load false 1 (.tmp 62)) none]
   [MI.op (some 64) (.call 24 [(.tmp 59), (.tmp 63)]) none,
    MI.op (some 65) (.un .not (.tmp 64)) none])
  m7_12)
def m7_14 : MCode :=
 (.seq
  (.seq
   (.reg
    [MI.op (some 30) (.mov (.tmp 0)) none,
     MI.op (some 31) (.mov (.tmp 7)) none,
     MI.op (some 32) (.ixSl 2 (.tmp 30) (.tmp 31)) none,
     MI.op (some 33) (.fa 0 (.tmp 32)) none,
     MI.op (some 34) (.load false 1 (.tmp 33)) none])
  m7_11)
  m7_13)
def m7_15 : MCode :=
 (.seq
  (.blk 1
   (.seq
    (.seq
     (.reg
      [MI.op (some 22) (.mov (.tmp 0)) none,
       MI.op (some 23) (.mov (.tmp 7)) none,
       MI.op (some 24) (.ixSl 2 (.tmp 22) (.tmp 23)) none,
       MI.op (some 25) (.fa 1 (.tmp 24)) none,
       MI.op (some 26) (.load false 1 (.tmp 25)) none,
       MI.op (some 27) (.len (.tmp 26)) none,
       MI.op (some 28) (.bin .gtr (.tmp 27) (.c (.int .i64 100))) none])
  m7_4)
  m7_14))
  (.reg
   [MI.op (some 20) (.mov (.tmp 7)) none,
    MI.op (some 21) (.bin .add (.tmp 20) (.c (.int .i64 1))) none,
    MI.op (some 7) (.mov (.tmp 21)) none]))
def m7_16 : MCode :=
 (.seq
  (.seq
   (.reg
    [MI.op (some 16) (.mov (.tmp 7)) none,
     MI.op (some 17) (.mov (.tmp 0)) none,
     MI.op (some 18) (.len (.tmp 17)) none,
     MI.op (some 19) (.bin .lss (.tmp 16) (.tmp 18)) none])
   (.cond (.tmp 19)
    .skip
    (.exit 0)))
  m7_15)
def m7_17 : MCode :=
 (.blk 0
  (.loop
  m7_16))
def m7_18 : List MI :=
 [MI.op (some 74) (.pick (.tmp 72) (.tmp 73) (.c (.bool false))) none,
  MI.op (some 4) (.mov (.tmp 74)) none]
def m7_19 : List MI :=
 (MI.op (some 71) (.eqv false [(4, .b)] (.tmp 68) (.tmp 70)) none ::
  MI.op (some 72) (.mov (.tmp 71)) none ::
  MI.op (some 73) (.call 26 []) (some (72, true)) ::
  m7_18)
def m7_20 : List MI :=
 (MI.op (some 69) (.mov (.tmp 1)) none ::
  MI.op (some 70) (.call 34 [(.tmp 69)]) none ::
  m7_19)
def m7_21 : List MI :=
 (MI.op (some 68) (.call 27 [(.tmp 67)]) none ::
  m7_20)
def m7_22 : MCode :=
 (.seq
  (.reg
   (MI.op (some 66) (.mov (.tmp 1)) none ::
    MI.op (some 67) (.call 33 [(.tmp 66)]) none ::
    m7_21))
  .ret)
def m7_23 : MCode :=
 (.seq
  (.seq
   (.reg
    [MI.op (some 7) (.mov (.c (.int .i64 0))) none])
  m7_17)
  m7_22)
def m7_24 : MCode :=
 (.seq
  (.reg
   [MI.op (some 12) (.build [(.sl .full 0 [])] []) none,
    MI.op (some 13) (.box (.tmp 12)) none,
    MI.op (some 14) (.build [(.sl .full 0 [])] []) none,
    MI.op (some 15) (.box (.tmp 14)) none,
    MI.op (some 5) (.mov (.tmp 13)) none,
    MI.op (some 6) (.mov (.tmp 15)) none])
  m7_23)
def m7_25 : MCode :=
 (.seq
  (.seq
   (.reg
    [MI.op (some 8) (.mov (.tmp 0)) none,
     MI.op (some 9) (.len (.tmp 8)) none,
     MI.op (some 10) (.bin .gtr (.tmp 9) (.c (.int .i64 100))) none])
  m7_2)
  m7_24)
def m7_r : List MRes := [.tmp 4]
def m7_b : MCode :=
 (.seq
  (.reg
   [MI.op (some 4) (.mov (.c (.bool false))) none])
  m7_25)
def m7 : MFunc := ⟨2, 75, m7_r, m7_b⟩
theorem c7 : compF Try.prog 7 m7 = some m7 := by kernel_rfl

/- tollhouse/tollhouselaw20.FatesOrder -/
def m8_1 : MCode :=
 (.seq
  (.reg
   [MI.op (some 14) (.call 26 []) none,
    MI.op (some 2) (.mov (.tmp 14)) none])
  .ret)
def m8_2 : MCode :=
 (.cond (.tmp 13)
  m8_1
  .skip)
def m8_3 : List MI :=
 [MI.op (some 34) (.mov (.tmp 5)) none,
  MI.op (some 35) (.bin .neq (.tmp 33) (.tmp 34)) none]
def m8_4 : MCode :=
 (.cond (.tmp 35)
  (.seq
   (.reg
    [MI.op (some 2) (.mov (.c (.bool false))) none])
   .ret)
  .skip)
def m8_5 : MCode :=
 (.seq
  (.reg
   (MI.op (some 25) (.mov (.tmp 3)) none ::
    MI.op (some 26) (.mov (.tmp 0)) none ::
    MI.op (some 27) (.mov (.tmp 4)) none ::
    MI.op (some 28) (.ixSl 1 (.tmp 26) (.tmp 27)) none ::
    MI.op (some 29) (.load false 1 (.tmp 28)) none ::
    MI.op (some 30) (.bin .rem (.tmp 29) (.c (.int .u8 16))) none ::
    MI.op (some 31) (.toInt .i64 (.tmp 30)) none ::
    MI.op (some 32) (.bsl 1 1 [(.int .i64 0)] [(0, 1, (.tmp 31))]) none ::
    MI.op (some 33) (.calln 30 [(.tmp 25), (.tmp 32)]) none ::
    m8_3))
  m8_4)
def m8_6 : MCode :=
 (.seq
  (.seq
   (.reg
    [MI.op (some 23) (.mov (.tmp 4)) none,
     MI.op (some 24) (.bin .geq (.tmp 23) (.c (.int .i64 64))) none])
   (.cond (.tmp 24)
    (.reg
     [MI.op (some 5) (.mov (.c (.int .i64 19))) none])
    .skip))
  m8_5)
def m8_7 : MCode :=
 (.seq
  (.blk 1
   (.seq
    (.reg
     [MI.op (some 5) (.mov (.c (.int .i64 0))) none])
  m8_6))
  (.reg
   [MI.op (some 21) (.mov (.tmp 4)) none,
    MI.op (some 22) (.bin .add (.tmp 21) (.c (.int .i64 1))) none,
    MI.op (some 4) (.mov (.tmp 22)) none]))
def m8_8 : MCode :=
 (.seq
  (.seq
   (.reg
    [MI.op (some 17) (.mov (.tmp 4)) none,
     MI.op (some 18) (.mov (.tmp 0)) none,
     MI.op (some 19) (.len (.tmp 18)) none,
     MI.op (some 20) (.bin .lss (.tmp 17) (.tmp 19)) none])
   (.cond (.tmp 20)
    .skip
    (.exit 0)))
  m8_7)
def m8_9 : MCode :=
 (.blk 0
  (.loop
  m8_8))
def m8_10 : List MI :=
 [MI.op (some 7) (.alloc [(.bool false), (.bool false), (.bool false), (.bool false)]) none,
  MI.op none (.store 4 (.tmp 7) (.tmp 47)) none]
def m8_11 : MCode :=
 (.reg
  [MI.op (some 62) (.mov (.tmp 8)) none,
   MI.op (some 63) (.mov (.tmp 9)) none,
   MI.op (some 64) (.toInt .u64 (.tmp 63)) none,
   MI.op (some 65) (.bin .shl (.c (.int .i64 1)) (.tmp 64)) none,
   MI.op (some 66) (.bin .add (.tmp 62) (.tmp 65)) none,
   MI.op (some 8) (.mov (.tmp 66)) none])
def m8_12 : MCode :=
 (.cond (.tmp 61)
  m8_11
  .skip)
def m8_13 : MCode :=
 (.seq
  (.reg
   [MI.op (some 61) (.mov (.tmp 10)) none])
  m8_12)
def m8_14 : MCode :=
 (.seq
  (.blk 5
   (.seq
    (.reg
     [MI.op (some 59) (.mov (.tmp 57)) none,
      MI.op (some 60) (.idx 4 1 false (.tmp 56) (.tmp 57)) none,
      MI.op (some 9) (.mov (.tmp 59)) none,
      MI.op (some 10) (.mov (.tmp 60)) none])
  m8_13))
  (.reg
   [MI.op (some 67) (.bin .add (.tmp 57) (.c (.int .i64 1))) none,
    MI.op (some 57) (.mov (.tmp 67)) none]))
def m8_15 : MCode :=
 (.seq
  (.cond (.tmp 58)
   .skip
   (.exit 4))
  m8_14)
def m8_16 : MCode :=
 (.seq
  (.reg
   [MI.op (some 58) (.bin .lss (.tmp 57) (.c (.int .i64 4))) none])
  m8_15)
def m8_17 : MCode :=
 (.blk 4
  (.loop
  m8_16))
def m8_18 : MCode :=
 (.cond (.tmp 75)
  (.seq
   (.reg
    [MI.op (some 2) (.mov (.c (.bool false))) none])
   .ret)
  .skip)
def m8_19 : MCode :=
 (.seq
  (.reg
   [MI.op (some 68) (.mov (.tmp 8)) none,
    MI.op (some 69) (.mov (.tmp 0)) none,
    MI.op (some 70) (.mov (.tmp 6)) none,
    MI.op (some 71) (.ixSl 1 (.tmp 69) (.tmp 70)) none,
    MI.op (some 72) (.load false 1 (.tmp 71)) none,
    MI.op (some 73) (.bin .rem (.tmp 72) (.c (.int .u8 16))) none,
    MI.op (some 74) (.toInt .i64 (.tmp 73)) none,
    MI.op (some 75) (.bin .neq (.tmp 68) (.tmp 74)) none])
  m8_18)
def m8_20 : MCode :=
 (.seq
  (.seq
   (.reg
    [MI.op (some 48) (.fa 0 (.tmp 7)) none,
     MI.op (some 49) (.load false 1 (.tmp 48)) none,
     MI.op (some 50) (.fa 1 (.tmp 7)) none,
     MI.op (some 51) (.load false 1 (.tmp 50)) none,
     MI.op (some 52) (.fa 2 (.tmp 7)) none,
     MI.op (some 53) (.load false 1 (.tmp 52)) none,
     MI.op (some 54) (.fa 3 (.tmp 7)) none,
     MI.op (some 55) (.load false 1 (.tmp 54)) none,
     MI.op (some 56) (.build [(.bool false), (.bool false), (.bool false), (.bool false)] [(0, 1, (.tmp 49)), (1, 1, (.tmp 51)), (2, 1, (.tmp 53)), (3, 1, (.tmp 55))]) none,
     MI.op (some 57) (.mov (.c (.int .i64 0))) none])
  m8_17)
  m8_19)
def m8_21 : MCode :=
 (.seq
  (.reg
   [MI.op (some 8) (.mov (.c (.int .i64 0))) none])
  m8_20)
def m8_22 : MCode :=
 (.seq
  (.blk 3
   (.seq
    (.reg
     (MI.op (some 46) (.mov (.tmp 3)) none ::
      MI.op (some 47) (.calln 28 [(.tmp 46)]) none ::
      m8_10))
  m8_21))
  (.reg
   [MI.op (some 44) (.mov (.tmp 6)) none,
    MI.op (some 45) (.bin .add (.tmp 44) (.c (.int .i64 1))) none,
    MI.op (some 6) (.mov (.tmp 45)) none]))
def m8_23 : MCode :=
 (.seq
  (.seq
   (.reg
    [MI.op (some 36) (.mov (.tmp 6)) none,
     MI.op (some 37) (.mov (.tmp 0)) none,
     MI.op (some 38) (.len (.tmp 37)) none,
     MI.op (some 39) (.bin .lss (.tmp 36) (.tmp 38)) none,
     MI.op (some 40) (.mov (.tmp 39)) none,
     MI.op (some 41) (.mov (.tmp 6)) (some (40, true)),
     MI.op (some 42) (.bin .lss (.tmp 41) (.c (.int .i64 64))) (some (40, true)),
     MI.op (some 43) (.pick (.tmp 40) (.tmp 42) (.c (.bool false))) none])
   (.cond (.tmp 43)
    .skip
    (.exit 2)))
  m8_22)
def m8_24 : MCode :=
 (.blk 2
  (.loop
  m8_23))
def m8_25 : List MI :=
 [MI.op (some 88) (.pick (.tmp 86) (.tmp 87) (.c (.bool false))) none,
  MI.op (some 2) (.mov (.tmp 88)) none]
def m8_26 : List MI :=
 (MI.op (some 83) (.len (.tmp 82)) (some (80, true)) ::
  MI.op (some 84) (.bin .eql (.tmp 83) (.c (.int .i64 0))) (some (80, true)) ::
  MI.op (some 85) (.pick (.tmp 80) (.tmp 84) (.c (.bool false))) none ::
  MI.op (some 86) (.mov (.tmp 85)) none ::
  MI.op (some 87) (.call 26 []) (some (86, true)) ::
  m8_25)
def m8_27 : List MI :=
 (MI.op (some 78) (.build [(.bool false), (.bool false), (.bool false), (.bool false)] []) none ::
  MI.op (some 79) (.eqv false [(4, .b)] (.tmp 77) (.tmp 78)) none ::
  MI.op (some 80) (.mov (.tmp 79)) none ::
  MI.op (some 81) (.mov (.tmp 3)) (some (80, true)) ::
  MI.op (some 82) (.calln 32 [(.tmp 81)]) (some (80, true)) ::
  m8_26)
def m8_28 : MCode :=
 (.seq
  (.reg
   (MI.op (some 76) (.mov (.tmp 3)) none ::
    MI.op (some 77) (.calln 28 [(.tmp 76)]) none ::
    m8_27))
  .ret)
def m8_29 : MCode :=
 (.seq
  (.seq
   (.reg
    [MI.op (some 6) (.mov (.c (.int .i64 0))) none])
  m8_24)
  m8_28)
def m8_30 : MCode :=
 (.seq
  (.seq
   (.reg
    [MI.op (some 4) (.mov (.c (.int .i64 0))) none])
  m8_9)
  m8_29)
def m8_31 : MCode :=
 (.seq
  (.reg
   [MI.op (some 15) (.build [(.sl .full 0 [])] []) none,
    MI.op (some 16) (.box (.tmp 15)) none,
    MI.op (some 3) (.mov (.tmp 16)) none])
  m8_30)
def m8_32 : MCode :=
 (.seq
  (.seq
   (.reg
    [MI.op (some 11) (.mov (.tmp 0)) none,
     MI.op (some 12) (.len (.tmp 11)) none,
     MI.op (some 13) (.bin .gtr (.tmp 12) (.c (.int .i64 150))) none])
  m8_2)
  m8_31)
def m8_r : List MRes := [.tmp 2]
def m8_b : MCode :=
 (.seq
  (.reg
   [MI.op (some 2) (.mov (.c (.bool false))) none])
  m8_32)
def m8 : MFunc := ⟨1, 89, m8_r, m8_b⟩
theorem c8 : compF Try.prog 8 m8 = some m8 := by kernel_rfl

/- tollhouse/tollhouselaw20.FatesNone -/
def m9_1 : List MI :=
 [MI.op (some 23) (.pick (.tmp 21) (.tmp 22) (.c (.bool false))) none,
  MI.op (some 2) (.mov (.tmp 23)) none]
def m9_2 : List MI :=
 (MI.op (some 18) (.len (.tmp 17)) (some (15, true)) ::
  MI.op (some 19) (.bin .eql (.tmp 18) (.c (.int .i64 0))) (some (15, true)) ::
  MI.op (some 20) (.pick (.tmp 15) (.tmp 19) (.c (.bool false))) none ::
  MI.op (some 21) (.mov (.tmp 20)) none ::
  MI.op (some 22) (.call 26 []) (some (21, true)) ::
  m9_1)
def m9_3 : List MI :=
 (MI.op (some 12) (.build [(.bool false), (.bool false), (.bool false), (.bool false)] []) (some (9, true)) ::
  MI.op (some 13) (.eqv false [(4, .b)] (.tmp 11) (.tmp 12)) (some (9, true)) ::
  MI.op (some 14) (.pick (.tmp 9) (.tmp 13) (.c (.bool false))) none ::
  MI.op (some 15) (.mov (.tmp 14)) none ::
  MI.op (some 16) (.mov (.tmp 3)) (some (15, true)) ::
  MI.op (some 17) (.calln 32 [(.tmp 16)]) (some (15, true)) ::
  m9_2)
def m9_4 : List MI :=
 (MI.op (some 8) (.bin .eql (.tmp 7) (.c (.int .i64 1))) none ::
  MI.op (some 9) (.mov (.tmp 8)) none ::
  MI.op (some 10) (.mov (.tmp 3)) (some (9, true)) ::
  MI.op (some 11) (.calln 28 [(.tmp 10)]) (some (9, true)) ::
  m9_3)
def m9_5 : MCode :=
 (.seq
  (.reg
   (MI.op (some 4) (.mov (.tmp 3)) none ::
    MI.op (some 5) (.mov (.tmp 0)) none ::
    MI.op (some 6) (.bsl 1 1 [(.int .i64 0)] [(0, 1, (.tmp 5))]) none ::
    MI.op (some 7) (.calln 30 [(.tmp 4), (.tmp 6)]) none ::
    m9_4))
  .ret)
def m9_6 : MCode :=
 (.seq
  (.reg
   [MI.op (some 3) (.mov (.c .nilp)) none])
  m9_5)
def m9_r : List MRes := [.tmp 2]
def m9_b : MCode :=
 (.seq
  (.reg
   [MI.op (some 2) (.mov (.c (.bool false))) none])
  m9_6)
def m9 : MFunc := ⟨1, 24, m9_r, m9_b⟩
theorem c9 : compF Try.prog 9 m9 = some m9 := by kernel_rfl

/- tollhouse/tollhouselaw20.FatesBits -/
def m10_1 : List MI :=
 [MI.op (some 5) (.alloc [(.bool false), (.bool false), (.bool false), (.bool false)]) none,
  MI.op (some 6) (.alloc [(.bool false), (.bool false), (.bool false), (.bool false)]) none,
  MI.op none (.store 4 (.tmp 5) (.tmp 9)) none,
  MI.op none (.store 4 (.tmp 6) (.tmp 12)) none]
def m10_2 : List MI :=
 (MI.op (some 10) (.mov (.tmp 1)) none ::
  MI.op (some 11) (.toInt .i64 (.tmp 10)) none ::
  MI.op (some 12) (.call 33 [(.tmp 11)]) none ::
  m10_1)
def m10_3 : List MI :=
 [MI.op (some 64) (.pick (.tmp 62) (.tmp 63) (.c (.bool false))) none,
  MI.op (some 4) (.mov (.tmp 64)) none]
def m10_4 : List MI :=
 (MI.op (some 59) (.build [(.bool false), (.bool false), (.bool false), (.bool false)] []) (some (54, true)) ::
  MI.op (some 60) (.eqv false [(4, .b)] (.tmp 58) (.tmp 59)) (some (54, true)) ::
  MI.op (some 61) (.pick (.tmp 54) (.tmp 60) (.c (.bool false))) none ::
  MI.op (some 62) (.mov (.tmp 61)) none ::
  MI.op (some 63) (.call 26 []) (some (62, true)) ::
  m10_3)
def m10_5 : MCode :=
 (.seq
  (.reg
   (MI.op (some 13) (.fa 0 (.tmp 5)) none ::
    MI.op (some 14) (.load false 1 (.tmp 13)) none ::
    MI.op (some 15) (.mov (.tmp 0)) none ::
    MI.op (some 16) (.bin .and (.tmp 15) (.c (.int .u8 1))) none ::
    MI.op (some 17) (.bin .eql (.tmp 16) (.c (.int .u8 1))) none ::
    MI.op (some 18) (.binB .eql (.tmp 14) (.tmp 17)) none ::
    MI.op (some 19) (.mov (.tmp 18)) none ::
    MI.op (some 20) (.fa 1 (.tmp 5)) (some (19, true)) ::
    MI.op (some 21) (.load false 1 (.tmp 20)) (some (19, true)) ::
    MI.op (some 22) (.mov (.tmp 0)) (some (19, true)) ::
    MI.op (some 23) (.bin .and (.tmp 22) (.c (.int .u8 2))) (some (19, true)) ::
    MI.op (some 24) (.bin .eql (.tmp 23) (.c (.int .u8 2))) (some (19, true)) ::
    MI.op (some 25) (.binB .eql (.tmp 21) (.tmp 24)) (some (19, true)) ::
    MI.op (some 26) (.pick (.tmp 19) (.tmp 25) (.c (.bool false))) none ::
    MI.op (some 27) (.mov (.tmp 26)) none ::
    MI.op (some 28) (.fa 2 (.tmp 5)) (some (27, true)) ::
    MI.op (some 29) (.load false 1 (.tmp 28)) (some (27, true)) ::
    MI.op (some 30) (.mov (.tmp 0)) (some (27, true)) ::
    MI.op (some 31) (.bin .and (.tmp 30) (.c (.int .u8 4))) (some (27, true)) ::
    MI.op (some 32) (.bin .eql (.tmp 31) (.c (.int .u8 4))) (some (27, true)) ::
    MI.op (some 33) (.binB .eql (.tmp 29) (.tmp 32)) (some (27, true)) ::
    MI.op (some 34) (.pick (.tmp 27) (.tmp 33) (.c (.bool false))) none ::
    MI.op (some 35) (.mov (.tmp 34)) none ::
    MI.op (some 36) (.fa 3 (.tmp 5)) (some (35, true)) ::
    MI.op (some 37) (.load false 1 (.tmp 36)) (some (35, true)) ::
    MI.op (some 38) (.mov (.tmp 0)) (some (35, true)) ::
    MI.op (some 39) (.bin .and (.tmp 38) (.c (.int .u8 8))) (some (35, true)) ::
    MI.op (some 40) (.bin .eql (.tmp 39) (.c (.int .u8 8))) (some (35, true)) ::
    MI.op (some 41) (.binB .eql (.tmp 37) (.tmp 40)) (some (35, true)) ::
    MI.op (some 42) (.pick (.tmp 35) (.tmp 41) (.c (.bool false))) none ::
    MI.op (some 43) (.mov (.tmp 42)) none ::
    MI.op (some 44) (.load true 4 (.tmp 5)) (some (43, true)) ::
    MI.op (some 45) (.load true 4 (.tmp 6)) (some (43, true)) ::
    MI.op (some 46) (.eqv false [(4, .b)] (.tmp 44) (.tmp 45)) (some (43, true)) ::
    MI.op (some 47) (.mov (.tmp 0)) (some (43, true)) ::
    MI.op (some 48) (.bin .rem (.tmp 47) (.c (.int .u8 16))) (some (43, true)) ::
    MI.op (some 49) (.mov (.tmp 1)) (some (43, true)) ::
    MI.op (some 50) (.bin .rem (.tmp 49) (.c (.int .u8 16))) (some (43, true)) ::
    MI.op (some 51) (.bin .eql (.tmp 48) (.tmp 50)) (some (43, true)) ::
    MI.op (some 52) (.binB .eql (.tmp 46) (.tmp 51)) (some (43, true)) ::
    MI.op (some 53) (.pick (.tmp 43) (.tmp 52) (.c (.bool false))) none ::
    MI.op (some 54) (.mov (.tmp 53)) none ::
    MI.op (some 55) (.mov (.tmp 0)) (some (54, true)) ::
    MI.op (some 56) (.toInt .i64 (.tmp 55)) (some (54, true)) ::
    MI.op (some 57) (.bin .sub (.c (.int .i64 (-1))) (.tmp 56)) (some (54, true)) ::
    MI.op (some 58) (.call 33 [(.tmp 57)]) (some (54, true)) ::
    m10_4))
  .ret)
def m10_6 : MCode :=
 (.seq
  (.reg
   (MI.op (some 7) (.mov (.tmp 0)) none ::
    MI.op (some 8) (.toInt .i64 (.tmp 7)) none ::
    MI.op (some 9) (.call 33 [(.tmp 8)]) none ::
    m10_2))
  m10_5)
def m10_r : List MRes := [.tmp 4]
def m10_b : MCode :=
 (.seq
  (.reg
   [MI.op (some 4) (.mov (.c (.bool false))) none])
  m10_6)
def m10 : MFunc := ⟨2, 65, m10_r, m10_b⟩
theorem c10 : compF Try.prog 10 m10 = some m10 := by kernel_rfl

/- tollhouse/tollhousekeep.Ints -/
def m24_1 : MCode :=
 (.cond (.tmp 10)
  (.seq
   (.reg
    [MI.op (some 4) (.mov (.c (.bool false))) none])
   .ret)
  .skip)
def m24_2 : MCode :=
 (.cond (.tmp 25)
  (.seq
   (.reg
    [MI.op (some 4) (.mov (.c (.bool false))) none])
   .ret)
  .skip)
def m24_3 : MCode :=
 (.seq
  (.blk 1
   (.seq
    (.drw
     [MI.op (some 17) (.mov (.tmp 0)) none,
      MI.op (some 18) (.mov (.tmp 5)) none,
      MI.op (some 19) (.ixSl 1 (.tmp 17) (.tmp 18)) none,
      MI.op (some 20) (.load false 1 (.tmp 19)) none,
      MI.op (some 21) (.mov (.tmp 1)) none,
      MI.op (some 22) (.mov (.tmp 5)) none,
      MI.op (some 23) (.ixSl 1 (.tmp 21) (.tmp 22)) none,
      MI.op (some 24) (.load false 1 (.tmp 23)) none]
     [MI.op (some 25) (.bin .neq (.tmp 20) (.tmp 24)) none])
  m24_2))
  (.reg
   [MI.op (some 15) (.mov (.tmp 5)) none,
    MI.op (some 16) (.bin .add (.tmp 15) (.c (.int .i64 1))) none,
    MI.op (some 5) (.mov (.tmp 16)) none]))
def m24_4 : MCode :=
 (.seq
  (.seq
   (.reg
    [MI.op (some 11) (.mov (.tmp 5)) none,
     MI.op (some 12) (.mov (.tmp 0)) none,
     MI.op (some 13) (.len (.tmp 12)) none,
     MI.op (some 14) (.bin .lss (.tmp 11) (.tmp 13)) none])
   (.cond (.tmp 14)
    .skip
    (.exit 0)))
  m24_3)
def m24_5 : MCode :=
 (.blk 0
  (.loop
  m24_4))
def m24_6 : MCode :=
 (.seq
  (.seq
   (.reg
    [MI.op (some 5) (.mov (.c (.int .i64 0))) none])
  m24_5)
  (.seq
   (.reg
    [MI.op (some 4) (.mov (.c (.bool true))) none])
   .ret))
def m24_7 : MCode :=
 (.seq
  (.seq
   (.reg
    [MI.op (some 6) (.mov (.tmp 0)) none,
     MI.op (some 7) (.len (.tmp 6)) none,
     MI.op (some 8) (.mov (.tmp 1)) none,
     MI.op (some 9) (.len (.tmp 8)) none,
     MI.op (some 10) (.bin .neq (.tmp 7) (.tmp 9)) none])
  m24_1)
  m24_6)
def m24_r : List MRes := [.tmp 4]
def m24_b : MCode :=
 (.seq
  (.reg
   [MI.op (some 4) (.mov (.c (.bool false))) none])
  m24_7)
def m24 : MFunc := ⟨2, 26, m24_r, m24_b⟩
theorem c24 : compF Try.prog 24 m24 = some m24 := by kernel_rfl

/- tollhouse/tollhouselaw20.wakes -/
def m26_1 : List MI :=
 [MI.op (some 2) (.mov (.tmp 11)) none,
  MI.op (some 3) (.mov (.tmp 14)) none]
def m26_2 : List MI :=
 (MI.op (some 12) (.mov (.tmp 1)) none ::
  MI.op (some 13) (.bsl 1 1 [(.int .i64 0)] [(0, 1, (.c (.int .i64 16)))]) none ::
  MI.op (some 14) (.calln 30 [(.tmp 12), (.tmp 13)]) none ::
  m26_1)
def m26_3 : List MI :=
 [MI.op (some 4) (.alloc [(.bool false), (.bool false), (.bool false), (.bool false)]) none,
  MI.op (some 5) (.alloc [(.bool false), (.bool false), (.bool false), (.bool false)]) none,
  MI.op (some 6) (.alloc [(.bool false), (.bool false), (.bool false), (.bool false)]) none,
  MI.op none (.store 4 (.tmp 4) (.tmp 16)) none,
  MI.op none (.store 4 (.tmp 5) (.tmp 18)) none,
  MI.op none (.store 4 (.tmp 6) (.tmp 20)) none]
def m26_4 : List MI :=
 (MI.op (some 19) (.mov (.tmp 1)) none ::
  MI.op (some 20) (.calln 28 [(.tmp 19)]) none ::
  m26_3)
def m26_5 : List MI :=
 (MI.op (some 17) (.mov (.tmp 1)) none ::
  MI.op (some 18) (.calln 28 [(.tmp 17)]) none ::
  m26_4)
def m26_6 : List MI :=
 [MI.op (some 61) (.len (.tmp 60)) (some (58, true)),
  MI.op (some 62) (.bin .eql (.tmp 61) (.c (.int .i64 0))) (some (58, true)),
  MI.op (some 63) (.pick (.tmp 58) (.tmp 62) (.c (.bool false))) none,
  MI.op (some 0) (.mov (.tmp 63)) none]
def m26_7 : List MI :=
 (MI.op (some 56) (.fld false 3 1 (.tmp 55)) (some (54, true)) ::
  MI.op (some 57) (.pick (.tmp 54) (.tmp 56) (.c (.bool false))) none ::
  MI.op (some 58) (.mov (.tmp 57)) none ::
  MI.op (some 59) (.mov (.tmp 1)) (some (58, true)) ::
  MI.op (some 60) (.calln 32 [(.tmp 59)]) (some (58, true)) ::
  m26_6)
def m26_8 : MCode :=
 (.seq
  (.reg
   (MI.op (some 21) (.mov (.tmp 2)) none ::
    MI.op (some 22) (.bin .eql (.tmp 21) (.c (.int .i64 0))) none ::
    MI.op (some 23) (.mov (.tmp 22)) none ::
    MI.op (some 24) (.mov (.tmp 3)) (some (23, true)) ::
    MI.op (some 25) (.bin .eql (.tmp 24) (.c (.int .i64 1))) (some (23, true)) ::
    MI.op (some 26) (.pick (.tmp 23) (.tmp 25) (.c (.bool false))) none ::
    MI.op (some 27) (.mov (.tmp 26)) none ::
    MI.op (some 28) (.fa 0 (.tmp 4)) (some (27, true)) ::
    MI.op (some 29) (.load false 1 (.tmp 28)) (some (27, true)) ::
    MI.op (some 30) (.pick (.tmp 27) (.tmp 29) (.c (.bool false))) none ::
    MI.op (some 31) (.mov (.tmp 30)) none ::
    MI.op (some 32) (.fa 1 (.tmp 4)) (some (31, true)) ::
    MI.op (some 33) (.load false 1 (.tmp 32)) (some (31, true)) ::
    MI.op (some 34) (.un .not (.tmp 33)) (some (31, true)) ::
    MI.op (some 35) (.pick (.tmp 31) (.tmp 34) (.c (.bool false))) none ::
    MI.op (some 36) (.mov (.tmp 35)) none ::
    MI.op (some 37) (.fa 1 (.tmp 5)) (some (36, true)) ::
    MI.op (some 38) (.load false 1 (.tmp 37)) (some (36, true)) ::
    MI.op (some 39) (.pick (.tmp 36) (.tmp 38) (.c (.bool false))) none ::
    MI.op (some 40) (.mov (.tmp 39)) none ::
    MI.op (some 41) (.fa 2 (.tmp 5)) (some (40, true)) ::
    MI.op (some 42) (.load false 1 (.tmp 41)) (some (40, true)) ::
    MI.op (some 43) (.pick (.tmp 40) (.tmp 42) (.c (.bool false))) none ::
    MI.op (some 44) (.mov (.tmp 43)) none ::
    MI.op (some 45) (.fa 0 (.tmp 5)) (some (44, true)) ::
    MI.op (some 46) (.load false 1 (.tmp 45)) (some (44, true)) ::
    MI.op (some 47) (.un .not (.tmp 46)) (some (44, true)) ::
    MI.op (some 48) (.pick (.tmp 44) (.tmp 47) (.c (.bool false))) none ::
    MI.op (some 49) (.mov (.tmp 48)) none ::
    MI.op (some 50) (.load true 4 (.tmp 6)) (some (49, true)) ::
    MI.op (some 51) (.build [(.bool false), (.bool false), (.bool false), (.bool false)] []) (some (49, true)) ::
    MI.op (some 52) (.eqv false [(4, .b)] (.tmp 50) (.tmp 51)) (some (49, true)) ::
    MI.op (some 53) (.pick (.tmp 49) (.tmp 52) (.c (.bool false))) none ::
    MI.op (some 54) (.mov (.tmp 53)) none ::
    MI.op (some 55) (.call 33 [(.c (.int .i64 8))]) (some (54, true)) ::
    m26_7))
  .ret)
def m26_9 : MCode :=
 (.seq
  (.reg
   (MI.op (some 15) (.mov (.tmp 1)) none ::
    MI.op (some 16) (.calln 28 [(.tmp 15)]) none ::
    m26_5))
  m26_8)
def m26_10 : MCode :=
 (.seq
  (.reg
   (MI.op (some 9) (.mov (.tmp 1)) none ::
    MI.op (some 10) (.bsl 2 1 [(.int .i64 0)] [(0, 1, (.c (.int .i64 1))), (1, 1, (.c (.int .i64 6)))]) none ::
    MI.op (some 11) (.calln 30 [(.tmp 9), (.tmp 10)]) none ::
    m26_2))
  m26_9)
def m26_11 : MCode :=
 (.seq
  (.reg
   [MI.op (some 7) (.build [(.sl .full 0 [])] []) none,
    MI.op (some 8) (.box (.tmp 7)) none,
    MI.op (some 1) (.mov (.tmp 8)) none])
  m26_10)
def m26_r : List MRes := [.tmp 0]
def m26_b : MCode :=
 (.seq
  (.reg
   [MI.op (some 0) (.mov (.c (.bool false))) none])
  m26_11)
def m26 : MFunc := ⟨0, 64, m26_r, m26_b⟩
theorem c26 : compF Try.prog 26 m26 = some m26 := by kernel_rfl

/- tollhouse/tollhouselaw20.own -/
def m27_1 : MCode :=
 (.seq
  (.reg
   [MI.op (some 3) (.fa 0 (.tmp 1)) none,
    MI.op (some 4) (.load false 1 (.tmp 3)) none,
    MI.op (some 5) (.fa 1 (.tmp 1)) none,
    MI.op (some 6) (.load false 1 (.tmp 5)) none,
    MI.op (some 7) (.fa 2 (.tmp 1)) none,
    MI.op (some 8) (.load false 1 (.tmp 7)) none,
    MI.op (some 9) (.fa 3 (.tmp 1)) none,
    MI.op (some 10) (.load false 1 (.tmp 9)) none,
    MI.op (some 11) (.build [(.bool false), (.bool false), (.bool false), (.bool false)] [(0, 1, (.tmp 4)), (1, 1, (.tmp 6)), (2, 1, (.tmp 8)), (3, 1, (.tmp 10))]) none,
    MI.op none (.store 4 (.tmp 2) (.tmp 11)) none])
  .ret)
def m27_r : List MRes := [.cell 2 true 4]
def m27_b : MCode :=
 (.seq
  (.reg
   [MI.op (some 1) (.box (.tmp 0)) none,
    MI.op (some 2) (.alloc [(.bool false), (.bool false), (.bool false), (.bool false)]) none])
  m27_1)
def m27 : MFunc := ⟨1, 12, m27_r, m27_b⟩
theorem c27 : compF Try.prog 27 m27 = some m27 := by kernel_rfl

/- (*tollhouse/fates.Fates).Take -/
def m28_1 : MCode :=
 (.seq
  (.reg
   [MI.op (some 14) (.build [(.bool false), (.bool false), (.bool false), (.bool false)] []) none,
    MI.op none (.store 4 (.tmp 2) (.tmp 14)) none])
  .ret)
def m28_2 : MCode :=
 (.cond (.tmp 13)
  m28_1
  .skip)
def m28_3 : MCode :=
 (.seq
  (.reg
   [MI.op (some 29) (.mov (.tmp 3)) none,
    MI.op (some 30) (.call 33 [(.tmp 29)]) none,
    MI.op none (.store 4 (.tmp 2) (.tmp 30)) none])
  .ret)
def m28_4 : MCode :=
 (.seq
  (.reg
   [MI.op (some 21) (.mov (.tmp 0)) none,
    MI.op (some 22) (.mov (.tmp 0)) none,
    MI.op (some 23) (.chk (.tmp 22)) none,
    MI.op (some 24) (.fa 0 (.tmp 23)) none,
    MI.op (some 25) (.load false 1 (.tmp 24)) none,
    MI.op (some 26) (.slSl 1 (.tmp 25) (some (.c (.int .i64 1))) none none) none,
    MI.op (some 27) (.chk (.tmp 21)) none,
    MI.op (some 28) (.fa 0 (.tmp 27)) none,
    MI.op none (.store 1 (.tmp 28) (.tmp 26)) none])
  m28_3)
def m28_5 : MCode :=
 (.seq
  (.reg
   [MI.op (some 15) (.mov (.tmp 0)) none,
    MI.op (some 16) (.chk (.tmp 15)) none,
    MI.op (some 17) (.fa 0 (.tmp 16)) none,
    MI.op (some 18) (.load false 1 (.tmp 17)) none,
    MI.op (some 19) (.ixSl 1 (.tmp 18) (.c (.int .i64 0))) none,
    MI.op (some 20) (.load false 1 (.tmp 19)) none,
    MI.op (some 3) (.mov (.tmp 20)) none])
  m28_4)
def m28_6 : MCode :=
 (.seq
  (.seq
   (.reg
    [MI.op (some 4) (.mov (.tmp 0)) none,
     MI.op (some 5) (.nilP false (.tmp 4)) none,
     MI.op (some 6) (.mov (.tmp 5)) none,
     MI.op (some 7) (.mov (.tmp 0)) (some (6, false)),
     MI.op (some 8) (.chk (.tmp 7)) (some (6, false)),
     MI.op (some 9) (.fa 0 (.tmp 8)) (some (6, false)),
     MI.op (some 10) (.load false 1 (.tmp 9)) (some (6, false)),
     MI.op (some 11) (.len (.tmp 10)) (some (6, false)),
     MI.op (some 12) (.bin .eql (.tmp 11) (.c (.int .i64 0))) (some (6, false)),
     MI.op (some 13) (.pick (.tmp 6) (.c (.bool true)) (.tmp 12)) none])
  m28_2)
  m28_5)
def m28_r : List MRes := [.cell 2 true 4]
def m28_b : MCode :=
 (.seq
  (.reg
   [MI.op (some 2) (.alloc [(.bool false), (.bool false), (.bool false), (.bool false)]) none])
  m28_6)
def m28 : MFunc := ⟨1, 31, m28_r, m28_b⟩
theorem c28 : compF Try.prog 28 m28 = some m28 := by kernel_rfl

/- (*tollhouse/tollhouseref20.Fates).Take -/
def m29_1 : MCode :=
 (.seq
  (.reg
   [MI.op (some 10) (.build [(.bool false), (.bool false), (.bool false), (.bool false)] []) none,
    MI.op none (.store 4 (.tmp 2) (.tmp 10)) none])
  .ret)
def m29_2 : MCode :=
 (.cond (.tmp 9)
  m29_1
  .skip)
def m29_3 : MCode :=
 (.seq
  (.reg
   [MI.op (some 27) (.mov (.tmp 3)) none,
    MI.op (some 28) (.call 34 [(.tmp 27)]) none,
    MI.op none (.store 4 (.tmp 2) (.tmp 28)) none])
  .ret)
def m29_4 : MCode :=
 (.seq
  (.reg
   [MI.op (some 17) (.mov (.tmp 0)) none,
    MI.op (some 18) (.bsl 0 1 [(.int .i64 0)] []) none,
    MI.op (some 19) (.mov (.tmp 0)) none,
    MI.op (some 20) (.chk (.tmp 19)) none,
    MI.op (some 21) (.fa 0 (.tmp 20)) none,
    MI.op (some 22) (.load false 1 (.tmp 21)) none,
    MI.op (some 23) (.slSl 1 (.tmp 22) (some (.c (.int .i64 1))) none none) none,
    MI.op (some 24) (.app 1 8 (.tmp 18) (.tmp 23)) none,
    MI.op (some 25) (.chk (.tmp 17)) none,
    MI.op (some 26) (.fa 0 (.tmp 25)) none,
    MI.op none (.store 1 (.tmp 26) (.tmp 24)) none])
  m29_3)
def m29_5 : MCode :=
 (.seq
  (.reg
   [MI.op (some 11) (.mov (.tmp 0)) none,
    MI.op (some 12) (.chk (.tmp 11)) none,
    MI.op (some 13) (.fa 0 (.tmp 12)) none,
    MI.op (some 14) (.load false 1 (.tmp 13)) none,
    MI.op (some 15) (.ixSl 1 (.tmp 14) (.c (.int .i64 0))) none,
    MI.op (some 16) (.load false 1 (.tmp 15)) none,
    MI.op (some 3) (.mov (.tmp 16)) none])
  m29_4)
def m29_6 : MCode :=
 (.seq
  (.seq
   (.reg
    [MI.op (some 4) (.mov (.tmp 0)) none,
     MI.op (some 5) (.chk (.tmp 4)) none,
     MI.op (some 6) (.fa 0 (.tmp 5)) none,
     MI.op (some 7) (.load false 1 (.tmp 6)) none,
     MI.op (some 8) (.len (.tmp 7)) none,
     MI.op (some 9) (.bin .eql (.tmp 8) (.c (.int .i64 0))) none])
  m29_2)
  m29_5)
def m29_r : List MRes := [.cell 2 true 4]
def m29_b : MCode :=
 (.seq
  (.reg
   [MI.op (some 2) (.alloc [(.bool false), (.bool false), (.bool false), (.bool false)]) none])
  m29_6)
def m29 : MFunc := ⟨1, 29, m29_r, m29_b⟩
theorem c29 : compF Try.prog 29 m29 = some m29 := by kernel_rfl

/- (*tollhouse/fates.Fates).Add -/
def m30_1 : MCode :=
 (.cond (.tmp 10)
  (.seq
   (.reg
    [MI.op (some 4) (.mov (.c (.int .i64 1))) none])
   .ret)
  .skip)
def m30_2 : MCode :=
 (.cond (.tmp 19)
  (.seq
   (.reg
    [MI.op (some 4) (.mov (.c (.int .i64 19))) none])
   .ret)
  .skip)
def m30_3 : MCode :=
 (.seq
  (.reg
   [MI.op (some 20) (.mov (.tmp 0)) none,
    MI.op (some 21) (.mov (.tmp 0)) none,
    MI.op (some 22) (.chk (.tmp 21)) none,
    MI.op (some 23) (.fa 0 (.tmp 22)) none,
    MI.op (some 24) (.load false 1 (.tmp 23)) none,
    MI.op (some 25) (.mov (.tmp 1)) none,
    MI.op (some 26) (.app 1 8 (.tmp 24) (.tmp 25)) none,
    MI.op (some 27) (.chk (.tmp 20)) none,
    MI.op (some 28) (.fa 0 (.tmp 27)) none,
    MI.op none (.store 1 (.tmp 28) (.tmp 26)) none])
  (.seq
   (.reg
    [MI.op (some 4) (.mov (.c (.int .i64 0))) none])
   .ret))
def m30_4 : MCode :=
 (.seq
  (.seq
   (.reg
    [MI.op (some 11) (.mov (.tmp 1)) none,
     MI.op (some 12) (.len (.tmp 11)) none,
     MI.op (some 13) (.mov (.tmp 0)) none,
     MI.op (some 14) (.chk (.tmp 13)) none,
     MI.op (some 15) (.fa 0 (.tmp 14)) none,
     MI.op (some 16) (.load false 1 (.tmp 15)) none,
     MI.op (some 17) (.len (.tmp 16)) none,
     MI.op (some 18) (.bin .sub (.c (.int .i64 64)) (.tmp 17)) none,
     MI.op (some 19) (.bin .gtr (.tmp 12) (.tmp 18)) none])
  m30_2)
  m30_3)
def m30_5 : MCode :=
 (.seq
  (.seq
   (.reg
    [MI.op (some 5) (.mov (.tmp 0)) none,
     MI.op (some 6) (.nilP false (.tmp 5)) none,
     MI.op (some 7) (.mov (.tmp 6)) none,
     MI.op (some 8) (.mov (.tmp 1)) (some (7, false)),
     MI.op (some 9) (.call 50 [(.tmp 8), (.c (.clo 51 []))]) (some (7, false)),
     MI.op (some 10) (.pick (.tmp 7) (.c (.bool true)) (.tmp 9)) none])
  m30_1)
  m30_4)
def m30_r : List MRes := [.tmp 4]
def m30_b : MCode :=
 (.seq
  (.reg
   [MI.op (some 4) (.mov (.c (.int .i64 0))) none])
  m30_5)
def m30 : MFunc := ⟨2, 29, m30_r, m30_b⟩
theorem c30 : compF Try.prog 30 m30 = some m30 := by kernel_rfl

/- (*tollhouse/tollhouseref20.Fates).Add -/
def m31_1 : MCode :=
 (.cond (.tmp 23)
  (.seq
   (.reg
    [MI.op (some 4) (.mov (.c (.int .i64 1))) none])
   .ret)
  .skip)
def m31_2 : MCode :=
 (.seq
  (.blk 1
   (.seq
    (.reg
     [MI.op (some 12) (.mov (.tmp 1)) none,
      MI.op (some 13) (.mov (.tmp 5)) none,
      MI.op (some 14) (.ixSl 1 (.tmp 12) (.tmp 13)) none,
      MI.op (some 15) (.load false 1 (.tmp 14)) none,
      MI.op (some 16) (.bin .lss (.tmp 15) (.c (.int .i64 0))) none,
      MI.op (some 17) (.mov (.tmp 16)) none,
      MI.op (some 18) (.mov (.tmp 1)) (some (17, false)),
      MI.op (some 19) (.mov (.tmp 5)) (some (17, false)),
      MI.op (some 20) (.ixSl 1 (.tmp 18) (.tmp 19)) (some (17, false)),
      MI.op (some 21) (.load false 1 (.tmp 20)) (some (17, false)),
      MI.op (some 22) (.bin .gtr (.tmp 21) (.c (.int .i64 15))) (some (17, false)),
      MI.op (some 23) (.pick (.tmp 17) (.c (.bool true)) (.tmp 22)) none])
  m31_1))
  (.reg
   [MI.op (some 10) (.mov (.tmp 5)) none,
    MI.op (some 11) (.bin .add (.tmp 10) (.c (.int .i64 1))) none,
    MI.op (some 5) (.mov (.tmp 11)) none]))
def m31_3 : MCode :=
 (.seq
  (.seq
   (.reg
    [MI.op (some 6) (.mov (.tmp 5)) none,
     MI.op (some 7) (.mov (.tmp 1)) none,
     MI.op (some 8) (.len (.tmp 7)) none,
     MI.op (some 9) (.bin .lss (.tmp 6) (.tmp 8)) none])
   (.cond (.tmp 9)
    .skip
    (.exit 0)))
  m31_2)
def m31_4 : MCode :=
 (.blk 0
  (.loop
  m31_3))
def m31_5 : MCode :=
 (.cond (.tmp 32)
  (.seq
   (.reg
    [MI.op (some 4) (.mov (.c (.int .i64 19))) none])
   .ret)
  .skip)
def m31_6 : MCode :=
 (.seq
  (.reg
   [MI.op (some 33) (.mov (.tmp 0)) none,
    MI.op (some 34) (.bsl 0 1 [(.int .i64 0)] []) none,
    MI.op (some 35) (.mov (.tmp 0)) none,
    MI.op (some 36) (.chk (.tmp 35)) none,
    MI.op (some 37) (.fa 0 (.tmp 36)) none,
    MI.op (some 38) (.load false 1 (.tmp 37)) none,
    MI.op (some 39) (.app 1 8 (.tmp 34) (.tmp 38)) none,
    MI.op (some 40) (.mov (.tmp 1)) none,
    MI.op (some 41) (.app 1 8 (.tmp 39) (.tmp 40)) none,
    MI.op (some 42) (.chk (.tmp 33)) none,
    MI.op (some 43) (.fa 0 (.tmp 42)) none,
    MI.op none (.store 1 (.tmp 43) (.tmp 41)) none])
  (.seq
   (.reg
    [MI.op (some 4) (.mov (.c (.int .i64 0))) none])
   .ret))
def m31_7 : MCode :=
 (.seq
  (.seq
   (.reg
    [MI.op (some 24) (.mov (.tmp 0)) none,
     MI.op (some 25) (.chk (.tmp 24)) none,
     MI.op (some 26) (.fa 0 (.tmp 25)) none,
     MI.op (some 27) (.load false 1 (.tmp 26)) none,
     MI.op (some 28) (.len (.tmp 27)) none,
     MI.op (some 29) (.mov (.tmp 1)) none,
     MI.op (some 30) (.len (.tmp 29)) none,
     MI.op (some 31) (.bin .add (.tmp 28) (.tmp 30)) none,
     MI.op (some 32) (.bin .gtr (.tmp 31) (.c (.int .i64 64))) none])
  m31_5)
  m31_6)
def m31_8 : MCode :=
 (.seq
  (.seq
   (.reg
    [MI.op (some 5) (.mov (.c (.int .i64 0))) none])
  m31_4)
  m31_7)
def m31_r : List MRes := [.tmp 4]
def m31_b : MCode :=
 (.seq
  (.reg
   [MI.op (some 4) (.mov (.c (.int .i64 0))) none])
  m31_8)
def m31 : MFunc := ⟨2, 44, m31_r, m31_b⟩
theorem c31 : compF Try.prog 31 m31 = some m31 := by kernel_rfl

/- (*tollhouse/fates.Fates).All -/
def m32_1 : MCode :=
 (.cond (.tmp 4)
  (.seq
   (.reg
    [MI.op (some 2) (.mov (.c (.sl .full 0 []))) none])
   .ret)
  .skip)
def m32_2 : MCode :=
 (.seq
  (.reg
   [MI.op (some 5) (.mov (.tmp 0)) none,
    MI.op (some 6) (.chk (.tmp 5)) none,
    MI.op (some 7) (.fa 0 (.tmp 6)) none,
    MI.op (some 8) (.load false 1 (.tmp 7)) none,
    MI.op (some 9) (.call 52 [(.tmp 8)]) none,
    MI.op (some 2) (.mov (.tmp 9)) none])
  .ret)
def m32_3 : MCode :=
 (.seq
  (.seq
   (.reg
    [MI.op (some 3) (.mov (.tmp 0)) none,
     MI.op (some 4) (.nilP false (.tmp 3)) none])
  m32_1)
  m32_2)
def m32_r : List MRes := [.tmp 2]
def m32_b : MCode :=
 (.seq
  (.reg
   [MI.op (some 2) (.mov (.c (.sl .full 0 []))) none])
  m32_3)
def m32 : MFunc := ⟨1, 10, m32_r, m32_b⟩
theorem c32 : compF Try.prog 32 m32 = some m32 := by kernel_rfl

/- tollhouse/fates.Of -/
def m33_1 : MCode :=
 (.seq
  (.reg
   [MI.op (some 5) (.build [(.bool false), (.bool false), (.bool false), (.bool false)] []) none,
    MI.op none (.store 4 (.tmp 2) (.tmp 5)) none])
  .ret)
def m33_2 : MCode :=
 (.cond (.tmp 4)
  m33_1
  .skip)
def m33_3 : MCode :=
 (.seq
  (.reg
   [MI.op (some 6) (.mov (.tmp 0)) none,
    MI.op (some 7) (.bin .and (.tmp 6) (.c (.int .i64 1))) none,
    MI.op (some 8) (.bin .neq (.tmp 7) (.c (.int .i64 0))) none,
    MI.op (some 9) (.mov (.tmp 0)) none,
    MI.op (some 10) (.bin .and (.tmp 9) (.c (.int .i64 2))) none,
    MI.op (some 11) (.bin .neq (.tmp 10) (.c (.int .i64 0))) none,
    MI.op (some 12) (.mov (.tmp 0)) none,
    MI.op (some 13) (.bin .and (.tmp 12) (.c (.int .i64 4))) none,
    MI.op (some 14) (.bin .neq (.tmp 13) (.c (.int .i64 0))) none,
    MI.op (some 15) (.mov (.tmp 0)) none,
    MI.op (some 16) (.bin .and (.tmp 15) (.c (.int .i64 8))) none,
    MI.op (some 17) (.bin .neq (.tmp 16) (.c (.int .i64 0))) none,
    MI.op (some 18) (.build [(.bool false), (.bool false), (.bool false), (.bool false)] [(0, 1, (.tmp 8)), (1, 1, (.tmp 11)), (2, 1, (.tmp 14)), (3, 1, (.tmp 17))]) none,
    MI.op none (.store 4 (.tmp 2) (.tmp 18)) none])
  .ret)
def m33_4 : MCode :=
 (.seq
  (.seq
   (.reg
    [MI.op (some 3) (.mov (.tmp 0)) none,
     MI.op (some 4) (.bin .lss (.tmp 3) (.c (.int .i64 0))) none])
  m33_2)
  m33_3)
def m33_r : List MRes := [.cell 2 true 4]
def m33_b : MCode :=
 (.seq
  (.reg
   [MI.op (some 2) (.alloc [(.bool false), (.bool false), (.bool false), (.bool false)]) none])
  m33_4)
def m33 : MFunc := ⟨1, 19, m33_r, m33_b⟩
theorem c33 : compF Try.prog 33 m33 = some m33 := by kernel_rfl

/- tollhouse/tollhouseref20.Of -/
def m34_1 : MCode :=
 (.seq
  (.reg
   [MI.op (some 5) (.build [(.bool false), (.bool false), (.bool false), (.bool false)] []) none,
    MI.op none (.store 4 (.tmp 2) (.tmp 5)) none])
  .ret)
def m34_2 : MCode :=
 (.cond (.tmp 4)
  m34_1
  .skip)
def m34_3 : MCode :=
 (.seq
  (.reg
   [MI.op (some 8) (.mov (.tmp 0)) none,
    MI.op (some 9) (.bin .rem (.tmp 8) (.c (.int .i64 2))) none,
    MI.op (some 10) (.bin .eql (.tmp 9) (.c (.int .i64 1))) none,
    MI.op (some 11) (.mov (.tmp 0)) none,
    MI.op (some 12) (.bin .quo (.tmp 11) (.c (.int .i64 2))) none,
    MI.op (some 13) (.bin .rem (.tmp 12) (.c (.int .i64 2))) none,
    MI.op (some 14) (.bin .eql (.tmp 13) (.c (.int .i64 1))) none,
    MI.op (some 15) (.mov (.tmp 0)) none,
    MI.op (some 16) (.bin .quo (.tmp 15) (.c (.int .i64 4))) none,
    MI.op (some 17) (.bin .rem (.tmp 16) (.c (.int .i64 2))) none,
    MI.op (some 18) (.bin .eql (.tmp 17) (.c (.int .i64 1))) none,
    MI.op (some 19) (.mov (.tmp 0)) none,
    MI.op (some 20) (.bin .quo (.tmp 19) (.c (.int .i64 8))) none,
    MI.op (some 21) (.bin .eql (.tmp 20) (.c (.int .i64 1))) none,
    MI.op (some 22) (.build [(.bool false), (.bool false), (.bool false), (.bool false)] [(0, 1, (.tmp 10)), (1, 1, (.tmp 14)), (2, 1, (.tmp 18)), (3, 1, (.tmp 21))]) none,
    MI.op none (.store 4 (.tmp 2) (.tmp 22)) none])
  .ret)
def m34_4 : MCode :=
 (.seq
  (.reg
   [MI.op (some 6) (.mov (.tmp 0)) none,
    MI.op (some 7) (.bin .rem (.tmp 6) (.c (.int .i64 16))) none,
    MI.op (some 0) (.mov (.tmp 7)) none])
  m34_3)
def m34_5 : MCode :=
 (.seq
  (.seq
   (.reg
    [MI.op (some 3) (.mov (.tmp 0)) none,
     MI.op (some 4) (.bin .lss (.tmp 3) (.c (.int .i64 0))) none])
  m34_2)
  m34_4)
def m34_r : List MRes := [.cell 2 true 4]
def m34_b : MCode :=
 (.seq
  (.reg
   [MI.op (some 2) (.alloc [(.bool false), (.bool false), (.bool false), (.bool false)]) none])
  m34_5)
def m34 : MFunc := ⟨1, 23, m34_r, m34_b⟩
theorem c34 : compF Try.prog 34 m34 = some m34 := by kernel_rfl

/- slices.ContainsFunc[[]int,int] -/
def m50_1 : List MI :=
 [MI.op (some 8) (.bin .geq (.tmp 7) (.c (.int .i64 0))) none,
  MI.op (some 4) (.mov (.tmp 8)) none]
def m50_2 : MCode :=
 (.seq
  (.reg
   (MI.op (some 5) (.mov (.tmp 0)) none ::
    MI.op (some 6) (.mov (.tmp 1)) none ::
    MI.op (some 7) (.call 60 [(.tmp 5), (.tmp 6)]) none ::
    m50_1))
  .ret)
def m50_r : List MRes := [.tmp 4]
def m50_b : MCode :=
 (.seq
  (.reg
   [MI.op (some 4) (.mov (.c (.bool false))) none])
  m50_2)
def m50 : MFunc := ⟨2, 9, m50_r, m50_b⟩
theorem c50 : compF Try.prog 50 m50 = some m50 := by kernel_rfl

/- (*tollhouse/fates.Fates).Add$1 -/
def m51_1 : MCode :=
 (.seq
  (.reg
   [MI.op (some 3) (.mov (.tmp 0)) none,
    MI.op (some 4) (.bin .lss (.tmp 3) (.c (.int .i64 0))) none,
    MI.op (some 5) (.mov (.tmp 4)) none,
    MI.op (some 6) (.mov (.tmp 0)) (some (5, false)),
    MI.op (some 7) (.bin .gtr (.tmp 6) (.c (.int .i64 15))) (some (5, false)),
    MI.op (some 8) (.pick (.tmp 5) (.c (.bool true)) (.tmp 7)) none,
    MI.op (some 2) (.mov (.tmp 8)) none])
  .ret)
def m51_r : List MRes := [.tmp 2]
def m51_b : MCode :=
 (.seq
  (.reg
   [MI.op (some 2) (.mov (.c (.bool false))) none])
  m51_1)
def m51 : MFunc := ⟨1, 9, m51_r, m51_b⟩
theorem c51 : compF Try.prog 51 m51 = some m51 := by kernel_rfl

/- slices.Clone[[]int,int] -/
def m52_1 : MCode :=
 (.cond (.tmp 4)
  (.seq
   (.reg
    [MI.op (some 2) (.mov (.c (.sl .full 0 []))) none])
   .ret)
  .skip)
def m52_2 : MCode :=
 (.seq
  (.reg
   [MI.op (some 5) (.bsl 0 1 [(.int .i64 0)] []) none,
    MI.op (some 6) (.mov (.tmp 0)) none,
    MI.op (some 7) (.app 1 8 (.tmp 5) (.tmp 6)) none,
    MI.op (some 2) (.mov (.tmp 7)) none])
  .ret)
def m52_3 : MCode :=
 (.seq
  (.seq
   (.reg
    [MI.op (some 3) (.mov (.tmp 0)) none,
     MI.op (some 4) (.nilS false (.tmp 3)) none])
  m52_1)
  m52_2)
def m52_r : List MRes := [.tmp 2]
def m52_b : MCode :=
 (.seq
  (.reg
   [MI.op (some 2) (.mov (.c (.sl .full 0 []))) none])
  m52_3)
def m52 : MFunc := ⟨1, 8, m52_r, m52_b⟩
theorem c52 : compF Try.prog 52 m52 = some m52 := by kernel_rfl

/- slices.IndexFunc[[]int,int] -/
def m60_1 : MCode :=
 (.seq
  (.reg
   [MI.op (some 17) (.mov (.tmp 5)) none,
    MI.op (some 4) (.mov (.tmp 17)) none])
  .ret)
def m60_2 : MCode :=
 (.cond (.tmp 16)
  m60_1
  .skip)
def m60_3 : MCode :=
 (.seq
  (.reg
   [MI.op (some 11) (.mov (.tmp 1)) none,
    MI.op (some 12) (.mov (.tmp 0)) none,
    MI.op (some 13) (.mov (.tmp 5)) none,
    MI.op (some 14) (.ixSl 1 (.tmp 12) (.tmp 13)) none,
    MI.op (some 15) (.load false 1 (.tmp 14)) none,
    MI.op (some 16) (.calli (.tmp 11) [(.tmp 15)]) none])
  m60_2)
def m60_4 : MCode :=
 (.seq
  (.blk 1
   (.seq
    (.reg
     [MI.op (some 10) (.mov (.tmp 8)) none,
      MI.op (some 5) (.mov (.tmp 10)) none])
  m60_3))
  (.reg
   [MI.op (some 18) (.bin .add (.tmp 8) (.c (.int .i64 1))) none,
    MI.op (some 8) (.mov (.tmp 18)) none]))
def m60_5 : MCode :=
 (.seq
  (.cond (.tmp 9)
   .skip
   (.exit 0))
  m60_4)
def m60_6 : MCode :=
 (.seq
  (.reg
   [MI.op (some 9) (.bin .lss (.tmp 8) (.tmp 7)) none])
  m60_5)
def m60_7 : MCode :=
 (.blk 0
  (.loop
  m60_6))
def m60_8 : MCode :=
 (.seq
  (.seq
   (.reg
    [MI.op (some 6) (.mov (.tmp 0)) none,
     MI.op (some 7) (.len (.tmp 6)) none,
     MI.op (some 8) (.mov (.c (.int .i64 0))) none])
  m60_7)
  (.seq
   (.reg
    [MI.op (some 4) (.mov (.c (.int .i64 (-1)))) none])
   .ret))
def m60_r : List MRes := [.tmp 4]
def m60_b : MCode :=
 (.seq
  (.reg
   [MI.op (some 4) (.mov (.c (.int .i64 0))) none])
  m60_8)
def m60 : MFunc := ⟨2, 19, m60_r, m60_b⟩
theorem c60 : compF Try.prog 60 m60 = some m60 := by kernel_rfl

end Go.Proofs.Ytfohfnhimgmnlaa
