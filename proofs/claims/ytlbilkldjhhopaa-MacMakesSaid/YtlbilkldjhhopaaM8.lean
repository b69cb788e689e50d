/- The loaded functions as texts of the ideal machine (written by a program of ours), and that they are the loaded ones. -/
import Derived.Test.YtlbilkldjhhopaaE31
import Derived.Test.YtlbilkldjhhopaaProg
set_option linter.unusedVariables false
set_option linter.unusedSimpArgs false
set_option linter.unusedSectionVars false
namespace Go.Proofs.Ytlbilkldjhhopaa
open Go.RowKit

/- slices.Clone[[][]byte,[]byte] -/
def m46_1 : MCode :=
 (.cond (.tmp 4)
  (.seq
   (.reg
    [MI.op (some 2) (.mov (.c (.sl .full 0 []))) none])
   .ret)
  .skip)
def m46_2 : MCode :=
 (.seq
  (.reg
   [MI.op (some 5) (.bsl 0 1 [(.sl .full 0 [])] []) none,
    MI.op (some 6) (.mov (.tmp 0)) none,
    MI.op (some 7) (.app 1 24 (.tmp 5) (.tmp 6)) none,
    MI.op (some 2) (.mov (.tmp 7)) none])
  .ret)
def m46_3 : MCode :=
 (.seq
  (.seq
   (.reg
    [MI.op (some 3) (.mov (.tmp 0)) none,
     MI.op (some 4) (.nilS false (.tmp 3)) none])
  m46_1)
  m46_2)
def m46_r : List MRes := [.tmp 2]
def m46_b : MCode :=
 (.seq
  (.reg
   [MI.op (some 2) (.mov (.c (.sl .full 0 []))) none])
  m46_3)
def m46 : MFunc := ⟨1, 8, m46_r, m46_b⟩
theorem c46 : compF Try.prog 46 m46 = some m46 := by kernel_rfl

/- tollhouse/tag.Step -/
def m36_1 : MCode :=
 (.seq
  (.drw
   [MI.op (some 5) (.mov (.tmp 1)) none,
    MI.op (some 6) (.call 46 [(.tmp 5)]) none,
    MI.op (some 7) (.slArr 32 1 (.tmp 2) none none none) none,
    MI.op (some 8) (.bsl 1 1 [(.sl .full 0 [])] [(0, 1, (.tmp 7))]) none]
   [MI.op (some 9) (.calln 45 [(.tmp 6), (.c (.int .i64 0)), (.tmp 8)]) none,
    MI.op (some 10) (.call 17 [(.tmp 9)]) none,
    MI.op none (.store 32 (.tmp 4) (.tmp 10)) none])
  .ret)
def m36_r : List MRes := [.cell 4 true 32]
def m36_b : MCode :=
 (.seq
  (.reg
   [MI.op (some 2) (.box (.tmp 0)) none,
    MI.op (some 4) (.alloc (List.replicate 32 (.int .u8 0))) none,
    MI.frz 2])
  m36_1)
def m36 : MFunc := ⟨2, 11, m36_r, m36_b⟩
theorem c36 : compF Try.prog 36 m36 = some m36 := by kernel_rfl

/- tollhouse/tag.Chain -/
def m33_1 : MCode :=
 (.reg
  [MI.op (some 18) (.mov (.tmp 5)) none,
   MI.op (some 19) (.load true 32 (.tmp 2)) none,
   MI.op (some 20) (.bsl 1 32 (List.replicate 32 (.int .u8 0)) [(0, 32, (.tmp 19))]) none,
   MI.op (some 21) (.app 32 32 (.tmp 18) (.tmp 20)) none,
   MI.op (some 5) (.mov (.tmp 21)) none])
def m33_2 : MCode :=
 (.seq
  (.reg
   [MI.op (some 14) (.load true 32 (.tmp 2)) none,
    MI.op (some 15) (.mov (.tmp 7)) none,
    MI.op (some 16) (.bsl 1 1 [(.sl .full 0 [])] [(0, 1, (.tmp 15))]) none,
    MI.op (some 17) (.call 36 [(.tmp 14), (.tmp 16)]) none,
    MI.op none (.store 32 (.tmp 2) (.tmp 17)) none])
  m33_1)
def m33_3 : MCode :=
 (.seq
  (.blk 1
   (.seq
    (.reg
     [MI.op (some 12) (.ixSl 1 (.tmp 8) (.tmp 10)) none,
      MI.op (some 13) (.load false 1 (.tmp 12)) none,
      MI.op (some 7) (.mov (.tmp 13)) none])
  m33_2))
  (.reg
   [MI.op (some 22) (.bin .add (.tmp 10) (.c (.int .i64 1))) none,
    MI.op (some 10) (.mov (.tmp 22)) none]))
def m33_4 : MCode :=
 (.seq
  (.cond (.tmp 11)
   .skip
   (.exit 0))
  m33_3)
def m33_5 : MCode :=
 (.seq
  (.reg
   [MI.op (some 11) (.bin .lss (.tmp 10) (.tmp 9)) none])
  m33_4)
def m33_6 : MCode :=
 (.blk 0
  (.loop
  m33_5))
def m33_7 : MCode :=
 (.seq
  (.reg
   [MI.op (some 23) (.mov (.tmp 5)) none,
    MI.op (some 4) (.mov (.tmp 23)) none])
  .ret)
def m33_8 : MCode :=
 (.seq
  (.seq
   (.reg
    [MI.op (some 8) (.mov (.tmp 1)) none,
     MI.op (some 9) (.len (.tmp 8)) none,
     MI.op (some 10) (.mov (.c (.int .i64 0))) none])
  m33_6)
  m33_7)
def m33_9 : MCode :=
 (.seq
  (.reg
   [MI.op (some 5) (.mov (.c (.sl .full 0 []))) none])
  m33_8)
def m33_r : List MRes := [.tmp 4]
def m33_b : MCode :=
 (.seq
  (.reg
   [MI.op (some 2) (.box (.tmp 0)) none,
    MI.op (some 4) (.mov (.c (.sl .full 0 []))) none])
  m33_9)
def m33 : MFunc := ⟨2, 24, m33_r, m33_b⟩
theorem c33 : compF Try.prog 33 m33 = some m33 := by kernel_rfl

/- tollhouse/tollhouseref03.Chain -/
def m34_1 : MCode :=
 (.reg
  [MI.op (some 20) (.mov (.tmp 5)) none,
   MI.op (some 21) (.load true 32 (.tmp 2)) none,
   MI.op (some 22) (.bsl 1 32 (List.replicate 32 (.int .u8 0)) [(0, 32, (.tmp 21))]) none,
   MI.op (some 23) (.app 32 32 (.tmp 20) (.tmp 22)) none,
   MI.op (some 5) (.mov (.tmp 23)) none])
def m34_2 : MCode :=
 (.seq
  (.blk 1
   (.seq
    (.drw
     [MI.op (some 13) (.load true 32 (.tmp 2)) none,
      MI.op (some 14) (.mov (.tmp 1)) none,
      MI.op (some 15) (.mov (.tmp 6)) none,
      MI.op (some 16) (.ixSl 1 (.tmp 14) (.tmp 15)) none,
      MI.op (some 17) (.load false 1 (.tmp 16)) none,
      MI.op (some 18) (.bsl 1 1 [(.sl .full 0 [])] [(0, 1, (.tmp 17))]) none]
     [MI.op (some 19) (.call 37 [(.tmp 13), (.tmp 18)]) none,
      MI.op none (.store 32 (.tmp 2) (.tmp 19)) none])
  m34_1))
  (.reg
   [MI.op (some 11) (.mov (.tmp 6)) none,
    MI.op (some 12) (.bin .add (.tmp 11) (.c (.int .i64 1))) none,
    MI.op (some 6) (.mov (.tmp 12)) none]))
def m34_3 : MCode :=
 (.seq
  (.seq
   (.reg
    [MI.op (some 7) (.mov (.tmp 6)) none,
     MI.op (some 8) (.mov (.tmp 1)) none,
     MI.op (some 9) (.len (.tmp 8)) none,
     MI.op (some 10) (.bin .lss (.tmp 7) (.tmp 9)) none])
   (.cond (.tmp 10)
    .skip
    (.exit 0)))
  m34_2)
def m34_4 : MCode :=
 (.blk 0
  (.loop
  m34_3))
def m34_5 : MCode :=
 (.seq
  (.reg
   [MI.op (some 24) (.mov (.tmp 5)) none,
    MI.op (some 4) (.mov (.tmp 24)) none])
  .ret)
def m34_6 : MCode :=
 (.seq
  (.seq
   (.reg
    [MI.op (some 6) (.mov (.c (.int .i64 0))) none])
  m34_4)
  m34_5)
def m34_7 : MCode :=
 (.seq
  (.reg
   [MI.op (some 5) (.mov (.c (.sl .full 0 []))) none])
  m34_6)
def m34_r : List MRes := [.tmp 4]
def m34_b : MCode :=
 (.seq
  (.reg
   [MI.op (some 2) (.box (.tmp 0)) none,
    MI.op (some 4) (.mov (.c (.sl .full 0 []))) none])
  m34_7)
def m34 : MFunc := ⟨2, 25, m34_r, m34_b⟩
theorem c34 : compF Try.prog 34 m34 = some m34 := by kernel_rfl

/- tollhouse/tag.Same -/
def m35_1 : MCode :=
 (.cond (.tmp 11)
  (.seq
   (.reg
    [MI.op (some 4) (.mov (.c (.bool false))) none])
   .ret)
  .skip)
def m35_2 : MCode :=
 (.drw
  [MI.op (some 17) (.mov (.tmp 5)) none,
   MI.op (some 18) (.mov (.tmp 0)) none,
   MI.op (some 19) (.mov (.tmp 6)) none,
   MI.op (some 20) (.ixSl 1 (.tmp 18) (.tmp 19)) none,
   MI.op (some 21) (.load false 1 (.tmp 20)) none,
   MI.op (some 22) (.mov (.tmp 1)) none,
   MI.op (some 23) (.mov (.tmp 6)) none,
   MI.op (some 24) (.ixSl 1 (.tmp 22) (.tmp 23)) none,
   MI.op (some 25) (.load false 1 (.tmp 24)) none,
   MI.op (some 26) (.bin .xor (.tmp 21) (.tmp 25)) none]
  [MI.op (some 27) (.bin .or (.tmp 17) (.tmp 26)) none,
   MI.op (some 5) (.mov (.tmp 27)) none])
def m35_3 : MCode :=
 (.seq
  (.blk 1
   (.seq
    (.reg
     [MI.op (some 16) (.mov (.tmp 14)) none,
      MI.op (some 6) (.mov (.tmp 16)) none])
  m35_2))
  (.reg
   [MI.op (some 28) (.bin .add (.tmp 14) (.c (.int .i64 1))) none,
    MI.op (some 14) (.mov (.tmp 28)) none]))
def m35_4 : MCode :=
 (.seq
  (.cond (.tmp 15)
   .skip
   (.exit 0))
  m35_3)
def m35_5 : MCode :=
 (.seq
  (.reg
   [MI.op (some 15) (.bin .lss (.tmp 14) (.tmp 13)) none])
  m35_4)
def m35_6 : MCode :=
 (.blk 0
  (.loop
  m35_5))
def m35_7 : MCode :=
 (.seq
  (.reg
   [MI.op (some 29) (.mov (.tmp 5)) none,
    MI.op (some 30) (.bin .eql (.tmp 29) (.c (.int .u8 0))) none,
    MI.op (some 4) (.mov (.tmp 30)) none])
  .ret)
def m35_8 : MCode :=
 (.seq
  (.seq
   (.reg
    [MI.op (some 12) (.mov (.tmp 0)) none,
     MI.op (some 13) (.len (.tmp 12)) none,
     MI.op (some 14) (.mov (.c (.int .i64 0))) none])
  m35_6)
  m35_7)
def m35_9 : MCode :=
 (.seq
  (.reg
   [MI.op (some 5) (.mov (.c (.int .u8 0))) none])
  m35_8)
def m35_10 : MCode :=
 (.seq
  (.seq
   (.reg
    [MI.op (some 7) (.mov (.tmp 0)) none,
     MI.op (some 8) (.len (.tmp 7)) none,
     MI.op (some 9) (.mov (.tmp 1)) none,
     MI.op (some 10) (.len (.tmp 9)) none,
     MI.op (some 11) (.bin .neq (.tmp 8) (.tmp 10)) none])
  m35_1)
  m35_9)
def m35_r : List MRes := [.tmp 4]
def m35_b : MCode :=
 (.seq
  (.reg
   [MI.op (some 4) (.mov (.c (.bool false))) none])
  m35_10)
def m35 : MFunc := ⟨2, 31, m35_r, m35_b⟩
theorem c35 : compF Try.prog 35 m35 = some m35 := by kernel_rfl

/- tollhouse/tollhouseref03.Step -/
def m37_1 : MCode :=
 (.seq
  (.reg
   [MI.op (some 5) (.bsl 0 1 [(.int .u8 0)] []) none,
    MI.op (some 6) (.slArr 32 1 (.tmp 2) none none none) none,
    MI.op (some 7) (.app 1 1 (.tmp 5) (.tmp 6)) none,
    MI.frz 7,
    MI.op (some 8) (.bsl 1 1 [(.sl .full 0 [])] [(0, 1, (.tmp 7))]) none,
    MI.op (some 9) (.mov (.tmp 1)) none,
    MI.op (some 10) (.appP 1 24 (.tmp 8) (.tmp 9)) none,
    MI.op (some 11) (.call 19 [(.tmp 10)]) none,
    MI.op none (.store 32 (.tmp 4) (.tmp 11)) none])
  .ret)
def m37_r : List MRes := [.cell 4 true 32]
def m37_b : MCode :=
 (.seq
  (.reg
   [MI.op (some 2) (.box (.tmp 0)) none,
    MI.op (some 4) (.alloc (List.replicate 32 (.int .u8 0))) none])
  m37_1)
def m37 : MFunc := ⟨2, 12, m37_r, m37_b⟩
theorem c37 : compF Try.prog 37 m37 = some m37 := by kernel_rfl

/- tollhouse/tollhouselaw03.wakes -/
def m32_1 : MCode :=
 (.seq
  (.drw
   [MI.op (some 10) (.bsl 2 1 [(.int .u8 0)] [(0, 1, (.c (.int .u8 97))), (1, 1, (.c (.int .u8 98)))]) none,
    MI.op (some 11) (.mark (.tmp 10)) none,
    MI.op (some 12) (.bsl 2 1 [(.int .u8 0)] [(0, 1, (.c (.int .u8 97))), (1, 1, (.c (.int .u8 98)))]) none,
    MI.op (some 13) (.mark (.tmp 12)) none,
    MI.op (some 14) (.call 35 [(.tmp 11), (.tmp 13)]) none,
    MI.op (some 15) (.mov (.tmp 14)) none,
    MI.op (some 16) (.bsl 1 1 [(.int .u8 0)] [(0, 1, (.c (.int .u8 97)))]) (some (15, true)),
    MI.op (some 17) (.mark (.tmp 16)) (some (15, true)),
    MI.op (some 18) (.call 35 [(.tmp 17), (.c (.sl .full 0 []))]) (some (15, true)),
    MI.op (some 19) (.un .not (.tmp 18)) (some (15, true)),
    MI.op (some 20) (.pick (.tmp 15) (.tmp 19) (.c (.bool false))) none,
    MI.op (some 21) (.mov (.tmp 20)) none,
    MI.op (some 22) (.bsl 0 1 [(.int .u8 0)] []) (some (21, true)),
    MI.op (some 23) (.call 35 [(.c (.sl .full 0 [])), (.tmp 22)]) (some (21, true)),
    MI.op (some 24) (.pick (.tmp 21) (.tmp 23) (.c (.bool false))) none,
    MI.op (some 25) (.mov (.tmp 24)) none,
    MI.op (some 26) (.mov (.tmp 2)) (some (25, true)),
    MI.op (some 27) (.len (.tmp 26)) (some (25, true)),
    MI.op (some 28) (.bin .eql (.tmp 27) (.c (.int .i64 2))) (some (25, true)),
    MI.op (some 29) (.pick (.tmp 25) (.tmp 28) (.c (.bool false))) none,
    MI.op (some 30) (.mov (.tmp 29)) none,
    MI.op (some 31) (.mov (.tmp 2)) (some (30, true)),
    MI.op (some 32) (.ixSl 32 (.tmp 31) (.c (.int .i64 0))) (some (30, true)),
    MI.op (some 33) (.load true 32 (.tmp 32)) (some (30, true)),
    MI.op (some 34) (.slArr 32 1 (.tmp 1) none none none) (some (30, true)),
    MI.op (some 35) (.bsl 1 1 [(.int .u8 0)] [(0, 1, (.c (.int .u8 97)))]) (some (30, true)),
    MI.op (some 36) (.mark (.tmp 35)) (some (30, true)),
    MI.op (some 37) (.bsl 2 1 [(.sl .full 0 [])] [(0, 1, (.tmp 34)), (1, 1, (.tmp 36))]) (some (30, true)),
    MI.op (some 38) (.call 17 [(.tmp 37)]) (some (30, true)),
    MI.op (some 39) (.eqv false [(32, .i)] (.tmp 33) (.tmp 38)) (some (30, true)),
    MI.op (some 40) (.pick (.tmp 30) (.tmp 39) (.c (.bool false))) none,
    MI.op (some 41) (.mov (.tmp 40)) none,
    MI.op (some 42) (.mov (.tmp 2)) (some (41, true)),
    MI.op (some 43) (.ixSl 32 (.tmp 42) (.c (.int .i64 1))) (some (41, true)),
    MI.op (some 44) (.load true 32 (.tmp 43)) (some (41, true)),
    MI.op (some 45) (.mov (.tmp 2)) (some (41, true)),
    MI.op (some 46) (.ixSl 32 (.tmp 45) (.c (.int .i64 0))) (some (41, true)),
    MI.op (some 47) (.load true 32 (.tmp 46)) (some (41, true)),
    MI.op (some 48) (.bsl 1 1 [(.int .u8 0)] [(0, 1, (.c (.int .u8 98)))]) (some (41, true)),
    MI.op (some 49) (.mark (.tmp 48)) (some (41, true)),
    MI.op (some 50) (.bsl 1 1 [(.sl .full 0 [])] [(0, 1, (.tmp 49))]) (some (41, true)),
    MI.op (some 51) (.call 36 [(.tmp 47), (.tmp 50)]) (some (41, true)),
    MI.op (some 52) (.eqv false [(32, .i)] (.tmp 44) (.tmp 51)) (some (41, true)),
    MI.op (some 53) (.pick (.tmp 41) (.tmp 52) (.c (.bool false))) none,
    MI.op (some 54) (.mov (.tmp 53)) none,
    MI.op (some 55) (.mov (.tmp 2)) (some (54, true)),
    MI.op (some 56) (.ixSl 32 (.tmp 55) (.c (.int .i64 0))) (some (54, true)),
    MI.op (some 57) (.load true 32 (.tmp 56)) (some (54, true)),
    MI.op (some 58) (.mov (.tmp 2)) (some (54, true)),
    MI.op (some 59) (.ixSl 32 (.tmp 58) (.c (.int .i64 1))) (some (54, true)),
    MI.op (some 60) (.load true 32 (.tmp 59)) (some (54, true))]
   [MI.op (some 61) (.eqv true [(32, .i)] (.tmp 57) (.tmp 60)) (some (54, true)),
    MI.op (some 62) (.pick (.tmp 54) (.tmp 61) (.c (.bool false))) none,
    MI.op (some 0) (.mov (.tmp 62)) none])
  .ret)
def m32_2 : MCode :=
 (.seq
  (.reg
   [MI.op (some 3) (.load true 32 (.tmp 1)) none,
    MI.op (some 4) (.bsl 1 1 [(.int .u8 0)] [(0, 1, (.c (.int .u8 97)))]) none,
    MI.op (some 5) (.mark (.tmp 4)) none,
    MI.op (some 6) (.bsl 1 1 [(.int .u8 0)] [(0, 1, (.c (.int .u8 98)))]) none,
    MI.op (some 7) (.mark (.tmp 6)) none,
    MI.op (some 8) (.bsl 2 1 [(.sl .full 0 [])] [(0, 1, (.tmp 5)), (1, 1, (.tmp 7))]) none,
    MI.op (some 9) (.call 33 [(.tmp 3), (.tmp 8)]) none,
    MI.op (some 2) (.mov (.tmp 9)) none,
    MI.frz 1])
  m32_1)
def m32_3 : MCode :=
 (.seq
  (.reg
   [MI.op (some 1) (.alloc (List.replicate 32 (.int .u8 0))) none])
  m32_2)
def m32_r : List MRes := [.tmp 0]
def m32_b : MCode :=
 (.seq
  (.reg
   [MI.op (some 0) (.mov (.c (.bool false))) none])
  m32_3)
def m32 : MFunc := ⟨0, 63, m32_r, m32_b⟩
theorem c32 : compF Try.prog 32 m32 = some m32 := by kernel_rfl

/- tollhouse/tollhouselaw03.TagTells -/
def m10_1 : List MI :=
 [MI.op (some 22) (.un .not (.tmp 21)) (some (18, false)),
  MI.op (some 23) (.pick (.tmp 18) (.c (.bool true)) (.tmp 22)) none]
def m10_2 : MCode :=
 (.seq
  (.reg
   [MI.op (some 24) (.call 32 []) none,
    MI.op (some 6) (.mov (.tmp 24)) none])
  .ret)
def m10_3 : MCode :=
 (.cond (.tmp 23)
  m10_2
  .skip)
def m10_4 : MCode :=
 (.cond (.tmp 40)
  (.seq
   (.reg
    [MI.op (some 6) (.mov (.c (.bool false))) none])
   .ret)
  .skip)
def m10_5 : MCode :=
 (.cond (.tmp 55)
  (.seq
   (.reg
    [MI.op (some 6) (.mov (.c (.bool false))) none])
   .ret)
  .skip)
def m10_6 : MCode :=
 (.seq
  (.blk 1
   (.seq
    (.drw
     [MI.op (some 47) (.mov (.tmp 7)) none,
      MI.op (some 48) (.mov (.tmp 9)) none,
      MI.op (some 49) (.ixSl 32 (.tmp 47) (.tmp 48)) none,
      MI.op (some 50) (.load true 32 (.tmp 49)) none,
      MI.op (some 51) (.mov (.tmp 8)) none,
      MI.op (some 52) (.mov (.tmp 9)) none,
      MI.op (some 53) (.ixSl 32 (.tmp 51) (.tmp 52)) none,
      MI.op (some 54) (.load true 32 (.tmp 53)) none]
     [MI.op (some 55) (.eqv true [(32, .i)] (.tmp 50) (.tmp 54)) none])
  m10_5))
  (.reg
   [MI.op (some 45) (.mov (.tmp 9)) none,
    MI.op (some 46) (.bin .add (.tmp 45) (.c (.int .i64 1))) none,
    MI.op (some 9) (.mov (.tmp 46)) none]))
def m10_7 : MCode :=
 (.seq
  (.seq
   (.reg
    [MI.op (some 41) (.mov (.tmp 9)) none,
     MI.op (some 42) (.mov (.tmp 7)) none,
     MI.op (some 43) (.len (.tmp 42)) none,
     MI.op (some 44) (.bin .lss (.tmp 41) (.tmp 43)) none])
   (.cond (.tmp 44)
    .skip
    (.exit 0)))
  m10_6)
def m10_8 : MCode :=
 (.blk 0
  (.loop
  m10_7))
def m10_9 : MCode :=
 (.seq
  (.drw
   [MI.op (some 56) (.mov (.tmp 0)) none,
    MI.op (some 57) (.mov (.tmp 1)) none,
    MI.op (some 58) (.call 35 [(.tmp 56), (.tmp 57)]) none,
    MI.op (some 59) (.mov (.tmp 0)) none,
    MI.op (some 60) (.mov (.tmp 1)) none,
    MI.op (some 61) (.call 18 [(.tmp 59), (.tmp 60)]) none,
    MI.op (some 62) (.binB .eql (.tmp 58) (.tmp 61)) none,
    MI.op (some 63) (.mov (.tmp 62)) none,
    MI.op (some 64) (.fa 0 (.tmp 5)) (some (63, true)),
    MI.op (some 65) (.load true 32 (.tmp 64)) (some (63, true)),
    MI.op (some 66) (.fa 32 (.tmp 5)) (some (63, true)),
    MI.op (some 67) (.load false 1 (.tmp 66)) (some (63, true)),
    MI.op (some 68) (.callp 16 [(.tmp 67)]) (some (63, true)),
    MI.op (some 69) (.call 36 [(.tmp 65), (.tmp 68)]) (some (63, true)),
    MI.op (some 70) (.fa 0 (.tmp 5)) (some (63, true)),
    MI.op (some 71) (.load true 32 (.tmp 70)) (some (63, true)),
    MI.op (some 72) (.fa 32 (.tmp 5)) (some (63, true)),
    MI.op (some 73) (.load false 1 (.tmp 72)) (some (63, true))]
   [MI.op (some 74) (.call 37 [(.tmp 71), (.tmp 73)]) (some (63, true)),
    MI.op (some 75) (.eqv false [(32, .i)] (.tmp 69) (.tmp 74)) (some (63, true)),
    MI.op (some 76) (.pick (.tmp 63) (.tmp 75) (.c (.bool false))) none,
    MI.op (some 77) (.mov (.tmp 76)) none,
    MI.op (some 78) (.call 32 []) (some (77, true)),
    MI.op (some 79) (.pick (.tmp 77) (.tmp 78) (.c (.bool false))) none,
    MI.op (some 6) (.mov (.tmp 79)) none])
  .ret)
def m10_10 : MCode :=
 (.seq
  (.seq
   (.reg
    [MI.op (some 9) (.mov (.c (.int .i64 0))) none])
  m10_8)
  m10_9)
def m10_11 : MCode :=
 (.seq
  (.seq
   (.reg
    [MI.op (some 36) (.mov (.tmp 7)) none,
     MI.op (some 37) (.len (.tmp 36)) none,
     MI.op (some 38) (.mov (.tmp 8)) none,
     MI.op (some 39) (.len (.tmp 38)) none,
     MI.op (some 40) (.bin .neq (.tmp 37) (.tmp 39)) none])
  m10_4)
  m10_10)
def m10_12 : MCode :=
 (.seq
  (.drw
   [MI.op (some 25) (.fa 0 (.tmp 5)) none,
    MI.op (some 26) (.load true 32 (.tmp 25)) none,
    MI.op (some 27) (.fa 32 (.tmp 5)) none,
    MI.op (some 28) (.load false 1 (.tmp 27)) none,
    MI.op (some 29) (.callp 16 [(.tmp 28)]) none,
    MI.op (some 30) (.callp 33 [(.tmp 26), (.tmp 29)]) none,
    MI.op (some 31) (.fa 0 (.tmp 5)) none,
    MI.op (some 32) (.load true 32 (.tmp 31)) none,
    MI.op (some 33) (.fa 32 (.tmp 5)) none,
    MI.op (some 34) (.load false 1 (.tmp 33)) none]
   [MI.op (some 35) (.callp 34 [(.tmp 32), (.tmp 34)]) none,
    MI.op (some 7) (.mov (.tmp 30)) none,
    MI.op (some 8) (.mov (.tmp 35)) none])
  m10_11)
def m10_13 : MCode :=
 (.seq
  (.seq
   (.reg
    (MI.op (some 10) (.mov (.tmp 0)) none ::
     MI.op (some 11) (.len (.tmp 10)) none ::
     MI.op (some 12) (.bin .gtr (.tmp 11) (.c (.int .i64 3000))) none ::
     MI.op (some 13) (.mov (.tmp 12)) none ::
     MI.op (some 14) (.mov (.tmp 1)) (some (13, false)) ::
     MI.op (some 15) (.len (.tmp 14)) (some (13, false)) ::
     MI.op (some 16) (.bin .gtr (.tmp 15) (.c (.int .i64 3000))) (some (13, false)) ::
     MI.op (some 17) (.pick (.tmp 13) (.c (.bool true)) (.tmp 16)) none ::
     MI.op (some 18) (.mov (.tmp 17)) none ::
     MI.op (some 19) (.fa 32 (.tmp 5)) (some (18, false)) ::
     MI.op (some 20) (.load false 1 (.tmp 19)) (some (18, false)) ::
     MI.op (some 21) (.call 14 [(.tmp 20)]) (some (18, false)) ::
     m10_1))
  m10_3)
  m10_12)
def m10_r : List MRes := [.tmp 6]
def m10_b : MCode :=
 (.seq
  (.reg
   [MI.op (some 5) (.box (.tmp 2)) none,
    MI.op (some 6) (.mov (.c (.bool false))) none])
  m10_13)
def m10 : MFunc := ⟨3, 80, m10_r, m10_b⟩
theorem c10 : compF Try.prog 10 m10 = some m10 := by kernel_rfl

/- tollhouse/tollhouselaw03.TagGoes -/
def m11_1 : MCode :=
 (.seq
  (.reg
   [MI.op (some 15) (.call 32 []) none,
    MI.op (some 4) (.mov (.tmp 15)) none])
  .ret)
def m11_2 : MCode :=
 (.cond (.tmp 14)
  m11_1
  .skip)
def m11_3 : MCode :=
 (.cond (.tmp 35)
  (.seq
   (.reg
    [MI.op (some 4) (.mov (.c (.bool false))) none])
   .ret)
  .skip)
def m11_4 : MCode :=
 (.reg
  [MI.op (some 38) (.mov (.tmp 6)) none,
   MI.op (some 39) (.mov (.tmp 5)) none,
   MI.op (some 40) (.bin .sub (.tmp 39) (.c (.int .i64 1))) none,
   MI.op (some 41) (.ixSl 32 (.tmp 38) (.tmp 40)) none,
   MI.op (some 42) (.load true 32 (.tmp 41)) none,
   MI.op none (.store 32 (.tmp 7) (.tmp 42)) none])
def m11_5 : MCode :=
 (.cond (.tmp 37)
  m11_4
  .skip)
def m11_6 : MCode :=
 (.cond (.tmp 69)
  (.seq
   (.reg
    [MI.op (some 4) (.mov (.c (.bool false))) none])
   .ret)
  .skip)
def m11_7 : MCode :=
 (.cond (.tmp 124)
  (.seq
   (.reg
    [MI.op (some 4) (.mov (.c (.bool false))) none])
   .ret)
  .skip)
def m11_8 : MCode :=
 (.reg
  [MI.op (some 125) (.mov (.tmp 9)) none,
   MI.op (some 126) (.mov (.tmp 10)) none,
   MI.op (some 127) (.ixSl 32 (.tmp 125) (.tmp 126)) none,
   MI.op (some 128) (.load true 32 (.tmp 127)) none,
   MI.op none (.store 32 (.tmp 7) (.tmp 128)) none])
def m11_9 : MCode :=
 (.seq
  (.blk 1
   (.seq
    (.seq
     (.drw
      [MI.op (some 78) (.mov (.tmp 10)) none,
       MI.op (some 79) (.mov (.tmp 5)) none,
       MI.op (some 80) (.bin .lss (.tmp 78) (.tmp 79)) none,
       MI.op (some 81) (.mov (.tmp 80)) none,
       MI.op (some 82) (.mov (.tmp 9)) (some (81, true)),
       MI.op (some 83) (.mov (.tmp 10)) (some (81, true)),
       MI.op (some 84) (.ixSl 32 (.tmp 82) (.tmp 83)) (some (81, true)),
       MI.op (some 85) (.load true 32 (.tmp 84)) (some (81, true)),
       MI.op (some 86) (.mov (.tmp 6)) (some (81, true)),
       MI.op (some 87) (.mov (.tmp 10)) (some (81, true)),
       MI.op (some 88) (.ixSl 32 (.tmp 86) (.tmp 87)) (some (81, true)),
       MI.op (some 89) (.load true 32 (.tmp 88)) (some (81, true)),
       MI.op (some 90) (.eqv true [(32, .i)] (.tmp 85) (.tmp 89)) (some (81, true)),
       MI.op (some 91) (.pick (.tmp 81) (.tmp 90) (.c (.bool false))) none,
       MI.op (some 92) (.mov (.tmp 91)) none,
       MI.op (some 93) (.mov (.tmp 10)) (some (92, false)),
       MI.op (some 94) (.mov (.tmp 5)) (some (92, false)),
       MI.op (some 95) (.bin .geq (.tmp 93) (.tmp 94)) (some (92, false)),
       MI.op (some 96) (.mov (.tmp 95)) (some (92, false)),
       MI.op (some 97) (.mov (.tmp 9)) (some (96, true)),
       MI.op (some 98) (.mov (.tmp 10)) (some (96, true)),
       MI.op (some 99) (.ixSl 32 (.tmp 97) (.tmp 98)) (some (96, true)),
       MI.op (some 100) (.load true 32 (.tmp 99)) (some (96, true)),
       MI.op (some 101) (.mov (.tmp 8)) (some (96, true)),
       MI.op (some 102) (.mov (.tmp 10)) (some (96, true)),
       MI.op (some 103) (.mov (.tmp 5)) (some (96, true)),
       MI.op (some 104) (.bin .sub (.tmp 102) (.tmp 103)) (some (96, true)),
       MI.op (some 105) (.ixSl 32 (.tmp 101) (.tmp 104)) (some (96, true)),
       MI.op (some 106) (.load true 32 (.tmp 105)) (some (96, true)),
       MI.op (some 107) (.eqv true [(32, .i)] (.tmp 100) (.tmp 106)) (some (96, true)),
       MI.op (some 108) (.pick (.tmp 96) (.tmp 107) (.c (.bool false))) (some (92, false)),
       MI.op (some 109) (.pick (.tmp 92) (.c (.bool true)) (.tmp 108)) none,
       MI.op (some 110) (.mov (.tmp 109)) none,
       MI.op (some 111) (.mov (.tmp 9)) (some (110, false)),
       MI.op (some 112) (.mov (.tmp 10)) (some (110, false)),
       MI.op (some 113) (.ixSl 32 (.tmp 111) (.tmp 112)) (some (110, false)),
       MI.op (some 114) (.load true 32 (.tmp 113)) (some (110, false)),
       MI.op (some 115) (.load true 32 (.tmp 7)) (some (110, false)),
       MI.op (some 116) (.fa 32 (.tmp 2)) (some (110, false)),
       MI.op (some 117) (.load false 1 (.tmp 116)) (some (110, false)),
       MI.op (some 118) (.mov (.tmp 10)) (some (110, false)),
       MI.op (some 119) (.ixSl 1 (.tmp 117) (.tmp 118)) (some (110, false)),
       MI.op (some 120) (.load false 1 (.tmp 119)) (some (110, false)),
       MI.op (some 121) (.bsl 1 1 [(.sl .full 0 [])] [(0, 1, (.tmp 120))]) (some (110, false)),
       MI.op (some 122) (.call 36 [(.tmp 115), (.tmp 121)]) (some (110, false))]
      [MI.op (some 123) (.eqv true [(32, .i)] (.tmp 114) (.tmp 122)) (some (110, false)),
       MI.op (some 124) (.pick (.tmp 110) (.c (.bool true)) (.tmp 123)) none])
  m11_7)
  m11_8))
  (.reg
   [MI.op (some 76) (.mov (.tmp 10)) none,
    MI.op (some 77) (.bin .add (.tmp 76) (.c (.int .i64 1))) none,
    MI.op (some 10) (.mov (.tmp 77)) none]))
def m11_10 : MCode :=
 (.seq
  (.seq
   (.reg
    [MI.op (some 72) (.mov (.tmp 10)) none,
     MI.op (some 73) (.mov (.tmp 9)) none,
     MI.op (some 74) (.len (.tmp 73)) none,
     MI.op (some 75) (.bin .lss (.tmp 72) (.tmp 74)) none])
   (.cond (.tmp 75)
    .skip
    (.exit 0)))
  m11_9)
def m11_11 : MCode :=
 (.blk 0
  (.loop
  m11_10))
def m11_12 : MCode :=
 (.seq
  (.reg
   [MI.op (some 129) (.call 32 []) none,
    MI.op (some 4) (.mov (.tmp 129)) none])
  .ret)
def m11_13 : MCode :=
 (.seq
  (.seq
   (.reg
    [MI.op (some 10) (.mov (.c (.int .i64 0))) none])
  m11_11)
  m11_12)
def m11_14 : MCode :=
 (.seq
  (.reg
   [MI.op (some 70) (.fa 0 (.tmp 2)) none,
    MI.op (some 71) (.load true 32 (.tmp 70)) none,
    MI.op none (.store 32 (.tmp 7) (.tmp 71)) none])
  m11_13)
def m11_15 : MCode :=
 (.seq
  (.seq
   (.reg
    [MI.op (some 54) (.mov (.tmp 9)) none,
     MI.op (some 55) (.len (.tmp 54)) none,
     MI.op (some 56) (.fa 32 (.tmp 2)) none,
     MI.op (some 57) (.load false 1 (.tmp 56)) none,
     MI.op (some 58) (.len (.tmp 57)) none,
     MI.op (some 59) (.bin .neq (.tmp 55) (.tmp 58)) none,
     MI.op (some 60) (.mov (.tmp 59)) none,
     MI.op (some 61) (.mov (.tmp 8)) (some (60, false)),
     MI.op (some 62) (.len (.tmp 61)) (some (60, false)),
     MI.op (some 63) (.fa 32 (.tmp 2)) (some (60, false)),
     MI.op (some 64) (.load false 1 (.tmp 63)) (some (60, false)),
     MI.op (some 65) (.len (.tmp 64)) (some (60, false)),
     MI.op (some 66) (.mov (.tmp 5)) (some (60, false)),
     MI.op (some 67) (.bin .sub (.tmp 65) (.tmp 66)) (some (60, false)),
     MI.op (some 68) (.bin .neq (.tmp 62) (.tmp 67)) (some (60, false)),
     MI.op (some 69) (.pick (.tmp 60) (.c (.bool true)) (.tmp 68)) none])
  m11_6)
  m11_14)
def m11_16 : MCode :=
 (.seq
  (.reg
   [MI.op (some 49) (.fa 0 (.tmp 2)) none,
    MI.op (some 50) (.load true 32 (.tmp 49)) none,
    MI.op (some 51) (.fa 32 (.tmp 2)) none,
    MI.op (some 52) (.load false 1 (.tmp 51)) none,
    MI.op (some 53) (.callp 33 [(.tmp 50), (.tmp 52)]) none,
    MI.op (some 9) (.mov (.tmp 53)) none])
  m11_15)
def m11_17 : MCode :=
 (.seq
  (.drw
   [MI.op (some 43) (.load true 32 (.tmp 7)) none,
    MI.op (some 44) (.fa 32 (.tmp 2)) none,
    MI.op (some 45) (.load false 1 (.tmp 44)) none,
    MI.op (some 46) (.mov (.tmp 5)) none,
    MI.op (some 47) (.slSl 1 (.tmp 45) (some (.tmp 46)) none none) none]
   [MI.op (some 48) (.callp 33 [(.tmp 43), (.tmp 47)]) none,
    MI.op (some 8) (.mov (.tmp 48)) none])
  m11_16)
def m11_18 : MCode :=
 (.seq
  (.seq
   (.reg
    [MI.op (some 36) (.mov (.tmp 5)) none,
     MI.op (some 37) (.bin .gtr (.tmp 36) (.c (.int .i64 0))) none])
  m11_5)
  m11_17)
def m11_19 : MCode :=
 (.seq
  (.seq
   (.reg
    [MI.op (some 32) (.mov (.tmp 6)) none,
     MI.op (some 33) (.len (.tmp 32)) none,
     MI.op (some 34) (.mov (.tmp 5)) none,
     MI.op (some 35) (.bin .neq (.tmp 33) (.tmp 34)) none])
  m11_3)
  m11_18)
def m11_20 : MCode :=
 (.seq
  (.reg
   [MI.op (some 30) (.fa 0 (.tmp 2)) none,
    MI.op (some 31) (.load true 32 (.tmp 30)) none,
    MI.op (some 7) (.alloc (List.replicate 32 (.int .u8 0))) none,
    MI.op none (.store 32 (.tmp 7) (.tmp 31)) none])
  m11_19)
def m11_21 : MCode :=
 (.seq
  (.drw
   [MI.op (some 23) (.fa 0 (.tmp 2)) none,
    MI.op (some 24) (.load true 32 (.tmp 23)) none,
    MI.op (some 25) (.fa 32 (.tmp 2)) none,
    MI.op (some 26) (.load false 1 (.tmp 25)) none,
    MI.op (some 27) (.mov (.tmp 5)) none,
    MI.op (some 28) (.slSl 1 (.tmp 26) none (some (.tmp 27)) none) none]
   [MI.op (some 29) (.callp 33 [(.tmp 24), (.tmp 28)]) none,
    MI.op (some 6) (.mov (.tmp 29)) none])
  m11_20)
def m11_22 : MCode :=
 (.seq
  (.reg
   [MI.op (some 16) (.mov (.tmp 1)) none,
    MI.op (some 17) (.toInt .i64 (.tmp 16)) none,
    MI.op (some 18) (.fa 32 (.tmp 2)) none,
    MI.op (some 19) (.load false 1 (.tmp 18)) none,
    MI.op (some 20) (.len (.tmp 19)) none,
    MI.op (some 21) (.bin .add (.tmp 20) (.c (.int .i64 1))) none,
    MI.op (some 22) (.bin .rem (.tmp 17) (.tmp 21)) none,
    MI.op (some 5) (.mov (.tmp 22)) none])
  m11_21)
def m11_23 : MCode :=
 (.seq
  (.seq
   (.reg
    [MI.op (some 11) (.fa 32 (.tmp 2)) none,
     MI.op (some 12) (.load false 1 (.tmp 11)) none,
     MI.op (some 13) (.call 14 [(.tmp 12)]) none,
     MI.op (some 14) (.un .not (.tmp 13)) none])
  m11_2)
  m11_22)
def m11_r : List MRes := [.tmp 4]
def m11_b : MCode :=
 (.seq
  (.reg
   [MI.op (some 2) (.box (.tmp 0)) none,
    MI.op (some 4) (.mov (.c (.bool false))) none])
  m11_23)
def m11 : MFunc := ⟨2, 130, m11_r, m11_b⟩
theorem c11 : compF Try.prog 11 m11 = some m11 := by kernel_rfl

/- tollhouse/tollhouselaw03.TagSame -/
def m12_1 : MCode :=
 (.seq
  (.reg
   [MI.op (some 16) (.call 32 []) none,
    MI.op (some 6) (.mov (.tmp 16)) none])
  .ret)
def m12_2 : MCode :=
 (.cond (.tmp 15)
  m12_1
  .skip)
def m12_3 : List MI :=
 [MI.op (some 25) (.ixSl 1 (.tmp 20) (.tmp 24)) none,
  MI.op (some 26) (.load false 1 (.tmp 25)) none,
  MI.op (some 27) (.mov (.tmp 2)) none,
  MI.op (some 28) (.bin .xor (.tmp 26) (.tmp 27)) none,
  MI.op (some 29) (.ixSl 1 (.tmp 20) (.tmp 24)) none,
  MI.op none (.store 1 (.tmp 29) (.tmp 28)) none]
def m12_4 : List MI :=
 [MI.op (some 70) (.pick (.tmp 68) (.tmp 69) (.c (.bool false))) none,
  MI.op (some 6) (.mov (.tmp 70)) none]
def m12_5 : List MI :=
 (MI.op (some 66) (.un .not (.tmp 65)) (some (58, true)) ::
  MI.op (some 67) (.pick (.tmp 58) (.tmp 66) (.c (.bool false))) none ::
  MI.op (some 68) (.mov (.tmp 67)) none ::
  MI.op (some 69) (.call 32 []) (some (68, true)) ::
  m12_4)
def m12_6 : List MI :=
 (MI.op (some 56) (.un .not (.tmp 55)) (some (51, true)) ::
  MI.op (some 57) (.pick (.tmp 51) (.tmp 56) (.c (.bool false))) none ::
  MI.op (some 58) (.mov (.tmp 57)) none ::
  MI.op (some 59) (.mov (.tmp 0)) (some (58, true)) ::
  MI.op (some 60) (.bsl 0 1 [(.int .u8 0)] []) (some (58, true)) ::
  MI.op (some 61) (.mov (.tmp 0)) (some (58, true)) ::
  MI.op (some 62) (.app 1 1 (.tmp 60) (.tmp 61)) (some (58, true)) ::
  MI.op (some 63) (.bsl 1 1 [(.int .u8 0)] [(0, 1, (.c (.int .u8 0)))]) (some (58, true)) ::
  MI.op (some 64) (.app 1 1 (.tmp 62) (.tmp 63)) (some (58, true)) ::
  MI.op (some 65) (.call 35 [(.tmp 59), (.tmp 64)]) (some (58, true)) ::
  m12_5)
def m12_7 : List MI :=
 (MI.op (some 49) (.un .not (.tmp 48)) (some (44, true)) ::
  MI.op (some 50) (.pick (.tmp 44) (.tmp 49) (.c (.bool false))) none ::
  MI.op (some 51) (.mov (.tmp 50)) none ::
  MI.op (some 52) (.mov (.tmp 0)) (some (51, true)) ::
  MI.op (some 53) (.slSl 1 (.tmp 52) (some (.c (.int .i64 1))) none none) (some (51, true)) ::
  MI.op (some 54) (.mov (.tmp 0)) (some (51, true)) ::
  MI.op (some 55) (.call 35 [(.tmp 53), (.tmp 54)]) (some (51, true)) ::
  m12_6)
def m12_8 : List MI :=
 (MI.op (some 40) (.mov (.tmp 2)) (some (36, true)) ::
  MI.op (some 41) (.bin .eql (.tmp 40) (.c (.int .u8 0))) (some (36, true)) ::
  MI.op (some 42) (.binB .eql (.tmp 39) (.tmp 41)) (some (36, true)) ::
  MI.op (some 43) (.pick (.tmp 36) (.tmp 42) (.c (.bool false))) none ::
  MI.op (some 44) (.mov (.tmp 43)) none ::
  MI.op (some 45) (.mov (.tmp 0)) (some (44, true)) ::
  MI.op (some 46) (.mov (.tmp 0)) (some (44, true)) ::
  MI.op (some 47) (.slSl 1 (.tmp 46) (some (.c (.int .i64 1))) none none) (some (44, true)) ::
  MI.op (some 48) (.call 35 [(.tmp 45), (.tmp 47)]) (some (44, true)) ::
  m12_7)
def m12_9 : List MI :=
 (MI.op (some 33) (.mov (.tmp 2)) none ::
  MI.op (some 34) (.bin .eql (.tmp 33) (.c (.int .u8 0))) none ::
  MI.op (some 35) (.binB .eql (.tmp 32) (.tmp 34)) none ::
  MI.op (some 36) (.mov (.tmp 35)) none ::
  MI.op (some 37) (.mov (.tmp 7)) (some (36, true)) ::
  MI.op (some 38) (.mov (.tmp 0)) (some (36, true)) ::
  MI.op (some 39) (.call 35 [(.tmp 37), (.tmp 38)]) (some (36, true)) ::
  m12_8)
def m12_10 : MCode :=
 (.seq
  (.reg
   (MI.op (some 30) (.mov (.tmp 0)) none ::
    MI.op (some 31) (.mov (.tmp 7)) none ::
    MI.op (some 32) (.call 35 [(.tmp 30), (.tmp 31)]) none ::
    m12_9))
  .ret)
def m12_11 : MCode :=
 (.seq
  (.reg
   (MI.op (some 20) (.mov (.tmp 7)) none ::
    MI.op (some 21) (.mov (.tmp 1)) none ::
    MI.op (some 22) (.mov (.tmp 0)) none ::
    MI.op (some 23) (.len (.tmp 22)) none ::
    MI.op (some 24) (.call 26 [(.tmp 21), (.tmp 23)]) none ::
    m12_3))
  m12_10)
def m12_12 : MCode :=
 (.seq
  (.reg
   [MI.op (some 17) (.bsl 0 1 [(.int .u8 0)] []) none,
    MI.op (some 18) (.mov (.tmp 0)) none,
    MI.op (some 19) (.app 1 1 (.tmp 17) (.tmp 18)) none,
    MI.op (some 7) (.mov (.tmp 19)) none])
  m12_11)
def m12_13 : MCode :=
 (.seq
  (.seq
   (.reg
    [MI.op (some 8) (.mov (.tmp 0)) none,
     MI.op (some 9) (.len (.tmp 8)) none,
     MI.op (some 10) (.bin .gtr (.tmp 9) (.c (.int .i64 3000))) none,
     MI.op (some 11) (.mov (.tmp 10)) none,
     MI.op (some 12) (.mov (.tmp 0)) (some (11, false)),
     MI.op (some 13) (.len (.tmp 12)) (some (11, false)),
     MI.op (some 14) (.bin .eql (.tmp 13) (.c (.int .i64 0))) (some (11, false)),
     MI.op (some 15) (.pick (.tmp 11) (.c (.bool true)) (.tmp 14)) none])
  m12_2)
  m12_12)
def m12_r : List MRes := [.tmp 6]
def m12_b : MCode :=
 (.seq
  (.reg
   [MI.op (some 6) (.mov (.c (.bool false))) none])
  m12_13)
def m12 : MFunc := ⟨3, 71, m12_r, m12_b⟩
theorem c12 : compF Try.prog 12 m12 = some m12 := by kernel_rfl

/- tollhouse/tollhouselaw03.TagJoins -/
def m13_1 : MCode :=
 (.seq
  (.reg
   [MI.op (some 11) (.call 32 []) none,
    MI.op (some 2) (.mov (.tmp 11)) none])
  .ret)
def m13_2 : MCode :=
 (.cond (.tmp 10)
  m13_1
  .skip)
def m13_3 : MCode :=
 (.seq
  (.blk 1
   (.reg
    [MI.op (some 19) (.mov (.tmp 3)) none,
     MI.op (some 20) (.fa 32 (.tmp 1)) none,
     MI.op (some 21) (.load false 1 (.tmp 20)) none,
     MI.op (some 22) (.mov (.tmp 4)) none,
     MI.op (some 23) (.ixSl 1 (.tmp 21) (.tmp 22)) none,
     MI.op (some 24) (.load false 1 (.tmp 23)) none,
     MI.op (some 25) (.app 1 1 (.tmp 19) (.tmp 24)) none,
     MI.op (some 3) (.mov (.tmp 25)) none]))
  (.reg
   [MI.op (some 17) (.mov (.tmp 4)) none,
    MI.op (some 18) (.bin .add (.tmp 17) (.c (.int .i64 1))) none,
    MI.op (some 4) (.mov (.tmp 18)) none]))
def m13_4 : MCode :=
 (.seq
  (.seq
   (.reg
    [MI.op (some 12) (.mov (.tmp 4)) none,
     MI.op (some 13) (.fa 32 (.tmp 1)) none,
     MI.op (some 14) (.load false 1 (.tmp 13)) none,
     MI.op (some 15) (.len (.tmp 14)) none,
     MI.op (some 16) (.bin .lss (.tmp 12) (.tmp 15)) none])
   (.cond (.tmp 16)
    .skip
    (.exit 0)))
  m13_3)
def m13_5 : MCode :=
 (.blk 0
  (.loop
  m13_4))
def m13_6 : List MI :=
 [MI.op (some 5) (.alloc (List.replicate 32 (.int .u8 0))) none,
  MI.op none (.store 32 (.tmp 5) (.tmp 30)) none]
def m13_7 : MCode :=
 (.seq
  (.drw
   [MI.op (some 36) (.load true 32 (.tmp 5)) none,
    MI.op (some 37) (.fa 0 (.tmp 1)) none,
    MI.op (some 38) (.load true 32 (.tmp 37)) none,
    MI.op (some 39) (.mov (.tmp 3)) none,
    MI.op (some 40) (.bsl 1 1 [(.sl .full 0 [])] [(0, 1, (.tmp 39))]) none,
    MI.op (some 41) (.call 36 [(.tmp 38), (.tmp 40)]) none,
    MI.op (some 42) (.eqv false [(32, .i)] (.tmp 36) (.tmp 41)) none,
    MI.op (some 43) (.mov (.tmp 42)) none,
    MI.op (some 44) (.mov (.tmp 6)) (some (43, true)),
    MI.op (some 45) (.len (.tmp 44)) (some (43, true)),
    MI.op (some 46) (.bin .eql (.tmp 45) (.c (.int .i64 1))) (some (43, true)),
    MI.op (some 47) (.pick (.tmp 43) (.tmp 46) (.c (.bool false))) none,
    MI.op (some 48) (.mov (.tmp 47)) none,
    MI.op (some 49) (.mov (.tmp 6)) (some (48, true)),
    MI.op (some 50) (.ixSl 32 (.tmp 49) (.c (.int .i64 0))) (some (48, true)),
    MI.op (some 51) (.load true 32 (.tmp 50)) (some (48, true)),
    MI.op (some 52) (.load true 32 (.tmp 5)) (some (48, true)),
    MI.op (some 53) (.eqv false [(32, .i)] (.tmp 51) (.tmp 52)) (some (48, true)),
    MI.op (some 54) (.pick (.tmp 48) (.tmp 53) (.c (.bool false))) none,
    MI.op (some 55) (.mov (.tmp 54)) none,
    MI.op (some 56) (.load true 32 (.tmp 5)) (some (55, true)),
    MI.op (some 57) (.fa 0 (.tmp 1)) (some (55, true)),
    MI.op (some 58) (.slArr 32 1 (.tmp 57) none none none) (some (55, true)),
    MI.op (some 59) (.mov (.tmp 3)) (some (55, true)),
    MI.op (some 60) (.bsl 2 1 [(.sl .full 0 [])] [(0, 1, (.tmp 58)), (1, 1, (.tmp 59))]) (some (55, true)),
    MI.op (some 61) (.call 17 [(.tmp 60)]) (some (55, true)),
    MI.op (some 62) (.eqv false [(32, .i)] (.tmp 56) (.tmp 61)) (some (55, true)),
    MI.op (some 63) (.pick (.tmp 55) (.tmp 62) (.c (.bool false))) none,
    MI.op (some 64) (.mov (.tmp 63)) none,
    MI.op (some 65) (.fa 0 (.tmp 1)) (some (64, true)),
    MI.op (some 66) (.load true 32 (.tmp 65)) (some (64, true)),
    MI.op (some 67) (.fa 32 (.tmp 1)) (some (64, true)),
    MI.op (some 68) (.load false 1 (.tmp 67)) (some (64, true)),
    MI.op (some 69) (.callp 33 [(.tmp 66), (.tmp 68)]) (some (64, true)),
    MI.op (some 70) (.len (.tmp 69)) (some (64, true)),
    MI.op (some 71) (.fa 32 (.tmp 1)) (some (64, true)),
    MI.op (some 72) (.load false 1 (.tmp 71)) (some (64, true)),
    MI.op (some 73) (.len (.tmp 72)) (some (64, true))]
   [MI.op (some 74) (.bin .eql (.tmp 70) (.tmp 73)) (some (64, true)),
    MI.op (some 75) (.pick (.tmp 64) (.tmp 74) (.c (.bool false))) none,
    MI.op (some 76) (.mov (.tmp 75)) none,
    MI.op (some 77) (.call 32 []) (some (76, true)),
    MI.op (some 78) (.pick (.tmp 76) (.tmp 77) (.c (.bool false))) none,
    MI.op (some 2) (.mov (.tmp 78)) none])
  .ret)
def m13_8 : MCode :=
 (.seq
  (.reg
   [MI.op (some 31) (.fa 0 (.tmp 1)) none,
    MI.op (some 32) (.load true 32 (.tmp 31)) none,
    MI.op (some 33) (.mov (.tmp 3)) none,
    MI.op (some 34) (.bsl 1 1 [(.sl .full 0 [])] [(0, 1, (.tmp 33))]) none,
    MI.op (some 35) (.call 33 [(.tmp 32), (.tmp 34)]) none,
    MI.op (some 6) (.mov (.tmp 35)) none])
  m13_7)
def m13_9 : MCode :=
 (.seq
  (.reg
   (MI.frz 3 ::
    MI.op (some 26) (.fa 0 (.tmp 1)) none ::
    MI.op (some 27) (.load true 32 (.tmp 26)) none ::
    MI.op (some 28) (.fa 32 (.tmp 1)) none ::
    MI.op (some 29) (.load false 1 (.tmp 28)) none ::
    MI.op (some 30) (.call 36 [(.tmp 27), (.tmp 29)]) none ::
    m13_6))
  m13_8)
def m13_10 : MCode :=
 (.seq
  (.seq
   (.reg
    [MI.op (some 4) (.mov (.c (.int .i64 0))) none])
  m13_5)
  m13_9)
def m13_11 : MCode :=
 (.seq
  (.reg
   [MI.op (some 3) (.mov (.c (.sl .full 0 []))) none])
  m13_10)
def m13_12 : MCode :=
 (.seq
  (.seq
   (.reg
    [MI.op (some 7) (.fa 32 (.tmp 1)) none,
     MI.op (some 8) (.load false 1 (.tmp 7)) none,
     MI.op (some 9) (.call 14 [(.tmp 8)]) none,
     MI.op (some 10) (.un .not (.tmp 9)) none])
  m13_2)
  m13_11)
def m13_r : List MRes := [.tmp 2]
def m13_b : MCode :=
 (.seq
  (.reg
   [MI.op (some 1) (.box (.tmp 0)) none,
    MI.op (some 2) (.mov (.c (.bool false))) none,
    MI.frz 1])
  m13_12)
def m13 : MFunc := ⟨1, 79, m13_r, m13_b⟩
theorem c13 : compF Try.prog 13 m13 = some m13 := by kernel_rfl

end Go.Proofs.Ytlbilkldjhhopaa
