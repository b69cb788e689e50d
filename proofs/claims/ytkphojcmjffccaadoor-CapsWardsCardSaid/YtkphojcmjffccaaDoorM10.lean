/- The loaded functions as texts of the ideal machine (written by a program of ours), and that they are the loaded ones. -/
import Derived.Test.YtkphojcmjffccaaDoorE31
import Derived.Test.YtkphojcmjffccaaDoorProg
set_option linter.unusedVariables false
namespace Go.Proofs.YtkphojcmjffccaaDoor
open Go.RowKit

/- tollhouse/mac.pad -/
def m27_1 : MCode :=
 (.reg
  [MI.op (some 9) (.mov (.tmp 5)) none,
   MI.op (some 10) (.ixArr 64 1 (.tmp 2) (.tmp 9)) none,
   MI.op (some 11) (.load false 1 (.tmp 10)) none,
   MI.op (some 12) (.mov (.tmp 1)) none,
   MI.op (some 13) (.bin .xor (.tmp 11) (.tmp 12)) none,
   MI.op (some 14) (.ixArr 64 1 (.tmp 2) (.tmp 9)) none,
   MI.op none (.store 1 (.tmp 14) (.tmp 13)) none])
def m27_2 : MCode :=
 (.seq
  (.blk 1
   (.seq
    (.reg
     [MI.op (some 8) (.mov (.tmp 6)) none,
      MI.op (some 5) (.mov (.tmp 8)) none])
  m27_1))
  (.reg
   [MI.op (some 15) (.bin .add (.tmp 6) (.c (.int .i64 1))) none,
    MI.op (some 6) (.mov (.tmp 15)) none]))
def m27_3 : MCode :=
 (.seq
  (.cond (.tmp 7)
   .skip
   (.exit 0))
  m27_2)
def m27_4 : MCode :=
 (.seq
  (.reg
   [MI.op (some 7) (.bin .lss (.tmp 6) (.c (.int .i64 64))) none])
  m27_3)
def m27_5 : MCode :=
 (.blk 0
  (.loop
  m27_4))
def m27_6 : MCode :=
 (.seq
  (.reg
   [MI.op (some 16) (.slArr 64 1 (.tmp 2) none none none) none,
    MI.frz 16,
    MI.op (some 4) (.mov (.tmp 16)) none])
  .ret)
def m27_7 : MCode :=
 (.seq
  (.seq
   (.reg
    [MI.op (some 6) (.mov (.c (.int .i64 0))) none])
  m27_5)
  m27_6)
def m27_r : List MRes := [.tmp 4]
def m27_b : MCode :=
 (.seq
  (.reg
   [MI.op (some 2) (.box (.tmp 0)) none,
    MI.op (some 4) (.mov (.c (.sl .full 0 []))) none])
  m27_7)
def m27 : MFunc := ⟨2, 17, m27_r, m27_b⟩
theorem c27 : compF Tryd.prog 27 m27 = some m27 := by kernel_rfl

/- tollhouse/mac.Block -/
def m23_1 : List MI :=
 [MI.op (some 3) (.alloc (List.replicate 32 (.int .u8 0))) none,
  MI.op none (.store 32 (.tmp 3) (.tmp 10)) none]
def m23_2 : MCode :=
 (.seq
  (.reg
   (MI.op (some 8) (.mov (.tmp 0)) none ::
    MI.op (some 9) (.bsl 1 1 [(.sl .full 0 [])] [(0, 1, (.tmp 8))]) none ::
    MI.op (some 10) (.call 24 [(.tmp 9)]) none ::
    m23_1))
  (.reg
   [MI.op (some 11) (.slArr 32 1 (.tmp 3) none none none) none,
    MI.op (some 0) (.mov (.tmp 11)) none]))
def m23_3 : MCode :=
 (.cond (.tmp 7)
  m23_2
  .skip)
def m23_4 : MCode :=
 (.seq
  (.reg
   [MI.op (some 15) (.load true 64 (.tmp 4)) none,
    MI.op none (.store 64 (.tmp 2) (.tmp 15)) none])
  .ret)
def m23_5 : MCode :=
 (.seq
  (.reg
   [MI.op (some 12) (.slArr 64 1 (.tmp 4) none none none) none,
    MI.op (some 13) (.mov (.tmp 0)) none,
    MI.op (some 14) (.copy 1 (.tmp 12) (.tmp 13)) none])
  m23_4)
def m23_6 : MCode :=
 (.seq
  (.reg
   [MI.op (some 4) (.alloc (List.replicate 64 (.int .u8 0))) none])
  m23_5)
def m23_7 : MCode :=
 (.seq
  (.seq
   (.reg
    [MI.op (some 5) (.mov (.tmp 0)) none,
     MI.op (some 6) (.len (.tmp 5)) none,
     MI.op (some 7) (.bin .gtr (.tmp 6) (.c (.int .i64 64))) none])
  m23_3)
  m23_6)
def m23_r : List MRes := [.cell 2 true 64]
def m23_b : MCode :=
 (.seq
  (.reg
   [MI.op (some 2) (.alloc (List.replicate 64 (.int .u8 0))) none])
  m23_7)
def m23 : MFunc := ⟨1, 16, m23_r, m23_b⟩
theorem c23 : compF Tryd.prog 23 m23 = some m23 := by kernel_rfl

/- tollhouse/mac.Mac -/
def m15_1 : List MI :=
 [MI.op (some 5) (.alloc (List.replicate 64 (.int .u8 0))) none,
  MI.op none (.store 64 (.tmp 5) (.tmp 8)) none]
def m15_2 : MCode :=
 (.seq
  (.drw
   [MI.op (some 16) (.load true 64 (.tmp 5)) none,
    MI.op (some 17) (.call 27 [(.tmp 16), (.c (.int .u8 92))]) none,
    MI.op (some 18) (.slArr 32 1 (.tmp 6) none none none) none]
   [MI.frz 18,
    MI.op (some 19) (.bsl 2 1 [(.sl .full 0 [])] [(0, 1, (.tmp 17)), (1, 1, (.tmp 18))]) none,
    MI.op (some 20) (.call 24 [(.tmp 19)]) none,
    MI.op none (.store 32 (.tmp 4) (.tmp 20)) none])
  .ret)
def m15_3 : MCode :=
 (.seq
  (.dra
   (.take 0 (MI.op (some 9) (.mov (.tmp 1)) none)
  (.alt 1 (MI.op (some 10) (.call 26 [(.tmp 9)]) none)
  (.alt 2 (MI.op (some 11) (.load true 64 (.tmp 5)) none)
  (.alt 3 (MI.op (some 12) (.call 27 [(.tmp 11), (.c (.int .u8 54))]) none)
  (.alt 4 (MI.op (some 13) (.bsl 1 1 [(.sl .full 0 [])] [(0, 1, (.tmp 12))]) none)
  (.alt 5 (MI.op (some 14) (.calln 25 [(.tmp 10), (.c (.int .i64 0)), (.tmp 13)]) none)
  (.alt 6 (MI.op (some 15) (.call 24 [(.tmp 14)]) none)
  (.alt 7 (MI.op (some 6) (.alloc (List.replicate 32 (.int .u8 0))) none)
  (.alt 8 (MI.op none (.store 32 (.tmp 6) (.tmp 15)) none)
  .done .stop) .stop) (.alt 7 (MI.op (some 6) (.alloc (List.replicate 32 (.int .u8 0))) none)
  (.alt 6 (MI.op (some 15) (.call 24 [(.tmp 14)]) none)
  (.alt 8 (MI.op none (.store 32 (.tmp 6) (.tmp 15)) none)
  .done .stop) .stop) .stop)) (.alt 7 (MI.op (some 6) (.alloc (List.replicate 32 (.int .u8 0))) none)
  (.alt 5 (MI.op (some 14) (.calln 25 [(.tmp 10), (.c (.int .i64 0)), (.tmp 13)]) none)
  (.alt 6 (MI.op (some 15) (.call 24 [(.tmp 14)]) none)
  (.alt 8 (MI.op none (.store 32 (.tmp 6) (.tmp 15)) none)
  .done .stop) .stop) .stop) .stop)) (.alt 7 (MI.op (some 6) (.alloc (List.replicate 32 (.int .u8 0))) none)
  (.alt 4 (MI.op (some 13) (.bsl 1 1 [(.sl .full 0 [])] [(0, 1, (.tmp 12))]) none)
  (.alt 5 (MI.op (some 14) (.calln 25 [(.tmp 10), (.c (.int .i64 0)), (.tmp 13)]) none)
  (.alt 6 (MI.op (some 15) (.call 24 [(.tmp 14)]) none)
  (.alt 8 (MI.op none (.store 32 (.tmp 6) (.tmp 15)) none)
  .done .stop) .stop) .stop) .stop) .stop)) (.alt 7 (MI.op (some 6) (.alloc (List.replicate 32 (.int .u8 0))) none)
  (.alt 3 (MI.op (some 12) (.call 27 [(.tmp 11), (.c (.int .u8 54))]) none)
  (.alt 4 (MI.op (some 13) (.bsl 1 1 [(.sl .full 0 [])] [(0, 1, (.tmp 12))]) none)
  (.alt 5 (MI.op (some 14) (.calln 25 [(.tmp 10), (.c (.int .i64 0)), (.tmp 13)]) none)
  (.alt 6 (MI.op (some 15) (.call 24 [(.tmp 14)]) none)
  (.alt 8 (MI.op none (.store 32 (.tmp 6) (.tmp 15)) none)
  .done .stop) .stop) .stop) .stop) .stop) .stop)) (.alt 7 (MI.op (some 6) (.alloc (List.replicate 32 (.int .u8 0))) none)
  (.alt 2 (MI.op (some 11) (.load true 64 (.tmp 5)) none)
  (.alt 3 (MI.op (some 12) (.call 27 [(.tmp 11), (.c (.int .u8 54))]) none)
  (.alt 4 (MI.op (some 13) (.bsl 1 1 [(.sl .full 0 [])] [(0, 1, (.tmp 12))]) none)
  (.alt 5 (MI.op (some 14) (.calln 25 [(.tmp 10), (.c (.int .i64 0)), (.tmp 13)]) none)
  (.alt 6 (MI.op (some 15) (.call 24 [(.tmp 14)]) none)
  (.alt 8 (MI.op none (.store 32 (.tmp 6) (.tmp 15)) none)
  .done .stop) .stop) .stop) .stop) .stop) .stop) .stop)) (.alt 2 (MI.op (some 11) (.load true 64 (.tmp 5)) none)
  (.alt 1 (MI.op (some 10) (.call 26 [(.tmp 9)]) none)
  (.alt 3 (MI.op (some 12) (.call 27 [(.tmp 11), (.c (.int .u8 54))]) none)
  (.alt 4 (MI.op (some 13) (.bsl 1 1 [(.sl .full 0 [])] [(0, 1, (.tmp 12))]) none)
  (.alt 5 (MI.op (some 14) (.calln 25 [(.tmp 10), (.c (.int .i64 0)), (.tmp 13)]) none)
  (.alt 6 (MI.op (some 15) (.call 24 [(.tmp 14)]) none)
  (.alt 7 (MI.op (some 6) (.alloc (List.replicate 32 (.int .u8 0))) none)
  (.alt 8 (MI.op none (.store 32 (.tmp 6) (.tmp 15)) none)
  .done .stop) .stop) (.alt 7 (MI.op (some 6) (.alloc (List.replicate 32 (.int .u8 0))) none)
  (.alt 6 (MI.op (some 15) (.call 24 [(.tmp 14)]) none)
  (.alt 8 (MI.op none (.store 32 (.tmp 6) (.tmp 15)) none)
  .done .stop) .stop) .stop)) (.alt 7 (MI.op (some 6) (.alloc (List.replicate 32 (.int .u8 0))) none)
  (.alt 5 (MI.op (some 14) (.calln 25 [(.tmp 10), (.c (.int .i64 0)), (.tmp 13)]) none)
  (.alt 6 (MI.op (some 15) (.call 24 [(.tmp 14)]) none)
  (.alt 8 (MI.op none (.store 32 (.tmp 6) (.tmp 15)) none)
  .done .stop) .stop) .stop) .stop)) (.alt 7 (MI.op (some 6) (.alloc (List.replicate 32 (.int .u8 0))) none)
  (.alt 4 (MI.op (some 13) (.bsl 1 1 [(.sl .full 0 [])] [(0, 1, (.tmp 12))]) none)
  (.alt 5 (MI.op (some 14) (.calln 25 [(.tmp 10), (.c (.int .i64 0)), (.tmp 13)]) none)
  (.alt 6 (MI.op (some 15) (.call 24 [(.tmp 14)]) none)
  (.alt 8 (MI.op none (.store 32 (.tmp 6) (.tmp 15)) none)
  .done .stop) .stop) .stop) .stop) .stop)) (.alt 7 (MI.op (some 6) (.alloc (List.replicate 32 (.int .u8 0))) none)
  (.alt 3 (MI.op (some 12) (.call 27 [(.tmp 11), (.c (.int .u8 54))]) none)
  (.alt 4 (MI.op (some 13) (.bsl 1 1 [(.sl .full 0 [])] [(0, 1, (.tmp 12))]) none)
  (.alt 5 (MI.op (some 14) (.calln 25 [(.tmp 10), (.c (.int .i64 0)), (.tmp 13)]) none)
  (.alt 6 (MI.op (some 15) (.call 24 [(.tmp 14)]) none)
  (.alt 8 (MI.op none (.store 32 (.tmp 6) (.tmp 15)) none)
  .done .stop) .stop) .stop) .stop) .stop) .stop)) (.alt 7 (MI.op (some 6) (.alloc (List.replicate 32 (.int .u8 0))) none)
  (.alt 1 (MI.op (some 10) (.call 26 [(.tmp 9)]) none)
  (.alt 3 (MI.op (some 12) (.call 27 [(.tmp 11), (.c (.int .u8 54))]) none)
  (.alt 4 (MI.op (some 13) (.bsl 1 1 [(.sl .full 0 [])] [(0, 1, (.tmp 12))]) none)
  (.alt 5 (MI.op (some 14) (.calln 25 [(.tmp 10), (.c (.int .i64 0)), (.tmp 13)]) none)
  (.alt 6 (MI.op (some 15) (.call 24 [(.tmp 14)]) none)
  (.alt 8 (MI.op none (.store 32 (.tmp 6) (.tmp 15)) none)
  .done .stop) .stop) .stop) .stop) .stop) .stop) .stop)) (.alt 7 (MI.op (some 6) (.alloc (List.replicate 32 (.int .u8 0))) none)
  (.alt 1 (MI.op (some 10) (.call 26 [(.tmp 9)]) none)
  (.alt 2 (MI.op (some 11) (.load true 64 (.tmp 5)) none)
  (.alt 3 (MI.op (some 12) (.call 27 [(.tmp 11), (.c (.int .u8 54))]) none)
  (.alt 4 (MI.op (some 13) (.bsl 1 1 [(.sl .full 0 [])] [(0, 1, (.tmp 12))]) none)
  (.alt 5 (MI.op (some 14) (.calln 25 [(.tmp 10), (.c (.int .i64 0)), (.tmp 13)]) none)
  (.alt 6 (MI.op (some 15) (.call 24 [(.tmp 14)]) none)
  (.alt 8 (MI.op none (.store 32 (.tmp 6) (.tmp 15)) none)
  .done .stop) .stop) .stop) .stop) .stop) .stop) (.alt 2 (MI.op (some 11) (.load true 64 (.tmp 5)) none)
  (.alt 1 (MI.op (some 10) (.call 26 [(.tmp 9)]) none)
  (.alt 3 (MI.op (some 12) (.call 27 [(.tmp 11), (.c (.int .u8 54))]) none)
  (.alt 4 (MI.op (some 13) (.bsl 1 1 [(.sl .full 0 [])] [(0, 1, (.tmp 12))]) none)
  (.alt 5 (MI.op (some 14) (.calln 25 [(.tmp 10), (.c (.int .i64 0)), (.tmp 13)]) none)
  (.alt 6 (MI.op (some 15) (.call 24 [(.tmp 14)]) none)
  (.alt 8 (MI.op none (.store 32 (.tmp 6) (.tmp 15)) none)
  .done .stop) .stop) .stop) .stop) .stop) .stop) .stop)) .stop)))))
  m15_2)
def m15_4 : MCode :=
 (.seq
  (.reg
   (MI.op (some 7) (.mov (.tmp 0)) none ::
    MI.op (some 8) (.call 23 [(.tmp 7)]) none ::
    m15_1))
  m15_3)
def m15_r : List MRes := [.cell 4 true 32]
def m15_b : MCode :=
 (.seq
  (.reg
   [MI.op (some 4) (.alloc (List.replicate 32 (.int .u8 0))) none])
  m15_4)
def m15 : MFunc := ⟨2, 21, m15_r, m15_b⟩
theorem c15 : compF Tryd.prog 15 m15 = some m15 := by kernel_rfl

/- tollhouse/tollhouseref02.Block -/
def m31_1 : List MI :=
 [MI.op (some 4) (.alloc (List.replicate 32 (.int .u8 0))) none,
  MI.op none (.store 32 (.tmp 4) (.tmp 10)) none]
def m31_2 : MCode :=
 (.seq
  (.reg
   [MI.op (some 14) (.load true 64 (.tmp 3)) none,
    MI.op none (.store 64 (.tmp 2) (.tmp 14)) none])
  .ret)
def m31_3 : MCode :=
 (.seq
  (.drw
   [MI.op (some 11) (.slArr 64 1 (.tmp 3) none none none) none,
    MI.op (some 12) (.slArr 32 1 (.tmp 4) none none none) none]
   [MI.op (some 13) (.copy 1 (.tmp 11) (.tmp 12)) none])
  m31_2)
def m31_4 : MCode :=
 (.seq
  (.reg
   (MI.op (some 8) (.mov (.tmp 0)) none ::
    MI.op (some 9) (.bsl 1 1 [(.sl .full 0 [])] [(0, 1, (.tmp 8))]) none ::
    MI.op (some 10) (.call 32 [(.tmp 9)]) none ::
    m31_1))
  m31_3)
def m31_5 : MCode :=
 (.cond (.tmp 7)
  m31_4
  .skip)
def m31_6 : MCode :=
 (.seq
  (.reg
   [MI.op (some 18) (.load true 64 (.tmp 3)) none,
    MI.op none (.store 64 (.tmp 2) (.tmp 18)) none])
  .ret)
def m31_7 : MCode :=
 (.seq
  (.reg
   [MI.op (some 15) (.slArr 64 1 (.tmp 3) none none none) none,
    MI.op (some 16) (.mov (.tmp 0)) none,
    MI.op (some 17) (.copy 1 (.tmp 15) (.tmp 16)) none])
  m31_6)
def m31_8 : MCode :=
 (.seq
  (.seq
   (.reg
    [MI.op (some 5) (.mov (.tmp 0)) none,
     MI.op (some 6) (.len (.tmp 5)) none,
     MI.op (some 7) (.bin .gtr (.tmp 6) (.c (.int .i64 64))) none])
  m31_5)
  m31_7)
def m31_9 : MCode :=
 (.seq
  (.reg
   [MI.op (some 3) (.alloc (List.replicate 64 (.int .u8 0))) none])
  m31_8)
def m31_r : List MRes := [.cell 2 true 64]
def m31_b : MCode :=
 (.seq
  (.reg
   [MI.op (some 2) (.alloc (List.replicate 64 (.int .u8 0))) none])
  m31_9)
def m31 : MFunc := ⟨1, 19, m31_r, m31_b⟩
theorem c31 : compF Tryd.prog 31 m31 = some m31 := by kernel_rfl

/- tollhouse/tollhouseref02.Mac -/
def m17_1 : List MI :=
 [MI.op (some 5) (.alloc (List.replicate 64 (.int .u8 0))) none,
  MI.op none (.store 64 (.tmp 5) (.tmp 11)) none]
def m17_2 : MCode :=
 (.seq
  (.blk 1
   (.dra
    (.take 0 (MI.op (some 18) (.mov (.tmp 6)) none)
  (.take 1 (MI.op (some 19) (.mov (.tmp 8)) none)
  (.take 2 (MI.op (some 20) (.mov (.tmp 7)) none)
  (.take 3 (MI.op (some 21) (.mov (.tmp 8)) none)
  (.take 4 (MI.op (some 22) (.mov (.tmp 8)) none)
  (.take 8 (MI.op (some 26) (.mov (.tmp 8)) none)
  (.alt 5 (MI.op (some 23) (.ixArr 64 1 (.tmp 5) (.tmp 22)) none)
  (.alt 6 (MI.op (some 24) (.load false 1 (.tmp 23)) none)
  (.alt 7 (MI.op (some 25) (.bin .xor (.tmp 24) (.c (.int .u8 54))) none)
  (.alt 9 (MI.op (some 27) (.ixArr 64 1 (.tmp 5) (.tmp 26)) none)
  (.alt 10 (MI.op (some 28) (.load false 1 (.tmp 27)) none)
  (.alt 11 (MI.op (some 29) (.bin .xor (.tmp 28) (.c (.int .u8 92))) none)
  (.alt 12 (MI.op (some 30) (.ixSl 1 (.tmp 18) (.tmp 19)) none)
  (.alt 13 (MI.op none (.store 1 (.tmp 30) (.tmp 25)) none)
  (.alt 14 (MI.op (some 31) (.ixSl 1 (.tmp 20) (.tmp 21)) none)
  (.alt 15 (MI.op none (.store 1 (.tmp 31) (.tmp 29)) none)
  .done .stop) .stop) .stop) .stop) (.alt 12 (MI.op (some 30) (.ixSl 1 (.tmp 18) (.tmp 19)) none)
  (.alt 11 (MI.op (some 29) (.bin .xor (.tmp 28) (.c (.int .u8 92))) none)
  (.alt 13 (MI.op none (.store 1 (.tmp 30) (.tmp 25)) none)
  (.alt 14 (MI.op (some 31) (.ixSl 1 (.tmp 20) (.tmp 21)) none)
  (.alt 15 (MI.op none (.store 1 (.tmp 31) (.tmp 29)) none)
  .done .stop) .stop) .stop) (.alt 13 (MI.op none (.store 1 (.tmp 30) (.tmp 25)) none)
  (.alt 11 (MI.op (some 29) (.bin .xor (.tmp 28) (.c (.int .u8 92))) none)
  (.alt 14 (MI.op (some 31) (.ixSl 1 (.tmp 20) (.tmp 21)) none)
  (.alt 15 (MI.op none (.store 1 (.tmp 31) (.tmp 29)) none)
  .done .stop) .stop) .stop) .stop)) .stop)) (.alt 12 (MI.op (some 30) (.ixSl 1 (.tmp 18) (.tmp 19)) none)
  (.alt 10 (MI.op (some 28) (.load false 1 (.tmp 27)) none)
  (.alt 11 (MI.op (some 29) (.bin .xor (.tmp 28) (.c (.int .u8 92))) none)
  (.alt 13 (MI.op none (.store 1 (.tmp 30) (.tmp 25)) none)
  (.alt 14 (MI.op (some 31) (.ixSl 1 (.tmp 20) (.tmp 21)) none)
  (.alt 15 (MI.op none (.store 1 (.tmp 31) (.tmp 29)) none)
  .done .stop) .stop) .stop) (.alt 13 (MI.op none (.store 1 (.tmp 30) (.tmp 25)) none)
  (.alt 11 (MI.op (some 29) (.bin .xor (.tmp 28) (.c (.int .u8 92))) none)
  (.alt 14 (MI.op (some 31) (.ixSl 1 (.tmp 20) (.tmp 21)) none)
  (.alt 15 (MI.op none (.store 1 (.tmp 31) (.tmp 29)) none)
  .done .stop) .stop) .stop) .stop)) (.alt 13 (MI.op none (.store 1 (.tmp 30) (.tmp 25)) none)
  (.alt 10 (MI.op (some 28) (.load false 1 (.tmp 27)) none)
  (.alt 11 (MI.op (some 29) (.bin .xor (.tmp 28) (.c (.int .u8 92))) none)
  (.alt 14 (MI.op (some 31) (.ixSl 1 (.tmp 20) (.tmp 21)) none)
  (.alt 15 (MI.op none (.store 1 (.tmp 31) (.tmp 29)) none)
  .done .stop) .stop) .stop) .stop) .stop)) .stop)) (.alt 12 (MI.op (some 30) (.ixSl 1 (.tmp 18) (.tmp 19)) none)
  (.alt 9 (MI.op (some 27) (.ixArr 64 1 (.tmp 5) (.tmp 26)) none)
  (.alt 10 (MI.op (some 28) (.load false 1 (.tmp 27)) none)
  (.alt 11 (MI.op (some 29) (.bin .xor (.tmp 28) (.c (.int .u8 92))) none)
  (.alt 13 (MI.op none (.store 1 (.tmp 30) (.tmp 25)) none)
  (.alt 14 (MI.op (some 31) (.ixSl 1 (.tmp 20) (.tmp 21)) none)
  (.alt 15 (MI.op none (.store 1 (.tmp 31) (.tmp 29)) none)
  .done .stop) .stop) .stop) (.alt 13 (MI.op none (.store 1 (.tmp 30) (.tmp 25)) none)
  (.alt 11 (MI.op (some 29) (.bin .xor (.tmp 28) (.c (.int .u8 92))) none)
  (.alt 14 (MI.op (some 31) (.ixSl 1 (.tmp 20) (.tmp 21)) none)
  (.alt 15 (MI.op none (.store 1 (.tmp 31) (.tmp 29)) none)
  .done .stop) .stop) .stop) .stop)) (.alt 13 (MI.op none (.store 1 (.tmp 30) (.tmp 25)) none)
  (.alt 10 (MI.op (some 28) (.load false 1 (.tmp 27)) none)
  (.alt 11 (MI.op (some 29) (.bin .xor (.tmp 28) (.c (.int .u8 92))) none)
  (.alt 14 (MI.op (some 31) (.ixSl 1 (.tmp 20) (.tmp 21)) none)
  (.alt 15 (MI.op none (.store 1 (.tmp 31) (.tmp 29)) none)
  .done .stop) .stop) .stop) .stop) .stop)) (.alt 13 (MI.op none (.store 1 (.tmp 30) (.tmp 25)) none)
  (.alt 9 (MI.op (some 27) (.ixArr 64 1 (.tmp 5) (.tmp 26)) none)
  (.alt 10 (MI.op (some 28) (.load false 1 (.tmp 27)) none)
  (.alt 11 (MI.op (some 29) (.bin .xor (.tmp 28) (.c (.int .u8 92))) none)
  (.alt 14 (MI.op (some 31) (.ixSl 1 (.tmp 20) (.tmp 21)) none)
  (.alt 15 (MI.op none (.store 1 (.tmp 31) (.tmp 29)) none)
  .done .stop) .stop) .stop) .stop) .stop) .stop)) .stop)) (.alt 9 (MI.op (some 27) (.ixArr 64 1 (.tmp 5) (.tmp 26)) none)
  (.alt 7 (MI.op (some 25) (.bin .xor (.tmp 24) (.c (.int .u8 54))) none)
  (.alt 10 (MI.op (some 28) (.load false 1 (.tmp 27)) none)
  (.alt 11 (MI.op (some 29) (.bin .xor (.tmp 28) (.c (.int .u8 92))) none)
  (.alt 12 (MI.op (some 30) (.ixSl 1 (.tmp 18) (.tmp 19)) none)
  (.alt 13 (MI.op none (.store 1 (.tmp 30) (.tmp 25)) none)
  (.alt 14 (MI.op (some 31) (.ixSl 1 (.tmp 20) (.tmp 21)) none)
  (.alt 15 (MI.op none (.store 1 (.tmp 31) (.tmp 29)) none)
  .done .stop) .stop) .stop) .stop) (.alt 12 (MI.op (some 30) (.ixSl 1 (.tmp 18) (.tmp 19)) none)
  (.alt 11 (MI.op (some 29) (.bin .xor (.tmp 28) (.c (.int .u8 92))) none)
  (.alt 13 (MI.op none (.store 1 (.tmp 30) (.tmp 25)) none)
  (.alt 14 (MI.op (some 31) (.ixSl 1 (.tmp 20) (.tmp 21)) none)
  (.alt 15 (MI.op none (.store 1 (.tmp 31) (.tmp 29)) none)
  .done .stop) .stop) .stop) (.alt 13 (MI.op none (.store 1 (.tmp 30) (.tmp 25)) none)
  (.alt 11 (MI.op (some 29) (.bin .xor (.tmp 28) (.c (.int .u8 92))) none)
  (.alt 14 (MI.op (some 31) (.ixSl 1 (.tmp 20) (.tmp 21)) none)
  (.alt 15 (MI.op none (.store 1 (.tmp 31) (.tmp 29)) none)
  .done .stop) .stop) .stop) .stop)) .stop)) (.alt 12 (MI.op (some 30) (.ixSl 1 (.tmp 18) (.tmp 19)) none)
  (.alt 10 (MI.op (some 28) (.load false 1 (.tmp 27)) none)
  (.alt 11 (MI.op (some 29) (.bin .xor (.tmp 28) (.c (.int .u8 92))) none)
  (.alt 13 (MI.op none (.store 1 (.tmp 30) (.tmp 25)) none)
  (.alt 14 (MI.op (some 31) (.ixSl 1 (.tmp 20) (.tmp 21)) none)
  (.alt 15 (MI.op none (.store 1 (.tmp 31) (.tmp 29)) none)
  .done .stop) .stop) .stop) (.alt 13 (MI.op none (.store 1 (.tmp 30) (.tmp 25)) none)
  (.alt 11 (MI.op (some 29) (.bin .xor (.tmp 28) (.c (.int .u8 92))) none)
  (.alt 14 (MI.op (some 31) (.ixSl 1 (.tmp 20) (.tmp 21)) none)
  (.alt 15 (MI.op none (.store 1 (.tmp 31) (.tmp 29)) none)
  .done .stop) .stop) .stop) .stop)) (.alt 13 (MI.op none (.store 1 (.tmp 30) (.tmp 25)) none)
  (.alt 10 (MI.op (some 28) (.load false 1 (.tmp 27)) none)
  (.alt 11 (MI.op (some 29) (.bin .xor (.tmp 28) (.c (.int .u8 92))) none)
  (.alt 14 (MI.op (some 31) (.ixSl 1 (.tmp 20) (.tmp 21)) none)
  (.alt 15 (MI.op none (.store 1 (.tmp 31) (.tmp 29)) none)
  .done .stop) .stop) .stop) .stop) .stop)) .stop)) (.alt 10 (MI.op (some 28) (.load false 1 (.tmp 27)) none)
  (.alt 7 (MI.op (some 25) (.bin .xor (.tmp 24) (.c (.int .u8 54))) none)
  (.alt 11 (MI.op (some 29) (.bin .xor (.tmp 28) (.c (.int .u8 92))) none)
  (.alt 12 (MI.op (some 30) (.ixSl 1 (.tmp 18) (.tmp 19)) none)
  (.alt 13 (MI.op none (.store 1 (.tmp 30) (.tmp 25)) none)
  (.alt 14 (MI.op (some 31) (.ixSl 1 (.tmp 20) (.tmp 21)) none)
  (.alt 15 (MI.op none (.store 1 (.tmp 31) (.tmp 29)) none)
  .done .stop) .stop) .stop) .stop) (.alt 12 (MI.op (some 30) (.ixSl 1 (.tmp 18) (.tmp 19)) none)
  (.alt 11 (MI.op (some 29) (.bin .xor (.tmp 28) (.c (.int .u8 92))) none)
  (.alt 13 (MI.op none (.store 1 (.tmp 30) (.tmp 25)) none)
  (.alt 14 (MI.op (some 31) (.ixSl 1 (.tmp 20) (.tmp 21)) none)
  (.alt 15 (MI.op none (.store 1 (.tmp 31) (.tmp 29)) none)
  .done .stop) .stop) .stop) (.alt 13 (MI.op none (.store 1 (.tmp 30) (.tmp 25)) none)
  (.alt 11 (MI.op (some 29) (.bin .xor (.tmp 28) (.c (.int .u8 92))) none)
  (.alt 14 (MI.op (some 31) (.ixSl 1 (.tmp 20) (.tmp 21)) none)
  (.alt 15 (MI.op none (.store 1 (.tmp 31) (.tmp 29)) none)
  .done .stop) .stop) .stop) .stop)) .stop)) (.alt 11 (MI.op (some 29) (.bin .xor (.tmp 28) (.c (.int .u8 92))) none)
  (.alt 7 (MI.op (some 25) (.bin .xor (.tmp 24) (.c (.int .u8 54))) none)
  (.alt 12 (MI.op (some 30) (.ixSl 1 (.tmp 18) (.tmp 19)) none)
  (.alt 13 (MI.op none (.store 1 (.tmp 30) (.tmp 25)) none)
  (.alt 14 (MI.op (some 31) (.ixSl 1 (.tmp 20) (.tmp 21)) none)
  (.alt 15 (MI.op none (.store 1 (.tmp 31) (.tmp 29)) none)
  .done .stop) .stop) .stop) .stop) .stop) .stop)) .stop)) .stop)) (.alt 9 (MI.op (some 27) (.ixArr 64 1 (.tmp 5) (.tmp 26)) none)
  (.alt 6 (MI.op (some 24) (.load false 1 (.tmp 23)) none)
  (.alt 7 (MI.op (some 25) (.bin .xor (.tmp 24) (.c (.int .u8 54))) none)
  (.alt 10 (MI.op (some 28) (.load false 1 (.tmp 27)) none)
  (.alt 11 (MI.op (some 29) (.bin .xor (.tmp 28) (.c (.int .u8 92))) none)
  (.alt 12 (MI.op (some 30) (.ixSl 1 (.tmp 18) (.tmp 19)) none)
  (.alt 13 (MI.op none (.store 1 (.tmp 30) (.tmp 25)) none)
  (.alt 14 (MI.op (some 31) (.ixSl 1 (.tmp 20) (.tmp 21)) none)
  (.alt 15 (MI.op none (.store 1 (.tmp 31) (.tmp 29)) none)
  .done .stop) .stop) .stop) .stop) (.alt 12 (MI.op (some 30) (.ixSl 1 (.tmp 18) (.tmp 19)) none)
  (.alt 11 (MI.op (some 29) (.bin .xor (.tmp 28) (.c (.int .u8 92))) none)
  (.alt 13 (MI.op none (.store 1 (.tmp 30) (.tmp 25)) none)
  (.alt 14 (MI.op (some 31) (.ixSl 1 (.tmp 20) (.tmp 21)) none)
  (.alt 15 (MI.op none (.store 1 (.tmp 31) (.tmp 29)) none)
  .done .stop) .stop) .stop) (.alt 13 (MI.op none (.store 1 (.tmp 30) (.tmp 25)) none)
  (.alt 11 (MI.op (some 29) (.bin .xor (.tmp 28) (.c (.int .u8 92))) none)
  (.alt 14 (MI.op (some 31) (.ixSl 1 (.tmp 20) (.tmp 21)) none)
  (.alt 15 (MI.op none (.store 1 (.tmp 31) (.tmp 29)) none)
  .done .stop) .stop) .stop) .stop)) .stop)) (.alt 12 (MI.op (some 30) (.ixSl 1 (.tmp 18) (.tmp 19)) none)
  (.alt 10 (MI.op (some 28) (.load false 1 (.tmp 27)) none)
  (.alt 11 (MI.op (some 29) (.bin .xor (.tmp 28) (.c (.int .u8 92))) none)
  (.alt 13 (MI.op none (.store 1 (.tmp 30) (.tmp 25)) none)
  (.alt 14 (MI.op (some 31) (.ixSl 1 (.tmp 20) (.tmp 21)) none)
  (.alt 15 (MI.op none (.store 1 (.tmp 31) (.tmp 29)) none)
  .done .stop) .stop) .stop) (.alt 13 (MI.op none (.store 1 (.tmp 30) (.tmp 25)) none)
  (.alt 11 (MI.op (some 29) (.bin .xor (.tmp 28) (.c (.int .u8 92))) none)
  (.alt 14 (MI.op (some 31) (.ixSl 1 (.tmp 20) (.tmp 21)) none)
  (.alt 15 (MI.op none (.store 1 (.tmp 31) (.tmp 29)) none)
  .done .stop) .stop) .stop) .stop)) (.alt 13 (MI.op none (.store 1 (.tmp 30) (.tmp 25)) none)
  (.alt 10 (MI.op (some 28) (.load false 1 (.tmp 27)) none)
  (.alt 11 (MI.op (some 29) (.bin .xor (.tmp 28) (.c (.int .u8 92))) none)
  (.alt 14 (MI.op (some 31) (.ixSl 1 (.tmp 20) (.tmp 21)) none)
  (.alt 15 (MI.op none (.store 1 (.tmp 31) (.tmp 29)) none)
  .done .stop) .stop) .stop) .stop) .stop)) .stop)) (.alt 10 (MI.op (some 28) (.load false 1 (.tmp 27)) none)
  (.alt 7 (MI.op (some 25) (.bin .xor (.tmp 24) (.c (.int .u8 54))) none)
  (.alt 11 (MI.op (some 29) (.bin .xor (.tmp 28) (.c (.int .u8 92))) none)
  (.alt 12 (MI.op (some 30) (.ixSl 1 (.tmp 18) (.tmp 19)) none)
  (.alt 13 (MI.op none (.store 1 (.tmp 30) (.tmp 25)) none)
  (.alt 14 (MI.op (some 31) (.ixSl 1 (.tmp 20) (.tmp 21)) none)
  (.alt 15 (MI.op none (.store 1 (.tmp 31) (.tmp 29)) none)
  .done .stop) .stop) .stop) .stop) (.alt 12 (MI.op (some 30) (.ixSl 1 (.tmp 18) (.tmp 19)) none)
  (.alt 11 (MI.op (some 29) (.bin .xor (.tmp 28) (.c (.int .u8 92))) none)
  (.alt 13 (MI.op none (.store 1 (.tmp 30) (.tmp 25)) none)
  (.alt 14 (MI.op (some 31) (.ixSl 1 (.tmp 20) (.tmp 21)) none)
  (.alt 15 (MI.op none (.store 1 (.tmp 31) (.tmp 29)) none)
  .done .stop) .stop) .stop) (.alt 13 (MI.op none (.store 1 (.tmp 30) (.tmp 25)) none)
  (.alt 11 (MI.op (some 29) (.bin .xor (.tmp 28) (.c (.int .u8 92))) none)
  (.alt 14 (MI.op (some 31) (.ixSl 1 (.tmp 20) (.tmp 21)) none)
  (.alt 15 (MI.op none (.store 1 (.tmp 31) (.tmp 29)) none)
  .done .stop) .stop) .stop) .stop)) .stop)) (.alt 11 (MI.op (some 29) (.bin .xor (.tmp 28) (.c (.int .u8 92))) none)
  (.alt 7 (MI.op (some 25) (.bin .xor (.tmp 24) (.c (.int .u8 54))) none)
  (.alt 12 (MI.op (some 30) (.ixSl 1 (.tmp 18) (.tmp 19)) none)
  (.alt 13 (MI.op none (.store 1 (.tmp 30) (.tmp 25)) none)
  (.alt 14 (MI.op (some 31) (.ixSl 1 (.tmp 20) (.tmp 21)) none)
  (.alt 15 (MI.op none (.store 1 (.tmp 31) (.tmp 29)) none)
  .done .stop) .stop) .stop) .stop) .stop) .stop)) .stop)) (.alt 10 (MI.op (some 28) (.load false 1 (.tmp 27)) none)
  (.alt 6 (MI.op (some 24) (.load false 1 (.tmp 23)) none)
  (.alt 7 (MI.op (some 25) (.bin .xor (.tmp 24) (.c (.int .u8 54))) none)
  (.alt 11 (MI.op (some 29) (.bin .xor (.tmp 28) (.c (.int .u8 92))) none)
  (.alt 12 (MI.op (some 30) (.ixSl 1 (.tmp 18) (.tmp 19)) none)
  (.alt 13 (MI.op none (.store 1 (.tmp 30) (.tmp 25)) none)
  (.alt 14 (MI.op (some 31) (.ixSl 1 (.tmp 20) (.tmp 21)) none)
  (.alt 15 (MI.op none (.store 1 (.tmp 31) (.tmp 29)) none)
  .done .stop) .stop) .stop) .stop) (.alt 12 (MI.op (some 30) (.ixSl 1 (.tmp 18) (.tmp 19)) none)
  (.alt 11 (MI.op (some 29) (.bin .xor (.tmp 28) (.c (.int .u8 92))) none)
  (.alt 13 (MI.op none (.store 1 (.tmp 30) (.tmp 25)) none)
  (.alt 14 (MI.op (some 31) (.ixSl 1 (.tmp 20) (.tmp 21)) none)
  (.alt 15 (MI.op none (.store 1 (.tmp 31) (.tmp 29)) none)
  .done .stop) .stop) .stop) (.alt 13 (MI.op none (.store 1 (.tmp 30) (.tmp 25)) none)
  (.alt 11 (MI.op (some 29) (.bin .xor (.tmp 28) (.c (.int .u8 92))) none)
  (.alt 14 (MI.op (some 31) (.ixSl 1 (.tmp 20) (.tmp 21)) none)
  (.alt 15 (MI.op none (.store 1 (.tmp 31) (.tmp 29)) none)
  .done .stop) .stop) .stop) .stop)) .stop)) (.alt 11 (MI.op (some 29) (.bin .xor (.tmp 28) (.c (.int .u8 92))) none)
  (.alt 7 (MI.op (some 25) (.bin .xor (.tmp 24) (.c (.int .u8 54))) none)
  (.alt 12 (MI.op (some 30) (.ixSl 1 (.tmp 18) (.tmp 19)) none)
  (.alt 13 (MI.op none (.store 1 (.tmp 30) (.tmp 25)) none)
  (.alt 14 (MI.op (some 31) (.ixSl 1 (.tmp 20) (.tmp 21)) none)
  (.alt 15 (MI.op none (.store 1 (.tmp 31) (.tmp 29)) none)
  .done .stop) .stop) .stop) .stop) .stop) .stop)) (.alt 11 (MI.op (some 29) (.bin .xor (.tmp 28) (.c (.int .u8 92))) none)
  (.alt 6 (MI.op (some 24) (.load false 1 (.tmp 23)) none)
  (.alt 7 (MI.op (some 25) (.bin .xor (.tmp 24) (.c (.int .u8 54))) none)
  (.alt 12 (MI.op (some 30) (.ixSl 1 (.tmp 18) (.tmp 19)) none)
  (.alt 13 (MI.op none (.store 1 (.tmp 30) (.tmp 25)) none)
  (.alt 14 (MI.op (some 31) (.ixSl 1 (.tmp 20) (.tmp 21)) none)
  (.alt 15 (MI.op none (.store 1 (.tmp 31) (.tmp 29)) none)
  .done .stop) .stop) .stop) .stop) .stop) .stop) .stop)) .stop)) .stop)) (.alt 9 (MI.op (some 27) (.ixArr 64 1 (.tmp 5) (.tmp 26)) none)
  (.alt 5 (MI.op (some 23) (.ixArr 64 1 (.tmp 5) (.tmp 22)) none)
  (.alt 6 (MI.op (some 24) (.load false 1 (.tmp 23)) none)
  (.alt 7 (MI.op (some 25) (.bin .xor (.tmp 24) (.c (.int .u8 54))) none)
  (.alt 10 (MI.op (some 28) (.load false 1 (.tmp 27)) none)
  (.alt 11 (MI.op (some 29) (.bin .xor (.tmp 28) (.c (.int .u8 92))) none)
  (.alt 12 (MI.op (some 30) (.ixSl 1 (.tmp 18) (.tmp 19)) none)
  (.alt 13 (MI.op none (.store 1 (.tmp 30) (.tmp 25)) none)
  (.alt 14 (MI.op (some 31) (.ixSl 1 (.tmp 20) (.tmp 21)) none)
  (.alt 15 (MI.op none (.store 1 (.tmp 31) (.tmp 29)) none)
  .done .stop) .stop) .stop) .stop) (.alt 12 (MI.op (some 30) (.ixSl 1 (.tmp 18) (.tmp 19)) none)
  (.alt 11 (MI.op (some 29) (.bin .xor (.tmp 28) (.c (.int .u8 92))) none)
  (.alt 13 (MI.op none (.store 1 (.tmp 30) (.tmp 25)) none)
  (.alt 14 (MI.op (some 31) (.ixSl 1 (.tmp 20) (.tmp 21)) none)
  (.alt 15 (MI.op none (.store 1 (.tmp 31) (.tmp 29)) none)
  .done .stop) .stop) .stop) (.alt 13 (MI.op none (.store 1 (.tmp 30) (.tmp 25)) none)
  (.alt 11 (MI.op (some 29) (.bin .xor (.tmp 28) (.c (.int .u8 92))) none)
  (.alt 14 (MI.op (some 31) (.ixSl 1 (.tmp 20) (.tmp 21)) none)
  (.alt 15 (MI.op none (.store 1 (.tmp 31) (.tmp 29)) none)
  .done .stop) .stop) .stop) .stop)) .stop)) (.alt 12 (MI.op (some 30) (.ixSl 1 (.tmp 18) (.tmp 19)) none)
  (.alt 10 (MI.op (some 28) (.load false 1 (.tmp 27)) none)
  (.alt 11 (MI.op (some 29) (.bin .xor (.tmp 28) (.c (.int .u8 92))) none)
  (.alt 13 (MI.op none (.store 1 (.tmp 30) (.tmp 25)) none)
  (.alt 14 (MI.op (some 31) (.ixSl 1 (.tmp 20) (.tmp 21)) none)
  (.alt 15 (MI.op none (.store 1 (.tmp 31) (.tmp 29)) none)
  .done .stop) .stop) .stop) (.alt 13 (MI.op none (.store 1 (.tmp 30) (.tmp 25)) none)
  (.alt 11 (MI.op (some 29) (.bin .xor (.tmp 28) (.c (.int .u8 92))) none)
  (.alt 14 (MI.op (some 31) (.ixSl 1 (.tmp 20) (.tmp 21)) none)
  (.alt 15 (MI.op none (.store 1 (.tmp 31) (.tmp 29)) none)
  .done .stop) .stop) .stop) .stop)) (.alt 13 (MI.op none (.store 1 (.tmp 30) (.tmp 25)) none)
  (.alt 10 (MI.op (some 28) (.load false 1 (.tmp 27)) none)
  (.alt 11 (MI.op (some 29) (.bin .xor (.tmp 28) (.c (.int .u8 92))) none)
  (.alt 14 (MI.op (some 31) (.ixSl 1 (.tmp 20) (.tmp 21)) none)
  (.alt 15 (MI.op none (.store 1 (.tmp 31) (.tmp 29)) none)
  .done .stop) .stop) .stop) .stop) .stop)) .stop)) (.alt 10 (MI.op (some 28) (.load false 1 (.tmp 27)) none)
  (.alt 7 (MI.op (some 25) (.bin .xor (.tmp 24) (.c (.int .u8 54))) none)
  (.alt 11 (MI.op (some 29) (.bin .xor (.tmp 28) (.c (.int .u8 92))) none)
  (.alt 12 (MI.op (some 30) (.ixSl 1 (.tmp 18) (.tmp 19)) none)
  (.alt 13 (MI.op none (.store 1 (.tmp 30) (.tmp 25)) none)
  (.alt 14 (MI.op (some 31) (.ixSl 1 (.tmp 20) (.tmp 21)) none)
  (.alt 15 (MI.op none (.store 1 (.tmp 31) (.tmp 29)) none)
  .done .stop) .stop) .stop) .stop) (.alt 12 (MI.op (some 30) (.ixSl 1 (.tmp 18) (.tmp 19)) none)
  (.alt 11 (MI.op (some 29) (.bin .xor (.tmp 28) (.c (.int .u8 92))) none)
  (.alt 13 (MI.op none (.store 1 (.tmp 30) (.tmp 25)) none)
  (.alt 14 (MI.op (some 31) (.ixSl 1 (.tmp 20) (.tmp 21)) none)
  (.alt 15 (MI.op none (.store 1 (.tmp 31) (.tmp 29)) none)
  .done .stop) .stop) .stop) (.alt 13 (MI.op none (.store 1 (.tmp 30) (.tmp 25)) none)
  (.alt 11 (MI.op (some 29) (.bin .xor (.tmp 28) (.c (.int .u8 92))) none)
  (.alt 14 (MI.op (some 31) (.ixSl 1 (.tmp 20) (.tmp 21)) none)
  (.alt 15 (MI.op none (.store 1 (.tmp 31) (.tmp 29)) none)
  .done .stop) .stop) .stop) .stop)) .stop)) (.alt 11 (MI.op (some 29) (.bin .xor (.tmp 28) (.c (.int .u8 92))) none)
  (.alt 7 (MI.op (some 25) (.bin .xor (.tmp 24) (.c (.int .u8 54))) none)
  (.alt 12 (MI.op (some 30) (.ixSl 1 (.tmp 18) (.tmp 19)) none)
  (.alt 13 (MI.op none (.store 1 (.tmp 30) (.tmp 25)) none)
  (.alt 14 (MI.op (some 31) (.ixSl 1 (.tmp 20) (.tmp 21)) none)
  (.alt 15 (MI.op none (.store 1 (.tmp 31) (.tmp 29)) none)
  .done .stop) .stop) .stop) .stop) .stop) .stop)) .stop)) (.alt 10 (MI.op (some 28) (.load false 1 (.tmp 27)) none)
  (.alt 6 (MI.op (some 24) (.load false 1 (.tmp 23)) none)
  (.alt 7 (MI.op (some 25) (.bin .xor (.tmp 24) (.c (.int .u8 54))) none)
  (.alt 11 (MI.op (some 29) (.bin .xor (.tmp 28) (.c (.int .u8 92))) none)
  (.alt 12 (MI.op (some 30) (.ixSl 1 (.tmp 18) (.tmp 19)) none)
  (.alt 13 (MI.op none (.store 1 (.tmp 30) (.tmp 25)) none)
  (.alt 14 (MI.op (some 31) (.ixSl 1 (.tmp 20) (.tmp 21)) none)
  (.alt 15 (MI.op none (.store 1 (.tmp 31) (.tmp 29)) none)
  .done .stop) .stop) .stop) .stop) (.alt 12 (MI.op (some 30) (.ixSl 1 (.tmp 18) (.tmp 19)) none)
  (.alt 11 (MI.op (some 29) (.bin .xor (.tmp 28) (.c (.int .u8 92))) none)
  (.alt 13 (MI.op none (.store 1 (.tmp 30) (.tmp 25)) none)
  (.alt 14 (MI.op (some 31) (.ixSl 1 (.tmp 20) (.tmp 21)) none)
  (.alt 15 (MI.op none (.store 1 (.tmp 31) (.tmp 29)) none)
  .done .stop) .stop) .stop) (.alt 13 (MI.op none (.store 1 (.tmp 30) (.tmp 25)) none)
  (.alt 11 (MI.op (some 29) (.bin .xor (.tmp 28) (.c (.int .u8 92))) none)
  (.alt 14 (MI.op (some 31) (.ixSl 1 (.tmp 20) (.tmp 21)) none)
  (.alt 15 (MI.op none (.store 1 (.tmp 31) (.tmp 29)) none)
  .done .stop) .stop) .stop) .stop)) .stop)) (.alt 11 (MI.op (some 29) (.bin .xor (.tmp 28) (.c (.int .u8 92))) none)
  (.alt 7 (MI.op (some 25) (.bin .xor (.tmp 24) (.c (.int .u8 54))) none)
  (.alt 12 (MI.op (some 30) (.ixSl 1 (.tmp 18) (.tmp 19)) none)
  (.alt 13 (MI.op none (.store 1 (.tmp 30) (.tmp 25)) none)
  (.alt 14 (MI.op (some 31) (.ixSl 1 (.tmp 20) (.tmp 21)) none)
  (.alt 15 (MI.op none (.store 1 (.tmp 31) (.tmp 29)) none)
  .done .stop) .stop) .stop) .stop) .stop) .stop)) (.alt 11 (MI.op (some 29) (.bin .xor (.tmp 28) (.c (.int .u8 92))) none)
  (.alt 6 (MI.op (some 24) (.load false 1 (.tmp 23)) none)
  (.alt 7 (MI.op (some 25) (.bin .xor (.tmp 24) (.c (.int .u8 54))) none)
  (.alt 12 (MI.op (some 30) (.ixSl 1 (.tmp 18) (.tmp 19)) none)
  (.alt 13 (MI.op none (.store 1 (.tmp 30) (.tmp 25)) none)
  (.alt 14 (MI.op (some 31) (.ixSl 1 (.tmp 20) (.tmp 21)) none)
  (.alt 15 (MI.op none (.store 1 (.tmp 31) (.tmp 29)) none)
  .done .stop) .stop) .stop) .stop) .stop) .stop) .stop)) .stop)) (.alt 10 (MI.op (some 28) (.load false 1 (.tmp 27)) none)
  (.alt 5 (MI.op (some 23) (.ixArr 64 1 (.tmp 5) (.tmp 22)) none)
  (.alt 6 (MI.op (some 24) (.load false 1 (.tmp 23)) none)
  (.alt 7 (MI.op (some 25) (.bin .xor (.tmp 24) (.c (.int .u8 54))) none)
  (.alt 11 (MI.op (some 29) (.bin .xor (.tmp 28) (.c (.int .u8 92))) none)
  (.alt 12 (MI.op (some 30) (.ixSl 1 (.tmp 18) (.tmp 19)) none)
  (.alt 13 (MI.op none (.store 1 (.tmp 30) (.tmp 25)) none)
  (.alt 14 (MI.op (some 31) (.ixSl 1 (.tmp 20) (.tmp 21)) none)
  (.alt 15 (MI.op none (.store 1 (.tmp 31) (.tmp 29)) none)
  .done .stop) .stop) .stop) .stop) (.alt 12 (MI.op (some 30) (.ixSl 1 (.tmp 18) (.tmp 19)) none)
  (.alt 11 (MI.op (some 29) (.bin .xor (.tmp 28) (.c (.int .u8 92))) none)
  (.alt 13 (MI.op none (.store 1 (.tmp 30) (.tmp 25)) none)
  (.alt 14 (MI.op (some 31) (.ixSl 1 (.tmp 20) (.tmp 21)) none)
  (.alt 15 (MI.op none (.store 1 (.tmp 31) (.tmp 29)) none)
  .done .stop) .stop) .stop) (.alt 13 (MI.op none (.store 1 (.tmp 30) (.tmp 25)) none)
  (.alt 11 (MI.op (some 29) (.bin .xor (.tmp 28) (.c (.int .u8 92))) none)
  (.alt 14 (MI.op (some 31) (.ixSl 1 (.tmp 20) (.tmp 21)) none)
  (.alt 15 (MI.op none (.store 1 (.tmp 31) (.tmp 29)) none)
  .done .stop) .stop) .stop) .stop)) .stop)) (.alt 11 (MI.op (some 29) (.bin .xor (.tmp 28) (.c (.int .u8 92))) none)
  (.alt 7 (MI.op (some 25) (.bin .xor (.tmp 24) (.c (.int .u8 54))) none)
  (.alt 12 (MI.op (some 30) (.ixSl 1 (.tmp 18) (.tmp 19)) none)
  (.alt 13 (MI.op none (.store 1 (.tmp 30) (.tmp 25)) none)
  (.alt 14 (MI.op (some 31) (.ixSl 1 (.tmp 20) (.tmp 21)) none)
  (.alt 15 (MI.op none (.store 1 (.tmp 31) (.tmp 29)) none)
  .done .stop) .stop) .stop) .stop) .stop) .stop)) (.alt 11 (MI.op (some 29) (.bin .xor (.tmp 28) (.c (.int .u8 92))) none)
  (.alt 6 (MI.op (some 24) (.load false 1 (.tmp 23)) none)
  (.alt 7 (MI.op (some 25) (.bin .xor (.tmp 24) (.c (.int .u8 54))) none)
  (.alt 12 (MI.op (some 30) (.ixSl 1 (.tmp 18) (.tmp 19)) none)
  (.alt 13 (MI.op none (.store 1 (.tmp 30) (.tmp 25)) none)
  (.alt 14 (MI.op (some 31) (.ixSl 1 (.tmp 20) (.tmp 21)) none)
  (.alt 15 (MI.op none (.store 1 (.tmp 31) (.tmp 29)) none)
  .done .stop) .stop) .stop) .stop) .stop) .stop) .stop)) (.alt 11 (MI.op (some 29) (.bin .xor (.tmp 28) (.c (.int .u8 92))) none)
  (.alt 5 (MI.op (some 23) (.ixArr 64 1 (.tmp 5) (.tmp 22)) none)
  (.alt 6 (MI.op (some 24) (.load false 1 (.tmp 23)) none)
  (.alt 7 (MI.op (some 25) (.bin .xor (.tmp 24) (.c (.int .u8 54))) none)
  (.alt 12 (MI.op (some 30) (.ixSl 1 (.tmp 18) (.tmp 19)) none)
  (.alt 13 (MI.op none (.store 1 (.tmp 30) (.tmp 25)) none)
  (.alt 14 (MI.op (some 31) (.ixSl 1 (.tmp 20) (.tmp 21)) none)
  (.alt 15 (MI.op none (.store 1 (.tmp 31) (.tmp 29)) none)
  .done .stop) .stop) .stop) .stop) .stop) .stop) .stop) .stop)) .stop)) .stop))))))))))
  (.reg
   [MI.op (some 16) (.mov (.tmp 8)) none,
    MI.op (some 17) (.bin .add (.tmp 16) (.c (.int .i64 1))) none,
    MI.op (some 8) (.mov (.tmp 17)) none]))
def m17_3 : MCode :=
 (.seq
  (.seq
   (.reg
    [MI.op (some 14) (.mov (.tmp 8)) none,
     MI.op (some 15) (.bin .lss (.tmp 14) (.c (.int .i64 64))) none])
   (.cond (.tmp 15)
    .skip
    (.exit 0)))
  m17_2)
def m17_4 : MCode :=
 (.blk 0
  (.loop
  m17_3))
def m17_5 : List MI :=
 [MI.op (some 9) (.alloc (List.replicate 32 (.int .u8 0))) none,
  MI.op none (.store 32 (.tmp 9) (.tmp 36)) none]
def m17_6 : MCode :=
 (.seq
  (.reg
   [MI.op (some 37) (.mov (.tmp 7)) none,
    MI.op (some 38) (.slArr 32 1 (.tmp 9) none none none) none,
    MI.frz 37,
    MI.frz 38,
    MI.op (some 39) (.bsl 2 1 [(.sl .full 0 [])] [(0, 1, (.tmp 37)), (1, 1, (.tmp 38))]) none,
    MI.op (some 40) (.call 32 [(.tmp 39)]) none,
    MI.op none (.store 32 (.tmp 4) (.tmp 40)) none])
  .ret)
def m17_7 : MCode :=
 (.seq
  (.reg
   (MI.op (some 32) (.mov (.tmp 6)) none ::
    MI.frz 32 ::
    MI.op (some 33) (.bsl 1 1 [(.sl .full 0 [])] [(0, 1, (.tmp 32))]) none ::
    MI.op (some 34) (.mov (.tmp 1)) none ::
    MI.op (some 35) (.appP 1 24 (.tmp 33) (.tmp 34)) none ::
    MI.op (some 36) (.call 32 [(.tmp 35)]) none ::
    m17_5))
  m17_6)
def m17_8 : MCode :=
 (.seq
  (.seq
   (.reg
    [MI.op (some 8) (.mov (.c (.int .i64 0))) none])
  m17_4)
  m17_7)
def m17_9 : MCode :=
 (.seq
  (.drw
   [MI.op (some 12) (.mk 1 1 [(.int .u8 0)] (.c (.int .i64 64)) (.c (.int .i64 64))) none,
    MI.op (some 13) (.mk 1 1 [(.int .u8 0)] (.c (.int .i64 64)) (.c (.int .i64 64))) none,
    MI.op (some 6) (.mov (.tmp 12)) none]
   [MI.op (some 7) (.mov (.tmp 13)) none])
  m17_8)
def m17_10 : MCode :=
 (.seq
  (.reg
   (MI.op (some 10) (.mov (.tmp 0)) none ::
    MI.op (some 11) (.call 31 [(.tmp 10)]) none ::
    m17_1))
  m17_9)
def m17_r : List MRes := [.cell 4 true 32]
def m17_b : MCode :=
 (.seq
  (.reg
   [MI.op (some 4) (.alloc (List.replicate 32 (.int .u8 0))) none])
  m17_10)
def m17 : MFunc := ⟨2, 41, m17_r, m17_b⟩
theorem c17 : compF Tryd.prog 17 m17 = some m17 := by kernel_rfl

end Go.Proofs.YtkphojcmjffccaaDoor
