/- The loaded functions as texts of the ideal machine (written by a program of ours), and that they are the loaded ones. -/
import Derived.Test.YtlbilkldjhhopaaE31
import Derived.Test.YtlbilkldjhhopaaProg
set_option linter.unusedSimpArgs false
set_option linter.unusedSectionVars false
set_option linter.unusedVariables false
namespace Go.Proofs.Ytlbilkldjhhopaa
open Go.RowKit

/- tollhouse/mac.pad -/
def m47_1 : MCode :=
 (.reg
  [MI.op (some 9) (.mov (.tmp 5)) none,
   MI.op (some 10) (.ixArr 64 1 (.tmp 2) (.tmp 9)) none,
   MI.op (some 11) (.load false 1 (.tmp 10)) none,
   MI.op (some 12) (.mov (.tmp 1)) none,
   MI.op (some 13) (.bin .xor (.tmp 11) (.tmp 12)) none,
   MI.op (some 14) (.ixArr 64 1 (.tmp 2) (.tmp 9)) none,
   MI.op none (.store 1 (.tmp 14) (.tmp 13)) none])
def m47_2 : MCode :=
 (.seq
  (.blk 1
   (.seq
    (.reg
     [MI.op (some 8) (.mov (.tmp 6)) none,
      MI.op (some 5) (.mov (.tmp 8)) none])
  m47_1))
  (.reg
   [MI.op (some 15) (.bin .add (.tmp 6) (.c (.int .i64 1))) none,
    MI.op (some 6) (.mov (.tmp 15)) none]))
def m47_3 : MCode :=
 (.seq
  (.cond (.tmp 7)
   .skip
   (.exit 0))
  m47_2)
def m47_4 : MCode :=
 (.seq
  (.reg
   [MI.op (some 7) (.bin .lss (.tmp 6) (.c (.int .i64 64))) none])
  m47_3)
def m47_5 : MCode :=
 (.blk 0
  (.loop
  m47_4))
def m47_6 : MCode :=
 (.seq
  (.reg
   [MI.op (some 16) (.slArr 64 1 (.tmp 2) none none none) none,
    MI.frz 16,
    MI.op (some 4) (.mov (.tmp 16)) none])
  .ret)
def m47_7 : MCode :=
 (.seq
  (.seq
   (.reg
    [MI.op (some 6) (.mov (.c (.int .i64 0))) none])
  m47_5)
  m47_6)
def m47_r : List MRes := [.tmp 4]
def m47_b : MCode :=
 (.seq
  (.reg
   [MI.op (some 2) (.box (.tmp 0)) none,
    MI.op (some 4) (.mov (.c (.sl .full 0 []))) none])
  m47_7)
def m47 : MFunc := ⟨2, 17, m47_r, m47_b⟩
theorem c47 : compF Try.prog 47 m47 = some m47 := by kernel_rfl

/- tollhouse/mac.Block -/
def m30_1 : List MI :=
 [MI.op (some 3) (.alloc (List.replicate 32 (.int .u8 0))) none,
  MI.op none (.store 32 (.tmp 3) (.tmp 10)) none]
def m30_2 : MCode :=
 (.seq
  (.reg
   (MI.op (some 8) (.mov (.tmp 0)) none ::
    MI.op (some 9) (.bsl 1 1 [(.sl .full 0 [])] [(0, 1, (.tmp 8))]) none ::
    MI.op (some 10) (.call 17 [(.tmp 9)]) none ::
    m30_1))
  (.reg
   [MI.op (some 11) (.slArr 32 1 (.tmp 3) none none none) none,
    MI.op (some 0) (.mov (.tmp 11)) none]))
def m30_3 : MCode :=
 (.cond (.tmp 7)
  m30_2
  .skip)
def m30_4 : MCode :=
 (.seq
  (.reg
   [MI.op (some 15) (.load true 64 (.tmp 4)) none,
    MI.op none (.store 64 (.tmp 2) (.tmp 15)) none])
  .ret)
def m30_5 : MCode :=
 (.seq
  (.reg
   [MI.op (some 12) (.slArr 64 1 (.tmp 4) none none none) none,
    MI.op (some 13) (.mov (.tmp 0)) none,
    MI.op (some 14) (.copy 1 (.tmp 12) (.tmp 13)) none])
  m30_4)
def m30_6 : MCode :=
 (.seq
  (.reg
   [MI.op (some 4) (.alloc (List.replicate 64 (.int .u8 0))) none])
  m30_5)
def m30_7 : MCode :=
 (.seq
  (.seq
   (.reg
    [MI.op (some 5) (.mov (.tmp 0)) none,
     MI.op (some 6) (.len (.tmp 5)) none,
     MI.op (some 7) (.bin .gtr (.tmp 6) (.c (.int .i64 64))) none])
  m30_3)
  m30_6)
def m30_r : List MRes := [.cell 2 true 64]
def m30_b : MCode :=
 (.seq
  (.reg
   [MI.op (some 2) (.alloc (List.replicate 64 (.int .u8 0))) none])
  m30_7)
def m30 : MFunc := ⟨1, 16, m30_r, m30_b⟩
theorem c30 : compF Try.prog 30 m30 = some m30 := by kernel_rfl

/- tollhouse/mac.Mac -/
def m28_1 : List MI :=
 [MI.op (some 5) (.alloc (List.replicate 64 (.int .u8 0))) none,
  MI.op none (.store 64 (.tmp 5) (.tmp 8)) none]
def m28_2 : MCode :=
 (.seq
  (.drw
   [MI.op (some 16) (.load true 64 (.tmp 5)) none,
    MI.op (some 17) (.call 47 [(.tmp 16), (.c (.int .u8 92))]) none,
    MI.op (some 18) (.slArr 32 1 (.tmp 6) none none none) none]
   [MI.frz 18,
    MI.op (some 19) (.bsl 2 1 [(.sl .full 0 [])] [(0, 1, (.tmp 17)), (1, 1, (.tmp 18))]) none,
    MI.op (some 20) (.call 17 [(.tmp 19)]) none,
    MI.op none (.store 32 (.tmp 4) (.tmp 20)) none])
  .ret)
def m28_3 : MCode :=
 (.seq
  (.dra
   (.take 0 (MI.op (some 9) (.mov (.tmp 1)) none)
  (.alt 1 (MI.op (some 10) (.call 46 [(.tmp 9)]) none)
  (.alt 2 (MI.op (some 11) (.load true 64 (.tmp 5)) none)
  (.alt 3 (MI.op (some 12) (.call 47 [(.tmp 11), (.c (.int .u8 54))]) none)
  (.alt 4 (MI.op (some 13) (.bsl 1 1 [(.sl .full 0 [])] [(0, 1, (.tmp 12))]) none)
  (.alt 5 (MI.op (some 14) (.calln 45 [(.tmp 10), (.c (.int .i64 0)), (.tmp 13)]) none)
  (.alt 6 (MI.op (some 15) (.call 17 [(.tmp 14)]) none)
  (.alt 7 (MI.op (some 6) (.alloc (List.replicate 32 (.int .u8 0))) none)
  (.alt 8 (MI.op none (.store 32 (.tmp 6) (.tmp 15)) none)
  .done .stop) .stop) (.alt 7 (MI.op (some 6) (.alloc (List.replicate 32 (.int .u8 0))) none)
  (.alt 6 (MI.op (some 15) (.call 17 [(.tmp 14)]) none)
  (.alt 8 (MI.op none (.store 32 (.tmp 6) (.tmp 15)) none)
  .done .stop) .stop) .stop)) (.alt 7 (MI.op (some 6) (.alloc (List.replicate 32 (.int .u8 0))) none)
  (.alt 5 (MI.op (some 14) (.calln 45 [(.tmp 10), (.c (.int .i64 0)), (.tmp 13)]) none)
  (.alt 6 (MI.op (some 15) (.call 17 [(.tmp 14)]) none)
  (.alt 8 (MI.op none (.store 32 (.tmp 6) (.tmp 15)) none)
  .done .stop) .stop) .stop) .stop)) (.alt 7 (MI.op (some 6) (.alloc (List.replicate 32 (.int .u8 0))) none)
  (.alt 4 (MI.op (some 13) (.bsl 1 1 [(.sl .full 0 [])] [(0, 1, (.tmp 12))]) none)
  (.alt 5 (MI.op (some 14) (.calln 45 [(.tmp 10), (.c (.int .i64 0)), (.tmp 13)]) none)
  (.alt 6 (MI.op (some 15) (.call 17 [(.tmp 14)]) none)
  (.alt 8 (MI.op none (.store 32 (.tmp 6) (.tmp 15)) none)
  .done .stop) .stop) .stop) .stop) .stop)) (.alt 7 (MI.op (some 6) (.alloc (List.replicate 32 (.int .u8 0))) none)
  (.alt 3 (MI.op (some 12) (.call 47 [(.tmp 11), (.c (.int .u8 54))]) none)
  (.alt 4 (MI.op (some 13) (.bsl 1 1 [(.sl .full 0 [])] [(0, 1, (.tmp 12))]) none)
  (.alt 5 (MI.op (some 14) (.calln 45 [(.tmp 10), (.c (.int .i64 0)), (.tmp 13)]) none)
  (.alt 6 (MI.op (some 15) (.call 17 [(.tmp 14)]) none)
  (.alt 8 (MI.op none (.store 32 (.tmp 6) (.tmp 15)) none)
  .done .stop) .stop) .stop) .stop) .stop) .stop)) (.alt 7 (MI.op (some 6) (.alloc (List.replicate 32 (.int .u8 0))) none)
  (.alt 2 (MI.op (some 11) (.load true 64 (.tmp 5)) none)
  (.alt 3 (MI.op (some 12) (.call 47 [(.tmp 11), (.c (.int .u8 54))]) none)
  (.alt 4 (MI.op (some 13) (.bsl 1 1 [(.sl .full 0 [])] [(0, 1, (.tmp 12))]) none)
  (.alt 5 (MI.op (some 14) (.calln 45 [(.tmp 10), (.c (.int .i64 0)), (.tmp 13)]) none)
  (.alt 6 (MI.op (some 15) (.call 17 [(.tmp 14)]) none)
  (.alt 8 (MI.op none (.store 32 (.tmp 6) (.tmp 15)) none)
  .done .stop) .stop) .stop) .stop) .stop) .stop) .stop)) (.alt 2 (MI.op (some 11) (.load true 64 (.tmp 5)) none)
  (.alt 1 (MI.op (some 10) (.call 46 [(.tmp 9)]) none)
  (.alt 3 (MI.op (some 12) (.call 47 [(.tmp 11), (.c (.int .u8 54))]) none)
  (.alt 4 (MI.op (some 13) (.bsl 1 1 [(.sl .full 0 [])] [(0, 1, (.tmp 12))]) none)
  (.alt 5 (MI.op (some 14) (.calln 45 [(.tmp 10), (.c (.int .i64 0)), (.tmp 13)]) none)
  (.alt 6 (MI.op (some 15) (.call 17 [(.tmp 14)]) none)
  (.alt 7 (MI.op (some 6) (.alloc (List.replicate 32 (.int .u8 0))) none)
  (.alt 8 (MI.op none (.store 32 (.tmp 6) (.tmp 15)) none)
  .done .stop) .stop) (.alt 7 (MI.op (some 6) (.alloc (List.replicate 32 (.int .u8 0))) none)
  (.alt 6 (MI.op (some 15) (.call 17 [(.tmp 14)]) none)
  (.alt 8 (MI.op none (.store 32 (.tmp 6) (.tmp 15)) none)
  .done .stop) .stop) .stop)) (.alt 7 (MI.op (some 6) (.alloc (List.replicate 32 (.int .u8 0))) none)
  (.alt 5 (MI.op (some 14) (.calln 45 [(.tmp 10), (.c (.int .i64 0)), (.tmp 13)]) none)
  (.alt 6 (MI.op (some 15) (.call 17 [(.tmp 14)]) none)
  (.alt 8 (MI.op none (.store 32 (.tmp 6) (.tmp 15)) none)
  .done .stop) .stop) .stop) .stop)) (.alt 7 (MI.op (some 6) (.alloc (List.replicate 32 (.int .u8 0))) none)
  (.alt 4 (MI.op (some 13) (.bsl 1 1 [(.sl .full 0 [])] [(0, 1, (.tmp 12))]) none)
  (.alt 5 (MI.op (some 14) (.calln 45 [(.tmp 10), (.c (.int .i64 0)), (.tmp 13)]) none)
  (.alt 6 (MI.op (some 15) (.call 17 [(.tmp 14)]) none)
  (.alt 8 (MI.op none (.store 32 (.tmp 6) (.tmp 15)) none)
  .done .stop) .stop) .stop) .stop) .stop)) (.alt 7 (MI.op (some 6) (.alloc (List.replicate 32 (.int .u8 0))) none)
  (.alt 3 (MI.op (some 12) (.call 47 [(.tmp 11), (.c (.int .u8 54))]) none)
  (.alt 4 (MI.op (some 13) (.bsl 1 1 [(.sl .full 0 [])] [(0, 1, (.tmp 12))]) none)
  (.alt 5 (MI.op (some 14) (.calln 45 [(.tmp 10), (.c (.int .i64 0)), (.tmp 13)]) none)
  (.alt 6 (MI.op (some 15) (.call 17 [(.tmp 14)]) none)
  (.alt 8 (MI.op none (.store 32 (.tmp 6) (.tmp 15)) none)
  .done .stop) .stop) .stop) .stop) .stop) .stop)) (.alt 7 (MI.op (some 6) (.alloc (List.replicate 32 (.int .u8 0))) none)
  (.alt 1 (MI.op (some 10) (.call 46 [(.tmp 9)]) none)
  (.alt 3 (MI.op (some 12) (.call 47 [(.tmp 11), (.c (.int .u8 54))]) none)
  (.alt 4 (MI.op (some 13) (.bsl 1 1 [(.sl .full 0 [])] [(0, 1, (.tmp 12))]) none)
  (.alt 5 (MI.op (some 14) (.calln 45 [(.tmp 10), (.c (.int .i64 0)), (.tmp 13)]) none)
  (.alt 6 (MI.op (some 15) (.call 17 [(.tmp 14)]) none)
  (.alt 8 (MI.op none (.store 32 (.tmp 6) (.tmp 15)) none)
  .done .stop) .stop) .stop) .stop) .stop) .stop) .stop)) (.alt 7 (MI.op (some 6) (.alloc (List.replicate 32 (.int .u8 0))) none)
  (.alt 1 (MI.op (some 10) (.call 46 [(.tmp 9)]) none)
  (.alt 2 (MI.op (some 11) (.load true 64 (.tmp 5)) none)
  (.alt 3 (MI.op (some 12) (.call 47 [(.tmp 11), (.c (.int .u8 54))]) none)
  (.alt 4 (MI.op (some 13) (.bsl 1 1 [(.sl .full 0 [])] [(0, 1, (.tmp 12))]) none)
  (.alt 5 (MI.op (some 14) (.calln 45 [(.tmp 10), (.c (.int .i64 0)), (.tmp 13)]) none)
  (.alt 6 (MI.op (some 15) (.call 17 [(.tmp 14)]) none)
  (.alt 8 (MI.op none (.store 32 (.tmp 6) (.tmp 15)) none)
  .done .stop) .stop) .stop) .stop) .stop) .stop) (.alt 2 (MI.op (some 11) (.load true 64 (.tmp 5)) none)
  (.alt 1 (MI.op (some 10) (.call 46 [(.tmp 9)]) none)
  (.alt 3 (MI.op (some 12) (.call 47 [(.tmp 11), (.c (.int .u8 54))]) none)
  (.alt 4 (MI.op (some 13) (.bsl 1 1 [(.sl .full 0 [])] [(0, 1, (.tmp 12))]) none)
  (.alt 5 (MI.op (some 14) (.calln 45 [(.tmp 10), (.c (.int .i64 0)), (.tmp 13)]) none)
  (.alt 6 (MI.op (some 15) (.call 17 [(.tmp 14)]) none)
  (.alt 8 (MI.op none (.store 32 (.tmp 6) (.tmp 15)) none)
  .done .stop) .stop) .stop) .stop) .stop) .stop) .stop)) .stop)))))
  m28_2)
def m28_4 : MCode :=
 (.seq
  (.reg
   (MI.op (some 7) (.mov (.tmp 0)) none ::
    MI.op (some 8) (.call 30 [(.tmp 7)]) none ::
    m28_1))
  m28_3)
def m28_r : List MRes := [.cell 4 true 32]
def m28_b : MCode :=
 (.seq
  (.reg
   [MI.op (some 4) (.alloc (List.replicate 32 (.int .u8 0))) none])
  m28_4)
def m28 : MFunc := ⟨2, 21, m28_r, m28_b⟩
theorem c28 : compF Try.prog 28 m28 = some m28 := by kernel_rfl

/- tollhouse/tollhouseref02.Block -/
def m31_1 : List MI :=
 [MI.op (some 4) (.alloc (List.replicate 32 (.int .u8 0))) none,
  MI.op none (.store 32 (.tmp 4) (.tmp 10)) none]
def m31_2 : MCode :=
 (.seq
  (.reg
   [MI.op (some 14) (.load true 64 (.tmp 3)) none,
    MI.op none (.store 64 (.tmp 2) (.tmp 14)) none])
  .ret)
def m31_3 : MCode :=
 (.seq
  (.drw
   [MI.op (some 11) (.slArr 64 1 (.tmp 3) none none none) none,
    MI.op (some 12) (.slArr 32 1 (.tmp 4) none none none) none]
   [MI.op (some 13) (.copy 1 (.tmp 11) (.tmp 12)) none])
  m31_2)
def m31_4 : MCode :=
 (.seq
  (.reg
   (MI.op (some 8) (.mov (.tmp 0)) none ::
    MI.op (some 9) (.bsl 1 1 [(.sl .full 0 [])] [(0, 1, (.tmp 8))]) none ::
    MI.op (some 10) (.call 19 [(.tmp 9)]) none ::
    m31_1))
  m31_3)
def m31_5 : MCode :=
 (.cond (.tmp 7)
  m31_4
  .skip)
def m31_6 : MCode :=
 (.seq
  (.reg
   [MI.op (some 18) (.load true 64 (.tmp 3)) none,
    MI.op none (.store 64 (.tmp 2) (.tmp 18)) none])
  .ret)
def m31_7 : MCode :=
 (.seq
  (.reg
   [MI.op (some 15) (.slArr 64 1 (.tmp 3) none none none) none,
    MI.op (some 16) (.mov (.tmp 0)) none,
    MI.op (some 17) (.copy 1 (.tmp 15) (.tmp 16)) none])
  m31_6)
def m31_8 : MCode :=
 (.seq
  (.seq
   (.reg
    [MI.op (some 5) (.mov (.tmp 0)) none,
     MI.op (some 6) (.len (.tmp 5)) none,
     MI.op (some 7) (.bin .gtr (.tmp 6) (.c (.int .i64 64))) none])
  m31_5)
  m31_7)
def m31_9 : MCode :=
 (.seq
  (.reg
   [MI.op (some 3) (.alloc (List.replicate 64 (.int .u8 0))) none])
  m31_8)
def m31_r : List MRes := [.cell 2 true 64]
def m31_b : MCode :=
 (.seq
  (.reg
   [MI.op (some 2) (.alloc (List.replicate 64 (.int .u8 0))) none])
  m31_9)
def m31 : MFunc := ⟨1, 19, m31_r, m31_b⟩
theorem c31 : compF Try.prog 31 m31 = some m31 := by kernel_rfl

/- tollhouse/tollhouseref02.Mac -/
def m29_1 : List MI :=
 [MI.op (some 5) (.alloc (List.replicate 64 (.int .u8 0))) none,
  MI.op none (.store 64 (.tmp 5) (.tmp 11)) none]
def m29_2 : MCode :=
 (.seq
  (.blk 1
   (.dra
    (.take 0 (MI.op (some 18) (.mov (.tmp 6)) none)
  (.take 1 (MI.op (some 19) (.mov (.tmp 8)) none)
  (.take 2 (MI.op (some 20) (.mov (.tmp 7)) none)
  (.take 3 (MI.op (some 21) (.mov (.tmp 8)) none)
  (.take 4 (MI.op (some 22) (.mov (.tmp 8)) none)
  (.take 8 (MI.op (some 26) (.mov (.tmp 8)) none)
  (.alt 5 (MI.op (some 23) (.ixArr 64 1 (.tmp 5) (.tmp 22)) none)
  (.alt 6 (MI.op (some 24) (.load false 1 (.tmp 23)) none)
  (.alt 7 (MI.op (some 25) (.bin .xor (.tmp 24) (.c (.int .u8 54))) none)
  (.alt 9 (MI.op (some 27) (.ixArr 64 1 (.tmp 5) (.tmp 26)) none)
  (.alt 10 (MI.op (some 28) (.load false 1 (.tmp 27)) none)
  (.alt 11 (MI.op (some 29) (.bin .xor (.tmp 28) (.c (.int .u8 92))) none)
  (.alt 12 (MI.op (some 30) (.ixSl 1 (.tmp 18) (.tmp 19)) none)
  (.alt 13 (MI.op none (.store 1 (.tmp 30) (.tmp 25)) none)
  (.alt 14 (MI.op (some 31) (.ixSl 1 (.tmp 20) (.tmp 21)) none)
  (.alt 15 (MI.op none (.store 1 (.tmp 31) (.tmp 29)) none)
  .done .stop) .stop) .stop) .stop) (.alt 12 (MI.op (some 30) (.ixSl 1 (.tmp 18) (.tmp 19)) none)
  (.alt 11 (MI.op (some 29) (.bin .xor (.tmp 28) (.c (.int .u8 92))) none)
  (.alt 13 (MI.op none (.store 1 (.tmp 30) (.tmp 25)) none)
  (.alt 14 (MI.op (some 31) (.ixSl 1 (.tmp 20) (.tmp 21)) none)
  (.alt 15 (MI.op none (.store 1 (.tmp 31) (.tmp 29)) none)
  .done .stop) .stop) .stop) (.alt 13 (MI.op none (.store 1 (.tmp 30) (.tmp 25)) none)
  (.alt 11 (MI.op (some 29) (.bin .xor (.tmp 28) (.c (.int .u8 92))) none)
  (.alt 14 (MI.op (some 31) (.ixSl 1 (.tmp 20) (.tmp 21)) none)
  (.alt 15 (MI.op none (.store 1 (.tmp 31) (.tmp 29)) none)
  .done .stop) .stop) .stop) .stop)) .stop)) (.alt 12 (MI.op (some 30) (.ixSl 1 (.tmp 18) (.tmp 19)) none)
  (.alt 10 (MI.op (some 28) (.load false 1 (.tmp 27)) none)
  (.alt 11 (MI.op (some 29) (.bin .xor (.tmp 28) (.c (.int .u8 92))) none)
  (.alt 13 (MI.op none (.store 1 (.tmp 30) (.tmp 25)) none)
  (.alt 14 (MI.op (some 31) (.ixSl 1 (.tmp 20) (.tmp 21)) none)
  (.alt 15 (MI.op none (.store 1 (.tmp 31) (.tmp 29)) none)
  .done .stop) .stop) .stop) (.alt 13 (MI.op none (.store 1 (.tmp 30) (.tmp 25)) none)
  (.alt 11 (MI.op (some 29) (.bin .xor (.tmp 28) (.c (.int .u8 92))) none)
  (.alt 14 (MI.op (some 31) (.ixSl 1 (.tmp 20) (.tmp 21)) none)
  (.alt 15 (MI.op none (.store 1 (.tmp 31) (.tmp 29)) none)
  .done .stop) .stop) .stop) .stop)) (.alt 13 (MI.op none (.store 1 (.tmp 30) (.tmp 25)) none)
  (.alt 10 (MI.op (some 28) (.load false 1 (.tmp 27)) none)
  (.alt 11 (MI.op (some 29) (.bin .xor (.tmp 28) (.c (.int .u8 92))) none)
  (.alt 14 (MI.op (some 31) (.ixSl 1 (.tmp 20) (.tmp 21)) none)
  (.alt 15 (MI.op none (.store 1 (.tmp 31) (.tmp 29)) none)
  .done .stop) .stop) .stop) .stop) .stop)) .stop)) (.alt 12 (MI.op (some 30) (.ixSl 1 (.tmp 18) (.tmp 19)) none)
  (.alt 9 (MI.op (some 27) (.ixArr 64 1 (.tmp 5) (.tmp 26)) none)
  (.alt 10 (MI.op (some 28) (.load false 1 (.tmp 27)) none)
  (.alt 11 (MI.op (some 29) (.bin .xor (.tmp 28) (.c (.int .u8 92))) none)
  (.alt 13 (MI.op none (.store 1 (.tmp 30) (.tmp 25)) none)
  (.alt 14 (MI.op (some 31) (.ixSl 1 (.tmp 20) (.tmp 21)) none)
  (.alt 15 (MI.op none (.store 1 (.tmp 31) (.tmp 29)) none)
  .done .stop) .stop) .stop) (.alt 13 (MI.op none (.store 1 (.tmp 30) (.tmp 25)) none)
  (.alt 11 (MI.op (some 29) (.bin .xor (.tmp 28) (.c (.int .u8 92))) none)
  (.alt 14 (MI.op (some 31) (.ixSl 1 (.tmp 20) (.tmp 21)) none)
  (.alt 15 (MI.op none (.store 1 (.tmp 31) (.tmp 29)) none)
  .done .stop) .stop) .stop) .stop)) (.alt 13 (MI.op none (.store 1 (.tmp 30) (.tmp 25)) none)
  (.alt 10 (MI.op (some 28) (.load false 1 (.tmp 27)) none)
  (.alt 11 (MI.op (some 29) (.bin .xor (.tmp 28) (.c (.int .u8 92))) none)
  (.alt 14 (MI.op (some 31) (.ixSl 1 (.tmp 20) (.tmp 21)) none)
  (.alt 15 (MI.op none (.store 1 (.tmp 31) (.tmp 29)) none)
  .done .stop) .stop) .stop) .stop) .stop)) (.alt 13 (MI.op none (.store 1 (.tmp 30) (.tmp 25)) none)
  (.alt 9 (MI.op (some 27) (.ixArr 64 1 (.tmp 5) (.tmp 26)) none)
  (.alt 10 (MI.op (some 28) (.load false 1 (.tmp 27)) none)
  (.alt 11 (MI.op (some 29) (.bin .xor (.tmp 28) (.c (.int .u8 92))) none)
  (.alt 14 (MI.op (some 31) (.ixSl 1 (.tmp 20) (.tmp 21)) none)
  (.alt 15 (MI.op none (.store 1 (.tmp 31) (.tmp 29)) none)
  .done .stop) .stop) .stop) .stop) .stop) .stop)) .stop)) (.alt 9 (MI.op (some 27) (.ixArr 64 1 (.tmp 5) (.tmp 26)) none)
  (.alt 7 (MI.op (some 25) (.bin .xor (.tmp 24) (.c (.int .u8 54))) none)
  (.alt 10 (MI.op (some 28) (.load false 1 (.tmp 27)) none)
  (.alt 11 (MI.op (some 29) (.bin .xor (.tmp 28) (.c (.int .u8 92))) none)
  (.alt 12 (MI.op (some 30) (.ixSl 1 (.tmp 18) (.tmp 19)) none)
  (.alt 13 (MI.op none (.store 1 (.tmp 30) (.tmp 25)) none)
  (.alt 14 (MI.op (some 31) (.ixSl 1 (.tmp 20) (.tmp 21)) none)
  (.alt 15 (MI.op none (.store 1 (.tmp 31) (.tmp 29)) none)
  .done .stop) .stop) .stop) .stop) (.alt 12 (MI.op (some 30) (.ixSl 1 (.tmp 18) (.tmp 19)) none)
  (.alt 11 (MI.op (some 29) (.bin .xor (.tmp 28) (.c (.int .u8 92))) none)
  (.alt 13 (MI.op none (.store 1 (.tmp 30) (.tmp 25)) none)
  (.alt 14 (MI.op (some 31) (.ixSl 1 (.tmp 20) (.tmp 21)) none)
  (.alt 15 (MI.op none (.store 1 (.tmp 31) (.tmp 29)) none)
  .done .stop) .stop) .stop) (.alt 13 (MI.op none (.store 1 (.tmp 30) (.tmp 25)) none)
  (.alt 11 (MI.op (some 29) (.bin .xor (.tmp 28) (.c (.int .u8 92))) none)
  (.alt 14 (MI.op (some 31) (.ixSl 1 (.tmp 20) (.tmp 21)) none)
  (.alt 15 (MI.op none (.store 1 (.tmp 31) (.tmp 29)) none)
  .done .stop) .stop) .stop) .stop)) .stop)) (.alt 12 (MI.op (some 30) (.ixSl 1 (.tmp 18) (.tmp 19)) none)
  (.alt 10 (MI.op (some 28) (.load false 1 (.tmp 27)) none)
  (.alt 11 (MI.op (some 29) (.bin .xor (.tmp 28) (.c (.int .u8 92))) none)
  (.alt 13 (MI.op none (.store 1 (.tmp 30) (.tmp 25)) none)
  (.alt 14 (MI.op (some 31) (.ixSl 1 (.tmp 20) (.tmp 21)) none)
  (.alt 15 (MI.op none (.store 1 (.tmp 31) (.tmp 29)) none)
  .done .stop) .stop) .stop) (.alt 13 (MI.op none (.store 1 (.tmp 30) (.tmp 25)) none)
  (.alt 11 (MI.op (some 29) (.bin .xor (.tmp 28) (.c (.int .u8 92))) none)
  (.alt 14 (MI.op (some 31) (.ixSl 1 (.tmp 20) (.tmp 21)) none)
  (.alt 15 (MI.op none (.store 1 (.tmp 31) (.tmp 29)) none)
  .done .stop) .stop) .stop) .stop)) (.alt 13 (MI.op none (.store 1 (.tmp 30) (.tmp 25)) none)
  (.alt 10 (MI.op (some 28) (.load false 1 (.tmp 27)) none)
  (.alt 11 (MI.op (some 29) (.bin .xor (.tmp 28) (.c (.int .u8 92))) none)
  (.alt 14 (MI.op (some 31) (.ixSl 1 (.tmp 20) (.tmp 21)) none)
  (.alt 15 (MI.op none (.store 1 (.tmp 31) (.tmp 29)) none)
  .done .stop) .stop) .stop) .stop) .stop)) .stop)) (.alt 10 (MI.op (some 28) (.load false 1 (.tmp 27)) none)
  (.alt 7 (MI.op (some 25) (.bin .xor (.tmp 24) (.c (.int .u8 54))) none)
  (.alt 11 (MI.op (some 29) (.bin .xor (.tmp 28) (.c (.int .u8 92))) none)
  (.alt 12 (MI.op (some 30) (.ixSl 1 (.tmp 18) (.tmp 19)) none)
  (.alt 13 (MI.op none (.store 1 (.tmp 30) (.tmp 25)) none)
  (.alt 14 (MI.op (some 31) (.ixSl 1 (.tmp 20) (.tmp 21)) none)
  (.alt 15 (MI.op none (.store 1 (.tmp 31) (.tmp 29)) none)
  .done .stop) .stop) .stop) .stop) (.alt 12 (MI.op (some 30) (.ixSl 1 (.tmp 18) (.tmp 19)) none)
  (.alt 11 (MI.op (some 29) (.bin .xor (.tmp 28) (.c (.int .u8 92))) none)
  (.alt 13 (MI.op none (.store 1 (.tmp 30) (.tmp 25)) none)
  (.alt 14 (MI.op (some 31) (.ixSl 1 (.tmp 20) (.tmp 21)) none)
  (.alt 15 (MI.op none (.store 1 (.tmp 31) (.tmp 29)) none)
  .done .stop) .stop) .stop) (.alt 13 (MI.op none (.store 1 (.tmp 30) (.tmp 25)) none)
  (.alt 11 (MI.op (some 29) (.bin .xor (.tmp 28) (.c (.int .u8 92))) none)
  (.alt 14 (MI.op (some 31) (.ixSl 1 (.tmp 20) (.tmp 21)) none)
  (.alt 15 (MI.op none (.store 1 (.tmp 31) (.tmp 29)) none)
  .done .stop) .stop) .stop) .stop)) .stop)) (.alt 11 (MI.op (some 29) (.bin .xor (.tmp 28) (.c (.int .u8 92))) none)
  (.alt 7 (MI.op (some 25) (.bin .xor (.tmp 24) (.c (.int .u8 54))) none)
  (.alt 12 (MI.op (some 30) (.ixSl 1 (.tmp 18) (.tmp 19)) none)
  (.alt 13 (MI.op none (.store 1 (.tmp 30) (.tmp 25)) none)
  (.alt 14 (MI.op (some 31) (.ixSl 1 (.tmp 20) (.tmp 21)) none)
  (.alt 15 (MI.op none (.store 1 (.tmp 31) (.tmp 29)) none)
  .done .stop) .stop) .stop) .stop) .stop) .stop)) .stop)) .stop)) (.alt 9 (MI.op (some 27) (.ixArr 64 1 (.tmp 5) (.tmp 26)) none)
  (.alt 6 (MI.op (some 24) (.load false 1 (.tmp 23)) none)
  (.alt 7 (MI.op (some 25) (.bin .xor (.tmp 24) (.c (.int .u8 54))) none)
  (.alt 10 (MI.op (some 28) (.load false 1 (.tmp 27)) none)
  (.alt 11 (MI.op (some 29) (.bin .xor (.tmp 28) (.c (.int .u8 92))) none)
  (.alt 12 (MI.op (some 30) (.ixSl 1 (.tmp 18) (.tmp 19)) none)
  (.alt 13 (MI.op none (.store 1 (.tmp 30) (.tmp 25)) none)
  (.alt 14 (MI.op (some 31) (.ixSl 1 (.tmp 20) (.tmp 21)) none)
  (.alt 15 (MI.op none (.store 1 (.tmp 31) (.tmp 29)) none)
  .done .stop) .stop) .stop) .stop) (.alt 12 (MI.op (some 30) (.ixSl 1 (.tmp 18) (.tmp 19)) none)
  (.alt 11 (MI.op (some 29) (.bin .xor (.tmp 28) (.c (.int .u8 92))) none)
  (.alt 13 (MI.op none (.store 1 (.tmp 30) (.tmp 25)) none)
  (.alt 14 (MI.op (some 31) (.ixSl 1 (.tmp 20) (.tmp 21)) none)
  (.alt 15 (MI.op none (.store 1 (.tmp 31) (.tmp 29)) none)
  .done .stop) .stop) .stop) (.alt 13 (MI.op none (.store 1 (.tmp 30) (.tmp 25)) none)
  (.alt 11 (MI.op (some 29) (.bin .xor (.tmp 28) (.c (.int .u8 92))) none)
  (.alt 14 (MI.op (some 31) (.ixSl 1 (.tmp 20) (.tmp 21)) none)
  (.alt 15 (MI.op none (.store 1 (.tmp 31) (.tmp 29)) none)
  .done .stop) .stop) .stop) .stop)) .stop)) (.alt 12 (MI.op (some 30) (.ixSl 1 (.tmp 18) (.tmp 19)) none)
  (.alt 10 (MI.op (some 28) (.load false 1 (.tmp 27)) none)
  (.alt 11 (MI.op (some 29) (.bin .xor (.tmp 28) (.c (.int .u8 92))) none)
  (.alt 13 (MI.op none (.store 1 (.tmp 30) (.tmp 25)) none)
  (.alt 14 (MI.op (some 31) (.ixSl 1 (.tmp 20) (.tmp 21)) none)
  (.alt 15 (MI.op none (.store 1 (.tmp 31) (.tmp 29)) none)
  .done .stop) .stop) .stop) (.alt 13 (MI.op none (.store 1 (.tmp 30) (.tmp 25)) none)
  (.alt 11 (MI.op (some 29) (.bin .xor (.tmp 28) (.c (.int .u8 92))) none)
  (.alt 14 (MI.op (some 31) (.ixSl 1 (.tmp 20) (.tmp 21)) none)
  (.alt 15 (MI.op none (.store 1 (.tmp 31) (.tmp 29)) none)
  .done .stop) .stop) .stop) .stop)) (.alt 13 (MI.op none (.store 1 (.tmp 30) (.tmp 25)) none)
  (.alt 10 (MI.op (some 28) (.load false 1 (.tmp 27)) none)
  (.alt 11 (MI.op (some 29) (.bin .xor (.tmp 28) (.c (.int .u8 92))) none)
  (.alt 14 (MI.op (some 31) (.ixSl 1 (.tmp 20) (.tmp 21)) none)
  (.alt 15 (MI.op none (.store 1 (.tmp 31) (.tmp 29)) none)
  .done .stop) .stop) .stop) .stop) .stop)) .stop)) (.alt 10 (MI.op (some 28) (.load false 1 (.tmp 27)) none)
  (.alt 7 (MI.op (some 25) (.bin .xor (.tmp 24) (.c (.int .u8 54))) none)
  (.alt 11 (MI.op (some 29) (.bin .xor (.tmp 28) (.c (.int .u8 92))) none)
  (.alt 12 (MI.op (some 30) (.ixSl 1 (.tmp 18) (.tmp 19)) none)
  (.alt 13 (MI.op none (.store 1 (.tmp 30) (.tmp 25)) none)
  (.alt 14 (MI.op (some 31) (.ixSl 1 (.tmp 20) (.tmp 21)) none)
  (.alt 15 (MI.op none (.store 1 (.tmp 31) (.tmp 29)) none)
  .done .stop) .stop) .stop) .stop) (.alt 12 (MI.op (some 30) (.ixSl 1 (.tmp 18) (.tmp 19)) none)
  (.alt 11 (MI.op (some 29) (.bin .xor (.tmp 28) (.c (.int .u8 92))) none)
  (.alt 13 (MI.op none (.store 1 (.tmp 30) (.tmp 25)) none)
  (.alt 14 (MI.op (some 31) (.ixSl 1 (.tmp 20) (.tmp 21)) none)
  (.alt 15 (MI.op none (.store 1 (.tmp 31) (.tmp 29)) none)
  .done .stop) .stop) .stop) (.alt 13 (MI.op none (.store 1 (.tmp 30) (.tmp 25)) none)
  (.alt 11 (MI.op (some 29) (.bin .xor (.tmp 28) (.c (.int .u8 92))) none)
  (.alt 14 (MI.op (some 31) (.ixSl 1 (.tmp 20) (.tmp 21)) none)
  (.alt 15 (MI.op none (.store 1 (.tmp 31) (.tmp 29)) none)
  .done .stop) .stop) .stop) .stop)) .stop)) (.alt 11 (MI.op (some 29) (.bin .xor (.tmp 28) (.c (.int .u8 92))) none)
  (.alt 7 (MI.op (some 25) (.bin .xor (.tmp 24) (.c (.int .u8 54))) none)
  (.alt 12 (MI.op (some 30) (.ixSl 1 (.tmp 18) (.tmp 19)) none)
  (.alt 13 (MI.op none (.store 1 (.tmp 30) (.tmp 25)) none)
  (.alt 14 (MI.op (some 31) (.ixSl 1 (.tmp 20) (.tmp 21)) none)
  (.alt 15 (MI.op none (.store 1 (.tmp 31) (.tmp 29)) none)
  .done .stop) .stop) .stop) .stop) .stop) .stop)) .stop)) (.alt 10 (MI.op (some 28) (.load false 1 (.tmp 27)) none)
  (.alt 6 (MI.op (some 24) (.load false 1 (.tmp 23)) none)
  (.alt 7 (MI.op (some 25) (.bin .xor (.tmp 24) (.c (.int .u8 54))) none)
  (.alt 11 (MI.op (some 29) (.bin .xor (.tmp 28) (.c (.int .u8 92))) none)
  (.alt 12 (MI.op (some 30) (.ixSl 1 (.tmp 18) (.tmp 19)) none)
  (.alt 13 (MI.op none (.store 1 (.tmp 30) (.tmp 25)) none)
  (.alt 14 (MI.op (some 31) (.ixSl 1 (.tmp 20) (.tmp 21)) none)
  (.alt 15 (MI.op none (.store 1 (.tmp 31) (.tmp 29)) none)
  .done .stop) .stop) .stop) .stop) (.alt 12 (MI.op (some 30) (.ixSl 1 (.tmp 18) (.tmp 19)) none)
  (.alt 11 (MI.op (some 29) (.bin .xor (.tmp 28) (.c (.int .u8 92))) none)
  (.alt 13 (MI.op none (.store 1 (.tmp 30) (.tmp 25)) none)
  (.alt 14 (MI.op (some 31) (.ixSl 1 (.tmp 20) (.tmp 21)) none)
  (.alt 15 (MI.op none (.store 1 (.tmp 31) (.tmp 29)) none)
  .done .stop) .stop) .stop) (.alt 13 (MI.op none (.store 1 (.tmp 30) (.tmp 25)) none)
  (.alt 11 (MI.op (some 29) (.bin .xor (.tmp 28) (.c (.int .u8 92))) none)
  (.alt 14 (MI.op (some 31) (.ixSl 1 (.tmp 20) (.tmp 21)) none)
  (.alt 15 (MI.op none (.store 1 (.tmp 31) (.tmp 29)) none)
  .done .stop) .stop) .stop) .stop)) .stop)) (.alt 11 (MI.op (some 29) (.bin .xor (.tmp 28) (.c (.int .u8 92))) none)
  (.alt 7 (MI.op (some 25) (.bin .xor (.tmp 24) (.c (.int .u8 54))) none)
  (.alt 12 (MI.op (some 30) (.ixSl 1 (.tmp 18) (.tmp 19)) none)
  (.alt 13 (MI.op none (.store 1 (.tmp 30) (.tmp 25)) none)
  (.alt 14 (MI.op (some 31) (.ixSl 1 (.tmp 20) (.tmp 21)) none)
  (.alt 15 (MI.op none (.store 1 (.tmp 31) (.tmp 29)) none)
  .done .stop) .stop) .stop) .stop) .stop) .stop)) (.alt 11 (MI.op (some 29) (.bin .xor (.tmp 28) (.c (.int .u8 92))) none)
  (.alt 6 (MI.op (some 24) (.load false 1 (.tmp 23)) none)
  (.alt 7 (MI.op (some 25) (.bin .xor (.tmp 24) (.c (.int .u8 54))) none)
  (.alt 12 (MI.op (some 30) (.ixSl 1 (.tmp 18) (.tmp 19)) none)
  (.alt 13 (MI.op none (.store 1 (.tmp 30) (.tmp 25)) none)
  (.alt 14 (MI.op (some 31) (.ixSl 1 (.tmp 20) (.tmp 21)) none)
  (.alt 15 (MI.op none (.store 1 (.tmp 31) (.tmp 29)) none)
  .done .stop) .stop) .stop) .stop) .stop) .stop) .stop)) .stop)) .stop)) (.alt 9 (MI.op (some 27) (.ixArr 64 1 (.tmp 5) (.tmp 26)) none)
  (.alt 5 (MI.op (some 23) (.ixArr 64 1 (.tmp 5) (.tmp 22)) none)
  (.alt 6 (MI.op (some 24) (.load false 1 (.tmp 23)) none)
  (.alt 7 (MI.op (some 25) (.bin .xor (.tmp 24) (.c (.int .u8 54))) none)
  (.alt 10 (MI.op (some 28) (.load false 1 (.tmp 27)) none)
  (.alt 11 (MI.op (some 29) (.bin .xor (.tmp 28) (.c (.int .u8 92))) none)
  (.alt 12 (MI.op (some 30) (.ixSl 1 (.tmp 18) (.tmp 19)) none)
  (.alt 13 (MI.op none (.store 1 (.tmp 30) (.tmp 25)) none)
  (.alt 14 (MI.op (some 31) (.ixSl 1 (.tmp 20) (.tmp 21)) none)
  (.alt 15 (MI.op none (.store 1 (.tmp 31) (.tmp 29)) none)
  .done .stop) .stop) .stop) .stop) (.alt 12 (MI.op (some 30) (.ixSl 1 (.tmp 18) (.tmp 19)) none)
  (.alt 11 (MI.op (some 29) (.bin .xor (.tmp 28) (.c (.int .u8 92))) none)
  (.alt 13 (MI.op none (.store 1 (.tmp 30) (.tmp 25)) none)
  (.alt 14 (MI.op (some 31) (.ixSl 1 (.tmp 20) (.tmp 21)) none)
  (.alt 15 (MI.op none (.store 1 (.tmp 31) (.tmp 29)) none)
  .done .stop) .stop) .stop) (.alt 13 (MI.op none (.store 1 (.tmp 30) (.tmp 25)) none)
  (.alt 11 (MI.op (some 29) (.bin .xor (.tmp 28) (.c (.int .u8 92))) none)
  (.alt 14 (MI.op (some 31) (.ixSl 1 (.tmp 20) (.tmp 21)) none)
  (.alt 15 (MI.op none (.store 1 (.tmp 31) (.tmp 29)) none)
  .done .stop) .stop) .stop) .stop)) .stop)) (.alt 12 (MI.op (some 30) (.ixSl 1 (.tmp 18) (.tmp 19)) none)
  (.alt 10 (MI.op (some 28) (.load false 1 (.tmp 27)) none)
  (.alt 11 (MI.op (some 29) (.bin .xor (.tmp 28) (.c (.int .u8 92))) none)
  (.alt 13 (MI.op none (.store 1 (.tmp 30) (.tmp 25)) none)
  (.alt 14 (MI.op (some 31) (.ixSl 1 (.tmp 20) (.tmp 21)) none)
  (.alt 15 (MI.op none (.store 1 (.tmp 31) (.tmp 29)) none)
  .done .stop) .stop) .stop) (.alt 13 (MI.op none (.store 1 (.tmp 30) (.tmp 25)) none)
  (.alt 11 (MI.op (some 29) (.bin .xor (.tmp 28) (.c (.int .u8 92))) none)
  (.alt 14 (MI.op (some 31) (.ixSl 1 (.tmp 20) (.tmp 21)) none)
  (.alt 15 (MI.op none (.store 1 (.tmp 31) (.tmp 29)) none)
  .done .stop) .stop) .stop) .stop)) (.alt 13 (MI.op none (.store 1 (.tmp 30) (.tmp 25)) none)
  (.alt 10 (MI.op (some 28) (.load false 1 (.tmp 27)) none)
  (.alt 11 (MI.op (some 29) (.bin .xor (.tmp 28) (.c (.int .u8 92))) none)
  (.alt 14 (MI.op (some 31) (.ixSl 1 (.tmp 20) (.tmp 21)) none)
  (.alt 15 (MI.op none (.store 1 (.tmp 31) (.tmp 29)) none)
  .done .stop) .stop) .stop) .stop) .stop)) .stop)) (.alt 10 (MI.op (some 28) (.load false 1 (.tmp 27)) none)
  (.alt 7 (MI.op (some 25) (.bin .xor (.tmp 24) (.c (.int .u8 54))) none)
  (.alt 11 (MI.op (some 29) (.bin .xor (.tmp 28) (.c (.int .u8 92))) none)
  (.alt 12 (MI.op (some 30) (.ixSl 1 (.tmp 18) (.tmp 19)) none)
  (.alt 13 (MI.op none (.store 1 (.tmp 30) (.tmp 25)) none)
  (.alt 14 (MI.op (some 31) (.ixSl 1 (.tmp 20) (.tmp 21)) none)
  (.alt 15 (MI.op none (.store 1 (.tmp 31) (.tmp 29)) none)
  .done .stop) .stop) .stop) .stop) (.alt 12 (MI.op (some 30) (.ixSl 1 (.tmp 18) (.tmp 19)) none)
  (.alt 11 (MI.op (some 29) (.bin .xor (.tmp 28) (.c (.int .u8 92))) none)
  (.alt 13 (MI.op none (.store 1 (.tmp 30) (.tmp 25)) none)
  (.alt 14 (MI.op (some 31) (.ixSl 1 (.tmp 20) (.tmp 21)) none)
  (.alt 15 (MI.op none (.store 1 (.tmp 31) (.tmp 29)) none)
  .done .stop) .stop) .stop) (.alt 13 (MI.op none (.store 1 (.tmp 30) (.tmp 25)) none)
  (.alt 11 (MI.op (some 29) (.bin .xor (.tmp 28) (.c (.int .u8 92))) none)
  (.alt 14 (MI.op (some 31) (.ixSl 1 (.tmp 20) (.tmp 21)) none)
  (.alt 15 (MI.op none (.store 1 (.tmp 31) (.tmp 29)) none)
  .done .stop) .stop) .stop) .stop)) .stop)) (.alt 11 (MI.op (some 29) (.bin .xor (.tmp 28) (.c (.int .u8 92))) none)
  (.alt 7 (MI.op (some 25) (.bin .xor (.tmp 24) (.c (.int .u8 54))) none)
  (.alt 12 (MI.op (some 30) (.ixSl 1 (.tmp 18) (.tmp 19)) none)
  (.alt 13 (MI.op none (.store 1 (.tmp 30) (.tmp 25)) none)
  (.alt 14 (MI.op (some 31) (.ixSl 1 (.tmp 20) (.tmp 21)) none)
  (.alt 15 (MI.op none (.store 1 (.tmp 31) (.tmp 29)) none)
  .done .stop) .stop) .stop) .stop) .stop) .stop)) .stop)) (.alt 10 (MI.op (some 28) (.load false 1 (.tmp 27)) none)
  (.alt 6 (MI.op (some 24) (.load false 1 (.tmp 23)) none)
  (.alt 7 (MI.op (some 25) (.bin .xor (.tmp 24) (.c (.int .u8 54))) none)
  (.alt 11 (MI.op (some 29) (.bin .xor (.tmp 28) (.c (.int .u8 92))) none)
  (.alt 12 (MI.op (some 30) (.ixSl 1 (.tmp 18) (.tmp 19)) none)
  (.alt 13 (MI.op none (.store 1 (.tmp 30) (.tmp 25)) none)
  (.alt 14 (MI.op (some 31) (.ixSl 1 (.tmp 20) (.tmp 21)) none)
  (.alt 15 (MI.op none (.store 1 (.tmp 31) (.tmp 29)) none)
  .done .stop) .stop) .stop) .stop) (.alt 12 (MI.op (some 30) (.ixSl 1 (.tmp 18) (.tmp 19)) none)
  (.alt 11 (MI.op (some 29) (.bin .xor (.tmp 28) (.c (.int .u8 92))) none)
  (.alt 13 (MI.op none (.store 1 (.tmp 30) (.tmp 25)) none)
  (.alt 14 (MI.op (some 31) (.ixSl 1 (.tmp 20) (.tmp 21)) none)
  (.alt 15 (MI.op none (.store 1 (.tmp 31) (.tmp 29)) none)
  .done .stop) .stop) .stop) (.alt 13 (MI.op none (.store 1 (.tmp 30) (.tmp 25)) none)
  (.alt 11 (MI.op (some 29) (.bin .xor (.tmp 28) (.c (.int .u8 92))) none)
  (.alt 14 (MI.op (some 31) (.ixSl 1 (.tmp 20) (.tmp 21)) none)
  (.alt 15 (MI.op none (.store 1 (.tmp 31) (.tmp 29)) none)
  .done .stop) .stop) .stop) .stop)) .stop)) (.alt 11 (MI.op (some 29) (.bin .xor (.tmp 28) (.c (.int .u8 92))) none)
  (.alt 7 (MI.op (some 25) (.bin .xor (.tmp 24) (.c (.int .u8 54))) none)
  (.alt 12 (MI.op (some 30) (.ixSl 1 (.tmp 18) (.tmp 19)) none)
  (.alt 13 (MI.op none (.store 1 (.tmp 30) (.tmp 25)) none)
  (.alt 14 (MI.op (some 31) (.ixSl 1 (.tmp 20) (.tmp 21)) none)
  (.alt 15 (MI.op none (.store 1 (.tmp 31) (.tmp 29)) none)
  .done .stop) .stop) .stop) .stop) .stop) .stop)) (.alt 11 (MI.op (some 29) (.bin .xor (.tmp 28) (.c (.int .u8 92))) none)
  (.alt 6 (MI.op (some 24) (.load false 1 (.tmp 23)) none)
  (.alt 7 (MI.op (some 25) (.bin .xor (.tmp 24) (.c (.int .u8 54))) none)
  (.alt 12 (MI.op (some 30) (.ixSl 1 (.tmp 18) (.tmp 19)) none)
  (.alt 13 (MI.op none (.store 1 (.tmp 30) (.tmp 25)) none)
  (.alt 14 (MI.op (some 31) (.ixSl 1 (.tmp 20) (.tmp 21)) none)
  (.alt 15 (MI.op none (.store 1 (.tmp 31) (.tmp 29)) none)
  .done .stop) .stop) .stop) .stop) .stop) .stop) .stop)) .stop)) (.alt 10 (MI.op (some 28) (.load false 1 (.tmp 27)) none)
  (.alt 5 (MI.op (some 23) (.ixArr 64 1 (.tmp 5) (.tmp 22)) none)
  (.alt 6 (MI.op (some 24) (.load false 1 (.tmp 23)) none)
  (.alt 7 (MI.op (some 25) (.bin .xor (.tmp 24) (.c (.int .u8 54))) none)
  (.alt 11 (MI.op (some 29) (.bin .xor (.tmp 28) (.c (.int .u8 92))) none)
  (.alt 12 (MI.op (some 30) (.ixSl 1 (.tmp 18) (.tmp 19)) none)
  (.alt 13 (MI.op none (.store 1 (.tmp 30) (.tmp 25)) none)
  (.alt 14 (MI.op (some 31) (.ixSl 1 (.tmp 20) (.tmp 21)) none)
  (.alt 15 (MI.op none (.store 1 (.tmp 31) (.tmp 29)) none)
  .done .stop) .stop) .stop) .stop) (.alt 12 (MI.op (some 30) (.ixSl 1 (.tmp 18) (.tmp 19)) none)
  (.alt 11 (MI.op (some 29) (.bin .xor (.tmp 28) (.c (.int .u8 92))) none)
  (.alt 13 (MI.op none (.store 1 (.tmp 30) (.tmp 25)) none)
  (.alt 14 (MI.op (some 31) (.ixSl 1 (.tmp 20) (.tmp 21)) none)
  (.alt 15 (MI.op none (.store 1 (.tmp 31) (.tmp 29)) none)
  .done .stop) .stop) .stop) (.alt 13 (MI.op none (.store 1 (.tmp 30) (.tmp 25)) none)
  (.alt 11 (MI.op (some 29) (.bin .xor (.tmp 28) (.c (.int .u8 92))) none)
  (.alt 14 (MI.op (some 31) (.ixSl 1 (.tmp 20) (.tmp 21)) none)
  (.alt 15 (MI.op none (.store 1 (.tmp 31) (.tmp 29)) none)
  .done .stop) .stop) .stop) .stop)) .stop)) (.alt 11 (MI.op (some 29) (.bin .xor (.tmp 28) (.c (.int .u8 92))) none)
  (.alt 7 (MI.op (some 25) (.bin .xor (.tmp 24) (.c (.int .u8 54))) none)
  (.alt 12 (MI.op (some 30) (.ixSl 1 (.tmp 18) (.tmp 19)) none)
  (.alt 13 (MI.op none (.store 1 (.tmp 30) (.tmp 25)) none)
  (.alt 14 (MI.op (some 31) (.ixSl 1 (.tmp 20) (.tmp 21)) none)
  (.alt 15 (MI.op none (.store 1 (.tmp 31) (.tmp 29)) none)
  .done .stop) .stop) .stop) .stop) .stop) .stop)) (.alt 11 (MI.op (some 29) (.bin .xor (.tmp 28) (.c (.int .u8 92))) none)
  (.alt 6 (MI.op (some 24) (.load false 1 (.tmp 23)) none)
  (.alt 7 (MI.op (some 25) (.bin .xor (.tmp 24) (.c (.int .u8 54))) none)
  (.alt 12 (MI.op (some 30) (.ixSl 1 (.tmp 18) (.tmp 19)) none)
  (.alt 13 (MI.op none (.store 1 (.tmp 30) (.tmp 25)) none)
  (.alt 14 (MI.op (some 31) (.ixSl 1 (.tmp 20) (.tmp 21)) none)
  (.alt 15 (MI.op none (.store 1 (.tmp 31) (.tmp 29)) none)
  .done .stop) .stop) .stop) .stop) .stop) .stop) .stop)) (.alt 11 (MI.op (some 29) (.bin .xor (.tmp 28) (.c (.int .u8 92))) none)
  (.alt 5 (MI.op (some 23) (.ixArr 64 1 (.tmp 5) (.tmp 22)) none)
  (.alt 6 (MI.op (some 24) (.load false 1 (.tmp 23)) none)
  (.alt 7 (MI.op (some 25) (.bin .xor (.tmp 24) (.c (.int .u8 54))) none)
  (.alt 12 (MI.op (some 30) (.ixSl 1 (.tmp 18) (.tmp 19)) none)
  (.alt 13 (MI.op none (.store 1 (.tmp 30) (.tmp 25)) none)
  (.alt 14 (MI.op (some 31) (.ixSl 1 (.tmp 20) (.tmp 21)) none)
  (.alt 15 (MI.op none (.store 1 (.tmp 31) (.tmp 29)) none)
  .done .stop) .stop) .stop) .stop) .stop) .stop) .stop) .stop)) .stop)) .stop))))))))))
  (.reg
   [MI.op (some 16) (.mov (.tmp 8)) none,
    MI.op (some 17) (.bin .add (.tmp 16) (.c (.int .i64 1))) none,
    MI.op (some 8) (.mov (.tmp 17)) none]))
def m29_3 : MCode :=
 (.seq
  (.seq
   (.reg
    [MI.op (some 14) (.mov (.tmp 8)) none,
     MI.op (some 15) (.bin .lss (.tmp 14) (.c (.int .i64 64))) none])
   (.cond (.tmp 15)
    .skip
    (.exit 0)))
  m29_2)
def m29_4 : MCode :=
 (.blk 0
  (.loop
  m29_3))
def m29_5 : List MI :=
 [MI.op (some 9) (.alloc (List.replicate 32 (.int .u8 0))) none,
  MI.op none (.store 32 (.tmp 9) (.tmp 36)) none]
def m29_6 : MCode :=
 (.seq
  (.reg
   [MI.op (some 37) (.mov (.tmp 7)) none,
    MI.op (some 38) (.slArr 32 1 (.tmp 9) none none none) none,
    MI.frz 37,
    MI.frz 38,
    MI.op (some 39) (.bsl 2 1 [(.sl .full 0 [])] [(0, 1, (.tmp 37)), (1, 1, (.tmp 38))]) none,
    MI.op (some 40) (.call 19 [(.tmp 39)]) none,
    MI.op none (.store 32 (.tmp 4) (.tmp 40)) none])
  .ret)
def m29_7 : MCode :=
 (.seq
  (.reg
   (MI.op (some 32) (.mov (.tmp 6)) none ::
    MI.frz 32 ::
    MI.op (some 33) (.bsl 1 1 [(.sl .full 0 [])] [(0, 1, (.tmp 32))]) none ::
    MI.op (some 34) (.mov (.tmp 1)) none ::
    MI.op (some 35) (.appP 1 24 (.tmp 33) (.tmp 34)) none ::
    MI.op (some 36) (.call 19 [(.tmp 35)]) none ::
    m29_5))
  m29_6)
def m29_8 : MCode :=
 (.seq
  (.seq
   (.reg
    [MI.op (some 8) (.mov (.c (.int .i64 0))) none])
  m29_4)
  m29_7)
def m29_9 : MCode :=
 (.seq
  (.drw
   [MI.op (some 12) (.mk 1 1 [(.int .u8 0)] (.c (.int .i64 64)) (.c (.int .i64 64))) none,
    MI.op (some 13) (.mk 1 1 [(.int .u8 0)] (.c (.int .i64 64)) (.c (.int .i64 64))) none,
    MI.op (some 6) (.mov (.tmp 12)) none]
   [MI.op (some 7) (.mov (.tmp 13)) none])
  m29_8)
def m29_10 : MCode :=
 (.seq
  (.reg
   (MI.op (some 10) (.mov (.tmp 0)) none ::
    MI.op (some 11) (.call 31 [(.tmp 10)]) none ::
    m29_1))
  m29_9)
def m29_r : List MRes := [.cell 4 true 32]
def m29_b : MCode :=
 (.seq
  (.reg
   [MI.op (some 4) (.alloc (List.replicate 32 (.int .u8 0))) none])
  m29_10)
def m29 : MFunc := ⟨2, 41, m29_r, m29_b⟩
theorem c29 : compF Try.prog 29 m29 = some m29 := by kernel_rfl

/- tollhouse/tollhouselaw02.wakes -/
def m27_1 : List MI :=
 [MI.op (some 1) (.alloc (List.replicate 32 (.int .u8 0))) none,
  MI.op none (.store 32 (.tmp 1) (.tmp 9)) none]
def m27_2 : List MI :=
 [MI.op (some 37) (.idx 64 1 false (.tmp 36) (.c (.int .i64 0))) (some (33, true)),
  MI.op (some 38) (.bin .eql (.tmp 37) (.c (.int .u8 107))) (some (33, true)),
  MI.op (some 39) (.pick (.tmp 33) (.tmp 38) (.c (.bool false))) none,
  MI.op (some 0) (.mov (.tmp 39)) none]
def m27_3 : MCode :=
 (.seq
  (.reg
   (MI.op (some 10) (.ixArr 32 1 (.tmp 1) (.c (.int .i64 0))) none ::
    MI.op (some 11) (.load false 1 (.tmp 10)) none ::
    MI.op (some 12) (.bin .eql (.tmp 11) (.c (.int .u8 91))) none ::
    MI.op (some 13) (.mov (.tmp 12)) none ::
    MI.op (some 14) (.ixArr 32 1 (.tmp 1) (.c (.int .i64 1))) (some (13, true)) ::
    MI.op (some 15) (.load false 1 (.tmp 14)) (some (13, true)) ::
    MI.op (some 16) (.bin .eql (.tmp 15) (.c (.int .u8 220))) (some (13, true)) ::
    MI.op (some 17) (.pick (.tmp 13) (.tmp 16) (.c (.bool false))) none ::
    MI.op (some 18) (.mov (.tmp 17)) none ::
    MI.op (some 19) (.ixArr 32 1 (.tmp 1) (.c (.int .i64 2))) (some (18, true)) ::
    MI.op (some 20) (.load false 1 (.tmp 19)) (some (18, true)) ::
    MI.op (some 21) (.bin .eql (.tmp 20) (.c (.int .u8 193))) (some (18, true)) ::
    MI.op (some 22) (.pick (.tmp 18) (.tmp 21) (.c (.bool false))) none ::
    MI.op (some 23) (.mov (.tmp 22)) none ::
    MI.op (some 24) (.ixArr 32 1 (.tmp 1) (.c (.int .i64 3))) (some (23, true)) ::
    MI.op (some 25) (.load false 1 (.tmp 24)) (some (23, true)) ::
    MI.op (some 26) (.bin .eql (.tmp 25) (.c (.int .u8 70))) (some (23, true)) ::
    MI.op (some 27) (.pick (.tmp 23) (.tmp 26) (.c (.bool false))) none ::
    MI.op (some 28) (.mov (.tmp 27)) none ::
    MI.op (some 29) (.ixArr 32 1 (.tmp 1) (.c (.int .i64 31))) (some (28, true)) ::
    MI.op (some 30) (.load false 1 (.tmp 29)) (some (28, true)) ::
    MI.op (some 31) (.bin .eql (.tmp 30) (.c (.int .u8 67))) (some (28, true)) ::
    MI.op (some 32) (.pick (.tmp 28) (.tmp 31) (.c (.bool false))) none ::
    MI.op (some 33) (.mov (.tmp 32)) none ::
    MI.op (some 34) (.bsl 1 1 [(.int .u8 0)] [(0, 1, (.c (.int .u8 107)))]) (some (33, true)) ::
    MI.op (some 35) (.mark (.tmp 34)) (some (33, true)) ::
    MI.op (some 36) (.call 30 [(.tmp 35)]) (some (33, true)) ::
    m27_2))
  .ret)
def m27_4 : MCode :=
 (.seq
  (.reg
   (MI.op (some 2) (.bsl 4 1 [(.int .u8 0)] [(0, 1, (.c (.int .u8 74))), (1, 1, (.c (.int .u8 101))), (2, 1, (.c (.int .u8 102))), (3, 1, (.c (.int .u8 101)))]) none ::
    MI.op (some 3) (.mark (.tmp 2)) none ::
    MI.op (some 4) (.bsl 16 1 [(.int .u8 0)] [(0, 1, (.c (.int .u8 119))), (1, 1, (.c (.int .u8 104))), (2, 1, (.c (.int .u8 97))), (3, 1, (.c (.int .u8 116))), (4, 1, (.c (.int .u8 32))), (5, 1, (.c (.int .u8 100))), (6, 1, (.c (.int .u8 111))), (7, 1, (.c (.int .u8 32))), (8, 1, (.c (.int .u8 121))), (9, 1, (.c (.int .u8 97))), (10, 1, (.c (.int .u8 32))), (11, 1, (.c (.int .u8 119))), (12, 1, (.c (.int .u8 97))), (13, 1, (.c (.int .u8 110))), (14, 1, (.c (.int .u8 116))), (15, 1, (.c (.int .u8 32)))]) none ::
    MI.op (some 5) (.mark (.tmp 4)) none ::
    MI.op (some 6) (.bsl 12 1 [(.int .u8 0)] [(0, 1, (.c (.int .u8 102))), (1, 1, (.c (.int .u8 111))), (2, 1, (.c (.int .u8 114))), (3, 1, (.c (.int .u8 32))), (4, 1, (.c (.int .u8 110))), (5, 1, (.c (.int .u8 111))), (6, 1, (.c (.int .u8 116))), (7, 1, (.c (.int .u8 104))), (8, 1, (.c (.int .u8 105))), (9, 1, (.c (.int .u8 110))), (10, 1, (.c (.int .u8 103))), (11, 1, (.c (.int .u8 63)))]) none ::
    MI.op (some 7) (.mark (.tmp 6)) none ::
    MI.op (some 8) (.bsl 2 1 [(.sl .full 0 [])] [(0, 1, (.tmp 5)), (1, 1, (.tmp 7))]) none ::
    MI.op (some 9) (.call 28 [(.tmp 3), (.tmp 8)]) none ::
    m27_1))
  m27_3)
def m27_r : List MRes := [.tmp 0]
def m27_b : MCode :=
 (.seq
  (.reg
   [MI.op (some 0) (.mov (.c (.bool false))) none])
  m27_4)
def m27 : MFunc := ⟨0, 40, m27_r, m27_b⟩
theorem c27 : compF Try.prog 27 m27 = some m27 := by kernel_rfl

/- tollhouse/tollhouselaw02.MacTags -/
def m7_1 : List MI :=
 [MI.op (some 12) (.un .not (.tmp 11)) (some (9, false)),
  MI.op (some 13) (.pick (.tmp 9) (.c (.bool true)) (.tmp 12)) none]
def m7_2 : MCode :=
 (.seq
  (.reg
   [MI.op (some 14) (.call 27 []) none,
    MI.op (some 4) (.mov (.tmp 14)) none])
  .ret)
def m7_3 : MCode :=
 (.cond (.tmp 13)
  m7_2
  .skip)
def m7_4 : List MI :=
 [MI.op (some 40) (.pick (.tmp 38) (.tmp 39) (.c (.bool false))) none,
  MI.op (some 4) (.mov (.tmp 40)) none]
def m7_5 : List MI :=
 (MI.op (some 37) (.pick (.tmp 33) (.tmp 36) (.c (.bool false))) none ::
  MI.op (some 38) (.mov (.tmp 37)) none ::
  MI.op (some 39) (.call 27 []) (some (38, true)) ::
  m7_4)
def m7_6 : List MI :=
 (MI.op (some 31) (.eqv false [(64, .i)] (.tmp 28) (.tmp 30)) (some (26, true)) ::
  MI.op (some 32) (.pick (.tmp 26) (.tmp 31) (.c (.bool false))) none ::
  MI.op (some 33) (.mov (.tmp 32)) none ::
  MI.op (some 34) (.mov (.tmp 5)) (some (33, true)) ::
  MI.op (some 35) (.mov (.tmp 0)) (some (33, true)) ::
  MI.op (some 36) (.call 18 [(.tmp 34), (.tmp 35)]) (some (33, true)) ::
  m7_5)
def m7_7 : List MI :=
 (MI.op (some 29) (.mov (.tmp 0)) (some (26, true)) ::
  MI.op (some 30) (.call 31 [(.tmp 29)]) (some (26, true)) ::
  m7_6)
def m7_8 : List MI :=
 (MI.op (some 25) (.eqv false [(32, .i)] (.tmp 21) (.tmp 24)) none ::
  MI.op (some 26) (.mov (.tmp 25)) none ::
  MI.op (some 27) (.mov (.tmp 5)) (some (26, true)) ::
  MI.op (some 28) (.call 30 [(.tmp 27)]) (some (26, true)) ::
  m7_7)
def m7_9 : List MI :=
 (MI.op (some 22) (.mov (.tmp 0)) none ::
  MI.op (some 23) (.mov (.tmp 1)) none ::
  MI.op (some 24) (.call 29 [(.tmp 22), (.tmp 23)]) none ::
  m7_8)
def m7_10 : List MI :=
 (MI.op (some 21) (.call 28 [(.tmp 18), (.tmp 20)]) none ::
  m7_9)
def m7_11 : MCode :=
 (.seq
  (.reg
   (MI.op (some 18) (.mov (.tmp 5)) none ::
    MI.op (some 19) (.mov (.tmp 1)) none ::
    MI.op (some 20) (.call 16 [(.tmp 19)]) none ::
    m7_10))
  .ret)
def m7_12 : MCode :=
 (.seq
  (.reg
   [MI.op (some 15) (.bsl 0 1 [(.int .u8 0)] []) none,
    MI.op (some 16) (.mov (.tmp 0)) none,
    MI.op (some 17) (.app 1 1 (.tmp 15) (.tmp 16)) none,
    MI.op (some 5) (.mov (.tmp 17)) none])
  m7_11)
def m7_13 : MCode :=
 (.seq
  (.seq
   (.reg
    (MI.op (some 6) (.mov (.tmp 0)) none ::
     MI.op (some 7) (.len (.tmp 6)) none ::
     MI.op (some 8) (.bin .gtr (.tmp 7) (.c (.int .i64 300))) none ::
     MI.op (some 9) (.mov (.tmp 8)) none ::
     MI.op (some 10) (.mov (.tmp 1)) (some (9, false)) ::
     MI.op (some 11) (.call 14 [(.tmp 10)]) (some (9, false)) ::
     m7_1))
  m7_3)
  m7_12)
def m7_r : List MRes := [.tmp 4]
def m7_b : MCode :=
 (.seq
  (.reg
   [MI.op (some 4) (.mov (.c (.bool false))) none])
  m7_13)
def m7 : MFunc := ⟨2, 41, m7_r, m7_b⟩
theorem c7 : compF Try.prog 7 m7 = some m7 := by kernel_rfl

/- tollhouse/tollhouselaw02.MacKeys -/
def m8_1 : MCode :=
 (.seq
  (.reg
   [MI.op (some 19) (.call 27 []) none,
    MI.op (some 6) (.mov (.tmp 19)) none])
  .ret)
def m8_2 : MCode :=
 (.cond (.tmp 18)
  m8_1
  .skip)
def m8_3 : List MI :=
 [MI.op (some 7) (.alloc (List.replicate 32 (.int .u8 0))) none,
  MI.op none (.store 32 (.tmp 7) (.tmp 23)) none]
def m8_4 : MCode :=
 (.cond (.tmp 41)
  (.seq
   (.reg
    [MI.op (some 6) (.mov (.c (.bool false))) none])
   .ret)
  .skip)
def m8_5 : List MI :=
 [MI.op (some 9) (.alloc (List.replicate 32 (.int .u8 0))) none,
  MI.op none (.store 32 (.tmp 9) (.tmp 47)) none]
def m8_6 : MCode :=
 (.seq
  (.drw
   [MI.op (some 48) (.slArr 32 1 (.tmp 9) none none none) none,
    MI.op (some 49) (.mov (.tmp 1)) none,
    MI.op (some 50) (.bsl 1 1 [(.sl .full 0 [])] [(0, 1, (.tmp 49))]) none,
    MI.op (some 51) (.call 28 [(.tmp 48), (.tmp 50)]) none,
    MI.op (some 52) (.load true 32 (.tmp 7)) none]
   [MI.op (some 53) (.eqv false [(32, .i)] (.tmp 51) (.tmp 52)) none,
    MI.op (some 54) (.mov (.tmp 53)) none,
    MI.op (some 55) (.call 27 []) (some (54, true)),
    MI.op (some 56) (.pick (.tmp 54) (.tmp 55) (.c (.bool false))) none,
    MI.op (some 6) (.mov (.tmp 56)) none])
  .ret)
def m8_7 : MCode :=
 (.seq
  (.reg
   (MI.op (some 45) (.mov (.tmp 0)) none ::
    MI.op (some 46) (.bsl 1 1 [(.sl .full 0 [])] [(0, 1, (.tmp 45))]) none ::
    MI.op (some 47) (.call 17 [(.tmp 46)]) none ::
    m8_5))
  m8_6)
def m8_8 : MCode :=
 (.cond (.tmp 44)
  m8_7
  .skip)
def m8_9 : MCode :=
 (.seq
  (.drw
   [MI.op (some 68) (.mov (.tmp 10)) none,
    MI.op (some 69) (.mov (.tmp 1)) none,
    MI.op (some 70) (.bsl 1 1 [(.sl .full 0 [])] [(0, 1, (.tmp 69))]) none,
    MI.op (some 71) (.call 28 [(.tmp 68), (.tmp 70)]) none,
    MI.op (some 72) (.load true 32 (.tmp 7)) none,
    MI.op (some 73) (.eqv false [(32, .i)] (.tmp 71) (.tmp 72)) none,
    MI.op (some 74) (.mov (.tmp 73)) none,
    MI.op (some 75) (.mov (.tmp 10)) (some (74, true)),
    MI.op (some 76) (.call 30 [(.tmp 75)]) (some (74, true)),
    MI.op (some 77) (.mov (.tmp 0)) (some (74, true))]
   [MI.op (some 78) (.call 30 [(.tmp 77)]) (some (74, true)),
    MI.op (some 79) (.eqv false [(64, .i)] (.tmp 76) (.tmp 78)) (some (74, true)),
    MI.op (some 80) (.pick (.tmp 74) (.tmp 79) (.c (.bool false))) none,
    MI.op (some 81) (.mov (.tmp 80)) none,
    MI.op (some 82) (.call 27 []) (some (81, true)),
    MI.op (some 83) (.pick (.tmp 81) (.tmp 82) (.c (.bool false))) none,
    MI.op (some 6) (.mov (.tmp 83)) none])
  .ret)
def m8_10 : MCode :=
 (.seq
  (.drw
   [MI.op (some 57) (.bsl 0 1 [(.int .u8 0)] []) none,
    MI.op (some 58) (.mov (.tmp 0)) none,
    MI.op (some 59) (.app 1 1 (.tmp 57) (.tmp 58)) none,
    MI.op (some 60) (.ixArr 2 1 (.tmp 5) (.c (.int .i64 1))) none,
    MI.op (some 61) (.load false 1 (.tmp 60)) none,
    MI.op (some 62) (.toInt .i64 (.tmp 61)) none,
    MI.op (some 63) (.mov (.tmp 0)) none,
    MI.op (some 64) (.len (.tmp 63)) none,
    MI.op (some 65) (.bin .sub (.c (.int .i64 65)) (.tmp 64)) none,
    MI.op (some 66) (.bin .rem (.tmp 62) (.tmp 65)) none]
   [MI.op (some 67) (.appZ 1 1 [(.int .u8 0)] (.tmp 59) (.tmp 66)) none,
    MI.op (some 10) (.mov (.tmp 67)) none])
  m8_9)
def m8_11 : MCode :=
 (.seq
  (.seq
   (.reg
    [MI.op (some 42) (.mov (.tmp 0)) none,
     MI.op (some 43) (.len (.tmp 42)) none,
     MI.op (some 44) (.bin .gtr (.tmp 43) (.c (.int .i64 64))) none])
  m8_8)
  m8_10)
def m8_12 : MCode :=
 (.seq
  (.seq
   (.drw
    [MI.op (some 31) (.mov (.tmp 0)) none,
     MI.op (some 32) (.mov (.tmp 1)) none,
     MI.op (some 33) (.mov (.tmp 8)) none,
     MI.op (some 34) (.slSl 1 (.tmp 32) none (some (.tmp 33)) none) none,
     MI.op (some 35) (.mov (.tmp 1)) none,
     MI.op (some 36) (.mov (.tmp 8)) none,
     MI.op (some 37) (.slSl 1 (.tmp 35) (some (.tmp 36)) none none) none,
     MI.op (some 38) (.bsl 2 1 [(.sl .full 0 [])] [(0, 1, (.tmp 34)), (1, 1, (.tmp 37))]) none,
     MI.op (some 39) (.call 28 [(.tmp 31), (.tmp 38)]) none,
     MI.op (some 40) (.load true 32 (.tmp 7)) none]
    [MI.op (some 41) (.eqv true [(32, .i)] (.tmp 39) (.tmp 40)) none])
  m8_4)
  m8_11)
def m8_13 : MCode :=
 (.seq
  (.reg
   [MI.op (some 24) (.ixArr 2 1 (.tmp 5) (.c (.int .i64 0))) none,
    MI.op (some 25) (.load false 1 (.tmp 24)) none,
    MI.op (some 26) (.toInt .i64 (.tmp 25)) none,
    MI.op (some 27) (.mov (.tmp 1)) none,
    MI.op (some 28) (.len (.tmp 27)) none,
    MI.op (some 29) (.bin .add (.tmp 28) (.c (.int .i64 1))) none,
    MI.op (some 30) (.bin .rem (.tmp 26) (.tmp 29)) none,
    MI.op (some 8) (.mov (.tmp 30)) none])
  m8_12)
def m8_14 : MCode :=
 (.seq
  (.reg
   (MI.op (some 20) (.mov (.tmp 0)) none ::
    MI.op (some 21) (.mov (.tmp 1)) none ::
    MI.op (some 22) (.bsl 1 1 [(.sl .full 0 [])] [(0, 1, (.tmp 21))]) none ::
    MI.op (some 23) (.call 28 [(.tmp 20), (.tmp 22)]) none ::
    m8_3))
  m8_13)
def m8_15 : MCode :=
 (.seq
  (.seq
   (.reg
    [MI.op (some 11) (.mov (.tmp 0)) none,
     MI.op (some 12) (.len (.tmp 11)) none,
     MI.op (some 13) (.bin .gtr (.tmp 12) (.c (.int .i64 200))) none,
     MI.op (some 14) (.mov (.tmp 13)) none,
     MI.op (some 15) (.mov (.tmp 1)) (some (14, false)),
     MI.op (some 16) (.len (.tmp 15)) (some (14, false)),
     MI.op (some 17) (.bin .gtr (.tmp 16) (.c (.int .i64 500))) (some (14, false)),
     MI.op (some 18) (.pick (.tmp 14) (.c (.bool true)) (.tmp 17)) none])
  m8_2)
  m8_14)
def m8_r : List MRes := [.tmp 6]
def m8_b : MCode :=
 (.seq
  (.reg
   [MI.op (some 5) (.box (.tmp 2)) none,
    MI.op (some 6) (.mov (.c (.bool false))) none])
  m8_15)
def m8 : MFunc := ⟨3, 84, m8_r, m8_b⟩
theorem c8 : compF Try.prog 8 m8 = some m8 := by kernel_rfl

/- tollhouse/tollhouselaw02.MacMakes -/
def m9_1 : MCode :=
 (.seq
  (.reg
   [MI.op (some 18) (.call 27 []) none,
    MI.op (some 4) (.mov (.tmp 18)) none])
  .ret)
def m9_2 : MCode :=
 (.cond (.tmp 17)
  m9_1
  .skip)
def m9_3 : List MI :=
 [MI.op (some 5) (.alloc (List.replicate 64 (.int .u8 0))) none,
  MI.op none (.store 64 (.tmp 5) (.tmp 20)) none]
def m9_4 : MCode :=
 (.seq
  (.blk 1
   (.dra
    (.take 0 (MI.op (some 25) (.mov (.tmp 8)) none)
  (.take 1 (MI.op (some 26) (.mov (.tmp 8)) none)
  (.take 2 (MI.op (some 27) (.mov (.tmp 8)) none)
  (.take 6 (MI.op (some 31) (.mov (.tmp 8)) none)
  (.alt 3 (MI.op (some 28) (.ixArr 64 1 (.tmp 5) (.tmp 27)) none)
  (.alt 4 (MI.op (some 29) (.load false 1 (.tmp 28)) none)
  (.alt 5 (MI.op (some 30) (.bin .xor (.tmp 29) (.c (.int .u8 54))) none)
  (.alt 7 (MI.op (some 32) (.ixArr 64 1 (.tmp 5) (.tmp 31)) none)
  (.alt 8 (MI.op (some 33) (.load false 1 (.tmp 32)) none)
  (.alt 9 (MI.op (some 34) (.bin .xor (.tmp 33) (.c (.int .u8 92))) none)
  (.alt 10 (MI.op (some 35) (.ixArr 64 1 (.tmp 6) (.tmp 25)) none)
  (.alt 11 (MI.op none (.store 1 (.tmp 35) (.tmp 30)) none)
  (.alt 12 (MI.op (some 36) (.ixArr 64 1 (.tmp 7) (.tmp 26)) none)
  (.alt 13 (MI.op none (.store 1 (.tmp 36) (.tmp 34)) none)
  .done .stop) .stop) .stop) .stop) (.alt 10 (MI.op (some 35) (.ixArr 64 1 (.tmp 6) (.tmp 25)) none)
  (.alt 9 (MI.op (some 34) (.bin .xor (.tmp 33) (.c (.int .u8 92))) none)
  (.alt 11 (MI.op none (.store 1 (.tmp 35) (.tmp 30)) none)
  (.alt 12 (MI.op (some 36) (.ixArr 64 1 (.tmp 7) (.tmp 26)) none)
  (.alt 13 (MI.op none (.store 1 (.tmp 36) (.tmp 34)) none)
  .done .stop) .stop) .stop) (.alt 11 (MI.op none (.store 1 (.tmp 35) (.tmp 30)) none)
  (.alt 9 (MI.op (some 34) (.bin .xor (.tmp 33) (.c (.int .u8 92))) none)
  (.alt 12 (MI.op (some 36) (.ixArr 64 1 (.tmp 7) (.tmp 26)) none)
  (.alt 13 (MI.op none (.store 1 (.tmp 36) (.tmp 34)) none)
  .done .stop) .stop) .stop) .stop)) .stop)) (.alt 10 (MI.op (some 35) (.ixArr 64 1 (.tmp 6) (.tmp 25)) none)
  (.alt 8 (MI.op (some 33) (.load false 1 (.tmp 32)) none)
  (.alt 9 (MI.op (some 34) (.bin .xor (.tmp 33) (.c (.int .u8 92))) none)
  (.alt 11 (MI.op none (.store 1 (.tmp 35) (.tmp 30)) none)
  (.alt 12 (MI.op (some 36) (.ixArr 64 1 (.tmp 7) (.tmp 26)) none)
  (.alt 13 (MI.op none (.store 1 (.tmp 36) (.tmp 34)) none)
  .done .stop) .stop) .stop) (.alt 11 (MI.op none (.store 1 (.tmp 35) (.tmp 30)) none)
  (.alt 9 (MI.op (some 34) (.bin .xor (.tmp 33) (.c (.int .u8 92))) none)
  (.alt 12 (MI.op (some 36) (.ixArr 64 1 (.tmp 7) (.tmp 26)) none)
  (.alt 13 (MI.op none (.store 1 (.tmp 36) (.tmp 34)) none)
  .done .stop) .stop) .stop) .stop)) (.alt 11 (MI.op none (.store 1 (.tmp 35) (.tmp 30)) none)
  (.alt 8 (MI.op (some 33) (.load false 1 (.tmp 32)) none)
  (.alt 9 (MI.op (some 34) (.bin .xor (.tmp 33) (.c (.int .u8 92))) none)
  (.alt 12 (MI.op (some 36) (.ixArr 64 1 (.tmp 7) (.tmp 26)) none)
  (.alt 13 (MI.op none (.store 1 (.tmp 36) (.tmp 34)) none)
  .done .stop) .stop) .stop) .stop) .stop)) .stop)) (.alt 10 (MI.op (some 35) (.ixArr 64 1 (.tmp 6) (.tmp 25)) none)
  (.alt 7 (MI.op (some 32) (.ixArr 64 1 (.tmp 5) (.tmp 31)) none)
  (.alt 8 (MI.op (some 33) (.load false 1 (.tmp 32)) none)
  (.alt 9 (MI.op (some 34) (.bin .xor (.tmp 33) (.c (.int .u8 92))) none)
  (.alt 11 (MI.op none (.store 1 (.tmp 35) (.tmp 30)) none)
  (.alt 12 (MI.op (some 36) (.ixArr 64 1 (.tmp 7) (.tmp 26)) none)
  (.alt 13 (MI.op none (.store 1 (.tmp 36) (.tmp 34)) none)
  .done .stop) .stop) .stop) (.alt 11 (MI.op none (.store 1 (.tmp 35) (.tmp 30)) none)
  (.alt 9 (MI.op (some 34) (.bin .xor (.tmp 33) (.c (.int .u8 92))) none)
  (.alt 12 (MI.op (some 36) (.ixArr 64 1 (.tmp 7) (.tmp 26)) none)
  (.alt 13 (MI.op none (.store 1 (.tmp 36) (.tmp 34)) none)
  .done .stop) .stop) .stop) .stop)) (.alt 11 (MI.op none (.store 1 (.tmp 35) (.tmp 30)) none)
  (.alt 8 (MI.op (some 33) (.load false 1 (.tmp 32)) none)
  (.alt 9 (MI.op (some 34) (.bin .xor (.tmp 33) (.c (.int .u8 92))) none)
  (.alt 12 (MI.op (some 36) (.ixArr 64 1 (.tmp 7) (.tmp 26)) none)
  (.alt 13 (MI.op none (.store 1 (.tmp 36) (.tmp 34)) none)
  .done .stop) .stop) .stop) .stop) .stop)) (.alt 11 (MI.op none (.store 1 (.tmp 35) (.tmp 30)) none)
  (.alt 7 (MI.op (some 32) (.ixArr 64 1 (.tmp 5) (.tmp 31)) none)
  (.alt 8 (MI.op (some 33) (.load false 1 (.tmp 32)) none)
  (.alt 9 (MI.op (some 34) (.bin .xor (.tmp 33) (.c (.int .u8 92))) none)
  (.alt 12 (MI.op (some 36) (.ixArr 64 1 (.tmp 7) (.tmp 26)) none)
  (.alt 13 (MI.op none (.store 1 (.tmp 36) (.tmp 34)) none)
  .done .stop) .stop) .stop) .stop) .stop) .stop)) .stop)) (.alt 7 (MI.op (some 32) (.ixArr 64 1 (.tmp 5) (.tmp 31)) none)
  (.alt 5 (MI.op (some 30) (.bin .xor (.tmp 29) (.c (.int .u8 54))) none)
  (.alt 8 (MI.op (some 33) (.load false 1 (.tmp 32)) none)
  (.alt 9 (MI.op (some 34) (.bin .xor (.tmp 33) (.c (.int .u8 92))) none)
  (.alt 10 (MI.op (some 35) (.ixArr 64 1 (.tmp 6) (.tmp 25)) none)
  (.alt 11 (MI.op none (.store 1 (.tmp 35) (.tmp 30)) none)
  (.alt 12 (MI.op (some 36) (.ixArr 64 1 (.tmp 7) (.tmp 26)) none)
  (.alt 13 (MI.op none (.store 1 (.tmp 36) (.tmp 34)) none)
  .done .stop) .stop) .stop) .stop) (.alt 10 (MI.op (some 35) (.ixArr 64 1 (.tmp 6) (.tmp 25)) none)
  (.alt 9 (MI.op (some 34) (.bin .xor (.tmp 33) (.c (.int .u8 92))) none)
  (.alt 11 (MI.op none (.store 1 (.tmp 35) (.tmp 30)) none)
  (.alt 12 (MI.op (some 36) (.ixArr 64 1 (.tmp 7) (.tmp 26)) none)
  (.alt 13 (MI.op none (.store 1 (.tmp 36) (.tmp 34)) none)
  .done .stop) .stop) .stop) (.alt 11 (MI.op none (.store 1 (.tmp 35) (.tmp 30)) none)
  (.alt 9 (MI.op (some 34) (.bin .xor (.tmp 33) (.c (.int .u8 92))) none)
  (.alt 12 (MI.op (some 36) (.ixArr 64 1 (.tmp 7) (.tmp 26)) none)
  (.alt 13 (MI.op none (.store 1 (.tmp 36) (.tmp 34)) none)
  .done .stop) .stop) .stop) .stop)) .stop)) (.alt 10 (MI.op (some 35) (.ixArr 64 1 (.tmp 6) (.tmp 25)) none)
  (.alt 8 (MI.op (some 33) (.load false 1 (.tmp 32)) none)
  (.alt 9 (MI.op (some 34) (.bin .xor (.tmp 33) (.c (.int .u8 92))) none)
  (.alt 11 (MI.op none (.store 1 (.tmp 35) (.tmp 30)) none)
  (.alt 12 (MI.op (some 36) (.ixArr 64 1 (.tmp 7) (.tmp 26)) none)
  (.alt 13 (MI.op none (.store 1 (.tmp 36) (.tmp 34)) none)
  .done .stop) .stop) .stop) (.alt 11 (MI.op none (.store 1 (.tmp 35) (.tmp 30)) none)
  (.alt 9 (MI.op (some 34) (.bin .xor (.tmp 33) (.c (.int .u8 92))) none)
  (.alt 12 (MI.op (some 36) (.ixArr 64 1 (.tmp 7) (.tmp 26)) none)
  (.alt 13 (MI.op none (.store 1 (.tmp 36) (.tmp 34)) none)
  .done .stop) .stop) .stop) .stop)) (.alt 11 (MI.op none (.store 1 (.tmp 35) (.tmp 30)) none)
  (.alt 8 (MI.op (some 33) (.load false 1 (.tmp 32)) none)
  (.alt 9 (MI.op (some 34) (.bin .xor (.tmp 33) (.c (.int .u8 92))) none)
  (.alt 12 (MI.op (some 36) (.ixArr 64 1 (.tmp 7) (.tmp 26)) none)
  (.alt 13 (MI.op none (.store 1 (.tmp 36) (.tmp 34)) none)
  .done .stop) .stop) .stop) .stop) .stop)) .stop)) (.alt 8 (MI.op (some 33) (.load false 1 (.tmp 32)) none)
  (.alt 5 (MI.op (some 30) (.bin .xor (.tmp 29) (.c (.int .u8 54))) none)
  (.alt 9 (MI.op (some 34) (.bin .xor (.tmp 33) (.c (.int .u8 92))) none)
  (.alt 10 (MI.op (some 35) (.ixArr 64 1 (.tmp 6) (.tmp 25)) none)
  (.alt 11 (MI.op none (.store 1 (.tmp 35) (.tmp 30)) none)
  (.alt 12 (MI.op (some 36) (.ixArr 64 1 (.tmp 7) (.tmp 26)) none)
  (.alt 13 (MI.op none (.store 1 (.tmp 36) (.tmp 34)) none)
  .done .stop) .stop) .stop) .stop) (.alt 10 (MI.op (some 35) (.ixArr 64 1 (.tmp 6) (.tmp 25)) none)
  (.alt 9 (MI.op (some 34) (.bin .xor (.tmp 33) (.c (.int .u8 92))) none)
  (.alt 11 (MI.op none (.store 1 (.tmp 35) (.tmp 30)) none)
  (.alt 12 (MI.op (some 36) (.ixArr 64 1 (.tmp 7) (.tmp 26)) none)
  (.alt 13 (MI.op none (.store 1 (.tmp 36) (.tmp 34)) none)
  .done .stop) .stop) .stop) (.alt 11 (MI.op none (.store 1 (.tmp 35) (.tmp 30)) none)
  (.alt 9 (MI.op (some 34) (.bin .xor (.tmp 33) (.c (.int .u8 92))) none)
  (.alt 12 (MI.op (some 36) (.ixArr 64 1 (.tmp 7) (.tmp 26)) none)
  (.alt 13 (MI.op none (.store 1 (.tmp 36) (.tmp 34)) none)
  .done .stop) .stop) .stop) .stop)) .stop)) (.alt 9 (MI.op (some 34) (.bin .xor (.tmp 33) (.c (.int .u8 92))) none)
  (.alt 5 (MI.op (some 30) (.bin .xor (.tmp 29) (.c (.int .u8 54))) none)
  (.alt 10 (MI.op (some 35) (.ixArr 64 1 (.tmp 6) (.tmp 25)) none)
  (.alt 11 (MI.op none (.store 1 (.tmp 35) (.tmp 30)) none)
  (.alt 12 (MI.op (some 36) (.ixArr 64 1 (.tmp 7) (.tmp 26)) none)
  (.alt 13 (MI.op none (.store 1 (.tmp 36) (.tmp 34)) none)
  .done .stop) .stop) .stop) .stop) .stop) .stop)) .stop)) .stop)) (.alt 7 (MI.op (some 32) (.ixArr 64 1 (.tmp 5) (.tmp 31)) none)
  (.alt 4 (MI.op (some 29) (.load false 1 (.tmp 28)) none)
  (.alt 5 (MI.op (some 30) (.bin .xor (.tmp 29) (.c (.int .u8 54))) none)
  (.alt 8 (MI.op (some 33) (.load false 1 (.tmp 32)) none)
  (.alt 9 (MI.op (some 34) (.bin .xor (.tmp 33) (.c (.int .u8 92))) none)
  (.alt 10 (MI.op (some 35) (.ixArr 64 1 (.tmp 6) (.tmp 25)) none)
  (.alt 11 (MI.op none (.store 1 (.tmp 35) (.tmp 30)) none)
  (.alt 12 (MI.op (some 36) (.ixArr 64 1 (.tmp 7) (.tmp 26)) none)
  (.alt 13 (MI.op none (.store 1 (.tmp 36) (.tmp 34)) none)
  .done .stop) .stop) .stop) .stop) (.alt 10 (MI.op (some 35) (.ixArr 64 1 (.tmp 6) (.tmp 25)) none)
  (.alt 9 (MI.op (some 34) (.bin .xor (.tmp 33) (.c (.int .u8 92))) none)
  (.alt 11 (MI.op none (.store 1 (.tmp 35) (.tmp 30)) none)
  (.alt 12 (MI.op (some 36) (.ixArr 64 1 (.tmp 7) (.tmp 26)) none)
  (.alt 13 (MI.op none (.store 1 (.tmp 36) (.tmp 34)) none)
  .done .stop) .stop) .stop) (.alt 11 (MI.op none (.store 1 (.tmp 35) (.tmp 30)) none)
  (.alt 9 (MI.op (some 34) (.bin .xor (.tmp 33) (.c (.int .u8 92))) none)
  (.alt 12 (MI.op (some 36) (.ixArr 64 1 (.tmp 7) (.tmp 26)) none)
  (.alt 13 (MI.op none (.store 1 (.tmp 36) (.tmp 34)) none)
  .done .stop) .stop) .stop) .stop)) .stop)) (.alt 10 (MI.op (some 35) (.ixArr 64 1 (.tmp 6) (.tmp 25)) none)
  (.alt 8 (MI.op (some 33) (.load false 1 (.tmp 32)) none)
  (.alt 9 (MI.op (some 34) (.bin .xor (.tmp 33) (.c (.int .u8 92))) none)
  (.alt 11 (MI.op none (.store 1 (.tmp 35) (.tmp 30)) none)
  (.alt 12 (MI.op (some 36) (.ixArr 64 1 (.tmp 7) (.tmp 26)) none)
  (.alt 13 (MI.op none (.store 1 (.tmp 36) (.tmp 34)) none)
  .done .stop) .stop) .stop) (.alt 11 (MI.op none (.store 1 (.tmp 35) (.tmp 30)) none)
  (.alt 9 (MI.op (some 34) (.bin .xor (.tmp 33) (.c (.int .u8 92))) none)
  (.alt 12 (MI.op (some 36) (.ixArr 64 1 (.tmp 7) (.tmp 26)) none)
  (.alt 13 (MI.op none (.store 1 (.tmp 36) (.tmp 34)) none)
  .done .stop) .stop) .stop) .stop)) (.alt 11 (MI.op none (.store 1 (.tmp 35) (.tmp 30)) none)
  (.alt 8 (MI.op (some 33) (.load false 1 (.tmp 32)) none)
  (.alt 9 (MI.op (some 34) (.bin .xor (.tmp 33) (.c (.int .u8 92))) none)
  (.alt 12 (MI.op (some 36) (.ixArr 64 1 (.tmp 7) (.tmp 26)) none)
  (.alt 13 (MI.op none (.store 1 (.tmp 36) (.tmp 34)) none)
  .done .stop) .stop) .stop) .stop) .stop)) .stop)) (.alt 8 (MI.op (some 33) (.load false 1 (.tmp 32)) none)
  (.alt 5 (MI.op (some 30) (.bin .xor (.tmp 29) (.c (.int .u8 54))) none)
  (.alt 9 (MI.op (some 34) (.bin .xor (.tmp 33) (.c (.int .u8 92))) none)
  (.alt 10 (MI.op (some 35) (.ixArr 64 1 (.tmp 6) (.tmp 25)) none)
  (.alt 11 (MI.op none (.store 1 (.tmp 35) (.tmp 30)) none)
  (.alt 12 (MI.op (some 36) (.ixArr 64 1 (.tmp 7) (.tmp 26)) none)
  (.alt 13 (MI.op none (.store 1 (.tmp 36) (.tmp 34)) none)
  .done .stop) .stop) .stop) .stop) (.alt 10 (MI.op (some 35) (.ixArr 64 1 (.tmp 6) (.tmp 25)) none)
  (.alt 9 (MI.op (some 34) (.bin .xor (.tmp 33) (.c (.int .u8 92))) none)
  (.alt 11 (MI.op none (.store 1 (.tmp 35) (.tmp 30)) none)
  (.alt 12 (MI.op (some 36) (.ixArr 64 1 (.tmp 7) (.tmp 26)) none)
  (.alt 13 (MI.op none (.store 1 (.tmp 36) (.tmp 34)) none)
  .done .stop) .stop) .stop) (.alt 11 (MI.op none (.store 1 (.tmp 35) (.tmp 30)) none)
  (.alt 9 (MI.op (some 34) (.bin .xor (.tmp 33) (.c (.int .u8 92))) none)
  (.alt 12 (MI.op (some 36) (.ixArr 64 1 (.tmp 7) (.tmp 26)) none)
  (.alt 13 (MI.op none (.store 1 (.tmp 36) (.tmp 34)) none)
  .done .stop) .stop) .stop) .stop)) .stop)) (.alt 9 (MI.op (some 34) (.bin .xor (.tmp 33) (.c (.int .u8 92))) none)
  (.alt 5 (MI.op (some 30) (.bin .xor (.tmp 29) (.c (.int .u8 54))) none)
  (.alt 10 (MI.op (some 35) (.ixArr 64 1 (.tmp 6) (.tmp 25)) none)
  (.alt 11 (MI.op none (.store 1 (.tmp 35) (.tmp 30)) none)
  (.alt 12 (MI.op (some 36) (.ixArr 64 1 (.tmp 7) (.tmp 26)) none)
  (.alt 13 (MI.op none (.store 1 (.tmp 36) (.tmp 34)) none)
  .done .stop) .stop) .stop) .stop) .stop) .stop)) .stop)) (.alt 8 (MI.op (some 33) (.load false 1 (.tmp 32)) none)
  (.alt 4 (MI.op (some 29) (.load false 1 (.tmp 28)) none)
  (.alt 5 (MI.op (some 30) (.bin .xor (.tmp 29) (.c (.int .u8 54))) none)
  (.alt 9 (MI.op (some 34) (.bin .xor (.tmp 33) (.c (.int .u8 92))) none)
  (.alt 10 (MI.op (some 35) (.ixArr 64 1 (.tmp 6) (.tmp 25)) none)
  (.alt 11 (MI.op none (.store 1 (.tmp 35) (.tmp 30)) none)
  (.alt 12 (MI.op (some 36) (.ixArr 64 1 (.tmp 7) (.tmp 26)) none)
  (.alt 13 (MI.op none (.store 1 (.tmp 36) (.tmp 34)) none)
  .done .stop) .stop) .stop) .stop) (.alt 10 (MI.op (some 35) (.ixArr 64 1 (.tmp 6) (.tmp 25)) none)
  (.alt 9 (MI.op (some 34) (.bin .xor (.tmp 33) (.c (.int .u8 92))) none)
  (.alt 11 (MI.op none (.store 1 (.tmp 35) (.tmp 30)) none)
  (.alt 12 (MI.op (some 36) (.ixArr 64 1 (.tmp 7) (.tmp 26)) none)
  (.alt 13 (MI.op none (.store 1 (.tmp 36) (.tmp 34)) none)
  .done .stop) .stop) .stop) (.alt 11 (MI.op none (.store 1 (.tmp 35) (.tmp 30)) none)
  (.alt 9 (MI.op (some 34) (.bin .xor (.tmp 33) (.c (.int .u8 92))) none)
  (.alt 12 (MI.op (some 36) (.ixArr 64 1 (.tmp 7) (.tmp 26)) none)
  (.alt 13 (MI.op none (.store 1 (.tmp 36) (.tmp 34)) none)
  .done .stop) .stop) .stop) .stop)) .stop)) (.alt 9 (MI.op (some 34) (.bin .xor (.tmp 33) (.c (.int .u8 92))) none)
  (.alt 5 (MI.op (some 30) (.bin .xor (.tmp 29) (.c (.int .u8 54))) none)
  (.alt 10 (MI.op (some 35) (.ixArr 64 1 (.tmp 6) (.tmp 25)) none)
  (.alt 11 (MI.op none (.store 1 (.tmp 35) (.tmp 30)) none)
  (.alt 12 (MI.op (some 36) (.ixArr 64 1 (.tmp 7) (.tmp 26)) none)
  (.alt 13 (MI.op none (.store 1 (.tmp 36) (.tmp 34)) none)
  .done .stop) .stop) .stop) .stop) .stop) .stop)) (.alt 9 (MI.op (some 34) (.bin .xor (.tmp 33) (.c (.int .u8 92))) none)
  (.alt 4 (MI.op (some 29) (.load false 1 (.tmp 28)) none)
  (.alt 5 (MI.op (some 30) (.bin .xor (.tmp 29) (.c (.int .u8 54))) none)
  (.alt 10 (MI.op (some 35) (.ixArr 64 1 (.tmp 6) (.tmp 25)) none)
  (.alt 11 (MI.op none (.store 1 (.tmp 35) (.tmp 30)) none)
  (.alt 12 (MI.op (some 36) (.ixArr 64 1 (.tmp 7) (.tmp 26)) none)
  (.alt 13 (MI.op none (.store 1 (.tmp 36) (.tmp 34)) none)
  .done .stop) .stop) .stop) .stop) .stop) .stop) .stop)) .stop)) .stop)) (.alt 7 (MI.op (some 32) (.ixArr 64 1 (.tmp 5) (.tmp 31)) none)
  (.alt 3 (MI.op (some 28) (.ixArr 64 1 (.tmp 5) (.tmp 27)) none)
  (.alt 4 (MI.op (some 29) (.load false 1 (.tmp 28)) none)
  (.alt 5 (MI.op (some 30) (.bin .xor (.tmp 29) (.c (.int .u8 54))) none)
  (.alt 8 (MI.op (some 33) (.load false 1 (.tmp 32)) none)
  (.alt 9 (MI.op (some 34) (.bin .xor (.tmp 33) (.c (.int .u8 92))) none)
  (.alt 10 (MI.op (some 35) (.ixArr 64 1 (.tmp 6) (.tmp 25)) none)
  (.alt 11 (MI.op none (.store 1 (.tmp 35) (.tmp 30)) none)
  (.alt 12 (MI.op (some 36) (.ixArr 64 1 (.tmp 7) (.tmp 26)) none)
  (.alt 13 (MI.op none (.store 1 (.tmp 36) (.tmp 34)) none)
  .done .stop) .stop) .stop) .stop) (.alt 10 (MI.op (some 35) (.ixArr 64 1 (.tmp 6) (.tmp 25)) none)
  (.alt 9 (MI.op (some 34) (.bin .xor (.tmp 33) (.c (.int .u8 92))) none)
  (.alt 11 (MI.op none (.store 1 (.tmp 35) (.tmp 30)) none)
  (.alt 12 (MI.op (some 36) (.ixArr 64 1 (.tmp 7) (.tmp 26)) none)
  (.alt 13 (MI.op none (.store 1 (.tmp 36) (.tmp 34)) none)
  .done .stop) .stop) .stop) (.alt 11 (MI.op none (.store 1 (.tmp 35) (.tmp 30)) none)
  (.alt 9 (MI.op (some 34) (.bin .xor (.tmp 33) (.c (.int .u8 92))) none)
  (.alt 12 (MI.op (some 36) (.ixArr 64 1 (.tmp 7) (.tmp 26)) none)
  (.alt 13 (MI.op none (.store 1 (.tmp 36) (.tmp 34)) none)
  .done .stop) .stop) .stop) .stop)) .stop)) (.alt 10 (MI.op (some 35) (.ixArr 64 1 (.tmp 6) (.tmp 25)) none)
  (.alt 8 (MI.op (some 33) (.load false 1 (.tmp 32)) none)
  (.alt 9 (MI.op (some 34) (.bin .xor (.tmp 33) (.c (.int .u8 92))) none)
  (.alt 11 (MI.op none (.store 1 (.tmp 35) (.tmp 30)) none)
  (.alt 12 (MI.op (some 36) (.ixArr 64 1 (.tmp 7) (.tmp 26)) none)
  (.alt 13 (MI.op none (.store 1 (.tmp 36) (.tmp 34)) none)
  .done .stop) .stop) .stop) (.alt 11 (MI.op none (.store 1 (.tmp 35) (.tmp 30)) none)
  (.alt 9 (MI.op (some 34) (.bin .xor (.tmp 33) (.c (.int .u8 92))) none)
  (.alt 12 (MI.op (some 36) (.ixArr 64 1 (.tmp 7) (.tmp 26)) none)
  (.alt 13 (MI.op none (.store 1 (.tmp 36) (.tmp 34)) none)
  .done .stop) .stop) .stop) .stop)) (.alt 11 (MI.op none (.store 1 (.tmp 35) (.tmp 30)) none)
  (.alt 8 (MI.op (some 33) (.load false 1 (.tmp 32)) none)
  (.alt 9 (MI.op (some 34) (.bin .xor (.tmp 33) (.c (.int .u8 92))) none)
  (.alt 12 (MI.op (some 36) (.ixArr 64 1 (.tmp 7) (.tmp 26)) none)
  (.alt 13 (MI.op none (.store 1 (.tmp 36) (.tmp 34)) none)
  .done .stop) .stop) .stop) .stop) .stop)) .stop)) (.alt 8 (MI.op (some 33) (.load false 1 (.tmp 32)) none)
  (.alt 5 (MI.op (some 30) (.bin .xor (.tmp 29) (.c (.int .u8 54))) none)
  (.alt 9 (MI.op (some 34) (.bin .xor (.tmp 33) (.c (.int .u8 92))) none)
  (.alt 10 (MI.op (some 35) (.ixArr 64 1 (.tmp 6) (.tmp 25)) none)
  (.alt 11 (MI.op none (.store 1 (.tmp 35) (.tmp 30)) none)
  (.alt 12 (MI.op (some 36) (.ixArr 64 1 (.tmp 7) (.tmp 26)) none)
  (.alt 13 (MI.op none (.store 1 (.tmp 36) (.tmp 34)) none)
  .done .stop) .stop) .stop) .stop) (.alt 10 (MI.op (some 35) (.ixArr 64 1 (.tmp 6) (.tmp 25)) none)
  (.alt 9 (MI.op (some 34) (.bin .xor (.tmp 33) (.c (.int .u8 92))) none)
  (.alt 11 (MI.op none (.store 1 (.tmp 35) (.tmp 30)) none)
  (.alt 12 (MI.op (some 36) (.ixArr 64 1 (.tmp 7) (.tmp 26)) none)
  (.alt 13 (MI.op none (.store 1 (.tmp 36) (.tmp 34)) none)
  .done .stop) .stop) .stop) (.alt 11 (MI.op none (.store 1 (.tmp 35) (.tmp 30)) none)
  (.alt 9 (MI.op (some 34) (.bin .xor (.tmp 33) (.c (.int .u8 92))) none)
  (.alt 12 (MI.op (some 36) (.ixArr 64 1 (.tmp 7) (.tmp 26)) none)
  (.alt 13 (MI.op none (.store 1 (.tmp 36) (.tmp 34)) none)
  .done .stop) .stop) .stop) .stop)) .stop)) (.alt 9 (MI.op (some 34) (.bin .xor (.tmp 33) (.c (.int .u8 92))) none)
  (.alt 5 (MI.op (some 30) (.bin .xor (.tmp 29) (.c (.int .u8 54))) none)
  (.alt 10 (MI.op (some 35) (.ixArr 64 1 (.tmp 6) (.tmp 25)) none)
  (.alt 11 (MI.op none (.store 1 (.tmp 35) (.tmp 30)) none)
  (.alt 12 (MI.op (some 36) (.ixArr 64 1 (.tmp 7) (.tmp 26)) none)
  (.alt 13 (MI.op none (.store 1 (.tmp 36) (.tmp 34)) none)
  .done .stop) .stop) .stop) .stop) .stop) .stop)) .stop)) (.alt 8 (MI.op (some 33) (.load false 1 (.tmp 32)) none)
  (.alt 4 (MI.op (some 29) (.load false 1 (.tmp 28)) none)
  (.alt 5 (MI.op (some 30) (.bin .xor (.tmp 29) (.c (.int .u8 54))) none)
  (.alt 9 (MI.op (some 34) (.bin .xor (.tmp 33) (.c (.int .u8 92))) none)
  (.alt 10 (MI.op (some 35) (.ixArr 64 1 (.tmp 6) (.tmp 25)) none)
  (.alt 11 (MI.op none (.store 1 (.tmp 35) (.tmp 30)) none)
  (.alt 12 (MI.op (some 36) (.ixArr 64 1 (.tmp 7) (.tmp 26)) none)
  (.alt 13 (MI.op none (.store 1 (.tmp 36) (.tmp 34)) none)
  .done .stop) .stop) .stop) .stop) (.alt 10 (MI.op (some 35) (.ixArr 64 1 (.tmp 6) (.tmp 25)) none)
  (.alt 9 (MI.op (some 34) (.bin .xor (.tmp 33) (.c (.int .u8 92))) none)
  (.alt 11 (MI.op none (.store 1 (.tmp 35) (.tmp 30)) none)
  (.alt 12 (MI.op (some 36) (.ixArr 64 1 (.tmp 7) (.tmp 26)) none)
  (.alt 13 (MI.op none (.store 1 (.tmp 36) (.tmp 34)) none)
  .done .stop) .stop) .stop) (.alt 11 (MI.op none (.store 1 (.tmp 35) (.tmp 30)) none)
  (.alt 9 (MI.op (some 34) (.bin .xor (.tmp 33) (.c (.int .u8 92))) none)
  (.alt 12 (MI.op (some 36) (.ixArr 64 1 (.tmp 7) (.tmp 26)) none)
  (.alt 13 (MI.op none (.store 1 (.tmp 36) (.tmp 34)) none)
  .done .stop) .stop) .stop) .stop)) .stop)) (.alt 9 (MI.op (some 34) (.bin .xor (.tmp 33) (.c (.int .u8 92))) none)
  (.alt 5 (MI.op (some 30) (.bin .xor (.tmp 29) (.c (.int .u8 54))) none)
  (.alt 10 (MI.op (some 35) (.ixArr 64 1 (.tmp 6) (.tmp 25)) none)
  (.alt 11 (MI.op none (.store 1 (.tmp 35) (.tmp 30)) none)
  (.alt 12 (MI.op (some 36) (.ixArr 64 1 (.tmp 7) (.tmp 26)) none)
  (.alt 13 (MI.op none (.store 1 (.tmp 36) (.tmp 34)) none)
  .done .stop) .stop) .stop) .stop) .stop) .stop)) (.alt 9 (MI.op (some 34) (.bin .xor (.tmp 33) (.c (.int .u8 92))) none)
  (.alt 4 (MI.op (some 29) (.load false 1 (.tmp 28)) none)
  (.alt 5 (MI.op (some 30) (.bin .xor (.tmp 29) (.c (.int .u8 54))) none)
  (.alt 10 (MI.op (some 35) (.ixArr 64 1 (.tmp 6) (.tmp 25)) none)
  (.alt 11 (MI.op none (.store 1 (.tmp 35) (.tmp 30)) none)
  (.alt 12 (MI.op (some 36) (.ixArr 64 1 (.tmp 7) (.tmp 26)) none)
  (.alt 13 (MI.op none (.store 1 (.tmp 36) (.tmp 34)) none)
  .done .stop) .stop) .stop) .stop) .stop) .stop) .stop)) .stop)) (.alt 8 (MI.op (some 33) (.load false 1 (.tmp 32)) none)
  (.alt 3 (MI.op (some 28) (.ixArr 64 1 (.tmp 5) (.tmp 27)) none)
  (.alt 4 (MI.op (some 29) (.load false 1 (.tmp 28)) none)
  (.alt 5 (MI.op (some 30) (.bin .xor (.tmp 29) (.c (.int .u8 54))) none)
  (.alt 9 (MI.op (some 34) (.bin .xor (.tmp 33) (.c (.int .u8 92))) none)
  (.alt 10 (MI.op (some 35) (.ixArr 64 1 (.tmp 6) (.tmp 25)) none)
  (.alt 11 (MI.op none (.store 1 (.tmp 35) (.tmp 30)) none)
  (.alt 12 (MI.op (some 36) (.ixArr 64 1 (.tmp 7) (.tmp 26)) none)
  (.alt 13 (MI.op none (.store 1 (.tmp 36) (.tmp 34)) none)
  .done .stop) .stop) .stop) .stop) (.alt 10 (MI.op (some 35) (.ixArr 64 1 (.tmp 6) (.tmp 25)) none)
  (.alt 9 (MI.op (some 34) (.bin .xor (.tmp 33) (.c (.int .u8 92))) none)
  (.alt 11 (MI.op none (.store 1 (.tmp 35) (.tmp 30)) none)
  (.alt 12 (MI.op (some 36) (.ixArr 64 1 (.tmp 7) (.tmp 26)) none)
  (.alt 13 (MI.op none (.store 1 (.tmp 36) (.tmp 34)) none)
  .done .stop) .stop) .stop) (.alt 11 (MI.op none (.store 1 (.tmp 35) (.tmp 30)) none)
  (.alt 9 (MI.op (some 34) (.bin .xor (.tmp 33) (.c (.int .u8 92))) none)
  (.alt 12 (MI.op (some 36) (.ixArr 64 1 (.tmp 7) (.tmp 26)) none)
  (.alt 13 (MI.op none (.store 1 (.tmp 36) (.tmp 34)) none)
  .done .stop) .stop) .stop) .stop)) .stop)) (.alt 9 (MI.op (some 34) (.bin .xor (.tmp 33) (.c (.int .u8 92))) none)
  (.alt 5 (MI.op (some 30) (.bin .xor (.tmp 29) (.c (.int .u8 54))) none)
  (.alt 10 (MI.op (some 35) (.ixArr 64 1 (.tmp 6) (.tmp 25)) none)
  (.alt 11 (MI.op none (.store 1 (.tmp 35) (.tmp 30)) none)
  (.alt 12 (MI.op (some 36) (.ixArr 64 1 (.tmp 7) (.tmp 26)) none)
  (.alt 13 (MI.op none (.store 1 (.tmp 36) (.tmp 34)) none)
  .done .stop) .stop) .stop) .stop) .stop) .stop)) (.alt 9 (MI.op (some 34) (.bin .xor (.tmp 33) (.c (.int .u8 92))) none)
  (.alt 4 (MI.op (some 29) (.load false 1 (.tmp 28)) none)
  (.alt 5 (MI.op (some 30) (.bin .xor (.tmp 29) (.c (.int .u8 54))) none)
  (.alt 10 (MI.op (some 35) (.ixArr 64 1 (.tmp 6) (.tmp 25)) none)
  (.alt 11 (MI.op none (.store 1 (.tmp 35) (.tmp 30)) none)
  (.alt 12 (MI.op (some 36) (.ixArr 64 1 (.tmp 7) (.tmp 26)) none)
  (.alt 13 (MI.op none (.store 1 (.tmp 36) (.tmp 34)) none)
  .done .stop) .stop) .stop) .stop) .stop) .stop) .stop)) (.alt 9 (MI.op (some 34) (.bin .xor (.tmp 33) (.c (.int .u8 92))) none)
  (.alt 3 (MI.op (some 28) (.ixArr 64 1 (.tmp 5) (.tmp 27)) none)
  (.alt 4 (MI.op (some 29) (.load false 1 (.tmp 28)) none)
  (.alt 5 (MI.op (some 30) (.bin .xor (.tmp 29) (.c (.int .u8 54))) none)
  (.alt 10 (MI.op (some 35) (.ixArr 64 1 (.tmp 6) (.tmp 25)) none)
  (.alt 11 (MI.op none (.store 1 (.tmp 35) (.tmp 30)) none)
  (.alt 12 (MI.op (some 36) (.ixArr 64 1 (.tmp 7) (.tmp 26)) none)
  (.alt 13 (MI.op none (.store 1 (.tmp 36) (.tmp 34)) none)
  .done .stop) .stop) .stop) .stop) .stop) .stop) .stop) .stop)) .stop)) .stop))))))))
  (.reg
   [MI.op (some 23) (.mov (.tmp 8)) none,
    MI.op (some 24) (.bin .add (.tmp 23) (.c (.int .i64 1))) none,
    MI.op (some 8) (.mov (.tmp 24)) none]))
def m9_5 : MCode :=
 (.seq
  (.seq
   (.reg
    [MI.op (some 21) (.mov (.tmp 8)) none,
     MI.op (some 22) (.bin .lss (.tmp 21) (.c (.int .i64 64))) none])
   (.cond (.tmp 22)
    .skip
    (.exit 0)))
  m9_4)
def m9_6 : MCode :=
 (.blk 0
  (.loop
  m9_5))
def m9_7 : List MI :=
 [MI.op (some 9) (.alloc (List.replicate 32 (.int .u8 0))) none,
  MI.op none (.store 32 (.tmp 9) (.tmp 40)) none,
  MI.frz 7,
  MI.frz 9]
def m9_8 : MCode :=
 (.seq
  (.drw
   [MI.op (some 41) (.mov (.tmp 0)) none,
    MI.op (some 42) (.mov (.tmp 1)) none,
    MI.op (some 43) (.bsl 1 1 [(.sl .full 0 [])] [(0, 1, (.tmp 42))]) none,
    MI.op (some 44) (.call 28 [(.tmp 41), (.tmp 43)]) none,
    MI.op (some 45) (.slArr 64 1 (.tmp 7) none none none) none,
    MI.op (some 46) (.slArr 32 1 (.tmp 9) none none none) none,
    MI.op (some 47) (.bsl 2 1 [(.sl .full 0 [])] [(0, 1, (.tmp 45)), (1, 1, (.tmp 46))]) none]
   [MI.op (some 48) (.call 17 [(.tmp 47)]) none,
    MI.op (some 49) (.eqv false [(32, .i)] (.tmp 44) (.tmp 48)) none,
    MI.op (some 50) (.mov (.tmp 49)) none,
    MI.op (some 51) (.call 27 []) (some (50, true)),
    MI.op (some 52) (.pick (.tmp 50) (.tmp 51) (.c (.bool false))) none,
    MI.op (some 4) (.mov (.tmp 52)) none])
  .ret)
def m9_9 : MCode :=
 (.seq
  (.reg
   (MI.op (some 37) (.slArr 64 1 (.tmp 6) none none none) none ::
    MI.frz 37 ::
    MI.op (some 38) (.mov (.tmp 1)) none ::
    MI.op (some 39) (.bsl 2 1 [(.sl .full 0 [])] [(0, 1, (.tmp 37)), (1, 1, (.tmp 38))]) none ::
    MI.op (some 40) (.call 17 [(.tmp 39)]) none ::
    m9_7))
  m9_8)
def m9_10 : MCode :=
 (.seq
  (.seq
   (.reg
    [MI.op (some 8) (.mov (.c (.int .i64 0))) none])
  m9_6)
  m9_9)
def m9_11 : MCode :=
 (.seq
  (.reg
   [MI.op (some 6) (.alloc (List.replicate 64 (.int .u8 0))) none,
    MI.op (some 7) (.alloc (List.replicate 64 (.int .u8 0))) none])
  m9_10)
def m9_12 : MCode :=
 (.seq
  (.reg
   (MI.op (some 19) (.mov (.tmp 0)) none ::
    MI.op (some 20) (.call 30 [(.tmp 19)]) none ::
    m9_3))
  m9_11)
def m9_13 : MCode :=
 (.seq
  (.seq
   (.reg
    [MI.op (some 10) (.mov (.tmp 0)) none,
     MI.op (some 11) (.len (.tmp 10)) none,
     MI.op (some 12) (.bin .gtr (.tmp 11) (.c (.int .i64 200))) none,
     MI.op (some 13) (.mov (.tmp 12)) none,
     MI.op (some 14) (.mov (.tmp 1)) (some (13, false)),
     MI.op (some 15) (.len (.tmp 14)) (some (13, false)),
     MI.op (some 16) (.bin .gtr (.tmp 15) (.c (.int .i64 500))) (some (13, false)),
     MI.op (some 17) (.pick (.tmp 13) (.c (.bool true)) (.tmp 16)) none])
  m9_2)
  m9_12)
def m9_r : List MRes := [.tmp 4]
def m9_b : MCode :=
 (.seq
  (.reg
   [MI.op (some 4) (.mov (.c (.bool false))) none])
  m9_13)
def m9 : MFunc := ⟨2, 53, m9_r, m9_b⟩
theorem c9 : compF Try.prog 9 m9 = some m9 := by kernel_rfl

end Go.Proofs.Ytlbilkldjhhopaa
