/- The loaded functions as texts of the ideal machine (written by a program of ours), and that they are the loaded ones. -/
import Derived.Test.YtilbipknodpmmaaDoorE31
import Derived.Test.YtilbipknodpmmaaDoorProg
set_option linter.unusedVariables false
namespace Go.Proofs.YtilbipknodpmmaaDoor
open Go.RowKit

/- tollhouse/names.Cut -/
def m56_1 : List MI :=
 [MI.op (some 14) (.un .not (.tmp 13)) (some (10, true)),
  MI.op (some 15) (.pick (.tmp 10) (.tmp 14) (.c (.bool false))) none]
def m56_2 : MCode :=
 (.seq
  (.reg
   [MI.op (some 2) (.mov (.c (.str []))) none,
    MI.op (some 3) (.mov (.c (.bool false))) none])
  .ret)
def m56_3 : MCode :=
 (.cond (.tmp 15)
  m56_2
  .skip)
def m56_4 : MCode :=
 (.seq
  (.reg
   [MI.op (some 16) (.mov (.tmp 4)) none,
    MI.op (some 2) (.mov (.tmp 16)) none,
    MI.op (some 3) (.mov (.c (.bool true))) none])
  .ret)
def m56_5 : MCode :=
 (.seq
  (.seq
   (.reg
    (MI.op (some 8) (.mov (.tmp 4)) none ::
     MI.op (some 9) (.bin .neq (.tmp 8) (.c (.str []))) none ::
     MI.op (some 10) (.mov (.tmp 9)) none ::
     MI.op (some 11) (.mov (.tmp 4)) (some (10, true)) ::
     MI.op (some 12) (.bsl 1 1 [(.str [])] [(0, 1, (.tmp 11))]) (some (10, true)) ::
     MI.op (some 13) (.call 47 [(.tmp 12)]) (some (10, true)) ::
     m56_1))
  m56_3)
  m56_4)
def m56_6 : MCode :=
 (.seq
  (.reg
   [MI.op (some 5) (.slArr 4 1 (.tmp 1) none none none) none,
    MI.op (some 6) (.toStr (.tmp 5)) none,
    MI.op (some 7) (.call 66 [(.tmp 6), (.c (.str [0]))]) none,
    MI.op (some 4) (.mov (.tmp 7)) none])
  m56_5)
def m56_r : List MRes := [.tmp 2, .tmp 3]
def m56_b : MCode :=
 (.seq
  (.reg
   [MI.op (some 1) (.box (.tmp 0)) none,
    MI.op (some 2) (.mov (.c (.str []))) none,
    MI.op (some 3) (.mov (.c (.bool false))) none])
  m56_6)
def m56 : MFunc := ⟨1, 17, m56_r, m56_b⟩
theorem c56 : compF Tryd.prog 56 m56 = some m56 := by kernel_rfl

/- tollhouse/tollhouseref10.Cut -/
/- tollhouse/names.Good -/
def m47_1 : List MI :=
 [MI.op (some 21) (.bin .neq (.tmp 20) (.c (.str []))) (some (18, false)),
  MI.op (some 22) (.pick (.tmp 18) (.c (.bool true)) (.tmp 21)) none]
def m47_2 : MCode :=
 (.cond (.tmp 22)
  (.seq
   (.reg
    [MI.op (some 2) (.mov (.c (.bool false))) none])
   .ret)
  .skip)
def m47_3 : MCode :=
 (.seq
  (.reg
   (MI.op (some 11) (.mov (.tmp 4)) none ::
    MI.op (some 12) (.bin .eql (.tmp 11) (.c (.str []))) none ::
    MI.op (some 13) (.mov (.tmp 12)) none ::
    MI.op (some 14) (.mov (.tmp 4)) (some (13, false)) ::
    MI.op (some 15) (.lenS (.tmp 14)) (some (13, false)) ::
    MI.op (some 16) (.bin .gtr (.tmp 15) (.c (.int .i64 4))) (some (13, false)) ::
    MI.op (some 17) (.pick (.tmp 13) (.c (.bool true)) (.tmp 16)) none ::
    MI.op (some 18) (.mov (.tmp 17)) none ::
    MI.op (some 19) (.mov (.tmp 4)) (some (18, false)) ::
    MI.op (some 20) (.call 60 [(.tmp 19), (.c (.str [97, 98, 99, 100, 101, 102, 103, 104, 105, 106, 107, 108, 109, 110, 111, 112, 113, 114, 115, 116, 117, 118, 119, 120, 121, 122]))]) (some (18, false)) ::
    m47_1))
  m47_2)
def m47_4 : MCode :=
 (.seq
  (.blk 1
   (.seq
    (.reg
     [MI.op (some 9) (.ixSl 1 (.tmp 5) (.tmp 7)) none,
      MI.op (some 10) (.load false 1 (.tmp 9)) none,
      MI.op (some 4) (.mov (.tmp 10)) none])
  m47_3))
  (.reg
   [MI.op (some 23) (.bin .add (.tmp 7) (.c (.int .i64 1))) none,
    MI.op (some 7) (.mov (.tmp 23)) none]))
def m47_5 : MCode :=
 (.seq
  (.cond (.tmp 8)
   .skip
   (.exit 0))
  m47_4)
def m47_6 : MCode :=
 (.seq
  (.reg
   [MI.op (some 8) (.bin .lss (.tmp 7) (.tmp 6)) none])
  m47_5)
def m47_7 : MCode :=
 (.blk 0
  (.loop
  m47_6))
def m47_8 : MCode :=
 (.seq
  (.seq
   (.reg
    [MI.op (some 5) (.mov (.tmp 0)) none,
     MI.op (some 6) (.len (.tmp 5)) none,
     MI.op (some 7) (.mov (.c (.int .i64 0))) none])
  m47_7)
  (.seq
   (.reg
    [MI.op (some 2) (.mov (.c (.bool true))) none])
   .ret))
def m47_r : List MRes := [.tmp 2]
def m47_b : MCode :=
 (.seq
  (.reg
   [MI.op (some 2) (.mov (.c (.bool false))) none])
  m47_8)
def m47 : MFunc := ⟨1, 24, m47_r, m47_b⟩
theorem c47 : compF Tryd.prog 47 m47 = some m47 := by kernel_rfl

/- tollhouse/tollhouseref10.Good -/
def m50_1 : MCode :=
 (.cond (.tmp 24)
  (.seq
   (.reg
    [MI.op (some 2) (.mov (.c (.bool false))) none])
   .ret)
  .skip)
def m50_2 : MCode :=
 (.cond (.tmp 49)
  (.seq
   (.reg
    [MI.op (some 2) (.mov (.c (.bool false))) none])
   .ret)
  .skip)
def m50_3 : MCode :=
 (.seq
  (.blk 3
   (.seq
    (.reg
     [MI.op (some 34) (.mov (.tmp 0)) none,
      MI.op (some 35) (.mov (.tmp 3)) none,
      MI.op (some 36) (.ixSl 1 (.tmp 34) (.tmp 35)) none,
      MI.op (some 37) (.load false 1 (.tmp 36)) none,
      MI.op (some 38) (.mov (.tmp 4)) none,
      MI.op (some 39) (.idxStr (.tmp 37) (.tmp 38)) none,
      MI.op (some 40) (.bin .lss (.tmp 39) (.c (.int .u8 97))) none,
      MI.op (some 41) (.mov (.tmp 40)) none,
      MI.op (some 42) (.mov (.tmp 0)) (some (41, false)),
      MI.op (some 43) (.mov (.tmp 3)) (some (41, false)),
      MI.op (some 44) (.ixSl 1 (.tmp 42) (.tmp 43)) (some (41, false)),
      MI.op (some 45) (.load false 1 (.tmp 44)) (some (41, false)),
      MI.op (some 46) (.mov (.tmp 4)) (some (41, false)),
      MI.op (some 47) (.idxStr (.tmp 45) (.tmp 46)) (some (41, false)),
      MI.op (some 48) (.bin .gtr (.tmp 47) (.c (.int .u8 122))) (some (41, false)),
      MI.op (some 49) (.pick (.tmp 41) (.c (.bool true)) (.tmp 48)) none])
  m50_2))
  (.reg
   [MI.op (some 32) (.mov (.tmp 4)) none,
    MI.op (some 33) (.bin .add (.tmp 32) (.c (.int .i64 1))) none,
    MI.op (some 4) (.mov (.tmp 33)) none]))
def m50_4 : MCode :=
 (.seq
  (.seq
   (.reg
    [MI.op (some 25) (.mov (.tmp 4)) none,
     MI.op (some 26) (.mov (.tmp 0)) none,
     MI.op (some 27) (.mov (.tmp 3)) none,
     MI.op (some 28) (.ixSl 1 (.tmp 26) (.tmp 27)) none,
     MI.op (some 29) (.load false 1 (.tmp 28)) none,
     MI.op (some 30) (.lenS (.tmp 29)) none,
     MI.op (some 31) (.bin .lss (.tmp 25) (.tmp 30)) none])
   (.cond (.tmp 31)
    .skip
    (.exit 2)))
  m50_3)
def m50_5 : MCode :=
 (.blk 2
  (.loop
  m50_4))
def m50_6 : MCode :=
 (.seq
  (.reg
   [MI.op (some 4) (.mov (.c (.int .i64 0))) none])
  m50_5)
def m50_7 : MCode :=
 (.seq
  (.blk 1
   (.seq
    (.seq
     (.reg
      [MI.op (some 11) (.mov (.tmp 0)) none,
       MI.op (some 12) (.mov (.tmp 3)) none,
       MI.op (some 13) (.ixSl 1 (.tmp 11) (.tmp 12)) none,
       MI.op (some 14) (.load false 1 (.tmp 13)) none,
       MI.op (some 15) (.lenS (.tmp 14)) none,
       MI.op (some 16) (.bin .lss (.tmp 15) (.c (.int .i64 1))) none,
       MI.op (some 17) (.mov (.tmp 16)) none,
       MI.op (some 18) (.mov (.tmp 0)) (some (17, false)),
       MI.op (some 19) (.mov (.tmp 3)) (some (17, false)),
       MI.op (some 20) (.ixSl 1 (.tmp 18) (.tmp 19)) (some (17, false)),
       MI.op (some 21) (.load false 1 (.tmp 20)) (some (17, false)),
       MI.op (some 22) (.lenS (.tmp 21)) (some (17, false)),
       MI.op (some 23) (.bin .gtr (.tmp 22) (.c (.int .i64 4))) (some (17, false)),
       MI.op (some 24) (.pick (.tmp 17) (.c (.bool true)) (.tmp 23)) none])
  m50_1)
  m50_6))
  (.reg
   [MI.op (some 9) (.mov (.tmp 3)) none,
    MI.op (some 10) (.bin .add (.tmp 9) (.c (.int .i64 1))) none,
    MI.op (some 3) (.mov (.tmp 10)) none]))
def m50_8 : MCode :=
 (.seq
  (.seq
   (.reg
    [MI.op (some 5) (.mov (.tmp 3)) none,
     MI.op (some 6) (.mov (.tmp 0)) none,
     MI.op (some 7) (.len (.tmp 6)) none,
     MI.op (some 8) (.bin .lss (.tmp 5) (.tmp 7)) none])
   (.cond (.tmp 8)
    .skip
    (.exit 0)))
  m50_7)
def m50_9 : MCode :=
 (.blk 0
  (.loop
  m50_8))
def m50_10 : MCode :=
 (.seq
  (.seq
   (.reg
    [MI.op (some 3) (.mov (.c (.int .i64 0))) none])
  m50_9)
  (.seq
   (.reg
    [MI.op (some 2) (.mov (.c (.bool true))) none])
   .ret))
def m50_r : List MRes := [.tmp 2]
def m50_b : MCode :=
 (.seq
  (.reg
   [MI.op (some 2) (.mov (.c (.bool false))) none])
  m50_10)
def m50 : MFunc := ⟨1, 50, m50_r, m50_b⟩
theorem c50 : compF Tryd.prog 50 m50 = some m50 := by kernel_rfl

/- tollhouse/names.Pad -/
def m55_1 : MCode :=
 (.seq
  (.reg
   [MI.op (some 7) (.load true 4 (.tmp 3)) none,
    MI.op none (.store 4 (.tmp 2) (.tmp 7)) none])
  .ret)
def m55_2 : MCode :=
 (.seq
  (.reg
   [MI.op (some 4) (.slArr 4 1 (.tmp 3) none none none) none,
    MI.op (some 5) (.mov (.tmp 0)) none,
    MI.op (some 6) (.copy 1 (.tmp 4) (.tmp 5)) none])
  m55_1)
def m55_3 : MCode :=
 (.seq
  (.reg
   [MI.op (some 3) (.alloc [(.int .u8 0), (.int .u8 0), (.int .u8 0), (.int .u8 0)]) none])
  m55_2)
def m55_r : List MRes := [.cell 2 true 4]
def m55_b : MCode :=
 (.seq
  (.reg
   [MI.op (some 2) (.alloc [(.int .u8 0), (.int .u8 0), (.int .u8 0), (.int .u8 0)]) none])
  m55_3)
def m55 : MFunc := ⟨1, 8, m55_r, m55_b⟩
theorem c55 : compF Tryd.prog 55 m55 = some m55 := by kernel_rfl

/- tollhouse/tollhouseref10.Pad -/
/- strings.TrimRight -/
def m66_1 : MCode :=
 (.seq
  (.reg
   [MI.op (some 13) (.mov (.tmp 0)) none,
    MI.op (some 4) (.mov (.tmp 13)) none])
  .ret)
def m66_2 : MCode :=
 (.cond (.tmp 12)
  m66_1
  .skip)
def m66_3 : MCode :=
 (.seq
  (.reg
   [MI.op (some 22) (.mov (.tmp 0)) none,
    MI.op (some 23) (.mov (.tmp 1)) none,
    MI.op (some 24) (.idxStr (.tmp 23) (.c (.int .i64 0))) none,
    MI.op (some 25) (.call 68 [(.tmp 22), (.tmp 24)]) none,
    MI.op (some 4) (.mov (.tmp 25)) none])
  .ret)
def m66_4 : MCode :=
 (.cond (.tmp 21)
  m66_3
  .skip)
def m66_5 : List MI :=
 [MI.op (some 26) (.mov (.tmp 28)) none,
  MI.op (some 29) (.ext (.tmp 26) 0) none,
  MI.op (some 30) (.ext (.tmp 26) 1) none,
  MI.op (some 5) (.alloc (List.replicate 256 (.bool false))) none,
  MI.op none (.store 256 (.tmp 5) (.tmp 29)) none,
  MI.op (some 6) (.mov (.tmp 30)) none]
def m66_6 : MCode :=
 (.seq
  (.reg
   [MI.op (some 32) (.mov (.tmp 0)) none,
    MI.op (some 33) (.calln 71 [(.tmp 32), (.tmp 5)]) none,
    MI.op (some 4) (.mov (.tmp 33)) none])
  .ret)
def m66_7 : MCode :=
 (.cond (.tmp 31)
  m66_6
  .skip)
def m66_8 : MCode :=
 (.seq
  (.reg
   [MI.op (some 31) (.mov (.tmp 6)) none])
  m66_7)
def m66_9 : MCode :=
 (.seq
  (.reg
   [MI.op (some 34) (.mov (.tmp 0)) none,
    MI.op (some 35) (.mov (.tmp 1)) none,
    MI.op (some 36) (.call 73 [(.tmp 34), (.tmp 35)]) none,
    MI.op (some 4) (.mov (.tmp 36)) none])
  .ret)
def m66_10 : MCode :=
 (.seq
  (.seq
   (.reg
    (MI.op (some 27) (.mov (.tmp 1)) none ::
     MI.op (some 28) (.call 69 [(.tmp 27)]) none ::
     m66_5))
  m66_8)
  m66_9)
def m66_11 : MCode :=
 (.seq
  (.seq
   (.reg
    [MI.op (some 14) (.mov (.tmp 1)) none,
     MI.op (some 15) (.lenS (.tmp 14)) none,
     MI.op (some 16) (.bin .eql (.tmp 15) (.c (.int .i64 1))) none,
     MI.op (some 17) (.mov (.tmp 16)) none,
     MI.op (some 18) (.mov (.tmp 1)) (some (17, true)),
     MI.op (some 19) (.idxStr (.tmp 18) (.c (.int .i64 0))) (some (17, true)),
     MI.op (some 20) (.bin .lss (.tmp 19) (.c (.int .u8 128))) (some (17, true)),
     MI.op (some 21) (.pick (.tmp 17) (.tmp 20) (.c (.bool false))) none])
  m66_4)
  m66_10)
def m66_12 : MCode :=
 (.seq
  (.seq
   (.reg
    [MI.op (some 7) (.mov (.tmp 0)) none,
     MI.op (some 8) (.bin .eql (.tmp 7) (.c (.str []))) none,
     MI.op (some 9) (.mov (.tmp 8)) none,
     MI.op (some 10) (.mov (.tmp 1)) (some (9, false)),
     MI.op (some 11) (.bin .eql (.tmp 10) (.c (.str []))) (some (9, false)),
     MI.op (some 12) (.pick (.tmp 9) (.c (.bool true)) (.tmp 11)) none])
  m66_2)
  m66_11)
def m66_r : List MRes := [.tmp 4]
def m66_b : MCode :=
 (.seq
  (.reg
   [MI.op (some 4) (.mov (.c (.str []))) none])
  m66_12)
def m66 : MFunc := ⟨2, 37, m66_r, m66_b⟩
theorem c66 : compF Tryd.prog 66 m66 = some m66 := by kernel_rfl

/- strings.Trim -/
def m60_1 : MCode :=
 (.seq
  (.reg
   [MI.op (some 13) (.mov (.tmp 0)) none,
    MI.op (some 4) (.mov (.tmp 13)) none])
  .ret)
def m60_2 : MCode :=
 (.cond (.tmp 12)
  m60_1
  .skip)
def m60_3 : MCode :=
 (.seq
  (.drw
   [MI.op (some 22) (.mov (.tmp 0)) none,
    MI.op (some 23) (.mov (.tmp 1)) none,
    MI.op (some 24) (.idxStr (.tmp 23) (.c (.int .i64 0))) none,
    MI.op (some 25) (.call 68 [(.tmp 22), (.tmp 24)]) none,
    MI.op (some 26) (.mov (.tmp 1)) none,
    MI.op (some 27) (.idxStr (.tmp 26) (.c (.int .i64 0))) none]
   [MI.op (some 28) (.call 67 [(.tmp 25), (.tmp 27)]) none,
    MI.op (some 4) (.mov (.tmp 28)) none])
  .ret)
def m60_4 : MCode :=
 (.cond (.tmp 21)
  m60_3
  .skip)
def m60_5 : List MI :=
 [MI.op (some 29) (.mov (.tmp 31)) none,
  MI.op (some 32) (.ext (.tmp 29) 0) none,
  MI.op (some 33) (.ext (.tmp 29) 1) none,
  MI.op (some 5) (.alloc (List.replicate 256 (.bool false))) none,
  MI.op none (.store 256 (.tmp 5) (.tmp 32)) none,
  MI.op (some 6) (.mov (.tmp 33)) none]
def m60_6 : List MI :=
 [MI.op (some 37) (.calln 70 [(.tmp 36), (.tmp 5)]) none,
  MI.op (some 4) (.mov (.tmp 37)) none]
def m60_7 : MCode :=
 (.seq
  (.reg
   (MI.op (some 35) (.mov (.tmp 0)) none ::
    MI.op (some 36) (.calln 71 [(.tmp 35), (.tmp 5)]) none ::
    m60_6))
  .ret)
def m60_8 : MCode :=
 (.cond (.tmp 34)
  m60_7
  .skip)
def m60_9 : MCode :=
 (.seq
  (.reg
   [MI.op (some 34) (.mov (.tmp 6)) none])
  m60_8)
def m60_10 : List MI :=
 [MI.op (some 41) (.mov (.tmp 1)) none,
  MI.op (some 42) (.call 72 [(.tmp 40), (.tmp 41)]) none,
  MI.op (some 4) (.mov (.tmp 42)) none]
def m60_11 : MCode :=
 (.seq
  (.reg
   (MI.op (some 38) (.mov (.tmp 0)) none ::
    MI.op (some 39) (.mov (.tmp 1)) none ::
    MI.op (some 40) (.call 73 [(.tmp 38), (.tmp 39)]) none ::
    m60_10))
  .ret)
def m60_12 : MCode :=
 (.seq
  (.seq
   (.reg
    (MI.op (some 30) (.mov (.tmp 1)) none ::
     MI.op (some 31) (.call 69 [(.tmp 30)]) none ::
     m60_5))
  m60_9)
  m60_11)
def m60_13 : MCode :=
 (.seq
  (.seq
   (.reg
    [MI.op (some 14) (.mov (.tmp 1)) none,
     MI.op (some 15) (.lenS (.tmp 14)) none,
     MI.op (some 16) (.bin .eql (.tmp 15) (.c (.int .i64 1))) none,
     MI.op (some 17) (.mov (.tmp 16)) none,
     MI.op (some 18) (.mov (.tmp 1)) (some (17, true)),
     MI.op (some 19) (.idxStr (.tmp 18) (.c (.int .i64 0))) (some (17, true)),
     MI.op (some 20) (.bin .lss (.tmp 19) (.c (.int .u8 128))) (some (17, true)),
     MI.op (some 21) (.pick (.tmp 17) (.tmp 20) (.c (.bool false))) none])
  m60_4)
  m60_12)
def m60_14 : MCode :=
 (.seq
  (.seq
   (.reg
    [MI.op (some 7) (.mov (.tmp 0)) none,
     MI.op (some 8) (.bin .eql (.tmp 7) (.c (.str []))) none,
     MI.op (some 9) (.mov (.tmp 8)) none,
     MI.op (some 10) (.mov (.tmp 1)) (some (9, false)),
     MI.op (some 11) (.bin .eql (.tmp 10) (.c (.str []))) (some (9, false)),
     MI.op (some 12) (.pick (.tmp 9) (.c (.bool true)) (.tmp 11)) none])
  m60_2)
  m60_13)
def m60_r : List MRes := [.tmp 4]
def m60_b : MCode :=
 (.seq
  (.reg
   [MI.op (some 4) (.mov (.c (.str []))) none])
  m60_14)
def m60 : MFunc := ⟨2, 43, m60_r, m60_b⟩
theorem c60 : compF Tryd.prog 60 m60 = some m60 := by kernel_rfl

/- strings.trimRightByte -/
def m68_1 : MCode :=
 (.blk 1
  (.reg
   [MI.op (some 17) (.mov (.tmp 0)) none,
    MI.op (some 18) (.mov (.tmp 0)) none,
    MI.op (some 19) (.lenS (.tmp 18)) none,
    MI.op (some 20) (.bin .sub (.tmp 19) (.c (.int .i64 1))) none,
    MI.op (some 21) (.slStr (.tmp 17) none (some (.tmp 20))) none,
    MI.op (some 0) (.mov (.tmp 21)) none]))
def m68_2 : MCode :=
 (.seq
  (.seq
   (.reg
    [MI.op (some 5) (.mov (.tmp 0)) none,
     MI.op (some 6) (.lenS (.tmp 5)) none,
     MI.op (some 7) (.bin .gtr (.tmp 6) (.c (.int .i64 0))) none,
     MI.op (some 8) (.mov (.tmp 7)) none,
     MI.op (some 9) (.mov (.tmp 0)) (some (8, true)),
     MI.op (some 10) (.mov (.tmp 0)) (some (8, true)),
     MI.op (some 11) (.lenS (.tmp 10)) (some (8, true)),
     MI.op (some 12) (.bin .sub (.tmp 11) (.c (.int .i64 1))) (some (8, true)),
     MI.op (some 13) (.idxStr (.tmp 9) (.tmp 12)) (some (8, true)),
     MI.op (some 14) (.mov (.tmp 1)) (some (8, true)),
     MI.op (some 15) (.bin .eql (.tmp 13) (.tmp 14)) (some (8, true)),
     MI.op (some 16) (.pick (.tmp 8) (.tmp 15) (.c (.bool false))) none])
   (.cond (.tmp 16)
    .skip
    (.exit 0)))
  m68_1)
def m68_3 : MCode :=
 (.seq
  (.reg
   [MI.op (some 22) (.mov (.tmp 0)) none,
    MI.op (some 4) (.mov (.tmp 22)) none])
  .ret)
def m68_4 : MCode :=
 (.seq
  (.blk 0
   (.loop
  m68_2))
  m68_3)
def m68_r : List MRes := [.tmp 4]
def m68_b : MCode :=
 (.seq
  (.reg
   [MI.op (some 4) (.mov (.c (.str []))) none])
  m68_4)
def m68 : MFunc := ⟨2, 23, m68_r, m68_b⟩
theorem c68 : compF Tryd.prog 68 m68 = some m68 := by kernel_rfl

/- strings.makeASCIISet -/
def m69_1 : MCode :=
 (.seq
  (.reg
   [MI.op (some 17) (.load true 256 (.tmp 2)) none,
    MI.op none (.store 256 (.tmp 2) (.tmp 17)) none,
    MI.op (some 3) (.mov (.c (.bool false))) none])
  .ret)
def m69_2 : MCode :=
 (.cond (.tmp 16)
  m69_1
  .skip)
def m69_3 : MCode :=
 (.seq
  (.seq
   (.reg
    [MI.op (some 15) (.mov (.tmp 5)) none,
     MI.op (some 16) (.bin .geq (.tmp 15) (.c (.int .u8 128))) none])
  m69_2)
  (.reg
   [MI.op (some 18) (.mov (.tmp 5)) none,
    MI.op (some 19) (.ixArr 256 1 (.tmp 2) (.tmp 18)) none,
    MI.op none (.store 1 (.tmp 19) (.c (.bool true))) none]))
def m69_4 : MCode :=
 (.seq
  (.blk 1
   (.seq
    (.reg
     [MI.op (some 12) (.mov (.tmp 0)) none,
      MI.op (some 13) (.mov (.tmp 4)) none,
      MI.op (some 14) (.idxStr (.tmp 12) (.tmp 13)) none,
      MI.op (some 5) (.mov (.tmp 14)) none])
  m69_3))
  (.reg
   [MI.op (some 10) (.mov (.tmp 4)) none,
    MI.op (some 11) (.bin .add (.tmp 10) (.c (.int .i64 1))) none,
    MI.op (some 4) (.mov (.tmp 11)) none]))
def m69_5 : MCode :=
 (.seq
  (.seq
   (.reg
    [MI.op (some 6) (.mov (.tmp 4)) none,
     MI.op (some 7) (.mov (.tmp 0)) none,
     MI.op (some 8) (.lenS (.tmp 7)) none,
     MI.op (some 9) (.bin .lss (.tmp 6) (.tmp 8)) none])
   (.cond (.tmp 9)
    .skip
    (.exit 0)))
  m69_4)
def m69_6 : MCode :=
 (.blk 0
  (.loop
  m69_5))
def m69_7 : MCode :=
 (.seq
  (.reg
   [MI.op (some 20) (.load true 256 (.tmp 2)) none,
    MI.op none (.store 256 (.tmp 2) (.tmp 20)) none,
    MI.op (some 3) (.mov (.c (.bool true))) none])
  .ret)
def m69_8 : MCode :=
 (.seq
  (.seq
   (.reg
    [MI.op (some 4) (.mov (.c (.int .i64 0))) none])
  m69_6)
  m69_7)
def m69_r : List MRes := [.cell 2 true 256, .tmp 3]
def m69_b : MCode :=
 (.seq
  (.reg
   [MI.op (some 2) (.alloc (List.replicate 256 (.bool false))) none,
    MI.op (some 3) (.mov (.c (.bool false))) none])
  m69_8)
def m69 : MFunc := ⟨1, 21, m69_r, m69_b⟩
theorem c69 : compF Tryd.prog 69 m69 = some m69 := by kernel_rfl

/- strings.trimRightASCII -/
def m71_1 : MCode :=
 (.reg
  [MI.op (some 16) (.mov (.tmp 0)) none,
   MI.op (some 17) (.mov (.tmp 0)) none,
   MI.op (some 18) (.lenS (.tmp 17)) none,
   MI.op (some 19) (.bin .sub (.tmp 18) (.c (.int .i64 1))) none,
   MI.op (some 20) (.slStr (.tmp 16) none (some (.tmp 19))) none,
   MI.op (some 0) (.mov (.tmp 20)) none])
def m71_2 : MCode :=
 (.blk 1
  (.seq
   (.seq
    (.reg
     [MI.op (some 8) (.mov (.tmp 1)) none,
      MI.op (some 9) (.mov (.tmp 0)) none,
      MI.op (some 10) (.mov (.tmp 0)) none,
      MI.op (some 11) (.lenS (.tmp 10)) none,
      MI.op (some 12) (.bin .sub (.tmp 11) (.c (.int .i64 1))) none,
      MI.op (some 13) (.idxStr (.tmp 9) (.tmp 12)) none,
      MI.op (some 14) (.calln 77 [(.tmp 8), (.tmp 13)]) none,
      MI.op (some 15) (.un .not (.tmp 14)) none])
    (.cond (.tmp 15)
     (.exit 0)
     .skip))
  m71_1))
def m71_3 : MCode :=
 (.seq
  (.seq
   (.reg
    [MI.op (some 5) (.mov (.tmp 0)) none,
     MI.op (some 6) (.lenS (.tmp 5)) none,
     MI.op (some 7) (.bin .gtr (.tmp 6) (.c (.int .i64 0))) none])
   (.cond (.tmp 7)
    .skip
    (.exit 0)))
  m71_2)
def m71_4 : MCode :=
 (.seq
  (.reg
   [MI.op (some 21) (.mov (.tmp 0)) none,
    MI.op (some 4) (.mov (.tmp 21)) none])
  .ret)
def m71_5 : MCode :=
 (.seq
  (.blk 0
   (.loop
  m71_3))
  m71_4)
def m71_r : List MRes := [.tmp 4]
def m71_b : MCode :=
 (.seq
  (.reg
   [MI.op (some 4) (.mov (.c (.str []))) none])
  m71_5)
def m71 : MFunc := ⟨2, 22, m71_r, m71_b⟩
theorem c71 : compF Tryd.prog 71 m71 = some m71 := by kernel_rfl

/- strings.trimLeftASCII -/
def m70_1 : MCode :=
 (.blk 1
  (.seq
   (.seq
    (.reg
     [MI.op (some 8) (.mov (.tmp 1)) none,
      MI.op (some 9) (.mov (.tmp 0)) none,
      MI.op (some 10) (.idxStr (.tmp 9) (.c (.int .i64 0))) none,
      MI.op (some 11) (.calln 77 [(.tmp 8), (.tmp 10)]) none,
      MI.op (some 12) (.un .not (.tmp 11)) none])
    (.cond (.tmp 12)
     (.exit 0)
     .skip))
   (.reg
    [MI.op (some 13) (.mov (.tmp 0)) none,
     MI.op (some 14) (.slStr (.tmp 13) (some (.c (.int .i64 1))) none) none,
     MI.op (some 0) (.mov (.tmp 14)) none])))
def m70_2 : MCode :=
 (.seq
  (.seq
   (.reg
    [MI.op (some 5) (.mov (.tmp 0)) none,
     MI.op (some 6) (.lenS (.tmp 5)) none,
     MI.op (some 7) (.bin .gtr (.tmp 6) (.c (.int .i64 0))) none])
   (.cond (.tmp 7)
    .skip
    (.exit 0)))
  m70_1)
def m70_3 : MCode :=
 (.seq
  (.reg
   [MI.op (some 15) (.mov (.tmp 0)) none,
    MI.op (some 4) (.mov (.tmp 15)) none])
  .ret)
def m70_4 : MCode :=
 (.seq
  (.blk 0
   (.loop
  m70_2))
  m70_3)
def m70_r : List MRes := [.tmp 4]
def m70_b : MCode :=
 (.seq
  (.reg
   [MI.op (some 4) (.mov (.c (.str []))) none])
  m70_4)
def m70 : MFunc := ⟨2, 16, m70_r, m70_b⟩
theorem c70 : compF Tryd.prog 70 m70 = some m70 := by kernel_rfl

/- (*strings.asciiSet).contains -/
def m77_1 : MCode :=
 (.seq
  (.reg
   [MI.op (some 5) (.mov (.tmp 0)) none,
    MI.op (some 6) (.mov (.tmp 1)) none,
    MI.op (some 7) (.chk (.tmp 5)) none,
    MI.op (some 8) (.ixArr 256 1 (.tmp 7) (.tmp 6)) none,
    MI.op (some 9) (.load false 1 (.tmp 8)) none,
    MI.op (some 4) (.mov (.tmp 9)) none])
  .ret)
def m77_r : List MRes := [.tmp 4]
def m77_b : MCode :=
 (.seq
  (.reg
   [MI.op (some 4) (.mov (.c (.bool false))) none])
  m77_1)
def m77 : MFunc := ⟨2, 10, m77_r, m77_b⟩
theorem c77 : compF Tryd.prog 77 m77 = some m77 := by kernel_rfl

end Go.Proofs.YtilbipknodpmmaaDoor
