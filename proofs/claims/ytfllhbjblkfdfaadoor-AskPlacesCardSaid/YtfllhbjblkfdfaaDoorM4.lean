/- The loaded functions as texts of the ideal machine (written by a program of ours), and that they are the loaded ones. -/
import Derived.Test.YtfllhbjblkfdfaaDoorE31
import Derived.Test.YtfllhbjblkfdfaaDoorProg
set_option linter.unusedVariables false
namespace Go.Proofs.YtfllhbjblkfdfaaDoor
open Go.RowKit

/- tollhouse/names.Cut -/
def m24_1 : List MI :=
 [MI.op (some 14) (.un .not (.tmp 13)) (some (10, true)),
  MI.op (some 15) (.pick (.tmp 10) (.tmp 14) (.c (.bool false))) none]
def m24_2 : MCode :=
 (.seq
  (.reg
   [MI.op (some 2) (.mov (.c (.str []))) none,
    MI.op (some 3) (.mov (.c (.bool false))) none])
  .ret)
def m24_3 : MCode :=
 (.cond (.tmp 15)
  m24_2
  .skip)
def m24_4 : MCode :=
 (.seq
  (.reg
   [MI.op (some 16) (.mov (.tmp 4)) none,
    MI.op (some 2) (.mov (.tmp 16)) none,
    MI.op (some 3) (.mov (.c (.bool true))) none])
  .ret)
def m24_5 : MCode :=
 (.seq
  (.seq
   (.reg
    (MI.op (some 8) (.mov (.tmp 4)) none ::
     MI.op (some 9) (.bin .neq (.tmp 8) (.c (.str []))) none ::
     MI.op (some 10) (.mov (.tmp 9)) none ::
     MI.op (some 11) (.mov (.tmp 4)) (some (10, true)) ::
     MI.op (some 12) (.bsl 1 1 [(.str [])] [(0, 1, (.tmp 11))]) (some (10, true)) ::
     MI.op (some 13) (.call 17 [(.tmp 12)]) (some (10, true)) ::
     m24_1))
  m24_3)
  m24_4)
def m24_6 : MCode :=
 (.seq
  (.reg
   [MI.op (some 5) (.slArr 4 1 (.tmp 1) none none none) none,
    MI.op (some 6) (.toStr (.tmp 5)) none,
    MI.op (some 7) (.call 35 [(.tmp 6), (.c (.str [0]))]) none,
    MI.op (some 4) (.mov (.tmp 7)) none])
  m24_5)
def m24_r : List MRes := [.tmp 2, .tmp 3]
def m24_b : MCode :=
 (.seq
  (.reg
   [MI.op (some 1) (.box (.tmp 0)) none,
    MI.op (some 2) (.mov (.c (.str []))) none,
    MI.op (some 3) (.mov (.c (.bool false))) none])
  m24_6)
def m24 : MFunc := ⟨1, 17, m24_r, m24_b⟩
theorem c24 : compF Tryd.prog 24 m24 = some m24 := by kernel_rfl

/- tollhouse/tollhouseref10.Cut -/
def m27_1 : MCode :=
 (.blk 1
  (.reg
   [MI.op (some 13) (.mov (.tmp 3)) none,
    MI.op (some 14) (.bin .add (.tmp 13) (.c (.int .i64 1))) none,
    MI.op (some 3) (.mov (.tmp 14)) none]))
def m27_2 : MCode :=
 (.seq
  (.seq
   (.reg
    [MI.op (some 5) (.mov (.tmp 3)) none,
     MI.op (some 6) (.bin .lss (.tmp 5) (.c (.int .i64 4))) none,
     MI.op (some 7) (.mov (.tmp 6)) none,
     MI.op (some 8) (.mov (.tmp 3)) (some (7, true)),
     MI.op (some 9) (.ixArr 4 1 (.tmp 1) (.tmp 8)) (some (7, true)),
     MI.op (some 10) (.load false 1 (.tmp 9)) (some (7, true)),
     MI.op (some 11) (.bin .neq (.tmp 10) (.c (.int .u8 0))) (some (7, true)),
     MI.op (some 12) (.pick (.tmp 7) (.tmp 11) (.c (.bool false))) none])
   (.cond (.tmp 12)
    .skip
    (.exit 0)))
  m27_1)
def m27_3 : MCode :=
 (.seq
  (.reg
   [MI.op (some 32) (.build [(.str []), (.bool false)] []) none,
    MI.op none (.store 2 (.tmp 2) (.tmp 32)) none])
  .ret)
def m27_4 : MCode :=
 (.cond (.tmp 31)
  m27_3
  .skip)
def m27_5 : MCode :=
 (.seq
  (.reg
   [MI.op (some 33) (.mov (.tmp 4)) none,
    MI.op (some 34) (.build [(.str []), (.bool false)] [(0, 1, (.tmp 33)), (1, 1, (.c (.bool true)))]) none,
    MI.op none (.store 2 (.tmp 2) (.tmp 34)) none])
  .ret)
def m27_6 : MCode :=
 (.seq
  (.seq
   (.drw
    [MI.op (some 18) (.mov (.tmp 4)) none,
     MI.op (some 19) (.call 21 [(.tmp 18)]) none,
     MI.op (some 20) (.load true 4 (.tmp 1)) none]
    [MI.op (some 21) (.eqv true [(4, .i)] (.tmp 19) (.tmp 20)) none,
     MI.op (some 22) (.mov (.tmp 21)) none,
     MI.op (some 23) (.mov (.tmp 3)) (some (22, false)),
     MI.op (some 24) (.bin .gtr (.tmp 23) (.c (.int .i64 0))) (some (22, false)),
     MI.op (some 25) (.mov (.tmp 24)) (some (22, false)),
     MI.op (some 26) (.mov (.tmp 4)) (some (25, true)),
     MI.op (some 27) (.bsl 1 1 [(.str [])] [(0, 1, (.tmp 26))]) (some (25, true)),
     MI.op (some 28) (.call 20 [(.tmp 27)]) (some (25, true)),
     MI.op (some 29) (.un .not (.tmp 28)) (some (25, true)),
     MI.op (some 30) (.pick (.tmp 25) (.tmp 29) (.c (.bool false))) (some (22, false)),
     MI.op (some 31) (.pick (.tmp 22) (.c (.bool true)) (.tmp 30)) none])
  m27_4)
  m27_5)
def m27_7 : MCode :=
 (.seq
  (.reg
   [MI.op (some 15) (.mov (.tmp 3)) none,
    MI.op (some 16) (.slArr 4 1 (.tmp 1) none (some (.tmp 15)) none) none,
    MI.op (some 17) (.toStr (.tmp 16)) none,
    MI.op (some 4) (.mov (.tmp 17)) none])
  m27_6)
def m27_8 : MCode :=
 (.seq
  (.blk 0
   (.loop
  m27_2))
  m27_7)
def m27_9 : MCode :=
 (.seq
  (.reg
   [MI.op (some 3) (.mov (.c (.int .i64 0))) none])
  m27_8)
def m27_r : List MRes := [.cell 2 true 2]
def m27_b : MCode :=
 (.seq
  (.reg
   [MI.op (some 1) (.box (.tmp 0)) none,
    MI.op (some 2) (.alloc [(.str []), (.bool false)]) none])
  m27_9)
def m27 : MFunc := ⟨1, 35, m27_r, m27_b⟩
theorem c27 : compF Tryd.prog 27 m27 = some m27 := by kernel_rfl

/- tollhouse/names.Good -/
def m17_1 : List MI :=
 [MI.op (some 21) (.bin .neq (.tmp 20) (.c (.str []))) (some (18, false)),
  MI.op (some 22) (.pick (.tmp 18) (.c (.bool true)) (.tmp 21)) none]
def m17_2 : MCode :=
 (.cond (.tmp 22)
  (.seq
   (.reg
    [MI.op (some 2) (.mov (.c (.bool false))) none])
   .ret)
  .skip)
def m17_3 : MCode :=
 (.seq
  (.reg
   (MI.op (some 11) (.mov (.tmp 4)) none ::
    MI.op (some 12) (.bin .eql (.tmp 11) (.c (.str []))) none ::
    MI.op (some 13) (.mov (.tmp 12)) none ::
    MI.op (some 14) (.mov (.tmp 4)) (some (13, false)) ::
    MI.op (some 15) (.lenS (.tmp 14)) (some (13, false)) ::
    MI.op (some 16) (.bin .gtr (.tmp 15) (.c (.int .i64 4))) (some (13, false)) ::
    MI.op (some 17) (.pick (.tmp 13) (.c (.bool true)) (.tmp 16)) none ::
    MI.op (some 18) (.mov (.tmp 17)) none ::
    MI.op (some 19) (.mov (.tmp 4)) (some (18, false)) ::
    MI.op (some 20) (.call 30 [(.tmp 19), (.c (.str [97, 98, 99, 100, 101, 102, 103, 104, 105, 106, 107, 108, 109, 110, 111, 112, 113, 114, 115, 116, 117, 118, 119, 120, 121, 122]))]) (some (18, false)) ::
    m17_1))
  m17_2)
def m17_4 : MCode :=
 (.seq
  (.blk 1
   (.seq
    (.reg
     [MI.op (some 9) (.ixSl 1 (.tmp 5) (.tmp 7)) none,
      MI.op (some 10) (.load false 1 (.tmp 9)) none,
      MI.op (some 4) (.mov (.tmp 10)) none])
  m17_3))
  (.reg
   [MI.op (some 23) (.bin .add (.tmp 7) (.c (.int .i64 1))) none,
    MI.op (some 7) (.mov (.tmp 23)) none]))
def m17_5 : MCode :=
 (.seq
  (.cond (.tmp 8)
   .skip
   (.exit 0))
  m17_4)
def m17_6 : MCode :=
 (.seq
  (.reg
   [MI.op (some 8) (.bin .lss (.tmp 7) (.tmp 6)) none])
  m17_5)
def m17_7 : MCode :=
 (.blk 0
  (.loop
  m17_6))
def m17_8 : MCode :=
 (.seq
  (.seq
   (.reg
    [MI.op (some 5) (.mov (.tmp 0)) none,
     MI.op (some 6) (.len (.tmp 5)) none,
     MI.op (some 7) (.mov (.c (.int .i64 0))) none])
  m17_7)
  (.seq
   (.reg
    [MI.op (some 2) (.mov (.c (.bool true))) none])
   .ret))
def m17_r : List MRes := [.tmp 2]
def m17_b : MCode :=
 (.seq
  (.reg
   [MI.op (some 2) (.mov (.c (.bool false))) none])
  m17_8)
def m17 : MFunc := ⟨1, 24, m17_r, m17_b⟩
theorem c17 : compF Tryd.prog 17 m17 = some m17 := by kernel_rfl

/- tollhouse/tollhouseref10.Good -/
def m20_1 : MCode :=
 (.cond (.tmp 24)
  (.seq
   (.reg
    [MI.op (some 2) (.mov (.c (.bool false))) none])
   .ret)
  .skip)
def m20_2 : MCode :=
 (.cond (.tmp 49)
  (.seq
   (.reg
    [MI.op (some 2) (.mov (.c (.bool false))) none])
   .ret)
  .skip)
def m20_3 : MCode :=
 (.seq
  (.blk 3
   (.seq
    (.reg
     [MI.op (some 34) (.mov (.tmp 0)) none,
      MI.op (some 35) (.mov (.tmp 3)) none,
      MI.op (some 36) (.ixSl 1 (.tmp 34) (.tmp 35)) none,
      MI.op (some 37) (.load false 1 (.tmp 36)) none,
      MI.op (some 38) (.mov (.tmp 4)) none,
      MI.op (some 39) (.idxStr (.tmp 37) (.tmp 38)) none,
      MI.op (some 40) (.bin .lss (.tmp 39) (.c (.int .u8 97))) none,
      MI.op (some 41) (.mov (.tmp 40)) none,
      MI.op (some 42) (.mov (.tmp 0)) (some (41, false)),
      MI.op (some 43) (.mov (.tmp 3)) (some (41, false)),
      MI.op (some 44) (.ixSl 1 (.tmp 42) (.tmp 43)) (some (41, false)),
      MI.op (some 45) (.load false 1 (.tmp 44)) (some (41, false)),
      MI.op (some 46) (.mov (.tmp 4)) (some (41, false)),
      MI.op (some 47) (.idxStr (.tmp 45) (.tmp 46)) (some (41, false)),
      MI.op (some 48) (.bin .gtr (.tmp 47) (.c (.int .u8 122))) (some (41, false)),
      MI.op (some 49) (.pick (.tmp 41) (.c (.bool true)) (.tmp 48)) none])
  m20_2))
  (.reg
   [MI.op (some 32) (.mov (.tmp 4)) none,
    MI.op (some 33) (.bin .add (.tmp 32) (.c (.int .i64 1))) none,
    MI.op (some 4) (.mov (.tmp 33)) none]))
def m20_4 : MCode :=
 (.seq
  (.seq
   (.reg
    [MI.op (some 25) (.mov (.tmp 4)) none,
     MI.op (some 26) (.mov (.tmp 0)) none,
     MI.op (some 27) (.mov (.tmp 3)) none,
     MI.op (some 28) (.ixSl 1 (.tmp 26) (.tmp 27)) none,
     MI.op (some 29) (.load false 1 (.tmp 28)) none,
     MI.op (some 30) (.lenS (.tmp 29)) none,
     MI.op (some 31) (.bin .lss (.tmp 25) (.tmp 30)) none])
   (.cond (.tmp 31)
    .skip
    (.exit 2)))
  m20_3)
def m20_5 : MCode :=
 (.blk 2
  (.loop
  m20_4))
def m20_6 : MCode :=
 (.seq
  (.reg
   [MI.op (some 4) (.mov (.c (.int .i64 0))) none])
  m20_5)
def m20_7 : MCode :=
 (.seq
  (.blk 1
   (.seq
    (.seq
     (.reg
      [MI.op (some 11) (.mov (.tmp 0)) none,
       MI.op (some 12) (.mov (.tmp 3)) none,
       MI.op (some 13) (.ixSl 1 (.tmp 11) (.tmp 12)) none,
       MI.op (some 14) (.load false 1 (.tmp 13)) none,
       MI.op (some 15) (.lenS (.tmp 14)) none,
       MI.op (some 16) (.bin .lss (.tmp 15) (.c (.int .i64 1))) none,
       MI.op (some 17) (.mov (.tmp 16)) none,
       MI.op (some 18) (.mov (.tmp 0)) (some (17, false)),
       MI.op (some 19) (.mov (.tmp 3)) (some (17, false)),
       MI.op (some 20) (.ixSl 1 (.tmp 18) (.tmp 19)) (some (17, false)),
       MI.op (some 21) (.load false 1 (.tmp 20)) (some (17, false)),
       MI.op (some 22) (.lenS (.tmp 21)) (some (17, false)),
       MI.op (some 23) (.bin .gtr (.tmp 22) (.c (.int .i64 4))) (some (17, false)),
       MI.op (some 24) (.pick (.tmp 17) (.c (.bool true)) (.tmp 23)) none])
  m20_1)
  m20_6))
  (.reg
   [MI.op (some 9) (.mov (.tmp 3)) none,
    MI.op (some 10) (.bin .add (.tmp 9) (.c (.int .i64 1))) none,
    MI.op (some 3) (.mov (.tmp 10)) none]))
def m20_8 : MCode :=
 (.seq
  (.seq
   (.reg
    [MI.op (some 5) (.mov (.tmp 3)) none,
     MI.op (some 6) (.mov (.tmp 0)) none,
     MI.op (some 7) (.len (.tmp 6)) none,
     MI.op (some 8) (.bin .lss (.tmp 5) (.tmp 7)) none])
   (.cond (.tmp 8)
    .skip
    (.exit 0)))
  m20_7)
def m20_9 : MCode :=
 (.blk 0
  (.loop
  m20_8))
def m20_10 : MCode :=
 (.seq
  (.seq
   (.reg
    [MI.op (some 3) (.mov (.c (.int .i64 0))) none])
  m20_9)
  (.seq
   (.reg
    [MI.op (some 2) (.mov (.c (.bool true))) none])
   .ret))
def m20_r : List MRes := [.tmp 2]
def m20_b : MCode :=
 (.seq
  (.reg
   [MI.op (some 2) (.mov (.c (.bool false))) none])
  m20_10)
def m20 : MFunc := ⟨1, 50, m20_r, m20_b⟩
theorem c20 : compF Tryd.prog 20 m20 = some m20 := by kernel_rfl

/- tollhouse/names.Pad -/
def m15_1 : MCode :=
 (.seq
  (.reg
   [MI.op (some 7) (.load true 4 (.tmp 3)) none,
    MI.op none (.store 4 (.tmp 2) (.tmp 7)) none])
  .ret)
def m15_2 : MCode :=
 (.seq
  (.reg
   [MI.op (some 4) (.slArr 4 1 (.tmp 3) none none none) none,
    MI.op (some 5) (.mov (.tmp 0)) none,
    MI.op (some 6) (.copy 1 (.tmp 4) (.tmp 5)) none])
  m15_1)
def m15_3 : MCode :=
 (.seq
  (.reg
   [MI.op (some 3) (.alloc [(.int .u8 0), (.int .u8 0), (.int .u8 0), (.int .u8 0)]) none])
  m15_2)
def m15_r : List MRes := [.cell 2 true 4]
def m15_b : MCode :=
 (.seq
  (.reg
   [MI.op (some 2) (.alloc [(.int .u8 0), (.int .u8 0), (.int .u8 0), (.int .u8 0)]) none])
  m15_3)
def m15 : MFunc := ⟨1, 8, m15_r, m15_b⟩
theorem c15 : compF Tryd.prog 15 m15 = some m15 := by kernel_rfl

/- tollhouse/tollhouseref10.Pad -/
def m21_1 : MCode :=
 (.seq
  (.blk 1
   (.reg
    [MI.op (some 15) (.mov (.tmp 4)) none,
     MI.op (some 16) (.mov (.tmp 0)) none,
     MI.op (some 17) (.mov (.tmp 4)) none,
     MI.op (some 18) (.idxStr (.tmp 16) (.tmp 17)) none,
     MI.op (some 19) (.ixArr 4 1 (.tmp 3) (.tmp 15)) none,
     MI.op none (.store 1 (.tmp 19) (.tmp 18)) none]))
  (.reg
   [MI.op (some 13) (.mov (.tmp 4)) none,
    MI.op (some 14) (.bin .add (.tmp 13) (.c (.int .i64 1))) none,
    MI.op (some 4) (.mov (.tmp 14)) none]))
def m21_2 : MCode :=
 (.seq
  (.seq
   (.reg
    [MI.op (some 5) (.mov (.tmp 4)) none,
     MI.op (some 6) (.bin .lss (.tmp 5) (.c (.int .i64 4))) none,
     MI.op (some 7) (.mov (.tmp 6)) none,
     MI.op (some 8) (.mov (.tmp 4)) (some (7, true)),
     MI.op (some 9) (.mov (.tmp 0)) (some (7, true)),
     MI.op (some 10) (.lenS (.tmp 9)) (some (7, true)),
     MI.op (some 11) (.bin .lss (.tmp 8) (.tmp 10)) (some (7, true)),
     MI.op (some 12) (.pick (.tmp 7) (.tmp 11) (.c (.bool false))) none])
   (.cond (.tmp 12)
    .skip
    (.exit 0)))
  m21_1)
def m21_3 : MCode :=
 (.blk 0
  (.loop
  m21_2))
def m21_4 : MCode :=
 (.seq
  (.reg
   [MI.op (some 20) (.load true 4 (.tmp 3)) none,
    MI.op none (.store 4 (.tmp 2) (.tmp 20)) none])
  .ret)
def m21_5 : MCode :=
 (.seq
  (.seq
   (.reg
    [MI.op (some 4) (.mov (.c (.int .i64 0))) none])
  m21_3)
  m21_4)
def m21_6 : MCode :=
 (.seq
  (.reg
   [MI.op (some 3) (.alloc [(.int .u8 0), (.int .u8 0), (.int .u8 0), (.int .u8 0)]) none])
  m21_5)
def m21_r : List MRes := [.cell 2 true 4]
def m21_b : MCode :=
 (.seq
  (.reg
   [MI.op (some 2) (.alloc [(.int .u8 0), (.int .u8 0), (.int .u8 0), (.int .u8 0)]) none])
  m21_6)
def m21 : MFunc := ⟨1, 21, m21_r, m21_b⟩
theorem c21 : compF Tryd.prog 21 m21 = some m21 := by kernel_rfl

/- tollhouse/tollhousekeep.Mod -/
def m13_1 : MCode :=
 (.cond (.tmp 6)
  (.seq
   (.reg
    [MI.op (some 4) (.mov (.c (.int .i64 0))) none])
   .ret)
  .skip)
def m13_2 : MCode :=
 (.seq
  (.reg
   [MI.op (some 7) (.mov (.tmp 0)) none,
    MI.op (some 8) (.mov (.tmp 1)) none,
    MI.op (some 9) (.bin .rem (.tmp 7) (.tmp 8)) none,
    MI.op (some 10) (.mov (.tmp 1)) none,
    MI.op (some 11) (.bin .add (.tmp 9) (.tmp 10)) none,
    MI.op (some 12) (.mov (.tmp 1)) none,
    MI.op (some 13) (.bin .rem (.tmp 11) (.tmp 12)) none,
    MI.op (some 4) (.mov (.tmp 13)) none])
  .ret)
def m13_3 : MCode :=
 (.seq
  (.seq
   (.reg
    [MI.op (some 5) (.mov (.tmp 1)) none,
     MI.op (some 6) (.bin .lss (.tmp 5) (.c (.int .i64 1))) none])
  m13_1)
  m13_2)
def m13_r : List MRes := [.tmp 4]
def m13_b : MCode :=
 (.seq
  (.reg
   [MI.op (some 4) (.mov (.c (.int .i64 0))) none])
  m13_3)
def m13 : MFunc := ⟨2, 14, m13_r, m13_b⟩
theorem c13 : compF Tryd.prog 13 m13 = some m13 := by kernel_rfl

/- strings.TrimRight -/
def m35_1 : MCode :=
 (.seq
  (.reg
   [MI.op (some 13) (.mov (.tmp 0)) none,
    MI.op (some 4) (.mov (.tmp 13)) none])
  .ret)
def m35_2 : MCode :=
 (.cond (.tmp 12)
  m35_1
  .skip)
def m35_3 : MCode :=
 (.seq
  (.reg
   [MI.op (some 22) (.mov (.tmp 0)) none,
    MI.op (some 23) (.mov (.tmp 1)) none,
    MI.op (some 24) (.idxStr (.tmp 23) (.c (.int .i64 0))) none,
    MI.op (some 25) (.call 39 [(.tmp 22), (.tmp 24)]) none,
    MI.op (some 4) (.mov (.tmp 25)) none])
  .ret)
def m35_4 : MCode :=
 (.cond (.tmp 21)
  m35_3
  .skip)
def m35_5 : List MI :=
 [MI.op (some 26) (.mov (.tmp 28)) none,
  MI.op (some 29) (.ext (.tmp 26) 0) none,
  MI.op (some 30) (.ext (.tmp 26) 1) none,
  MI.op (some 5) (.alloc (List.replicate 256 (.bool false))) none,
  MI.op none (.store 256 (.tmp 5) (.tmp 29)) none,
  MI.op (some 6) (.mov (.tmp 30)) none]
def m35_6 : MCode :=
 (.seq
  (.reg
   [MI.op (some 32) (.mov (.tmp 0)) none,
    MI.op (some 33) (.calln 42 [(.tmp 32), (.tmp 5)]) none,
    MI.op (some 4) (.mov (.tmp 33)) none])
  .ret)
def m35_7 : MCode :=
 (.cond (.tmp 31)
  m35_6
  .skip)
def m35_8 : MCode :=
 (.seq
  (.reg
   [MI.op (some 31) (.mov (.tmp 6)) none])
  m35_7)
def m35_9 : MCode :=
 (.seq
  (.reg
   [MI.op (some 34) (.mov (.tmp 0)) none,
    MI.op (some 35) (.mov (.tmp 1)) none,
    MI.op (some 36) (.call 44 [(.tmp 34), (.tmp 35)]) none,
    MI.op (some 4) (.mov (.tmp 36)) none])
  .ret)
def m35_10 : MCode :=
 (.seq
  (.seq
   (.reg
    (MI.op (some 27) (.mov (.tmp 1)) none ::
     MI.op (some 28) (.call 40 [(.tmp 27)]) none ::
     m35_5))
  m35_8)
  m35_9)
def m35_11 : MCode :=
 (.seq
  (.seq
   (.reg
    [MI.op (some 14) (.mov (.tmp 1)) none,
     MI.op (some 15) (.lenS (.tmp 14)) none,
     MI.op (some 16) (.bin .eql (.tmp 15) (.c (.int .i64 1))) none,
     MI.op (some 17) (.mov (.tmp 16)) none,
     MI.op (some 18) (.mov (.tmp 1)) (some (17, true)),
     MI.op (some 19) (.idxStr (.tmp 18) (.c (.int .i64 0))) (some (17, true)),
     MI.op (some 20) (.bin .lss (.tmp 19) (.c (.int .u8 128))) (some (17, true)),
     MI.op (some 21) (.pick (.tmp 17) (.tmp 20) (.c (.bool false))) none])
  m35_4)
  m35_10)
def m35_12 : MCode :=
 (.seq
  (.seq
   (.reg
    [MI.op (some 7) (.mov (.tmp 0)) none,
     MI.op (some 8) (.bin .eql (.tmp 7) (.c (.str []))) none,
     MI.op (some 9) (.mov (.tmp 8)) none,
     MI.op (some 10) (.mov (.tmp 1)) (some (9, false)),
     MI.op (some 11) (.bin .eql (.tmp 10) (.c (.str []))) (some (9, false)),
     MI.op (some 12) (.pick (.tmp 9) (.c (.bool true)) (.tmp 11)) none])
  m35_2)
  m35_11)
def m35_r : List MRes := [.tmp 4]
def m35_b : MCode :=
 (.seq
  (.reg
   [MI.op (some 4) (.mov (.c (.str []))) none])
  m35_12)
def m35 : MFunc := ⟨2, 37, m35_r, m35_b⟩
theorem c35 : compF Tryd.prog 35 m35 = some m35 := by kernel_rfl

/- strings.Trim -/
def m30_1 : MCode :=
 (.seq
  (.reg
   [MI.op (some 13) (.mov (.tmp 0)) none,
    MI.op (some 4) (.mov (.tmp 13)) none])
  .ret)
def m30_2 : MCode :=
 (.cond (.tmp 12)
  m30_1
  .skip)
def m30_3 : MCode :=
 (.seq
  (.drw
   [MI.op (some 22) (.mov (.tmp 0)) none,
    MI.op (some 23) (.mov (.tmp 1)) none,
    MI.op (some 24) (.idxStr (.tmp 23) (.c (.int .i64 0))) none,
    MI.op (some 25) (.call 39 [(.tmp 22), (.tmp 24)]) none,
    MI.op (some 26) (.mov (.tmp 1)) none,
    MI.op (some 27) (.idxStr (.tmp 26) (.c (.int .i64 0))) none]
   [MI.op (some 28) (.call 38 [(.tmp 25), (.tmp 27)]) none,
    MI.op (some 4) (.mov (.tmp 28)) none])
  .ret)
def m30_4 : MCode :=
 (.cond (.tmp 21)
  m30_3
  .skip)
def m30_5 : List MI :=
 [MI.op (some 29) (.mov (.tmp 31)) none,
  MI.op (some 32) (.ext (.tmp 29) 0) none,
  MI.op (some 33) (.ext (.tmp 29) 1) none,
  MI.op (some 5) (.alloc (List.replicate 256 (.bool false))) none,
  MI.op none (.store 256 (.tmp 5) (.tmp 32)) none,
  MI.op (some 6) (.mov (.tmp 33)) none]
def m30_6 : List MI :=
 [MI.op (some 37) (.calln 41 [(.tmp 36), (.tmp 5)]) none,
  MI.op (some 4) (.mov (.tmp 37)) none]
def m30_7 : MCode :=
 (.seq
  (.reg
   (MI.op (some 35) (.mov (.tmp 0)) none ::
    MI.op (some 36) (.calln 42 [(.tmp 35), (.tmp 5)]) none ::
    m30_6))
  .ret)
def m30_8 : MCode :=
 (.cond (.tmp 34)
  m30_7
  .skip)
def m30_9 : MCode :=
 (.seq
  (.reg
   [MI.op (some 34) (.mov (.tmp 6)) none])
  m30_8)
def m30_10 : List MI :=
 [MI.op (some 41) (.mov (.tmp 1)) none,
  MI.op (some 42) (.call 43 [(.tmp 40), (.tmp 41)]) none,
  MI.op (some 4) (.mov (.tmp 42)) none]
def m30_11 : MCode :=
 (.seq
  (.reg
   (MI.op (some 38) (.mov (.tmp 0)) none ::
    MI.op (some 39) (.mov (.tmp 1)) none ::
    MI.op (some 40) (.call 44 [(.tmp 38), (.tmp 39)]) none ::
    m30_10))
  .ret)
def m30_12 : MCode :=
 (.seq
  (.seq
   (.reg
    (MI.op (some 30) (.mov (.tmp 1)) none ::
     MI.op (some 31) (.call 40 [(.tmp 30)]) none ::
     m30_5))
  m30_9)
  m30_11)
def m30_13 : MCode :=
 (.seq
  (.seq
   (.reg
    [MI.op (some 14) (.mov (.tmp 1)) none,
     MI.op (some 15) (.lenS (.tmp 14)) none,
     MI.op (some 16) (.bin .eql (.tmp 15) (.c (.int .i64 1))) none,
     MI.op (some 17) (.mov (.tmp 16)) none,
     MI.op (some 18) (.mov (.tmp 1)) (some (17, true)),
     MI.op (some 19) (.idxStr (.tmp 18) (.c (.int .i64 0))) (some (17, true)),
     MI.op (some 20) (.bin .lss (.tmp 19) (.c (.int .u8 128))) (some (17, true)),
     MI.op (some 21) (.pick (.tmp 17) (.tmp 20) (.c (.bool false))) none])
  m30_4)
  m30_12)
def m30_14 : MCode :=
 (.seq
  (.seq
   (.reg
    [MI.op (some 7) (.mov (.tmp 0)) none,
     MI.op (some 8) (.bin .eql (.tmp 7) (.c (.str []))) none,
     MI.op (some 9) (.mov (.tmp 8)) none,
     MI.op (some 10) (.mov (.tmp 1)) (some (9, false)),
     MI.op (some 11) (.bin .eql (.tmp 10) (.c (.str []))) (some (9, false)),
     MI.op (some 12) (.pick (.tmp 9) (.c (.bool true)) (.tmp 11)) none])
  m30_2)
  m30_13)
def m30_r : List MRes := [.tmp 4]
def m30_b : MCode :=
 (.seq
  (.reg
   [MI.op (some 4) (.mov (.c (.str []))) none])
  m30_14)
def m30 : MFunc := ⟨2, 43, m30_r, m30_b⟩
theorem c30 : compF Tryd.prog 30 m30 = some m30 := by kernel_rfl

/- strings.trimRightByte -/
def m39_1 : MCode :=
 (.blk 1
  (.reg
   [MI.op (some 17) (.mov (.tmp 0)) none,
    MI.op (some 18) (.mov (.tmp 0)) none,
    MI.op (some 19) (.lenS (.tmp 18)) none,
    MI.op (some 20) (.bin .sub (.tmp 19) (.c (.int .i64 1))) none,
    MI.op (some 21) (.slStr (.tmp 17) none (some (.tmp 20))) none,
    MI.op (some 0) (.mov (.tmp 21)) none]))
def m39_2 : MCode :=
 (.seq
  (.seq
   (.reg
    [MI.op (some 5) (.mov (.tmp 0)) none,
     MI.op (some 6) (.lenS (.tmp 5)) none,
     MI.op (some 7) (.bin .gtr (.tmp 6) (.c (.int .i64 0))) none,
     MI.op (some 8) (.mov (.tmp 7)) none,
     MI.op (some 9) (.mov (.tmp 0)) (some (8, true)),
     MI.op (some 10) (.mov (.tmp 0)) (some (8, true)),
     MI.op (some 11) (.lenS (.tmp 10)) (some (8, true)),
     MI.op (some 12) (.bin .sub (.tmp 11) (.c (.int .i64 1))) (some (8, true)),
     MI.op (some 13) (.idxStr (.tmp 9) (.tmp 12)) (some (8, true)),
     MI.op (some 14) (.mov (.tmp 1)) (some (8, true)),
     MI.op (some 15) (.bin .eql (.tmp 13) (.tmp 14)) (some (8, true)),
     MI.op (some 16) (.pick (.tmp 8) (.tmp 15) (.c (.bool false))) none])
   (.cond (.tmp 16)
    .skip
    (.exit 0)))
  m39_1)
def m39_3 : MCode :=
 (.seq
  (.reg
   [MI.op (some 22) (.mov (.tmp 0)) none,
    MI.op (some 4) (.mov (.tmp 22)) none])
  .ret)
def m39_4 : MCode :=
 (.seq
  (.blk 0
   (.loop
  m39_2))
  m39_3)
def m39_r : List MRes := [.tmp 4]
def m39_b : MCode :=
 (.seq
  (.reg
   [MI.op (some 4) (.mov (.c (.str []))) none])
  m39_4)
def m39 : MFunc := ⟨2, 23, m39_r, m39_b⟩
theorem c39 : compF Tryd.prog 39 m39 = some m39 := by kernel_rfl

/- strings.makeASCIISet -/
def m40_1 : MCode :=
 (.seq
  (.reg
   [MI.op (some 17) (.load true 256 (.tmp 2)) none,
    MI.op none (.store 256 (.tmp 2) (.tmp 17)) none,
    MI.op (some 3) (.mov (.c (.bool false))) none])
  .ret)
def m40_2 : MCode :=
 (.cond (.tmp 16)
  m40_1
  .skip)
def m40_3 : MCode :=
 (.seq
  (.seq
   (.reg
    [MI.op (some 15) (.mov (.tmp 5)) none,
     MI.op (some 16) (.bin .geq (.tmp 15) (.c (.int .u8 128))) none])
  m40_2)
  (.reg
   [MI.op (some 18) (.mov (.tmp 5)) none,
    MI.op (some 19) (.ixArr 256 1 (.tmp 2) (.tmp 18)) none,
    MI.op none (.store 1 (.tmp 19) (.c (.bool true))) none]))
def m40_4 : MCode :=
 (.seq
  (.blk 1
   (.seq
    (.reg
     [MI.op (some 12) (.mov (.tmp 0)) none,
      MI.op (some 13) (.mov (.tmp 4)) none,
      MI.op (some 14) (.idxStr (.tmp 12) (.tmp 13)) none,
      MI.op (some 5) (.mov (.tmp 14)) none])
  m40_3))
  (.reg
   [MI.op (some 10) (.mov (.tmp 4)) none,
    MI.op (some 11) (.bin .add (.tmp 10) (.c (.int .i64 1))) none,
    MI.op (some 4) (.mov (.tmp 11)) none]))
def m40_5 : MCode :=
 (.seq
  (.seq
   (.reg
    [MI.op (some 6) (.mov (.tmp 4)) none,
     MI.op (some 7) (.mov (.tmp 0)) none,
     MI.op (some 8) (.lenS (.tmp 7)) none,
     MI.op (some 9) (.bin .lss (.tmp 6) (.tmp 8)) none])
   (.cond (.tmp 9)
    .skip
    (.exit 0)))
  m40_4)
def m40_6 : MCode :=
 (.blk 0
  (.loop
  m40_5))
def m40_7 : MCode :=
 (.seq
  (.reg
   [MI.op (some 20) (.load true 256 (.tmp 2)) none,
    MI.op none (.store 256 (.tmp 2) (.tmp 20)) none,
    MI.op (some 3) (.mov (.c (.bool true))) none])
  .ret)
def m40_8 : MCode :=
 (.seq
  (.seq
   (.reg
    [MI.op (some 4) (.mov (.c (.int .i64 0))) none])
  m40_6)
  m40_7)
def m40_r : List MRes := [.cell 2 true 256, .tmp 3]
def m40_b : MCode :=
 (.seq
  (.reg
   [MI.op (some 2) (.alloc (List.replicate 256 (.bool false))) none,
    MI.op (some 3) (.mov (.c (.bool false))) none])
  m40_8)
def m40 : MFunc := ⟨1, 21, m40_r, m40_b⟩
theorem c40 : compF Tryd.prog 40 m40 = some m40 := by kernel_rfl

/- strings.trimRightASCII -/
def m42_1 : MCode :=
 (.reg
  [MI.op (some 16) (.mov (.tmp 0)) none,
   MI.op (some 17) (.mov (.tmp 0)) none,
   MI.op (some 18) (.lenS (.tmp 17)) none,
   MI.op (some 19) (.bin .sub (.tmp 18) (.c (.int .i64 1))) none,
   MI.op (some 20) (.slStr (.tmp 16) none (some (.tmp 19))) none,
   MI.op (some 0) (.mov (.tmp 20)) none])
def m42_2 : MCode :=
 (.blk 1
  (.seq
   (.seq
    (.reg
     [MI.op (some 8) (.mov (.tmp 1)) none,
      MI.op (some 9) (.mov (.tmp 0)) none,
      MI.op (some 10) (.mov (.tmp 0)) none,
      MI.op (some 11) (.lenS (.tmp 10)) none,
      MI.op (some 12) (.bin .sub (.tmp 11) (.c (.int .i64 1))) none,
      MI.op (some 13) (.idxStr (.tmp 9) (.tmp 12)) none,
      MI.op (some 14) (.calln 47 [(.tmp 8), (.tmp 13)]) none,
      MI.op (some 15) (.un .not (.tmp 14)) none])
    (.cond (.tmp 15)
     (.exit 0)
     .skip))
  m42_1))
def m42_3 : MCode :=
 (.seq
  (.seq
   (.reg
    [MI.op (some 5) (.mov (.tmp 0)) none,
     MI.op (some 6) (.lenS (.tmp 5)) none,
     MI.op (some 7) (.bin .gtr (.tmp 6) (.c (.int .i64 0))) none])
   (.cond (.tmp 7)
    .skip
    (.exit 0)))
  m42_2)
def m42_4 : MCode :=
 (.seq
  (.reg
   [MI.op (some 21) (.mov (.tmp 0)) none,
    MI.op (some 4) (.mov (.tmp 21)) none])
  .ret)
def m42_5 : MCode :=
 (.seq
  (.blk 0
   (.loop
  m42_3))
  m42_4)
def m42_r : List MRes := [.tmp 4]
def m42_b : MCode :=
 (.seq
  (.reg
   [MI.op (some 4) (.mov (.c (.str []))) none])
  m42_5)
def m42 : MFunc := ⟨2, 22, m42_r, m42_b⟩
theorem c42 : compF Tryd.prog 42 m42 = some m42 := by kernel_rfl

/- strings.trimLeftASCII -/
def m41_1 : MCode :=
 (.blk 1
  (.seq
   (.seq
    (.reg
     [MI.op (some 8) (.mov (.tmp 1)) none,
      MI.op (some 9) (.mov (.tmp 0)) none,
      MI.op (some 10) (.idxStr (.tmp 9) (.c (.int .i64 0))) none,
      MI.op (some 11) (.calln 47 [(.tmp 8), (.tmp 10)]) none,
      MI.op (some 12) (.un .not (.tmp 11)) none])
    (.cond (.tmp 12)
     (.exit 0)
     .skip))
   (.reg
    [MI.op (some 13) (.mov (.tmp 0)) none,
     MI.op (some 14) (.slStr (.tmp 13) (some (.c (.int .i64 1))) none) none,
     MI.op (some 0) (.mov (.tmp 14)) none])))
def m41_2 : MCode :=
 (.seq
  (.seq
   (.reg
    [MI.op (some 5) (.mov (.tmp 0)) none,
     MI.op (some 6) (.lenS (.tmp 5)) none,
     MI.op (some 7) (.bin .gtr (.tmp 6) (.c (.int .i64 0))) none])
   (.cond (.tmp 7)
    .skip
    (.exit 0)))
  m41_1)
def m41_3 : MCode :=
 (.seq
  (.reg
   [MI.op (some 15) (.mov (.tmp 0)) none,
    MI.op (some 4) (.mov (.tmp 15)) none])
  .ret)
def m41_4 : MCode :=
 (.seq
  (.blk 0
   (.loop
  m41_2))
  m41_3)
def m41_r : List MRes := [.tmp 4]
def m41_b : MCode :=
 (.seq
  (.reg
   [MI.op (some 4) (.mov (.c (.str []))) none])
  m41_4)
def m41 : MFunc := ⟨2, 16, m41_r, m41_b⟩
theorem c41 : compF Tryd.prog 41 m41 = some m41 := by kernel_rfl

/- (*strings.asciiSet).contains -/
def m47_1 : MCode :=
 (.seq
  (.reg
   [MI.op (some 5) (.mov (.tmp 0)) none,
    MI.op (some 6) (.mov (.tmp 1)) none,
    MI.op (some 7) (.chk (.tmp 5)) none,
    MI.op (some 8) (.ixArr 256 1 (.tmp 7) (.tmp 6)) none,
    MI.op (some 9) (.load false 1 (.tmp 8)) none,
    MI.op (some 4) (.mov (.tmp 9)) none])
  .ret)
def m47_r : List MRes := [.tmp 4]
def m47_b : MCode :=
 (.seq
  (.reg
   [MI.op (some 4) (.mov (.c (.bool false))) none])
  m47_1)
def m47 : MFunc := ⟨2, 10, m47_r, m47_b⟩
theorem c47 : compF Tryd.prog 47 m47 = some m47 := by kernel_rfl

end Go.Proofs.YtfllhbjblkfdfaaDoor
