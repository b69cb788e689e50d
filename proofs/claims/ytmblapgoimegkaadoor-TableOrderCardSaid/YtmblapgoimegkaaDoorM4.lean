/- The loaded functions as texts of the ideal machine (written by a program of ours), and that they are the loaded ones. -/
import Derived.Test.YtmblapgoimegkaaDoorE31
import Derived.Test.YtmblapgoimegkaaDoorProg
set_option linter.unusedVariables false
namespace Go.Proofs.YtmblapgoimegkaaDoor
open Go.RowKit

/- tollhouse/tollhouselaw10.Fair -/
def m15_1 : MCode :=
 (.cond (.tmp 15)
  (.seq
   (.reg
    [MI.op (some 2) (.mov (.c (.bool false))) none])
   .ret)
  .skip)
def m15_2 : MCode :=
 (.seq
  (.blk 1
   (.seq
    (.reg
     [MI.op (some 10) (.mov (.tmp 0)) none,
      MI.op (some 11) (.mov (.tmp 3)) none,
      MI.op (some 12) (.ixSl 1 (.tmp 10) (.tmp 11)) none,
      MI.op (some 13) (.load false 1 (.tmp 12)) none,
      MI.op (some 14) (.lenS (.tmp 13)) none,
      MI.op (some 15) (.bin .gtr (.tmp 14) (.c (.int .i64 200))) none])
  m15_1))
  (.reg
   [MI.op (some 8) (.mov (.tmp 3)) none,
    MI.op (some 9) (.bin .add (.tmp 8) (.c (.int .i64 1))) none,
    MI.op (some 3) (.mov (.tmp 9)) none]))
def m15_3 : MCode :=
 (.seq
  (.seq
   (.reg
    [MI.op (some 4) (.mov (.tmp 3)) none,
     MI.op (some 5) (.mov (.tmp 0)) none,
     MI.op (some 6) (.len (.tmp 5)) none,
     MI.op (some 7) (.bin .lss (.tmp 4) (.tmp 6)) none])
   (.cond (.tmp 7)
    .skip
    (.exit 0)))
  m15_2)
def m15_4 : MCode :=
 (.blk 0
  (.loop
  m15_3))
def m15_5 : MCode :=
 (.seq
  (.reg
   [MI.op (some 16) (.mov (.tmp 0)) none,
    MI.op (some 17) (.len (.tmp 16)) none,
    MI.op (some 18) (.bin .leq (.tmp 17) (.c (.int .i64 100))) none,
    MI.op (some 2) (.mov (.tmp 18)) none])
  .ret)
def m15_6 : MCode :=
 (.seq
  (.seq
   (.reg
    [MI.op (some 3) (.mov (.c (.int .i64 0))) none])
  m15_4)
  m15_5)
def m15_r : List MRes := [.tmp 2]
def m15_b : MCode :=
 (.seq
  (.reg
   [MI.op (some 2) (.mov (.c (.bool false))) none])
  m15_6)
def m15 : MFunc := ⟨1, 19, m15_r, m15_b⟩
theorem c15 : compF Tryd.prog 15 m15 = some m15 := by kernel_rfl

/- tollhouse/tollhouselaw10.wakes -/
def m16_1 : List MI :=
 [MI.op (some 7) (.mov (.tmp 9)) none,
  MI.op (some 10) (.ext (.tmp 7) 0) none,
  MI.op (some 11) (.ext (.tmp 7) 1) none,
  MI.op (some 1) (.mov (.tmp 10)) none,
  MI.op (some 2) (.mov (.tmp 11)) none]
def m16_2 : List MI :=
 (MI.op (some 9) (.call 17 [(.tmp 8)]) none ::
  m16_1)
def m16_3 : List MI :=
 [MI.op (some 12) (.mov (.tmp 14)) none,
  MI.op (some 15) (.ext (.tmp 12) 0) none,
  MI.op (some 16) (.ext (.tmp 12) 1) none,
  MI.op (some 3) (.mov (.tmp 15)) none,
  MI.op (some 4) (.mov (.tmp 16)) none]
def m16_4 : List MI :=
 [MI.op (some 17) (.mov (.tmp 19)) none,
  MI.op (some 20) (.ext (.tmp 17) 0) none,
  MI.op (some 21) (.ext (.tmp 17) 1) none,
  MI.op (some 5) (.mov (.tmp 20)) none,
  MI.op (some 6) (.mov (.tmp 21)) none]
def m16_5 : List MI :=
 [MI.op (some 37) (.un .not (.tmp 36)) (some (34, true)),
  MI.op (some 38) (.pick (.tmp 34) (.tmp 37) (.c (.bool false))) none,
  MI.op (some 39) (.mov (.tmp 38)) none,
  MI.op (some 40) (.mov (.tmp 2)) (some (39, true)),
  MI.op (some 41) (.pick (.tmp 39) (.tmp 40) (.c (.bool false))) none,
  MI.op (some 42) (.mov (.tmp 41)) none,
  MI.op (some 43) (.mov (.tmp 1)) (some (42, true)),
  MI.op (some 44) (.bin .eql (.tmp 43) (.c (.str [97, 98]))) (some (42, true)),
  MI.op (some 45) (.pick (.tmp 42) (.tmp 44) (.c (.bool false))) none,
  MI.op (some 46) (.mov (.tmp 45)) none,
  MI.op (some 47) (.mov (.tmp 4)) (some (46, true)),
  MI.op (some 48) (.un .not (.tmp 47)) (some (46, true)),
  MI.op (some 49) (.pick (.tmp 46) (.tmp 48) (.c (.bool false))) none,
  MI.op (some 50) (.mov (.tmp 49)) none,
  MI.op (some 51) (.mov (.tmp 6)) (some (50, true)),
  MI.op (some 52) (.pick (.tmp 50) (.tmp 51) (.c (.bool false))) none,
  MI.op (some 53) (.mov (.tmp 52)) none,
  MI.op (some 54) (.mov (.tmp 5)) (some (53, true)),
  MI.op (some 55) (.bin .eql (.tmp 54) (.c (.str []))) (some (53, true)),
  MI.op (some 56) (.pick (.tmp 53) (.tmp 55) (.c (.bool false))) none,
  MI.op (some 0) (.mov (.tmp 56)) none]
def m16_6 : List MI :=
 (MI.op (some 32) (.un .not (.tmp 31)) (some (29, true)) ::
  MI.op (some 33) (.pick (.tmp 29) (.tmp 32) (.c (.bool false))) none ::
  MI.op (some 34) (.mov (.tmp 33)) none ::
  MI.op (some 35) (.bsl 1 1 [(.str [])] [(0, 1, (.c (.str [97, 98, 99, 100, 101])))]) (some (34, true)) ::
  MI.op (some 36) (.call 19 [(.tmp 35)]) (some (34, true)) ::
  m16_5)
def m16_7 : List MI :=
 (MI.op (some 27) (.un .not (.tmp 26)) (some (24, true)) ::
  MI.op (some 28) (.pick (.tmp 24) (.tmp 27) (.c (.bool false))) none ::
  MI.op (some 29) (.mov (.tmp 28)) none ::
  MI.op (some 30) (.bsl 1 1 [(.str [])] [(0, 1, (.c (.str [])))]) (some (29, true)) ::
  MI.op (some 31) (.call 19 [(.tmp 30)]) (some (29, true)) ::
  m16_6)
def m16_8 : List MI :=
 (MI.op (some 24) (.mov (.tmp 23)) none ::
  MI.op (some 25) (.bsl 2 1 [(.str [])] [(0, 1, (.c (.str [100, 97, 116, 97]))), (1, 1, (.c (.str [68, 97, 116, 97])))]) (some (24, true)) ::
  MI.op (some 26) (.call 19 [(.tmp 25)]) (some (24, true)) ::
  m16_7)
def m16_9 : MCode :=
 (.seq
  (.reg
   (MI.op (some 22) (.bsl 2 1 [(.str [])] [(0, 1, (.c (.str [100, 97, 116, 97]))), (1, 1, (.c (.str [97])))]) none ::
    MI.op (some 23) (.call 19 [(.tmp 22)]) none ::
    m16_8))
  .ret)
def m16_10 : MCode :=
 (.seq
  (.reg
   (MI.op (some 18) (.build [(.int .u8 0), (.int .u8 0), (.int .u8 0), (.int .u8 0)] []) none ::
    MI.op (some 19) (.call 17 [(.tmp 18)]) none ::
    m16_4))
  m16_9)
def m16_11 : MCode :=
 (.seq
  (.reg
   (MI.op (some 13) (.build [(.int .u8 0), (.int .u8 0), (.int .u8 0), (.int .u8 0)] [(0, 1, (.c (.int .u8 0))), (1, 1, (.c (.int .u8 97))), (2, 1, (.c (.int .u8 0))), (3, 1, (.c (.int .u8 0)))]) none ::
    MI.op (some 14) (.call 17 [(.tmp 13)]) none ::
    m16_3))
  m16_10)
def m16_12 : MCode :=
 (.seq
  (.reg
   (MI.op (some 8) (.call 21 [(.c (.str [97, 98]))]) none ::
    m16_2))
  m16_11)
def m16_r : List MRes := [.tmp 0]
def m16_b : MCode :=
 (.seq
  (.reg
   [MI.op (some 0) (.mov (.c (.bool false))) none])
  m16_12)
def m16 : MFunc := ⟨0, 57, m16_r, m16_b⟩
theorem c16 : compF Tryd.prog 16 m16 = some m16 := by kernel_rfl

/- tollhouse/names.Cut -/
def m17_1 : List MI :=
 [MI.op (some 14) (.un .not (.tmp 13)) (some (10, true)),
  MI.op (some 15) (.pick (.tmp 10) (.tmp 14) (.c (.bool false))) none]
def m17_2 : MCode :=
 (.seq
  (.reg
   [MI.op (some 2) (.mov (.c (.str []))) none,
    MI.op (some 3) (.mov (.c (.bool false))) none])
  .ret)
def m17_3 : MCode :=
 (.cond (.tmp 15)
  m17_2
  .skip)
def m17_4 : MCode :=
 (.seq
  (.reg
   [MI.op (some 16) (.mov (.tmp 4)) none,
    MI.op (some 2) (.mov (.tmp 16)) none,
    MI.op (some 3) (.mov (.c (.bool true))) none])
  .ret)
def m17_5 : MCode :=
 (.seq
  (.seq
   (.reg
    (MI.op (some 8) (.mov (.tmp 4)) none ::
     MI.op (some 9) (.bin .neq (.tmp 8) (.c (.str []))) none ::
     MI.op (some 10) (.mov (.tmp 9)) none ::
     MI.op (some 11) (.mov (.tmp 4)) (some (10, true)) ::
     MI.op (some 12) (.bsl 1 1 [(.str [])] [(0, 1, (.tmp 11))]) (some (10, true)) ::
     MI.op (some 13) (.call 19 [(.tmp 12)]) (some (10, true)) ::
     m17_1))
  m17_3)
  m17_4)
def m17_6 : MCode :=
 (.seq
  (.reg
   [MI.op (some 5) (.slArr 4 1 (.tmp 1) none none none) none,
    MI.op (some 6) (.toStr (.tmp 5)) none,
    MI.op (some 7) (.call 44 [(.tmp 6), (.c (.str [0]))]) none,
    MI.op (some 4) (.mov (.tmp 7)) none])
  m17_5)
def m17_r : List MRes := [.tmp 2, .tmp 3]
def m17_b : MCode :=
 (.seq
  (.reg
   [MI.op (some 1) (.box (.tmp 0)) none,
    MI.op (some 2) (.mov (.c (.str []))) none,
    MI.op (some 3) (.mov (.c (.bool false))) none])
  m17_6)
def m17 : MFunc := ⟨1, 17, m17_r, m17_b⟩
theorem c17 : compF Tryd.prog 17 m17 = some m17 := by kernel_rfl

/- tollhouse/tollhouseref10.Cut -/
def m18_1 : MCode :=
 (.blk 1
  (.reg
   [MI.op (some 13) (.mov (.tmp 3)) none,
    MI.op (some 14) (.bin .add (.tmp 13) (.c (.int .i64 1))) none,
    MI.op (some 3) (.mov (.tmp 14)) none]))
def m18_2 : MCode :=
 (.seq
  (.seq
   (.reg
    [MI.op (some 5) (.mov (.tmp 3)) none,
     MI.op (some 6) (.bin .lss (.tmp 5) (.c (.int .i64 4))) none,
     MI.op (some 7) (.mov (.tmp 6)) none,
     MI.op (some 8) (.mov (.tmp 3)) (some (7, true)),
     MI.op (some 9) (.ixArr 4 1 (.tmp 1) (.tmp 8)) (some (7, true)),
     MI.op (some 10) (.load false 1 (.tmp 9)) (some (7, true)),
     MI.op (some 11) (.bin .neq (.tmp 10) (.c (.int .u8 0))) (some (7, true)),
     MI.op (some 12) (.pick (.tmp 7) (.tmp 11) (.c (.bool false))) none])
   (.cond (.tmp 12)
    .skip
    (.exit 0)))
  m18_1)
def m18_3 : MCode :=
 (.seq
  (.reg
   [MI.op (some 32) (.build [(.str []), (.bool false)] []) none,
    MI.op none (.store 2 (.tmp 2) (.tmp 32)) none])
  .ret)
def m18_4 : MCode :=
 (.cond (.tmp 31)
  m18_3
  .skip)
def m18_5 : MCode :=
 (.seq
  (.reg
   [MI.op (some 33) (.mov (.tmp 4)) none,
    MI.op (some 34) (.build [(.str []), (.bool false)] [(0, 1, (.tmp 33)), (1, 1, (.c (.bool true)))]) none,
    MI.op none (.store 2 (.tmp 2) (.tmp 34)) none])
  .ret)
def m18_6 : MCode :=
 (.seq
  (.seq
   (.drw
    [MI.op (some 18) (.mov (.tmp 4)) none,
     MI.op (some 19) (.call 22 [(.tmp 18)]) none,
     MI.op (some 20) (.load true 4 (.tmp 1)) none]
    [MI.op (some 21) (.eqv true [(4, .i)] (.tmp 19) (.tmp 20)) none,
     MI.op (some 22) (.mov (.tmp 21)) none,
     MI.op (some 23) (.mov (.tmp 3)) (some (22, false)),
     MI.op (some 24) (.bin .gtr (.tmp 23) (.c (.int .i64 0))) (some (22, false)),
     MI.op (some 25) (.mov (.tmp 24)) (some (22, false)),
     MI.op (some 26) (.mov (.tmp 4)) (some (25, true)),
     MI.op (some 27) (.bsl 1 1 [(.str [])] [(0, 1, (.tmp 26))]) (some (25, true)),
     MI.op (some 28) (.call 20 [(.tmp 27)]) (some (25, true)),
     MI.op (some 29) (.un .not (.tmp 28)) (some (25, true)),
     MI.op (some 30) (.pick (.tmp 25) (.tmp 29) (.c (.bool false))) (some (22, false)),
     MI.op (some 31) (.pick (.tmp 22) (.c (.bool true)) (.tmp 30)) none])
  m18_4)
  m18_5)
def m18_7 : MCode :=
 (.seq
  (.reg
   [MI.op (some 15) (.mov (.tmp 3)) none,
    MI.op (some 16) (.slArr 4 1 (.tmp 1) none (some (.tmp 15)) none) none,
    MI.op (some 17) (.toStr (.tmp 16)) none,
    MI.op (some 4) (.mov (.tmp 17)) none])
  m18_6)
def m18_8 : MCode :=
 (.seq
  (.blk 0
   (.loop
  m18_2))
  m18_7)
def m18_9 : MCode :=
 (.seq
  (.reg
   [MI.op (some 3) (.mov (.c (.int .i64 0))) none])
  m18_8)
def m18_r : List MRes := [.cell 2 true 2]
def m18_b : MCode :=
 (.seq
  (.reg
   [MI.op (some 1) (.box (.tmp 0)) none,
    MI.op (some 2) (.alloc [(.str []), (.bool false)]) none])
  m18_9)
def m18 : MFunc := ⟨1, 35, m18_r, m18_b⟩
theorem c18 : compF Tryd.prog 18 m18 = some m18 := by kernel_rfl

/- tollhouse/names.Good -/
def m19_1 : List MI :=
 [MI.op (some 21) (.bin .neq (.tmp 20) (.c (.str []))) (some (18, false)),
  MI.op (some 22) (.pick (.tmp 18) (.c (.bool true)) (.tmp 21)) none]
def m19_2 : MCode :=
 (.cond (.tmp 22)
  (.seq
   (.reg
    [MI.op (some 2) (.mov (.c (.bool false))) none])
   .ret)
  .skip)
def m19_3 : MCode :=
 (.seq
  (.reg
   (MI.op (some 11) (.mov (.tmp 4)) none ::
    MI.op (some 12) (.bin .eql (.tmp 11) (.c (.str []))) none ::
    MI.op (some 13) (.mov (.tmp 12)) none ::
    MI.op (some 14) (.mov (.tmp 4)) (some (13, false)) ::
    MI.op (some 15) (.lenS (.tmp 14)) (some (13, false)) ::
    MI.op (some 16) (.bin .gtr (.tmp 15) (.c (.int .i64 4))) (some (13, false)) ::
    MI.op (some 17) (.pick (.tmp 13) (.c (.bool true)) (.tmp 16)) none ::
    MI.op (some 18) (.mov (.tmp 17)) none ::
    MI.op (some 19) (.mov (.tmp 4)) (some (18, false)) ::
    MI.op (some 20) (.call 45 [(.tmp 19), (.c (.str [97, 98, 99, 100, 101, 102, 103, 104, 105, 106, 107, 108, 109, 110, 111, 112, 113, 114, 115, 116, 117, 118, 119, 120, 121, 122]))]) (some (18, false)) ::
    m19_1))
  m19_2)
def m19_4 : MCode :=
 (.seq
  (.blk 1
   (.seq
    (.reg
     [MI.op (some 9) (.ixSl 1 (.tmp 5) (.tmp 7)) none,
      MI.op (some 10) (.load false 1 (.tmp 9)) none,
      MI.op (some 4) (.mov (.tmp 10)) none])
  m19_3))
  (.reg
   [MI.op (some 23) (.bin .add (.tmp 7) (.c (.int .i64 1))) none,
    MI.op (some 7) (.mov (.tmp 23)) none]))
def m19_5 : MCode :=
 (.seq
  (.cond (.tmp 8)
   .skip
   (.exit 0))
  m19_4)
def m19_6 : MCode :=
 (.seq
  (.reg
   [MI.op (some 8) (.bin .lss (.tmp 7) (.tmp 6)) none])
  m19_5)
def m19_7 : MCode :=
 (.blk 0
  (.loop
  m19_6))
def m19_8 : MCode :=
 (.seq
  (.seq
   (.reg
    [MI.op (some 5) (.mov (.tmp 0)) none,
     MI.op (some 6) (.len (.tmp 5)) none,
     MI.op (some 7) (.mov (.c (.int .i64 0))) none])
  m19_7)
  (.seq
   (.reg
    [MI.op (some 2) (.mov (.c (.bool true))) none])
   .ret))
def m19_r : List MRes := [.tmp 2]
def m19_b : MCode :=
 (.seq
  (.reg
   [MI.op (some 2) (.mov (.c (.bool false))) none])
  m19_8)
def m19 : MFunc := ⟨1, 24, m19_r, m19_b⟩
theorem c19 : compF Tryd.prog 19 m19 = some m19 := by kernel_rfl

/- tollhouse/tollhouseref10.Good -/
def m20_1 : MCode :=
 (.cond (.tmp 24)
  (.seq
   (.reg
    [MI.op (some 2) (.mov (.c (.bool false))) none])
   .ret)
  .skip)
def m20_2 : MCode :=
 (.cond (.tmp 49)
  (.seq
   (.reg
    [MI.op (some 2) (.mov (.c (.bool false))) none])
   .ret)
  .skip)
def m20_3 : MCode :=
 (.seq
  (.blk 3
   (.seq
    (.reg
     [MI.op (some 34) (.mov (.tmp 0)) none,
      MI.op (some 35) (.mov (.tmp 3)) none,
      MI.op (some 36) (.ixSl 1 (.tmp 34) (.tmp 35)) none,
      MI.op (some 37) (.load false 1 (.tmp 36)) none,
      MI.op (some 38) (.mov (.tmp 4)) none,
      MI.op (some 39) (.idxStr (.tmp 37) (.tmp 38)) none,
      MI.op (some 40) (.bin .lss (.tmp 39) (.c (.int .u8 97))) none,
      MI.op (some 41) (.mov (.tmp 40)) none,
      MI.op (some 42) (.mov (.tmp 0)) (some (41, false)),
      MI.op (some 43) (.mov (.tmp 3)) (some (41, false)),
      MI.op (some 44) (.ixSl 1 (.tmp 42) (.tmp 43)) (some (41, false)),
      MI.op (some 45) (.load false 1 (.tmp 44)) (some (41, false)),
      MI.op (some 46) (.mov (.tmp 4)) (some (41, false)),
      MI.op (some 47) (.idxStr (.tmp 45) (.tmp 46)) (some (41, false)),
      MI.op (some 48) (.bin .gtr (.tmp 47) (.c (.int .u8 122))) (some (41, false)),
      MI.op (some 49) (.pick (.tmp 41) (.c (.bool true)) (.tmp 48)) none])
  m20_2))
  (.reg
   [MI.op (some 32) (.mov (.tmp 4)) none,
    MI.op (some 33) (.bin .add (.tmp 32) (.c (.int .i64 1))) none,
    MI.op (some 4) (.mov (.tmp 33)) none]))
def m20_4 : MCode :=
 (.seq
  (.seq
   (.reg
    [MI.op (some 25) (.mov (.tmp 4)) none,
     MI.op (some 26) (.mov (.tmp 0)) none,
     MI.op (some 27) (.mov (.tmp 3)) none,
     MI.op (some 28) (.ixSl 1 (.tmp 26) (.tmp 27)) none,
     MI.op (some 29) (.load false 1 (.tmp 28)) none,
     MI.op (some 30) (.lenS (.tmp 29)) none,
     MI.op (some 31) (.bin .lss (.tmp 25) (.tmp 30)) none])
   (.cond (.tmp 31)
    .skip
    (.exit 2)))
  m20_3)
def m20_5 : MCode :=
 (.blk 2
  (.loop
  m20_4))
def m20_6 : MCode :=
 (.seq
  (.reg
   [MI.op (some 4) (.mov (.c (.int .i64 0))) none])
  m20_5)
def m20_7 : MCode :=
 (.seq
  (.blk 1
   (.seq
    (.seq
     (.reg
      [MI.op (some 11) (.mov (.tmp 0)) none,
       MI.op (some 12) (.mov (.tmp 3)) none,
       MI.op (some 13) (.ixSl 1 (.tmp 11) (.tmp 12)) none,
       MI.op (some 14) (.load false 1 (.tmp 13)) none,
       MI.op (some 15) (.lenS (.tmp 14)) none,
       MI.op (some 16) (.bin .lss (.tmp 15) (.c (.int .i64 1))) none,
       MI.op (some 17) (.mov (.tmp 16)) none,
       MI.op (some 18) (.mov (.tmp 0)) (some (17, false)),
       MI.op (some 19) (.mov (.tmp 3)) (some (17, false)),
       MI.op (some 20) (.ixSl 1 (.tmp 18) (.tmp 19)) (some (17, false)),
       MI.op (some 21) (.load false 1 (.tmp 20)) (some (17, false)),
       MI.op (some 22) (.lenS (.tmp 21)) (some (17, false)),
       MI.op (some 23) (.bin .gtr (.tmp 22) (.c (.int .i64 4))) (some (17, false)),
       MI.op (some 24) (.pick (.tmp 17) (.c (.bool true)) (.tmp 23)) none])
  m20_1)
  m20_6))
  (.reg
   [MI.op (some 9) (.mov (.tmp 3)) none,
    MI.op (some 10) (.bin .add (.tmp 9) (.c (.int .i64 1))) none,
    MI.op (some 3) (.mov (.tmp 10)) none]))
def m20_8 : MCode :=
 (.seq
  (.seq
   (.reg
    [MI.op (some 5) (.mov (.tmp 3)) none,
     MI.op (some 6) (.mov (.tmp 0)) none,
     MI.op (some 7) (.len (.tmp 6)) none,
     MI.op (some 8) (.bin .lss (.tmp 5) (.tmp 7)) none])
   (.cond (.tmp 8)
    .skip
    (.exit 0)))
  m20_7)
def m20_9 : MCode :=
 (.blk 0
  (.loop
  m20_8))
def m20_10 : MCode :=
 (.seq
  (.seq
   (.reg
    [MI.op (some 3) (.mov (.c (.int .i64 0))) none])
  m20_9)
  (.seq
   (.reg
    [MI.op (some 2) (.mov (.c (.bool true))) none])
   .ret))
def m20_r : List MRes := [.tmp 2]
def m20_b : MCode :=
 (.seq
  (.reg
   [MI.op (some 2) (.mov (.c (.bool false))) none])
  m20_10)
def m20 : MFunc := ⟨1, 50, m20_r, m20_b⟩
theorem c20 : compF Tryd.prog 20 m20 = some m20 := by kernel_rfl

/- tollhouse/names.Pad -/
def m21_1 : MCode :=
 (.seq
  (.reg
   [MI.op (some 7) (.load true 4 (.tmp 3)) none,
    MI.op none (.store 4 (.tmp 2) (.tmp 7)) none])
  .ret)
def m21_2 : MCode :=
 (.seq
  (.reg
   [MI.op (some 4) (.slArr 4 1 (.tmp 3) none none none) none,
    MI.op (some 5) (.mov (.tmp 0)) none,
    MI.op (some 6) (.copy 1 (.tmp 4) (.tmp 5)) none])
  m21_1)
def m21_3 : MCode :=
 (.seq
  (.reg
   [MI.op (some 3) (.alloc [(.int .u8 0), (.int .u8 0), (.int .u8 0), (.int .u8 0)]) none])
  m21_2)
def m21_r : List MRes := [.cell 2 true 4]
def m21_b : MCode :=
 (.seq
  (.reg
   [MI.op (some 2) (.alloc [(.int .u8 0), (.int .u8 0), (.int .u8 0), (.int .u8 0)]) none])
  m21_3)
def m21 : MFunc := ⟨1, 8, m21_r, m21_b⟩
theorem c21 : compF Tryd.prog 21 m21 = some m21 := by kernel_rfl

/- tollhouse/tollhouseref10.Pad -/
def m22_1 : MCode :=
 (.seq
  (.blk 1
   (.reg
    [MI.op (some 15) (.mov (.tmp 4)) none,
     MI.op (some 16) (.mov (.tmp 0)) none,
     MI.op (some 17) (.mov (.tmp 4)) none,
     MI.op (some 18) (.idxStr (.tmp 16) (.tmp 17)) none,
     MI.op (some 19) (.ixArr 4 1 (.tmp 3) (.tmp 15)) none,
     MI.op none (.store 1 (.tmp 19) (.tmp 18)) none]))
  (.reg
   [MI.op (some 13) (.mov (.tmp 4)) none,
    MI.op (some 14) (.bin .add (.tmp 13) (.c (.int .i64 1))) none,
    MI.op (some 4) (.mov (.tmp 14)) none]))
def m22_2 : MCode :=
 (.seq
  (.seq
   (.reg
    [MI.op (some 5) (.mov (.tmp 4)) none,
     MI.op (some 6) (.bin .lss (.tmp 5) (.c (.int .i64 4))) none,
     MI.op (some 7) (.mov (.tmp 6)) none,
     MI.op (some 8) (.mov (.tmp 4)) (some (7, true)),
     MI.op (some 9) (.mov (.tmp 0)) (some (7, true)),
     MI.op (some 10) (.lenS (.tmp 9)) (some (7, true)),
     MI.op (some 11) (.bin .lss (.tmp 8) (.tmp 10)) (some (7, true)),
     MI.op (some 12) (.pick (.tmp 7) (.tmp 11) (.c (.bool false))) none])
   (.cond (.tmp 12)
    .skip
    (.exit 0)))
  m22_1)
def m22_3 : MCode :=
 (.blk 0
  (.loop
  m22_2))
def m22_4 : MCode :=
 (.seq
  (.reg
   [MI.op (some 20) (.load true 4 (.tmp 3)) none,
    MI.op none (.store 4 (.tmp 2) (.tmp 20)) none])
  .ret)
def m22_5 : MCode :=
 (.seq
  (.seq
   (.reg
    [MI.op (some 4) (.mov (.c (.int .i64 0))) none])
  m22_3)
  m22_4)
def m22_6 : MCode :=
 (.seq
  (.reg
   [MI.op (some 3) (.alloc [(.int .u8 0), (.int .u8 0), (.int .u8 0), (.int .u8 0)]) none])
  m22_5)
def m22_r : List MRes := [.cell 2 true 4]
def m22_b : MCode :=
 (.seq
  (.reg
   [MI.op (some 2) (.alloc [(.int .u8 0), (.int .u8 0), (.int .u8 0), (.int .u8 0)]) none])
  m22_6)
def m22 : MFunc := ⟨1, 21, m22_r, m22_b⟩
theorem c22 : compF Tryd.prog 22 m22 = some m22 := by kernel_rfl

/- tollhouse/tollhousekeep.Mod -/
def m23_1 : MCode :=
 (.cond (.tmp 6)
  (.seq
   (.reg
    [MI.op (some 4) (.mov (.c (.int .i64 0))) none])
   .ret)
  .skip)
def m23_2 : MCode :=
 (.seq
  (.reg
   [MI.op (some 7) (.mov (.tmp 0)) none,
    MI.op (some 8) (.mov (.tmp 1)) none,
    MI.op (some 9) (.bin .rem (.tmp 7) (.tmp 8)) none,
    MI.op (some 10) (.mov (.tmp 1)) none,
    MI.op (some 11) (.bin .add (.tmp 9) (.tmp 10)) none,
    MI.op (some 12) (.mov (.tmp 1)) none,
    MI.op (some 13) (.bin .rem (.tmp 11) (.tmp 12)) none,
    MI.op (some 4) (.mov (.tmp 13)) none])
  .ret)
def m23_3 : MCode :=
 (.seq
  (.seq
   (.reg
    [MI.op (some 5) (.mov (.tmp 1)) none,
     MI.op (some 6) (.bin .lss (.tmp 5) (.c (.int .i64 1))) none])
  m23_1)
  m23_2)
def m23_r : List MRes := [.tmp 4]
def m23_b : MCode :=
 (.seq
  (.reg
   [MI.op (some 4) (.mov (.c (.int .i64 0))) none])
  m23_3)
def m23 : MFunc := ⟨2, 14, m23_r, m23_b⟩
theorem c23 : compF Tryd.prog 23 m23 = some m23 := by kernel_rfl

/- strings.TrimRight -/
def m44_1 : MCode :=
 (.seq
  (.reg
   [MI.op (some 13) (.mov (.tmp 0)) none,
    MI.op (some 4) (.mov (.tmp 13)) none])
  .ret)
def m44_2 : MCode :=
 (.cond (.tmp 12)
  m44_1
  .skip)
def m44_3 : MCode :=
 (.seq
  (.reg
   [MI.op (some 22) (.mov (.tmp 0)) none,
    MI.op (some 23) (.mov (.tmp 1)) none,
    MI.op (some 24) (.idxStr (.tmp 23) (.c (.int .i64 0))) none,
    MI.op (some 25) (.call 56 [(.tmp 22), (.tmp 24)]) none,
    MI.op (some 4) (.mov (.tmp 25)) none])
  .ret)
def m44_4 : MCode :=
 (.cond (.tmp 21)
  m44_3
  .skip)
def m44_5 : List MI :=
 [MI.op (some 26) (.mov (.tmp 28)) none,
  MI.op (some 29) (.ext (.tmp 26) 0) none,
  MI.op (some 30) (.ext (.tmp 26) 1) none,
  MI.op (some 5) (.alloc (List.replicate 256 (.bool false))) none,
  MI.op none (.store 256 (.tmp 5) (.tmp 29)) none,
  MI.op (some 6) (.mov (.tmp 30)) none]
def m44_6 : MCode :=
 (.seq
  (.reg
   [MI.op (some 32) (.mov (.tmp 0)) none,
    MI.op (some 33) (.calln 58 [(.tmp 32), (.tmp 5)]) none,
    MI.op (some 4) (.mov (.tmp 33)) none])
  .ret)
def m44_7 : MCode :=
 (.cond (.tmp 31)
  m44_6
  .skip)
def m44_8 : MCode :=
 (.seq
  (.reg
   [MI.op (some 31) (.mov (.tmp 6)) none])
  m44_7)
def m44_9 : MCode :=
 (.seq
  (.reg
   [MI.op (some 34) (.mov (.tmp 0)) none,
    MI.op (some 35) (.mov (.tmp 1)) none,
    MI.op (some 36) (.call 59 [(.tmp 34), (.tmp 35)]) none,
    MI.op (some 4) (.mov (.tmp 36)) none])
  .ret)
def m44_10 : MCode :=
 (.seq
  (.seq
   (.reg
    (MI.op (some 27) (.mov (.tmp 1)) none ::
     MI.op (some 28) (.call 57 [(.tmp 27)]) none ::
     m44_5))
  m44_8)
  m44_9)
def m44_11 : MCode :=
 (.seq
  (.seq
   (.reg
    [MI.op (some 14) (.mov (.tmp 1)) none,
     MI.op (some 15) (.lenS (.tmp 14)) none,
     MI.op (some 16) (.bin .eql (.tmp 15) (.c (.int .i64 1))) none,
     MI.op (some 17) (.mov (.tmp 16)) none,
     MI.op (some 18) (.mov (.tmp 1)) (some (17, true)),
     MI.op (some 19) (.idxStr (.tmp 18) (.c (.int .i64 0))) (some (17, true)),
     MI.op (some 20) (.bin .lss (.tmp 19) (.c (.int .u8 128))) (some (17, true)),
     MI.op (some 21) (.pick (.tmp 17) (.tmp 20) (.c (.bool false))) none])
  m44_4)
  m44_10)
def m44_12 : MCode :=
 (.seq
  (.seq
   (.reg
    [MI.op (some 7) (.mov (.tmp 0)) none,
     MI.op (some 8) (.bin .eql (.tmp 7) (.c (.str []))) none,
     MI.op (some 9) (.mov (.tmp 8)) none,
     MI.op (some 10) (.mov (.tmp 1)) (some (9, false)),
     MI.op (some 11) (.bin .eql (.tmp 10) (.c (.str []))) (some (9, false)),
     MI.op (some 12) (.pick (.tmp 9) (.c (.bool true)) (.tmp 11)) none])
  m44_2)
  m44_11)
def m44_r : List MRes := [.tmp 4]
def m44_b : MCode :=
 (.seq
  (.reg
   [MI.op (some 4) (.mov (.c (.str []))) none])
  m44_12)
def m44 : MFunc := ⟨2, 37, m44_r, m44_b⟩
theorem c44 : compF Tryd.prog 44 m44 = some m44 := by kernel_rfl

/- strings.Trim -/
def m45_1 : MCode :=
 (.seq
  (.reg
   [MI.op (some 13) (.mov (.tmp 0)) none,
    MI.op (some 4) (.mov (.tmp 13)) none])
  .ret)
def m45_2 : MCode :=
 (.cond (.tmp 12)
  m45_1
  .skip)
def m45_3 : MCode :=
 (.seq
  (.drw
   [MI.op (some 22) (.mov (.tmp 0)) none,
    MI.op (some 23) (.mov (.tmp 1)) none,
    MI.op (some 24) (.idxStr (.tmp 23) (.c (.int .i64 0))) none,
    MI.op (some 25) (.call 56 [(.tmp 22), (.tmp 24)]) none,
    MI.op (some 26) (.mov (.tmp 1)) none,
    MI.op (some 27) (.idxStr (.tmp 26) (.c (.int .i64 0))) none]
   [MI.op (some 28) (.call 60 [(.tmp 25), (.tmp 27)]) none,
    MI.op (some 4) (.mov (.tmp 28)) none])
  .ret)
def m45_4 : MCode :=
 (.cond (.tmp 21)
  m45_3
  .skip)
def m45_5 : List MI :=
 [MI.op (some 29) (.mov (.tmp 31)) none,
  MI.op (some 32) (.ext (.tmp 29) 0) none,
  MI.op (some 33) (.ext (.tmp 29) 1) none,
  MI.op (some 5) (.alloc (List.replicate 256 (.bool false))) none,
  MI.op none (.store 256 (.tmp 5) (.tmp 32)) none,
  MI.op (some 6) (.mov (.tmp 33)) none]
def m45_6 : List MI :=
 [MI.op (some 37) (.calln 61 [(.tmp 36), (.tmp 5)]) none,
  MI.op (some 4) (.mov (.tmp 37)) none]
def m45_7 : MCode :=
 (.seq
  (.reg
   (MI.op (some 35) (.mov (.tmp 0)) none ::
    MI.op (some 36) (.calln 58 [(.tmp 35), (.tmp 5)]) none ::
    m45_6))
  .ret)
def m45_8 : MCode :=
 (.cond (.tmp 34)
  m45_7
  .skip)
def m45_9 : MCode :=
 (.seq
  (.reg
   [MI.op (some 34) (.mov (.tmp 6)) none])
  m45_8)
def m45_10 : List MI :=
 [MI.op (some 41) (.mov (.tmp 1)) none,
  MI.op (some 42) (.call 62 [(.tmp 40), (.tmp 41)]) none,
  MI.op (some 4) (.mov (.tmp 42)) none]
def m45_11 : MCode :=
 (.seq
  (.reg
   (MI.op (some 38) (.mov (.tmp 0)) none ::
    MI.op (some 39) (.mov (.tmp 1)) none ::
    MI.op (some 40) (.call 59 [(.tmp 38), (.tmp 39)]) none ::
    m45_10))
  .ret)
def m45_12 : MCode :=
 (.seq
  (.seq
   (.reg
    (MI.op (some 30) (.mov (.tmp 1)) none ::
     MI.op (some 31) (.call 57 [(.tmp 30)]) none ::
     m45_5))
  m45_9)
  m45_11)
def m45_13 : MCode :=
 (.seq
  (.seq
   (.reg
    [MI.op (some 14) (.mov (.tmp 1)) none,
     MI.op (some 15) (.lenS (.tmp 14)) none,
     MI.op (some 16) (.bin .eql (.tmp 15) (.c (.int .i64 1))) none,
     MI.op (some 17) (.mov (.tmp 16)) none,
     MI.op (some 18) (.mov (.tmp 1)) (some (17, true)),
     MI.op (some 19) (.idxStr (.tmp 18) (.c (.int .i64 0))) (some (17, true)),
     MI.op (some 20) (.bin .lss (.tmp 19) (.c (.int .u8 128))) (some (17, true)),
     MI.op (some 21) (.pick (.tmp 17) (.tmp 20) (.c (.bool false))) none])
  m45_4)
  m45_12)
def m45_14 : MCode :=
 (.seq
  (.seq
   (.reg
    [MI.op (some 7) (.mov (.tmp 0)) none,
     MI.op (some 8) (.bin .eql (.tmp 7) (.c (.str []))) none,
     MI.op (some 9) (.mov (.tmp 8)) none,
     MI.op (some 10) (.mov (.tmp 1)) (some (9, false)),
     MI.op (some 11) (.bin .eql (.tmp 10) (.c (.str []))) (some (9, false)),
     MI.op (some 12) (.pick (.tmp 9) (.c (.bool true)) (.tmp 11)) none])
  m45_2)
  m45_13)
def m45_r : List MRes := [.tmp 4]
def m45_b : MCode :=
 (.seq
  (.reg
   [MI.op (some 4) (.mov (.c (.str []))) none])
  m45_14)
def m45 : MFunc := ⟨2, 43, m45_r, m45_b⟩
theorem c45 : compF Tryd.prog 45 m45 = some m45 := by kernel_rfl

/- strings.trimRightByte -/
def m56_1 : MCode :=
 (.blk 1
  (.reg
   [MI.op (some 17) (.mov (.tmp 0)) none,
    MI.op (some 18) (.mov (.tmp 0)) none,
    MI.op (some 19) (.lenS (.tmp 18)) none,
    MI.op (some 20) (.bin .sub (.tmp 19) (.c (.int .i64 1))) none,
    MI.op (some 21) (.slStr (.tmp 17) none (some (.tmp 20))) none,
    MI.op (some 0) (.mov (.tmp 21)) none]))
def m56_2 : MCode :=
 (.seq
  (.seq
   (.reg
    [MI.op (some 5) (.mov (.tmp 0)) none,
     MI.op (some 6) (.lenS (.tmp 5)) none,
     MI.op (some 7) (.bin .gtr (.tmp 6) (.c (.int .i64 0))) none,
     MI.op (some 8) (.mov (.tmp 7)) none,
     MI.op (some 9) (.mov (.tmp 0)) (some (8, true)),
     MI.op (some 10) (.mov (.tmp 0)) (some (8, true)),
     MI.op (some 11) (.lenS (.tmp 10)) (some (8, true)),
     MI.op (some 12) (.bin .sub (.tmp 11) (.c (.int .i64 1))) (some (8, true)),
     MI.op (some 13) (.idxStr (.tmp 9) (.tmp 12)) (some (8, true)),
     MI.op (some 14) (.mov (.tmp 1)) (some (8, true)),
     MI.op (some 15) (.bin .eql (.tmp 13) (.tmp 14)) (some (8, true)),
     MI.op (some 16) (.pick (.tmp 8) (.tmp 15) (.c (.bool false))) none])
   (.cond (.tmp 16)
    .skip
    (.exit 0)))
  m56_1)
def m56_3 : MCode :=
 (.seq
  (.reg
   [MI.op (some 22) (.mov (.tmp 0)) none,
    MI.op (some 4) (.mov (.tmp 22)) none])
  .ret)
def m56_4 : MCode :=
 (.seq
  (.blk 0
   (.loop
  m56_2))
  m56_3)
def m56_r : List MRes := [.tmp 4]
def m56_b : MCode :=
 (.seq
  (.reg
   [MI.op (some 4) (.mov (.c (.str []))) none])
  m56_4)
def m56 : MFunc := ⟨2, 23, m56_r, m56_b⟩
theorem c56 : compF Tryd.prog 56 m56 = some m56 := by kernel_rfl

/- strings.makeASCIISet -/
def m57_1 : MCode :=
 (.seq
  (.reg
   [MI.op (some 17) (.load true 256 (.tmp 2)) none,
    MI.op none (.store 256 (.tmp 2) (.tmp 17)) none,
    MI.op (some 3) (.mov (.c (.bool false))) none])
  .ret)
def m57_2 : MCode :=
 (.cond (.tmp 16)
  m57_1
  .skip)
def m57_3 : MCode :=
 (.seq
  (.seq
   (.reg
    [MI.op (some 15) (.mov (.tmp 5)) none,
     MI.op (some 16) (.bin .geq (.tmp 15) (.c (.int .u8 128))) none])
  m57_2)
  (.reg
   [MI.op (some 18) (.mov (.tmp 5)) none,
    MI.op (some 19) (.ixArr 256 1 (.tmp 2) (.tmp 18)) none,
    MI.op none (.store 1 (.tmp 19) (.c (.bool true))) none]))
def m57_4 : MCode :=
 (.seq
  (.blk 1
   (.seq
    (.reg
     [MI.op (some 12) (.mov (.tmp 0)) none,
      MI.op (some 13) (.mov (.tmp 4)) none,
      MI.op (some 14) (.idxStr (.tmp 12) (.tmp 13)) none,
      MI.op (some 5) (.mov (.tmp 14)) none])
  m57_3))
  (.reg
   [MI.op (some 10) (.mov (.tmp 4)) none,
    MI.op (some 11) (.bin .add (.tmp 10) (.c (.int .i64 1))) none,
    MI.op (some 4) (.mov (.tmp 11)) none]))
def m57_5 : MCode :=
 (.seq
  (.seq
   (.reg
    [MI.op (some 6) (.mov (.tmp 4)) none,
     MI.op (some 7) (.mov (.tmp 0)) none,
     MI.op (some 8) (.lenS (.tmp 7)) none,
     MI.op (some 9) (.bin .lss (.tmp 6) (.tmp 8)) none])
   (.cond (.tmp 9)
    .skip
    (.exit 0)))
  m57_4)
def m57_6 : MCode :=
 (.blk 0
  (.loop
  m57_5))
def m57_7 : MCode :=
 (.seq
  (.reg
   [MI.op (some 20) (.load true 256 (.tmp 2)) none,
    MI.op none (.store 256 (.tmp 2) (.tmp 20)) none,
    MI.op (some 3) (.mov (.c (.bool true))) none])
  .ret)
def m57_8 : MCode :=
 (.seq
  (.seq
   (.reg
    [MI.op (some 4) (.mov (.c (.int .i64 0))) none])
  m57_6)
  m57_7)
def m57_r : List MRes := [.cell 2 true 256, .tmp 3]
def m57_b : MCode :=
 (.seq
  (.reg
   [MI.op (some 2) (.alloc (List.replicate 256 (.bool false))) none,
    MI.op (some 3) (.mov (.c (.bool false))) none])
  m57_8)
def m57 : MFunc := ⟨1, 21, m57_r, m57_b⟩
theorem c57 : compF Tryd.prog 57 m57 = some m57 := by kernel_rfl

/- strings.trimRightASCII -/
def m58_1 : MCode :=
 (.reg
  [MI.op (some 16) (.mov (.tmp 0)) none,
   MI.op (some 17) (.mov (.tmp 0)) none,
   MI.op (some 18) (.lenS (.tmp 17)) none,
   MI.op (some 19) (.bin .sub (.tmp 18) (.c (.int .i64 1))) none,
   MI.op (some 20) (.slStr (.tmp 16) none (some (.tmp 19))) none,
   MI.op (some 0) (.mov (.tmp 20)) none])
def m58_2 : MCode :=
 (.blk 1
  (.seq
   (.seq
    (.reg
     [MI.op (some 8) (.mov (.tmp 1)) none,
      MI.op (some 9) (.mov (.tmp 0)) none,
      MI.op (some 10) (.mov (.tmp 0)) none,
      MI.op (some 11) (.lenS (.tmp 10)) none,
      MI.op (some 12) (.bin .sub (.tmp 11) (.c (.int .i64 1))) none,
      MI.op (some 13) (.idxStr (.tmp 9) (.tmp 12)) none,
      MI.op (some 14) (.calln 65 [(.tmp 8), (.tmp 13)]) none,
      MI.op (some 15) (.un .not (.tmp 14)) none])
    (.cond (.tmp 15)
     (.exit 0)
     .skip))
  m58_1))
def m58_3 : MCode :=
 (.seq
  (.seq
   (.reg
    [MI.op (some 5) (.mov (.tmp 0)) none,
     MI.op (some 6) (.lenS (.tmp 5)) none,
     MI.op (some 7) (.bin .gtr (.tmp 6) (.c (.int .i64 0))) none])
   (.cond (.tmp 7)
    .skip
    (.exit 0)))
  m58_2)
def m58_4 : MCode :=
 (.seq
  (.reg
   [MI.op (some 21) (.mov (.tmp 0)) none,
    MI.op (some 4) (.mov (.tmp 21)) none])
  .ret)
def m58_5 : MCode :=
 (.seq
  (.blk 0
   (.loop
  m58_3))
  m58_4)
def m58_r : List MRes := [.tmp 4]
def m58_b : MCode :=
 (.seq
  (.reg
   [MI.op (some 4) (.mov (.c (.str []))) none])
  m58_5)
def m58 : MFunc := ⟨2, 22, m58_r, m58_b⟩
theorem c58 : compF Tryd.prog 58 m58 = some m58 := by kernel_rfl

/- strings.trimLeftASCII -/
def m61_1 : MCode :=
 (.blk 1
  (.seq
   (.seq
    (.reg
     [MI.op (some 8) (.mov (.tmp 1)) none,
      MI.op (some 9) (.mov (.tmp 0)) none,
      MI.op (some 10) (.idxStr (.tmp 9) (.c (.int .i64 0))) none,
      MI.op (some 11) (.calln 65 [(.tmp 8), (.tmp 10)]) none,
      MI.op (some 12) (.un .not (.tmp 11)) none])
    (.cond (.tmp 12)
     (.exit 0)
     .skip))
   (.reg
    [MI.op (some 13) (.mov (.tmp 0)) none,
     MI.op (some 14) (.slStr (.tmp 13) (some (.c (.int .i64 1))) none) none,
     MI.op (some 0) (.mov (.tmp 14)) none])))
def m61_2 : MCode :=
 (.seq
  (.seq
   (.reg
    [MI.op (some 5) (.mov (.tmp 0)) none,
     MI.op (some 6) (.lenS (.tmp 5)) none,
     MI.op (some 7) (.bin .gtr (.tmp 6) (.c (.int .i64 0))) none])
   (.cond (.tmp 7)
    .skip
    (.exit 0)))
  m61_1)
def m61_3 : MCode :=
 (.seq
  (.reg
   [MI.op (some 15) (.mov (.tmp 0)) none,
    MI.op (some 4) (.mov (.tmp 15)) none])
  .ret)
def m61_4 : MCode :=
 (.seq
  (.blk 0
   (.loop
  m61_2))
  m61_3)
def m61_r : List MRes := [.tmp 4]
def m61_b : MCode :=
 (.seq
  (.reg
   [MI.op (some 4) (.mov (.c (.str []))) none])
  m61_4)
def m61 : MFunc := ⟨2, 16, m61_r, m61_b⟩
theorem c61 : compF Tryd.prog 61 m61 = some m61 := by kernel_rfl

/- (*strings.asciiSet).contains -/
def m65_1 : MCode :=
 (.seq
  (.reg
   [MI.op (some 5) (.mov (.tmp 0)) none,
    MI.op (some 6) (.mov (.tmp 1)) none,
    MI.op (some 7) (.chk (.tmp 5)) none,
    MI.op (some 8) (.ixArr 256 1 (.tmp 7) (.tmp 6)) none,
    MI.op (some 9) (.load false 1 (.tmp 8)) none,
    MI.op (some 4) (.mov (.tmp 9)) none])
  .ret)
def m65_r : List MRes := [.tmp 4]
def m65_b : MCode :=
 (.seq
  (.reg
   [MI.op (some 4) (.mov (.c (.bool false))) none])
  m65_1)
def m65 : MFunc := ⟨2, 10, m65_r, m65_b⟩
theorem c65 : compF Tryd.prog 65 m65 = some m65 := by kernel_rfl

/- tollhouse/tollhouselaw10.NamesTell -/
def m3_1 : List MI :=
 [MI.op (some 12) (.un .not (.tmp 11)) none,
  MI.op (some 13) (.mov (.tmp 12)) none,
  MI.op (some 14) (.mov (.tmp 1)) (some (13, false)),
  MI.op (some 15) (.lenS (.tmp 14)) (some (13, false)),
  MI.op (some 16) (.bin .gtr (.tmp 15) (.c (.int .i64 200))) (some (13, false)),
  MI.op (some 17) (.pick (.tmp 13) (.c (.bool true)) (.tmp 16)) none]
def m3_2 : MCode :=
 (.seq
  (.reg
   [MI.op (some 18) (.call 16 []) none,
    MI.op (some 6) (.mov (.tmp 18)) none])
  .ret)
def m3_3 : MCode :=
 (.cond (.tmp 17)
  m3_2
  .skip)
def m3_4 : List MI :=
 [MI.op (some 19) (.mov (.tmp 21)) none,
  MI.op (some 22) (.ext (.tmp 19) 0) none,
  MI.op (some 23) (.ext (.tmp 19) 1) none,
  MI.op (some 7) (.mov (.tmp 22)) none,
  MI.op (some 8) (.mov (.tmp 23)) none]
def m3_5 : List MI :=
 [MI.op (some 9) (.alloc [(.str []), (.bool false)]) none,
  MI.op none (.store 2 (.tmp 9) (.tmp 25)) none]
def m3_6 : List MI :=
 [MI.op (some 63) (.pick (.tmp 61) (.tmp 62) (.c (.bool false))) none,
  MI.op (some 6) (.mov (.tmp 63)) none]
def m3_7 : List MI :=
 (MI.op (some 47) (.eqv false [(4, .i)] (.tmp 44) (.tmp 46)) (some (42, true)) ::
  MI.op (some 48) (.pick (.tmp 42) (.tmp 47) (.c (.bool false))) none ::
  MI.op (some 49) (.mov (.tmp 48)) none ::
  MI.op (some 50) (.mov (.tmp 7)) (some (49, true)) ::
  MI.op (some 51) (.fa 0 (.tmp 9)) (some (49, true)) ::
  MI.op (some 52) (.load false 1 (.tmp 51)) (some (49, true)) ::
  MI.op (some 53) (.bin .eql (.tmp 50) (.tmp 52)) (some (49, true)) ::
  MI.op (some 54) (.pick (.tmp 49) (.tmp 53) (.c (.bool false))) none ::
  MI.op (some 55) (.mov (.tmp 54)) none ::
  MI.op (some 56) (.mov (.tmp 8)) (some (55, true)) ::
  MI.op (some 57) (.fa 1 (.tmp 9)) (some (55, true)) ::
  MI.op (some 58) (.load false 1 (.tmp 57)) (some (55, true)) ::
  MI.op (some 59) (.binB .eql (.tmp 56) (.tmp 58)) (some (55, true)) ::
  MI.op (some 60) (.pick (.tmp 55) (.tmp 59) (.c (.bool false))) none ::
  MI.op (some 61) (.mov (.tmp 60)) none ::
  MI.op (some 62) (.call 16 []) (some (61, true)) ::
  m3_6)
def m3_8 : List MI :=
 (MI.op (some 45) (.mov (.tmp 1)) (some (42, true)) ::
  MI.op (some 46) (.call 22 [(.tmp 45)]) (some (42, true)) ::
  m3_7)
def m3_9 : List MI :=
 (MI.op (some 40) (.binB .eql (.tmp 36) (.tmp 39)) (some (33, true)) ::
  MI.op (some 41) (.pick (.tmp 33) (.tmp 40) (.c (.bool false))) none ::
  MI.op (some 42) (.mov (.tmp 41)) none ::
  MI.op (some 43) (.mov (.tmp 1)) (some (42, true)) ::
  MI.op (some 44) (.call 21 [(.tmp 43)]) (some (42, true)) ::
  m3_8)
def m3_10 : List MI :=
 (MI.op (some 37) (.mov (.tmp 1)) (some (33, true)) ::
  MI.op (some 38) (.bsl 1 1 [(.str [])] [(0, 1, (.tmp 37))]) (some (33, true)) ::
  MI.op (some 39) (.call 20 [(.tmp 38)]) (some (33, true)) ::
  m3_9)
def m3_11 : List MI :=
 (MI.op (some 32) (.binB .eql (.tmp 29) (.tmp 31)) none ::
  MI.op (some 33) (.mov (.tmp 32)) none ::
  MI.op (some 34) (.mov (.tmp 1)) (some (33, true)) ::
  MI.op (some 35) (.bsl 1 1 [(.str [])] [(0, 1, (.tmp 34))]) (some (33, true)) ::
  MI.op (some 36) (.call 19 [(.tmp 35)]) (some (33, true)) ::
  m3_10)
def m3_12 : List MI :=
 (MI.op (some 30) (.mov (.tmp 0)) none ::
  MI.op (some 31) (.call 20 [(.tmp 30)]) none ::
  m3_11)
def m3_13 : MCode :=
 (.seq
  (.reg
   (MI.op (some 26) (.bsl 0 1 [(.str [])] []) none ::
    MI.op (some 27) (.mov (.tmp 0)) none ::
    MI.op (some 28) (.app 1 16 (.tmp 26) (.tmp 27)) none ::
    MI.op (some 29) (.call 19 [(.tmp 28)]) none ::
    m3_12))
  .ret)
def m3_14 : MCode :=
 (.seq
  (.reg
   (MI.op (some 24) (.load true 4 (.tmp 5)) none ::
    MI.op (some 25) (.call 18 [(.tmp 24)]) none ::
    m3_5))
  m3_13)
def m3_15 : MCode :=
 (.seq
  (.reg
   (MI.op (some 20) (.load true 4 (.tmp 5)) none ::
    MI.op (some 21) (.call 17 [(.tmp 20)]) none ::
    m3_4))
  m3_14)
def m3_16 : MCode :=
 (.seq
  (.seq
   (.reg
    (MI.op (some 10) (.mov (.tmp 0)) none ::
     MI.op (some 11) (.call 15 [(.tmp 10)]) none ::
     m3_1))
  m3_3)
  m3_15)
def m3_r : List MRes := [.tmp 6]
def m3_b : MCode :=
 (.seq
  (.reg
   [MI.op (some 5) (.box (.tmp 2)) none,
    MI.op (some 6) (.mov (.c (.bool false))) none])
  m3_16)
def m3 : MFunc := ⟨3, 64, m3_r, m3_b⟩
theorem c3 : compF Tryd.prog 3 m3 = some m3 := by kernel_rfl

/- tollhouse/tollhouselaw10.NamesBack -/
def m4_1 : MCode :=
 (.seq
  (.reg
   [MI.op (some 15) (.call 16 []) none,
    MI.op (some 4) (.mov (.tmp 15)) none])
  .ret)
def m4_2 : MCode :=
 (.cond (.tmp 14)
  m4_1
  .skip)
def m4_3 : List MI :=
 [MI.op (some 32) (.mov (.tmp 38)) none,
  MI.op (some 39) (.ext (.tmp 32) 0) none,
  MI.op (some 40) (.ext (.tmp 32) 1) none,
  MI.op (some 8) (.mov (.tmp 39)) none,
  MI.op (some 9) (.mov (.tmp 40)) none]
def m4_4 : List MI :=
 (MI.op (some 38) (.call 17 [(.tmp 37)]) none ::
  m4_3)
def m4_5 : MCode :=
 (.cond (.tmp 53)
  (.seq
   (.reg
    [MI.op (some 4) (.mov (.c (.bool false))) none])
   .ret)
  .skip)
def m4_6 : MCode :=
 (.seq
  (.reg
   [MI.op (some 41) (.mov (.tmp 7)) none,
    MI.op (some 42) (.mov (.tmp 41)) none,
    MI.op (some 43) (.mov (.tmp 9)) (some (42, true)),
    MI.op (some 44) (.un .not (.tmp 43)) (some (42, true)),
    MI.op (some 45) (.mov (.tmp 44)) (some (42, true)),
    MI.op (some 46) (.mov (.tmp 8)) (some (45, false)),
    MI.op (some 47) (.mov (.tmp 0)) (some (45, false)),
    MI.op (some 48) (.mov (.tmp 6)) (some (45, false)),
    MI.op (some 49) (.ixSl 1 (.tmp 47) (.tmp 48)) (some (45, false)),
    MI.op (some 50) (.load false 1 (.tmp 49)) (some (45, false)),
    MI.op (some 51) (.bin .neq (.tmp 46) (.tmp 50)) (some (45, false)),
    MI.op (some 52) (.pick (.tmp 45) (.c (.bool true)) (.tmp 51)) (some (42, true)),
    MI.op (some 53) (.pick (.tmp 42) (.tmp 52) (.c (.bool false))) none])
  m4_5)
def m4_7 : MCode :=
 (.seq
  (.reg
   (MI.op (some 33) (.mov (.tmp 0)) none ::
    MI.op (some 34) (.mov (.tmp 6)) none ::
    MI.op (some 35) (.ixSl 1 (.tmp 33) (.tmp 34)) none ::
    MI.op (some 36) (.load false 1 (.tmp 35)) none ::
    MI.op (some 37) (.call 21 [(.tmp 36)]) none ::
    m4_4))
  m4_6)
def m4_8 : MCode :=
 (.seq
  (.reg
   [MI.op (some 28) (.mov (.tmp 5)) none,
    MI.op (some 29) (.mov (.tmp 28)) none,
    MI.op (some 30) (.mov (.tmp 7)) (some (29, true)),
    MI.op (some 31) (.pick (.tmp 29) (.tmp 30) (.c (.bool false))) none,
    MI.op (some 5) (.mov (.tmp 31)) none])
  m4_7)
def m4_9 : MCode :=
 (.seq
  (.blk 1
   (.seq
    (.reg
     [MI.op (some 22) (.mov (.tmp 0)) none,
      MI.op (some 23) (.mov (.tmp 6)) none,
      MI.op (some 24) (.ixSl 1 (.tmp 22) (.tmp 23)) none,
      MI.op (some 25) (.load false 1 (.tmp 24)) none,
      MI.op (some 26) (.bsl 1 1 [(.str [])] [(0, 1, (.tmp 25))]) none,
      MI.op (some 27) (.call 19 [(.tmp 26)]) none,
      MI.op (some 7) (.mov (.tmp 27)) none])
  m4_8))
  (.reg
   [MI.op (some 20) (.mov (.tmp 6)) none,
    MI.op (some 21) (.bin .add (.tmp 20) (.c (.int .i64 1))) none,
    MI.op (some 6) (.mov (.tmp 21)) none]))
def m4_10 : MCode :=
 (.seq
  (.seq
   (.reg
    [MI.op (some 16) (.mov (.tmp 6)) none,
     MI.op (some 17) (.mov (.tmp 0)) none,
     MI.op (some 18) (.len (.tmp 17)) none,
     MI.op (some 19) (.bin .lss (.tmp 16) (.tmp 18)) none])
   (.cond (.tmp 19)
    .skip
    (.exit 0)))
  m4_9)
def m4_11 : MCode :=
 (.blk 0
  (.loop
  m4_10))
def m4_12 : List MI :=
 [MI.op (some 56) (.mov (.tmp 5)) none,
  MI.op (some 57) (.binB .neq (.tmp 55) (.tmp 56)) none]
def m4_13 : MCode :=
 (.cond (.tmp 57)
  (.seq
   (.reg
    [MI.op (some 4) (.mov (.c (.bool false))) none])
   .ret)
  .skip)
def m4_14 : List MI :=
 [MI.op (some 58) (.mov (.tmp 60)) none,
  MI.op (some 61) (.ext (.tmp 58) 0) none,
  MI.op (some 62) (.ext (.tmp 58) 1) none,
  MI.op (some 10) (.mov (.tmp 61)) none,
  MI.op (some 11) (.mov (.tmp 62)) none]
def m4_15 : MCode :=
 (.cond (.tmp 90)
  (.seq
   (.reg
    [MI.op (some 4) (.mov (.c (.bool false))) none])
   .ret)
  .skip)
def m4_16 : List MI :=
 [MI.op (some 99) (.pick (.tmp 97) (.tmp 98) (.c (.bool false))) none,
  MI.op (some 4) (.mov (.tmp 99)) none]
def m4_17 : List MI :=
 (MI.op (some 94) (.mov (.tmp 10)) none ::
  MI.op (some 95) (.lenS (.tmp 94)) none ::
  MI.op (some 96) (.bin .eql (.tmp 93) (.tmp 95)) none ::
  MI.op (some 97) (.mov (.tmp 96)) none ::
  MI.op (some 98) (.call 16 []) (some (97, true)) ::
  m4_16)
def m4_18 : MCode :=
 (.seq
  (.reg
   (MI.op (some 91) (.mov (.tmp 10)) none ::
    MI.op (some 92) (.lenS (.tmp 91)) none ::
    MI.op (some 93) (.call 23 [(.tmp 92), (.c (.int .i64 5))]) none ::
    m4_17))
  .ret)
def m4_19 : MCode :=
 (.seq
  (.seq
   (.drw
    [MI.op (some 63) (.mov (.tmp 11)) none,
     MI.op (some 64) (.mov (.tmp 63)) none,
     MI.op (some 65) (.mov (.tmp 10)) (some (64, true)),
     MI.op (some 66) (.call 21 [(.tmp 65)]) (some (64, true)),
     MI.op (some 67) (.load true 4 (.tmp 3)) (some (64, true))]
    [MI.op (some 68) (.eqv true [(4, .i)] (.tmp 66) (.tmp 67)) (some (64, true)),
     MI.op (some 69) (.pick (.tmp 64) (.tmp 68) (.c (.bool false))) none,
     MI.op (some 70) (.mov (.tmp 69)) none,
     MI.op (some 71) (.mov (.tmp 11)) (some (70, false)),
     MI.op (some 72) (.un .not (.tmp 71)) (some (70, false)),
     MI.op (some 73) (.mov (.tmp 72)) (some (70, false)),
     MI.op (some 74) (.mov (.tmp 10)) (some (73, true)),
     MI.op (some 75) (.bin .neq (.tmp 74) (.c (.str []))) (some (73, true)),
     MI.op (some 76) (.pick (.tmp 73) (.tmp 75) (.c (.bool false))) (some (70, false)),
     MI.op (some 77) (.pick (.tmp 70) (.c (.bool true)) (.tmp 76)) none,
     MI.op (some 78) (.mov (.tmp 77)) none,
     MI.op (some 79) (.mov (.tmp 11)) (some (78, false)),
     MI.op (some 80) (.mov (.tmp 79)) (some (78, false)),
     MI.op (some 81) (.mov (.tmp 10)) (some (80, true)),
     MI.op (some 82) (.bin .neq (.tmp 81) (.c (.str []))) (some (80, true)),
     MI.op (some 83) (.pick (.tmp 80) (.tmp 82) (.c (.bool false))) (some (78, false)),
     MI.op (some 84) (.mov (.tmp 83)) (some (78, false)),
     MI.op (some 85) (.mov (.tmp 10)) (some (84, true)),
     MI.op (some 86) (.bsl 1 1 [(.str [])] [(0, 1, (.tmp 85))]) (some (84, true)),
     MI.op (some 87) (.call 19 [(.tmp 86)]) (some (84, true)),
     MI.op (some 88) (.un .not (.tmp 87)) (some (84, true)),
     MI.op (some 89) (.pick (.tmp 84) (.tmp 88) (.c (.bool false))) (some (78, false)),
     MI.op (some 90) (.pick (.tmp 78) (.c (.bool true)) (.tmp 89)) none])
  m4_15)
  m4_18)
def m4_20 : MCode :=
 (.seq
  (.reg
   (MI.op (some 59) (.load true 4 (.tmp 3)) none ::
    MI.op (some 60) (.call 17 [(.tmp 59)]) none ::
    m4_14))
  m4_19)
def m4_21 : MCode :=
 (.seq
  (.seq
   (.reg
    (MI.op (some 54) (.mov (.tmp 0)) none ::
     MI.op (some 55) (.call 19 [(.tmp 54)]) none ::
     m4_12))
  m4_13)
  m4_20)
def m4_22 : MCode :=
 (.seq
  (.seq
   (.reg
    [MI.op (some 6) (.mov (.c (.int .i64 0))) none])
  m4_11)
  m4_21)
def m4_23 : MCode :=
 (.seq
  (.reg
   [MI.op (some 5) (.mov (.c (.bool true))) none])
  m4_22)
def m4_24 : MCode :=
 (.seq
  (.seq
   (.reg
    [MI.op (some 12) (.mov (.tmp 0)) none,
     MI.op (some 13) (.call 15 [(.tmp 12)]) none,
     MI.op (some 14) (.un .not (.tmp 13)) none])
  m4_2)
  m4_23)
def m4_r : List MRes := [.tmp 4]
def m4_b : MCode :=
 (.seq
  (.reg
   [MI.op (some 3) (.box (.tmp 1)) none,
    MI.op (some 4) (.mov (.c (.bool false))) none])
  m4_24)
def m4 : MFunc := ⟨2, 100, m4_r, m4_b⟩
theorem c4 : compF Tryd.prog 4 m4 = some m4 := by kernel_rfl

/- tollhouse/tollhouselaw10.NamesSigns -/
def m5_1 : List MI :=
 [MI.op (some 24) (.pick (.tmp 22) (.tmp 23) (.c (.bool false))) none,
  MI.op (some 6) (.mov (.tmp 24)) none]
def m5_2 : List MI :=
 (MI.op (some 21) (.un .not (.tmp 20)) none ::
  MI.op (some 22) (.mov (.tmp 21)) none ::
  MI.op (some 23) (.call 16 []) (some (22, true)) ::
  m5_1)
def m5_3 : MCode :=
 (.seq
  (.reg
   (MI.op (some 19) (.bsl 1 1 [(.str [])] [(0, 1, (.c (.str [])))]) none ::
    MI.op (some 20) (.call 19 [(.tmp 19)]) none ::
    m5_2))
  .ret)
def m5_4 : MCode :=
 (.cond (.tmp 18)
  m5_3
  .skip)
def m5_5 : MCode :=
 (.seq
  (.blk 1
   (.reg
    [MI.op (some 34) (.mov (.tmp 7)) none,
     MI.op (some 35) (.mov (.tmp 34)) none,
     MI.op (some 36) (.mov (.tmp 0)) (some (35, true)),
     MI.op (some 37) (.mov (.tmp 8)) (some (35, true)),
     MI.op (some 38) (.idxStr (.tmp 36) (.tmp 37)) (some (35, true)),
     MI.op (some 39) (.bin .geq (.tmp 38) (.c (.int .u8 97))) (some (35, true)),
     MI.op (some 40) (.pick (.tmp 35) (.tmp 39) (.c (.bool false))) none,
     MI.op (some 41) (.mov (.tmp 40)) none,
     MI.op (some 42) (.mov (.tmp 0)) (some (41, true)),
     MI.op (some 43) (.mov (.tmp 8)) (some (41, true)),
     MI.op (some 44) (.idxStr (.tmp 42) (.tmp 43)) (some (41, true)),
     MI.op (some 45) (.bin .leq (.tmp 44) (.c (.int .u8 122))) (some (41, true)),
     MI.op (some 46) (.pick (.tmp 41) (.tmp 45) (.c (.bool false))) none,
     MI.op (some 7) (.mov (.tmp 46)) none]))
  (.reg
   [MI.op (some 32) (.mov (.tmp 8)) none,
    MI.op (some 33) (.bin .add (.tmp 32) (.c (.int .i64 1))) none,
    MI.op (some 8) (.mov (.tmp 33)) none]))
def m5_6 : MCode :=
 (.seq
  (.seq
   (.reg
    [MI.op (some 28) (.mov (.tmp 8)) none,
     MI.op (some 29) (.mov (.tmp 0)) none,
     MI.op (some 30) (.lenS (.tmp 29)) none,
     MI.op (some 31) (.bin .lss (.tmp 28) (.tmp 30)) none])
   (.cond (.tmp 31)
    .skip
    (.exit 0)))
  m5_5)
def m5_7 : MCode :=
 (.blk 0
  (.loop
  m5_6))
def m5_8 : List MI :=
 [MI.op (some 50) (.mov (.tmp 7)) none,
  MI.op (some 51) (.binB .neq (.tmp 49) (.tmp 50)) none]
def m5_9 : MCode :=
 (.cond (.tmp 51)
  (.seq
   (.reg
    [MI.op (some 6) (.mov (.c (.bool false))) none])
   .ret)
  .skip)
def m5_10 : MCode :=
 (.seq
  (.reg
   [MI.op (some 54) (.call 16 []) none,
    MI.op (some 6) (.mov (.tmp 54)) none])
  .ret)
def m5_11 : MCode :=
 (.cond (.tmp 53)
  m5_10
  .skip)
def m5_12 : List MI :=
 [MI.op (some 94) (.pick (.tmp 92) (.tmp 93) (.c (.bool false))) none,
  MI.op (some 6) (.mov (.tmp 94)) none]
def m5_13 : List MI :=
 (MI.op (some 87) (.mov (.tmp 0)) (some (82, true)) ::
  MI.op (some 88) (.lenS (.tmp 87)) (some (82, true)) ::
  MI.op (some 89) (.bin .lss (.tmp 88) (.c (.int .i64 4))) (some (82, true)) ::
  MI.op (some 90) (.binB .eql (.tmp 86) (.tmp 89)) (some (82, true)) ::
  MI.op (some 91) (.pick (.tmp 82) (.tmp 90) (.c (.bool false))) none ::
  MI.op (some 92) (.mov (.tmp 91)) none ::
  MI.op (some 93) (.call 16 []) (some (92, true)) ::
  m5_12)
def m5_14 : List MI :=
 (MI.op (some 75) (.mov (.tmp 2)) none ::
  MI.op (some 76) (.bin .geq (.tmp 75) (.c (.int .u8 97))) none ::
  MI.op (some 77) (.mov (.tmp 76)) none ::
  MI.op (some 78) (.mov (.tmp 2)) (some (77, true)) ::
  MI.op (some 79) (.bin .leq (.tmp 78) (.c (.int .u8 122))) (some (77, true)) ::
  MI.op (some 80) (.pick (.tmp 77) (.tmp 79) (.c (.bool false))) none ::
  MI.op (some 81) (.binB .eql (.tmp 74) (.tmp 80)) none ::
  MI.op (some 82) (.mov (.tmp 81)) none ::
  MI.op (some 83) (.mov (.tmp 0)) (some (82, true)) ::
  MI.op (some 84) (.bin .add (.tmp 83) (.c (.str [97]))) (some (82, true)) ::
  MI.op (some 85) (.bsl 1 1 [(.str [])] [(0, 1, (.tmp 84))]) (some (82, true)) ::
  MI.op (some 86) (.call 19 [(.tmp 85)]) (some (82, true)) ::
  m5_13)
def m5_15 : MCode :=
 (.seq
  (.reg
   (MI.op (some 72) (.mov (.tmp 10)) none ::
    MI.op (some 73) (.bsl 1 1 [(.str [])] [(0, 1, (.tmp 72))]) none ::
    MI.op (some 74) (.call 19 [(.tmp 73)]) none ::
    m5_14))
  .ret)
def m5_16 : MCode :=
 (.seq
  (.drw
   [MI.op (some 60) (.mov (.tmp 0)) none,
    MI.op (some 61) (.mov (.tmp 9)) none,
    MI.op (some 62) (.slStr (.tmp 60) none (some (.tmp 61))) none,
    MI.op (some 63) (.mov (.tmp 2)) none,
    MI.op (some 64) (.bsl 1 1 [(.int .u8 0)] [(0, 1, (.tmp 63))]) none,
    MI.op (some 65) (.toStr (.tmp 64)) none,
    MI.op (some 66) (.bin .add (.tmp 62) (.tmp 65)) none,
    MI.op (some 67) (.mov (.tmp 0)) none,
    MI.op (some 68) (.mov (.tmp 9)) none,
    MI.op (some 69) (.bin .add (.tmp 68) (.c (.int .i64 1))) none,
    MI.op (some 70) (.slStr (.tmp 67) (some (.tmp 69)) none) none]
   [MI.op (some 71) (.bin .add (.tmp 66) (.tmp 70)) none,
    MI.op (some 10) (.mov (.tmp 71)) none])
  m5_15)
def m5_17 : MCode :=
 (.seq
  (.reg
   [MI.op (some 55) (.mov (.tmp 1)) none,
    MI.op (some 56) (.toInt .i64 (.tmp 55)) none,
    MI.op (some 57) (.mov (.tmp 0)) none,
    MI.op (some 58) (.lenS (.tmp 57)) none,
    MI.op (some 59) (.bin .rem (.tmp 56) (.tmp 58)) none,
    MI.op (some 9) (.mov (.tmp 59)) none])
  m5_16)
def m5_18 : MCode :=
 (.seq
  (.seq
   (.reg
    [MI.op (some 52) (.mov (.tmp 7)) none,
     MI.op (some 53) (.un .not (.tmp 52)) none])
  m5_11)
  m5_17)
def m5_19 : MCode :=
 (.seq
  (.seq
   (.reg
    (MI.op (some 47) (.mov (.tmp 0)) none ::
     MI.op (some 48) (.bsl 1 1 [(.str [])] [(0, 1, (.tmp 47))]) none ::
     MI.op (some 49) (.call 19 [(.tmp 48)]) none ::
     m5_8))
  m5_9)
  m5_18)
def m5_20 : MCode :=
 (.seq
  (.seq
   (.reg
    [MI.op (some 8) (.mov (.c (.int .i64 0))) none])
  m5_7)
  m5_19)
def m5_21 : MCode :=
 (.seq
  (.reg
   [MI.op (some 25) (.mov (.tmp 0)) none,
    MI.op (some 26) (.lenS (.tmp 25)) none,
    MI.op (some 27) (.bin .leq (.tmp 26) (.c (.int .i64 4))) none,
    MI.op (some 7) (.mov (.tmp 27)) none])
  m5_20)
def m5_22 : MCode :=
 (.seq
  (.seq
   (.reg
    [MI.op (some 11) (.mov (.tmp 0)) none,
     MI.op (some 12) (.lenS (.tmp 11)) none,
     MI.op (some 13) (.bin .gtr (.tmp 12) (.c (.int .i64 100))) none,
     MI.op (some 14) (.mov (.tmp 13)) none,
     MI.op (some 15) (.mov (.tmp 0)) (some (14, false)),
     MI.op (some 16) (.lenS (.tmp 15)) (some (14, false)),
     MI.op (some 17) (.bin .eql (.tmp 16) (.c (.int .i64 0))) (some (14, false)),
     MI.op (some 18) (.pick (.tmp 14) (.c (.bool true)) (.tmp 17)) none])
  m5_4)
  m5_21)
def m5_r : List MRes := [.tmp 6]
def m5_b : MCode :=
 (.seq
  (.reg
   [MI.op (some 6) (.mov (.c (.bool false))) none])
  m5_22)
def m5 : MFunc := ⟨3, 95, m5_r, m5_b⟩
theorem c5 : compF Tryd.prog 5 m5 = some m5 := by kernel_rfl

/- tollhouse/tollhouselaw10.NamesPads -/
def m6_1 : MCode :=
 (.cond (.tmp 16)
  (.seq
   (.reg
    [MI.op (some 4) (.mov (.c (.bool true))) none])
   (.exit 1))
  .skip)
def m6_2 : MCode :=
 (.seq
  (.reg
   [MI.op (some 17) (.mov (.tmp 3)) none,
    MI.op (some 18) (.mov (.tmp 17)) none,
    MI.op (some 19) (.mov (.tmp 4)) (some (18, true)),
    MI.op (some 20) (.un .not (.tmp 19)) (some (18, true)),
    MI.op (some 21) (.pick (.tmp 18) (.tmp 20) (.c (.bool false))) none,
    MI.op (some 22) (.mov (.tmp 21)) none,
    MI.op (some 23) (.mov (.tmp 6)) (some (22, true)),
    MI.op (some 24) (.ixArr 4 1 (.tmp 1) (.tmp 23)) (some (22, true)),
    MI.op (some 25) (.load false 1 (.tmp 24)) (some (22, true)),
    MI.op (some 26) (.bin .geq (.tmp 25) (.c (.int .u8 97))) (some (22, true)),
    MI.op (some 27) (.pick (.tmp 22) (.tmp 26) (.c (.bool false))) none,
    MI.op (some 28) (.mov (.tmp 27)) none,
    MI.op (some 29) (.mov (.tmp 6)) (some (28, true)),
    MI.op (some 30) (.ixArr 4 1 (.tmp 1) (.tmp 29)) (some (28, true)),
    MI.op (some 31) (.load false 1 (.tmp 30)) (some (28, true)),
    MI.op (some 32) (.bin .leq (.tmp 31) (.c (.int .u8 122))) (some (28, true)),
    MI.op (some 33) (.pick (.tmp 28) (.tmp 32) (.c (.bool false))) none,
    MI.op (some 3) (.mov (.tmp 33)) none])
  (.reg
   [MI.op (some 34) (.mov (.tmp 5)) none,
    MI.op (some 35) (.bin .add (.tmp 34) (.c (.int .i64 1))) none,
    MI.op (some 5) (.mov (.tmp 35)) none]))
def m6_3 : MCode :=
 (.seq
  (.blk 1
   (.seq
    (.seq
     (.reg
      [MI.op (some 13) (.mov (.tmp 6)) none,
       MI.op (some 14) (.ixArr 4 1 (.tmp 1) (.tmp 13)) none,
       MI.op (some 15) (.load false 1 (.tmp 14)) none,
       MI.op (some 16) (.bin .eql (.tmp 15) (.c (.int .u8 0))) none])
  m6_1)
  m6_2))
  (.reg
   [MI.op (some 11) (.mov (.tmp 6)) none,
    MI.op (some 12) (.bin .add (.tmp 11) (.c (.int .i64 1))) none,
    MI.op (some 6) (.mov (.tmp 12)) none]))
def m6_4 : MCode :=
 (.seq
  (.seq
   (.reg
    [MI.op (some 9) (.mov (.tmp 6)) none,
     MI.op (some 10) (.bin .lss (.tmp 9) (.c (.int .i64 4))) none])
   (.cond (.tmp 10)
    .skip
    (.exit 0)))
  m6_3)
def m6_5 : MCode :=
 (.blk 0
  (.loop
  m6_4))
def m6_6 : List MI :=
 [MI.op (some 36) (.mov (.tmp 38)) none,
  MI.op (some 39) (.ext (.tmp 36) 0) none,
  MI.op (some 40) (.ext (.tmp 36) 1) none,
  MI.op (some 7) (.mov (.tmp 39)) none,
  MI.op (some 8) (.mov (.tmp 40)) none]
def m6_7 : MCode :=
 (.cond (.tmp 60)
  (.seq
   (.reg
    [MI.op (some 2) (.mov (.c (.bool false))) none])
   .ret)
  .skip)
def m6_8 : MCode :=
 (.seq
  (.drw
   [MI.op (some 61) (.mov (.tmp 8)) none,
    MI.op (some 62) (.un .not (.tmp 61)) none,
    MI.op (some 63) (.mov (.tmp 62)) none,
    MI.op (some 64) (.mov (.tmp 7)) (some (63, false)),
    MI.op (some 65) (.call 21 [(.tmp 64)]) (some (63, false)),
    MI.op (some 66) (.load true 4 (.tmp 1)) (some (63, false))]
   [MI.op (some 67) (.eqv false [(4, .i)] (.tmp 65) (.tmp 66)) (some (63, false)),
    MI.op (some 68) (.pick (.tmp 63) (.c (.bool true)) (.tmp 67)) none,
    MI.op (some 69) (.mov (.tmp 68)) none,
    MI.op (some 70) (.call 16 []) (some (69, true)),
    MI.op (some 71) (.pick (.tmp 69) (.tmp 70) (.c (.bool false))) none,
    MI.op (some 2) (.mov (.tmp 71)) none])
  .ret)
def m6_9 : MCode :=
 (.seq
  (.seq
   (.reg
    [MI.op (some 41) (.mov (.tmp 8)) none,
     MI.op (some 42) (.mov (.tmp 3)) none,
     MI.op (some 43) (.binB .neq (.tmp 41) (.tmp 42)) none,
     MI.op (some 44) (.mov (.tmp 43)) none,
     MI.op (some 45) (.mov (.tmp 8)) (some (44, false)),
     MI.op (some 46) (.mov (.tmp 45)) (some (44, false)),
     MI.op (some 47) (.mov (.tmp 7)) (some (46, true)),
     MI.op (some 48) (.lenS (.tmp 47)) (some (46, true)),
     MI.op (some 49) (.mov (.tmp 5)) (some (46, true)),
     MI.op (some 50) (.bin .neq (.tmp 48) (.tmp 49)) (some (46, true)),
     MI.op (some 51) (.pick (.tmp 46) (.tmp 50) (.c (.bool false))) (some (44, false)),
     MI.op (some 52) (.pick (.tmp 44) (.c (.bool true)) (.tmp 51)) none,
     MI.op (some 53) (.mov (.tmp 52)) none,
     MI.op (some 54) (.mov (.tmp 8)) (some (53, false)),
     MI.op (some 55) (.un .not (.tmp 54)) (some (53, false)),
     MI.op (some 56) (.mov (.tmp 55)) (some (53, false)),
     MI.op (some 57) (.mov (.tmp 7)) (some (56, true)),
     MI.op (some 58) (.bin .neq (.tmp 57) (.c (.str []))) (some (56, true)),
     MI.op (some 59) (.pick (.tmp 56) (.tmp 58) (.c (.bool false))) (some (53, false)),
     MI.op (some 60) (.pick (.tmp 53) (.c (.bool true)) (.tmp 59)) none])
  m6_7)
  m6_8)
def m6_10 : MCode :=
 (.seq
  (.reg
   (MI.op (some 37) (.load true 4 (.tmp 1)) none ::
    MI.op (some 38) (.call 17 [(.tmp 37)]) none ::
    m6_6))
  m6_9)
def m6_11 : MCode :=
 (.seq
  (.seq
   (.reg
    [MI.op (some 6) (.mov (.c (.int .i64 0))) none])
  m6_5)
  m6_10)
def m6_12 : MCode :=
 (.seq
  (.reg
   [MI.op (some 3) (.mov (.c (.bool true))) none,
    MI.op (some 4) (.mov (.c (.bool false))) none,
    MI.op (some 5) (.mov (.c (.int .i64 0))) none])
  m6_11)
def m6_r : List MRes := [.tmp 2]
def m6_b : MCode :=
 (.seq
  (.reg
   [MI.op (some 1) (.box (.tmp 0)) none,
    MI.op (some 2) (.mov (.c (.bool false))) none])
  m6_12)
def m6 : MFunc := ⟨1, 72, m6_r, m6_b⟩
theorem c6 : compF Tryd.prog 6 m6 = some m6 := by kernel_rfl

end Go.Proofs.YtmblapgoimegkaaDoor
