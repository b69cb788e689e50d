/- The loaded functions as texts of the ideal machine (written by a program of ours), and that they are the loaded ones. -/
import Derived.Test.YtilbipknodpmmaaDoorE31
import Derived.Test.YtilbipknodpmmaaDoorProg
import Derived.Test.YtilbipknodpmmaaDoorV0
set_option linter.unusedVariables false
namespace Go.Proofs.YtilbipknodpmmaaDoor
open Go.RowKit

/- tollhouse/pool.Take -/
def m48_1 : MCode :=
 (.seq
  (.reg
   [MI.op (some 4) (.mov (.c (.sl .full 0 []))) none,
    MI.op (some 5) (.mov (.c (.int .i64 1))) none])
  .ret)
def m48_2 : List MI :=
 [MI.op (some 20) (.bin .gtr (.tmp 17) (.tmp 19)) none,
  MI.op (some 16) (.mov (.tmp 20)) none]
def m48_3 : MCode :=
 (.seq
  (.reg
   [MI.op (some 4) (.mov (.c (.sl .full 0 []))) none,
    MI.op (some 5) (.mov (.c (.int .i64 18))) none])
  .ret)
def m48_4 : MCode :=
 (.cond (.tmp 16)
  m48_3
  .skip)
def m48_5 : MCode :=
 (.seq
  (.reg
   (MI.op (some 17) (.mov (.tmp 0)) none ::
    MI.op (some 18) (.mov (.tmp 1)) none ::
    MI.op (some 19) (.call 61 [(.tmp 18)]) none ::
    m48_2))
  m48_4)
def m48_6 : MCode :=
 (.cond (.tmp 9)
  m48_1
  m48_5)
def m48_7 : MCode :=
 (.reg
  [MI.op (some 34) (.mov (.tmp 6)) none,
   MI.op (some 35) (.mov (.tmp 8)) none,
   MI.op (some 36) (.bsl 1 1 [(.int .i64 0)] [(0,1,(.tmp 35))]) none,
   MI.op (some 37) (.app 1 8 (.tmp 34) (.tmp 36)) none,
   MI.op (some 6) (.mov (.tmp 37)) none])
def m48_8 : MCode :=
 (.cond (.tmp 33)
  m48_7
  .skip)
def m48_9 : MCode :=
 (.seq
  (.blk 2
   (.seq
    (.reg
     [MI.op (some 29) (.mov (.tmp 7)) none,
      MI.op (some 30) (.mov (.tmp 8)) none,
      MI.op (some 31) (.bin .shr (.tmp 29) (.tmp 30)) none,
      MI.op (some 32) (.bin .and (.tmp 31) (.c (.int .u16 1))) none,
      MI.op (some 33) (.bin .eql (.tmp 32) (.c (.int .u16 0))) none])
  m48_8))
  (.reg
   [MI.op (some 27) (.mov (.tmp 8)) none,
    MI.op (some 28) (.bin .add (.tmp 27) (.c (.int .i64 1))) none,
    MI.op (some 8) (.mov (.tmp 28)) none]))
def m48_10 : MCode :=
 (.seq
  (.seq
   (.reg
    [MI.op (some 23) (.mov (.tmp 6)) none,
     MI.op (some 24) (.len (.tmp 23)) none,
     MI.op (some 25) (.mov (.tmp 0)) none,
     MI.op (some 26) (.bin .lss (.tmp 24) (.tmp 25)) none])
   (.cond (.tmp 26)
    .skip
    (.exit 1)))
  m48_9)
def m48_11 : MCode :=
 (.blk 1
  (.loop
  m48_10))
def m48_12 : MCode :=
 (.seq
  (.reg
   [MI.op (some 38) (.mov (.tmp 6)) none,
    MI.op (some 4) (.mov (.tmp 38)) none,
    MI.op (some 5) (.mov (.c (.int .i64 0))) none])
  .ret)
def m48_13 : MCode :=
 (.seq
  (.seq
   (.reg
    [MI.op (some 8) (.mov (.c (.int .i64 0))) none])
  m48_11)
  m48_12)
def m48_14 : MCode :=
 (.seq
  (.reg
   [MI.op (some 21) (.mov (.tmp 1)) none,
    MI.op (some 22) (.call 62 [(.tmp 21)]) none,
    MI.op (some 7) (.mov (.tmp 22)) none])
  m48_13)
def m48_15 : MCode :=
 (.seq
  (.reg
   [MI.op (some 6) (.mov (.c (.sl .full 0 []))) none])
  m48_14)
def m48_16 : MCode :=
 (.seq
  (.blk 0
   (.seq
    (.reg
     [MI.op (some 10) (.mov (.tmp 0)) none,
      MI.op (some 11) (.bin .lss (.tmp 10) (.c (.int .i64 1))) none,
      MI.op (some 12) (.mov (.tmp 11)) none,
      MI.op (some 13) (.mov (.tmp 0)) (some (12,false)),
      MI.op (some 14) (.bin .gtr (.tmp 13) (.c (.int .i64 4))) (some (12,false)),
      MI.op (some 15) (.pick (.tmp 12) (.c (.bool true)) (.tmp 14)) none,
      MI.op (some 9) (.mov (.tmp 15)) none])
  m48_6))
  m48_15)
def m48_r : List MRes:=[.tmp 4,.tmp 5]
def m48_b : MCode :=
 (.seq
  (.reg
   [MI.op (some 4) (.mov (.c (.sl .full 0 []))) none,
    MI.op (some 5) (.mov (.c (.int .i64 0))) none])
  m48_16)
def m48 : MFunc:=⟨2,39,m48_r,m48_b⟩
theorem c48 : compF Tryd.prog 48 m48 = some m48:=by kernel_rfl

/- tollhouse/tollhouseref11.Take -/
def m51_1 : MCode :=
 (.seq
  (.reg
   [MI.op (some 4) (.mov (.c (.sl .full 0 []))) none,
    MI.op (some 5) (.mov (.c (.int .i64 1))) none])
  .ret)
def m51_2 : MCode :=
 (.cond (.tmp 12)
  m51_1
  .skip)
def m51_3 : MCode :=
 (.seq
  (.reg
   [MI.op (some 4) (.mov (.c (.sl .full 0 []))) none,
    MI.op (some 5) (.mov (.c (.int .i64 18))) none])
  .ret)
def m51_4 : MCode :=
 (.cond (.tmp 18)
  m51_3
  .skip)
def m51_5 : MCode :=
 (.seq
  (.reg
   [MI.op (some 19) (.mov (.tmp 6)) none,
    MI.op (some 20) (.mov (.tmp 0)) none,
    MI.op (some 21) (.slSl 1 (.tmp 19) none (some (.tmp 20)) none) none,
    MI.op (some 4) (.mov (.tmp 21)) none,
    MI.op (some 5) (.mov (.c (.int .i64 0))) none])
  .ret)
def m51_6 : MCode :=
 (.seq
  (.seq
   (.reg
    [MI.op (some 15) (.mov (.tmp 6)) none,
     MI.op (some 16) (.len (.tmp 15)) none,
     MI.op (some 17) (.mov (.tmp 0)) none,
     MI.op (some 18) (.bin .lss (.tmp 16) (.tmp 17)) none])
  m51_4)
  m51_5)
def m51_7 : MCode :=
 (.seq
  (.reg
   [MI.op (some 13) (.mov (.tmp 1)) none,
    MI.op (some 14) (.call 63 [(.tmp 13)]) none,
    MI.op (some 6) (.mov (.tmp 14)) none])
  m51_6)
def m51_8 : MCode :=
 (.seq
  (.seq
   (.reg
    [MI.op (some 7) (.mov (.tmp 0)) none,
     MI.op (some 8) (.bin .lss (.tmp 7) (.c (.int .i64 1))) none,
     MI.op (some 9) (.mov (.tmp 8)) none,
     MI.op (some 10) (.mov (.tmp 0)) (some (9,false)),
     MI.op (some 11) (.bin .gtr (.tmp 10) (.c (.int .i64 4))) (some (9,false)),
     MI.op (some 12) (.pick (.tmp 9) (.c (.bool true)) (.tmp 11)) none])
  m51_2)
  m51_7)
def m51_r : List MRes:=[.tmp 4,.tmp 5]
def m51_b : MCode :=
 (.seq
  (.reg
   [MI.op (some 4) (.mov (.c (.sl .full 0 []))) none,
    MI.op (some 5) (.mov (.c (.int .i64 0))) none])
  m51_8)
def m51 : MFunc:=⟨2,22,m51_r,m51_b⟩
theorem c51 : compF Tryd.prog 51 m51 = some m51:=by kernel_rfl

/- tollhouse/pool.Used -/
def m62_1 : MCode :=
 (.reg
  [MI.op (some 27) (.mov (.tmp 3)) none,
   MI.op (some 28) (.mov (.tmp 7)) none,
   MI.op (some 29) (.bin .shl (.c (.int .u16 1)) (.tmp 28)) none,
   MI.op (some 30) (.bin .or (.tmp 27) (.tmp 29)) none,
   MI.op (some 3) (.mov (.tmp 30)) none])
def m62_2 : MCode :=
 (.cond (.tmp 26)
  m62_1
  .skip)
def m62_3 : MCode :=
 (.seq
  (.reg
   [MI.op (some 21) (.mov (.tmp 7)) none,
    MI.op (some 22) (.bin .geq (.tmp 21) (.c (.int .i64 0))) none,
    MI.op (some 23) (.mov (.tmp 22)) none,
    MI.op (some 24) (.mov (.tmp 7)) (some (23,true)),
    MI.op (some 25) (.bin .lss (.tmp 24) (.c (.int .i64 12))) (some (23,true)),
    MI.op (some 26) (.pick (.tmp 23) (.tmp 25) (.c (.bool false))) none])
  m62_2)
def m62_4 : MCode :=
 (.seq
  (.blk 3
   (.seq
    (.reg
     [MI.op (some 19) (.ixSl 1 (.tmp 15) (.tmp 17)) none,
      MI.op (some 20) (.load false 1 (.tmp 19)) none,
      MI.op (some 7) (.mov (.tmp 20)) none])
  m62_3))
  (.reg
   [MI.op (some 31) (.bin .add (.tmp 17) (.c (.int .i64 1))) none,
    MI.op (some 17) (.mov (.tmp 31)) none]))
def m62_5 : MCode :=
 (.seq
  (.cond (.tmp 18)
   .skip
   (.exit 2))
  m62_4)
def m62_6 : MCode :=
 (.seq
  (.reg
   [MI.op (some 18) (.bin .lss (.tmp 17) (.tmp 16)) none])
  m62_5)
def m62_7 : MCode :=
 (.blk 2
  (.loop
  m62_6))
def m62_8 : MCode :=
 (.seq
  (.reg
   [MI.op (some 14) (.fa 1 (.tmp 5)) none,
    MI.op (some 15) (.load false 1 (.tmp 14)) none,
    MI.op (some 16) (.len (.tmp 15)) none,
    MI.op (some 17) (.mov (.c (.int .i64 0))) none])
  m62_7)
def m62_9 : MCode :=
 (.seq
  (.blk 1
   (.seq
    (.reg
     [MI.op (some 12) (.ixSl 2 (.tmp 8) (.tmp 10)) none,
      MI.op (some 13) (.load true 2 (.tmp 12)) none,
      MI.op (some 5) (.alloc [(.str []),(.sl .full 0 [])]) none,
      MI.op none (.store 2 (.tmp 5) (.tmp 13)) none])
  m62_8))
  (.reg
   [MI.op (some 32) (.bin .add (.tmp 10) (.c (.int .i64 1))) none,
    MI.op (some 10) (.mov (.tmp 32)) none]))
def m62_10 : MCode :=
 (.seq
  (.cond (.tmp 11)
   .skip
   (.exit 0))
  m62_9)
def m62_11 : MCode :=
 (.seq
  (.reg
   [MI.op (some 11) (.bin .lss (.tmp 10) (.tmp 9)) none])
  m62_10)
def m62_12 : MCode :=
 (.blk 0
  (.loop
  m62_11))
def m62_13 : MCode :=
 (.seq
  (.reg
   [MI.op (some 33) (.mov (.tmp 3)) none,
    MI.op (some 2) (.mov (.tmp 33)) none])
  .ret)
def m62_14 : MCode :=
 (.seq
  (.seq
   (.reg
    [MI.op (some 8) (.mov (.tmp 0)) none,
     MI.op (some 9) (.len (.tmp 8)) none,
     MI.op (some 10) (.mov (.c (.int .i64 0))) none])
  m62_12)
  m62_13)
def m62_15 : MCode :=
 (.seq
  (.reg
   [MI.op (some 3) (.mov (.c (.int .u16 1))) none])
  m62_14)
def m62_r : List MRes:=[.tmp 2]
def m62_b : MCode :=
 (.seq
  (.reg
   [MI.op (some 2) (.mov (.c (.int .u16 0))) none])
  m62_15)
def m62 : MFunc:=⟨1,34,m62_r,m62_b⟩
theorem c62 : compF Tryd.prog 62 m62 = some m62:=by kernel_rfl

/- tollhouse/tollhouseref11.Used -/
def m75_1 : MCode :=
 (.reg
  [MI.op (some 37) (.mov (.tmp 3)) none,
   MI.op (some 38) (.mov (.tmp 6)) none,
   MI.op (some 39) (.toInt .u64 (.tmp 38)) none,
   MI.op (some 40) (.bin .shl (.c (.int .u16 1)) (.tmp 39)) none,
   MI.op (some 41) (.bin .or (.tmp 37) (.tmp 40)) none,
   MI.op (some 3) (.mov (.tmp 41)) none])
def m75_2 : MCode :=
 (.cond (.tmp 36)
  m75_1
  .skip)
def m75_3 : MCode :=
 (.seq
  (.reg
   [MI.op (some 31) (.mov (.tmp 6)) none,
    MI.op (some 32) (.bin .geq (.tmp 31) (.c (.int .i64 0))) none,
    MI.op (some 33) (.mov (.tmp 32)) none,
    MI.op (some 34) (.mov (.tmp 6)) (some (33,true)),
    MI.op (some 35) (.bin .lss (.tmp 34) (.c (.int .i64 12))) (some (33,true)),
    MI.op (some 36) (.pick (.tmp 33) (.tmp 35) (.c (.bool false))) none])
  m75_2)
def m75_4 : MCode :=
 (.seq
  (.blk 3
   (.seq
    (.reg
     [MI.op (some 23) (.mov (.tmp 0)) none,
      MI.op (some 24) (.mov (.tmp 4)) none,
      MI.op (some 25) (.ixSl 2 (.tmp 23) (.tmp 24)) none,
      MI.op (some 26) (.fa 1 (.tmp 25)) none,
      MI.op (some 27) (.load false 1 (.tmp 26)) none,
      MI.op (some 28) (.mov (.tmp 5)) none,
      MI.op (some 29) (.ixSl 1 (.tmp 27) (.tmp 28)) none,
      MI.op (some 30) (.load false 1 (.tmp 29)) none,
      MI.op (some 6) (.mov (.tmp 30)) none])
  m75_3))
  (.reg
   [MI.op (some 21) (.mov (.tmp 5)) none,
    MI.op (some 22) (.bin .add (.tmp 21) (.c (.int .i64 1))) none,
    MI.op (some 5) (.mov (.tmp 22)) none]))
def m75_5 : MCode :=
 (.seq
  (.seq
   (.reg
    [MI.op (some 13) (.mov (.tmp 5)) none,
     MI.op (some 14) (.mov (.tmp 0)) none,
     MI.op (some 15) (.mov (.tmp 4)) none,
     MI.op (some 16) (.ixSl 2 (.tmp 14) (.tmp 15)) none,
     MI.op (some 17) (.fa 1 (.tmp 16)) none,
     MI.op (some 18) (.load false 1 (.tmp 17)) none,
     MI.op (some 19) (.len (.tmp 18)) none,
     MI.op (some 20) (.bin .lss (.tmp 13) (.tmp 19)) none])
   (.cond (.tmp 20)
    .skip
    (.exit 2)))
  m75_4)
def m75_6 : MCode :=
 (.blk 2
  (.loop
  m75_5))
def m75_7 : MCode :=
 (.seq
  (.blk 1
   (.seq
    (.reg
     [MI.op (some 5) (.mov (.c (.int .i64 0))) none])
  m75_6))
  (.reg
   [MI.op (some 11) (.mov (.tmp 4)) none,
    MI.op (some 12) (.bin .add (.tmp 11) (.c (.int .i64 1))) none,
    MI.op (some 4) (.mov (.tmp 12)) none]))
def m75_8 : MCode :=
 (.seq
  (.seq
   (.reg
    [MI.op (some 7) (.mov (.tmp 4)) none,
     MI.op (some 8) (.mov (.tmp 0)) none,
     MI.op (some 9) (.len (.tmp 8)) none,
     MI.op (some 10) (.bin .lss (.tmp 7) (.tmp 9)) none])
   (.cond (.tmp 10)
    .skip
    (.exit 0)))
  m75_7)
def m75_9 : MCode :=
 (.blk 0
  (.loop
  m75_8))
def m75_10 : MCode :=
 (.seq
  (.reg
   [MI.op (some 42) (.mov (.tmp 3)) none,
    MI.op (some 2) (.mov (.tmp 42)) none])
  .ret)
def m75_11 : MCode :=
 (.seq
  (.seq
   (.reg
    [MI.op (some 4) (.mov (.c (.int .i64 0))) none])
  m75_9)
  m75_10)
def m75_12 : MCode :=
 (.seq
  (.reg
   [MI.op (some 3) (.mov (.c (.int .u16 1))) none])
  m75_11)
def m75_r : List MRes:=[.tmp 2]
def m75_b : MCode :=
 (.seq
  (.reg
   [MI.op (some 2) (.mov (.c (.int .u16 0))) none])
  m75_12)
def m75 : MFunc:=⟨1,43,m75_r,m75_b⟩
theorem c75 : compF Tryd.prog 75 m75 = some m75:=by kernel_rfl

/- tollhouse/pool.Free -/
def m61_1 : List MI :=
 [MI.op (some 6) (.bin .sub (.c (.int .i64 12)) (.tmp 5)) none,
  MI.op (some 2) (.mov (.tmp 6)) none]
def m61_2 : List MI :=
 (MI.op (some 5) (.call 74 [(.tmp 4)]) none ::
  m61_1)
def m61_3 : MCode :=
 (.seq
  (.reg
   (MI.op (some 3) (.mov (.tmp 0)) none ::
    MI.op (some 4) (.call 62 [(.tmp 3)]) none ::
    m61_2))
  .ret)
def m61_r : List MRes:=[.tmp 2]
def m61_b : MCode :=
 (.seq
  (.reg
   [MI.op (some 2) (.mov (.c (.int .i64 0))) none])
  m61_3)
def m61 : MFunc:=⟨1,7,m61_r,m61_b⟩
theorem c61 : compF Tryd.prog 61 m61 = some m61:=by kernel_rfl

/- tollhouse/tollhouseref11.frees -/
def m63_1 : MCode :=
 (.reg
  [MI.op (some 18) (.mov (.tmp 4)) none,
   MI.op (some 19) (.mov (.tmp 5)) none,
   MI.op (some 20) (.bsl 1 1 [(.int .i64 0)] [(0,1,(.tmp 19))]) none,
   MI.op (some 21) (.app 1 8 (.tmp 18) (.tmp 20)) none,
   MI.op (some 4) (.mov (.tmp 21)) none])
def m63_2 : MCode :=
 (.cond (.tmp 17)
  m63_1
  .skip)
def m63_3 : MCode :=
 (.seq
  (.blk 1
   (.seq
    (.reg
     [MI.op (some 12) (.mov (.tmp 3)) none,
      MI.op (some 13) (.mov (.tmp 5)) none,
      MI.op (some 14) (.toInt .u64 (.tmp 13)) none,
      MI.op (some 15) (.bin .shr (.tmp 12) (.tmp 14)) none,
      MI.op (some 16) (.bin .and (.tmp 15) (.c (.int .u16 1))) none,
      MI.op (some 17) (.bin .eql (.tmp 16) (.c (.int .u16 0))) none])
  m63_2))
  (.reg
   [MI.op (some 10) (.mov (.tmp 5)) none,
    MI.op (some 11) (.bin .add (.tmp 10) (.c (.int .i64 1))) none,
    MI.op (some 5) (.mov (.tmp 11)) none]))
def m63_4 : MCode :=
 (.seq
  (.seq
   (.reg
    [MI.op (some 8) (.mov (.tmp 5)) none,
     MI.op (some 9) (.bin .lss (.tmp 8) (.c (.int .i64 12))) none])
   (.cond (.tmp 9)
    .skip
    (.exit 0)))
  m63_3)
def m63_5 : MCode :=
 (.blk 0
  (.loop
  m63_4))
def m63_6 : MCode :=
 (.seq
  (.reg
   [MI.op (some 22) (.mov (.tmp 4)) none,
    MI.op (some 2) (.mov (.tmp 22)) none])
  .ret)
def m63_7 : MCode :=
 (.seq
  (.seq
   (.reg
    [MI.op (some 5) (.mov (.c (.int .i64 0))) none])
  m63_5)
  m63_6)
def m63_8 : MCode :=
 (.seq
  (.reg
   [MI.op (some 4) (.mov (.c (.sl .full 0 []))) none])
  m63_7)
def m63_9 : MCode :=
 (.seq
  (.reg
   [MI.op (some 6) (.mov (.tmp 0)) none,
    MI.op (some 7) (.call 75 [(.tmp 6)]) none,
    MI.op (some 3) (.mov (.tmp 7)) none])
  m63_8)
def m63_r : List MRes:=[.tmp 2]
def m63_b : MCode :=
 (.seq
  (.reg
   [MI.op (some 2) (.mov (.c (.sl .full 0 []))) none])
  m63_9)
def m63 : MFunc:=⟨1,23,m63_r,m63_b⟩
theorem c63 : compF Tryd.prog 63 m63 = some m63:=by kernel_rfl

/- math/bits.OnesCount16 -/
def m74_1 : MCode :=
 (.seq
  (.drw
   [MI.op (some 3) (.mov (.tmp 0)) none,
    MI.op (some 4) (.bin .shr (.tmp 3) (.c (.int .u64 8))) none,
    MI.op (some 5) (.idxStr (.c (.str [0,1,1,2,1,2,2,3,1,2,2,3,2,3,3,4,1,2,2,3,2,3,3,4,2,3,3,4,3,4,4,5,1,2,2,3,2,3,3,4,2,3,3,4,3,4,4,5,2,3,3,4,3,4,4,5,3,4,4,5,4,5,5,6,1,2,2,3,2,3,3,4,2,3,3,4,3,4,4,5,2,3,3,4,3,4,4,5,3,4,4,5,4,5,5,6,2,3,3,4,3,4,4,5,3,4,4,5,4,5,5,6,3,4,4,5,4,5,5,6,4,5,5,6,5,6,6,7,1,2,2,3,2,3,3,4,2,3,3,4,3,4,4,5,2,3,3,4,3,4,4,5,3,4,4,5,4,5,5,6,2,3,3,4,3,4,4,5,3,4,4,5,4,5,5,6,3,4,4,5,4,5,5,6,4,5,5,6,5,6,6,7,2,3,3,4,3,4,4,5,3,4,4,5,4,5,5,6,3,4,4,5,4,5,5,6,4,5,5,6,5,6,6,7,3,4,4,5,4,5,5,6,4,5,5,6,5,6,6,7,4,5,5,6,5,6,6,7,5,6,6,7,6,7,7,8])) (.tmp 4)) none,
    MI.op (some 6) (.mov (.tmp 0)) none,
    MI.op (some 7) (.bin .and (.tmp 6) (.c (.int .u16 255))) none,
    MI.op (some 8) (.idxStr (.c (.str [0,1,1,2,1,2,2,3,1,2,2,3,2,3,3,4,1,2,2,3,2,3,3,4,2,3,3,4,3,4,4,5,1,2,2,3,2,3,3,4,2,3,3,4,3,4,4,5,2,3,3,4,3,4,4,5,3,4,4,5,4,5,5,6,1,2,2,3,2,3,3,4,2,3,3,4,3,4,4,5,2,3,3,4,3,4,4,5,3,4,4,5,4,5,5,6,2,3,3,4,3,4,4,5,3,4,4,5,4,5,5,6,3,4,4,5,4,5,5,6,4,5,5,6,5,6,6,7,1,2,2,3,2,3,3,4,2,3,3,4,3,4,4,5,2,3,3,4,3,4,4,5,3,4,4,5,4,5,5,6,2,3,3,4,3,4,4,5,3,4,4,5,4,5,5,6,3,4,4,5,4,5,5,6,4,5,5,6,5,6,6,7,2,3,3,4,3,4,4,5,3,4,4,5,4,5,5,6,3,4,4,5,4,5,5,6,4,5,5,6,5,6,6,7,3,4,4,5,4,5,5,6,4,5,5,6,5,6,6,7,4,5,5,6,5,6,6,7,5,6,6,7,6,7,7,8])) (.tmp 7)) none]
   [MI.op (some 9) (.bin .add (.tmp 5) (.tmp 8)) none,
    MI.op (some 10) (.toInt .i64 (.tmp 9)) none,
    MI.op (some 2) (.mov (.tmp 10)) none])
  .ret)
def m74_r : List MRes:=[.tmp 2]
def m74_b : MCode :=
 (.seq
  (.reg
   [MI.op (some 2) (.mov (.c (.int .i64 0))) none])
  m74_1)
def m74 : MFunc:=⟨1,11,m74_r,m74_b⟩
theorem c74 : compF Tryd.prog 74 m74 = some m74:=by kernel_rfl

end Go.Proofs.YtilbipknodpmmaaDoor
/- Of the pool: which blocks are used. -/
set_option linter.unusedSectionVars false
set_option linter.unusedVariables false
set_option linter.unusedSimpArgs false
set_option maxRecDepth 100000
namespace Go.Proofs.YtilbipknodpmmaaDoor
open Go.RowKit

def ustep (u : Nat) (b : Int) : Nat:=if 0 ≤ b ∧ b < 12 then u ||| 2 ^ b.toNat else u
def uvol (u : Nat) (v : Vol) : Nat:=v.blocks.foldl ustep u
def used (vs : List Vol) : Nat:=vs.foldl uvol 1

theorem ustep_lt {u : Nat} {b : Int} (h : u < 4096) : ustep u b < 4096:=by
  unfold ustep
  split
  · rename_i hb
    have : 2 ^ b.toNat < 2 ^ 12:=Nat.pow_lt_pow_right (by omega) (by omega)
    exact Nat.or_lt_two_pow (n:=12) h this
  · exact h
theorem ufold_lt : ∀ (bs : List Int) {u : Nat},u < 4096 → bs.foldl ustep u < 4096
  | [],u,h => h
  | b :: bs,u,h => ufold_lt bs (ustep_lt h)
theorem used_lt' : ∀ (vs : List Vol) {u : Nat},u < 4096 → vs.foldl uvol u < 4096
  | [],u,h => h
  | v :: vs,u,h => used_lt' vs (ufold_lt v.blocks h)
theorem used_lt (vs : List Vol) : used vs < 4096:=used_lt' vs (by omega)

theorem foldl_at {α β : Type} (g : β → α → β) (u : β) {l : List α} {i : Nat} (h : i < l.length) : (l.take (i + 1)).foldl g u = g ((l.take i).foldl g u) l[i]:=by
  rw [List.take_succ_eq_append_getElem h,List.foldl_append]; rfl
theorem foldl_end {α β : Type} (g : β → α → β) (u : β) {l : List α} {i : Nat} (h : l.length ≤ i) : (l.take i).foldl g u = l.foldl g u:=by
  rw [List.take_of_length_le h]

theorem or_step {u : Nat} {b : Int} (hu : u < 4096) (h0 : 0 ≤ b) (h1 : b < 12) : shI .shl .u16 1 b = some (.int .u16 ((2 ^ b.toNat : Nat) : Int)) ∧ bitsI .or .u16 (u : Int) ((2 ^ b.toNat : Nat) : Int) = some ((ustep u b : Nat) : Int):=by
  obtain ⟨k,rfl⟩ : ∃ k : Nat,b = k:=⟨b.toNat,by omega⟩
  have hk : k < 12:=by omega
  have hp : 2 ^ k < 2 ^ 12:=Nat.pow_lt_pow_right (by omega) hk
  have hv : vbits .u16 = 16:=rfl
  constructor
  · have:=shI_shl (x:=1) (y:=k) .u16 (show k ≤ 16 by omega) (by rw [hv]; omega)
    simpa using this
  · have:=bitsI_or (x:=u) (y:=2 ^ k) .u16 (by rw [hv]; omega) (by rw [hv]; omega)
    simp only [Int.toNat_natCast,ustep,show (0 : Int) ≤ k from by omega,show (k : Int) < 12 from by omega,and_self,if_true,this]

theorem usedR_ok (f : Fl) (vs : List Vol) (hb : vs.length < 2 ^ 63) (hbb : ∀ v ∈ vs,v.blocks.length < 2 ^ 63) : RC Tryd.prog 75 [.sl f vs.length (vl vs)] [.int .u16 (used vs)]:=by
  refine RC.of_wp c75 rfl ?_
  simp -implicitDefEqProofs (maxSteps:=2000000) only [m75_1,m75_2,m75_3,m75_4,m75_5,m75_6,m75_7,m75_8,m75_9,m75_10,m75_11,m75_12,m75_r,m75_b,m75,wk,act,asV,↓reduceIte,Nat.reduceEqDiff,reduceCtorEq,Nat.reduceAdd,Nat.reduceLeDiff,Nat.reduceSub,Nat.reduceMul,List.reduceReplicate,Int.reduceEq,Int.reduceLT,Int.reduceLE,Int.reduceAdd,Int.reduceSub,Int.reduceMul,Nat.reduceLT,Int.reduceToNat]
  refine Wp_loop (fun k s => ∃ i,i ≤ vs.length ∧ k = vs.length - i ∧ s.t 0 = .sl f vs.length (vl vs) ∧ s.t 4 = .int .i64 i ∧ s.t 3 = .int .u16 (((vs.take i).foldl uvol 1 : Nat) : Int)) vs.length ⟨0,by omega,rfl,rfl,rfl,rfl⟩ ?_
  rintro k s ⟨i,hi,rfl,h0,h4,h3⟩
  simp -implicitDefEqProofs (maxSteps:=2000000) only [h0,h4,wk,act,asV,↓reduceIte,Nat.reduceEqDiff,reduceCtorEq,Nat.reduceAdd,Nat.reduceLeDiff,Nat.reduceSub,Nat.reduceMul,List.reduceReplicate,Int.reduceEq,Int.reduceLT,Int.reduceLE,Int.reduceAdd,Int.reduceSub,Int.reduceMul,Nat.reduceLT,Int.reduceToNat]
  by_cases hlt : i < vs.length
  · have h2 : (0 : Nat) < 2:=by omega
    simp -implicitDefEqProofs (maxSteps:=2000000) only [Int.ofNat_lt,hlt,wk,act,asV,↓reduceIte,Nat.reduceEqDiff,reduceCtorEq,Nat.reduceAdd,Nat.reduceLeDiff,Nat.reduceSub,Nat.reduceMul,List.reduceReplicate,Int.reduceEq,Int.reduceLT,Int.reduceLE,Int.reduceAdd,Int.reduceSub,Int.reduceMul,Nat.reduceLT,Int.reduceToNat]
    have hbi:=hbb _ (List.getElem_mem hlt)
    have hu1 : (vs.take i).foldl uvol 1 < 4096:=used_lt' _ (by omega)
    refine Wp_loop (fun k s => ∃ j,j ≤ vs[i].blocks.length ∧ k = vs[i].blocks.length - j ∧ s.t 0 = .sl f vs.length (vl vs) ∧ s.t 4 = .int .i64 i ∧ s.t 5 = .int .i64 j ∧ s.t 3 = .int .u16 (((vs[i].blocks.take j).foldl ustep ((vs.take i).foldl uvol 1) : Nat) : Int)) vs[i].blocks.length ⟨0,by omega,rfl,by simp [upd,h0],by simp [upd,h4],by simp [upd],by simp [upd,h3]⟩ ?_
    clear h0 h4 h3 s
    rintro k s ⟨j,hj,rfl,h0,h4,h5,h3⟩
    have hu:=ufold_lt (vs[i].blocks.take j) hu1
    simp -implicitDefEqProofs (maxSteps:=2000000) only [Int.ofNat_lt,hlt,h0,h4,h5,h2,vl_length,drop_vl hlt,wk,act,asV,↓reduceIte,Nat.reduceEqDiff,reduceCtorEq,Nat.reduceAdd,Nat.reduceLeDiff,Nat.reduceSub,Nat.reduceMul,List.reduceReplicate,Int.reduceEq,Int.reduceLT,Int.reduceLE,Int.reduceAdd,Int.reduceSub,Int.reduceMul,Nat.reduceLT,Int.reduceToNat]
    by_cases hjl : j < vs[i].blocks.length
    · have h1' : (0 : Nat) < 1:=by omega
      by_cases hp : 0 ≤ vs[i].blocks[j]
      · by_cases hq : vs[i].blocks[j] < 12
        · obtain ⟨o1,o2⟩:=or_step hu hp hq
          have hw : IntKind.u64.wrap vs[i].blocks[j] = vs[i].blocks[j]:=by simp only [IntKind.wrap,IntKind.signed,IntKind.bits,Bool.false_and,Bool.false_eq_true,if_false]; omega
          simp -implicitDefEqProofs (maxSteps:=2000000) only [Int.ofNat_lt,hlt,hjl,h0,h4,h5,h3,h2,h1',vl_length,drop_vl hlt,drop_il hjl,hp,hq,hw,o1,o2,wrap_nat (show j < 2 ^ 63 - 1 by omega),wk,act,asV,↓reduceIte,Nat.reduceEqDiff,reduceCtorEq,Nat.reduceAdd,Nat.reduceLeDiff,Nat.reduceSub,Nat.reduceMul,List.reduceReplicate,Int.reduceEq,Int.reduceLT,Int.reduceLE,Int.reduceAdd,Int.reduceSub,Int.reduceMul,Nat.reduceLT,Int.reduceToNat]
          refine ⟨vs[i].blocks.length - (j + 1),by omega,j + 1,by omega,rfl,rfl,?_⟩
          rw [foldl_at _ _ hjl]
        · simp -implicitDefEqProofs (maxSteps:=2000000) only [Int.ofNat_lt,hlt,hjl,h0,h4,h5,h3,h2,h1',vl_length,drop_vl hlt,drop_il hjl,hp,hq,wrap_nat (show j < 2 ^ 63 - 1 by omega),wk,act,asV,↓reduceIte,Nat.reduceEqDiff,reduceCtorEq,Nat.reduceAdd,Nat.reduceLeDiff,Nat.reduceSub,Nat.reduceMul,List.reduceReplicate,Int.reduceEq,Int.reduceLT,Int.reduceLE,Int.reduceAdd,Int.reduceSub,Int.reduceMul,Nat.reduceLT,Int.reduceToNat]
          refine ⟨vs[i].blocks.length - (j + 1),by omega,j + 1,by omega,rfl,rfl,?_⟩
          rw [foldl_at _ _ hjl,ustep,if_neg (by omega)]
      · simp -implicitDefEqProofs (maxSteps:=2000000) only [Int.ofNat_lt,hlt,hjl,h0,h4,h5,h3,h2,h1',vl_length,drop_vl hlt,drop_il hjl,hp,wrap_nat (show j < 2 ^ 63 - 1 by omega),wk,act,asV,↓reduceIte,Nat.reduceEqDiff,reduceCtorEq,Nat.reduceAdd,Nat.reduceLeDiff,Nat.reduceSub,Nat.reduceMul,List.reduceReplicate,Int.reduceEq,Int.reduceLT,Int.reduceLE,Int.reduceAdd,Int.reduceSub,Int.reduceMul,Nat.reduceLT,Int.reduceToNat]
        refine ⟨vs[i].blocks.length - (j + 1),by omega,j + 1,by omega,rfl,rfl,?_⟩
        rw [foldl_at _ _ hjl,ustep,if_neg (by omega)]
    · simp -implicitDefEqProofs (maxSteps:=2000000) only [Int.ofNat_lt,hlt,hjl,h0,h4,h5,h3,h2,vl_length,drop_vl hlt,wrap_nat (show i < 2 ^ 63 - 1 by omega),wk,act,asV,↓reduceIte,Nat.reduceEqDiff,reduceCtorEq,Nat.reduceAdd,Nat.reduceLeDiff,Nat.reduceSub,Nat.reduceMul,List.reduceReplicate,Int.reduceEq,Int.reduceLT,Int.reduceLE,Int.reduceAdd,Int.reduceSub,Int.reduceMul,Nat.reduceLT,Int.reduceToNat]
      refine ⟨vs.length - (i + 1),by omega,i + 1,by omega,rfl,rfl,?_⟩
      rw [foldl_at _ _ hlt,foldl_end _ _ (by omega)]
      rfl
  · simp -implicitDefEqProofs (maxSteps:=2000000) only [Int.ofNat_lt,hlt,h3,wk,act,asV,↓reduceIte,Nat.reduceEqDiff,reduceCtorEq,Nat.reduceAdd,Nat.reduceLeDiff,Nat.reduceSub,Nat.reduceMul,List.reduceReplicate,Int.reduceEq,Int.reduceLT,Int.reduceLE,Int.reduceAdd,Int.reduceSub,Int.reduceMul,Nat.reduceLT,Int.reduceToNat]
    rw [foldl_end _ _ (by omega)]
    rfl

theorem usedP_ok (f : Fl) (vs : List Vol) (hb : vs.length < 2 ^ 63) (hbb : ∀ v ∈ vs,v.blocks.length < 2 ^ 63) : RC Tryd.prog 62 [.sl f vs.length (vl vs)] [.int .u16 (used vs)]:=by
  refine RC.of_wp c62 rfl ?_
  simp -implicitDefEqProofs (maxSteps:=2000000) only [m62_1,m62_2,m62_3,m62_4,m62_5,m62_6,m62_7,m62_8,m62_9,m62_10,m62_11,m62_12,m62_13,m62_14,m62_15,m62_r,m62_b,m62,wk,act,asV,↓reduceIte,Nat.reduceEqDiff,reduceCtorEq,Nat.reduceAdd,Nat.reduceLeDiff,Nat.reduceSub,Nat.reduceMul,List.reduceReplicate,Int.reduceEq,Int.reduceLT,Int.reduceLE,Int.reduceAdd,Int.reduceSub,Int.reduceMul,Nat.reduceLT,Int.reduceToNat]
  refine Wp_loop (fun k s => ∃ i,i ≤ vs.length ∧ k = vs.length - i ∧ s.t 8 = .sl f vs.length (vl vs) ∧ s.t 9 = .int .i64 vs.length ∧ s.t 10 = .int .i64 i ∧ s.t 3 = .int .u16 (((vs.take i).foldl uvol 1 : Nat) : Int)) vs.length ⟨0,by omega,rfl,rfl,rfl,rfl,rfl⟩ ?_
  rintro k s ⟨i,hi,rfl,h8,h9,h10,h3⟩
  simp -implicitDefEqProofs (maxSteps:=2000000) only [h8,h9,h10,wk,act,asV,↓reduceIte,Nat.reduceEqDiff,reduceCtorEq,Nat.reduceAdd,Nat.reduceLeDiff,Nat.reduceSub,Nat.reduceMul,List.reduceReplicate,Int.reduceEq,Int.reduceLT,Int.reduceLE,Int.reduceAdd,Int.reduceSub,Int.reduceMul,Nat.reduceLT,Int.reduceToNat]
  by_cases hlt : i < vs.length
  · have h2 : (0 : Nat) < 2:=by omega
    have hbi:=hbb _ (List.getElem_mem hlt)
    have hu1 : (vs.take i).foldl uvol 1 < 4096:=used_lt' _ (by omega)
    simp -implicitDefEqProofs (maxSteps:=2000000) only [Int.ofNat_lt,hlt,h8,h9,h10,h2,vl_length,drop_vl hlt,wk,act,asV,↓reduceIte,Nat.reduceEqDiff,reduceCtorEq,Nat.reduceAdd,Nat.reduceLeDiff,Nat.reduceSub,Nat.reduceMul,List.reduceReplicate,Int.reduceEq,Int.reduceLT,Int.reduceLE,Int.reduceAdd,Int.reduceSub,Int.reduceMul,Nat.reduceLT,Int.reduceToNat]
    refine Wp_loop (fun k s => ∃ j,j ≤ vs[i].blocks.length ∧ k = vs[i].blocks.length - j ∧ s.t 8 = .sl f vs.length (vl vs) ∧ s.t 9 = .int .i64 vs.length ∧ s.t 10 = .int .i64 i ∧ s.t 15 = .sl .plain vs[i].blocks.length (il vs[i].blocks) ∧ s.t 16 = .int .i64 vs[i].blocks.length ∧ s.t 17 = .int .i64 j ∧ s.t 3 = .int .u16 (((vs[i].blocks.take j).foldl ustep ((vs.take i).foldl uvol 1) : Nat) : Int)) vs[i].blocks.length ⟨0,by omega,rfl,by simp [upd,h8],by simp [upd,h9],by simp [upd,h10],by simp [upd],by simp [upd],by simp [upd],by simp [upd,h3]⟩ ?_
    clear h8 h9 h10 h3 s
    rintro k s ⟨j,hj,rfl,h8,h9,h10,h15,h16,h17,h3⟩
    have hu:=ufold_lt (vs[i].blocks.take j) hu1
    simp -implicitDefEqProofs (maxSteps:=2000000) only [h16,h17,wk,act,asV,↓reduceIte,Nat.reduceEqDiff,reduceCtorEq,Nat.reduceAdd,Nat.reduceLeDiff,Nat.reduceSub,Nat.reduceMul,List.reduceReplicate,Int.reduceEq,Int.reduceLT,Int.reduceLE,Int.reduceAdd,Int.reduceSub,Int.reduceMul,Nat.reduceLT,Int.reduceToNat]
    by_cases hjl : j < vs[i].blocks.length
    · have h1' : (0 : Nat) < 1:=by omega
      by_cases hp : 0 ≤ vs[i].blocks[j]
      · by_cases hq : vs[i].blocks[j] < 12
        · obtain ⟨o1,o2⟩:=or_step hu hp hq
          simp -implicitDefEqProofs (maxSteps:=2000000) only [Int.ofNat_lt,hjl,h8,h9,h10,h15,h16,h17,h3,h1',drop_il hjl,hp,hq,o1,o2,wrap_nat (show j < 2 ^ 63 - 1 by omega),wk,act,asV,↓reduceIte,Nat.reduceEqDiff,reduceCtorEq,Nat.reduceAdd,Nat.reduceLeDiff,Nat.reduceSub,Nat.reduceMul,List.reduceReplicate,Int.reduceEq,Int.reduceLT,Int.reduceLE,Int.reduceAdd,Int.reduceSub,Int.reduceMul,Nat.reduceLT,Int.reduceToNat]
          refine ⟨vs[i].blocks.length - (j + 1),by omega,j + 1,by omega,rfl,rfl,?_⟩
          rw [foldl_at _ _ hjl]
        · simp -implicitDefEqProofs (maxSteps:=2000000) only [Int.ofNat_lt,hjl,h8,h9,h10,h15,h16,h17,h3,h1',drop_il hjl,hp,hq,wrap_nat (show j < 2 ^ 63 - 1 by omega),wk,act,asV,↓reduceIte,Nat.reduceEqDiff,reduceCtorEq,Nat.reduceAdd,Nat.reduceLeDiff,Nat.reduceSub,Nat.reduceMul,List.reduceReplicate,Int.reduceEq,Int.reduceLT,Int.reduceLE,Int.reduceAdd,Int.reduceSub,Int.reduceMul,Nat.reduceLT,Int.reduceToNat]
          refine ⟨vs[i].blocks.length - (j + 1),by omega,j + 1,by omega,rfl,rfl,?_⟩
          rw [foldl_at _ _ hjl,ustep,if_neg (by omega)]
      · simp -implicitDefEqProofs (maxSteps:=2000000) only [Int.ofNat_lt,hjl,h8,h9,h10,h15,h16,h17,h3,h1',drop_il hjl,hp,wrap_nat (show j < 2 ^ 63 - 1 by omega),wk,act,asV,↓reduceIte,Nat.reduceEqDiff,reduceCtorEq,Nat.reduceAdd,Nat.reduceLeDiff,Nat.reduceSub,Nat.reduceMul,List.reduceReplicate,Int.reduceEq,Int.reduceLT,Int.reduceLE,Int.reduceAdd,Int.reduceSub,Int.reduceMul,Nat.reduceLT,Int.reduceToNat]
        refine ⟨vs[i].blocks.length - (j + 1),by omega,j + 1,by omega,rfl,rfl,?_⟩
        rw [foldl_at _ _ hjl,ustep,if_neg (by omega)]
    · simp -implicitDefEqProofs (maxSteps:=2000000) only [Int.ofNat_lt,hjl,h8,h9,h10,h3,wrap_nat (show i < 2 ^ 63 - 1 by omega),wk,act,asV,↓reduceIte,Nat.reduceEqDiff,reduceCtorEq,Nat.reduceAdd,Nat.reduceLeDiff,Nat.reduceSub,Nat.reduceMul,List.reduceReplicate,Int.reduceEq,Int.reduceLT,Int.reduceLE,Int.reduceAdd,Int.reduceSub,Int.reduceMul,Nat.reduceLT,Int.reduceToNat]
      refine ⟨vs.length - (i + 1),by omega,i + 1,by omega,rfl,rfl,?_⟩
      rw [foldl_at _ _ hlt,foldl_end _ _ (by omega)]
      rfl
  · simp -implicitDefEqProofs (maxSteps:=2000000) only [Int.ofNat_lt,hlt,h3,wk,act,asV,↓reduceIte,Nat.reduceEqDiff,reduceCtorEq,Nat.reduceAdd,Nat.reduceLeDiff,Nat.reduceSub,Nat.reduceMul,List.reduceReplicate,Int.reduceEq,Int.reduceLT,Int.reduceLE,Int.reduceAdd,Int.reduceSub,Int.reduceMul,Nat.reduceLT,Int.reduceToNat]
    rw [foldl_end _ _ (by omega)]
    rfl

/-! ### how many -/
def pop8 : List UInt8:=[0,1,1,2,1,2,2,3,1,2,2,3,2,3,3,4,1,2,2,3,2,3,3,4,2,3,3,4,3,4,4,5,1,2,2,3,2,3,3,4,2,3,3,4,3,4,4,5,2,3,3,4,3,4,4,5,3,4,4,5,4,5,5,6,1,2,2,3,2,3,3,4,2,3,3,4,3,4,4,5,2,3,3,4,3,4,4,5,3,4,4,5,4,5,5,6,2,3,3,4,3,4,4,5,3,4,4,5,4,5,5,6,3,4,4,5,4,5,5,6,4,5,5,6,5,6,6,7,1,2,2,3,2,3,3,4,2,3,3,4,3,4,4,5,2,3,3,4,3,4,4,5,3,4,4,5,4,5,5,6,2,3,3,4,3,4,4,5,3,4,4,5,4,5,5,6,3,4,4,5,4,5,5,6,4,5,5,6,5,6,6,7,2,3,3,4,3,4,4,5,3,4,4,5,4,5,5,6,3,4,4,5,4,5,5,6,4,5,5,6,5,6,6,7,3,4,4,5,4,5,5,6,4,5,5,6,5,6,6,7,4,5,5,6,5,6,6,7,5,6,6,7,6,7,7,8]
def ones (u : Nat) : Nat:=(pop8.getD (u >>> 8) 0).toNat + (pop8.getD (u &&& 255) 0).toNat
theorem pop8_length : pop8.length = 256:=by decide +kernel
theorem pop8_le (i : Nat) : (pop8.getD i 0).toNat ≤ 8:=by
  by_cases h : i < 256
  · have : ∀ j : Fin 256,(pop8.getD j.val 0).toNat ≤ 8:=by decide +kernel
    exact this ⟨i,h⟩
  · rw [List.getD_eq_getElem?_getD,List.getElem?_eq_none (by rw [pop8_length]; omega)]; decide

theorem ones_le (u : Nat) : ones u ≤ 16:=by
  have l1:=pop8_le (u >>> 8)
  have l2:=pop8_le (u &&& 255)
  unfold ones
  omega

theorem ones_ok (u : Nat) (hu : u < 65536) : RC Tryd.prog 74 [.int .u16 u] [.int .i64 (ones u)]:=by
  refine RC.of_wp c74 rfl ?_
  have hs : shI .shr .u16 (u : Int) (8 : Int) = some (.int .u16 ((u >>> 8 : Nat) : Int)):=shI_shr .u16 (y:=8) (by decide)
  have ha : bitsI .and .u16 (u : Int) (255 : Int) = some ((u &&& 255 : Nat) : Int):=bitsI_and .u16 (y:=255) (by simpa [vbits,IntKind.signed,IntKind.bits] using hu) (by decide)
  have h1 : u >>> 8 < 256:=by rw [Nat.shiftRight_eq_div_pow]; omega
  have h2 : u &&& 255 < 256:=Nat.and_lt_two_pow (n:=8) _ (by omega)
  have l1:=pop8_le (u >>> 8)
  have l2:=pop8_le (u &&& 255)
  have hw : IntKind.i64.wrap (IntKind.u8.wrap (((pop8.getD (u >>> 8) 0).toNat : Int) + ((pop8.getD (u &&& 255) 0).toNat : Int))) = ((ones u : Nat) : Int):=by
    unfold ones
    have e : (((pop8.getD (u >>> 8) 0).toNat : Int) + ((pop8.getD (u &&& 255) 0).toNat : Int)) = (((pop8.getD (u >>> 8) 0).toNat + (pop8.getD (u &&& 255) 0).toNat : Nat) : Int):=by simp
    rw [e,wrapN .u8 (by have : 2 ^ vbits .u8 = 256:=rfl; omega),wrapN .i64 (by have : 2 ^ vbits .i64 = 9223372036854775808:=rfl; omega)]
  have hm : m74 = ⟨1,11,[.tmp 2],
 (.seq
  (.reg
   [.op (some 2) (.mov (.c (.int .i64 0))) none])
  (.seq
   (.drw
    [.op (some 3) (.mov (.tmp 0)) none,
     .op (some 4) (.bin .shr (.tmp 3) (.c (.int .u64 8))) none,
     .op (some 5) (.idxStr (.c (.str pop8)) (.tmp 4)) none,
     .op (some 6) (.mov (.tmp 0)) none,
     .op (some 7) (.bin .and (.tmp 6) (.c (.int .u16 255))) none,
     .op (some 8) (.idxStr (.c (.str pop8)) (.tmp 7)) none]
    [.op (some 9) (.bin .add (.tmp 5) (.tmp 8)) none,
     .op (some 10) (.toInt .i64 (.tmp 9)) none,
     .op (some 2) (.mov (.tmp 10)) none])
   .ret))⟩:=rfl
  rw [hm]
  simp -implicitDefEqProofs (maxSteps:=2000000) only [hs,ha,pop8_length,h1,h2,hw,Int.ofNat_lt,show ((256 : Nat) : Int) = 256 from rfl,show ∀ n : Nat,(n : Int) < 256 ↔ n < 256 from fun n => by omega,wk,act,asV,↓reduceIte,Nat.reduceEqDiff,reduceCtorEq,Nat.reduceAdd,Nat.reduceLeDiff,Nat.reduceSub,Nat.reduceMul,List.reduceReplicate,Int.reduceEq,Int.reduceLT,Int.reduceLE,Int.reduceAdd,Int.reduceSub,Int.reduceMul,Nat.reduceLT,Int.reduceToNat]

theorem freeP_ok (f : Fl) (vs : List Vol) (hf : f ≠ .lit) (hb : vs.length < 2 ^ 63) (hbb : ∀ v ∈ vs,v.blocks.length < 2 ^ 63) : RC Tryd.prog 61 [.sl f vs.length (vl vs)] [.int .i64 (12 - (ones (used vs) : Int))]:=by
  refine RC.of_wp c61 rfl ?_
  have hu:=used_lt vs
  simp -implicitDefEqProofs (maxSteps:=2000000) only [m61_1,m61_2,m61_3,m61_r,m61_b,m61,wk,act,asV,↓reduceIte,Nat.reduceEqDiff,reduceCtorEq,Nat.reduceAdd,Nat.reduceLeDiff,Nat.reduceSub,Nat.reduceMul,List.reduceReplicate,Int.reduceEq,Int.reduceLT,Int.reduceLE,Int.reduceAdd,Int.reduceSub,Int.reduceMul,Nat.reduceLT,Int.reduceToNat]
  refine CallL.mk (usedP_ok f vs hb hbb) (by cases f <;> first | exact absurd rfl hf | simp -implicitDefEqProofs (maxSteps:=2000000) only [wk,act,asV,↓reduceIte,Nat.reduceEqDiff,reduceCtorEq,Nat.reduceAdd,Nat.reduceLeDiff,Nat.reduceSub,Nat.reduceMul,List.reduceReplicate,Int.reduceEq,Int.reduceLT,Int.reduceLE,Int.reduceAdd,Int.reduceSub,Int.reduceMul,Nat.reduceLT,Int.reduceToNat]) (by simp -implicitDefEqProofs (maxSteps:=2000000) only [wk,act,asV,↓reduceIte,Nat.reduceEqDiff,reduceCtorEq,Nat.reduceAdd,Nat.reduceLeDiff,Nat.reduceSub,Nat.reduceMul,List.reduceReplicate,Int.reduceEq,Int.reduceLT,Int.reduceLE,Int.reduceAdd,Int.reduceSub,Int.reduceMul,Nat.reduceLT,Int.reduceToNat]) ?_
  simp -implicitDefEqProofs (maxSteps:=2000000) only [wk,act,asV,↓reduceIte,Nat.reduceEqDiff,reduceCtorEq,Nat.reduceAdd,Nat.reduceLeDiff,Nat.reduceSub,Nat.reduceMul,List.reduceReplicate,Int.reduceEq,Int.reduceLT,Int.reduceLE,Int.reduceAdd,Int.reduceSub,Int.reduceMul,Nat.reduceLT,Int.reduceToNat]
  refine CallL.mk (ones_ok (used vs) (by omega)) (by simp -implicitDefEqProofs (maxSteps:=2000000) only [wk,act,asV,↓reduceIte,Nat.reduceEqDiff,reduceCtorEq,Nat.reduceAdd,Nat.reduceLeDiff,Nat.reduceSub,Nat.reduceMul,List.reduceReplicate,Int.reduceEq,Int.reduceLT,Int.reduceLE,Int.reduceAdd,Int.reduceSub,Int.reduceMul,Nat.reduceLT,Int.reduceToNat]) (by simp -implicitDefEqProofs (maxSteps:=2000000) only [wk,act,asV,↓reduceIte,Nat.reduceEqDiff,reduceCtorEq,Nat.reduceAdd,Nat.reduceLeDiff,Nat.reduceSub,Nat.reduceMul,List.reduceReplicate,Int.reduceEq,Int.reduceLT,Int.reduceLE,Int.reduceAdd,Int.reduceSub,Int.reduceMul,Nat.reduceLT,Int.reduceToNat]) ?_
  have ho:=ones_le (used vs)
  have hw : IntKind.i64.wrap (12 - (ones (used vs) : Int)) = 12 - (ones (used vs) : Int):=by rw [IntKind.wrap_i64]; omega
  simp -implicitDefEqProofs (maxSteps:=2000000) only [hw,wk,act,asV,↓reduceIte,Nat.reduceEqDiff,reduceCtorEq,Nat.reduceAdd,Nat.reduceLeDiff,Nat.reduceSub,Nat.reduceMul,List.reduceReplicate,Int.reduceEq,Int.reduceLT,Int.reduceLE,Int.reduceAdd,Int.reduceSub,Int.reduceMul,Nat.reduceLT,Int.reduceToNat]
end Go.Proofs.YtilbipknodpmmaaDoor
