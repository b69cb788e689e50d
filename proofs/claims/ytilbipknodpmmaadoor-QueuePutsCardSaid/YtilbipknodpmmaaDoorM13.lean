/- The loaded functions as texts of the ideal machine (written by a program of ours), and that they are the loaded ones. -/
import Derived.Test.YtilbipknodpmmaaDoorE31
import Derived.Test.YtilbipknodpmmaaDoorProg
set_option linter.unusedVariables false
set_option linter.unusedSimpArgs false
set_option linter.unusedSectionVars false
namespace Go.Proofs.YtilbipknodpmmaaDoor
open Go.RowKit

/- tollhouse/tollhouselaw13.wakes -/
/- tollhouse/ops.Place -/
def m13_1 : MCode :=
 (.seq
  (.reg
   [MI.op (some 6) (.mov (.c (.int .i64 0))) none,
    MI.op (some 7) (.mov (.c (.int .i64 16))) none])
  .ret)
def m13_2 : MCode :=
 (.seq
  (.reg
   [MI.op (some 6) (.mov (.c (.int .i64 0))) none,
    MI.op (some 7) (.mov (.c (.int .i64 17))) none])
  .ret)
def m13_3 : MCode :=
 (.cond (.tmp 18)
  m13_2
  .skip)
def m13_4 : MCode :=
 (.seq
  (.reg
   [MI.op (some 19) (.mov (.tmp 2)) none,
    MI.op (some 20) (.bin .lss (.tmp 19) (.c (.int .i64 0))) none,
    MI.op (some 21) (.mov (.tmp 20)) none,
    MI.op (some 22) (.mov (.tmp 2)) (some (21,false)),
    MI.op (some 23) (.mov (.tmp 8)) (some (21,false)),
    MI.op (some 24) (.mov (.tmp 9)) (some (21,false)),
    MI.op (some 25) (.ixSl 2 (.tmp 23) (.tmp 24)) (some (21,false)),
    MI.op (some 26) (.fa 1 (.tmp 25)) (some (21,false)),
    MI.op (some 27) (.load false 1 (.tmp 26)) (some (21,false)),
    MI.op (some 28) (.len (.tmp 27)) (some (21,false)),
    MI.op (some 29) (.bin .geq (.tmp 22) (.tmp 28)) (some (21,false)),
    MI.op (some 30) (.pick (.tmp 21) (.c (.bool true)) (.tmp 29)) none,
    MI.op (some 18) (.mov (.tmp 30)) none])
  m13_3)
def m13_5 : MCode :=
 (.cond (.tmp 15)
  m13_1
  m13_4)
def m13_6 : MCode :=
 (.seq
  (.reg
   [MI.op (some 31) (.mov (.tmp 8)) none,
    MI.op (some 32) (.mov (.tmp 9)) none,
    MI.op (some 33) (.ixSl 2 (.tmp 31) (.tmp 32)) none,
    MI.op (some 34) (.fa 1 (.tmp 33)) none,
    MI.op (some 35) (.load false 1 (.tmp 34)) none,
    MI.op (some 36) (.mov (.tmp 2)) none,
    MI.op (some 37) (.ixSl 1 (.tmp 35) (.tmp 36)) none,
    MI.op (some 38) (.load false 1 (.tmp 37)) none,
    MI.op (some 6) (.mov (.tmp 38)) none,
    MI.op (some 7) (.mov (.c (.int .i64 0))) none])
  .ret)
def m13_7 : MCode :=
 (.seq
  (.blk 0
   (.seq
    (.reg
     [MI.op (some 16) (.mov (.tmp 9)) none,
      MI.op (some 17) (.bin .lss (.tmp 16) (.c (.int .i64 0))) none,
      MI.op (some 15) (.mov (.tmp 17)) none])
  m13_5))
  m13_6)
def m13_8 : MCode :=
 (.seq
  (.reg
   [MI.op (some 12) (.mov (.tmp 1)) none,
    MI.op (some 13) (.mov (.tmp 8)) none,
    MI.op (some 14) (.call 44 [(.tmp 12),(.tmp 13)]) none,
    MI.op (some 9) (.mov (.tmp 14)) none])
  m13_7)
def m13_9 : MCode :=
 (.seq
  (.reg
   [MI.op (some 10) (.load true 32 (.tmp 3)) none,
    MI.op (some 11) (.call 16 [(.tmp 10)]) none,
    MI.op (some 8) (.mov (.tmp 11)) none])
  m13_8)
def m13_r : List MRes:=[.tmp 6,.tmp 7]
def m13_b : MCode :=
 (.seq
  (.reg
   [MI.op (some 3) (.box (.tmp 0)) none,
    MI.op (some 6) (.mov (.c (.int .i64 0))) none,
    MI.op (some 7) (.mov (.c (.int .i64 0))) none])
  m13_9)
def m13 : MFunc:=⟨3,39,m13_r,m13_b⟩
theorem c13 : compF Tryd.prog 13 m13 = some m13:=by kernel_rfl

/- tollhouse/tollhouseref13.Place -/
def m14_1 : MCode :=
 (.seq
  (.reg
   [MI.op (some 6) (.mov (.c (.int .i64 0))) none,
    MI.op (some 7) (.mov (.c (.int .i64 16))) none])
  .ret)
def m14_2 : MCode :=
 (.cond (.tmp 16)
  m14_1
  .skip)
def m14_3 : MCode :=
 (.seq
  (.reg
   [MI.op (some 6) (.mov (.c (.int .i64 0))) none,
    MI.op (some 7) (.mov (.c (.int .i64 17))) none])
  .ret)
def m14_4 : MCode :=
 (.cond (.tmp 28)
  m14_3
  .skip)
def m14_5 : MCode :=
 (.seq
  (.reg
   [MI.op (some 29) (.mov (.tmp 8)) none,
    MI.op (some 30) (.mov (.tmp 9)) none,
    MI.op (some 31) (.ixSl 2 (.tmp 29) (.tmp 30)) none,
    MI.op (some 32) (.fa 1 (.tmp 31)) none,
    MI.op (some 33) (.load false 1 (.tmp 32)) none,
    MI.op (some 34) (.mov (.tmp 2)) none,
    MI.op (some 35) (.ixSl 1 (.tmp 33) (.tmp 34)) none,
    MI.op (some 36) (.load false 1 (.tmp 35)) none,
    MI.op (some 6) (.mov (.tmp 36)) none,
    MI.op (some 7) (.mov (.c (.int .i64 0))) none])
  .ret)
def m14_6 : MCode :=
 (.seq
  (.seq
   (.reg
    [MI.op (some 17) (.mov (.tmp 2)) none,
     MI.op (some 18) (.bin .lss (.tmp 17) (.c (.int .i64 0))) none,
     MI.op (some 19) (.mov (.tmp 18)) none,
     MI.op (some 20) (.mov (.tmp 2)) (some (19,false)),
     MI.op (some 21) (.mov (.tmp 8)) (some (19,false)),
     MI.op (some 22) (.mov (.tmp 9)) (some (19,false)),
     MI.op (some 23) (.ixSl 2 (.tmp 21) (.tmp 22)) (some (19,false)),
     MI.op (some 24) (.fa 1 (.tmp 23)) (some (19,false)),
     MI.op (some 25) (.load false 1 (.tmp 24)) (some (19,false)),
     MI.op (some 26) (.len (.tmp 25)) (some (19,false)),
     MI.op (some 27) (.bin .geq (.tmp 20) (.tmp 26)) (some (19,false)),
     MI.op (some 28) (.pick (.tmp 19) (.c (.bool true)) (.tmp 27)) none])
  m14_4)
  m14_5)
def m14_7 : MCode :=
 (.seq
  (.seq
   (.reg
    [MI.op (some 15) (.mov (.tmp 9)) none,
     MI.op (some 16) (.bin .lss (.tmp 15) (.c (.int .i64 0))) none])
  m14_2)
  m14_6)
def m14_8 : MCode :=
 (.seq
  (.reg
   [MI.op (some 12) (.mov (.tmp 1)) none,
    MI.op (some 13) (.mov (.tmp 8)) none,
    MI.op (some 14) (.call 45 [(.tmp 12),(.tmp 13)]) none,
    MI.op (some 9) (.mov (.tmp 14)) none])
  m14_7)
def m14_9 : MCode :=
 (.seq
  (.reg
   [MI.op (some 10) (.load true 32 (.tmp 3)) none,
    MI.op (some 11) (.call 17 [(.tmp 10)]) none,
    MI.op (some 8) (.mov (.tmp 11)) none])
  m14_8)
def m14_r : List MRes:=[.tmp 6,.tmp 7]
def m14_b : MCode :=
 (.seq
  (.reg
   [MI.op (some 3) (.box (.tmp 0)) none,
    MI.op (some 6) (.mov (.c (.int .i64 0))) none,
    MI.op (some 7) (.mov (.c (.int .i64 0))) none])
  m14_9)
def m14 : MFunc:=⟨3,37,m14_r,m14_b⟩
theorem c14 : compF Tryd.prog 14 m14 = some m14:=by kernel_rfl

/- tollhouse/ops.Volumes -/
def m16_1 : List MI :=
 [MI.op (some 5) (.mov (.tmp 7)) none,
  MI.op (some 8) (.ext (.tmp 5) 0) none,
  MI.op (some 9) (.ext (.tmp 5) 1) none,
  MI.op (some 3) (.mov (.tmp 8)) none,
  MI.op (some 4) (.mov (.tmp 9)) none]
def m16_2 : MCode :=
 (.seq
  (.reg
   [MI.op (some 10) (.mov (.tmp 3)) none,
    MI.op (some 2) (.mov (.tmp 10)) none])
  .ret)
def m16_3 : MCode :=
 (.seq
  (.reg
   (MI.op (some 6) (.load true 32 (.tmp 1)) none ::
    MI.op (some 7) (.call 28 [(.tmp 6)]) none ::
    m16_1))
  m16_2)
def m16_r : List MRes:=[.tmp 2]
def m16_b : MCode :=
 (.seq
  (.reg
   [MI.op (some 1) (.box (.tmp 0)) none,
    MI.op (some 2) (.mov (.c (.sl .full 0 []))) none])
  m16_3)
def m16 : MFunc:=⟨1,11,m16_r,m16_b⟩
theorem c16 : compF Tryd.prog 16 m16 = some m16:=by kernel_rfl

/- tollhouse/tollhouseref13.Volumes -/
def m17_1 : List MI :=
 [MI.op (some 5) (.mov (.tmp 7)) none,
  MI.op (some 8) (.ext (.tmp 5) 0) none,
  MI.op (some 9) (.ext (.tmp 5) 1) none,
  MI.op (some 3) (.mov (.tmp 8)) none,
  MI.op (some 4) (.mov (.tmp 9)) none]
def m17_2 : MCode :=
 (.seq
  (.reg
   [MI.op (some 10) (.mov (.tmp 3)) none,
    MI.op (some 2) (.mov (.tmp 10)) none])
  .ret)
def m17_3 : MCode :=
 (.seq
  (.reg
   (MI.op (some 6) (.load true 32 (.tmp 1)) none ::
    MI.op (some 7) (.call 46 [(.tmp 6)]) none ::
    m17_1))
  m17_2)
def m17_r : List MRes:=[.tmp 2]
def m17_b : MCode :=
 (.seq
  (.reg
   [MI.op (some 1) (.box (.tmp 0)) none,
    MI.op (some 2) (.mov (.c (.sl .full 0 []))) none])
  m17_3)
def m17 : MFunc:=⟨1,11,m17_r,m17_b⟩
theorem c17 : compF Tryd.prog 17 m17 = some m17:=by kernel_rfl

/- tollhouse/ops.Write -/
def m18_1 : List MI :=
 [MI.op (some 12) (.mov (.tmp 16)) none,
  MI.op (some 17) (.ext (.tmp 12) 0) none,
  MI.op (some 18) (.ext (.tmp 12) 1) none,
  MI.op (some 10) (.mov (.tmp 17)) none,
  MI.op (some 11) (.mov (.tmp 18)) none]
def m18_2 : MCode :=
 (.seq
  (.reg
   [MI.op (some 21) (.mov (.tmp 11)) none,
    MI.op (some 8) (.mov (.c (.sl .full 0 []))) none,
    MI.op (some 9) (.mov (.tmp 21)) none])
  .ret)
def m18_3 : MCode :=
 (.cond (.tmp 20)
  m18_2
  .skip)
def m18_4 : MCode :=
 (.seq
  (.reg
   [MI.op (some 22) (.mov (.tmp 10)) none,
    MI.op (some 23) (.load true 32 (.tmp 7)) none,
    MI.op (some 24) (.build [(.int .i64 0),(.int .u8 0),(.int .u8 0),(.int .u8 0),(.int .u8 0),(.int .u8 0),(.int .u8 0),(.int .u8 0),(.int .u8 0),(.int .u8 0),(.int .u8 0),(.int .u8 0),(.int .u8 0),(.int .u8 0),(.int .u8 0),(.int .u8 0),(.int .u8 0),(.int .u8 0),(.int .u8 0),(.int .u8 0),(.int .u8 0),(.int .u8 0),(.int .u8 0),(.int .u8 0),(.int .u8 0),(.int .u8 0),(.int .u8 0),(.int .u8 0),(.int .u8 0),(.int .u8 0),(.int .u8 0),(.int .u8 0),(.int .u8 0)] [(0,1,(.tmp 22)),(1,32,(.tmp 23))]) none,
    MI.op (some 25) (.bsl 1 33 [(.int .i64 0),(.int .u8 0),(.int .u8 0),(.int .u8 0),(.int .u8 0),(.int .u8 0),(.int .u8 0),(.int .u8 0),(.int .u8 0),(.int .u8 0),(.int .u8 0),(.int .u8 0),(.int .u8 0),(.int .u8 0),(.int .u8 0),(.int .u8 0),(.int .u8 0),(.int .u8 0),(.int .u8 0),(.int .u8 0),(.int .u8 0),(.int .u8 0),(.int .u8 0),(.int .u8 0),(.int .u8 0),(.int .u8 0),(.int .u8 0),(.int .u8 0),(.int .u8 0),(.int .u8 0),(.int .u8 0),(.int .u8 0),(.int .u8 0)] [(0,33,(.tmp 24))]) none,
    MI.op (some 8) (.mov (.tmp 25)) none,
    MI.op (some 9) (.mov (.c (.int .i64 0))) none])
  .ret)
def m18_5 : MCode :=
 (.seq
  (.seq
   (.reg
    [MI.op (some 19) (.mov (.tmp 11)) none,
     MI.op (some 20) (.bin .neq (.tmp 19) (.c (.int .i64 0))) none])
  m18_3)
  m18_4)
def m18_6 : MCode :=
 (.seq
  (.reg
   (MI.op (some 13) (.load true 32 (.tmp 4)) none ::
    MI.op (some 14) (.mov (.tmp 1)) none ::
    MI.op (some 15) (.mov (.tmp 2)) none ::
    MI.op (some 16) (.call 13 [(.tmp 13),(.tmp 14),(.tmp 15)]) none ::
    m18_1))
  m18_5)
def m18_r : List MRes:=[.tmp 8,.tmp 9]
def m18_b : MCode :=
 (.seq
  (.reg
   [MI.op (some 4) (.box (.tmp 0)) none,
    MI.op (some 7) (.box (.tmp 3)) none,
    MI.op (some 8) (.mov (.c (.sl .full 0 []))) none,
    MI.op (some 9) (.mov (.c (.int .i64 0))) none])
  m18_6)
def m18 : MFunc:=⟨4,26,m18_r,m18_b⟩
theorem c18 : compF Tryd.prog 18 m18 = some m18:=by kernel_rfl

/- tollhouse/tollhouseref13.Write -/
def m19_1 : List MI :=
 [MI.op (some 12) (.mov (.tmp 16)) none,
  MI.op (some 17) (.ext (.tmp 12) 0) none,
  MI.op (some 18) (.ext (.tmp 12) 1) none,
  MI.op (some 10) (.mov (.tmp 17)) none,
  MI.op (some 11) (.mov (.tmp 18)) none]
def m19_2 : MCode :=
 (.seq
  (.reg
   [MI.op (some 21) (.mov (.tmp 11)) none,
    MI.op (some 8) (.mov (.c (.sl .full 0 []))) none,
    MI.op (some 9) (.mov (.tmp 21)) none])
  .ret)
def m19_3 : MCode :=
 (.cond (.tmp 20)
  m19_2
  .skip)
def m19_4 : MCode :=
 (.seq
  (.reg
   [MI.op (some 22) (.mov (.tmp 10)) none,
    MI.op (some 23) (.load true 32 (.tmp 7)) none,
    MI.op (some 24) (.build [(.int .i64 0),(.int .u8 0),(.int .u8 0),(.int .u8 0),(.int .u8 0),(.int .u8 0),(.int .u8 0),(.int .u8 0),(.int .u8 0),(.int .u8 0),(.int .u8 0),(.int .u8 0),(.int .u8 0),(.int .u8 0),(.int .u8 0),(.int .u8 0),(.int .u8 0),(.int .u8 0),(.int .u8 0),(.int .u8 0),(.int .u8 0),(.int .u8 0),(.int .u8 0),(.int .u8 0),(.int .u8 0),(.int .u8 0),(.int .u8 0),(.int .u8 0),(.int .u8 0),(.int .u8 0),(.int .u8 0),(.int .u8 0),(.int .u8 0)] [(0,1,(.tmp 22)),(1,32,(.tmp 23))]) none,
    MI.op (some 25) (.bsl 1 33 [(.int .i64 0),(.int .u8 0),(.int .u8 0),(.int .u8 0),(.int .u8 0),(.int .u8 0),(.int .u8 0),(.int .u8 0),(.int .u8 0),(.int .u8 0),(.int .u8 0),(.int .u8 0),(.int .u8 0),(.int .u8 0),(.int .u8 0),(.int .u8 0),(.int .u8 0),(.int .u8 0),(.int .u8 0),(.int .u8 0),(.int .u8 0),(.int .u8 0),(.int .u8 0),(.int .u8 0),(.int .u8 0),(.int .u8 0),(.int .u8 0),(.int .u8 0),(.int .u8 0),(.int .u8 0),(.int .u8 0),(.int .u8 0),(.int .u8 0)] [(0,33,(.tmp 24))]) none,
    MI.op (some 8) (.mov (.tmp 25)) none,
    MI.op (some 9) (.mov (.c (.int .i64 0))) none])
  .ret)
def m19_5 : MCode :=
 (.seq
  (.seq
   (.reg
    [MI.op (some 19) (.mov (.tmp 11)) none,
     MI.op (some 20) (.bin .neq (.tmp 19) (.c (.int .i64 0))) none])
  m19_3)
  m19_4)
def m19_6 : MCode :=
 (.seq
  (.reg
   (MI.op (some 13) (.load true 32 (.tmp 4)) none ::
    MI.op (some 14) (.mov (.tmp 1)) none ::
    MI.op (some 15) (.mov (.tmp 2)) none ::
    MI.op (some 16) (.call 14 [(.tmp 13),(.tmp 14),(.tmp 15)]) none ::
    m19_1))
  m19_5)
def m19_r : List MRes:=[.tmp 8,.tmp 9]
def m19_b : MCode :=
 (.seq
  (.reg
   [MI.op (some 4) (.box (.tmp 0)) none,
    MI.op (some 7) (.box (.tmp 3)) none,
    MI.op (some 8) (.mov (.c (.sl .full 0 []))) none,
    MI.op (some 9) (.mov (.c (.int .i64 0))) none])
  m19_6)
def m19 : MFunc:=⟨4,26,m19_r,m19_b⟩
theorem c19 : compF Tryd.prog 19 m19 = some m19:=by kernel_rfl

/- tollhouse/tollhousekeep.Puts -/
def m20_1 : MCode :=
 (.cond (.tmp 10)
  (.seq
   (.reg
    [MI.op (some 4) (.mov (.c (.bool false))) none])
   .ret)
  .skip)
def m20_2 : MCode :=
 (.cond (.tmp 25)
  (.seq
   (.reg
    [MI.op (some 4) (.mov (.c (.bool false))) none])
   .ret)
  .skip)
def m20_3 : MCode :=
 (.seq
  (.blk 1
   (.seq
    (.drw
     [MI.op (some 17) (.mov (.tmp 0)) none,
      MI.op (some 18) (.mov (.tmp 5)) none,
      MI.op (some 19) (.ixSl 33 (.tmp 17) (.tmp 18)) none,
      MI.op (some 20) (.load true 33 (.tmp 19)) none,
      MI.op (some 21) (.mov (.tmp 1)) none,
      MI.op (some 22) (.mov (.tmp 5)) none,
      MI.op (some 23) (.ixSl 33 (.tmp 21) (.tmp 22)) none,
      MI.op (some 24) (.load true 33 (.tmp 23)) none]
     [MI.op (some 25) (.eqv true [(33,.i)] (.tmp 20) (.tmp 24)) none])
  m20_2))
  (.reg
   [MI.op (some 15) (.mov (.tmp 5)) none,
    MI.op (some 16) (.bin .add (.tmp 15) (.c (.int .i64 1))) none,
    MI.op (some 5) (.mov (.tmp 16)) none]))
def m20_4 : MCode :=
 (.seq
  (.seq
   (.reg
    [MI.op (some 11) (.mov (.tmp 5)) none,
     MI.op (some 12) (.mov (.tmp 0)) none,
     MI.op (some 13) (.len (.tmp 12)) none,
     MI.op (some 14) (.bin .lss (.tmp 11) (.tmp 13)) none])
   (.cond (.tmp 14)
    .skip
    (.exit 0)))
  m20_3)
def m20_5 : MCode :=
 (.blk 0
  (.loop
  m20_4))
def m20_6 : MCode :=
 (.seq
  (.seq
   (.reg
    [MI.op (some 5) (.mov (.c (.int .i64 0))) none])
  m20_5)
  (.seq
   (.reg
    [MI.op (some 4) (.mov (.c (.bool true))) none])
   .ret))
def m20_7 : MCode :=
 (.seq
  (.seq
   (.reg
    [MI.op (some 6) (.mov (.tmp 0)) none,
     MI.op (some 7) (.len (.tmp 6)) none,
     MI.op (some 8) (.mov (.tmp 1)) none,
     MI.op (some 9) (.len (.tmp 8)) none,
     MI.op (some 10) (.bin .neq (.tmp 7) (.tmp 9)) none])
  m20_1)
  m20_6)
def m20_r : List MRes:=[.tmp 4]
def m20_b : MCode :=
 (.seq
  (.reg
   [MI.op (some 4) (.mov (.c (.bool false))) none])
  m20_7)
def m20 : MFunc:=⟨2,26,m20_r,m20_b⟩
theorem c20 : compF Tryd.prog 20 m20 = some m20:=by kernel_rfl

/- tollhouse/ops.Make -/
def m21_1 : List MI :=
 [MI.op (some 20) (.un .not (.tmp 19)) none,
  MI.op (some 16) (.mov (.tmp 20)) none]
def m21_2 : MCode :=
 (.seq
  (.reg
   [MI.op (some 6) (.mov (.c (.sl .full 0 []))) none,
    MI.op (some 7) (.mov (.c (.int .i64 11))) none])
  .ret)
def m21_3 : List MI :=
 [MI.op (some 25) (.bin .geq (.tmp 24) (.c (.int .i64 0))) none,
  MI.op (some 21) (.mov (.tmp 25)) none]
def m21_4 : MCode :=
 (.seq
  (.reg
   [MI.op (some 6) (.mov (.c (.sl .full 0 []))) none,
    MI.op (some 7) (.mov (.c (.int .i64 16))) none])
  .ret)
def m21_5 : MCode :=
 (.seq
  (.reg
   [MI.op (some 6) (.mov (.c (.sl .full 0 []))) none,
    MI.op (some 7) (.mov (.c (.int .i64 17))) none])
  .ret)
def m21_6 : MCode :=
 (.seq
  (.reg
   [MI.op (some 6) (.mov (.c (.sl .full 0 []))) none,
    MI.op (some 7) (.mov (.c (.int .i64 18))) none])
  .ret)
def m21_7 : MCode :=
 (.cond (.tmp 33)
  m21_6
  .skip)
def m21_8 : MCode :=
 (.seq
  (.reg
   [MI.op (some 34) (.mov (.tmp 8)) none,
    MI.op (some 35) (.len (.tmp 34)) none,
    MI.op (some 36) (.bin .geq (.tmp 35) (.c (.int .i64 3))) none,
    MI.op (some 33) (.mov (.tmp 36)) none])
  m21_7)
def m21_9 : MCode :=
 (.cond (.tmp 26)
  m21_5
  m21_8)
def m21_10 : MCode :=
 (.seq
  (.reg
   [MI.op (some 27) (.mov (.tmp 2)) none,
    MI.op (some 28) (.bin .lss (.tmp 27) (.c (.int .i64 1))) none,
    MI.op (some 29) (.mov (.tmp 28)) none,
    MI.op (some 30) (.mov (.tmp 2)) (some (29,false)),
    MI.op (some 31) (.bin .gtr (.tmp 30) (.c (.int .i64 4))) (some (29,false)),
    MI.op (some 32) (.pick (.tmp 29) (.c (.bool true)) (.tmp 31)) none,
    MI.op (some 26) (.mov (.tmp 32)) none])
  m21_9)
def m21_11 : MCode :=
 (.cond (.tmp 21)
  m21_4
  m21_10)
def m21_12 : MCode :=
 (.seq
  (.reg
   (MI.op (some 22) (.mov (.tmp 1)) none ::
    MI.op (some 23) (.mov (.tmp 8)) none ::
    MI.op (some 24) (.call 44 [(.tmp 22),(.tmp 23)]) none ::
    m21_3))
  m21_11)
def m21_13 : MCode :=
 (.cond (.tmp 16)
  m21_2
  m21_12)
def m21_14 : List MI :=
 [MI.op (some 37) (.mov (.tmp 40)) none,
  MI.op (some 41) (.ext (.tmp 37) 0) none,
  MI.op (some 42) (.ext (.tmp 37) 1) none,
  MI.op (some 9) (.mov (.tmp 41)) none,
  MI.op (some 10) (.mov (.tmp 42)) none]
def m21_15 : MCode :=
 (.seq
  (.reg
   [MI.op (some 45) (.mov (.tmp 10)) none,
    MI.op (some 6) (.mov (.c (.sl .full 0 []))) none,
    MI.op (some 7) (.mov (.tmp 45)) none])
  .ret)
def m21_16 : MCode :=
 (.cond (.tmp 44)
  m21_15
  .skip)
def m21_17 : MCode :=
 (.reg
  [MI.op (some 52) (.mov (.tmp 11)) none,
   MI.op (some 53) (.mov (.tmp 13)) none,
   MI.op (some 54) (.build [(.int .i64 0),(.int .u8 0),(.int .u8 0),(.int .u8 0),(.int .u8 0),(.int .u8 0),(.int .u8 0),(.int .u8 0),(.int .u8 0),(.int .u8 0),(.int .u8 0),(.int .u8 0),(.int .u8 0),(.int .u8 0),(.int .u8 0),(.int .u8 0),(.int .u8 0),(.int .u8 0),(.int .u8 0),(.int .u8 0),(.int .u8 0),(.int .u8 0),(.int .u8 0),(.int .u8 0),(.int .u8 0),(.int .u8 0),(.int .u8 0),(.int .u8 0),(.int .u8 0),(.int .u8 0),(.int .u8 0),(.int .u8 0),(.int .u8 0)] [(0,1,(.tmp 53))]) none,
   MI.op (some 55) (.bsl 1 33 [(.int .i64 0),(.int .u8 0),(.int .u8 0),(.int .u8 0),(.int .u8 0),(.int .u8 0),(.int .u8 0),(.int .u8 0),(.int .u8 0),(.int .u8 0),(.int .u8 0),(.int .u8 0),(.int .u8 0),(.int .u8 0),(.int .u8 0),(.int .u8 0),(.int .u8 0),(.int .u8 0),(.int .u8 0),(.int .u8 0),(.int .u8 0),(.int .u8 0),(.int .u8 0),(.int .u8 0),(.int .u8 0),(.int .u8 0),(.int .u8 0),(.int .u8 0),(.int .u8 0),(.int .u8 0),(.int .u8 0),(.int .u8 0),(.int .u8 0)] [(0,33,(.tmp 54))]) none,
   MI.op (some 56) (.app 33 40 (.tmp 52) (.tmp 55)) none,
   MI.op (some 11) (.mov (.tmp 56)) none])
def m21_18 : MCode :=
 (.seq
  (.blk 2
   (.seq
    (.reg
     [MI.op (some 50) (.ixSl 1 (.tmp 46) (.tmp 48)) none,
      MI.op (some 51) (.load false 1 (.tmp 50)) none,
      MI.op (some 13) (.mov (.tmp 51)) none])
  m21_17))
  (.reg
   [MI.op (some 57) (.bin .add (.tmp 48) (.c (.int .i64 1))) none,
    MI.op (some 48) (.mov (.tmp 57)) none]))
def m21_19 : MCode :=
 (.seq
  (.cond (.tmp 49)
   .skip
   (.exit 1))
  m21_18)
def m21_20 : MCode :=
 (.seq
  (.reg
   [MI.op (some 49) (.bin .lss (.tmp 48) (.tmp 47)) none])
  m21_19)
def m21_21 : MCode :=
 (.blk 1
  (.loop
  m21_20))
def m21_22 : List MI :=
 [MI.op (some 66) (.ext (.tmp 65) 0) none,
  MI.op (some 67) (.ext (.tmp 65) 1) none,
  MI.op (some 6) (.mov (.tmp 66)) none,
  MI.op (some 7) (.mov (.tmp 67)) none]
def m21_23 : MCode :=
 (.seq
  (.reg
   (MI.op (some 58) (.mov (.tmp 8)) none ::
    MI.op (some 59) (.mov (.tmp 1)) none ::
    MI.op (some 60) (.mov (.tmp 9)) none ::
    MI.op (some 61) (.build [(.str []),(.sl .full 0 [])] [(0,1,(.tmp 59)),(1,1,(.tmp 60))]) none ::
    MI.frz 61 ::
    MI.op (some 62) (.bsl 1 2 [(.str []),(.sl .full 0 [])] [(0,2,(.tmp 61))]) none ::
    MI.op (some 63) (.app 2 40 (.tmp 58) (.tmp 62)) none ::
    MI.op (some 64) (.mov (.tmp 11)) none ::
    MI.op (some 65) (.calln 49 [(.tmp 63),(.tmp 64)]) none ::
    m21_22))
  .ret)
def m21_24 : MCode :=
 (.seq
  (.seq
   (.reg
    [MI.op (some 46) (.mov (.tmp 9)) none,
     MI.op (some 47) (.len (.tmp 46)) none,
     MI.op (some 48) (.mov (.c (.int .i64 0))) none])
  m21_21)
  m21_23)
def m21_25 : MCode :=
 (.seq
  (.reg
   [MI.op (some 11) (.mov (.c (.sl .full 0 []))) none])
  m21_24)
def m21_26 : MCode :=
 (.seq
  (.seq
   (.reg
    [MI.op (some 43) (.mov (.tmp 10)) none,
     MI.op (some 44) (.bin .neq (.tmp 43) (.c (.int .i64 0))) none])
  m21_16)
  m21_25)
def m21_27 : MCode :=
 (.seq
  (.reg
   (MI.op (some 38) (.mov (.tmp 2)) none ::
    MI.op (some 39) (.mov (.tmp 8)) none ::
    MI.op (some 40) (.call 48 [(.tmp 38),(.tmp 39)]) none ::
    m21_14))
  m21_26)
def m21_28 : MCode :=
 (.seq
  (.blk 0
   (.seq
    (.reg
     (MI.op (some 17) (.mov (.tmp 1)) none ::
      MI.op (some 18) (.bsl 1 1 [(.str [])] [(0,1,(.tmp 17))]) none ::
      MI.op (some 19) (.call 47 [(.tmp 18)]) none ::
      m21_1))
  m21_13))
  m21_27)
def m21_29 : MCode :=
 (.seq
  (.reg
   [MI.op (some 14) (.load true 32 (.tmp 3)) none,
    MI.op (some 15) (.call 16 [(.tmp 14)]) none,
    MI.op (some 8) (.mov (.tmp 15)) none])
  m21_28)
def m21_r : List MRes:=[.tmp 6,.tmp 7]
def m21_b : MCode :=
 (.seq
  (.reg
   [MI.op (some 3) (.box (.tmp 0)) none,
    MI.op (some 6) (.mov (.c (.sl .full 0 []))) none,
    MI.op (some 7) (.mov (.c (.int .i64 0))) none])
  m21_29)
def m21 : MFunc:=⟨3,68,m21_r,m21_b⟩
theorem c21 : compF Tryd.prog 21 m21 = some m21:=by kernel_rfl

/- tollhouse/tollhouseref13.Make -/
def m22_1 : List MI :=
 [MI.op (some 21) (.un .not (.tmp 20)) none,
  MI.op (some 17) (.mov (.tmp 21)) none]
def m22_2 : MCode :=
 (.seq
  (.reg
   [MI.op (some 6) (.mov (.c (.sl .full 0 []))) none,
    MI.op (some 7) (.mov (.c (.int .i64 11))) none])
  .ret)
def m22_3 : List MI :=
 [MI.op (some 26) (.bin .geq (.tmp 25) (.c (.int .i64 0))) none,
  MI.op (some 22) (.mov (.tmp 26)) none]
def m22_4 : MCode :=
 (.seq
  (.reg
   [MI.op (some 6) (.mov (.c (.sl .full 0 []))) none,
    MI.op (some 7) (.mov (.c (.int .i64 16))) none])
  .ret)
def m22_5 : MCode :=
 (.seq
  (.reg
   [MI.op (some 6) (.mov (.c (.sl .full 0 []))) none,
    MI.op (some 7) (.mov (.c (.int .i64 17))) none])
  .ret)
def m22_6 : MCode :=
 (.seq
  (.reg
   [MI.op (some 6) (.mov (.c (.sl .full 0 []))) none,
    MI.op (some 7) (.mov (.c (.int .i64 18))) none])
  .ret)
def m22_7 : MCode :=
 (.cond (.tmp 34)
  m22_6
  .skip)
def m22_8 : MCode :=
 (.seq
  (.reg
   [MI.op (some 35) (.mov (.tmp 8)) none,
    MI.op (some 36) (.len (.tmp 35)) none,
    MI.op (some 37) (.bin .geq (.tmp 36) (.c (.int .i64 3))) none,
    MI.op (some 34) (.mov (.tmp 37)) none])
  m22_7)
def m22_9 : MCode :=
 (.cond (.tmp 27)
  m22_5
  m22_8)
def m22_10 : MCode :=
 (.seq
  (.reg
   [MI.op (some 28) (.mov (.tmp 2)) none,
    MI.op (some 29) (.bin .lss (.tmp 28) (.c (.int .i64 1))) none,
    MI.op (some 30) (.mov (.tmp 29)) none,
    MI.op (some 31) (.mov (.tmp 2)) (some (30,false)),
    MI.op (some 32) (.bin .gtr (.tmp 31) (.c (.int .i64 4))) (some (30,false)),
    MI.op (some 33) (.pick (.tmp 30) (.c (.bool true)) (.tmp 32)) none,
    MI.op (some 27) (.mov (.tmp 33)) none])
  m22_9)
def m22_11 : MCode :=
 (.cond (.tmp 22)
  m22_4
  m22_10)
def m22_12 : MCode :=
 (.seq
  (.reg
   (MI.op (some 23) (.mov (.tmp 1)) none ::
    MI.op (some 24) (.mov (.tmp 8)) none ::
    MI.op (some 25) (.call 45 [(.tmp 23),(.tmp 24)]) none ::
    m22_3))
  m22_11)
def m22_13 : MCode :=
 (.cond (.tmp 17)
  m22_2
  m22_12)
def m22_14 : List MI :=
 [MI.op (some 38) (.mov (.tmp 41)) none,
  MI.op (some 42) (.ext (.tmp 38) 0) none,
  MI.op (some 43) (.ext (.tmp 38) 1) none,
  MI.op (some 9) (.mov (.tmp 42)) none,
  MI.op (some 10) (.mov (.tmp 43)) none]
def m22_15 : MCode :=
 (.seq
  (.reg
   [MI.op (some 6) (.mov (.c (.sl .full 0 []))) none,
    MI.op (some 7) (.mov (.c (.int .i64 18))) none])
  .ret)
def m22_16 : MCode :=
 (.cond (.tmp 45)
  m22_15
  .skip)
def m22_17 : MCode :=
 (.seq
  (.blk 2
   (.reg
    [MI.op (some 51) (.mov (.tmp 11)) none,
     MI.op (some 52) (.mov (.tmp 9)) none,
     MI.op (some 53) (.mov (.tmp 12)) none,
     MI.op (some 54) (.ixSl 1 (.tmp 52) (.tmp 53)) none,
     MI.op (some 55) (.load false 1 (.tmp 54)) none,
     MI.op (some 56) (.build [(.int .i64 0),(.int .u8 0),(.int .u8 0),(.int .u8 0),(.int .u8 0),(.int .u8 0),(.int .u8 0),(.int .u8 0),(.int .u8 0),(.int .u8 0),(.int .u8 0),(.int .u8 0),(.int .u8 0),(.int .u8 0),(.int .u8 0),(.int .u8 0),(.int .u8 0),(.int .u8 0),(.int .u8 0),(.int .u8 0),(.int .u8 0),(.int .u8 0),(.int .u8 0),(.int .u8 0),(.int .u8 0),(.int .u8 0),(.int .u8 0),(.int .u8 0),(.int .u8 0),(.int .u8 0),(.int .u8 0),(.int .u8 0),(.int .u8 0)] [(0,1,(.tmp 55))]) none,
     MI.op (some 57) (.bsl 1 33 [(.int .i64 0),(.int .u8 0),(.int .u8 0),(.int .u8 0),(.int .u8 0),(.int .u8 0),(.int .u8 0),(.int .u8 0),(.int .u8 0),(.int .u8 0),(.int .u8 0),(.int .u8 0),(.int .u8 0),(.int .u8 0),(.int .u8 0),(.int .u8 0),(.int .u8 0),(.int .u8 0),(.int .u8 0),(.int .u8 0),(.int .u8 0),(.int .u8 0),(.int .u8 0),(.int .u8 0),(.int .u8 0),(.int .u8 0),(.int .u8 0),(.int .u8 0),(.int .u8 0),(.int .u8 0),(.int .u8 0),(.int .u8 0),(.int .u8 0)] [(0,33,(.tmp 56))]) none,
     MI.op (some 58) (.app 33 40 (.tmp 51) (.tmp 57)) none,
     MI.op (some 11) (.mov (.tmp 58)) none]))
  (.reg
   [MI.op (some 49) (.mov (.tmp 12)) none,
    MI.op (some 50) (.bin .add (.tmp 49) (.c (.int .i64 1))) none,
    MI.op (some 12) (.mov (.tmp 50)) none]))
def m22_18 : MCode :=
 (.seq
  (.seq
   (.reg
    [MI.op (some 46) (.mov (.tmp 12)) none,
     MI.op (some 47) (.mov (.tmp 2)) none,
     MI.op (some 48) (.bin .lss (.tmp 46) (.tmp 47)) none])
   (.cond (.tmp 48)
    .skip
    (.exit 1)))
  m22_17)
def m22_19 : MCode :=
 (.blk 1
  (.loop
  m22_18))
def m22_20 : List MI :=
 [MI.op (some 59) (.mov (.tmp 68)) none,
  MI.op (some 69) (.ext (.tmp 59) 0) none,
  MI.op (some 70) (.ext (.tmp 59) 1) none,
  MI.op (some 13) (.alloc (List.replicate 32 (.int .u8 0))) none,
  MI.op none (.store 32 (.tmp 13) (.tmp 69)) none,
  MI.op (some 14) (.mov (.tmp 70)) none]
def m22_21 : MCode :=
 (.seq
  (.reg
   [MI.op (some 71) (.mov (.tmp 11)) none,
    MI.op (some 72) (.load true 32 (.tmp 13)) none,
    MI.op (some 73) (.build [(.int .i64 0),(.int .u8 0),(.int .u8 0),(.int .u8 0),(.int .u8 0),(.int .u8 0),(.int .u8 0),(.int .u8 0),(.int .u8 0),(.int .u8 0),(.int .u8 0),(.int .u8 0),(.int .u8 0),(.int .u8 0),(.int .u8 0),(.int .u8 0),(.int .u8 0),(.int .u8 0),(.int .u8 0),(.int .u8 0),(.int .u8 0),(.int .u8 0),(.int .u8 0),(.int .u8 0),(.int .u8 0),(.int .u8 0),(.int .u8 0),(.int .u8 0),(.int .u8 0),(.int .u8 0),(.int .u8 0),(.int .u8 0),(.int .u8 0)] [(1,32,(.tmp 72))]) none,
    MI.op (some 74) (.bsl 1 33 [(.int .i64 0),(.int .u8 0),(.int .u8 0),(.int .u8 0),(.int .u8 0),(.int .u8 0),(.int .u8 0),(.int .u8 0),(.int .u8 0),(.int .u8 0),(.int .u8 0),(.int .u8 0),(.int .u8 0),(.int .u8 0),(.int .u8 0),(.int .u8 0),(.int .u8 0),(.int .u8 0),(.int .u8 0),(.int .u8 0),(.int .u8 0),(.int .u8 0),(.int .u8 0),(.int .u8 0),(.int .u8 0),(.int .u8 0),(.int .u8 0),(.int .u8 0),(.int .u8 0),(.int .u8 0),(.int .u8 0),(.int .u8 0),(.int .u8 0)] [(0,33,(.tmp 73))]) none,
    MI.op (some 75) (.app 33 40 (.tmp 71) (.tmp 74)) none,
    MI.op (some 6) (.mov (.tmp 75)) none,
    MI.op (some 7) (.mov (.c (.int .i64 0))) none])
  .ret)
def m22_22 : MCode :=
 (.seq
  (.reg
   (MI.op (some 60) (.bsl 0 2 [(.str []),(.sl .full 0 [])] []) none ::
    MI.op (some 61) (.mov (.tmp 8)) none ::
    MI.op (some 62) (.app 2 40 (.tmp 60) (.tmp 61)) none ::
    MI.op (some 63) (.mov (.tmp 1)) none ::
    MI.op (some 64) (.mov (.tmp 9)) none ::
    MI.op (some 65) (.build [(.str []),(.sl .full 0 [])] [(0,1,(.tmp 63)),(1,1,(.tmp 64))]) none ::
    MI.frz 65 ::
    MI.op (some 66) (.bsl 1 2 [(.str []),(.sl .full 0 [])] [(0,2,(.tmp 65))]) none ::
    MI.op (some 67) (.app 2 40 (.tmp 62) (.tmp 66)) none ::
    MI.op (some 68) (.call 52 [(.tmp 67)]) none ::
    m22_20))
  m22_21)
def m22_23 : MCode :=
 (.seq
  (.seq
   (.reg
    [MI.op (some 12) (.mov (.c (.int .i64 0))) none])
  m22_19)
  m22_22)
def m22_24 : MCode :=
 (.seq
  (.reg
   [MI.op (some 11) (.mov (.c (.sl .full 0 []))) none])
  m22_23)
def m22_25 : MCode :=
 (.seq
  (.seq
   (.reg
    [MI.op (some 44) (.mov (.tmp 10)) none,
     MI.op (some 45) (.bin .neq (.tmp 44) (.c (.int .i64 0))) none])
  m22_16)
  m22_24)
def m22_26 : MCode :=
 (.seq
  (.reg
   (MI.op (some 39) (.mov (.tmp 2)) none ::
    MI.op (some 40) (.mov (.tmp 8)) none ::
    MI.op (some 41) (.call 51 [(.tmp 39),(.tmp 40)]) none ::
    m22_14))
  m22_25)
def m22_27 : MCode :=
 (.seq
  (.blk 0
   (.seq
    (.reg
     (MI.op (some 18) (.mov (.tmp 1)) none ::
      MI.op (some 19) (.bsl 1 1 [(.str [])] [(0,1,(.tmp 18))]) none ::
      MI.op (some 20) (.call 50 [(.tmp 19)]) none ::
      m22_1))
  m22_13))
  m22_26)
def m22_28 : MCode :=
 (.seq
  (.reg
   [MI.op (some 15) (.load true 32 (.tmp 3)) none,
    MI.op (some 16) (.call 17 [(.tmp 15)]) none,
    MI.op (some 8) (.mov (.tmp 16)) none])
  m22_27)
def m22_r : List MRes:=[.tmp 6,.tmp 7]
def m22_b : MCode :=
 (.seq
  (.reg
   [MI.op (some 3) (.box (.tmp 0)) none,
    MI.op (some 6) (.mov (.c (.sl .full 0 []))) none,
    MI.op (some 7) (.mov (.c (.int .i64 0))) none])
  m22_28)
def m22 : MFunc:=⟨3,76,m22_r,m22_b⟩
theorem c22 : compF Tryd.prog 22 m22 = some m22:=by kernel_rfl

/- tollhouse/ops.Gone -/
def m23_1 : MCode :=
 (.seq
  (.reg
   [MI.op (some 4) (.mov (.c (.sl .full 0 []))) none,
    MI.op (some 5) (.mov (.c (.int .i64 16))) none])
  .ret)
def m23_2 : MCode :=
 (.cond (.tmp 14)
  m23_1
  .skip)
def m23_3 : List MI :=
 [MI.op (some 21) (.ext (.tmp 20) 0) none,
  MI.op (some 22) (.ext (.tmp 20) 1) none,
  MI.op (some 4) (.mov (.tmp 21)) none,
  MI.op (some 5) (.mov (.tmp 22)) none]
def m23_4 : List MI :=
 (MI.op (some 20) (.calln 49 [(.tmp 19),(.c (.sl .full 0 []))]) none ::
  m23_3)
def m23_5 : MCode :=
 (.seq
  (.reg
   (MI.op (some 15) (.mov (.tmp 6)) none ::
    MI.op (some 16) (.mov (.tmp 7)) none ::
    MI.op (some 17) (.mov (.tmp 7)) none ::
    MI.op (some 18) (.bin .add (.tmp 17) (.c (.int .i64 1))) none ::
    MI.op (some 19) (.calln 53 [(.tmp 15),(.tmp 16),(.tmp 18)]) none ::
    m23_4))
  .ret)
def m23_6 : MCode :=
 (.seq
  (.seq
   (.reg
    [MI.op (some 13) (.mov (.tmp 7)) none,
     MI.op (some 14) (.bin .lss (.tmp 13) (.c (.int .i64 0))) none])
  m23_2)
  m23_5)
def m23_7 : MCode :=
 (.seq
  (.reg
   [MI.op (some 10) (.mov (.tmp 1)) none,
    MI.op (some 11) (.mov (.tmp 6)) none,
    MI.op (some 12) (.call 44 [(.tmp 10),(.tmp 11)]) none,
    MI.op (some 7) (.mov (.tmp 12)) none])
  m23_6)
def m23_8 : MCode :=
 (.seq
  (.reg
   [MI.op (some 8) (.load true 32 (.tmp 2)) none,
    MI.op (some 9) (.call 16 [(.tmp 8)]) none,
    MI.op (some 6) (.mov (.tmp 9)) none])
  m23_7)
def m23_r : List MRes:=[.tmp 4,.tmp 5]
def m23_b : MCode :=
 (.seq
  (.reg
   [MI.op (some 2) (.box (.tmp 0)) none,
    MI.op (some 4) (.mov (.c (.sl .full 0 []))) none,
    MI.op (some 5) (.mov (.c (.int .i64 0))) none])
  m23_8)
def m23 : MFunc:=⟨2,23,m23_r,m23_b⟩
theorem c23 : compF Tryd.prog 23 m23 = some m23:=by kernel_rfl

/- tollhouse/tollhouseref13.Gone -/
def m24_1 : MCode :=
 (.seq
  (.reg
   [MI.op (some 4) (.mov (.c (.sl .full 0 []))) none,
    MI.op (some 5) (.mov (.c (.int .i64 16))) none])
  .ret)
def m24_2 : MCode :=
 (.cond (.tmp 16)
  m24_1
  .skip)
def m24_3 : MCode :=
 (.seq
  (.reg
   [MI.op (some 31) (.load true 32 (.tmp 8)) none,
    MI.op (some 32) (.build [(.int .i64 0),(.int .u8 0),(.int .u8 0),(.int .u8 0),(.int .u8 0),(.int .u8 0),(.int .u8 0),(.int .u8 0),(.int .u8 0),(.int .u8 0),(.int .u8 0),(.int .u8 0),(.int .u8 0),(.int .u8 0),(.int .u8 0),(.int .u8 0),(.int .u8 0),(.int .u8 0),(.int .u8 0),(.int .u8 0),(.int .u8 0),(.int .u8 0),(.int .u8 0),(.int .u8 0),(.int .u8 0),(.int .u8 0),(.int .u8 0),(.int .u8 0),(.int .u8 0),(.int .u8 0),(.int .u8 0),(.int .u8 0),(.int .u8 0)] [(1,32,(.tmp 31))]) none,
    MI.op (some 33) (.bsl 1 33 [(.int .i64 0),(.int .u8 0),(.int .u8 0),(.int .u8 0),(.int .u8 0),(.int .u8 0),(.int .u8 0),(.int .u8 0),(.int .u8 0),(.int .u8 0),(.int .u8 0),(.int .u8 0),(.int .u8 0),(.int .u8 0),(.int .u8 0),(.int .u8 0),(.int .u8 0),(.int .u8 0),(.int .u8 0),(.int .u8 0),(.int .u8 0),(.int .u8 0),(.int .u8 0),(.int .u8 0),(.int .u8 0),(.int .u8 0),(.int .u8 0),(.int .u8 0),(.int .u8 0),(.int .u8 0),(.int .u8 0),(.int .u8 0),(.int .u8 0)] [(0,33,(.tmp 32))]) none,
    MI.op (some 4) (.mov (.tmp 33)) none,
    MI.op (some 5) (.mov (.c (.int .i64 0))) none])
  .ret)
def m24_4 : MCode :=
 (.seq
  (.drx
   [(MI.op (some 18) (.bsl 0 2 [(.str []),(.sl .full 0 [])] []) none,[]),
    (MI.op (some 19) (.mov (.tmp 6)) none,[]),
    (MI.op (some 20) (.mov (.tmp 7)) none,[]),
    (MI.op (some 21) (.slSl 2 (.tmp 19) none (some (.tmp 20)) none) none,[1,2]),
    (MI.op (some 22) (.app 2 40 (.tmp 18) (.tmp 21)) none,[0,3]),
    (MI.op (some 23) (.mov (.tmp 6)) none,[]),
    (MI.op (some 24) (.mov (.tmp 7)) none,[]),
    (MI.op (some 25) (.bin .add (.tmp 24) (.c (.int .i64 1))) none,[6]),
    (MI.op (some 26) (.slSl 2 (.tmp 23) (some (.tmp 25)) none none) none,[5,7]),
    (MI.op (some 27) (.app 2 40 (.tmp 22) (.tmp 26)) none,[4,8]),
    (MI.op (some 28) (.call 52 [(.tmp 27)]) none,[9]),
    (MI.op (some 17) (.mov (.tmp 28)) none,[10]),
    (MI.op (some 29) (.ext (.tmp 17) 0) none,[11]),
    (MI.op (some 30) (.ext (.tmp 17) 1) none,[11]),
    (MI.op (some 8) (.alloc (List.replicate 32 (.int .u8 0))) none,[]),
    (MI.op none (.store 32 (.tmp 8) (.tmp 29)) none,[14,12,10,0,1,2,3,4,5,6,7,8,9,11]),
    (MI.op (some 9) (.mov (.tmp 30)) none,[13,15,0,1,2,3,4,5,6,7,8,9,10,11,12,14])])
  m24_3)
def m24_5 : MCode :=
 (.seq
  (.seq
   (.reg
    [MI.op (some 15) (.mov (.tmp 7)) none,
     MI.op (some 16) (.bin .lss (.tmp 15) (.c (.int .i64 0))) none])
  m24_2)
  m24_4)
def m24_6 : MCode :=
 (.seq
  (.reg
   [MI.op (some 12) (.mov (.tmp 1)) none,
    MI.op (some 13) (.mov (.tmp 6)) none,
    MI.op (some 14) (.call 45 [(.tmp 12),(.tmp 13)]) none,
    MI.op (some 7) (.mov (.tmp 14)) none])
  m24_5)
def m24_7 : MCode :=
 (.seq
  (.reg
   [MI.op (some 10) (.load true 32 (.tmp 2)) none,
    MI.op (some 11) (.call 17 [(.tmp 10)]) none,
    MI.op (some 6) (.mov (.tmp 11)) none])
  m24_6)
def m24_r : List MRes:=[.tmp 4,.tmp 5]
def m24_b : MCode :=
 (.seq
  (.reg
   [MI.op (some 2) (.box (.tmp 0)) none,
    MI.op (some 4) (.mov (.c (.sl .full 0 []))) none,
    MI.op (some 5) (.mov (.c (.int .i64 0))) none])
  m24_7)
def m24 : MFunc:=⟨2,34,m24_r,m24_b⟩
theorem c24 : compF Tryd.prog 24 m24 = some m24:=by kernel_rfl

/- tollhouse/tollhousekeep.Fill -/
/- tollhouse/ops.tabled -/
def m49_1 : List MI :=
 [MI.op (some 8) (.mov (.tmp 10)) none,
  MI.op (some 11) (.ext (.tmp 8) 0) none,
  MI.op (some 12) (.ext (.tmp 8) 1) none,
  MI.op (some 6) (.alloc (List.replicate 32 (.int .u8 0))) none,
  MI.op none (.store 32 (.tmp 6) (.tmp 11)) none,
  MI.op (some 7) (.mov (.tmp 12)) none]
def m49_2 : MCode :=
 (.seq
  (.reg
   [MI.op (some 15) (.mov (.tmp 7)) none,
    MI.op (some 4) (.mov (.c (.sl .full 0 []))) none,
    MI.op (some 5) (.mov (.tmp 15)) none])
  .ret)
def m49_3 : MCode :=
 (.cond (.tmp 14)
  m49_2
  .skip)
def m49_4 : MCode :=
 (.seq
  (.reg
   [MI.op (some 16) (.mov (.tmp 1)) none,
    MI.op (some 17) (.load true 32 (.tmp 6)) none,
    MI.op (some 18) (.build [(.int .i64 0),(.int .u8 0),(.int .u8 0),(.int .u8 0),(.int .u8 0),(.int .u8 0),(.int .u8 0),(.int .u8 0),(.int .u8 0),(.int .u8 0),(.int .u8 0),(.int .u8 0),(.int .u8 0),(.int .u8 0),(.int .u8 0),(.int .u8 0),(.int .u8 0),(.int .u8 0),(.int .u8 0),(.int .u8 0),(.int .u8 0),(.int .u8 0),(.int .u8 0),(.int .u8 0),(.int .u8 0),(.int .u8 0),(.int .u8 0),(.int .u8 0),(.int .u8 0),(.int .u8 0),(.int .u8 0),(.int .u8 0),(.int .u8 0)] [(1,32,(.tmp 17))]) none,
    MI.op (some 19) (.bsl 1 33 [(.int .i64 0),(.int .u8 0),(.int .u8 0),(.int .u8 0),(.int .u8 0),(.int .u8 0),(.int .u8 0),(.int .u8 0),(.int .u8 0),(.int .u8 0),(.int .u8 0),(.int .u8 0),(.int .u8 0),(.int .u8 0),(.int .u8 0),(.int .u8 0),(.int .u8 0),(.int .u8 0),(.int .u8 0),(.int .u8 0),(.int .u8 0),(.int .u8 0),(.int .u8 0),(.int .u8 0),(.int .u8 0),(.int .u8 0),(.int .u8 0),(.int .u8 0),(.int .u8 0),(.int .u8 0),(.int .u8 0),(.int .u8 0),(.int .u8 0)] [(0,33,(.tmp 18))]) none,
    MI.op (some 20) (.app 33 40 (.tmp 16) (.tmp 19)) none,
    MI.op (some 4) (.mov (.tmp 20)) none,
    MI.op (some 5) (.mov (.c (.int .i64 0))) none])
  .ret)
def m49_5 : MCode :=
 (.seq
  (.seq
   (.reg
    [MI.op (some 13) (.mov (.tmp 7)) none,
     MI.op (some 14) (.bin .neq (.tmp 13) (.c (.int .i64 0))) none])
  m49_3)
  m49_4)
def m49_6 : MCode :=
 (.seq
  (.reg
   (MI.op (some 9) (.mov (.tmp 0)) none ::
    MI.op (some 10) (.call 26 [(.tmp 9)]) none ::
    m49_1))
  m49_5)
def m49_r : List MRes:=[.tmp 4,.tmp 5]
def m49_b : MCode :=
 (.seq
  (.reg
   [MI.op (some 4) (.mov (.c (.sl .full 0 []))) none,
    MI.op (some 5) (.mov (.c (.int .i64 0))) none])
  m49_6)
def m49 : MFunc:=⟨2,21,m49_r,m49_b⟩
theorem c49 : compF Tryd.prog 49 m49 = some m49:=by kernel_rfl

end Go.Proofs.YtilbipknodpmmaaDoor
