/- The loaded functions as texts of the ideal machine (written by a program of ours), and that they are the loaded ones. -/
import Derived.Test.YtilbipknodpmmaaDoorE31
import Derived.Test.YtilbipknodpmmaaDoorProg
set_option linter.unusedVariables false
set_option linter.unusedSimpArgs false
set_option linter.unusedSectionVars false
namespace Go.Proofs.YtilbipknodpmmaaDoor
open Go.RowKit

/- tollhouse/tollhouselaw21.wakes -/
def m29_1 : List MI :=
 [MI.op (some 30) (.bin .neq (.tmp 29) (.c (.int .i64 2))) (some (27,false)),
  MI.op (some 31) (.pick (.tmp 27) (.c (.bool true)) (.tmp 30)) none]
def m29_2 : List MI :=
 (MI.op (some 25) (.bin .neq (.tmp 24) (.c (.int .i64 19))) (some (18,false)) ::
  MI.op (some 26) (.pick (.tmp 18) (.c (.bool true)) (.tmp 25)) none ::
  MI.op (some 27) (.mov (.tmp 26)) none ::
  MI.op (some 28) (.mov (.tmp 1)) (some (27,false)) ::
  MI.op (some 29) (.calln 40 [(.tmp 28)]) (some (27,false)) ::
  m29_1)
def m29_3 : List MI :=
 (MI.op (some 17) (.bin .neq (.tmp 16) (.c (.int .i64 0))) none ::
  MI.op (some 18) (.mov (.tmp 17)) none ::
  MI.op (some 19) (.mov (.tmp 1)) (some (18,false)) ::
  MI.op (some 20) (.load true 36 (.tmp 2)) (some (18,false)) ::
  MI.op (some 21) (.load true 36 (.tmp 2)) (some (18,false)) ::
  MI.op (some 22) (.load true 36 (.tmp 2)) (some (18,false)) ::
  MI.op (some 23) (.bsl 3 36 [(.int .i64 0),(.int .i64 0),(.str []),(.int .i64 0),(.int .u8 0),(.int .u8 0),(.int .u8 0),(.int .u8 0),(.int .u8 0),(.int .u8 0),(.int .u8 0),(.int .u8 0),(.int .u8 0),(.int .u8 0),(.int .u8 0),(.int .u8 0),(.int .u8 0),(.int .u8 0),(.int .u8 0),(.int .u8 0),(.int .u8 0),(.int .u8 0),(.int .u8 0),(.int .u8 0),(.int .u8 0),(.int .u8 0),(.int .u8 0),(.int .u8 0),(.int .u8 0),(.int .u8 0),(.int .u8 0),(.int .u8 0),(.int .u8 0),(.int .u8 0),(.int .u8 0),(.int .u8 0)] [(0,36,(.tmp 20)),(36,36,(.tmp 21)),(72,36,(.tmp 22))]) (some (18,false)) ::
  MI.op (some 24) (.calln 32 [(.tmp 19),(.tmp 23)]) (some (18,false)) ::
  m29_2)
def m29_4 : MCode :=
 (.cond (.tmp 31)
  (.seq
   (.reg
    [MI.op (some 0) (.mov (.c (.bool false))) none])
   .ret)
  .skip)
def m29_5 : List MI :=
 [MI.op (some 32) (.mov (.tmp 34)) none,
  MI.op (some 35) (.ext (.tmp 32) 0) none,
  MI.op (some 36) (.ext (.tmp 32) 1) none,
  MI.op (some 3) (.alloc [(.int .i64 0),(.int .i64 0),(.str []),(.int .i64 0),(.int .u8 0),(.int .u8 0),(.int .u8 0),(.int .u8 0),(.int .u8 0),(.int .u8 0),(.int .u8 0),(.int .u8 0),(.int .u8 0),(.int .u8 0),(.int .u8 0),(.int .u8 0),(.int .u8 0),(.int .u8 0),(.int .u8 0),(.int .u8 0),(.int .u8 0),(.int .u8 0),(.int .u8 0),(.int .u8 0),(.int .u8 0),(.int .u8 0),(.int .u8 0),(.int .u8 0),(.int .u8 0),(.int .u8 0),(.int .u8 0),(.int .u8 0),(.int .u8 0),(.int .u8 0),(.int .u8 0),(.int .u8 0)]) none,
  MI.op none (.store 36 (.tmp 3) (.tmp 35)) none,
  MI.op (some 4) (.mov (.tmp 36)) none]
def m29_6 : List MI :=
 [MI.op (some 37) (.mov (.tmp 40)) none,
  MI.op (some 41) (.ext (.tmp 37) 0) none,
  MI.op (some 42) (.ext (.tmp 37) 1) none,
  MI.op (some 5) (.mov (.tmp 41)) none,
  MI.op (some 6) (.mov (.tmp 42)) none]
def m29_7 : List MI :=
 [MI.op (some 43) (.mov (.tmp 46)) none,
  MI.op (some 47) (.ext (.tmp 43) 0) none,
  MI.op (some 48) (.ext (.tmp 43) 1) none,
  MI.op (some 7) (.mov (.tmp 47)) none,
  MI.op (some 8) (.mov (.tmp 48)) none]
def m29_8 : List MI :=
 [MI.op (some 81) (.un .not (.tmp 80)) (some (78,true)),
  MI.op (some 82) (.pick (.tmp 78) (.tmp 81) (.c (.bool false))) none,
  MI.op (some 0) (.mov (.tmp 82)) none]
def m29_9 : List MI :=
 (MI.op (some 77) (.pick (.tmp 72) (.tmp 76) (.c (.bool false))) none ::
  MI.op (some 78) (.mov (.tmp 77)) none ::
  MI.op (some 79) (.mov (.tmp 1)) (some (78,true)) ::
  MI.op (some 80) (.calln 34 [(.tmp 79)]) (some (78,true)) ::
  m29_8)
def m29_10 : List MI :=
 (MI.op (some 75) (.bsl 1 1 [(.int .i64 0)] [(0,1,(.c (.int .i64 5)))]) (some (72,true)) ::
  MI.op (some 76) (.call 36 [(.tmp 74),(.tmp 75)]) (some (72,true)) ::
  m29_9)
def m29_11 : List MI :=
 (MI.op (some 71) (.pick (.tmp 68) (.tmp 70) (.c (.bool false))) none ::
  MI.op (some 72) (.mov (.tmp 71)) none ::
  MI.op (some 73) (.mov (.tmp 1)) (some (72,true)) ::
  MI.op (some 74) (.calln 37 [(.tmp 73)]) (some (72,true)) ::
  m29_10)
def m29_12 : MCode :=
 (.seq
  (.reg
   (MI.op (some 49) (.mov (.tmp 4)) none ::
    MI.op (some 50) (.mov (.tmp 49)) none ::
    MI.op (some 51) (.load true 36 (.tmp 3)) (some (50,true)) ::
    MI.op (some 52) (.load true 36 (.tmp 2)) (some (50,true)) ::
    MI.op (some 53) (.eqv false [(2,.i),(1,.s),(33,.i)] (.tmp 51) (.tmp 52)) (some (50,true)) ::
    MI.op (some 54) (.pick (.tmp 50) (.tmp 53) (.c (.bool false))) none ::
    MI.op (some 55) (.mov (.tmp 54)) none ::
    MI.op (some 56) (.mov (.tmp 6)) (some (55,true)) ::
    MI.op (some 57) (.bin .eql (.tmp 56) (.c (.int .i64 0))) (some (55,true)) ::
    MI.op (some 58) (.pick (.tmp 55) (.tmp 57) (.c (.bool false))) none ::
    MI.op (some 59) (.mov (.tmp 58)) none ::
    MI.op (some 60) (.mov (.tmp 5)) (some (59,true)) ::
    MI.op (some 61) (.len (.tmp 60)) (some (59,true)) ::
    MI.op (some 62) (.bin .eql (.tmp 61) (.c (.int .i64 2))) (some (59,true)) ::
    MI.op (some 63) (.pick (.tmp 59) (.tmp 62) (.c (.bool false))) none ::
    MI.op (some 64) (.mov (.tmp 63)) none ::
    MI.op (some 65) (.mov (.tmp 8)) (some (64,true)) ::
    MI.op (some 66) (.bin .eql (.tmp 65) (.c (.int .i64 1))) (some (64,true)) ::
    MI.op (some 67) (.pick (.tmp 64) (.tmp 66) (.c (.bool false))) none ::
    MI.op (some 68) (.mov (.tmp 67)) none ::
    MI.op (some 69) (.mov (.tmp 1)) (some (68,true)) ::
    MI.op (some 70) (.calln 34 [(.tmp 69)]) (some (68,true)) ::
    m29_11))
  .ret)
def m29_13 : MCode :=
 (.seq
  (.reg
   (MI.op (some 44) (.build [(.int .i64 0),(.int .i64 0),(.str []),(.int .i64 0),(.int .u8 0),(.int .u8 0),(.int .u8 0),(.int .u8 0),(.int .u8 0),(.int .u8 0),(.int .u8 0),(.int .u8 0),(.int .u8 0),(.int .u8 0),(.int .u8 0),(.int .u8 0),(.int .u8 0),(.int .u8 0),(.int .u8 0),(.int .u8 0),(.int .u8 0),(.int .u8 0),(.int .u8 0),(.int .u8 0),(.int .u8 0),(.int .u8 0),(.int .u8 0),(.int .u8 0),(.int .u8 0),(.int .u8 0),(.int .u8 0),(.int .u8 0),(.int .u8 0),(.int .u8 0),(.int .u8 0),(.int .u8 0)] [(1,1,(.c (.int .i64 4)))]) none ::
    MI.op (some 45) (.build (List.replicate 32 (.int .u8 0)) []) none ::
    MI.op (some 46) (.call 41 [(.tmp 44),(.tmp 45)]) none ::
    m29_7))
  m29_12)
def m29_14 : MCode :=
 (.seq
  (.reg
   (MI.op (some 38) (.load true 36 (.tmp 2)) none ::
    MI.op (some 39) (.build (List.replicate 32 (.int .u8 0)) []) none ::
    MI.op (some 40) (.call 41 [(.tmp 38),(.tmp 39)]) none ::
    m29_6))
  m29_13)
def m29_15 : MCode :=
 (.seq
  (.reg
   (MI.op (some 33) (.mov (.tmp 1)) none ::
    MI.op (some 34) (.calln 39 [(.tmp 33)]) none ::
    m29_5))
  m29_14)
def m29_16 : MCode :=
 (.seq
  (.seq
   (.reg
    (MI.op (some 12) (.mov (.tmp 1)) none ::
     MI.op (some 13) (.load true 36 (.tmp 2)) none ::
     MI.op (some 14) (.load true 36 (.tmp 2)) none ::
     MI.op (some 15) (.bsl 2 36 [(.int .i64 0),(.int .i64 0),(.str []),(.int .i64 0),(.int .u8 0),(.int .u8 0),(.int .u8 0),(.int .u8 0),(.int .u8 0),(.int .u8 0),(.int .u8 0),(.int .u8 0),(.int .u8 0),(.int .u8 0),(.int .u8 0),(.int .u8 0),(.int .u8 0),(.int .u8 0),(.int .u8 0),(.int .u8 0),(.int .u8 0),(.int .u8 0),(.int .u8 0),(.int .u8 0),(.int .u8 0),(.int .u8 0),(.int .u8 0),(.int .u8 0),(.int .u8 0),(.int .u8 0),(.int .u8 0),(.int .u8 0),(.int .u8 0),(.int .u8 0),(.int .u8 0),(.int .u8 0)] [(0,36,(.tmp 13)),(36,36,(.tmp 14))]) none ::
     MI.op (some 16) (.calln 32 [(.tmp 12),(.tmp 15)]) none ::
     m29_3))
  m29_4)
  m29_15)
def m29_17 : MCode :=
 (.seq
  (.reg
   [MI.op (some 11) (.build [(.int .i64 0),(.int .i64 0),(.str []),(.int .i64 0),(.int .u8 0),(.int .u8 0),(.int .u8 0),(.int .u8 0),(.int .u8 0),(.int .u8 0),(.int .u8 0),(.int .u8 0),(.int .u8 0),(.int .u8 0),(.int .u8 0),(.int .u8 0),(.int .u8 0),(.int .u8 0),(.int .u8 0),(.int .u8 0),(.int .u8 0),(.int .u8 0),(.int .u8 0),(.int .u8 0),(.int .u8 0),(.int .u8 0),(.int .u8 0),(.int .u8 0),(.int .u8 0),(.int .u8 0),(.int .u8 0),(.int .u8 0),(.int .u8 0),(.int .u8 0),(.int .u8 0),(.int .u8 0)] [(0,1,(.c (.int .i64 5))),(1,1,(.c (.int .i64 2))),(2,1,(.c (.str [97,98]))),(3,1,(.c (.int .i64 1)))]) none,
    MI.op (some 2) (.alloc [(.int .i64 0),(.int .i64 0),(.str []),(.int .i64 0),(.int .u8 0),(.int .u8 0),(.int .u8 0),(.int .u8 0),(.int .u8 0),(.int .u8 0),(.int .u8 0),(.int .u8 0),(.int .u8 0),(.int .u8 0),(.int .u8 0),(.int .u8 0),(.int .u8 0),(.int .u8 0),(.int .u8 0),(.int .u8 0),(.int .u8 0),(.int .u8 0),(.int .u8 0),(.int .u8 0),(.int .u8 0),(.int .u8 0),(.int .u8 0),(.int .u8 0),(.int .u8 0),(.int .u8 0),(.int .u8 0),(.int .u8 0),(.int .u8 0),(.int .u8 0),(.int .u8 0),(.int .u8 0)]) none,
    MI.op none (.store 36 (.tmp 2) (.tmp 11)) none])
  m29_16)
def m29_18 : MCode :=
 (.seq
  (.reg
   [MI.op (some 9) (.build [(.sl .full 0 [])] []) none,
    MI.op (some 10) (.box (.tmp 9)) none,
    MI.op (some 1) (.mov (.tmp 10)) none])
  m29_17)
def m29_r : List MRes:=[.tmp 0]
def m29_b : MCode :=
 (.seq
  (.reg
   [MI.op (some 0) (.mov (.c (.bool false))) none])
  m29_18)
def m29 : MFunc:=⟨0,83,m29_r,m29_b⟩
theorem c29 : compF Tryd.prog 29 m29 = some m29:=by kernel_rfl

/- tollhouse/tollhouselaw21.fair -/
def m30_1 : MCode :=
 (.cond (.tmp 16)
  (.seq
   (.reg
    [MI.op (some 2) (.mov (.c (.bool false))) none])
   .ret)
  .skip)
def m30_2 : MCode :=
 (.seq
  (.blk 1
   (.seq
    (.reg
     [MI.op (some 10) (.mov (.tmp 0)) none,
      MI.op (some 11) (.mov (.tmp 3)) none,
      MI.op (some 12) (.ixSl 36 (.tmp 10) (.tmp 11)) none,
      MI.op (some 13) (.fa 2 (.tmp 12)) none,
      MI.op (some 14) (.load false 1 (.tmp 13)) none,
      MI.op (some 15) (.lenS (.tmp 14)) none,
      MI.op (some 16) (.bin .gtr (.tmp 15) (.c (.int .i64 100))) none])
  m30_1))
  (.reg
   [MI.op (some 8) (.mov (.tmp 3)) none,
    MI.op (some 9) (.bin .add (.tmp 8) (.c (.int .i64 1))) none,
    MI.op (some 3) (.mov (.tmp 9)) none]))
def m30_3 : MCode :=
 (.seq
  (.seq
   (.reg
    [MI.op (some 4) (.mov (.tmp 3)) none,
     MI.op (some 5) (.mov (.tmp 0)) none,
     MI.op (some 6) (.len (.tmp 5)) none,
     MI.op (some 7) (.bin .lss (.tmp 4) (.tmp 6)) none])
   (.cond (.tmp 7)
    .skip
    (.exit 0)))
  m30_2)
def m30_4 : MCode :=
 (.blk 0
  (.loop
  m30_3))
def m30_5 : MCode :=
 (.seq
  (.reg
   [MI.op (some 17) (.mov (.tmp 0)) none,
    MI.op (some 18) (.len (.tmp 17)) none,
    MI.op (some 19) (.bin .leq (.tmp 18) (.c (.int .i64 20))) none,
    MI.op (some 2) (.mov (.tmp 19)) none])
  .ret)
def m30_6 : MCode :=
 (.seq
  (.seq
   (.reg
    [MI.op (some 3) (.mov (.c (.int .i64 0))) none])
  m30_4)
  m30_5)
def m30_r : List MRes:=[.tmp 2]
def m30_b : MCode :=
 (.seq
  (.reg
   [MI.op (some 2) (.mov (.c (.bool false))) none])
  m30_6)
def m30 : MFunc:=⟨1,20,m30_r,m30_b⟩
theorem c30 : compF Tryd.prog 30 m30 = some m30:=by kernel_rfl

/- tollhouse/tollhouselaw21.own -/
def m31_1 : MCode :=
 (.seq
  (.reg
   [MI.op (some 3) (.fa 0 (.tmp 1)) none,
    MI.op (some 4) (.load false 1 (.tmp 3)) none,
    MI.op (some 5) (.fa 1 (.tmp 1)) none,
    MI.op (some 6) (.load false 1 (.tmp 5)) none,
    MI.op (some 7) (.fa 2 (.tmp 1)) none,
    MI.op (some 8) (.load false 1 (.tmp 7)) none,
    MI.op (some 9) (.fa 3 (.tmp 1)) none,
    MI.op (some 10) (.load false 1 (.tmp 9)) none,
    MI.op (some 11) (.fa 4 (.tmp 1)) none,
    MI.op (some 12) (.load true 32 (.tmp 11)) none,
    MI.op (some 13) (.build [(.int .i64 0),(.int .i64 0),(.str []),(.int .i64 0),(.int .u8 0),(.int .u8 0),(.int .u8 0),(.int .u8 0),(.int .u8 0),(.int .u8 0),(.int .u8 0),(.int .u8 0),(.int .u8 0),(.int .u8 0),(.int .u8 0),(.int .u8 0),(.int .u8 0),(.int .u8 0),(.int .u8 0),(.int .u8 0),(.int .u8 0),(.int .u8 0),(.int .u8 0),(.int .u8 0),(.int .u8 0),(.int .u8 0),(.int .u8 0),(.int .u8 0),(.int .u8 0),(.int .u8 0),(.int .u8 0),(.int .u8 0),(.int .u8 0),(.int .u8 0),(.int .u8 0),(.int .u8 0)] [(0,1,(.tmp 4)),(1,1,(.tmp 6)),(2,1,(.tmp 8)),(3,1,(.tmp 10)),(4,32,(.tmp 12))]) none,
    MI.op none (.store 36 (.tmp 2) (.tmp 13)) none])
  .ret)
def m31_r : List MRes:=[.cell 2 true 36]
def m31_b : MCode :=
 (.seq
  (.reg
   [MI.op (some 1) (.box (.tmp 0)) none,
    MI.op (some 2) (.alloc [(.int .i64 0),(.int .i64 0),(.str []),(.int .i64 0),(.int .u8 0),(.int .u8 0),(.int .u8 0),(.int .u8 0),(.int .u8 0),(.int .u8 0),(.int .u8 0),(.int .u8 0),(.int .u8 0),(.int .u8 0),(.int .u8 0),(.int .u8 0),(.int .u8 0),(.int .u8 0),(.int .u8 0),(.int .u8 0),(.int .u8 0),(.int .u8 0),(.int .u8 0),(.int .u8 0),(.int .u8 0),(.int .u8 0),(.int .u8 0),(.int .u8 0),(.int .u8 0),(.int .u8 0),(.int .u8 0),(.int .u8 0),(.int .u8 0),(.int .u8 0),(.int .u8 0),(.int .u8 0)]) none])
  m31_1)
def m31 : MFunc:=⟨1,14,m31_r,m31_b⟩
theorem c31 : compF Tryd.prog 31 m31 = some m31:=by kernel_rfl

/- (*tollhouse/queue.Queue).Add -/
def m32_1 : MCode :=
 (.cond (.tmp 8)
  (.seq
   (.reg
    [MI.op (some 4) (.mov (.c (.int .i64 19))) none])
   .ret)
  .skip)
def m32_2 : MCode :=
 (.seq
  (.reg
   [MI.op (some 9) (.mov (.tmp 1)) none,
    MI.op (some 10) (.len (.tmp 9)) none,
    MI.op (some 11) (.mov (.tmp 0)) none,
    MI.op (some 12) (.chk (.tmp 11)) none,
    MI.op (some 13) (.fa 0 (.tmp 12)) none,
    MI.op (some 14) (.load false 1 (.tmp 13)) none,
    MI.op (some 15) (.len (.tmp 14)) none,
    MI.op (some 16) (.bin .sub (.c (.int .i64 4)) (.tmp 15)) none,
    MI.op (some 17) (.bin .gtr (.tmp 10) (.tmp 16)) none,
    MI.op (some 8) (.mov (.tmp 17)) none])
  m32_1)
def m32_3 : MCode :=
 (.cond (.tmp 5)
  (.seq
   (.reg
    [MI.op (some 4) (.mov (.c (.int .i64 1))) none])
   .ret)
  m32_2)
def m32_4 : MCode :=
 (.seq
  (.reg
   [MI.op (some 18) (.mov (.tmp 0)) none,
    MI.op (some 19) (.mov (.tmp 0)) none,
    MI.op (some 20) (.chk (.tmp 19)) none,
    MI.op (some 21) (.fa 0 (.tmp 20)) none,
    MI.op (some 22) (.load false 1 (.tmp 21)) none,
    MI.op (some 23) (.mov (.tmp 1)) none,
    MI.op (some 24) (.app 36 72 (.tmp 22) (.tmp 23)) none,
    MI.op (some 25) (.chk (.tmp 18)) none,
    MI.op (some 26) (.fa 0 (.tmp 25)) none,
    MI.op none (.store 1 (.tmp 26) (.tmp 24)) none])
  (.seq
   (.reg
    [MI.op (some 4) (.mov (.c (.int .i64 0))) none])
   .ret))
def m32_5 : MCode :=
 (.seq
  (.blk 0
   (.seq
    (.reg
     [MI.op (some 6) (.mov (.tmp 0)) none,
      MI.op (some 7) (.nilP false (.tmp 6)) none,
      MI.op (some 5) (.mov (.tmp 7)) none])
  m32_3))
  m32_4)
def m32_r : List MRes:=[.tmp 4]
def m32_b : MCode :=
 (.seq
  (.reg
   [MI.op (some 4) (.mov (.c (.int .i64 0))) none])
  m32_5)
def m32 : MFunc:=⟨2,27,m32_r,m32_b⟩
theorem c32 : compF Tryd.prog 32 m32 = some m32:=by kernel_rfl

/- (*tollhouse/tollhouseref21.Queue).Add -/
/- (*tollhouse/queue.Queue).Pop -/
def m34_1 : MCode :=
 (.cond (.tmp 5)
  (.seq
   (.reg
    [MI.op (some 2) (.mov (.c (.bool false))) none])
   .ret)
  .skip)
def m34_2 : MCode :=
 (.seq
  (.reg
   [MI.op (some 6) (.mov (.tmp 0)) none,
    MI.op (some 7) (.mov (.tmp 0)) none,
    MI.op (some 8) (.chk (.tmp 7)) none,
    MI.op (some 9) (.fa 0 (.tmp 8)) none,
    MI.op (some 10) (.load false 1 (.tmp 9)) none,
    MI.op (some 11) (.slSl 36 (.tmp 10) (some (.c (.int .i64 1))) none none) none,
    MI.op (some 12) (.chk (.tmp 6)) none,
    MI.op (some 13) (.fa 0 (.tmp 12)) none,
    MI.op none (.store 1 (.tmp 13) (.tmp 11)) none])
  (.seq
   (.reg
    [MI.op (some 2) (.mov (.c (.bool true))) none])
   .ret))
def m34_3 : MCode :=
 (.seq
  (.seq
   (.reg
    [MI.op (some 3) (.mov (.tmp 0)) none,
     MI.op (some 4) (.calln 40 [(.tmp 3)]) none,
     MI.op (some 5) (.bin .eql (.tmp 4) (.c (.int .i64 0))) none])
  m34_1)
  m34_2)
def m34_r : List MRes:=[.tmp 2]
def m34_b : MCode :=
 (.seq
  (.reg
   [MI.op (some 2) (.mov (.c (.bool false))) none])
  m34_3)
def m34 : MFunc:=⟨1,14,m34_r,m34_b⟩
theorem c34 : compF Tryd.prog 34 m34 = some m34:=by kernel_rfl

/- (*tollhouse/tollhouseref21.Queue).Pop -/
/- (*tollhouse/queue.Queue).Clear -/
def m37_1 : List MI :=
 [MI.op (some 6) (.mov (.tmp 8)) none,
  MI.op (some 9) (.ext (.tmp 6) 0) none,
  MI.op (some 10) (.ext (.tmp 6) 1) none,
  MI.op (some 4) (.alloc [(.int .i64 0),(.int .i64 0),(.str []),(.int .i64 0),(.int .u8 0),(.int .u8 0),(.int .u8 0),(.int .u8 0),(.int .u8 0),(.int .u8 0),(.int .u8 0),(.int .u8 0),(.int .u8 0),(.int .u8 0),(.int .u8 0),(.int .u8 0),(.int .u8 0),(.int .u8 0),(.int .u8 0),(.int .u8 0),(.int .u8 0),(.int .u8 0),(.int .u8 0),(.int .u8 0),(.int .u8 0),(.int .u8 0),(.int .u8 0),(.int .u8 0),(.int .u8 0),(.int .u8 0),(.int .u8 0),(.int .u8 0),(.int .u8 0),(.int .u8 0),(.int .u8 0),(.int .u8 0)]) none,
  MI.op none (.store 36 (.tmp 4) (.tmp 9)) none,
  MI.op (some 5) (.mov (.tmp 10)) none]
def m37_2 : List MI :=
 [MI.op (some 12) (.mov (.tmp 14)) none,
  MI.op (some 15) (.ext (.tmp 12) 0) none,
  MI.op (some 16) (.ext (.tmp 12) 1) none,
  MI.op none (.store 36 (.tmp 4) (.tmp 15)) none,
  MI.op (some 5) (.mov (.tmp 16)) none]
def m37_3 : MCode :=
 (.reg
  (MI.op (some 13) (.mov (.tmp 0)) none ::
   MI.op (some 14) (.calln 39 [(.tmp 13)]) none ::
   m37_2))
def m37_4 : MCode :=
 (.seq
  (.seq
   (.reg
    [MI.op (some 24) (.load true 36 (.tmp 4)) none])
   (.reg
    [MI.op (some 4) (.alloc [(.int .i64 0),(.int .i64 0),(.str []),(.int .i64 0),(.int .u8 0),(.int .u8 0),(.int .u8 0),(.int .u8 0),(.int .u8 0),(.int .u8 0),(.int .u8 0),(.int .u8 0),(.int .u8 0),(.int .u8 0),(.int .u8 0),(.int .u8 0),(.int .u8 0),(.int .u8 0),(.int .u8 0),(.int .u8 0),(.int .u8 0),(.int .u8 0),(.int .u8 0),(.int .u8 0),(.int .u8 0),(.int .u8 0),(.int .u8 0),(.int .u8 0),(.int .u8 0),(.int .u8 0),(.int .u8 0),(.int .u8 0),(.int .u8 0),(.int .u8 0),(.int .u8 0),(.int .u8 0)]) none,
     MI.op none (.store 36 (.tmp 4) (.tmp 24)) none]))
  m37_3)
def m37_5 : MCode :=
 (.seq
  (.blk 1
   (.seq
    (.reg
     [MI.op (some 17) (.mov (.tmp 3)) none,
      MI.op (some 18) (.fa 0 (.tmp 4)) none,
      MI.op (some 19) (.load false 1 (.tmp 18)) none,
      MI.op (some 20) (.bsl 1 1 [(.int .i64 0)] [(0,1,(.tmp 19))]) none,
      MI.op (some 21) (.app 1 8 (.tmp 17) (.tmp 20)) none,
      MI.op (some 3) (.mov (.tmp 21)) none])
    (.reg
     [MI.op (some 22) (.mov (.tmp 0)) none,
      MI.op (some 23) (.calln 34 [(.tmp 22)]) none])))
  m37_4)
def m37_6 : MCode :=
 (.seq
  (.seq
   (.reg
    [MI.op (some 11) (.mov (.tmp 5)) none])
   (.cond (.tmp 11)
    .skip
    (.exit 0)))
  m37_5)
def m37_7 : MCode :=
 (.blk 0
  (.loop
  m37_6))
def m37_8 : MCode :=
 (.seq
  (.reg
   [MI.op (some 25) (.mov (.tmp 3)) none,
    MI.op (some 2) (.mov (.tmp 25)) none])
  .ret)
def m37_9 : MCode :=
 (.seq
  (.seq
   (.reg
    (MI.op (some 7) (.mov (.tmp 0)) none ::
     MI.op (some 8) (.calln 39 [(.tmp 7)]) none ::
     m37_1))
  m37_7)
  m37_8)
def m37_10 : MCode :=
 (.seq
  (.reg
   [MI.op (some 3) (.mov (.c (.sl .full 0 []))) none])
  m37_9)
def m37_r : List MRes:=[.tmp 2]
def m37_b : MCode :=
 (.seq
  (.reg
   [MI.op (some 2) (.mov (.c (.sl .full 0 []))) none])
  m37_10)
def m37 : MFunc:=⟨1,26,m37_r,m37_b⟩
theorem c37 : compF Tryd.prog 37 m37 = some m37:=by kernel_rfl

/- (*tollhouse/tollhouseref21.Queue).Clear -/
/- (*tollhouse/queue.Queue).Head -/
def m39_1 : MCode :=
 (.seq
  (.reg
   [MI.op (some 7) (.build [(.int .i64 0),(.int .i64 0),(.str []),(.int .i64 0),(.int .u8 0),(.int .u8 0),(.int .u8 0),(.int .u8 0),(.int .u8 0),(.int .u8 0),(.int .u8 0),(.int .u8 0),(.int .u8 0),(.int .u8 0),(.int .u8 0),(.int .u8 0),(.int .u8 0),(.int .u8 0),(.int .u8 0),(.int .u8 0),(.int .u8 0),(.int .u8 0),(.int .u8 0),(.int .u8 0),(.int .u8 0),(.int .u8 0),(.int .u8 0),(.int .u8 0),(.int .u8 0),(.int .u8 0),(.int .u8 0),(.int .u8 0),(.int .u8 0),(.int .u8 0),(.int .u8 0),(.int .u8 0)] []) none,
    MI.op none (.store 36 (.tmp 2) (.tmp 7)) none,
    MI.op (some 3) (.mov (.c (.bool false))) none])
  .ret)
def m39_2 : MCode :=
 (.cond (.tmp 6)
  m39_1
  .skip)
def m39_3 : MCode :=
 (.seq
  (.reg
   [MI.op (some 8) (.mov (.tmp 0)) none,
    MI.op (some 9) (.chk (.tmp 8)) none,
    MI.op (some 10) (.fa 0 (.tmp 9)) none,
    MI.op (some 11) (.load false 1 (.tmp 10)) none,
    MI.op (some 12) (.ixSl 36 (.tmp 11) (.c (.int .i64 0))) none,
    MI.op (some 13) (.load true 36 (.tmp 12)) none,
    MI.op none (.store 36 (.tmp 2) (.tmp 13)) none,
    MI.op (some 3) (.mov (.c (.bool true))) none])
  .ret)
def m39_4 : MCode :=
 (.seq
  (.seq
   (.reg
    [MI.op (some 4) (.mov (.tmp 0)) none,
     MI.op (some 5) (.calln 40 [(.tmp 4)]) none,
     MI.op (some 6) (.bin .eql (.tmp 5) (.c (.int .i64 0))) none])
  m39_2)
  m39_3)
def m39_r : List MRes:=[.cell 2 true 36,.tmp 3]
def m39_b : MCode :=
 (.seq
  (.reg
   [MI.op (some 2) (.alloc [(.int .i64 0),(.int .i64 0),(.str []),(.int .i64 0),(.int .u8 0),(.int .u8 0),(.int .u8 0),(.int .u8 0),(.int .u8 0),(.int .u8 0),(.int .u8 0),(.int .u8 0),(.int .u8 0),(.int .u8 0),(.int .u8 0),(.int .u8 0),(.int .u8 0),(.int .u8 0),(.int .u8 0),(.int .u8 0),(.int .u8 0),(.int .u8 0),(.int .u8 0),(.int .u8 0),(.int .u8 0),(.int .u8 0),(.int .u8 0),(.int .u8 0),(.int .u8 0),(.int .u8 0),(.int .u8 0),(.int .u8 0),(.int .u8 0),(.int .u8 0),(.int .u8 0),(.int .u8 0)]) none,
    MI.op (some 3) (.mov (.c (.bool false))) none])
  m39_4)
def m39 : MFunc:=⟨1,14,m39_r,m39_b⟩
theorem c39 : compF Tryd.prog 39 m39 = some m39:=by kernel_rfl

/- (*tollhouse/queue.Queue).Len -/
def m40_1 : MCode :=
 (.cond (.tmp 4)
  (.seq
   (.reg
    [MI.op (some 2) (.mov (.c (.int .i64 0))) none])
   .ret)
  .skip)
def m40_2 : MCode :=
 (.seq
  (.reg
   [MI.op (some 5) (.mov (.tmp 0)) none,
    MI.op (some 6) (.chk (.tmp 5)) none,
    MI.op (some 7) (.fa 0 (.tmp 6)) none,
    MI.op (some 8) (.load false 1 (.tmp 7)) none,
    MI.op (some 9) (.len (.tmp 8)) none,
    MI.op (some 2) (.mov (.tmp 9)) none])
  .ret)
def m40_3 : MCode :=
 (.seq
  (.seq
   (.reg
    [MI.op (some 3) (.mov (.tmp 0)) none,
     MI.op (some 4) (.nilP false (.tmp 3)) none])
  m40_1)
  m40_2)
def m40_r : List MRes:=[.tmp 2]
def m40_b : MCode :=
 (.seq
  (.reg
   [MI.op (some 2) (.mov (.c (.int .i64 0))) none])
  m40_3)
def m40 : MFunc:=⟨1,10,m40_r,m40_b⟩
theorem c40 : compF Tryd.prog 40 m40 = some m40:=by kernel_rfl

/- tollhouse/queue.Puts -/
def m41_1 : List MI :=
 [MI.op (some 18) (.ext (.tmp 17) 0) none,
  MI.op (some 19) (.ext (.tmp 17) 1) none,
  MI.op (some 4) (.mov (.tmp 18)) none,
  MI.op (some 5) (.mov (.tmp 19)) none]
def m41_2 : MCode :=
 (.seq
  (.reg
   (MI.op (some 10) (.load true 32 (.tmp 3)) none ::
    MI.op (some 11) (.fa 2 (.tmp 2)) none ::
    MI.op (some 12) (.load false 1 (.tmp 11)) none ::
    MI.op (some 13) (.fa 3 (.tmp 2)) none ::
    MI.op (some 14) (.load false 1 (.tmp 13)) none ::
    MI.op (some 15) (.fa 4 (.tmp 2)) none ::
    MI.op (some 16) (.load true 32 (.tmp 15)) none ::
    MI.op (some 17) (.call 18 [(.tmp 10),(.tmp 12),(.tmp 14),(.tmp 16)]) none ::
    m41_1))
  .ret)
def m41_3 : List MI :=
 [MI.op (some 28) (.ext (.tmp 27) 0) none,
  MI.op (some 29) (.ext (.tmp 27) 1) none,
  MI.op (some 4) (.mov (.tmp 28)) none,
  MI.op (some 5) (.mov (.tmp 29)) none]
def m41_4 : MCode :=
 (.seq
  (.reg
   (MI.op (some 22) (.load true 32 (.tmp 3)) none ::
    MI.op (some 23) (.fa 2 (.tmp 2)) none ::
    MI.op (some 24) (.load false 1 (.tmp 23)) none ::
    MI.op (some 25) (.fa 3 (.tmp 2)) none ::
    MI.op (some 26) (.load false 1 (.tmp 25)) none ::
    MI.op (some 27) (.call 21 [(.tmp 22),(.tmp 24),(.tmp 26)]) none ::
    m41_3))
  .ret)
def m41_5 : List MI :=
 [MI.op (some 36) (.ext (.tmp 35) 0) none,
  MI.op (some 37) (.ext (.tmp 35) 1) none,
  MI.op (some 4) (.mov (.tmp 36)) none,
  MI.op (some 5) (.mov (.tmp 37)) none]
def m41_6 : MCode :=
 (.seq
  (.reg
   (MI.op (some 32) (.load true 32 (.tmp 3)) none ::
    MI.op (some 33) (.fa 2 (.tmp 2)) none ::
    MI.op (some 34) (.load false 1 (.tmp 33)) none ::
    MI.op (some 35) (.call 23 [(.tmp 32),(.tmp 34)]) none ::
    m41_5))
  .ret)
def m41_7 : MCode :=
 (.cond (.tmp 30)
  m41_6
  .skip)
def m41_8 : MCode :=
 (.seq
  (.reg
   [MI.op (some 31) (.bin .eql (.tmp 7) (.c (.int .i64 3))) none,
    MI.op (some 30) (.mov (.tmp 31)) none])
  m41_7)
def m41_9 : MCode :=
 (.cond (.tmp 20)
  m41_4
  m41_8)
def m41_10 : MCode :=
 (.seq
  (.reg
   [MI.op (some 21) (.bin .eql (.tmp 7) (.c (.int .i64 2))) none,
    MI.op (some 20) (.mov (.tmp 21)) none])
  m41_9)
def m41_11 : MCode :=
 (.cond (.tmp 8)
  m41_2
  m41_10)
def m41_12 : MCode :=
 (.blk 0
  (.seq
   (.reg
    [MI.op (some 9) (.bin .eql (.tmp 7) (.c (.int .i64 1))) none,
     MI.op (some 8) (.mov (.tmp 9)) none])
  m41_11))
def m41_13 : MCode :=
 (.seq
  (.reg
   [MI.op (some 4) (.mov (.c (.sl .full 0 []))) none,
    MI.op (some 5) (.mov (.c (.int .i64 1))) none])
  .ret)
def m41_14 : MCode :=
 (.seq
  (.seq
   (.reg
    [MI.op (some 6) (.fa 1 (.tmp 2)) none,
     MI.op (some 7) (.load false 1 (.tmp 6)) none])
  m41_12)
  m41_13)
def m41_r : List MRes:=[.tmp 4,.tmp 5]
def m41_b : MCode :=
 (.seq
  (.reg
   [MI.op (some 2) (.box (.tmp 0)) none,
    MI.op (some 3) (.box (.tmp 1)) none,
    MI.op (some 4) (.mov (.c (.sl .full 0 []))) none,
    MI.op (some 5) (.mov (.c (.int .i64 0))) none])
  m41_14)
def m41 : MFunc:=⟨2,38,m41_r,m41_b⟩
theorem c41 : compF Tryd.prog 41 m41 = some m41:=by kernel_rfl

/- tollhouse/tollhouseref21.Puts -/
def m42_1 : List MI :=
 [MI.op (some 18) (.ext (.tmp 17) 0) none,
  MI.op (some 19) (.ext (.tmp 17) 1) none,
  MI.op (some 4) (.mov (.tmp 18)) none,
  MI.op (some 5) (.mov (.tmp 19)) none]
def m42_2 : MCode :=
 (.seq
  (.reg
   (MI.op (some 10) (.load true 32 (.tmp 3)) none ::
    MI.op (some 11) (.fa 2 (.tmp 2)) none ::
    MI.op (some 12) (.load false 1 (.tmp 11)) none ::
    MI.op (some 13) (.fa 3 (.tmp 2)) none ::
    MI.op (some 14) (.load false 1 (.tmp 13)) none ::
    MI.op (some 15) (.fa 4 (.tmp 2)) none ::
    MI.op (some 16) (.load true 32 (.tmp 15)) none ::
    MI.op (some 17) (.call 19 [(.tmp 10),(.tmp 12),(.tmp 14),(.tmp 16)]) none ::
    m42_1))
  .ret)
def m42_3 : List MI :=
 [MI.op (some 28) (.ext (.tmp 27) 0) none,
  MI.op (some 29) (.ext (.tmp 27) 1) none,
  MI.op (some 4) (.mov (.tmp 28)) none,
  MI.op (some 5) (.mov (.tmp 29)) none]
def m42_4 : MCode :=
 (.seq
  (.reg
   (MI.op (some 22) (.load true 32 (.tmp 3)) none ::
    MI.op (some 23) (.fa 2 (.tmp 2)) none ::
    MI.op (some 24) (.load false 1 (.tmp 23)) none ::
    MI.op (some 25) (.fa 3 (.tmp 2)) none ::
    MI.op (some 26) (.load false 1 (.tmp 25)) none ::
    MI.op (some 27) (.call 22 [(.tmp 22),(.tmp 24),(.tmp 26)]) none ::
    m42_3))
  .ret)
def m42_5 : List MI :=
 [MI.op (some 36) (.ext (.tmp 35) 0) none,
  MI.op (some 37) (.ext (.tmp 35) 1) none,
  MI.op (some 4) (.mov (.tmp 36)) none,
  MI.op (some 5) (.mov (.tmp 37)) none]
def m42_6 : MCode :=
 (.seq
  (.reg
   (MI.op (some 32) (.load true 32 (.tmp 3)) none ::
    MI.op (some 33) (.fa 2 (.tmp 2)) none ::
    MI.op (some 34) (.load false 1 (.tmp 33)) none ::
    MI.op (some 35) (.call 24 [(.tmp 32),(.tmp 34)]) none ::
    m42_5))
  .ret)
def m42_7 : MCode :=
 (.cond (.tmp 30)
  m42_6
  .skip)
def m42_8 : MCode :=
 (.seq
  (.reg
   [MI.op (some 31) (.bin .eql (.tmp 7) (.c (.int .i64 3))) none,
    MI.op (some 30) (.mov (.tmp 31)) none])
  m42_7)
def m42_9 : MCode :=
 (.cond (.tmp 20)
  m42_4
  m42_8)
def m42_10 : MCode :=
 (.seq
  (.reg
   [MI.op (some 21) (.bin .eql (.tmp 7) (.c (.int .i64 2))) none,
    MI.op (some 20) (.mov (.tmp 21)) none])
  m42_9)
def m42_11 : MCode :=
 (.cond (.tmp 8)
  m42_2
  m42_10)
def m42_12 : MCode :=
 (.blk 0
  (.seq
   (.reg
    [MI.op (some 9) (.bin .eql (.tmp 7) (.c (.int .i64 1))) none,
     MI.op (some 8) (.mov (.tmp 9)) none])
  m42_11))
def m42_13 : MCode :=
 (.seq
  (.reg
   [MI.op (some 4) (.mov (.c (.sl .full 0 []))) none,
    MI.op (some 5) (.mov (.c (.int .i64 1))) none])
  .ret)
def m42_14 : MCode :=
 (.seq
  (.seq
   (.reg
    [MI.op (some 6) (.fa 1 (.tmp 2)) none,
     MI.op (some 7) (.load false 1 (.tmp 6)) none])
  m42_12)
  m42_13)
def m42_r : List MRes:=[.tmp 4,.tmp 5]
def m42_b : MCode :=
 (.seq
  (.reg
   [MI.op (some 2) (.box (.tmp 0)) none,
    MI.op (some 3) (.box (.tmp 1)) none,
    MI.op (some 4) (.mov (.c (.sl .full 0 []))) none,
    MI.op (some 5) (.mov (.c (.int .i64 0))) none])
  m42_14)
def m42 : MFunc:=⟨2,38,m42_r,m42_b⟩
theorem c42 : compF Tryd.prog 42 m42 = some m42:=by kernel_rfl

end Go.Proofs.YtilbipknodpmmaaDoor
