/- The loaded functions as texts of the ideal machine (written by a program of ours), and that they are the loaded ones. -/
import Derived.Test.YtilbipknodpmmaaDoorE31
import Derived.Test.YtilbipknodpmmaaDoorProg
set_option linter.unusedVariables false
set_option linter.unusedSimpArgs false
set_option linter.unusedSectionVars false
namespace Go.Proofs.YtilbipknodpmmaaDoor
open Go.RowKit

/- tollhouse/tollhouselaw21.QueuePuts -/
def m8_1 : MCode :=
 (.seq
  (.reg
   [MI.op (some 13) (.call 29 []) none,
    MI.op (some 4) (.mov (.tmp 13)) none])
  .ret)
def m8_2 : MCode :=
 (.cond (.tmp 12)
  m8_1
  .skip)
def m8_3 : List MI :=
 [MI.op (some 14) (.mov (.tmp 17)) none,
  MI.op (some 18) (.ext (.tmp 14) 0) none,
  MI.op (some 19) (.ext (.tmp 14) 1) none,
  MI.op (some 5) (.mov (.tmp 18)) none,
  MI.op (some 6) (.mov (.tmp 19)) none]
def m8_4 : List MI :=
 [MI.op (some 37) (.pick (.tmp 35) (.tmp 36) (.c (.bool false))) none,
  MI.op (some 4) (.mov (.tmp 37)) none]
def m8_5 : List MI :=
 (MI.op (some 30) (.mov (.tmp 29)) none ::
  MI.op (some 31) (.mov (.tmp 6)) (some (30,true)) ::
  MI.op (some 32) (.mov (.tmp 8)) (some (30,true)) ::
  MI.op (some 33) (.bin .eql (.tmp 31) (.tmp 32)) (some (30,true)) ::
  MI.op (some 34) (.pick (.tmp 30) (.tmp 33) (.c (.bool false))) none ::
  MI.op (some 35) (.mov (.tmp 34)) none ::
  MI.op (some 36) (.call 29 []) (some (35,true)) ::
  m8_4)
def m8_6 : MCode :=
 (.seq
  (.reg
   (MI.op (some 27) (.mov (.tmp 5)) none ::
    MI.op (some 28) (.mov (.tmp 7)) none ::
    MI.op (some 29) (.call 20 [(.tmp 27),(.tmp 28)]) none ::
    m8_5))
  .ret)
def m8_7 : MCode :=
 (.seq
  (.drw
   [MI.op (some 21) (.load true 36 (.tmp 2)) none,
    MI.op (some 22) (.call 31 [(.tmp 21)]) none,
    MI.op (some 23) (.load true 32 (.tmp 3)) none,
    MI.op (some 24) (.call 42 [(.tmp 22),(.tmp 23)]) none,
    MI.op (some 20) (.mov (.tmp 24)) none,
    MI.op (some 25) (.ext (.tmp 20) 0) none,
    MI.op (some 26) (.ext (.tmp 20) 1) none,
    MI.op (some 7) (.mov (.tmp 25)) none]
   [MI.op (some 8) (.mov (.tmp 26)) none])
  m8_6)
def m8_8 : MCode :=
 (.seq
  (.reg
   (MI.op (some 15) (.load true 36 (.tmp 2)) none ::
    MI.op (some 16) (.load true 32 (.tmp 3)) none ::
    MI.op (some 17) (.call 41 [(.tmp 15),(.tmp 16)]) none ::
    m8_3))
  m8_7)
def m8_9 : MCode :=
 (.seq
  (.seq
   (.reg
    [MI.op (some 9) (.load true 36 (.tmp 2)) none,
     MI.op (some 10) (.bsl 1 36 [(.int .i64 0),(.int .i64 0),(.str []),(.int .i64 0),(.int .u8 0),(.int .u8 0),(.int .u8 0),(.int .u8 0),(.int .u8 0),(.int .u8 0),(.int .u8 0),(.int .u8 0),(.int .u8 0),(.int .u8 0),(.int .u8 0),(.int .u8 0),(.int .u8 0),(.int .u8 0),(.int .u8 0),(.int .u8 0),(.int .u8 0),(.int .u8 0),(.int .u8 0),(.int .u8 0),(.int .u8 0),(.int .u8 0),(.int .u8 0),(.int .u8 0),(.int .u8 0),(.int .u8 0),(.int .u8 0),(.int .u8 0),(.int .u8 0),(.int .u8 0),(.int .u8 0),(.int .u8 0)] [(0,36,(.tmp 9))]) none,
     MI.op (some 11) (.call 30 [(.tmp 10)]) none,
     MI.op (some 12) (.un .not (.tmp 11)) none])
  m8_2)
  m8_8)
def m8_r : List MRes:=[.tmp 4]
def m8_b : MCode :=
 (.seq
  (.reg
   [MI.op (some 2) (.box (.tmp 0)) none,
    MI.op (some 3) (.box (.tmp 1)) none,
    MI.op (some 4) (.mov (.c (.bool false))) none])
  m8_9)
def m8 : MFunc:=⟨2,38,m8_r,m8_b⟩
theorem c8 : compF Tryd.prog 8 m8 = some m8:=by kernel_rfl

end Go.Proofs.YtilbipknodpmmaaDoor
