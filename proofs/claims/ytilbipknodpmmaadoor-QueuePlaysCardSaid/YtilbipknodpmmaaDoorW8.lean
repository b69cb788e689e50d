/- The loaded functions as texts of the ideal machine (written by a program of ours), and that they are the loaded ones. -/
import Derived.Test.YtilbipknodpmmaaDoorE31
import Derived.Test.YtilbipknodpmmaaDoorProg
import Derived.Test.YtilbipknodpmmaaDoorW7
import Derived.Test.YtilbipknodpmmaaDoorM21
set_option linter.unusedVariables false
set_option linter.unusedSimpArgs false
set_option linter.unusedSectionVars false
namespace Go.Proofs.YtilbipknodpmmaaDoor
open Go.RowKit

/- tollhouse/tollhouselaw21.QueuePlays -/
def m7_1 : MCode :=
 (.seq
  (.reg
   [MI.op (some 14) (.call 29 []) none,
    MI.op (some 2) (.mov (.tmp 14)) none])
  .ret)
def m7_2 : MCode :=
 (.cond (.tmp 13)
  m7_1
  .skip)
def m7_3 : MCode :=
 (.seq
  (.reg
   [MI.op (some 33) (.call 29 []) none,
    MI.op (some 2) (.mov (.tmp 33)) none])
  .ret)
def m7_4 : MCode :=
 (.cond (.tmp 32)
  m7_3
  .skip)
def m7_5 : List MI :=
 [MI.op (some 52) (.bsl 1 36 [(.int .i64 0), (.int .i64 0), (.str []), (.int .i64 0), (.int .u8 0), (.int .u8 0), (.int .u8 0), (.int .u8 0), (.int .u8 0), (.int .u8 0), (.int .u8 0), (.int .u8 0), (.int .u8 0), (.int .u8 0), (.int .u8 0), (.int .u8 0), (.int .u8 0), (.int .u8 0), (.int .u8 0), (.int .u8 0), (.int .u8 0), (.int .u8 0), (.int .u8 0), (.int .u8 0), (.int .u8 0), (.int .u8 0), (.int .u8 0), (.int .u8 0), (.int .u8 0), (.int .u8 0), (.int .u8 0), (.int .u8 0), (.int .u8 0), (.int .u8 0), (.int .u8 0), (.int .u8 0)] [(0, 36, (.tmp 51))]) none,
  MI.op (some 53) (.app 36 72 (.tmp 45) (.tmp 52)) none,
  MI.op (some 7) (.mov (.tmp 53)) none]
def m7_6 : MCode :=
 (.seq
  (.blk 4
   (.reg
    (MI.op (some 45) (.mov (.tmp 7)) none ::
     MI.op (some 46) (.fa 1 (.tmp 6)) none ::
     MI.op (some 47) (.load false 1 (.tmp 46)) none ::
     MI.op (some 48) (.mov (.tmp 8)) none ::
     MI.op (some 49) (.ixSl 36 (.tmp 47) (.tmp 48)) none ::
     MI.op (some 50) (.load true 36 (.tmp 49)) none ::
     MI.op (some 51) (.call 31 [(.tmp 50)]) none ::
     m7_5)))
  (.reg
   [MI.op (some 43) (.mov (.tmp 8)) none,
    MI.op (some 44) (.bin .add (.tmp 43) (.c (.int .i64 1))) none,
    MI.op (some 8) (.mov (.tmp 44)) none]))
def m7_7 : MCode :=
 (.seq
  (.seq
   (.reg
    [MI.op (some 38) (.mov (.tmp 8)) none,
     MI.op (some 39) (.fa 1 (.tmp 6)) none,
     MI.op (some 40) (.load false 1 (.tmp 39)) none,
     MI.op (some 41) (.len (.tmp 40)) none,
     MI.op (some 42) (.bin .lss (.tmp 38) (.tmp 41)) none])
   (.cond (.tmp 42)
    .skip
    (.exit 3)))
  m7_6)
def m7_8 : MCode :=
 (.blk 3
  (.loop
  m7_7))
def m7_9 : List MI :=
 [MI.op (some 60) (.mov (.tmp 4)) none,
  MI.op (some 61) (.mov (.tmp 7)) none,
  MI.op (some 62) (.calln 33 [(.tmp 60), (.tmp 61)]) none,
  MI.op (some 63) (.bin .neq (.tmp 59) (.tmp 62)) none]
def m7_10 : MCode :=
 (.cond (.tmp 63)
  (.seq
   (.reg
    [MI.op (some 2) (.mov (.c (.bool false))) none])
   .ret)
  .skip)
def m7_11 : MCode :=
 (.seq
  (.reg
   (MI.op (some 54) (.mov (.tmp 3)) none ::
    MI.op (some 55) (.bsl 0 36 [(.int .i64 0), (.int .i64 0), (.str []), (.int .i64 0), (.int .u8 0), (.int .u8 0), (.int .u8 0), (.int .u8 0), (.int .u8 0), (.int .u8 0), (.int .u8 0), (.int .u8 0), (.int .u8 0), (.int .u8 0), (.int .u8 0), (.int .u8 0), (.int .u8 0), (.int .u8 0), (.int .u8 0), (.int .u8 0), (.int .u8 0), (.int .u8 0), (.int .u8 0), (.int .u8 0), (.int .u8 0), (.int .u8 0), (.int .u8 0), (.int .u8 0), (.int .u8 0), (.int .u8 0), (.int .u8 0), (.int .u8 0), (.int .u8 0), (.int .u8 0), (.int .u8 0), (.int .u8 0)] []) none ::
    MI.op (some 56) (.fa 1 (.tmp 6)) none ::
    MI.op (some 57) (.load false 1 (.tmp 56)) none ::
    MI.op (some 58) (.app 36 72 (.tmp 55) (.tmp 57)) none ::
    MI.op (some 59) (.calln 32 [(.tmp 54), (.tmp 58)]) none ::
    m7_9))
  m7_10)
def m7_12 : MCode :=
 (.seq
  (.seq
   (.reg
    [MI.op (some 8) (.mov (.c (.int .i64 0))) none])
  m7_8)
  m7_11)
def m7_13 : MCode :=
 (.seq
  (.reg
   [MI.op (some 7) (.mov (.c (.sl .full 0 []))) none])
  m7_12)
def m7_14 : List MI :=
 [MI.op (some 68) (.mov (.tmp 4)) none,
  MI.op (some 69) (.calln 35 [(.tmp 68)]) none,
  MI.op (some 70) (.binB .neq (.tmp 67) (.tmp 69)) none]
def m7_15 : MCode :=
 (.cond (.tmp 70)
  (.seq
   (.reg
    [MI.op (some 2) (.mov (.c (.bool false))) none])
   .ret)
  .skip)
def m7_16 : MCode :=
 (.seq
  (.reg
   (MI.op (some 66) (.mov (.tmp 3)) none ::
    MI.op (some 67) (.calln 34 [(.tmp 66)]) none ::
    m7_14))
  m7_15)
def m7_17 : List MI :=
 [MI.op (some 77) (.call 36 [(.tmp 74), (.tmp 76)]) none,
  MI.op (some 78) (.un .not (.tmp 77)) none]
def m7_18 : List MI :=
 (MI.op (some 75) (.mov (.tmp 4)) none ::
  MI.op (some 76) (.calln 38 [(.tmp 75)]) none ::
  m7_17)
def m7_19 : MCode :=
 (.cond (.tmp 78)
  (.seq
   (.reg
    [MI.op (some 2) (.mov (.c (.bool false))) none])
   .ret)
  .skip)
def m7_20 : MCode :=
 (.seq
  (.reg
   (MI.op (some 73) (.mov (.tmp 3)) none ::
    MI.op (some 74) (.calln 37 [(.tmp 73)]) none ::
    m7_18))
  m7_19)
def m7_21 : MCode :=
 (.cond (.tmp 71)
  m7_20
  .skip)
def m7_22 : MCode :=
 (.seq
  (.reg
   [MI.op (some 72) (.bin .eql (.tmp 35) (.c (.int .i64 2))) none,
    MI.op (some 71) (.mov (.tmp 72)) none])
  m7_21)
def m7_23 : MCode :=
 (.cond (.tmp 64)
  m7_16
  m7_22)
def m7_24 : MCode :=
 (.seq
  (.reg
   [MI.op (some 65) (.bin .eql (.tmp 35) (.c (.int .i64 1))) none,
    MI.op (some 64) (.mov (.tmp 65)) none])
  m7_23)
def m7_25 : MCode :=
 (.cond (.tmp 36)
  m7_13
  m7_24)
def m7_26 : MCode :=
 (.blk 2
  (.seq
   (.reg
    [MI.op (some 37) (.bin .eql (.tmp 35) (.c (.int .i64 0))) none,
     MI.op (some 36) (.mov (.tmp 37)) none])
  m7_25))
def m7_27 : List MI :=
 [MI.op (some 79) (.mov (.tmp 81)) none,
  MI.op (some 82) (.ext (.tmp 79) 0) none,
  MI.op (some 83) (.ext (.tmp 79) 1) none,
  MI.op (some 9) (.alloc [(.int .i64 0), (.int .i64 0), (.str []), (.int .i64 0), (.int .u8 0), (.int .u8 0), (.int .u8 0), (.int .u8 0), (.int .u8 0), (.int .u8 0), (.int .u8 0), (.int .u8 0), (.int .u8 0), (.int .u8 0), (.int .u8 0), (.int .u8 0), (.int .u8 0), (.int .u8 0), (.int .u8 0), (.int .u8 0), (.int .u8 0), (.int .u8 0), (.int .u8 0), (.int .u8 0), (.int .u8 0), (.int .u8 0), (.int .u8 0), (.int .u8 0), (.int .u8 0), (.int .u8 0), (.int .u8 0), (.int .u8 0), (.int .u8 0), (.int .u8 0), (.int .u8 0), (.int .u8 0)]) none,
  MI.op none (.store 36 (.tmp 9) (.tmp 82)) none,
  MI.op (some 10) (.mov (.tmp 83)) none]
def m7_28 : MCode :=
 (.cond (.tmp 124)
  (.seq
   (.reg
    [MI.op (some 2) (.mov (.c (.bool false))) none])
   .ret)
  .skip)
def m7_29 : MCode :=
 (.seq
  (.drx
   [(MI.op (some 84) (.mov (.tmp 10)) none, []),
    (MI.op (some 85) (.mov (.tmp 4)) none, []),
    (MI.op (some 86) (.chk (.tmp 85)) none, [1]),
    (MI.op (some 87) (.fa 0 (.tmp 86)) none, [2]),
    (MI.op (some 88) (.load false 1 (.tmp 87)) none, [3]),
    (MI.op (some 89) (.len (.tmp 88)) none, [4]),
    (MI.op (some 90) (.bin .gtr (.tmp 89) (.c (.int .i64 0))) none, [5]),
    (MI.op (some 91) (.binB .neq (.tmp 84) (.tmp 90)) none, [0, 6]),
    (MI.op (some 92) (.mov (.tmp 91)) none, [7]),
    (MI.op (some 93) (.mov (.tmp 10)) (some (92, false)), [8]),
    (MI.op (some 94) (.mov (.tmp 93)) (some (92, false)), [9, 8]),
    (MI.op (some 95) (.load true 36 (.tmp 9)) (some (94, true)), [10]),
    (MI.op (some 96) (.call 31 [(.tmp 95)]) (some (94, true)), [11, 10]),
    (MI.op (some 97) (.mov (.tmp 4)) (some (94, true)), [10]),
    (MI.op (some 98) (.chk (.tmp 97)) (some (94, true)), [13, 10]),
    (MI.op (some 99) (.fa 0 (.tmp 98)) (some (94, true)), [14, 10]),
    (MI.op (some 100) (.load false 1 (.tmp 99)) (some (94, true)), [15, 10]),
    (MI.op (some 101) (.ixSl 36 (.tmp 100) (.c (.int .i64 0))) (some (94, true)), [16, 10]),
    (MI.op (some 102) (.load true 36 (.tmp 101)) (some (94, true)), [17, 10]),
    (MI.op (some 103) (.eqv true [(2, .i), (1, .s), (33, .i)] (.tmp 96) (.tmp 102)) (some (94, true)), [12, 18, 10]),
    (MI.op (some 104) (.pick (.tmp 94) (.tmp 103) (.c (.bool false))) (some (92, false)), [10, 19, 8]),
    (MI.op (some 105) (.pick (.tmp 92) (.c (.bool true)) (.tmp 104)) none, [8, 20]),
    (MI.op (some 106) (.mov (.tmp 105)) none, [21, 12]),
    (MI.op (some 107) (.mov (.tmp 10)) (some (106, false)), [22]),
    (MI.op (some 108) (.un .not (.tmp 107)) (some (106, false)), [23, 22]),
    (MI.op (some 109) (.mov (.tmp 108)) (some (106, false)), [24, 22]),
    (MI.op (some 110) (.load true 36 (.tmp 9)) (some (109, true)), [25]),
    (MI.op (some 111) (.build [(.int .i64 0), (.int .i64 0), (.str []), (.int .i64 0), (.int .u8 0), (.int .u8 0), (.int .u8 0), (.int .u8 0), (.int .u8 0), (.int .u8 0), (.int .u8 0), (.int .u8 0), (.int .u8 0), (.int .u8 0), (.int .u8 0), (.int .u8 0), (.int .u8 0), (.int .u8 0), (.int .u8 0), (.int .u8 0), (.int .u8 0), (.int .u8 0), (.int .u8 0), (.int .u8 0), (.int .u8 0), (.int .u8 0), (.int .u8 0), (.int .u8 0), (.int .u8 0), (.int .u8 0), (.int .u8 0), (.int .u8 0), (.int .u8 0), (.int .u8 0), (.int .u8 0), (.int .u8 0)] []) (some (109, true)), [25]),
    (MI.op (some 112) (.eqv true [(2, .i), (1, .s), (33, .i)] (.tmp 110) (.tmp 111)) (some (109, true)), [26, 27, 25]),
    (MI.op (some 113) (.pick (.tmp 109) (.tmp 112) (.c (.bool false))) (some (106, false)), [25, 28, 22]),
    (MI.op (some 114) (.pick (.tmp 106) (.c (.bool true)) (.tmp 113)) none, [22, 29]),
    (MI.op (some 115) (.mov (.tmp 114)) none, [30, 25]),
    (MI.op (some 116) (.mov (.tmp 3)) (some (115, false)), [31]),
    (MI.op (some 117) (.calln 40 [(.tmp 116)]) (some (115, false)), [32, 31]),
    (MI.op (some 118) (.mov (.tmp 4)) (some (115, false)), [31]),
    (MI.op (some 119) (.chk (.tmp 118)) (some (115, false)), [34, 31]),
    (MI.op (some 120) (.fa 0 (.tmp 119)) (some (115, false)), [35, 31]),
    (MI.op (some 121) (.load false 1 (.tmp 120)) (some (115, false)), [36, 31]),
    (MI.op (some 122) (.len (.tmp 121)) (some (115, false)), [37, 31]),
    (MI.op (some 123) (.bin .neq (.tmp 117) (.tmp 122)) (some (115, false)), [33, 38, 31]),
    (MI.op (some 124) (.pick (.tmp 115) (.c (.bool true)) (.tmp 123)) none, [31, 39])])
  m7_28)
def m7_30 : MCode :=
 (.seq
  (.reg
   (MI.op (some 80) (.mov (.tmp 3)) none ::
    MI.op (some 81) (.calln 39 [(.tmp 80)]) none ::
    m7_27))
  m7_29)
def m7_31 : MCode :=
 (.seq
  (.seq
   (.reg
    [MI.op (some 34) (.fa 0 (.tmp 6)) none,
     MI.op (some 35) (.load false 1 (.tmp 34)) none])
  m7_26)
  m7_30)
def m7_32 : MCode :=
 (.seq
  (.seq
   (.reg
    [MI.op (some 29) (.fa 1 (.tmp 6)) none,
     MI.op (some 30) (.load false 1 (.tmp 29)) none,
     MI.op (some 31) (.call 30 [(.tmp 30)]) none,
     MI.op (some 32) (.un .not (.tmp 31)) none])
  m7_4)
  m7_31)
def m7_33 : MCode :=
 (.seq
  (.blk 1
   (.seq
    (.reg
     [MI.op (some 25) (.mov (.tmp 0)) none,
      MI.op (some 26) (.mov (.tmp 5)) none,
      MI.op (some 27) (.ixSl 2 (.tmp 25) (.tmp 26)) none,
      MI.op (some 28) (.load true 2 (.tmp 27)) none,
      MI.op (some 6) (.alloc [(.int .i64 0), (.sl .full 0 [])]) none,
      MI.op none (.store 2 (.tmp 6) (.tmp 28)) none])
  m7_32))
  (.reg
   [MI.op (some 23) (.mov (.tmp 5)) none,
    MI.op (some 24) (.bin .add (.tmp 23) (.c (.int .i64 1))) none,
    MI.op (some 5) (.mov (.tmp 24)) none]))
def m7_34 : MCode :=
 (.seq
  (.seq
   (.reg
    [MI.op (some 19) (.mov (.tmp 5)) none,
     MI.op (some 20) (.mov (.tmp 0)) none,
     MI.op (some 21) (.len (.tmp 20)) none,
     MI.op (some 22) (.bin .lss (.tmp 19) (.tmp 21)) none])
   (.cond (.tmp 22)
    .skip
    (.exit 0)))
  m7_33)
def m7_35 : MCode :=
 (.blk 0
  (.loop
  m7_34))
def m7_36 : MCode :=
 (.seq
  (.reg
   [MI.op (some 125) (.call 29 []) none,
    MI.op (some 2) (.mov (.tmp 125)) none])
  .ret)
def m7_37 : MCode :=
 (.seq
  (.seq
   (.reg
    [MI.op (some 5) (.mov (.c (.int .i64 0))) none])
  m7_35)
  m7_36)
def m7_38 : MCode :=
 (.seq
  (.reg
   [MI.op (some 15) (.build [(.sl .full 0 [])] []) none,
    MI.op (some 16) (.box (.tmp 15)) none,
    MI.op (some 17) (.build [(.sl .full 0 [])] []) none,
    MI.op (some 18) (.box (.tmp 17)) none,
    MI.op (some 3) (.mov (.tmp 16)) none,
    MI.op (some 4) (.mov (.tmp 18)) none])
  m7_37)
def m7_39 : MCode :=
 (.seq
  (.seq
   (.reg
    [MI.op (some 11) (.mov (.tmp 0)) none,
     MI.op (some 12) (.len (.tmp 11)) none,
     MI.op (some 13) (.bin .gtr (.tmp 12) (.c (.int .i64 100))) none])
  m7_2)
  m7_38)
def m7_r : List MRes := [.tmp 2]
def m7_b : MCode :=
 (.seq
  (.reg
   [MI.op (some 2) (.mov (.c (.bool false))) none])
  m7_39)
def m7 : MFunc := ⟨1, 126, m7_r, m7_b⟩
theorem c7 : compF Tryd.prog 7 m7 = some m7 := by kernel_rfl

end Go.Proofs.YtilbipknodpmmaaDoor
/- The law QueuePlays: the parts. -/
set_option linter.unusedVariables false
set_option linter.unusedSimpArgs false
set_option linter.unusedSectionVars false
set_option maxRecDepth 100000
set_option maxHeartbeats 8000000
namespace Go.Proofs.YtilbipknodpmmaaDoor
open Go.RowKit

theorem rclear_ok {h hv : Nat} {H : Nat → Blk} {xs : List It} (hh : h < 1000) (hx : ∀ x ∈ xs, x.Ok) (hn : xs.length ≤ 2 ^ 29) (ho : ObjQ h hv 5022 H xs) :
    IC Tryd.prog 38 H [.ptr h 0 hv] (fun r h' => (∃ v, r = [v] ∧ RowI 7024 h' v (idsL xs)) ∧ ObjQ h hv 5022 h' [] ∧ ∀ y, y ≠ h → (y < 7000 ∨ 8000 ≤ y) → h' y = H y) := by
  refine @IC.of_wp offC Tryd.prog 38 m38 m38 c38 H [.ptr h 0 hv] _ rfl ?_
  have hne : ∀ k, 1000 ≤ k → (h = k) = False := fun k hk => by simp; omega
  have hne' : ∀ k, 1000 ≤ k → (k = h) = False := fun k hk => by simp; omega
  have r1 : roomy 1 8 = true := by decide
  obtain ⟨v, hH, hheld⟩ := ho
  have hvU : v.isU = false := by rcases hheld with ⟨_, rfl⟩ | ⟨off, ver, cs, rfl, _⟩ <;> rfl
  simp -implicitDefEqProofs (maxSteps := 2000000) only [m38_1, m38_2, m38_3, m38_4, m38_5, m38_6, m38_7, m38_r, m38_b, m38, homC, wk, act, asV, ↓reduceIte, Nat.reduceEqDiff, reduceCtorEq, Nat.reduceAdd, Nat.reduceLeDiff, Nat.reduceSub, Nat.reduceMul, List.reduceReplicate, Int.reduceEq, Int.reduceLT, Int.reduceLE, Int.reduceAdd, Int.reduceSub, Int.reduceMul, Nat.reduceLT, Int.reduceToNat]
  refine Wp_loopO (fun m s => ∃ i, i ≤ xs.length ∧ m = xs.length - i ∧ s.t 0 = .ptr h 0 hv ∧ s.t 4 = .int .i64 (i : Nat) ∧ s.h h = ⟨hv, true, true, false, [v]⟩ ∧ HeldQ 5022 s.h v xs ∧ RowI 7024 s.h (s.t 3) (idsL (xs.take i)) ∧ ∀ y, (y < 7000 ∨ 8000 ≤ y) → s.h y = H y) xs.length ⟨0, by omega, rfl, rfl, rfl, hH, hheld, .inl ⟨rfl, rfl⟩, fun y y1 => rfl⟩ ?_
  rintro m s ⟨i, hi, rfl, k0, k4, kH, kheld, k3, kf⟩
  by_cases hil : i < xs.length
  · have hil' : (i : Int) < xs.length := by omega
    have hok := hx _ (List.getElem_mem hil)
    have et : idsL (xs.take (i + 1)) = idsL (xs.take i) ++ [xs[i].id] := by
      show (xs.take (i + 1)).map It.id = _
      rw [List.take_succ_eq_append_getElem hil, List.map_append]; rfl
    have eX := itL_drop hx hil
    obtain ⟨x, hxx⟩ : ∃ x, x = xs[i] := ⟨_, rfl⟩
    rw [← hxx] at hok et eX
    obtain ⟨L, hL⟩ : ∃ L, L = idsL (xs.take i) := ⟨_, rfl⟩
    have lL : L.length = i := by rw [hL]; simp [idsL]; omega
    rw [← hL] at k3 et
    have ll := il_length L
    rw [lL] at ll
    have r2 : roomy (i + 1) 8 = true := by simp [roomy]; omega
    have eL : il L ++ [.int .i64 x.id] = il (L ++ [x.id]) := by simp [il]
    have wi : IntKind.i64.wrap (((i : Nat) : Int) + 1) = ((i + 1 : Nat) : Int) := by rw [IntKind.wrap_i64]; omega
    rcases kheld with ⟨hn0, _⟩ | ⟨off, ver, cs, rfl, hx', hcs, hoff⟩
    · rw [hn0] at hil; simp at hil
    have t1 : List.take 1 (List.drop (off + i * 36) cs) = [.int .i64 x.id] := by
      rw [← List.drop_drop, hcs, eX]; rfl
    have b1 : off + i * 36 + 1 ≤ cs.length := by omega
    rcases k3 with ⟨hi0, k3⟩ | ⟨hi0, v3, k3, kh3⟩
    · have eL' : [IV.int .i64 x.id] = il (L ++ [x.id]) := by rw [hi0]; rfl
      have hl1 : (L ++ [x.id]).length = 1 := by rw [hi0]; rfl
      simp -implicitDefEqProofs (maxSteps := 2000000) only [homC, k0, k3, k4, kH, hx', hne, hne', hil', t1, b1, wi, r1, wk, act, asV, ↓reduceIte, Nat.reduceEqDiff, reduceCtorEq, Nat.reduceAdd, Nat.reduceLeDiff, Nat.reduceSub, Nat.reduceMul, List.reduceReplicate, Int.reduceEq, Int.reduceLT, Int.reduceLE, Int.reduceAdd, Int.reduceSub, Int.reduceMul, Nat.reduceLT, Int.reduceToNat]
      exact ⟨xs.length - (i + 1), by omega, i + 1, by omega, rfl, rfl, .inr ⟨off, ver, cs, rfl, by simp -implicitDefEqProofs (maxSteps := 2000000) only [hx', wk, act, asV, ↓reduceIte, Nat.reduceEqDiff, reduceCtorEq, Nat.reduceAdd, Nat.reduceLeDiff, Nat.reduceSub, Nat.reduceMul, List.reduceReplicate, Int.reduceEq, Int.reduceLT, Int.reduceLE, Int.reduceAdd, Int.reduceSub, Int.reduceMul, Nat.reduceLT, Int.reduceToNat], hcs, hoff⟩, .inr ⟨by rw [et]; simp, _, by rw [et, hl1], by simp -implicitDefEqProofs (maxSteps := 2000000) only [et, eL', wk, act, asV, ↓reduceIte, Nat.reduceEqDiff, reduceCtorEq, Nat.reduceAdd, Nat.reduceLeDiff, Nat.reduceSub, Nat.reduceMul, List.reduceReplicate, Int.reduceEq, Int.reduceLT, Int.reduceLE, Int.reduceAdd, Int.reduceSub, Int.reduceMul, Nat.reduceLT, Int.reduceToNat]⟩, fun y y1 => by
        have y3 : ∀ k, 7000 ≤ k → k < 8000 → (y = k) = False := fun k _ _ => by simp; omega
        simp -implicitDefEqProofs (maxSteps := 2000000) only [y3, kf y y1, wk, act, asV, ↓reduceIte, Nat.reduceEqDiff, reduceCtorEq, Nat.reduceAdd, Nat.reduceLeDiff, Nat.reduceSub, Nat.reduceMul, List.reduceReplicate, Int.reduceEq, Int.reduceLT, Int.reduceLE, Int.reduceAdd, Int.reduceSub, Int.reduceMul, Nat.reduceLT, Int.reduceToNat]⟩
    · simp -implicitDefEqProofs (maxSteps := 2000000) only [homC, k0, k3, kh3, k4, kH, hx', hne, hne', hil', t1, b1, wi, r2, lL, ll, wk, act, asV, ↓reduceIte, Nat.reduceEqDiff, reduceCtorEq, Nat.reduceAdd, Nat.reduceLeDiff, Nat.reduceSub, Nat.reduceMul, List.reduceReplicate, Int.reduceEq, Int.reduceLT, Int.reduceLE, Int.reduceAdd, Int.reduceSub, Int.reduceMul, Nat.reduceLT, Int.reduceToNat]
      exact ⟨xs.length - (i + 1), by omega, i + 1, by omega, rfl, rfl, .inr ⟨off, ver, cs, rfl, by simp -implicitDefEqProofs (maxSteps := 2000000) only [hx', wk, act, asV, ↓reduceIte, Nat.reduceEqDiff, reduceCtorEq, Nat.reduceAdd, Nat.reduceLeDiff, Nat.reduceSub, Nat.reduceMul, List.reduceReplicate, Int.reduceEq, Int.reduceLT, Int.reduceLE, Int.reduceAdd, Int.reduceSub, Int.reduceMul, Nat.reduceLT, Int.reduceToNat], hcs, hoff⟩, .inr ⟨by rw [et]; simp, _, by rw [et, List.length_append, lL]; rfl, by simp -implicitDefEqProofs (maxSteps := 2000000) only [et, eL, wk, act, asV, ↓reduceIte, Nat.reduceEqDiff, reduceCtorEq, Nat.reduceAdd, Nat.reduceLeDiff, Nat.reduceSub, Nat.reduceMul, List.reduceReplicate, Int.reduceEq, Int.reduceLT, Int.reduceLE, Int.reduceAdd, Int.reduceSub, Int.reduceMul, Nat.reduceLT, Int.reduceToNat]⟩, fun y y1 => by
        have y3 : ∀ k, 7000 ≤ k → k < 8000 → (y = k) = False := fun k _ _ => by simp; omega
        simp -implicitDefEqProofs (maxSteps := 2000000) only [y3, kf y y1, wk, act, asV, ↓reduceIte, Nat.reduceEqDiff, reduceCtorEq, Nat.reduceAdd, Nat.reduceLeDiff, Nat.reduceSub, Nat.reduceMul, List.reduceReplicate, Int.reduceEq, Int.reduceLT, Int.reduceLE, Int.reduceAdd, Int.reduceSub, Int.reduceMul, Nat.reduceLT, Int.reduceToNat]⟩
  · obtain rfl : i = xs.length := by omega
    rw [List.take_length] at k3
    have kU : (s.t 3).isU = false := by rcases k3 with ⟨_, e⟩ | ⟨_, v3, e, _⟩ <;> rw [e] <;> rfl
    have kN : (s.t 3).nlit = true := by rcases k3 with ⟨_, e⟩ | ⟨_, v3, e, _⟩ <;> rw [e] <;> rfl
    rcases kheld with ⟨hn0, rfl⟩ | ⟨off, ver, cs, rfl, hx', hcs, hoff⟩
    · have hl0 : xs.length = 0 := by rw [hn0]; rfl
      rw [hl0] at k4
      have k4' : s.t 4 = .int .i64 0 := k4
      simp -implicitDefEqProofs (maxSteps := 2000000) only [homC, k0, k4', kH, kU, hne, hne', wk, act, asV, ↓reduceIte, Nat.reduceEqDiff, reduceCtorEq, Nat.reduceAdd, Nat.reduceLeDiff, Nat.reduceSub, Nat.reduceMul, List.reduceReplicate, Int.reduceEq, Int.reduceLT, Int.reduceLE, Int.reduceAdd, Int.reduceSub, Int.reduceMul, Nat.reduceLT, Int.reduceToNat]
      exact PostI.mk (by simp -implicitDefEqProofs (maxSteps := 2000000) only [homC, St.raws, St.raw, kU, kN, wk, act, asV, ↓reduceIte, Nat.reduceEqDiff, reduceCtorEq, Nat.reduceAdd, Nat.reduceLeDiff, Nat.reduceSub, Nat.reduceMul, List.reduceReplicate, Int.reduceEq, Int.reduceLT, Int.reduceLE, Int.reduceAdd, Int.reduceSub, Int.reduceMul, Nat.reduceLT, Int.reduceToNat]; first | done | (with_reducible rfl)) ⟨⟨_, rfl, k3.fr (by simp -implicitDefEqProofs (maxSteps := 2000000) only [hne, hne', wk, act, asV, ↓reduceIte, Nat.reduceEqDiff, reduceCtorEq, Nat.reduceAdd, Nat.reduceLeDiff, Nat.reduceSub, Nat.reduceMul, List.reduceReplicate, Int.reduceEq, Int.reduceLT, Int.reduceLE, Int.reduceAdd, Int.reduceSub, Int.reduceMul, Nat.reduceLT, Int.reduceToNat])⟩, ⟨_, by simp -implicitDefEqProofs (maxSteps := 2000000) only [wk, act, asV, ↓reduceIte, Nat.reduceEqDiff, reduceCtorEq, Nat.reduceAdd, Nat.reduceLeDiff, Nat.reduceSub, Nat.reduceMul, List.reduceReplicate, Int.reduceEq, Int.reduceLT, Int.reduceLE, Int.reduceAdd, Int.reduceSub, Int.reduceMul, Nat.reduceLT, Int.reduceToNat]; first | done | rfl, .inl ⟨rfl, rfl⟩⟩, fun y y1 y2 => by simp -implicitDefEqProofs (maxSteps := 2000000) only [y1, kf y y2, wk, act, asV, ↓reduceIte, Nat.reduceEqDiff, reduceCtorEq, Nat.reduceAdd, Nat.reduceLeDiff, Nat.reduceSub, Nat.reduceMul, List.reduceReplicate, Int.reduceEq, Int.reduceLT, Int.reduceLE, Int.reduceAdd, Int.reduceSub, Int.reduceMul, Nat.reduceLT, Int.reduceToNat]⟩
    · have hil' : ¬ ((xs.length : Nat) : Int) < xs.length := by omega
      simp -implicitDefEqProofs (maxSteps := 2000000) only [homC, k0, k4, kH, hx', hil', kU, hne, hne', wk, act, asV, ↓reduceIte, Nat.reduceEqDiff, reduceCtorEq, Nat.reduceAdd, Nat.reduceLeDiff, Nat.reduceSub, Nat.reduceMul, List.reduceReplicate, Int.reduceEq, Int.reduceLT, Int.reduceLE, Int.reduceAdd, Int.reduceSub, Int.reduceMul, Nat.reduceLT, Int.reduceToNat]
      exact PostI.mk (by simp -implicitDefEqProofs (maxSteps := 2000000) only [homC, St.raws, St.raw, kU, kN, wk, act, asV, ↓reduceIte, Nat.reduceEqDiff, reduceCtorEq, Nat.reduceAdd, Nat.reduceLeDiff, Nat.reduceSub, Nat.reduceMul, List.reduceReplicate, Int.reduceEq, Int.reduceLT, Int.reduceLE, Int.reduceAdd, Int.reduceSub, Int.reduceMul, Nat.reduceLT, Int.reduceToNat]; first | done | (with_reducible rfl)) ⟨⟨_, rfl, k3.fr (by simp -implicitDefEqProofs (maxSteps := 2000000) only [hne, hne', wk, act, asV, ↓reduceIte, Nat.reduceEqDiff, reduceCtorEq, Nat.reduceAdd, Nat.reduceLeDiff, Nat.reduceSub, Nat.reduceMul, List.reduceReplicate, Int.reduceEq, Int.reduceLT, Int.reduceLE, Int.reduceAdd, Int.reduceSub, Int.reduceMul, Nat.reduceLT, Int.reduceToNat])⟩, ⟨_, by simp -implicitDefEqProofs (maxSteps := 2000000) only [wk, act, asV, ↓reduceIte, Nat.reduceEqDiff, reduceCtorEq, Nat.reduceAdd, Nat.reduceLeDiff, Nat.reduceSub, Nat.reduceMul, List.reduceReplicate, Int.reduceEq, Int.reduceLT, Int.reduceLE, Int.reduceAdd, Int.reduceSub, Int.reduceMul, Nat.reduceLT, Int.reduceToNat]; first | done | rfl, .inl ⟨rfl, rfl⟩⟩, fun y y1 y2 => by simp -implicitDefEqProofs (maxSteps := 2000000) only [y1, kf y y2, wk, act, asV, ↓reduceIte, Nat.reduceEqDiff, reduceCtorEq, Nat.reduceAdd, Nat.reduceLeDiff, Nat.reduceSub, Nat.reduceMul, List.reduceReplicate, Int.reduceEq, Int.reduceLT, Int.reduceLE, Int.reduceAdd, Int.reduceSub, Int.reduceMul, Nat.reduceLT, Int.reduceToNat]⟩
end Go.Proofs.YtilbipknodpmmaaDoor
