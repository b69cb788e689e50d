/- A region's walk within a round of a range over a function. -/
import Derived.Test.YtkphojcmjffccaaE31
import Derived.RangeFuncOwn
import Derived.RangeFuncLeaves
import Derived.RangeFuncCalls
import Derived.Test.YtkphojcmjffccaaK0
set_option linter.unusedSimpArgs false
set_option linter.unusedSectionVars false
set_option linter.unusedVariables false
namespace Go.Proofs.Ytkphojcmjffccaa
open Go Go.RowKit

variable {P : Program} {ops : Array Oper} {Q : Exit → Act → World → Prop} {l n : Nat}

theorem rowsIn_round {row : String} {args : Array Value} {w : World} {R : Value → World → Prop} (h : Rows P row args w R) : RowsIn (Fence.wide.inRound l) n P row args w R := by
  intro c cs _
  obtain ⟨v, w', r, s⟩ := h c cs
  exact ⟨v, w', r, by rw [fenced_inRound]; exact stepsIn_wide.2 s⟩
theorem callsIn_round {f : FuncId} {args : Array Value} {w : World} {R : Ending → World → Prop} (h : Calls P f args w R) : CallsIn (Fence.wide.inRound l) n P f args w R :=
  CallsIn.inRound l (callsIn_wide.2 h)
theorem uponIn_round {o : Oper} {a : Act} {next next' : Act → World → Prop} (hn : ∀ a w, next a w → next' a w) {r : Result Next} (h : o.upon P a next Q r) : o.uponIn (Fence.wide.inRound l) n P a next' Q r := by
  cases r with
  | ok x w =>
    cases x with
    | value v => exact hn _ _ h
    | skip => exact hn _ _ h
    | defer d => exact hn _ _ h
    | enter f args =>
      refine ⟨fun hd => by simp [Fence.wide] at hd, callsIn_round (Calls.mono h fun e w' hr => ?_)⟩
      cases e with
      | returned v => exact hn _ _ hr
      | panicked chain => exact hr
      | outgrown => exact hr
    | row row args => exact ⟨fun hd => by simp [Fence.wide] at hd, rowsIn_round (Rows.mono h fun v w' hr => hn _ _ hr)⟩
    | _ => exact h.elim
  | halt x w =>
    cases x with
    | panic v => exact h
    | _ => exact h.elim
theorem opsIn_of_ops (hd : ∀ (i : Nat) (o : Oper), ops[i]? = some o → ∀ c, o.op ≠ .defer c) (hQ : ¬ LetsOut Q) : ∀ (is : List Nat) (a : Act) (w : World), wpOps P ops Q is a w → wpOpsIn (Fence.wide.inRound l) n P ops Q is a w
  | [], _, _, h => h
  | i :: is, a, w, h => by
    simp only [wpOps] at h
    simp only [wpOpsIn]
    cases ho : ops[i]? with
    | none => rw [ho] at h; exact opsIn_of_ops hd hQ is a w h
    | some o =>
      rw [ho] at h
      simp only at h ⊢
      split at h
      · rename_i hw
        rw [if_pos hw]
        refine ⟨fun _ _ => trivial, ?_⟩
        rw [Oper.semAt_eq _ _ _ (hd i o ho)]
        rcases h with h | h
        · exact uponIn_round (fun a w hx => opsIn_of_ops hd hQ is a w hx) h
        · exact absurd h.2 hQ
      · rename_i hw
        rw [if_neg hw]
        exact ⟨fun _ _ => trivial, opsIn_of_ops hd hQ is _ _ h⟩
end Go.Proofs.Ytkphojcmjffccaa
/- A region of open order in a round: the engine's part, then what stands behind it by hand. -/
set_option linter.unusedSectionVars false
set_option linter.unusedVariables false
set_option linter.unusedSimpArgs false
namespace Go.Proofs.Ytkphojcmjffccaa
open Go.RowKit

section
variable [Off] [Gh] [Old] {P : Program} {w0 : World} {N : Nat} {ops : Array Oper} {Q : Exit → Act → World → Prop}
end
theorem getD_put_ne {a : Act} {d : Option Nat} {z : Nat} (v : Value) (h : d ≠ some z) : (a.put d v).tmps.getD z undef = a.tmps.getD z undef := by
  cases d with
  | none => rfl
  | some d =>
    simp only [Act.put, Array.getD_eq_getD_getElem?, Array.getElem?_setIfInBounds]
    rw [if_neg (fun e => h (by rw [e]))]
theorem ops_frame {P : Program} {ops : Array Oper} {Q Q' : Exit → Act → World → Prop} {z : Nat} {v0 : Value} (hz : ∀ (i : Nat) (o : Oper), ops[i]? = some o → o.dst ≠ some z) (hQ : ¬ LetsOut Q)
    (hQQ : ∀ e a w, Q e a w → a.tmps.getD z undef = v0 → Q' e a w) : ∀ (is : List Nat) (a : Act) (w : World), a.tmps.getD z undef = v0 → wpOps P ops Q is a w → wpOps P ops Q' is a w
  | [], a, w, hv, h => hQQ _ _ _ h hv
  | i :: is, a, w, hv, h => by
    simp only [wpOps] at h ⊢
    cases ho : ops[i]? with
    | none => rw [ho] at h; exact ops_frame hz hQ hQQ is a w hv h
    | some o =>
      rw [ho] at h
      simp only at h ⊢
      have hne := hz i o ho
      split at h
      · rename_i hw
        rw [if_pos hw]
        rcases h with h | h
        · left
          unfold Oper.wp at h ⊢
          have go : ∀ v w', wpOps P ops Q is (a.put o.dst v) w' → wpOps P ops Q' is (a.put o.dst v) w' := fun v w' h' => ops_frame hz hQ hQQ is _ _ ((getD_put_ne v hne).trans hv) h'
          revert h
          generalize (execOp a.eval o).run P w = r
          intro h
          cases r with
          | ok x w' =>
            cases x with
            | value v => exact go _ _ h
            | skip => exact go _ _ h
            | defer d => exact ops_frame hz hQ hQQ is _ _ ((getD_put_ne (a := { a with defers := d :: a.defers }) undef hne).trans hv) h
            | enter f args =>
              refine Calls.mono h fun e w'' hr => ?_
              cases e with
              | returned v => exact go _ _ hr
              | panicked chain => exact hQQ _ _ _ hr hv
              | outgrown => exact absurd hr hQ
            | row row args => exact Rows.mono h fun v w'' hr => go _ _ hr
            | _ => exact h.elim
          | halt x w' =>
            cases x with
            | panic v => exact hQQ _ _ _ h hv
            | _ => exact h.elim
        · exact absurd h.2 hQ
      · rename_i hw
        rw [if_neg hw]
        exact ops_frame hz hQ hQQ is _ _ ((getD_put_ne undef hne).trans hv) h
theorem region_round {P : Program} {ops : Array Oper} {Q Q' : Exit → Act → World → Prop} {l n id z : Nat} {a : Act} {w : World} (hmix : P.follows .mixedOrders = true) (hd : ∀ (i : Nat) (o : Oper), ops[i]? = some o → ∀ c, o.op ≠ .defer c) (hQ : ¬ LetsOut Q) (hQ' : ¬ LetsOut Q') (hz : ∀ (i : Nat) (o : Oper), ops[i]? = some o → o.dst ≠ some z) (hQQ : ∀ e a' w', Q e a' w' → a'.tmps.getD z undef = a.tmps.getD z undef → Q' e a' w')
    (h : wpAny P .any ops Q ops.size (Array.replicate ops.size false) a { w with drawn := w.drawn + 1 }) : (Code.region id ops true).wpIn (Fence.wide.inRound l) n P Q' a w :=
  wpIn_region_draw fun t => by
    simp only [Region.schedule, hmix, Bool.true_or, if_true]
    exact opsIn_of_ops hd hQ' _ _ _ (ops_frame hz hQ hQQ _ _ _ rfl (wpAny_sound ops.size t _ a _ h))
end Go.Proofs.Ytkphojcmjffccaa
/- Words: turned, and put together. -/
set_option linter.unusedSectionVars false
set_option linter.unusedVariables false
set_option linter.unusedSimpArgs false
set_option maxRecDepth 100000
set_option maxHeartbeats 4000000
namespace Go.Proofs.Ytkphojcmjffccaa
open Go.RowKit

def wsh (x : UInt32) (k : Nat) : UInt32 := UInt32.ofNat (x.toNat >>> k)
def wsl (x : UInt32) (k : Nat) : UInt32 := UInt32.ofNat (x.toNat * 2 ^ k)
def rotr (x : UInt32) (k : Nat) : UInt32 := wsh x k ||| wsl x (32 - k)
theorem w_lt (x : UInt32) : x.toNat < 2 ^ vbits .u32 := by
  have := x.toNat_lt
  simpa [vbits, IntKind.signed, IntKind.bits] using this
theorem w_wrap (n : Nat) : IntKind.u32.wrap (n : Int) = ((UInt32.ofNat n).toNat : Int) := by
  simp only [IntKind.wrap, IntKind.signed, IntKind.bits]
  simp
theorem wsh_toNat (x : UInt32) (k : Nat) : (wsh x k).toNat = x.toNat >>> k := by
  have := x.toNat_lt
  have h : x.toNat >>> k ≤ x.toNat := by rw [Nat.shiftRight_eq_div_pow]; exact Nat.div_le_self _ _
  simp only [wsh, UInt32.toNat_ofNat']
  exact Nat.mod_eq_of_lt (Nat.lt_of_le_of_lt h this)
theorem w_shr (x : UInt32) {k : Nat} (h : k ≤ 32) : shI .shr .u32 (x.toNat : Int) (k : Int) = some (.int .u32 ((wsh x k).toNat : Int)) := by
  rw [wsh_toNat]
  exact shI_shr .u32 h
theorem w_shl (x : UInt32) {k : Nat} (h : k ≤ 32) : shI .shl .u32 (x.toNat : Int) (k : Int) = some (.int .u32 ((wsl x k).toNat : Int)) := by
  have e : (x.toNat : Int) * 2 ^ k = ((x.toNat * 2 ^ k : Nat) : Int) := by simp
  have hk : k ≤ IntKind.u32.bits := h
  simp only [shI, if_neg (show ¬ ((k : Int) < 0) by omega), Int.toNat_natCast, Nat.min_eq_left hk, e, w_wrap]
  rfl
theorem w_or (x y : UInt32) : bitsI .or .u32 (x.toNat : Int) (y.toNat : Int) = some (((x ||| y).toNat : Nat) : Int) := by
  rw [bitsI_or .u32 (w_lt x) (w_lt y), UInt32.toNat_or]
theorem w_and (x y : UInt32) : bitsI .and .u32 (x.toNat : Int) (y.toNat : Int) = some (((x &&& y).toNat : Nat) : Int) := by
  rw [bitsI_and .u32 (w_lt x) (w_lt y), UInt32.toNat_and]
theorem w_xor (x y : UInt32) : bitsI .xor .u32 (x.toNat : Int) (y.toNat : Int) = some (((x ^^^ y).toNat : Nat) : Int) := by
  rw [bitsI_xor .u32 (w_lt x) (w_lt y), UInt32.toNat_xor]
theorem w_add (x y : UInt32) : IntKind.u32.wrap ((x.toNat : Int) + (y.toNat : Int)) = (((x + y).toNat : Nat) : Int) := by
  rw [← Int.natCast_add, w_wrap, UInt32.toNat_add]
  simp

theorem rotl_ok (x : UInt32) {k : Nat} (h0 : 0 < k) (h : k < 32) : RC Try.prog 56 [.int .u32 (x.toNat : Int), .int .i64 (-(k : Int))] [.int .u32 ((rotr x k).toNat : Int)] := by
  refine RC.of_wp c56 rfl ?_
  have w0 : IntKind.u64.wrap (-(k : Int)) = ((2 ^ 64 - k : Nat) : Int) := by
    simp only [IntKind.wrap, IntKind.signed, IntKind.bits, Bool.false_and, Bool.false_eq_true, if_false]
    omega
  have a0 : bitsI .and .u64 ((2 ^ 64 - k : Nat) : Int) 31 = some ((32 - k : Nat) : Int) := by
    have := bitsI_and .u64 (x := 2 ^ 64 - k) (y := 31) (by simp [vbits, IntKind.signed, IntKind.bits]; omega) (by simp [vbits, IntKind.signed, IntKind.bits])
    rw [show (31 : Nat) = 2 ^ 5 - 1 from rfl, Nat.and_two_pow_sub_one_eq_mod] at this
    rw [show (2 ^ 64 - k) % 2 ^ 5 = 32 - k by omega] at this
    exact this
  have w : IntKind.u64.wrap (32 - ((32 - k : Nat) : Int)) = (k : Int) := by
    rw [show (32 : Int) - ((32 - k : Nat) : Int) = (k : Int) by omega]
    exact wrapN .u64 (by simp [vbits, IntKind.signed, IntKind.bits]; omega)
  have s1 := w_shr x (k := k) (by omega)
  have s2 := w_shl x (k := 32 - k) (by omega)
  have s3 := w_or (wsl x (32 - k)) (wsh x k)
  have e : wsl x (32 - k) ||| wsh x k = rotr x k := UInt32.or_comm _ _
  rw [e] at s3
  simp -implicitDefEqProofs (maxSteps := 2000000) only [m56_1, m56_2, m56_r, m56_b, m56, w0, a0, w, s1, s2, s3, wk, act, asV, ↓reduceIte, Nat.reduceEqDiff, reduceCtorEq, Nat.reduceAdd, Nat.reduceLeDiff, Nat.reduceSub, Nat.reduceMul, List.reduceReplicate, Int.reduceEq, Int.reduceLT, Int.reduceLE, Int.reduceAdd, Int.reduceSub, Int.reduceMul, Nat.reduceLT, Int.reduceToNat]

def turnedW (x : UInt32) (a b c : Nat) (sh : Bool) : UInt32 := rotr x a ^^^ rotr x b ^^^ (if sh = true then wsh x c else rotr x c)
theorem turned_ok (x : UInt32) {a b c : Nat} (sh : Bool) (ha0 : 0 < a) (ha : a < 32) (hb0 : 0 < b) (hb : b < 32) (hc0 : 0 < c) (hc : c < 32) :
    RC Try.prog 50 [.int .u32 (x.toNat : Int), .int .i64 (a : Int), .int .i64 (b : Int), .int .i64 (c : Int), .bool sh] [.int .u32 ((turnedW x a b c sh).toNat : Int)] := by
  refine RC.of_wp c50 rfl ?_
  have n : ∀ k : Nat, k < 32 → IntKind.i64.wrap (0 - (k : Int)) = -(k : Int) := by intro k h; rw [IntKind.wrap_i64]; omega
  have n1 := n a ha
  have n2 := n b hb
  have n3 := n c hc
  have c1 := rotl_ok x ha0 ha
  have c2 := rotl_ok x hb0 hb
  have c3 := rotl_ok x hc0 hc
  have s1 := w_shr x (k := c) (by omega)
  have x1 := w_xor (rotr x a) (rotr x b)
  cases sh with
  | true =>
    have x2 := w_xor (rotr x a ^^^ rotr x b) (wsh x c)
    have e : turnedW x a b c true = rotr x a ^^^ rotr x b ^^^ wsh x c := rfl
    rw [e]
    have hc0' : ¬ ((c : Int) < 0) := by omega
    repeat' (first | simp -implicitDefEqProofs (maxSteps := 2000000) only [m50_1, m50_2, m50_3, m50_4, m50_5, m50_6, m50_7, m50_r, m50_b, m50, n1, n2, n3, s1, x1, x2, hc0', wk, act, asV, ↓reduceIte, Nat.reduceEqDiff, reduceCtorEq, Nat.reduceAdd, Nat.reduceLeDiff, Nat.reduceSub, Nat.reduceMul, List.reduceReplicate, Int.reduceEq, Int.reduceLT, Int.reduceLE, Int.reduceAdd, Int.reduceSub, Int.reduceMul, Nat.reduceLT, Int.reduceToNat] | ((first | ((with_reducible refine CallL.gate ?_); apply CallL.of) | ((with_reducible refine CallP.gate ?_); apply CallP.of)); (case h1 => (simp -implicitDefEqProofs (maxSteps := 2000000) only [m50_1, m50_2, m50_3, m50_4, m50_5, m50_6, m50_7, m50_r, m50_b, m50, n1, n2, n3, s1, x1, x2, hc0', wk, act, asV, ↓reduceIte, Nat.reduceEqDiff, reduceCtorEq, Nat.reduceAdd, Nat.reduceLeDiff, Nat.reduceSub, Nat.reduceMul, List.reduceReplicate, Int.reduceEq, Int.reduceLT, Int.reduceLE, Int.reduceAdd, Int.reduceSub, Int.reduceMul, Nat.reduceLT, Int.reduceToNat]; first | done | (with_reducible rfl))); (case h2 => (first | exact c1 | exact c2 | exact c3)); (case h3 => simp -implicitDefEqProofs (maxSteps := 2000000) only [m50_1, m50_2, m50_3, m50_4, m50_5, m50_6, m50_7, m50_r, m50_b, m50, n1, n2, n3, s1, x1, x2, hc0', wk, act, asV, ↓reduceIte, Nat.reduceEqDiff, reduceCtorEq, Nat.reduceAdd, Nat.reduceLeDiff, Nat.reduceSub, Nat.reduceMul, List.reduceReplicate, Int.reduceEq, Int.reduceLT, Int.reduceLE, Int.reduceAdd, Int.reduceSub, Int.reduceMul, Nat.reduceLT, Int.reduceToNat])))
  | false =>
    have x2 := w_xor (rotr x a ^^^ rotr x b) (rotr x c)
    have e : turnedW x a b c false = rotr x a ^^^ rotr x b ^^^ rotr x c := rfl
    rw [e]
    repeat' (first | simp -implicitDefEqProofs (maxSteps := 2000000) only [m50_1, m50_2, m50_3, m50_4, m50_5, m50_6, m50_7, m50_r, m50_b, m50, n1, n2, n3, x1, x2, wk, act, asV, ↓reduceIte, Nat.reduceEqDiff, reduceCtorEq, Nat.reduceAdd, Nat.reduceLeDiff, Nat.reduceSub, Nat.reduceMul, List.reduceReplicate, Int.reduceEq, Int.reduceLT, Int.reduceLE, Int.reduceAdd, Int.reduceSub, Int.reduceMul, Nat.reduceLT, Int.reduceToNat] | ((first | ((with_reducible refine CallL.gate ?_); apply CallL.of) | ((with_reducible refine CallP.gate ?_); apply CallP.of)); (case h1 => (simp -implicitDefEqProofs (maxSteps := 2000000) only [m50_1, m50_2, m50_3, m50_4, m50_5, m50_6, m50_7, m50_r, m50_b, m50, n1, n2, n3, x1, x2, wk, act, asV, ↓reduceIte, Nat.reduceEqDiff, reduceCtorEq, Nat.reduceAdd, Nat.reduceLeDiff, Nat.reduceSub, Nat.reduceMul, List.reduceReplicate, Int.reduceEq, Int.reduceLT, Int.reduceLE, Int.reduceAdd, Int.reduceSub, Int.reduceMul, Nat.reduceLT, Int.reduceToNat]; first | done | (with_reducible rfl))); (case h2 => (first | exact c1 | exact c2 | exact c3)); (case h3 => simp -implicitDefEqProofs (maxSteps := 2000000) only [m50_1, m50_2, m50_3, m50_4, m50_5, m50_6, m50_7, m50_r, m50_b, m50, n1, n2, n3, x1, x2, wk, act, asV, ↓reduceIte, Nat.reduceEqDiff, reduceCtorEq, Nat.reduceAdd, Nat.reduceLeDiff, Nat.reduceSub, Nat.reduceMul, List.reduceReplicate, Int.reduceEq, Int.reduceLT, Int.reduceLE, Int.reduceAdd, Int.reduceSub, Int.reduceMul, Nat.reduceLT, Int.reduceToNat])))
end Go.Proofs.Ytkphojcmjffccaa
/- The words of 64 bytes, by the program. -/
set_option linter.unusedSectionVars false
set_option linter.unusedVariables false
set_option linter.unusedSimpArgs false
set_option maxRecDepth 100000
set_option maxHeartbeats 8000000
namespace Go.Proofs.Ytkphojcmjffccaa
open Go.RowKit

def wl (xs : List UInt32) : List IV := xs.map fun x => .int .u32 (x.toNat : Int)
theorem wl_length (xs : List UInt32) : (wl xs).length = xs.length := by simp [wl]
theorem wl_scal (xs : List UInt32) : (wl xs).all IV.scal = true := by simp [wl, IV.scal]
theorem at_wl {xs : List UInt32} {k : Nat} (h : k < xs.length) : List.take 1 (List.drop k (wl xs)) = [.int .u32 ((xs.getD k 0).toNat : Int)] := by
  rw [List.drop_eq_getElem_cons (by rw [wl_length]; exact h)]
  simp [wl, List.getD, h]
theorem set_wl {xs : List UInt32} {k : Nat} (h : k < xs.length) (x : UInt32) : List.take k (wl xs) ++ [IV.int .u32 (x.toNat : Int)] ++ List.drop (k + 1) (wl xs) = wl (xs.set k x) := by
  rw [List.set_eq_take_append_cons_drop, if_pos h]; simp [wl]
theorem at_b {b : List UInt8} {k : Nat} (h : k < b.length) : List.take 1 (List.drop k (bl b)) = [.int .u8 ((b.getD k 0).toNat : Int)] := by
  rw [drop_bl h]; simp [List.getD, h]
def zw (n : Nat) : List UInt32 := List.replicate n 0
theorem zw_length (n : Nat) : (zw n).length = n := by simp [zw]
def bePart (b : List UInt8) (t : Nat) : Nat → UInt32
  | 0 => 0
  | i + 1 => wsl (bePart b t i) 8 ||| UInt32.ofNat (b.getD (4 * t + i) 0).toNat
def wordAt (b : List UInt8) (W : List UInt32) (t : Nat) : UInt32 :=
  if t < 16 then bePart b t 4 else turnedW (W.getD (t - 2) 0) 17 19 10 true + W.getD (t - 7) 0 + turnedW (W.getD (t - 15) 0) 7 18 3 true + W.getD (t - 16) 0
def schN (b : List UInt8) : Nat → List UInt32
  | 0 => []
  | t + 1 => schN b t ++ [wordAt b (schN b t) t]
theorem schN_length (b : List UInt8) : ∀ t, (schN b t).length = t
  | 0 => rfl
  | t + 1 => by simp [schN, schN_length b t]
theorem mid_get (W : List UInt32) (x : UInt32) (Z : List UInt32) {t : Nat} (h : W.length = t) : (W ++ x :: Z).getD t 0 = x := by
  subst h; simp [List.getD]
theorem mid_set (W : List UInt32) (x y : UInt32) (Z : List UInt32) {t : Nat} (h : W.length = t) : (W ++ x :: Z).set t y = W ++ y :: Z := by
  subst h; simp
theorem low_get (W Z : List UInt32) {k : Nat} (h : k < W.length) : (W ++ Z).getD k 0 = W.getD k 0 := by
  simp [List.getD, List.getElem?_append_left h]

theorem schedule_in (b : List UInt8) (hb : b.length = 64) {t v1 v3 : Nat} (ht : t < 16) (Q : Ex → St → Prop) (s1 : St)
    (q1 : ∀ s2 : St, s2.t 1 = .ptr 1 0 v1 → s2.h 1 = ⟨v1, true, true, false, bl b⟩ → s2.t 2 = s1.t 2 → s2.h 2 = s1.h 2 → s2.t 3 = .ptr 3 0 v3 → s2.h 3 = ⟨v3, true, true, false, wl (schN b t ++ bePart b t 4 :: zw (63 - t))⟩ → s2.t 6 = .int .i64 t → Q (.exit 2) s2)
    (k1 : s1.t 1 = .ptr 1 0 v1) (kh1 : s1.h 1 = ⟨v1, true, true, false, bl b⟩) (k3 : s1.t 3 = .ptr 3 0 v3) (kh3 : s1.h 3 = ⟨v3, true, true, false, wl (schN b t ++ bePart b t 0 :: zw (63 - t))⟩) (k4 : s1.t 4 = .int .i64 t) (k6 : s1.t 6 = .int .i64 t) (k11 : s1.t 11 = .int .i64 0) :
    Wp (RCs Try.prog) (.loop m49_4) Q s1 := by
  refine Wp_loop (fun m s => ∃ i, i ≤ 4 ∧ m = 4 - i ∧ s.t 1 = .ptr 1 0 v1 ∧ s.h 1 = ⟨v1, true, true, false, bl b⟩ ∧ s.t 2 = s1.t 2 ∧ s.h 2 = s1.h 2 ∧ s.t 3 = .ptr 3 0 v3 ∧ s.h 3 = ⟨v3, true, true, false, wl (schN b t ++ bePart b t i :: zw (63 - t))⟩ ∧ s.t 4 = .int .i64 t ∧ s.t 6 = .int .i64 t ∧ s.t 11 = .int .i64 i) 4 ⟨0, by omega, rfl, k1, kh1, rfl, rfl, k3, kh3, k4, k6, k11⟩ ?_
  clear k1 kh1 k3 kh3 k4 k6 k11
  rintro m s ⟨i, hi, rfl, k1, kh1, k2, kh2, k3, kh3, k4, k6, k11⟩
  have hW := schN_length b t
  have htot : ∀ x, (schN b t ++ x :: zw (63 - t)).length = 64 := by intro x; rw [List.length_append, hW, List.length_cons, zw_length]; omega
  have hbl : (bl b).length = 64 := by rw [bl_length, hb]
  by_cases hi4 : i < 4
  · have hi4' : (i : Int) < 4 := by omega
    have w4 : IntKind.i64.wrap (4 * (t : Int)) = ((4 * t : Nat) : Int) := by rw [IntKind.wrap_i64]; omega
    have w5 : IntKind.i64.wrap (((4 * t : Nat) : Int) + (i : Int)) = ((4 * t + i : Nat) : Int) := by rw [IntKind.wrap_i64]; omega
    have hab := at_b (b := b) (k := 4 * t + i) (by omega)
    have haw := at_wl (xs := schN b t ++ bePart b t i :: zw (63 - t)) (k := t) (by rw [htot]; omega)
    rw [mid_get _ _ _ hW] at haw
    obtain ⟨c, hc⟩ : ∃ c, c = b.getD (4 * t + i) 0 := ⟨_, rfl⟩
    have eb : bePart b t (i + 1) = wsl (bePart b t i) 8 ||| UInt32.ofNat c.toNat := by rw [hc]; rfl
    rw [← hc] at hab
    have hwc := w_wrap c.toNat
    have s8 : shI .shl .u32 ((bePart b t i).toNat : Int) 8 = some (.int .u32 ((wsl (bePart b t i) 8).toNat : Int)) := w_shl _ (k := 8) (by decide)
    have so := w_or (wsl (bePart b t i) 8) (UInt32.ofNat c.toNat)
    rw [← eb] at so
    have hst := set_wl (xs := schN b t ++ bePart b t i :: zw (63 - t)) (k := t) (by rw [htot]; omega) (bePart b t (i + 1))
    rw [mid_set _ _ _ _ hW] at hst
    have hwl : (wl (schN b t ++ bePart b t i :: zw (63 - t))).length = 64 := by rw [wl_length, htot]
    have ht64 : (t : Int) < 64 := by omega
    have ht63 : t ≤ 63 := by omega
    have hk64 : ((4 * t + i : Nat) : Int) < 64 := by omega
    have hk63 : 4 * t + i ≤ 63 := by omega
    simp -implicitDefEqProofs (maxSteps := 2000000) only [k1, kh1, k2, kh2, k3, kh3, k4, k6, k11, hi4', w4, w5, hab, haw, hwc, s8, so, hst, hwl, hbl, ht64, ht63, hk64, hk63, m49_1, m49_2, m49_3, m49_4, m49_5, m49_6, m49_7, m49_8, m49_9, m49_10, m49_11, m49_12, m49_13, m49_14, m49_15, m49_16, m49_r, m49_b, m49, wrap_nat (show i < 2 ^ 63 - 1 by omega), wk, act, asV, ↓reduceIte, Nat.reduceEqDiff, reduceCtorEq, Nat.reduceAdd, Nat.reduceLeDiff, Nat.reduceSub, Nat.reduceMul, List.reduceReplicate, Int.reduceEq, Int.reduceLT, Int.reduceLE, Int.reduceAdd, Int.reduceSub, Int.reduceMul, Nat.reduceLT, Int.reduceToNat]
    first | done | exact ⟨4 - (i + 1), by omega, i + 1, by omega, rfl, rfl, rfl⟩
  · have hi4' : ¬ (i : Int) < 4 := by omega
    obtain rfl : i = 4 := by omega
    simp -implicitDefEqProofs (maxSteps := 2000000) only [k11, m49_1, m49_2, m49_3, m49_4, m49_5, m49_6, m49_7, m49_8, m49_9, m49_10, m49_11, m49_12, m49_13, m49_14, m49_15, m49_16, m49_r, m49_b, m49, wk, act, asV, ↓reduceIte, Nat.reduceEqDiff, reduceCtorEq, Nat.reduceAdd, Nat.reduceLeDiff, Nat.reduceSub, Nat.reduceMul, List.reduceReplicate, Int.reduceEq, Int.reduceLT, Int.reduceLE, Int.reduceAdd, Int.reduceSub, Int.reduceMul, Nat.reduceLT, Int.reduceToNat]
    exact q1 _ (by simp -implicitDefEqProofs (maxSteps := 2000000) only [k1, wk, act, asV, ↓reduceIte, Nat.reduceEqDiff, reduceCtorEq, Nat.reduceAdd, Nat.reduceLeDiff, Nat.reduceSub, Nat.reduceMul, List.reduceReplicate, Int.reduceEq, Int.reduceLT, Int.reduceLE, Int.reduceAdd, Int.reduceSub, Int.reduceMul, Nat.reduceLT, Int.reduceToNat]) (by simp -implicitDefEqProofs (maxSteps := 2000000) only [kh1, wk, act, asV, ↓reduceIte, Nat.reduceEqDiff, reduceCtorEq, Nat.reduceAdd, Nat.reduceLeDiff, Nat.reduceSub, Nat.reduceMul, List.reduceReplicate, Int.reduceEq, Int.reduceLT, Int.reduceLE, Int.reduceAdd, Int.reduceSub, Int.reduceMul, Nat.reduceLT, Int.reduceToNat]) (by simp -implicitDefEqProofs (maxSteps := 2000000) only [k2, wk, act, asV, ↓reduceIte, Nat.reduceEqDiff, reduceCtorEq, Nat.reduceAdd, Nat.reduceLeDiff, Nat.reduceSub, Nat.reduceMul, List.reduceReplicate, Int.reduceEq, Int.reduceLT, Int.reduceLE, Int.reduceAdd, Int.reduceSub, Int.reduceMul, Nat.reduceLT, Int.reduceToNat]) (by simp -implicitDefEqProofs (maxSteps := 2000000) only [kh2, wk, act, asV, ↓reduceIte, Nat.reduceEqDiff, reduceCtorEq, Nat.reduceAdd, Nat.reduceLeDiff, Nat.reduceSub, Nat.reduceMul, List.reduceReplicate, Int.reduceEq, Int.reduceLT, Int.reduceLE, Int.reduceAdd, Int.reduceSub, Int.reduceMul, Nat.reduceLT, Int.reduceToNat]) (by simp -implicitDefEqProofs (maxSteps := 2000000) only [k3, wk, act, asV, ↓reduceIte, Nat.reduceEqDiff, reduceCtorEq, Nat.reduceAdd, Nat.reduceLeDiff, Nat.reduceSub, Nat.reduceMul, List.reduceReplicate, Int.reduceEq, Int.reduceLT, Int.reduceLE, Int.reduceAdd, Int.reduceSub, Int.reduceMul, Nat.reduceLT, Int.reduceToNat]) (by simp -implicitDefEqProofs (maxSteps := 2000000) only [kh3, wk, act, asV, ↓reduceIte, Nat.reduceEqDiff, reduceCtorEq, Nat.reduceAdd, Nat.reduceLeDiff, Nat.reduceSub, Nat.reduceMul, List.reduceReplicate, Int.reduceEq, Int.reduceLT, Int.reduceLE, Int.reduceAdd, Int.reduceSub, Int.reduceMul, Nat.reduceLT, Int.reduceToNat]) (by simp -implicitDefEqProofs (maxSteps := 2000000) only [k6, wk, act, asV, ↓reduceIte, Nat.reduceEqDiff, reduceCtorEq, Nat.reduceAdd, Nat.reduceLeDiff, Nat.reduceSub, Nat.reduceMul, List.reduceReplicate, Int.reduceEq, Int.reduceLT, Int.reduceLE, Int.reduceAdd, Int.reduceSub, Int.reduceMul, Nat.reduceLT, Int.reduceToNat])

theorem zw_succ (n : Nat) : zw (n + 1) = 0 :: zw n := rfl
theorem schedule_ok (b : List UInt8) (hb : b.length = 64) : RC Try.prog 49 [.agg (bl b)] [.agg (wl (schN b 64))] := by
  refine RC.of_wp c49 rfl ?_
  have hbl : (bl b).length = 64 := by rw [bl_length, hb]
  simp -implicitDefEqProofs (maxSteps := 2000000) only [m49_1, m49_2, m49_3, m49_4, m49_5, m49_6, m49_7, m49_8, m49_9, m49_10, m49_11, m49_12, m49_13, m49_14, m49_15, m49_16, m49_r, m49_b, m49, hbl, wk, act, asV, ↓reduceIte, Nat.reduceEqDiff, reduceCtorEq, Nat.reduceAdd, Nat.reduceLeDiff, Nat.reduceSub, Nat.reduceMul, List.reduceReplicate, Int.reduceEq, Int.reduceLT, Int.reduceLE, Int.reduceAdd, Int.reduceSub, Int.reduceMul, Nat.reduceLT, Int.reduceToNat]
  refine Wp_loop (fun m s => ∃ t, t ≤ 64 ∧ m = 64 - t ∧ s.t 1 = .ptr 1 0 _ ∧ s.h 1 = ⟨_, true, true, false, bl b⟩ ∧ s.t 2 = .ptr 2 0 _ ∧ s.h 2 = ⟨_, true, true, false, wl (zw 64)⟩ ∧ s.t 6 = .int .i64 t ∧ ∃ v3, s.t 3 = .ptr 3 0 v3 ∧ s.h 3 = ⟨v3, true, true, false, wl (schN b t ++ zw (64 - t))⟩) 64 ⟨0, by omega, rfl, rfl, rfl, rfl, rfl, rfl, _, rfl, rfl⟩ ?_
  rintro m s ⟨t, ht, rfl, k1, kh1, k2, kh2, k6, v3, k3, kh3⟩
  have hW := schN_length b t
  by_cases ht64 : t < 64
  · have ht64' : (t : Int) < 64 := by omega
    rw [show 64 - t = (63 - t) + 1 by omega, zw_succ] at kh3
    by_cases ht16 : t < 16
    · have ht16' : (t : Int) < 16 := by omega
      simp -implicitDefEqProofs (maxSteps := 2000000) only [k1, kh1, k2, kh2, k3, kh3, k6, ht64', ht16', wk, act, asV, ↓reduceIte, Nat.reduceEqDiff, reduceCtorEq, Nat.reduceAdd, Nat.reduceLeDiff, Nat.reduceSub, Nat.reduceMul, List.reduceReplicate, Int.reduceEq, Int.reduceLT, Int.reduceLE, Int.reduceAdd, Int.reduceSub, Int.reduceMul, Nat.reduceLT, Int.reduceToNat]
      refine schedule_in b hb (t := t) (v3 := v3) ht16 _ _ ?_ (by simp -implicitDefEqProofs (maxSteps := 2000000) only [k1, wk, act, asV, ↓reduceIte, Nat.reduceEqDiff, reduceCtorEq, Nat.reduceAdd, Nat.reduceLeDiff, Nat.reduceSub, Nat.reduceMul, List.reduceReplicate, Int.reduceEq, Int.reduceLT, Int.reduceLE, Int.reduceAdd, Int.reduceSub, Int.reduceMul, Nat.reduceLT, Int.reduceToNat]; first | done | rfl) (by simp -implicitDefEqProofs (maxSteps := 2000000) only [kh1, wk, act, asV, ↓reduceIte, Nat.reduceEqDiff, reduceCtorEq, Nat.reduceAdd, Nat.reduceLeDiff, Nat.reduceSub, Nat.reduceMul, List.reduceReplicate, Int.reduceEq, Int.reduceLT, Int.reduceLE, Int.reduceAdd, Int.reduceSub, Int.reduceMul, Nat.reduceLT, Int.reduceToNat]; first | done | rfl) (by simp -implicitDefEqProofs (maxSteps := 2000000) only [k3, wk, act, asV, ↓reduceIte, Nat.reduceEqDiff, reduceCtorEq, Nat.reduceAdd, Nat.reduceLeDiff, Nat.reduceSub, Nat.reduceMul, List.reduceReplicate, Int.reduceEq, Int.reduceLT, Int.reduceLE, Int.reduceAdd, Int.reduceSub, Int.reduceMul, Nat.reduceLT, Int.reduceToNat]) (by simp -implicitDefEqProofs (maxSteps := 2000000) only [kh3, wk, act, asV, ↓reduceIte, Nat.reduceEqDiff, reduceCtorEq, Nat.reduceAdd, Nat.reduceLeDiff, Nat.reduceSub, Nat.reduceMul, List.reduceReplicate, Int.reduceEq, Int.reduceLT, Int.reduceLE, Int.reduceAdd, Int.reduceSub, Int.reduceMul, Nat.reduceLT, Int.reduceToNat]; first | done | rfl) (by simp -implicitDefEqProofs (maxSteps := 2000000) only [wk, act, asV, ↓reduceIte, Nat.reduceEqDiff, reduceCtorEq, Nat.reduceAdd, Nat.reduceLeDiff, Nat.reduceSub, Nat.reduceMul, List.reduceReplicate, Int.reduceEq, Int.reduceLT, Int.reduceLE, Int.reduceAdd, Int.reduceSub, Int.reduceMul, Nat.reduceLT, Int.reduceToNat]) (by simp -implicitDefEqProofs (maxSteps := 2000000) only [k6, wk, act, asV, ↓reduceIte, Nat.reduceEqDiff, reduceCtorEq, Nat.reduceAdd, Nat.reduceLeDiff, Nat.reduceSub, Nat.reduceMul, List.reduceReplicate, Int.reduceEq, Int.reduceLT, Int.reduceLE, Int.reduceAdd, Int.reduceSub, Int.reduceMul, Nat.reduceLT, Int.reduceToNat]) (by simp -implicitDefEqProofs (maxSteps := 2000000) only [wk, act, asV, ↓reduceIte, Nat.reduceEqDiff, reduceCtorEq, Nat.reduceAdd, Nat.reduceLeDiff, Nat.reduceSub, Nat.reduceMul, List.reduceReplicate, Int.reduceEq, Int.reduceLT, Int.reduceLE, Int.reduceAdd, Int.reduceSub, Int.reduceMul, Nat.reduceLT, Int.reduceToNat])
      intro s2 p1 ph1 p2 ph2 p3 ph3 p6
      simp -implicitDefEqProofs (maxSteps := 2000000) only [k2, wk, act, asV, ↓reduceIte, Nat.reduceEqDiff, reduceCtorEq, Nat.reduceAdd, Nat.reduceLeDiff, Nat.reduceSub, Nat.reduceMul, List.reduceReplicate, Int.reduceEq, Int.reduceLT, Int.reduceLE, Int.reduceAdd, Int.reduceSub, Int.reduceMul, Nat.reduceLT, Int.reduceToNat] at p2
      simp -implicitDefEqProofs (maxSteps := 2000000) only [kh2, wk, act, asV, ↓reduceIte, Nat.reduceEqDiff, reduceCtorEq, Nat.reduceAdd, Nat.reduceLeDiff, Nat.reduceSub, Nat.reduceMul, List.reduceReplicate, Int.reduceEq, Int.reduceLT, Int.reduceLE, Int.reduceAdd, Int.reduceSub, Int.reduceMul, Nat.reduceLT, Int.reduceToNat] at ph2
      simp -implicitDefEqProofs (maxSteps := 2000000) only [p1, ph1, p2, ph2, p3, p6, wrap_nat (show t < 2 ^ 63 - 1 by omega), wk, act, asV, ↓reduceIte, Nat.reduceEqDiff, reduceCtorEq, Nat.reduceAdd, Nat.reduceLeDiff, Nat.reduceSub, Nat.reduceMul, List.reduceReplicate, Int.reduceEq, Int.reduceLT, Int.reduceLE, Int.reduceAdd, Int.reduceSub, Int.reduceMul, Nat.reduceLT, Int.reduceToNat]
      have e : schN b (t + 1) ++ zw (64 - (t + 1)) = schN b t ++ bePart b t 4 :: zw (63 - t) := by
        rw [schN, wordAt, if_pos ht16, List.append_assoc, show 64 - (t + 1) = 63 - t by omega]; rfl
      refine ⟨64 - (t + 1), by omega, t + 1, by omega, rfl, rfl, v3, rfl, ?_⟩
      rw [e]; exact ph3
    · have ht16' : ¬ (t : Int) < 16 := by omega
      have w : ∀ k : Nat, k ≤ 16 → IntKind.i64.wrap ((t : Int) - (k : Int)) = ((t - k : Nat) : Int) := by intro k hk; rw [IntKind.wrap_i64]; omega
      have w2 := w 2 (by omega)
      have w7 := w 7 (by omega)
      have w15 := w 15 (by omega)
      have w16 := w 16 (by omega)
      have w2' : IntKind.i64.wrap ((t : Int) - 2) = ((t - 2 : Nat) : Int) := w2
      have w7' : IntKind.i64.wrap ((t : Int) - 7) = ((t - 7 : Nat) : Int) := w7
      have w15' : IntKind.i64.wrap ((t : Int) - 15) = ((t - 15 : Nat) : Int) := w15
      have w16' : IntKind.i64.wrap ((t : Int) - 16) = ((t - 16 : Nat) : Int) := w16
      have htot : (schN b t ++ 0 :: zw (63 - t)).length = 64 := by rw [List.length_append, hW, List.length_cons, zw_length]; omega
      have hat : ∀ k : Nat, 0 < k → k ≤ 16 → List.take 1 (List.drop (t - k) (wl (schN b t ++ 0 :: zw (63 - t)))) = [.int .u32 (((schN b t).getD (t - k) 0).toNat : Int)] := by
        intro k h0 hk
        rw [at_wl (by rw [htot]; omega), low_get _ _ (by omega)]
      have a2 := hat 2 (by omega) (by omega)
      have a7 := hat 7 (by omega) (by omega)
      have a15 := hat 15 (by omega) (by omega)
      have a16 := hat 16 (by omega) (by omega)
      have c1 := turned_ok ((schN b t).getD (t - 2) 0) (a := 17) (b := 19) (c := 10) true (by decide) (by decide) (by decide) (by decide) (by decide) (by decide)
      have c2 := turned_ok ((schN b t).getD (t - 15) 0) (a := 7) (b := 18) (c := 3) true (by decide) (by decide) (by decide) (by decide) (by decide) (by decide)
      have ew : wordAt b (schN b t) t = turnedW ((schN b t).getD (t - 2) 0) 17 19 10 true + (schN b t).getD (t - 7) 0 + turnedW ((schN b t).getD (t - 15) 0) 7 18 3 true + (schN b t).getD (t - 16) 0 := by rw [wordAt, if_neg ht16]
      obtain ⟨x1, hx1⟩ : ∃ x, x = turnedW ((schN b t).getD (t - 2) 0) 17 19 10 true := ⟨_, rfl⟩
      obtain ⟨x2, hx2⟩ : ∃ x, x = turnedW ((schN b t).getD (t - 15) 0) 7 18 3 true := ⟨_, rfl⟩
      rw [← hx1] at c1 ew
      rw [← hx2] at c2 ew
      obtain ⟨y1, hy1⟩ : ∃ x, x = (schN b t).getD (t - 7) 0 := ⟨_, rfl⟩
      obtain ⟨y2, hy2⟩ : ∃ x, x = (schN b t).getD (t - 16) 0 := ⟨_, rfl⟩
      rw [← hy1] at a7 ew
      rw [← hy2] at a16 ew
      have d1 := w_add x1 y1
      have d2 := w_add (x1 + y1) x2
      have d3 := w_add (x1 + y1 + x2) y2
      rw [← ew] at d3
      have hst := set_wl (xs := schN b t ++ 0 :: zw (63 - t)) (k := t) (by rw [htot]; omega) (wordAt b (schN b t) t)
      rw [mid_set _ _ _ _ hW] at hst
      have hwl : (wl (schN b t ++ 0 :: zw (63 - t))).length = 64 := by rw [wl_length, htot]
      have ht63 : t ≤ 63 := by omega
      have l : ∀ k : Nat, 0 < k → k ≤ 16 → ((t - k : Nat) : Int) < 64 ∧ t - k ≤ 63 := by intro k h0 hk; omega
      obtain ⟨l2, m2⟩ := l 2 (by omega) (by omega)
      obtain ⟨l7, m7⟩ := l 7 (by omega) (by omega)
      obtain ⟨l15, m15⟩ := l 15 (by omega) (by omega)
      obtain ⟨l16, m16⟩ := l 16 (by omega) (by omega)
      repeat' (first | simp -implicitDefEqProofs (maxSteps := 2000000) only [k1, kh1, k2, kh2, k3, kh3, k6, ht64', ht16', w2', w7', w15', w16', a2, a7, a15, a16, d1, d2, d3, hst, hwl, ht63, l2, m2, l7, m7, l15, m15, l16, m16, wrap_nat (show t < 2 ^ 63 - 1 by omega), wk, act, asV, ↓reduceIte, Nat.reduceEqDiff, reduceCtorEq, Nat.reduceAdd, Nat.reduceLeDiff, Nat.reduceSub, Nat.reduceMul, List.reduceReplicate, Int.reduceEq, Int.reduceLT, Int.reduceLE, Int.reduceAdd, Int.reduceSub, Int.reduceMul, Nat.reduceLT, Int.reduceToNat] | ((first | ((with_reducible refine CallL.gate ?_); apply CallL.of) | ((with_reducible refine CallP.gate ?_); apply CallP.of)); (case h1 => (simp -implicitDefEqProofs (maxSteps := 2000000) only [k1, kh1, k2, kh2, k3, kh3, k6, ht64', ht16', w2', w7', w15', w16', a2, a7, a15, a16, d1, d2, d3, hst, hwl, ht63, l2, m2, l7, m7, l15, m15, l16, m16, wrap_nat (show t < 2 ^ 63 - 1 by omega), wk, act, asV, ↓reduceIte, Nat.reduceEqDiff, reduceCtorEq, Nat.reduceAdd, Nat.reduceLeDiff, Nat.reduceSub, Nat.reduceMul, List.reduceReplicate, Int.reduceEq, Int.reduceLT, Int.reduceLE, Int.reduceAdd, Int.reduceSub, Int.reduceMul, Nat.reduceLT, Int.reduceToNat]; first | done | (with_reducible rfl))); (case h2 => (first | exact c1 | exact c2)); (case h3 => simp -implicitDefEqProofs (maxSteps := 2000000) only [k1, kh1, k2, kh2, k3, kh3, k6, ht64', ht16', w2', w7', w15', w16', a2, a7, a15, a16, d1, d2, d3, hst, hwl, ht63, l2, m2, l7, m7, l15, m15, l16, m16, wrap_nat (show t < 2 ^ 63 - 1 by omega), wk, act, asV, ↓reduceIte, Nat.reduceEqDiff, reduceCtorEq, Nat.reduceAdd, Nat.reduceLeDiff, Nat.reduceSub, Nat.reduceMul, List.reduceReplicate, Int.reduceEq, Int.reduceLT, Int.reduceLE, Int.reduceAdd, Int.reduceSub, Int.reduceMul, Nat.reduceLT, Int.reduceToNat])))
      have e : schN b (t + 1) ++ zw (64 - (t + 1)) = schN b t ++ wordAt b (schN b t) t :: zw (63 - t) := by
        rw [schN, List.append_assoc, show 64 - (t + 1) = 63 - t by omega]; rfl
      refine ⟨64 - (t + 1), by omega, t + 1, by omega, rfl, rfl, v3, rfl, ?_⟩
      rw [e]
  · obtain rfl : t = 64 := by omega
    have hl : (schN b 64 ++ zw (64 - 64)) = schN b 64 := by simp [zw]
    rw [hl] at kh3
    have hwl : (wl (schN b 64)).length = 64 := by rw [wl_length, hW]
    have t64 : List.take 64 (wl (schN b 64)) = wl (schN b 64) := List.take_of_length_le (by omega)
    have d64 : List.drop 64 (wl (schN b 64)) = [] := List.drop_of_length_le (by omega)
    have z1 : (wl (zw 64)).length = 64 := rfl
    have z2 : List.take 64 (wl (zw 64)) = wl (zw 64) := rfl
    have z3 : List.drop 64 (wl (zw 64)) = [] := rfl
    simp -implicitDefEqProofs (maxSteps := 2000000) only [m49_1, m49_2, m49_3, m49_4, m49_5, m49_6, m49_7, m49_8, m49_9, m49_10, m49_11, m49_12, m49_13, m49_14, m49_15, m49_16, m49_r, m49_b, m49, k1, kh1, k2, kh2, k3, kh3, k6, hwl, t64, d64, z1, z2, z3, wl_scal, wk, act, asV, ↓reduceIte, Nat.reduceEqDiff, reduceCtorEq, Nat.reduceAdd, Nat.reduceLeDiff, Nat.reduceSub, Nat.reduceMul, List.reduceReplicate, Int.reduceEq, Int.reduceLT, Int.reduceLE, Int.reduceAdd, Int.reduceSub, Int.reduceMul, Nat.reduceLT, Int.reduceToNat]
end Go.Proofs.Ytkphojcmjffccaa
