/- Regions whose order is open. -/
import Derived.Test.YtmblapgoimegkaaDoorE18
set_option linter.unusedSectionVars false
set_option linter.unusedVariables false
set_option linter.unusedSimpArgs false
namespace Go.Proofs.YtmblapgoimegkaaDoor
open Go.RowKit

/-! ### who must come before whom -/
def edgeMask (tbl : List Nat) (m : Nat) (e : Edge) : Nat := if Region.binds .any e then m ||| 2 ^ e.on ||| tbl.getD e.on 0 else m
def ancs : List Oper → List Nat → List Nat
  | [], tbl => tbl
  | o :: os, tbl => ancs os (tbl ++ [o.after.toList.foldl (edgeMask tbl) 0])

def MI.isOp : MI → Bool
  | .op _ _ _ => true
  | _ => false
def tmpOf : Opd → Option Nat
  | .tmp t => some t
  | _ => none
def MI.reads : MI → List Nat
  | .op _ o g => o.opds.filterMap tmpOf ++ (g.map (·.1)).toList
  | _ => []
def MI.dst : MI → Option Nat
  | .op d _ _ => d
  | _ => none

def drawOk (ops : Array Oper) (pre : List MI) : Bool :=
  let tbl := ancs ops.toList []
  (List.range ops.size).all (fun i => match ops[i]? with | some o => o.after.toList.all (fun e => !Region.binds .any e || decide (e.on < i)) | none => false) &&
  decide ((dsts pre).length = pre.length) && decide (dsts pre).Nodup &&
  (List.range pre.length).all (fun i => match pre[i]? with
    | some m => m.reads.all (fun x => (List.range pre.length).all (fun j => !((dsts pre)[j]? == some x) || (decide (j < i) && (tbl.getD i 0).testBit j)))
    | none => false) &&
  (List.range ops.size).all (fun k => decide (k < pre.length) || (List.range k).all (fun j => (tbl.getD k 0).testBit j))

section
variable {ops : Array Oper}

def Closed (ops : Array Oper) (L : Nat → Prop) : Prop := ∀ i o, ops[i]? = some o → L i → ∀ e ∈ o.after.toList, Region.binds .any e = true → L e.on
def Anc (ops : Array Oper) (i j : Nat) : Prop := ∀ L, Closed ops L → ∀ o, ops[i]? = some o → (∀ e ∈ o.after.toList, Region.binds .any e = true → L e.on) → L j

theorem fold_mask (tbl : List Nat) (j : Nat) : ∀ (es : List Edge) (m : Nat), (es.foldl (edgeMask tbl) m).testBit j = true → m.testBit j = true ∨ ∃ e ∈ es, Region.binds .any e = true ∧ (j = e.on ∨ (tbl.getD e.on 0).testBit j = true)
  | [], m, h => .inl h
  | e :: es, m, h => by
    rcases fold_mask tbl j es _ h with h | ⟨e', he', h1, h2⟩
    · unfold edgeMask at h
      split at h
      · rename_i hb
        rw [Nat.testBit_or, Nat.testBit_or, Bool.or_eq_true, Bool.or_eq_true] at h
        rcases h with (h | h) | h
        · exact .inl h
        · rw [Nat.testBit_two_pow] at h
          exact .inr ⟨e, by simp, hb, .inl (by simpa using h : e.on = j).symm⟩
        · exact .inr ⟨e, by simp, hb, .inr h⟩
      · exact .inl h
    · exact .inr ⟨e', by simp [he'], h1, h2⟩

theorem ancs_ok : ∀ (os : List Oper) (tbl : List Nat), ops.toList.drop tbl.length = os → tbl.length ≤ ops.size → (∀ i j, (tbl.getD i 0).testBit j = true → Anc ops i j) → ∀ i j, ((ancs os tbl).getD i 0).testBit j = true → Anc ops i j
  | [], tbl, _, _, h => h
  | o :: os, tbl, hd, hlen, h => by
    have ho : ops[tbl.length]? = some o := by
      have h0 : (ops.toList.drop tbl.length)[0]? = some o := by rw [hd]; rfl
      rwa [List.getElem?_drop, Nat.add_zero, Array.getElem?_toList] at h0
    have hlt := (Array.getElem?_eq_some_iff.1 ho).1
    refine ancs_ok os _ (by rw [List.length_append, List.length_singleton, ← List.tail_drop, hd]; rfl) (by simp; omega) (fun i j hij => ?_)
    by_cases hi : i < tbl.length
    · rw [List.getD_eq_getElem?_getD, List.getElem?_append_left hi, ← List.getD_eq_getElem?_getD] at hij
      exact h i j hij
    · by_cases hie : i = tbl.length
      · subst hie
        rw [List.getD_eq_getElem?_getD, List.getElem?_append_right (Nat.le_refl _), Nat.sub_self] at hij
        simp only [List.getElem?_cons_zero, Option.getD_some] at hij
        rcases fold_mask tbl j _ 0 hij with h0 | ⟨e, he, hb, hj⟩
        · simp at h0
        · intro L hL o' ho' hall
          rw [ho] at ho'
          injection ho' with ho'
          subst ho'
          have hon := hall e he hb
          rcases hj with rfl | hj
          · exact hon
          · cases hoo : ops[e.on]? with
            | none =>
              exfalso
              rw [Array.getElem?_eq_none_iff] at hoo
              rw [List.getD_eq_getElem?_getD, List.getElem?_eq_none (by omega)] at hj
              simp at hj
            | some oo => exact h e.on j hj L hL oo hoo (hL e.on oo hoo hon)
      · rw [List.getD_eq_getElem?_getD, List.getElem?_eq_none (by simp; omega)] at hij
        simp at hij

theorem ancs_anc {i j : Nat} (h : ((ancs ops.toList []).getD i 0).testBit j = true) : Anc ops i j :=
  ancs_ok ops.toList [] rfl (by simp) (fun i j h => by simp at h) i j h

structure DrawOk (ops : Array Oper) (pre : List MI) : Prop where
  back : ∀ i o, ops[i]? = some o → ∀ e ∈ o.after.toList, Region.binds .any e = true → e.on < i
  len : (dsts pre).length = pre.length
  nodup : (dsts pre).Nodup
  reads : ∀ i (hi : i < pre.length), ∀ x ∈ pre[i].reads, ∀ j, (dsts pre)[j]? = some x → j < i ∧ Anc ops i j
  suf : ∀ k, pre.length ≤ k → k < ops.size → ∀ j, j < k → Anc ops k j

theorem drawOk_spec {pre : List MI} (h : drawOk ops pre = true) : DrawOk ops pre := by
  unfold drawOk at h
  simp only [Bool.and_eq_true, decide_eq_true_eq] at h
  obtain ⟨⟨⟨⟨h1, h2⟩, h3⟩, h4⟩, h5⟩ := h
  rw [List.all_eq_true] at h1 h4 h5
  refine ⟨fun i o ho e he hb => ?_, h2, h3, fun i hi x hx j hj => ?_, fun k hk hk' j hj => ?_⟩
  · have hi := (Array.getElem?_eq_some_iff.1 ho).1
    have := h1 i (List.mem_range.2 hi)
    rw [ho] at this
    simp only [List.all_eq_true] at this
    have := this e he
    simpa [hb] using this
  · have := h4 i (List.mem_range.2 hi)
    rw [List.getElem?_eq_getElem hi] at this
    simp only [List.all_eq_true] at this
    have hjl : j < pre.length := by
      rw [← h2]
      exact (List.getElem?_eq_some_iff.1 hj).1
    have := this x hx j (List.mem_range.2 hjl)
    rw [hj] at this
    simp only [BEq.rfl, Bool.not_true, Bool.false_or, Bool.and_eq_true, decide_eq_true_eq] at this
    exact ⟨this.1, ancs_anc this.2⟩
  · have := h5 k (List.mem_range.2 hk')
    simp only [Bool.or_eq_true, decide_eq_true_eq, List.all_eq_true] at this
    rcases this with this | this
    · omega
    · exact ancs_anc (this j (List.mem_range.2 hj))
end

section
variable [Off] [Gh] [Old] {P : Program} {w0 : World} {N : Nat} {ops : Array Oper} {Q : Exit → Act → World → Prop}

theorem getD_lt {listed : Array Bool} {i : Nat} (h : i < listed.size) (d d' : Bool) : listed.getD i d = listed.getD i d' := by
  simp [Array.getD_eq_getD_getElem?, h]

/-- when what is left is forced -/
theorem forced_wp {pre : List MI} (hok : DrawOk ops pre) : ∀ (n k : Nat) (listed : Array Bool) (a : Act) (w : World), pre.length ≤ k → k + n = ops.size → listed.size = ops.size → (∀ j, j < ops.size → listed.getD j false = decide (j < k)) →
    wpOps P ops Q (List.range' k n) a w → wpAny P .any ops Q n listed a w
  | 0, k, listed, a, w, hp, hk, hs, hl, h => by
    refine wpAny_done ?_ h 0
    cases hr : Region.ready .any ops listed with
    | nil => rfl
    | cons i rs =>
      have hi : i ∈ Region.ready .any ops listed := by rw [hr]; simp
      obtain ⟨hun, o, ho, _⟩ := mem_ready.1 hi
      have hlt := (Array.getElem?_eq_some_iff.1 ho).1
      rw [getD_lt (by omega) true false, hl i hlt] at hun
      simp at hun
      omega
  | n + 1, k, listed, a, w, hp, hk, hs, hl, h => by
    have hkl : k < ops.size := by omega
    have hready : k ∈ Region.ready .any ops listed := by
      refine mem_ready.2 ⟨?_, ops[k], by simp [hkl], fun e he hb => ?_⟩
      · rw [getD_lt (by omega) true false, hl k hkl]; simp
      · have := hok.back k ops[k] (by simp [hkl]) e (by simpa using he) hb
        rw [hl _ (by omega)]; simpa using this
    refine ⟨fun h0 => (by rw [h0] at hready; cases hready), fun i hi => ?_⟩
    obtain ⟨hun, o, ho, hpre⟩ := mem_ready.1 hi
    have hlt := (Array.getElem?_eq_some_iff.1 ho).1
    rw [getD_lt (by omega) true false, hl i hlt] at hun
    have hik : k ≤ i := by simp at hun; omega
    have : i = k := by
      rcases Nat.lt_or_ge k i with hki | hki
      · exfalso
        have hcl : Closed ops (fun j => listed.getD j false = true) := fun j oj hoj hlj e he hb => by
          have hjl := (Array.getElem?_eq_some_iff.1 hoj).1
          have hlj : listed.getD j false = true := hlj
          show listed.getD e.on false = true
          rw [hl j hjl] at hlj
          have := hok.back j oj hoj e he hb
          rw [hl _ (by omega)]
          simp at hlj ⊢
          omega
        have hanc : listed.getD k false = true := hok.suf i (by omega) hlt k hki _ hcl o ho (fun e he hb => hpre e (by simpa using he) hb)
        rw [hl k hkl] at hanc
        simp at hanc
      · omega
    subst this
    rw [List.range'_succ, wpOps_cons] at h
    refine wpOp_mono (fun a' w' h' => ?_) h
    refine forced_wp hok n (i + 1) _ a' w' (by omega) (by omega) (by simpa using hs) (fun j hj => ?_) h'
    by_cases hji : i = j
    · subst hji; simp [hs, hj]
    · rw [getD_set_ne false hji, hl j hj]
      simp; omega

theorem compL_ops : ∀ (hs : List MI) (os : List Oper) (l : List MI), compL P N ops os hs = some l → hs.all MI.isOp = true → l.length = os.length ∧ hs.length = os.length ∧
    ∀ i (hi : i < os.length) (hi' : i < l.length), ∃ h m g, cop P os[i] h = some m ∧ guardT ops os[i].guard = some g ∧ dstOk N os[i].dst = true ∧ l[i] = .op os[i].dst m g
  | [], [], l, h, _ => by simp only [compL, Option.some.injEq] at h; subst h; exact ⟨rfl, rfl, fun i hi => by simp at hi⟩
  | .op _ h _ :: hs, o :: os, l, hc, ha => by
    simp only [compL] at hc
    split at hc
    · rename_i m g l' hm hg hd hl
      injection hc with hc; subst hc
      obtain ⟨e1, e2, e3⟩ := compL_ops hs os l' hl (by simpa [MI.isOp] using ha)
      refine ⟨by simp [e1], by simp [e2], fun i hi hi' => ?_⟩
      cases i with
      | zero => exact ⟨h, m, g, hm, hg, hd, rfl⟩
      | succ i => exact e3 i (by simpa using hi) (by simpa using hi')
    · cases hc
  | [], _ :: _, _, hc, _ => by simp [compL] at hc
  | .op _ _ _ :: _, [], _, hc, _ => by simp [compL] at hc
  | .frz _ :: _, _, _, _, ha => by simp [MI.isOp] at ha
  | .kill _ :: _, _, _, _, ha => by simp [MI.isOp] at ha
end
end Go.Proofs.YtmblapgoimegkaaDoor
