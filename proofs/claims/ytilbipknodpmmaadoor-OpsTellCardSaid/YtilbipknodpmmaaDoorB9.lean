/- Names: plain laws; plain. -/
import Derived.Test.YtilbipknodpmmaaDoorN3
import Derived.Test.YtilbipknodpmmaaDoorE31
import Derived.Test.YtilbipknodpmmaaDoorB5
set_option linter.unusedVariables false
set_option linter.unusedSimpArgs false
set_option maxRecDepth 100000
set_option maxHeartbeats 4000000
namespace Go.Proofs.YtilbipknodpmmaaDoor
open Go.RowKit

theorem pad4_trim {b : List UInt8} (hb : b.length = 4) : pad4 (trimR isZ b) = b := by
  match b, hb with
  | [b0, b1, b2, b3], _ =>
    by_cases h3 : b3 = 0
    · by_cases h2 : b2 = 0
      · by_cases h1 : b1 = 0
        · by_cases h0 : b0 = 0
          · simp [trimR, isZ, pad4, h0, h1, h2, h3]
          · simp [trimR, isZ, pad4, h0, h1, h2, h3]
        · simp [trimR, isZ, pad4, h1, h2, h3]
      · simp [trimR, isZ, pad4, h2, h3]
    · simp [trimR, isZ, pad4, h3]
theorem cutN_some {b s : List UInt8} (hb : b.length = 4) (h : cutN b = some s) : pad4 s = b ∧ (s = [] ∨ goodN s = true) ∧ s.length ≤ 4 := by
  unfold cutN at h
  split at h
  · rename_i hc
    injection h with h
    subst h
    exact ⟨pad4_trim hb, hc, by have := trimR_le isZ b; omega⟩
  · cases h
theorem trim_pad {s : List UInt8} (h : goodN s = true) : trimR isZ (pad4 s) = s := by
  simp only [goodN, Bool.and_eq_true, decide_eq_true_eq] at h
  obtain ⟨⟨h1, h2⟩, h3⟩ := h
  have hz : ∀ x ∈ s, x ≠ 0 := fun x hx => low_ne (List.all_eq_true.1 h3 x hx)
  match s with
  | [] => simp at h1
  | [a] => have := hz a (by simp); simp [trimR, isZ, pad4, this]
  | [a, b] => have := hz b (by simp); simp [trimR, isZ, pad4, this]
  | [a, b, c] => have := hz c (by simp); simp [trimR, isZ, pad4, this]
  | [a, b, c, d] => have := hz d (by simp); simp [trimR, isZ, pad4, this]
  | a :: b :: c :: d :: e :: s => simp at h2
theorem cutN_pad {s : List UInt8} (h : goodN s = true) : cutN (pad4 s) = some s := by
  unfold cutN
  rw [trim_pad h, if_pos (.inr h)]
theorem cutS_le {b : List UInt8} (hb : b.length = 4) : (cutS b).length ≤ 4 := by
  unfold cutS
  cases h : cutN b with
  | none => simp
  | some s => exact (cutN_some hb h).2.2
end Go.Proofs.YtilbipknodpmmaaDoor
/- Of the table: the volumes of a block. -/

set_option linter.unusedVariables false
set_option linter.unusedSimpArgs false
set_option maxRecDepth 100000
set_option maxHeartbeats 8000000
namespace Go.Proofs.YtilbipknodpmmaaDoor
open Go.RowKit

def nm4 (b : List UInt8) (o : Nat) : List UInt8 := [b.getD o 0, b.getD (o + 1) 0, b.getD (o + 2) 0, b.getD (o + 3) 0]
def blksAt (b : List UInt8) (o c : Nat) : List Int := (List.range c).map fun k => ((b.getD (o + k) 0).toNat : Int)
theorem blksAt_length (b : List UInt8) (o c : Nat) : (blksAt b o c).length = c := by simp [blksAt]
theorem blksAt_succ (b : List UInt8) (o c : Nat) : blksAt b o (c + 1) = blksAt b o c ++ [((b.getD (o + c) 0).toNat : Int)] := by simp [blksAt, List.range_succ]
def cntAt (b : List UInt8) (i : Nat) : Nat := (b.getD (1 + 9 * i + 4) 0).toNat
def volAt (b : List UInt8) (i : Nat) : Vol := ⟨cutS (nm4 b (1 + 9 * i)), blksAt b (1 + 9 * i + 5) (min (cntAt b i) 4)⟩
def volsTo (b : List UInt8) (n : Nat) : List Vol := (List.range n).map (volAt b)
theorem volsTo_length (b : List UInt8) (n : Nat) : (volsTo b n).length = n := by simp [volsTo]
theorem volsTo_succ (b : List UInt8) (n : Nat) : volsTo b (n + 1) = volsTo b n ++ [volAt b n] := by simp [volsTo, List.range_succ]
def saidV (b : List UInt8) : List Vol := volsTo b (b.getD 0 0).toNat
def isB (b : List UInt8) : Bool := decide ((b.getD 0 0).toNat ≤ 3) && goodV (saidV b) && decide (tabB (saidV b) = b)
def decV (b : List UInt8) : List Vol := if isB b = true then saidV b else []
def decVE (b : List UInt8) : Int := if isB b = true then 0 else 11
theorem decV_no {b : List UInt8} (h : isB b = false) : decV b = [] ∧ decVE b = 11 := by
  constructor
  · unfold decV; rw [if_neg (by rw [h]; decide)]
  · unfold decVE; rw [if_neg (by rw [h]; decide)]
theorem decV_yes {b : List UInt8} (h : isB b = true) : decV b = saidV b ∧ decVE b = 0 := by
  constructor
  · unfold decV; rw [if_pos h]
  · unfold decVE; rw [if_pos h]
theorem isB_of {b : List UInt8} (h1 : (b.getD 0 0).toNat ≤ 3) (h2 : goodV (saidV b) = true) (h3 : tabB (saidV b) = b) : isB b = true := by
  unfold isB; rw [decide_eq_true h1, h2, decide_eq_true h3]; rfl
theorem isB_split {b : List UInt8} (h : isB b = true) : (b.getD 0 0).toNat ≤ 3 ∧ goodV (saidV b) = true ∧ tabB (saidV b) = b := by
  simp only [isB, Bool.and_eq_true, decide_eq_true_eq] at h
  exact ⟨h.1.1, h.1.2, h.2⟩
theorem isB_no {b : List UInt8} (h : ¬ ((b.getD 0 0).toNat ≤ 3 ∧ goodV (saidV b) = true ∧ tabB (saidV b) = b)) : isB b = false := by
  cases hb : isB b with
  | true => exact absurd (isB_split hb) h
  | false => rfl
theorem tabB_get {vs : List Vol} {i r : Nat} (hi : i < vs.length) (hr : r < 9) : (tabB vs).getD (1 + 9 * i + r) 0 = (entV vs[i]).getD r 0 := by
  have e : entsV vs = entsV (vs.take i) ++ (entV vs[i] ++ entsV (vs.drop (i + 1))) := by
    conv => lhs; rw [← List.take_append_drop i vs, List.drop_eq_getElem_cons hi]
    simp only [entsV, List.flatMap_append, List.flatMap_cons]
  have l : (entsV (vs.take i)).length = 9 * i := by rw [entsV_length, List.length_take]; omega
  have l2 : (entV vs[i]).length = 9 := entV_length _
  unfold tabB
  rw [e, show 1 + 9 * i + r = (9 * i + r) + 1 by omega, List.getD_cons_succ]
  simp only [List.getD_eq_getElem?_getD]
  rw [List.append_assoc, List.getElem?_append_right (by omega), l, show 9 * i + r - 9 * i = r by omega, List.append_assoc, List.getElem?_append_left (by omega)]
theorem pad4_nm (v : Vol) : nm4 (entV v) 0 = pad4 v.name := by
  have hl := pad4_length v.name
  match hp : pad4 v.name, hl with
  | [a, b, c, d], _ => simp [nm4, entV, hp]
theorem entV_cnt (v : Vol) : (entV v).getD 4 0 = u8 v.blocks.length := by
  have hl := pad4_length v.name
  match hp : pad4 v.name, hl with
  | [a, b, c, d], _ => simp [entV, hp]
theorem tabB_nm {vs : List Vol} {i : Nat} (hi : i < vs.length) : nm4 (tabB vs) (1 + 9 * i) = pad4 vs[i].name := by
  rw [← pad4_nm]
  have h0 := tabB_get hi (r := 0) (by decide)
  have h1 := tabB_get hi (r := 1) (by decide)
  have h2 := tabB_get hi (r := 2) (by decide)
  have h3 := tabB_get hi (r := 3) (by decide)
  simp only [Nat.add_zero] at h0
  simp only [nm4, h0, h1, h2, h3, Nat.zero_add]
theorem tabB_cnt {vs : List Vol} {i : Nat} (hi : i < vs.length) : (tabB vs).getD (1 + 9 * i + 4) 0 = u8 vs[i].blocks.length := by
  rw [tabB_get hi (by decide), entV_cnt]
theorem cutO_pad {s : List UInt8} (h : goodN s = true) : cutO (pad4 s) = true ∧ cutS (pad4 s) = s := by
  have := cutN_pad h
  constructor
  · unfold cutO; rw [this]; rfl
  · unfold cutS; rw [this]; rfl
theorem isB_at {b : List UInt8} (h : isB b = true) {i : Nat} (hi : i < (b.getD 0 0).toNat) : cutO (nm4 b (1 + 9 * i)) = true ∧ cntAt b i ≤ 4 := by
  obtain ⟨h1, h2, h3⟩ := isB_split h
  have hl : i < (saidV b).length := by simpa [saidV, volsTo_length] using hi
  obtain ⟨hn, hb1, hb4, _⟩ := volP_bl ((goodV_P h2).at hl)
  have e1 := tabB_nm hl
  have e2 := tabB_cnt hl
  rw [h3] at e1 e2
  constructor
  · rw [e1]; exact (cutO_pad hn).1
  · unfold cntAt; rw [e2, u8_toNat]; omega
theorem volAt_ok (b : List UInt8) (i : Nat) : (volAt b i).name.length < 2 ^ 63 ∧ (volAt b i).blocks.length ≤ 4 := by
  constructor
  · have := cutS_le (b := nm4 b (1 + 9 * i)) rfl
    show (cutS (nm4 b (1 + 9 * i))).length < 2 ^ 63
    omega
  · show (blksAt _ _ _).length ≤ 4
    rw [blksAt_length]; omega
theorem volsTo_ok (b : List UInt8) {n : Nat} (hn : n < 256) : VsOk (volsTo b n) := by
  refine ⟨by rw [volsTo_length]; omega, ?_, ?_⟩
  · intro v hv
    obtain ⟨i, _, rfl⟩ := List.mem_map.1 hv
    exact (volAt_ok b i).1
  · intro v hv
    obtain ⟨i, _, rfl⟩ := List.mem_map.1 hv
    have := (volAt_ok b i).2
    omega
theorem at_bl {b : List UInt8} {k : Nat} (h : k < b.length) : List.take 1 (List.drop k (bl b)) = [.int .u8 ((b.getD k 0).toNat : Int)] := by
  rw [drop_bl h]; simp [List.getD, h]
theorem at4_bl {b : List UInt8} {k : Nat} (h : k + 4 ≤ b.length) : List.take 4 (List.drop k (bl b)) = bl (nm4 b k) := by
  rw [bl_drop, bl_take]
  congr 1
  apply List.ext_getElem
  · simp [nm4]; omega
  · intro i h1 h2
    simp only [nm4, List.length_cons, List.length_nil] at h2
    have hi : i = 0 ∨ i = 1 ∨ i = 2 ∨ i = 3 := by omega
    have e : ∀ j (hj : j < 4), b.getD (k + j) 0 = b[k + j]'(by omega) := fun j hj => by
      have hkj : k + j < b.length := by omega
      simp [List.getD, hkj]
    rcases hi with rfl | rfl | rfl | rfl <;> simp [nm4, List.getElem_take, List.getElem_drop]
    · exact (e 0 (by decide)).symm
    · exact (e 1 (by decide)).symm
    · exact (e 2 (by decide)).symm
    · exact (e 3 (by decide)).symm
end Go.Proofs.YtilbipknodpmmaaDoor
