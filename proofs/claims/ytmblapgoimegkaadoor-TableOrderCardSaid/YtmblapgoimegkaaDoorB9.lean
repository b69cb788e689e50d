/- Of the table: the volumes of a block. -/
import Derived.Test.YtmblapgoimegkaaDoorE31

import Derived.Test.YtmblapgoimegkaaDoorB5
import Derived.Test.YtmblapgoimegkaaDoorN4
set_option linter.unusedVariables false
set_option linter.unusedSimpArgs false
set_option maxRecDepth 100000
set_option maxHeartbeats 8000000
namespace Go.Proofs.YtmblapgoimegkaaDoor
open Go.RowKit

def nm4 (b : List UInt8) (o : Nat) : List UInt8 := [b.getD o 0, b.getD (o + 1) 0, b.getD (o + 2) 0, b.getD (o + 3) 0]
def blksAt (b : List UInt8) (o c : Nat) : List Int := (List.range c).map fun k => ((b.getD (o + k) 0).toNat : Int)
theorem blksAt_length (b : List UInt8) (o c : Nat) : (blksAt b o c).length = c := by simp [blksAt]
theorem blksAt_succ (b : List UInt8) (o c : Nat) : blksAt b o (c + 1) = blksAt b o c ++ [((b.getD (o + c) 0).toNat : Int)] := by simp [blksAt, List.range_succ]
def cntAt (b : List UInt8) (i : Nat) : Nat := (b.getD (1 + 9 * i + 4) 0).toNat
def volAt (b : List UInt8) (i : Nat) : Vol := ⟨cutS (nm4 b (1 + 9 * i)), blksAt b (1 + 9 * i + 5) (min (cntAt b i) 4)⟩
def volsTo (b : List UInt8) (n : Nat) : List Vol := (List.range n).map (volAt b)
theorem volsTo_length (b : List UInt8) (n : Nat) : (volsTo b n).length = n := by simp [volsTo]
theorem volsTo_succ (b : List UInt8) (n : Nat) : volsTo b (n + 1) = volsTo b n ++ [volAt b n] := by simp [volsTo, List.range_succ]
theorem volsTo_get (b : List UInt8) {n i : Nat} (h : i < (volsTo b n).length) : (volsTo b n)[i] = volAt b i := by simp [volsTo]
def saidV (b : List UInt8) : List Vol := volsTo b (b.getD 0 0).toNat
def isB (b : List UInt8) : Bool := decide ((b.getD 0 0).toNat ≤ 3) && goodV (saidV b) && decide (tabB (saidV b) = b)
def decV (b : List UInt8) : List Vol := if isB b = true then saidV b else []
def decVE (b : List UInt8) : Int := if isB b = true then 0 else 11
theorem decV_no {b : List UInt8} (h : isB b = false) : decV b = [] ∧ decVE b = 11 := by
  constructor
  · unfold decV; rw [if_neg (by rw [h]; decide)]
  · unfold decVE; rw [if_neg (by rw [h]; decide)]
theorem decV_yes {b : List UInt8} (h : isB b = true) : decV b = saidV b ∧ decVE b = 0 := by
  constructor
  · unfold decV; rw [if_pos h]
  · unfold decVE; rw [if_pos h]
theorem isB_of {b : List UInt8} (h1 : (b.getD 0 0).toNat ≤ 3) (h2 : goodV (saidV b) = true) (h3 : tabB (saidV b) = b) : isB b = true := by
  unfold isB; rw [decide_eq_true h1, h2, decide_eq_true h3]; rfl
theorem isB_split {b : List UInt8} (h : isB b = true) : (b.getD 0 0).toNat ≤ 3 ∧ goodV (saidV b) = true ∧ tabB (saidV b) = b := by
  simp only [isB, Bool.and_eq_true, decide_eq_true_eq] at h
  exact ⟨h.1.1, h.1.2, h.2⟩
theorem isB_no {b : List UInt8} (h : ¬ ((b.getD 0 0).toNat ≤ 3 ∧ goodV (saidV b) = true ∧ tabB (saidV b) = b)) : isB b = false := by
  cases hb : isB b with
  | true => exact absurd (isB_split hb) h
  | false => rfl
/-- an entry's bytes in the block -/
theorem tabB_get {vs : List Vol} {i r : Nat} (hi : i < vs.length) (hr : r < 9) : (tabB vs).getD (1 + 9 * i + r) 0 = (entV vs[i]).getD r 0 := by
  have e : entsV vs = entsV (vs.take i) ++ (entV vs[i] ++ entsV (vs.drop (i + 1))) := by
    conv => lhs; rw [← List.take_append_drop i vs, List.drop_eq_getElem_cons hi]
    simp only [entsV, List.flatMap_append, List.flatMap_cons]
  have l : (entsV (vs.take i)).length = 9 * i := by rw [entsV_length, List.length_take]; omega
  have l2 : (entV vs[i]).length = 9 := entV_length _
  unfold tabB
  rw [e, show 1 + 9 * i + r = (9 * i + r) + 1 by omega, List.getD_cons_succ]
  simp only [List.getD_eq_getElem?_getD]
  rw [List.append_assoc, List.getElem?_append_right (by omega), l, show 9 * i + r - 9 * i = r by omega, List.append_assoc, List.getElem?_append_left (by omega)]
theorem pad4_nm (v : Vol) : nm4 (entV v) 0 = pad4 v.name := by
  have hl := pad4_length v.name
  match hp : pad4 v.name, hl with
  | [a, b, c, d], _ => simp [nm4, entV, hp]
theorem entV_cnt (v : Vol) : (entV v).getD 4 0 = u8 v.blocks.length := by
  have hl := pad4_length v.name
  match hp : pad4 v.name, hl with
  | [a, b, c, d], _ => simp [entV, hp]
theorem entV_blk (v : Vol) {k : Nat} (h : k < 4) : (entV v).getD (5 + k) 0 = u8 (v.blocks.getD k 0).toNat := by
  have hl := pad4_length v.name
  match hp : pad4 v.name, hl with
  | [a, b, c, d], _ =>
    have : k = 0 ∨ k = 1 ∨ k = 2 ∨ k = 3 := by omega
    rcases this with rfl | rfl | rfl | rfl <;> simp [entV, hp, bk4]
theorem tabB_nm {vs : List Vol} {i : Nat} (hi : i < vs.length) : nm4 (tabB vs) (1 + 9 * i) = pad4 vs[i].name := by
  rw [← pad4_nm]
  have h0 := tabB_get hi (r := 0) (by decide)
  have h1 := tabB_get hi (r := 1) (by decide)
  have h2 := tabB_get hi (r := 2) (by decide)
  have h3 := tabB_get hi (r := 3) (by decide)
  simp only [Nat.add_zero] at h0
  simp only [nm4, h0, h1, h2, h3, Nat.zero_add]
theorem tabB_cnt {vs : List Vol} {i : Nat} (hi : i < vs.length) : (tabB vs).getD (1 + 9 * i + 4) 0 = u8 vs[i].blocks.length := by
  rw [tabB_get hi (by decide), entV_cnt]
theorem tabB_blk {vs : List Vol} {i k : Nat} (hi : i < vs.length) (hk : k < 4) : (tabB vs).getD (1 + 9 * i + (5 + k)) 0 = u8 (vs[i].blocks.getD k 0).toNat := by
  rw [tabB_get hi (by omega), entV_blk _ hk]
theorem cutO_pad {s : List UInt8} (h : goodN s = true) : cutO (pad4 s) = true ∧ cutS (pad4 s) = s := by
  have := cutN_pad h
  constructor
  · unfold cutO; rw [this]; rfl
  · unfold cutS; rw [this]; rfl
theorem isB_at {b : List UInt8} (h : isB b = true) {i : Nat} (hi : i < (b.getD 0 0).toNat) : cutO (nm4 b (1 + 9 * i)) = true ∧ cntAt b i ≤ 4 := by
  obtain ⟨h1, h2, h3⟩ := isB_split h
  have hl : i < (saidV b).length := by simpa [saidV, volsTo_length] using hi
  obtain ⟨hn, hb1, hb4, _⟩ := volP_bl ((goodV_P h2).at hl)
  have e1 := tabB_nm hl
  have e2 := tabB_cnt hl
  rw [h3] at e1 e2
  constructor
  · rw [e1]; exact (cutO_pad hn).1
  · unfold cntAt; rw [e2, u8_toNat]; omega
/-- the volumes of volumes' block are these -/
theorem saidV_tabB {vs : List Vol} (h : goodV vs = true) : saidV (tabB vs) = vs := by
  have h3 := goodV_len h
  have gp := goodV_P h
  have hn : ((tabB vs).getD 0 0).toNat = vs.length := by
    show (u8 vs.length).toNat = vs.length
    rw [u8_toNat]; omega
  unfold saidV
  rw [hn]
  apply List.ext_getElem
  · rw [volsTo_length]
  · intro i h1 h2
    rw [volsTo_get]
    obtain ⟨hnm, hb1, hb4, hin⟩ := volP_bl (gp.at h2)
    have e1 := tabB_nm h2
    have e2 := tabB_cnt h2
    have ec : cntAt (tabB vs) i = vs[i].blocks.length := by unfold cntAt; rw [e2, u8_toNat]; omega
    unfold volAt
    rw [e1, (cutO_pad hnm).2, ec, Nat.min_eq_left hb4]
    have eb : blksAt (tabB vs) (1 + 9 * i + 5) vs[i].blocks.length = vs[i].blocks := by
      apply List.ext_getElem
      · rw [blksAt_length]
      · intro k k1 k2
        have := tabB_blk (k := k) h2 (by omega)
        simp only [blksAt, List.getElem_map, List.getElem_range]
        rw [show 1 + 9 * i + 5 + k = 1 + 9 * i + (5 + k) by omega, this, u8_toNat]
        have hb := List.all_eq_true.1 hin _ (List.getElem_mem k2)
        have hb : 1 ≤ vs[i].blocks[k] ∧ vs[i].blocks[k] < 12 := by simpa [inB] using hb
        have eg : vs[i].blocks.getD k 0 = vs[i].blocks[k] := by simp [List.getD, k2]
        rw [eg]; omega
    rw [eb]
theorem isB_tabB {vs : List Vol} (h : goodV vs = true) : isB (tabB vs) = true := by
  have h3 := goodV_len h
  have hs := saidV_tabB h
  refine isB_of ?_ (by rw [hs]; exact h) (by rw [hs])
  show (u8 vs.length).toNat ≤ 3
  rw [u8_toNat]; omega
theorem tabB_inj {vs ws : List Vol} (h : goodV vs = true) (h' : goodV ws = true) : (tabB vs = tabB ws) = (vs = ws) := by
  apply propext
  constructor
  · intro e
    have := saidV_tabB h
    rw [e, saidV_tabB h'] at this
    exact this.symm
  · rintro rfl; rfl
theorem decV_tabB {vs : List Vol} (h : goodV vs = true) : decV (tabB vs) = vs ∧ decVE (tabB vs) = 0 := by
  obtain ⟨h1, h2⟩ := decV_yes (isB_tabB h)
  exact ⟨h1.trans (saidV_tabB h), h2⟩
theorem volAt_ok (b : List UInt8) (i : Nat) : (volAt b i).name.length < 2 ^ 63 ∧ (volAt b i).blocks.length ≤ 4 := by
  constructor
  · have := cutS_le (b := nm4 b (1 + 9 * i)) rfl
    show (cutS (nm4 b (1 + 9 * i))).length < 2 ^ 63
    omega
  · show (blksAt _ _ _).length ≤ 4
    rw [blksAt_length]; omega
theorem volsTo_ok (b : List UInt8) {n : Nat} (hn : n < 256) : VsOk (volsTo b n) := by
  refine ⟨by rw [volsTo_length]; omega, ?_, ?_⟩
  · intro v hv
    obtain ⟨i, _, rfl⟩ := List.mem_map.1 hv
    exact (volAt_ok b i).1
  · intro v hv
    obtain ⟨i, _, rfl⟩ := List.mem_map.1 hv
    have := (volAt_ok b i).2
    omega
theorem at_bl {b : List UInt8} {k : Nat} (h : k < b.length) : List.take 1 (List.drop k (bl b)) = [.int .u8 ((b.getD k 0).toNat : Int)] := by
  rw [drop_bl h]; simp [List.getD, h]
theorem at4_bl {b : List UInt8} {k : Nat} (h : k + 4 ≤ b.length) : List.take 4 (List.drop k (bl b)) = bl (nm4 b k) := by
  rw [bl_drop, bl_take]
  congr 1
  apply List.ext_getElem
  · simp [nm4]; omega
  · intro i h1 h2
    simp only [nm4, List.length_cons, List.length_nil] at h2
    have hi : i = 0 ∨ i = 1 ∨ i = 2 ∨ i = 3 := by omega
    have e : ∀ j (hj : j < 4), b.getD (k + j) 0 = b[k + j]'(by omega) := fun j hj => by
      have hkj : k + j < b.length := by omega
      simp [List.getD, hkj]
    rcases hi with rfl | rfl | rfl | rfl <;> simp [nm4, List.getElem_take, List.getElem_drop]
    · exact (e 0 (by decide)).symm
    · exact (e 1 (by decide)).symm
    · exact (e 2 (by decide)).symm
    · exact (e 3 (by decide)).symm
end Go.Proofs.YtmblapgoimegkaaDoor
