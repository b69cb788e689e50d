/- The law OpsFull. -/
import Derived.Test.YtilbipknodpmmaaDoorO10
import Derived.Test.YtilbipknodpmmaaDoorM36
import Derived.Test.YtilbipknodpmmaaDoorE31
import Derived.Test.YtilbipknodpmmaaDoorM13
set_option linter.unusedVariables false
set_option linter.unusedSimpArgs false
set_option linter.unusedSectionVars false
set_option maxRecDepth 100000
set_option maxHeartbeats 8000000
namespace Go.Proofs.YtilbipknodpmmaaDoor
open Go.RowKit

/-! ### how many are free -/
theorem erase_len {K : List Int} {x : Int} (hn : K.Nodup) (hx : x ∈ K) : (K.filter fun y => decide (y ≠ x)).length + 1 = K.length := by
  have e : (K.filter fun y => decide (y ≠ x)) = K.erase x := by
    rw [hn.erase_eq_filter]
    apply List.filter_congr
    intro y _
    by_cases h : y = x <;> simp [h]
  rw [e, List.length_erase_of_mem hx]
  have := List.length_pos_of_mem hx
  omega
theorem cnt : ∀ (L : List Int) {M : List Int}, L.Nodup → M.Nodup → (∀ b ∈ L, b ∈ M) → (M.filter fun x => decide (x ∉ L)).length + L.length = M.length
  | [], M, _, _, _ => by
    have e : (M.filter fun x => decide (x ∉ ([] : List Int))) = M := List.filter_eq_self.2 (by simp)
    rw [e]; rfl
  | x :: L, M, hL, hM, hin => by
    have hx := (List.nodup_cons.1 hL).1
    have ih := cnt L (List.nodup_cons.1 hL).2 hM fun b hb => hin b (List.mem_cons_of_mem _ hb)
    have e : (M.filter fun y => decide (y ∉ x :: L)) = (M.filter fun y => decide (y ∉ L)).filter fun y => decide (y ≠ x) := by
      rw [List.filter_filter]
      apply List.filter_congr
      intro y _
      by_cases h : y = x <;> by_cases h2 : y ∈ L <;> simp [h, h2]
    have := erase_len (K := M.filter fun y => decide (y ∉ L)) (x := x) (hM.sublist List.filter_sublist) (List.mem_filter.2 ⟨hin x (List.mem_cons_self ..), by simpa using hx⟩)
    rw [e, List.length_cons]
    omega
theorem frees_len {vs : List Vol} (hg : goodV vs = true) : (frees (used vs)).length + (allB vs).length = 11 := by
  have gp := goodV_P hg
  rw [frees_used gp.each]
  refine cnt (allB vs) gp.bls (frees_nodup 1) fun b hb => ?_
  unfold allB at hb
  obtain ⟨v, hv, hb⟩ := List.mem_flatMap.1 hb
  have := inB_pos (List.all_eq_true.1 (volP_bl (List.all_eq_true.1 gp.each v hv)).2.2.2 b hb)
  rw [frees_one]
  simp only [List.mem_cons, List.mem_nil_iff, or_false]
  omega
theorem mkE_at {vs : List Vol} {nm : List UInt8} {n : Nat} (hg : goodV vs = true) (hn : goodN nm = true) (hf : findV nm vs < 0) (h1 : 1 ≤ n) (h4 : n ≤ 4) : mkE vs nm (n : Nat) = if vs.length < 3 ∧ n + (allB vs).length ≤ 11 then 0 else 18 := by
  have := frees_len hg
  unfold mkE
  rw [if_neg (by rw [hn]; decide), if_neg (by omega), if_neg (by omega)]
  by_cases h3 : 3 ≤ vs.length
  · rw [if_pos h3, if_neg (by omega)]
  · rw [if_neg h3]
    by_cases h : ((frees (used vs)).length : Int) < (n : Nat)
    · rw [if_pos h, if_neg (by omega)]
    · rw [if_neg h, if_pos (by omega)]
/-! ### the names -/
def chr (i : Nat) : List UInt8 := [UInt8.ofNat (97 + i)]
theorem chr_good {i : Nat} (h : i < 12) : goodN (chr i) = true := by
  have : (List.range 12).all (fun i => goodN (chr i)) = true := by decide +kernel
  exact List.all_eq_true.1 this i (List.mem_range.2 h)
theorem chr_ne {i j : Nat} (h : j < i) (hi : i < 12) : chr j ≠ chr i := by
  have : (List.range 12).all (fun i => (List.range 12).all fun j => decide (j < i → chr j ≠ chr i)) = true := by decide +kernel
  have := List.all_eq_true.1 (List.all_eq_true.1 this i (List.mem_range.2 hi)) j (List.mem_range.2 (by omega))
  exact (of_decide_eq_true this) h
def Nmd (vs : List Vol) (i : Nat) : Prop := ∀ v ∈ vs, ∃ j, j < i ∧ v.name = chr j
theorem Nmd.find {vs : List Vol} {i : Nat} (h : Nmd vs i) (hi : i < 12) : findV (chr i) vs < 0 := by
  rw [findV_no]
  · decide
  · intro v hv
    obtain ⟨j, hj, e⟩ := h v hv
    unfold isV
    rw [e]
    exact decide_eq_false (chr_ne hj hi)
theorem Nmd.new {vs : List Vol} {i : Nat} (h : Nmd vs i) : findV [110, 101, 119] vs < 0 := by
  rw [findV_no]
  · decide
  · intro v hv
    obtain ⟨j, hj, e⟩ := h v hv
    unfold isV
    rw [e]
    refine decide_eq_false fun e2 => ?_
    have := congrArg List.length e2
    simp [chr] at this
theorem Nmd.snoc {vs : List Vol} {i : Nat} (h : Nmd vs i) (bs : List Int) : Nmd (vs ++ [⟨chr i, bs⟩]) (i + 1) := by
  intro v hv
  rcases List.mem_append.1 hv with hv | hv
  · obtain ⟨j, hj, e⟩ := h v hv
    exact ⟨j, by omega, e⟩
  · obtain rfl := List.mem_singleton.1 hv
    exact ⟨i, by omega, rfl⟩
theorem Nmd.more {vs : List Vol} {i : Nat} (h : Nmd vs i) : Nmd vs (i + 1) := by
  intro v hv
  obtain ⟨j, hj, e⟩ := h v hv
  exact ⟨j, by omega, e⟩
theorem allB_snoc (vs : List Vol) (nm : List UInt8) (bs : List Int) : (allB (vs ++ [⟨nm, bs⟩])).length = (allB vs).length + bs.length := by simp [allB]
theorem allB_erase {vs : List Vol} {j : Nat} (h : j < vs.length) : (allB (vs.eraseIdx j)).length + vs[j].blocks.length = (allB vs).length := by
  rw [allB_at h, List.eraseIdx_eq_take_drop_succ]
  unfold allB
  simp only [List.flatMap_append, List.length_append]
  omega
structure FI (vs : List Vol) (i many left : Nat) : Prop where
  g : goodV vs = true
  nm : Nmd vs i
  many : many = vs.length
  left : left + (allB vs).length = 11
theorem FI.start : FI [] 0 0 11 := ⟨by decide, fun v hv => (List.not_mem_nil hv).elim, rfl, rfl⟩
theorem tab0 : tabB [] = zs 32 := by decide +kernel
theorem FI.make {vs : List Vol} {i many left n : Nat} (h : FI vs i many left) (hi : i < 12) (h1 : 1 ≤ n) (h4 : n ≤ 4) :
    (∃ fr ps V, Mk vs (chr i) n fr ps V ∧ many < 3 ∧ n ≤ left ∧ FI V (i + 1) (many + 1) (left - n) ∧ RC Tryd.prog 21 [.agg (bl (tabB vs)), .str (chr i), .int .i64 (n : Nat)] [.own (n + 1) 33 (ptL ps), .int .i64 0]) ∨
    (vs ≠ [] ∧ ¬ (many < 3 ∧ n ≤ left) ∧ FI vs (i + 1) many left ∧ RC Tryd.prog 21 [.agg (bl (tabB vs)), .str (chr i), .int .i64 (n : Nat)] [.sl .full 0 [], .int .i64 18]) := by
  have c := makeP_ok (tabB vs) (chr i) (n : Nat) (tabB_length (goodV_len h.g)) (by show 1 < 2 ^ 63; omega)
  rw [decV_tab h.g] at c
  have e := mkE_at h.g (chr_good hi) (h.nm.find hi) h1 h4
  have hl := h.left
  have hm := h.many
  by_cases hh : vs.length < 3 ∧ n + (allB vs).length ≤ 11
  · rw [if_pos hh] at e
    obtain ⟨n', fr, V, en, hk⟩ := mk_of h.g e
    obtain rfl : n = n' := by omega
    rw [e, show outP 0 (mkP vs (chr i) (n : Nat)) = .own (mkP vs (chr i) (n : Nat)).length 33 (ptL (mkP vs (chr i) (n : Nat))) from if_pos rfl, hk.len] at c
    refine .inl ⟨fr, _, V, hk, by omega, by omega, ⟨hk.gV, ?_, ?_, ?_⟩, c⟩
    · rw [hk.eV]; exact h.nm.snoc fr
    · rw [hk.lV, hm]
    · rw [hk.eV, allB_snoc, hk.fl]; omega
  · rw [if_neg hh] at e
    rw [e, show outP 18 (mkP vs (chr i) (n : Nat)) = .sl .full 0 [] from if_neg (by decide)] at c
    refine .inr ⟨?_, by omega, ⟨h.g, h.nm.more, hm, hl⟩, c⟩
    rintro rfl
    exact hh ⟨by show 0 < 3; omega, by show n + 0 ≤ 11; omega⟩
theorem FI.gone {vs : List Vol} {i many left j : Nat} (h : FI vs i many left) (hj : j < vs.length) :
    RC Tryd.prog 23 [.agg (bl (tabB vs)), .str vs[j].name] [.own 1 33 (.int .i64 0 :: bl (tabB (vs.eraseIdx j))), .int .i64 0] ∧
    ∃ fr ps V, Mk (vs.eraseIdx j) [110, 101, 119] vs[j].blocks.length fr ps V ∧ RC Tryd.prog 21 [.agg (bl (tabB (vs.eraseIdx j))), .str [110, 101, 119], .int .i64 (vs[j].blocks.length : Nat)] [.own (vs[j].blocks.length + 1) 33 (ptL ps), .int .i64 0] := by
  have gp := goodV_P h.g
  have hv := volP_bl (gp.at hj)
  have ge := good_erase h.g j
  constructor
  · have hnl : vs[j].name.length < 2 ^ 63 := by
      obtain ⟨_, _, e⟩ := h.nm _ (List.getElem_mem hj)
      rw [e]; show 1 < 2 ^ 63; omega
    have c := goneP_ok (tabB vs) vs[j].name (tabB_length (goodV_len h.g)) hnl
    rw [decV_tab h.g] at c
    unfold gnE gnP at c
    rw [find_at h.g hj, if_neg (by omega), Int.toNat_natCast] at c
    have e2 : outP 0 [(0, tabB (vs.eraseIdx j))] = .own 1 33 (.int .i64 0 :: bl (tabB (vs.eraseIdx j))) := by
      unfold outP; rw [if_pos rfl]; simp [ptL, ptC]
    rw [e2] at c
    exact c
  · obtain ⟨n, hn⟩ : ∃ n, n = vs[j].blocks.length := ⟨_, rfl⟩
    have h1 := hv.2.1
    have h4 := hv.2.2.1
    have hle := allB_erase hj
    have hl := h.left
    have h3 := goodV_len h.g
    have le : (vs.eraseIdx j).length + 1 = vs.length := by rw [List.length_eraseIdx_of_lt hj]; omega
    rw [← hn] at h1 h4 hle ⊢
    have nmE : Nmd (vs.eraseIdx j) i := fun v hv => h.nm v ((List.eraseIdx_sublist vs j).subset hv)
    have c := makeP_ok (tabB (vs.eraseIdx j)) [110, 101, 119] (n : Nat) (tabB_length (goodV_len ge)) (by decide)
    rw [decV_tab ge] at c
    have e := mkE_at ge (nm := [110, 101, 119]) (by decide) nmE.new h1 h4
    rw [if_pos (by omega)] at e
    obtain ⟨n', fr, V, en, hk⟩ := mk_of ge e
    obtain rfl : n = n' := by omega
    rw [e, show outP 0 (mkP (vs.eraseIdx j) [110, 101, 119] (n : Nat)) = .own (mkP (vs.eraseIdx j) [110, 101, 119] (n : Nat)).length 33 (ptL (mkP (vs.eraseIdx j) [110, 101, 119] (n : Nat))) from if_pos rfl, hk.len] at c
    exact ⟨fr, _, V, hk, c⟩
end Go.Proofs.YtilbipknodpmmaaDoor
