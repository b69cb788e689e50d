/- How values of the ideal machine stand in memory. -/
import Derived.Test.YtmblapgoimegkaaDoorE1
set_option linter.unusedSectionVars false
set_option linter.unusedVariables false
set_option linter.unusedSimpArgs false
namespace Go.Proofs.YtmblapgoimegkaaDoor
open Go.RowKit

def bsize (w : World) (b : Nat) : Nat := match w.heap[b]? with
  | some (.cells cs _ _) => cs.size
  | _ => 0

structure Sx where
  w : World
  S : Nat → Prop
  H : Nat → Blk
  φ : Nat → Option (Nat × Nat)
  base : Nat

def CellsAt (c : Sx) (A : Option Addr) (us : List Value) : Prop :=
  ∀ i (h : i < us.length), ∃ a, A = some a ∧ a.spot = none ∧ c.S a.block ∧ c.w.cell? ⟨a.block, a.off + i, none⟩ = some us[i]

def rowR (c : Sx) (h off n sz : Nat) (A : Option Addr) (k : Nat) : Prop :=
  off + n * sz ≤ (c.H h).cells.length ∧
  match c.φ h with
  | some (b, o) => (k = 0 ∨ A = some ⟨b, o + off, none⟩) ∧ o + off + k * sz ≤ bsize c.w b
  | none => k = 0 ∧ off = 0

def ptrR (c : Sx) (h off : Nat) (v : Value) : Prop :=
  match c.φ h with
  | some (b, o) => v = .pointer (some ⟨b, o + off, none⟩)
  | none => False

def isPtr : Value → Bool
  | .pointer _ => true
  | _ => false

mutual
def VR (c : Sx) : IV → Value → Prop
  | .int k n, v => v = .int k n
  | .bool b, v => v = .bool b
  | .str l, v => v = .string ⟨l.toArray⟩
  | .nilp, v => v = .pointer none
  | .clo f caps, v => ∃ us, v = .func (.func f) #[] us.toArray ∧ caps.all IV.nlit = true ∧ VRL c caps us
  | .sl f n cs, v => ∃ A k us, v = .slice A n k ∧ n ≤ k ∧ (f ≠ .plain → k = n) ∧ (f = .lit → ∀ a, A = some a → c.base ≤ a.block) ∧ IV.purL cs = true ∧ cs.all IV.one = true ∧ VRL c cs us ∧ CellsAt c A us
  | .row h off n sz ver, v => ver ≤ (c.H h).ver ∧ ∃ A k, v = .slice A n k ∧ n ≤ k ∧ ((c.H h).live = true → (c.H h).ver = ver → rowR c h off n sz A k)
  | .ptr h off ver, v => ver ≤ (c.H h).ver ∧ isPtr v = true ∧ ((c.H h).live = true → (c.H h).ver = ver → ptrR c h off v)
  | .addr cs, v => ∃ a us, v = .pointer (some a) ∧ a.spot = none ∧ IV.purL cs = true ∧ cs.all IV.one = true ∧ VRL c cs us ∧ CellsAt c (some a) us
  | .agg cs, v => ∃ us, v = .agg us.toArray ∧ cs.all IV.one = true ∧ VRL c cs us
  | .tup vs, v => ∃ us, v = .tuple us.toArray ∧ vs.all IV.nlit = true ∧ VRL c vs us
  | .own _ _ _, _ => False
  | .lits n _ cs, v => ∃ A us, v = .slice A n n ∧ (∀ a, A = some a → c.base ≤ a.block) ∧ cs.all IV.one = true ∧ VRL c cs us ∧ CellsAt c A us
  | .anyB, v => ∃ b, v = .bool b
  | .undef, _ => True
def VRL (c : Sx) : List IV → List Value → Prop
  | [], us => us = []
  | x :: xs, us => ∃ u us', us = u :: us' ∧ VR c x u ∧ VRL c xs us'
end

theorem VRL.length {c : Sx} : ∀ {cs : List IV} {us : List Value}, VRL c cs us → us.length = cs.length
  | [], us, h => by simp only [VRL] at h; subst h; rfl
  | x :: xs, us, h => by
    simp only [VRL] at h
    obtain ⟨u, us', rfl, _, h⟩ := h
    simp [VRL.length h]

theorem VRL.get {c : Sx} : ∀ {cs : List IV} {us : List Value}, VRL c cs us → ∀ i (h : i < cs.length) (h' : i < us.length), VR c cs[i] us[i]
  | [], us, _, i, h, _ => by simp at h
  | x :: xs, us, h, i, hi, hi' => by
    simp only [VRL] at h
    obtain ⟨u, us', rfl, hu, h⟩ := h
    cases i with
    | zero => exact hu
    | succ i => exact VRL.get h i (by simpa using hi) (by simpa using hi')

theorem VRL.mk {c : Sx} : ∀ {cs : List IV} {us : List Value}, us.length = cs.length → (∀ i (h : i < cs.length) (h' : i < us.length), VR c cs[i] us[i]) → VRL c cs us
  | [], us, hl, _ => by simp only [VRL]; simpa using hl
  | x :: xs, [], hl, _ => by simp at hl
  | x :: xs, u :: us, hl, h => by
    simp only [VRL]
    exact ⟨u, us, rfl, h 0 (by simp) (by simp), VRL.mk (by simpa using hl) (fun i hi hi' => h (i + 1) (by simpa using hi) (by simpa using hi'))⟩

theorem VRL.nil {c : Sx} : VRL c [] [] := by simp [VRL]
theorem VRL.cons {c : Sx} {x : IV} {u : Value} {xs : List IV} {us : List Value} (h : VR c x u) (hs : VRL c xs us) : VRL c (x :: xs) (u :: us) := by
  simp only [VRL]; exact ⟨u, us, rfl, h, hs⟩

theorem VRL.append {c : Sx} : ∀ {xs : List IV} {us : List Value} {ys : List IV} {vs : List Value}, VRL c xs us → VRL c ys vs → VRL c (xs ++ ys) (us ++ vs)
  | [], us, ys, vs, h, h' => by simp only [VRL] at h; subst h; exact h'
  | x :: xs, us, ys, vs, h, h' => by
    simp only [VRL] at h
    obtain ⟨u, us', rfl, hu, h⟩ := h
    exact VRL.cons hu (VRL.append h h')

theorem VRL.take {c : Sx} {xs : List IV} {us : List Value} (h : VRL c xs us) (m : Nat) : VRL c (xs.take m) (us.take m) :=
  VRL.mk (by simp [h.length]) (fun i hi hi' => by
    simp only [List.getElem_take]
    simp only [List.length_take] at hi hi'
    exact h.get i (by omega) (by omega))
theorem VRL.drop {c : Sx} {xs : List IV} {us : List Value} (h : VRL c xs us) (m : Nat) : VRL c (xs.drop m) (us.drop m) :=
  VRL.mk (by simp [h.length]) (fun i hi hi' => by
    simp only [List.getElem_drop]
    simp only [List.length_drop] at hi hi'
    exact h.get (m + i) (by omega) (by omega))

/-- from one memory to a later one -/
structure Evo (c c' : Sx) : Prop where
  S : ∀ b, c.S b → c'.S b
  cell : ∀ b, c.S b → ∀ i, c'.w.cell? ⟨b, i, none⟩ = c.w.cell? ⟨b, i, none⟩
  base : c'.base ≤ c.base
  ver : ∀ h, (c.H h).ver ≤ (c'.H h).ver
  same : ∀ h, (c'.H h).live = true → (c'.H h).ver = (c.H h).ver → (c.H h).live = true ∧ c'.φ h = c.φ h ∧ (c.H h).cells.length ≤ (c'.H h).cells.length
  size : ∀ b, bsize c.w b ≤ bsize c'.w b

theorem Evo.refl (c : Sx) : Evo c c := ⟨fun _ h => h, fun _ _ _ => rfl, Nat.le_refl _, fun _ => Nat.le_refl _, fun _ h _ => ⟨h, rfl, Nat.le_refl _⟩, fun _ => Nat.le_refl _⟩
theorem Evo.trans {c c' c'' : Sx} (h : Evo c c') (k : Evo c' c'') : Evo c c'' where
  S b hb := k.S b (h.S b hb)
  cell b hb i := (k.cell b (h.S b hb) i).trans (h.cell b hb i)
  base := Nat.le_trans k.base h.base
  ver x := Nat.le_trans (h.ver x) (k.ver x)
  same x hl hv := by
    have h1 := h.ver x
    have h2 := k.ver x
    have e2 : (c''.H x).ver = (c'.H x).ver := by omega
    obtain ⟨l2, p2, n2⟩ := k.same x hl e2
    obtain ⟨l1, p1, n1⟩ := h.same x l2 (by omega)
    exact ⟨l1, p2.trans p1, by omega⟩
  size b := Nat.le_trans (h.size b) (k.size b)

theorem CellsAt.evo {c c' : Sx} (e : Evo c c') {A : Option Addr} {us : List Value} (h : CellsAt c A us) : CellsAt c' A us := fun i hi => by
  obtain ⟨a, ha, hs, hb, hc⟩ := h i hi
  exact ⟨a, ha, hs, e.S _ hb, (e.cell _ hb _).trans hc⟩

theorem rowR.evo {c c' : Sx} (e : Evo c c') {h off n sz k : Nat} {A : Option Addr} (hl : (c'.H h).live = true) (hv : (c'.H h).ver = (c.H h).ver) (r : rowR c h off n sz A k) : rowR c' h off n sz A k := by
  obtain ⟨_, hp, hn⟩ := e.same h hl hv
  unfold rowR at *
  rw [hp]
  refine ⟨by omega, ?_⟩
  cases hφ : c.φ h with
  | none => rw [hφ] at r; exact r.2
  | some p =>
    obtain ⟨b, o⟩ := p
    rw [hφ] at r
    have := e.size b
    exact ⟨r.2.1, by have := r.2.2; omega⟩

mutual
theorem VR.evo {c c' : Sx} (e : Evo c c') : ∀ {v : IV} {u : Value}, VR c v u → VR c' v u
  | .int _ _, _, h => by simpa only [VR] using h
  | .bool _, _, h => by simpa only [VR] using h
  | .str _, _, h => by simpa only [VR] using h
  | .nilp, _, h => by simpa only [VR] using h
  | .clo f caps, _, h => by
    simp only [VR] at h ⊢
    obtain ⟨us, h1, h2, h3⟩ := h
    exact ⟨us, h1, h2, VRL.evo e h3⟩
  | .sl f n cs, _, h => by
    simp only [VR] at h ⊢
    obtain ⟨A, k, us, h1, h2, h3, h4, h5, h6, h7, h8⟩ := h
    exact ⟨A, k, us, h1, h2, h3, fun hf a ha => Nat.le_trans e.base (h4 hf a ha), h5, h6, VRL.evo e h7, h8.evo e⟩
  | .row x off n sz ver, _, h => by
    simp only [VR] at h ⊢
    obtain ⟨h1, A, k, h2, h3, h4⟩ := h
    have hv := e.ver x
    refine ⟨by omega, A, k, h2, h3, fun hl he => ?_⟩
    have he' : (c'.H x).ver = (c.H x).ver := by omega
    exact (h4 (e.same x hl he').1 (by omega)).evo e hl he'
  | .ptr x off ver, _, h => by
    simp only [VR] at h ⊢
    obtain ⟨h1, h2, h3⟩ := h
    have hv := e.ver x
    refine ⟨by omega, h2, fun hl he => ?_⟩
    have he' : (c'.H x).ver = (c.H x).ver := by omega
    have hs := e.same x hl he'
    have := h3 hs.1 (by omega)
    unfold ptrR at *
    rw [hs.2.1]
    exact this
  | .addr cs, _, h => by
    simp only [VR] at h ⊢
    obtain ⟨a, us, h1, h2, h3, h4, h5, h6⟩ := h
    exact ⟨a, us, h1, h2, h3, h4, VRL.evo e h5, h6.evo e⟩
  | .agg cs, _, h => by
    simp only [VR] at h ⊢
    obtain ⟨us, h1, h2, h3⟩ := h
    exact ⟨us, h1, h2, VRL.evo e h3⟩
  | .tup vs, _, h => by
    simp only [VR] at h ⊢
    obtain ⟨us, h1, h2, h3⟩ := h
    exact ⟨us, h1, h2, VRL.evo e h3⟩
  | .own _ _ _, _, h => by simp only [VR] at h
  | .lits n _ cs, _, h => by
    simp only [VR] at h ⊢
    obtain ⟨A, us, h1, h2, h3, h4, h5⟩ := h
    exact ⟨A, us, h1, fun a ha => Nat.le_trans e.base (h2 a ha), h3, VRL.evo e h4, h5.evo e⟩
  | .anyB, _, h => by simpa only [VR] using h
  | .undef, _, _ => by simp only [VR]
theorem VRL.evo {c c' : Sx} (e : Evo c c') : ∀ {v : List IV} {u : List Value}, VRL c v u → VRL c' v u
  | [], _, h => by simpa only [VRL] using h
  | x :: xs, _, h => by
    simp only [VRL] at h ⊢
    obtain ⟨u, us, h1, h2, h3⟩ := h
    exact ⟨u, us, h1, VR.evo e h2, VRL.evo e h3⟩
end

/-- A pure value hangs on the blocks of S alone. -/
structure EvoP (c c' : Sx) : Prop where
  S : ∀ b, c.S b → c'.S b
  cell : ∀ b, c.S b → ∀ i, c'.w.cell? ⟨b, i, none⟩ = c.w.cell? ⟨b, i, none⟩

theorem CellsAt.evoP {c c' : Sx} (e : EvoP c c') {A : Option Addr} {us : List Value} (h : CellsAt c A us) : CellsAt c' A us := fun i hi => by
  obtain ⟨a, ha, hs, hb, hc⟩ := h i hi
  exact ⟨a, ha, hs, e.S _ hb, (e.cell _ hb _).trans hc⟩
theorem one_nlit {v : IV} (h : v.one = true) : v.nlit = true := by
  cases v <;> first | rfl | (rename_i f n cs; cases f <;> first | rfl | simp [IV.one] at h)
theorem ones_nlit {vs : List IV} (h : vs.all IV.one = true) : vs.all IV.nlit = true := by
  rw [List.all_eq_true] at *
  exact fun x hx => one_nlit (h x hx)
mutual
theorem VR.evoP {c c' : Sx} (e : EvoP c c') : ∀ {v : IV} {u : Value}, v.pur = true → v.nlit = true → VR c v u → VR c' v u
  | .int _ _, _, _, _, h => by simpa only [VR] using h
  | .bool _, _, _, _, h => by simpa only [VR] using h
  | .str _, _, _, _, h => by simpa only [VR] using h
  | .nilp, _, _, _, h => by simpa only [VR] using h
  | .clo f caps, _, hp, _, h => by
    simp only [VR] at h ⊢
    obtain ⟨us, h1, h2, h3⟩ := h
    exact ⟨us, h1, h2, VRL.evoP e (by simpa [IV.pur] using hp) h2 h3⟩
  | .sl f n cs, _, _, hn, h => by
    simp only [VR] at h ⊢
    obtain ⟨A, k, us, h1, h2, h3, h4, h5, h6, h7, h8⟩ := h
    exact ⟨A, k, us, h1, h2, h3, fun hf => (by subst hf; simp [IV.nlit] at hn), h5, h6, VRL.evoP e h5 (ones_nlit h6) h7, h8.evoP e⟩
  | .row .., _, hp, _, _ => by simp [IV.pur] at hp
  | .ptr .., _, hp, _, _ => by simp [IV.pur] at hp
  | .addr cs, _, _, _, h => by
    simp only [VR] at h ⊢
    obtain ⟨a, us, h1, h2, h3, h4, h5, h6⟩ := h
    exact ⟨a, us, h1, h2, h3, h4, VRL.evoP e h3 (ones_nlit h4) h5, h6.evoP e⟩
  | .agg cs, _, hp, _, h => by
    simp only [VR] at h ⊢
    obtain ⟨us, h1, h2, h3⟩ := h
    exact ⟨us, h1, h2, VRL.evoP e (by simpa [IV.pur] using hp) (ones_nlit h2) h3⟩
  | .tup vs, _, hp, _, h => by
    simp only [VR] at h ⊢
    obtain ⟨us, h1, h2, h3⟩ := h
    exact ⟨us, h1, h2, VRL.evoP e (by simpa [IV.pur] using hp) h2 h3⟩
  | .own _ _ _, _, _, _, h => by simp only [VR] at h
  | .lits _ _ _, _, hp, _, _ => by simp [IV.pur] at hp
  | .anyB, _, _, _, h => by simpa only [VR] using h
  | .undef, _, hp, _, _ => by simp [IV.pur] at hp
theorem VRL.evoP {c c' : Sx} (e : EvoP c c') : ∀ {v : List IV} {u : List Value}, IV.purL v = true → v.all IV.nlit = true → VRL c v u → VRL c' v u
  | [], _, _, _, h => by simpa only [VRL] using h
  | x :: xs, _, hp, hn, h => by
    simp only [VRL] at h ⊢
    simp only [IV.purL, Bool.and_eq_true] at hp
    simp only [List.all_cons, Bool.and_eq_true] at hn
    obtain ⟨u, us, h1, h2, h3⟩ := h
    exact ⟨u, us, h1, VR.evoP e hp.1 hn.1 h2, VRL.evoP e hp.2 hn.2 h3⟩
end

/-! ### the homes -/
/-- the memory that a function's arguments hang on -/
class Old where
  A : Nat → Prop

def stb [Old] (w : World) (H : Nat → Blk) (φ : Nat → Option (Nat × Nat)) (base b : Nat) : Prop :=
  b < w.heap.size ∧ (∀ h, (H h).live = true → (H h).rw = true → ∀ p, φ h = some p → p.1 ≠ b) ∧ (b < base → Old.A b)

@[reducible] def sx [Old] (w : World) (H : Nat → Blk) (φ : Nat → Option (Nat × Nat)) (base : Nat) : Sx := ⟨w, stb w H φ base, H, φ, base⟩

structure HomeR (c : Sx) (h : Nat) : Prop where
  one : (c.H h).cells.all IV.one = true
  row : (c.H h).isRow = true → IV.purL (c.H h).cells = true
  low : ∀ p, c.φ h = some p → c.base ≤ p.1
  at_ : match c.φ h with
    | none => (c.H h).cells = []
    | some (b, o) => ∃ cs T fr us, c.w.heap[b]? = some (.cells cs T fr) ∧ ((c.H h).rw = true → fr = (0, 0) ∧ c.base ≤ b) ∧ VRL c (c.H h).cells us ∧ (∀ i (hi : i < us.length), cs[o + i]? = some us[i]) ∧ o + us.length ≤ cs.size

structure HS (c : Sx) : Prop where
  home : ∀ h, (c.H h).live = true → HomeR c h
  excl : ∀ h h' p p', (c.H h).live = true → (c.H h).rw = true → (c.H h').live = true → h ≠ h' → c.φ h = some p → c.φ h' = some p' → p.1 ≠ p'.1
  size : c.base ≤ c.w.heap.size

/-- what stands beside a call's own slots -/
class Gh where
  G : IV → Value → Prop

def Rel [Gh] [Old] (w0 : World) (N : Nat) (s : St) (a : Act) (w : World) : Prop :=
  ∃ φ, HS (sx w s.h φ w0.heap.size) ∧ Below w0.heap.size w0 w ∧ a.tmps.size = N ∧ a.defers = [] ∧ (∀ t, VR (sx w s.h φ w0.heap.size) (s.t t) (a.tmps.getD t undef)) ∧ ∀ v u, Gh.G v u → VR (sx w s.h φ w0.heap.size) v u
end Go.Proofs.YtmblapgoimegkaaDoor
