/- What an operation reads, and that it yields the same where that is the same. -/
import Derived.Test.YtmblapgoimegkaaDoorE16
set_option linter.unusedSectionVars false
set_option linter.unusedVariables false
set_option linter.unusedSimpArgs false
namespace Go.Proofs.YtmblapgoimegkaaDoor
open Go.RowKit

def MOp.opds : MOp → List Opd
  | .mov x | .box x | .chk x | .un _ x | .toInt _ x | .toStr x | .mark x | .arrOf _ _ x | .fa _ x | .fld _ _ _ x | .ext x _ | .len x | .lenS x | .movS x | .nilS _ x | .nilP _ x | .cap x => [x]
  | .load _ _ x => [x]
  | .pick c a b => [c, a, b]
  | .alloc _ | .bad | .lenC _ => []
  | .build _ ps | .bsl _ _ _ ps | .bslR _ _ _ ps => ps.map (·.2.2)
  | .store _ a v => [a, v]
  | .bin _ x y | .binB _ x y | .eqv _ _ x y | .mk _ _ _ x y | .ixArr _ _ x y | .ixSl _ x y | .idx _ _ _ x y | .idxStr x y | .app _ _ x y | .appP _ _ x y | .appZ _ _ _ x y | .copy _ x y | .mnx _ x y => [x, y]
  | .slStr x lo hi => x :: (lo.toList ++ hi.toList)
  | .slSl _ x lo hi mx | .slArr _ _ x lo hi mx => x :: (lo.toList ++ hi.toList ++ mx.toList)
  | .call _ as | .callp _ as | .calln _ as | .mkf _ as => as
  | .calli x as => x :: as

variable [Off]
structure Le (s0 s : St) (d : Nat) (X : List Opd) : Prop where
  get : ∀ q ∈ X, s.get q = s0.get q
  home : ∀ x, (s0.h x).live = true → s.h x = s0.h x
  ver : (s.h (hom d)).ver = (s0.h (hom d)).ver

section
variable {s0 s : St} {d : Nat} {X : List Opd}

theorem Le.ok (h : Le s0 s d X) {x v : Nat} (hk : s0.ok x v = true) : s.ok x v = true ∧ s.h x = s0.h x := by
  have hl : (s0.h x).live = true := by simp only [St.ok, Bool.and_eq_true] at hk; exact hk.1
  have := h.home x hl
  exact ⟨by simpa only [St.ok, this] using hk, this⟩

theorem Le.elems (h : Le s0 s d X) {sz : Nat} {v : IV} {r : Nat × List IV} (he : s0.elems sz v = some r) : s.elems sz v = some r := by
  cases v <;> simp only [St.elems] at he ⊢ <;> try exact he
  split at he
  · rename_i hc
    obtain ⟨o1, o2⟩ := h.ok hc.1
    rw [o1, St.seg, o2]
    rw [if_pos ⟨rfl, hc.2⟩]
    exact he
  · cases he

theorem Le.more (h : Le s0 s d X) {sz : Nat} {v : IV} {r : Nat × List IV} (he : s0.more sz v = some r) : s.more sz v = some r := by
  cases v with
  | str l => exact he
  | row x off n sz' ver => simp only [St.more] at he ⊢; exact h.elems he
  | _ => simp only [St.more] at he ⊢; exact h.elems he

theorem Le.nest1 (h : Le s0 s d X) {v r : IV} (he : s0.nest1 v = some r) : s.nest1 v = some r := by
  cases v <;> simp only [St.nest1] at he ⊢ <;> try exact he
  split at he
  · rename_i hc
    obtain ⟨o1, o2⟩ := h.ok hc.1
    rw [o1, St.seg, o2]
    rw [if_pos ⟨rfl, hc.2⟩]
    exact he
  · cases he

theorem Le.nestL (h : Le s0 s d X) : ∀ {v r : List IV}, s0.nestL v = some r → s.nestL v = some r
  | [], r, he => he
  | c :: cs, r, he => by
    simp only [St.nestL] at he ⊢
    split at he
    · rename_i x xs h1 h2; rw [h.nest1 h1, h.nestL h2]; exact he
    · cases he

theorem Le.nest (h : Le s0 s d X) {v : IV} {r : List IV} (he : s0.nest v = some r) : s.nest v = some r := by
  simp only [St.nest] at he ⊢
  split at he
  · rename_i hc; rw [if_pos hc]; exact he
  · rename_i hc; rw [if_neg hc]; exact h.nestL he

theorem Le.snapB (h : Le s0 s d X) {v r : IV} (he : s0.snapB v = some r) : s.snapB v = some r := by
  cases v with
  | row x off n sz ver =>
    simp only [St.snapB] at he ⊢
    split at he
    · rename_i hc
      obtain ⟨o1, o2⟩ := h.ok hc.1
      rw [o1, St.seg, o2]
      rw [if_pos ⟨rfl, hc.2⟩]
      exact he
    · cases he
  | sl f n cs => cases f <;> (simp only [St.snapB] at he ⊢; exact he)
  | _ => simp only [St.snapB] at he ⊢; exact he

theorem Le.snapP (h : Le s0 s d X) {v r : IV} (he : s0.snapP v = some r) : s.snapP v = some r := by
  cases v with
  | ptr x off ver =>
    simp only [St.snapP] at he ⊢
    split at he
    · rename_i hc
      obtain ⟨o1, o2⟩ := h.ok hc.1
      rw [o1, o2]
      rw [if_pos ⟨rfl, hc.2⟩]
      exact he
    · cases he
  | _ => simp only [St.snapP] at he ⊢; exact h.snapB he

theorem Le.snapPL (h : Le s0 s d X) : ∀ {v r : List IV}, s0.snapPL v = some r → s.snapPL v = some r
  | [], r, he => he
  | c :: cs, r, he => by
    simp only [St.snapPL] at he ⊢
    split at he
    · rename_i x xs h1 h2; rw [h.snapP h1, h.snapPL h2]; exact he
    · cases he
theorem Le.snapL (h : Le s0 s d X) : ∀ {v r : List IV}, s0.snapL v = some r → s.snapL v = some r
  | [], r, he => he
  | c :: cs, r, he => by
    simp only [St.snapL] at he ⊢
    split at he
    · rename_i x xs h1 h2; rw [h.snapB h1, h.snapL h2]; exact he
    · cases he
theorem Le.snap1 (h : Le s0 s d X) {v r : IV} (he : s0.snap1 v = some r) : s.snap1 v = some r := by
  cases v with
  | clo f caps =>
    simp only [St.snap1] at he ⊢
    split at he
    · rename_i cs hc; rw [h.snapPL hc]; exact he
    · cases he
  | _ => simp only [St.snap1] at he ⊢; exact h.snapB he
theorem Le.snap (h : Le s0 s d X) {v r : IV} (he : s0.snap v = some r) : s.snap v = some r := by
  cases v with
  | agg cs =>
    simp only [St.snap] at he ⊢
    split at he
    · rename_i hc; rw [if_pos hc]; exact he
    · rename_i hc
      rw [if_neg hc]
      split at he
      · rename_i cs hs; rw [h.snapL hs]; exact he
      · cases he
  | lits n sz cs =>
    simp only [St.snap] at he ⊢
    split at he
    · rename_i cs' hs; rw [h.snapL hs]; exact he
    · cases he
  | _ => simp only [St.snap] at he ⊢; exact h.snap1 he
theorem Le.snaps_ (h : Le s0 s d X) : ∀ {l : List Opd} {r : List IV}, (∀ q ∈ l, s.get q = s0.get q) → s0.snaps l = some r → s.snaps l = some r
  | [], r, _, he => he
  | q :: l, r, hg, he => by
    simp only [St.snaps] at he ⊢
    rw [hg q (by simp)]
    split at he
    · rename_i v hv
      split at he
      · rename_i x xs h1 h2; rw [h.snap h1, h.snaps_ (fun q hq => hg q (by simp [hq])) h2]; exact he
      · cases he
    · cases he

theorem Le.stab (h : Le s0 s d X) {v r : IV} (hs : s0.snap v = some r) (he : s0.stab v = true) : s.stab v = true := by
  cases v with
  | row x off n sz ver =>
    simp only [St.snap, St.snap1, St.snapB] at hs
    split at hs
    · rename_i hc
      simp only [St.stab, (h.ok hc.1).2] at he ⊢
      exact he
    · cases hs
  | agg cs =>
    simp only [St.stab, List.all_eq_true] at he ⊢
    intro c hc
    have := he c hc
    cases c with
    | row x off n sz ver =>
      simp only at this ⊢
      simp only [St.snap] at hs
      split at hs
      · rename_i hsc
        have := (List.all_eq_true.1 hsc) _ hc
        simp [IV.scal] at this
      · split at hs
        · rename_i cs' hcs
          have key : ∀ (cs cs' : List IV), s0.snapL cs = some cs' → IV.row x off n sz ver ∈ cs → ∃ r, s0.snapB (.row x off n sz ver) = some r := by
            intro cs
            induction cs with
            | nil => intro _ _ hm; cases hm
            | cons y ys ih =>
              intro cs' hl hm
              simp only [St.snapL] at hl
              split at hl
              · rename_i z zs hz hzs
                rcases List.mem_cons.1 hm with rfl | hm
                · exact ⟨z, hz⟩
                · exact ih _ hzs hm
              · cases hl
          obtain ⟨r', hr'⟩ := key _ _ hcs hc
          simp only [St.snapB] at hr'
          split at hr'
          · rename_i hc'
            rw [(h.ok hc'.1).2]; exact this
          · cases hr'
        · cases hs
    | _ => exact this
  | _ => exact he
theorem Le.stabs_ (h : Le s0 s d X) : ∀ {l : List Opd} {r : List IV}, (∀ q ∈ l, s.get q = s0.get q) → s0.snaps l = some r → s0.stabs l = true → s.stabs l = true
  | [], _, _, _, _ => rfl
  | q :: l, r, hg, hs, he => by
    simp only [St.stabs, Bool.and_eq_true] at he ⊢
    simp only [St.snaps] at hs
    rw [hg q (by simp)]
    split at hs
    · rename_i v hv
      split at hs
      · rename_i x xs h1 h2
        rw [hv] at he
        exact ⟨h.stab h1 he.1, h.stabs_ (fun q hq => hg q (by simp [hq])) h2 he.2⟩
      · cases hs
    · cases hs

theorem Le.parts (h : Le s0 s d X) : ∀ {l : List (Nat × Nat × Opd)} {r : List (Nat × List IV)}, (∀ q ∈ l.map (·.2.2), s.get q = s0.get q) → s0.parts l = some r → s.parts l = some r
  | [], r, _, he => he
  | (off, n, x) :: l, r, hg, he => by
    simp only [St.parts] at he ⊢
    rw [hg x (by simp)]
    split at he
    · rename_i v ps hv hps
      rw [hv, h.parts (fun q hq => hg q (by simp only [List.map_cons, List.mem_cons]; exact .inr hq)) hps]; exact he
    · cases he
theorem Le.partsN (h : Le s0 s d X) : ∀ {l : List (Nat × Nat × Opd)} {r : List (Nat × List IV)}, (∀ q ∈ l.map (·.2.2), s.get q = s0.get q) → s0.partsN l = some r → s.partsN l = some r
  | [], r, _, he => he
  | (off, n, x) :: l, r, hg, he => by
    simp only [St.partsN] at he ⊢
    rw [hg x (by simp)]
    split at he
    · rename_i v ps hv hps
      rw [hv, h.partsN (fun q hq => hg q (by simp only [List.map_cons, List.mem_cons]; exact .inr hq)) hps]
      simp only []
      split at he
      · rename_i cs hn; rw [h.nest hn]; exact he
      · cases he
    · cases he

theorem bnd_le {q : Option Opd} (hg : ∀ y ∈ q.toList, s.get y = s0.get y) (n : Nat) : bnd s q n = bnd s0 q n := by
  cases q with
  | none => rfl
  | some y => simp only [bnd, hg y (by simp)]
theorem bnds_le {lo hi mx : Option Opd} (h1 : ∀ y ∈ lo.toList, s.get y = s0.get y) (h2 : ∀ y ∈ hi.toList, s.get y = s0.get y) (h3 : ∀ y ∈ mx.toList, s.get y = s0.get y) (n : Nat) : bnds s n lo hi mx = bnds s0 n lo hi mx := by
  simp only [bnds, bnd_le h1, bnd_le h2, bnd_le h3]

theorem Le.fresh (h : Le s0 s d X) (rw_ row : Bool) (cs : List IV) : freshBlk s (hom d) rw_ row cs = freshBlk s0 (hom d) rw_ row cs := by simp only [freshBlk, h.ver]

theorem neu_mono {m : MOp} (h : Le s0 s d m.opds) {e : Eff} (he : neu s0 d m = some e) : neu s d m = some e := by
  have hv := h.ver
  cases m with
  | mov x => simp only [neu, h.get x (by simp [MOp.opds])] at he ⊢; exact he
  | pick c a b => simp only [neu, h.get c (by simp [MOp.opds]), h.get a (by simp [MOp.opds]), h.get b (by simp [MOp.opds])] at he ⊢; exact he
  | alloc z => simp only [neu, h.fresh, hv] at he ⊢; exact he
  | box x => simp only [neu, h.fresh, hv, h.get x (by simp [MOp.opds])] at he ⊢; exact he
  | build z ps =>
    simp only [neu] at he ⊢
    split at he
    · rename_i r hr; rw [h.parts (fun q hq => h.get q hq) hr]; exact he
    · cases he
  | bslR n sz z ps =>
    simp only [neu] at he ⊢
    split at he
    · rename_i r hr; rw [h.parts (fun q hq => h.get q hq) hr]; exact he
    · cases he
  | bsl n sz z ps =>
    simp only [neu] at he ⊢
    split at he
    · rename_i r hr; rw [h.partsN (fun q hq => h.get q hq) hr]; exact he
    · cases he
  | load ag n a =>
    simp only [neu, h.get a (by simp [MOp.opds])] at he ⊢
    split at he
    · rename_i x off ver hx
      split at he
      · rename_i hc
        obtain ⟨o1, o2⟩ := h.ok hc.1
        simp only [o1, o2, St.seg]; rw [if_pos ⟨trivial, hc.2⟩]; exact he
      · cases he
    · rename_i cs hx; exact he
    · cases he
  | store n a v => simp [neu] at he
  | chk x =>
    simp only [neu, h.get x (by simp [MOp.opds])] at he ⊢
    split at he
    · rename_i y off ver hx
      split at he
      · rename_i hc; simp only [(h.ok hc).1, if_true]; exact he
      · cases he
    · rename_i cs hx; exact he
    · cases he
  | bin op x y => simp only [neu, h.get x (by simp [MOp.opds]), h.get y (by simp [MOp.opds])] at he ⊢; exact he
  | binB op x y => simp only [neu, h.get x (by simp [MOp.opds]), h.get y (by simp [MOp.opds])] at he ⊢; exact he
  | eqv ng ks x y => simp only [neu, h.get x (by simp [MOp.opds]), h.get y (by simp [MOp.opds])] at he ⊢; exact he
  | un op x => simp only [neu, h.get x (by simp [MOp.opds])] at he ⊢; exact he
  | toInt k x => simp only [neu, h.get x (by simp [MOp.opds])] at he ⊢; exact he
  | toStr x =>
    simp only [neu, h.get x (by simp [MOp.opds])] at he ⊢
    split at he
    · rename_i v hx
      split at he
      · rename_i n cs hel; rw [h.elems hel]; exact he
      · cases he
    · cases he
  | mark x => simp only [neu, h.get x (by simp [MOp.opds])] at he ⊢; exact he
  | arrOf n sz x =>
    simp only [neu, h.get x (by simp [MOp.opds])] at he ⊢
    split at he
    · rename_i y off m sz' ver hx
      split at he
      · rename_i hc; simp only [(h.ok hc.1).1]; rw [if_pos ⟨trivial, hc.2⟩]; exact he
      · cases he
    · rename_i f m cs hx; exact he
    · cases he
  | mk sz by_ z l c => simp only [neu, h.fresh, hv, h.get l (by simp [MOp.opds]), h.get c (by simp [MOp.opds])] at he ⊢; exact he
  | slStr x lo hi =>
    rw [neu, h.get x (by simp [MOp.opds])]
    rw [neu] at he
    split at he
    · rename_i l hx
      simp only [bnds_le (s := s) (s0 := s0) (mx := none) (fun y hy => h.get y (by simp only [MOp.opds, List.mem_cons, List.mem_append]; exact .inr (.inl hy))) (fun y hy => h.get y (by simp only [MOp.opds, List.mem_cons, List.mem_append]; exact .inr (.inr hy))) (by simp)]
      exact he
    · cases he
  | slSl sz x lo hi mx =>
    have hb := fun n => bnds_le (s := s) (s0 := s0) (lo := lo) (hi := hi) (mx := mx) (fun y hy => h.get y (by simp only [MOp.opds, List.mem_cons, List.mem_append]; exact .inr (.inl (.inl hy)))) (fun y hy => h.get y (by simp only [MOp.opds, List.mem_cons, List.mem_append]; exact .inr (.inl (.inr hy)))) (fun y hy => h.get y (by simp only [MOp.opds, List.mem_cons, List.mem_append]; exact .inr (.inr hy))) n
    simp only [neu, h.get x (by simp [MOp.opds]), hb] at he ⊢
    exact he
  | slArr n sz x lo hi mx =>
    have hb := fun n => bnds_le (s := s) (s0 := s0) (lo := lo) (hi := hi) (mx := mx) (fun y hy => h.get y (by simp only [MOp.opds, List.mem_cons, List.mem_append]; exact .inr (.inl (.inl hy)))) (fun y hy => h.get y (by simp only [MOp.opds, List.mem_cons, List.mem_append]; exact .inr (.inl (.inr hy)))) (fun y hy => h.get y (by simp only [MOp.opds, List.mem_cons, List.mem_append]; exact .inr (.inr hy))) n
    simp only [neu, h.get x (by simp [MOp.opds]), hb] at he ⊢
    split at he
    · rename_i y off ver hx
      split at he
      · rename_i p q e' hbb
        split at he
        · rename_i hc
          obtain ⟨o1, o2⟩ := h.ok hc.1
          simp only [o1, o2]; rw [if_pos ⟨trivial, hc.2⟩]; exact he
        · cases he
      · cases he
    · rename_i cs hx; exact he
    · cases he
  | fa off x =>
    simp only [neu, h.get x (by simp [MOp.opds])] at he ⊢
    split at he
    · rename_i y o ver hx
      split at he
      · rename_i hc; simp only [(h.ok hc).1, if_true]; exact he
      · cases he
    · rename_i cs hx; exact he
    · cases he
  | fld ag off n x => simp only [neu, h.get x (by simp [MOp.opds])] at he ⊢; exact he
  | ixArr n sz x i =>
    simp only [neu, h.get x (by simp [MOp.opds]), h.get i (by simp [MOp.opds])] at he ⊢
    split at he
    · rename_i y o ver j hx hj
      split at he
      · rename_i hc; simp only [(h.ok hc.1).1]; rw [if_pos ⟨trivial, hc.2⟩]; exact he
      · cases he
    · rename_i cs j hx hj; exact he
    · cases he
  | ixSl sz x i =>
    simp only [neu, h.get x (by simp [MOp.opds]), h.get i (by simp [MOp.opds])] at he ⊢
    split at he
    · rename_i y o n sz' ver j hx hj
      split at he
      · rename_i hc; simp only [(h.ok hc.1).1]; rw [if_pos ⟨trivial, hc.2⟩]; exact he
      · cases he
    · rename_i f n cs j hx hj; exact he
    · cases he
  | idx n sz ag x i => simp only [neu, h.get x (by simp [MOp.opds]), h.get i (by simp [MOp.opds])] at he ⊢; exact he
  | idxStr x i => simp only [neu, h.get x (by simp [MOp.opds]), h.get i (by simp [MOp.opds])] at he ⊢; exact he
  | ext x i => simp only [neu, h.get x (by simp [MOp.opds])] at he ⊢; exact he
  | call f as => simp [neu] at he
  | callp f as => simp [neu] at he
  | calln f as => simp [neu] at he
  | calli f as => simp [neu] at he
  | mkf f caps =>
    have : caps.mapM s.get = caps.mapM s0.get := by
      have : ∀ l : List Opd, (∀ q ∈ l, s.get q = s0.get q) → l.mapM s.get = l.mapM s0.get := by
        intro l
        induction l with
        | nil => intro _; rfl
        | cons q l ih => intro hl; rw [List.mapM_cons, List.mapM_cons, hl q (by simp), ih (fun q hq => hl q (by simp [hq]))]
      exact this caps (fun q hq => h.get q hq)
    simp only [neu, this] at he ⊢
    exact he
  | bad => simp [neu] at he
  | lenC n => exact he
  | len x =>
    simp only [neu, h.get x (by simp [MOp.opds])] at he ⊢
    split at he
    · rename_i f n cs hx; exact he
    · rename_i y o n sz ver hx
      split at he
      · rename_i hc; simp only [(h.ok hc).1, if_true]; exact he
      · cases he
    · cases he
  | lenS x => simp only [neu, h.get x (by simp [MOp.opds])] at he ⊢; exact he
  | movS x => simp only [neu, h.get x (by simp [MOp.opds])] at he ⊢; exact he
  | nilS ng x =>
    simp only [neu, h.get x (by simp [MOp.opds])] at he ⊢
    split at he
    · rename_i f n cs hx; exact he
    · rename_i y o n sz ver hx
      split at he
      · rename_i hc; simp only [(h.ok hc).1, if_true]; exact he
      · cases he
    · cases he
  | nilP ng x =>
    simp only [neu, h.get x (by simp [MOp.opds])] at he ⊢
    split at he
    · rename_i hx; exact he
    · rename_i y o ver hx
      split at he
      · rename_i hc; simp only [(h.ok hc).1, if_true]; exact he
      · cases he
    · rename_i cs hx; exact he
    · cases he
  | cap x => simp only [neu, h.get x (by simp [MOp.opds])] at he ⊢; exact he
  | app sz by_ x y =>
    simp only [neu, h.get x (by simp [MOp.opds]), h.get y (by simp [MOp.opds]), h.fresh, hv] at he ⊢
    split at he
    · rename_i f n cs v hx hy
      split at he
      · rename_i mm ds hm; rw [h.more hm]; exact he
      · cases he
    · cases he
  | appP sz by_ x y =>
    simp only [neu, h.get x (by simp [MOp.opds]), h.get y (by simp [MOp.opds])] at he ⊢
    split at he
    · rename_i f n cs v hx hy
      split at he
      · rename_i mm ds hm; rw [h.more hm]; exact he
      · cases he
    · cases he
  | appZ sz by_ z x y => simp [neu] at he
  | copy sz x y => simp [neu] at he
  | mnx b x y => simp only [neu, h.get x (by simp [MOp.opds]), h.get y (by simp [MOp.opds])] at he ⊢; exact he
end
end Go.Proofs.YtmblapgoimegkaaDoor
