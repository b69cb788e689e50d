/- All operations at once. -/
import Derived.Test.YtmblapgoimegkaaDoorE12
set_option linter.unusedSectionVars false
set_option linter.unusedVariables false
set_option linter.unusedSimpArgs false
namespace Go.Proofs.YtmblapgoimegkaaDoor
open Go.RowKit

section
variable [Off] [Gh] [Old] {P : Program} {φ : Nat → Option (Nat × Nat)} {w0 : World} {N : Nat} {s s' : St} {a : Act} {w w' : World} {d : Nat} {e : Eff}

theorem opds_nil {l : List Operand} (h : opds l = some []) : l = [] := by
  cases l with
  | nil => rfl
  | cons x l =>
    simp only [opds] at h
    split at h
    · simp at h
    · cases h
theorem opds_cons {l : List Operand} {y' : Opd} {ys : List Opd} (h : opds l = some (y' :: ys)) : ∃ x xs, l = x :: xs ∧ opd x = some y' ∧ opds xs = some ys := by
  cases l with
  | nil => simp [opds] at h
  | cons x l =>
    simp only [opds] at h
    split at h
    · rename_i p q hp hq
      simp only [Option.some.injEq, List.cons.injEq] at h
      obtain ⟨rfl, rfl⟩ := h
      exact ⟨x, l, rfl, hp, hq⟩
    · cases h
theorem opds_two {l : List Operand} {x' y' : Opd} (h : opds l = some [x', y']) : ∃ x y, l = [x, y] ∧ opd x = some x' ∧ opd y = some y' := by
  obtain ⟨x, l1, rfl, hx, h⟩ := opds_cons h
  obtain ⟨y, l2, rfl, hy, h⟩ := opds_cons h
  have := opds_nil h
  subst this
  exact ⟨x, y, rfl, hx, hy⟩

theorem neu_snd (h : RelC φ w0 N s a w) (hd : d < N) {o : Oper} {hint m : MOp} (hm : cop P o hint = some m) (he : neu s d m = some e) : Snd P w0 N s a w d o e := by
  unfold cop at hm
  split at hm
  · rename_i x ho
    split at hm
    · rename_i y hy; injection hm with hm; subst hm; exact snd_mov h hd (.inl ho) hy he
    · cases hm
  · rename_i x ho
    split at hm
    · rename_i y hy; injection hm with hm; subst hm; exact snd_mov h hd (.inr ho) hy he
    · cases hm
  · rename_i c x y ho
    split at hm
    · rename_i c' x' y' hc hx hy; injection hm with hm; subst hm; exact snd_pick h hd ho hc hx hy he
    · cases hm
  · rename_i t ho
    split at hm
    · rename_i z hz; injection hm with hm; subst hm; exact snd_alloc h hd ho hz he
    · cases hm
  · rename_i t x ho
    split at hm
    · rename_i y hy; injection hm with hm; subst hm; exact snd_box h hd ho hy he
    · cases hm
  · rename_i t ps ho
    split at hm
    · rename_i fs z hu hz
      split at hm
      · rename_i hall
        split at hm
        · rename_i qs hq; injection hm with hm; subst hm; exact snd_build h hd ho hz hq (.inl ⟨fs, hu, hall, rfl⟩) he
        · cases hm
      · cases hm
    · rename_i n el z hu hz
      split at hm
      · rename_i hi
        split at hm
        · rename_i qs hq; injection hm with hm; subst hm; exact snd_build h hd ho hz hq (.inr ⟨n, el, hu, hi, rfl⟩) he
        · cases hm
      · cases hm
    · cases hm
  · rename_i t n ps ho
    split at hm
    · rename_i el hu
      split at hm
      · rename_i i z qs hi hz hq
        split at hm
        · rename_i hle
          split at hm
          · injection hm with hm; subst hm; exact snd_bslR h hd ho hu hz hq hle rfl he
          · injection hm with hm; subst hm; exact snd_bsl h hd ho hu hz hq hle rfl he
        · cases hm
      · cases hm
    · cases hm
  · rename_i t x ho
    split at hm
    · rename_i u i y hu hi hy; injection hm with hm; subst hm; exact snd_load h hd ho hu hi hy rfl rfl he
    · cases hm
  · -- store
    split at hm
    · injection hm with hm; subst hm; simp [neu] at he
    · cases hm
  · rename_i x ho
    split at hm
    · rename_i y hy; injection hm with hm; subst hm; exact snd_chk h hd ho hy he
    · cases hm
  · rename_i op t x y yt ho
    split at hm
    · rename_i x' y' hx hy
      split at hm
      · rename_i hg
        split at hm
        · rename_i neg rl x1 y1
          split at hm
          · rename_i hc; injection hm with hm; subst hm; exact snd_eqv h hd ho hg hc.1 hc.2.1 hc.2.2 hx hy he
          · cases hm
        · cases hm
      · split at hm
        · rename_i hs
          split at hm
          · rename_i hc; injection hm with hm; subst hm; exact snd_nilS h hd ho hs hc.1 hx hy hc.2 he
          · cases hm
        · split at hm
          · rename_i hs'
            split at hm
            · rename_i hc; injection hm with hm; subst hm; exact snd_nilP h hd ho hs' hc.1 hx hy hc.2 he
            · cases hm
          split at hm
          · rename_i hp; injection hm with hm; subst hm; exact snd_bin h hd ho hp hx hy he
          · split at hm
            · rename_i hp; injection hm with hm; subst hm; exact snd_binB h hd ho hp hx hy he
            · cases hm
    · cases hm
  · rename_i op t x ho
    split at hm
    · rename_i y hy; injection hm with hm; subst hm; exact snd_un h hd ho hy he
    · cases hm
  · rename_i src dst x ho
    split at hm
    · rename_i u k y hu hk hy; injection hm with hm; subst hm; exact snd_toInt h hd ho hu hk hy he
    · rename_i y hu hk hy; injection hm with hm; subst hm; exact snd_movS h hd ho hu hk hy he
    · rename_i el y hu hk hy
      split at hm
      · rename_i hel; injection hm with hm; subst hm; exact snd_toStr h hd ho hu hk hel hy he
      · cases hm
    · rename_i el' el y hu hk hy
      split at hm
      · rename_i hel
        split at hm
        · rename_i hsd; subst hsd; injection hm with hm; subst hm; exact snd_mark h hd ho hk hel hy he
        · cases hm
      · cases hm
    · cases hm
  · rename_i t x ho
    split at hm
    · rename_i n el y hu hy; injection hm with hm; subst hm; exact snd_arrOf h hd ho hu hy he
    · cases hm
  · rename_i t l c ho
    split at hm
    · rename_i el l' c' hu hl hc
      split at hm
      · rename_i i z hi hz; injection hm with hm; subst hm; exact snd_mk h hd ho hu hi hz hl hc rfl rfl he
      · cases hm
    · cases hm
  · rename_i t x lo hi mx ho
    split at hm
    · rename_i n el y lo' hi' mx' hu hy h1 h2 h3
      split at hm
      · rename_i hinf; injection hm with hm; subst hm; exact snd_slArr h hd ho hu hinf hy h1 h2 h3 rfl he
      · cases hm
    · rename_i el y lo' hi' mx' hu hy h1 h2 h3
      split at hm
      · rename_i hinf; injection hm with hm; subst hm; exact snd_slSl h hd ho hu hinf hy h1 h2 h3 rfl he
      · cases hm
    · rename_i y lo' hi' hu hy h1 h2 h3
      injection hm with hm; subst hm
      have hmx : mx = none := by
        cases mx with
        | none => rfl
        | some z => simp only [opdO] at h3; split at h3 <;> simp at h3
      subst hmx
      exact snd_slStr h hd ho hu hy h1 h2 he
    · cases hm
  · rename_i t x fi ho
    split at hm
    · rename_i fs y hu hy
      split at hm
      · rename_i f hf
        split at hm
        · rename_i hc; injection hm with hm; subst hm; exact snd_fa h hd ho hu hf hc.1 hc.2 hy he
        · cases hm
      · cases hm
    · cases hm
  · rename_i t x fi ho
    split at hm
    · rename_i fs y hu hy
      split at hm
      · rename_i f hf
        split at hm
        · rename_i hc; injection hm with hm; subst hm; exact snd_fld h hd ho hu hf hc.1 hc.2 hy rfl rfl rfl he
        · cases hm
      · cases hm
    · cases hm
  · rename_i t x i ho
    split at hm
    · rename_i n el x' i' hu hx hy
      split at hm
      · rename_i hc; injection hm with hm; subst hm; exact snd_ixArr h hd ho hu hc hx hy he
      · cases hm
    · rename_i el x' i' hu hx hy
      split at hm
      · rename_i hc; injection hm with hm; subst hm; exact snd_ixSl h hd ho hu hc hx hy he
      · cases hm
    · cases hm
  · rename_i t x i ho
    split at hm
    · rename_i n el x' i' hu hx hy
      split at hm
      · rename_i hc; injection hm with hm; subst hm; exact snd_idx h hd ho hu hc.1 hc.2.1 hc.2.2 hx hy rfl rfl he
      · cases hm
    · rename_i x' i' hu hx hy; injection hm with hm; subst hm; exact snd_idxStr h hd ho hu hx hy he
    · cases hm
  · rename_i x i ho
    split at hm
    · rename_i y hy; injection hm with hm; subst hm; exact snd_ext h hd ho hy he
    · cases hm
  · rename_i f first caps ho
    split at hm
    · rename_i hf
      split at hm
      · rename_i cs hc; injection hm with hm; subst hm; exact snd_mkf h hd ho hf hc he
      · cases hm
    · cases hm
  · rename_i c ho
    split at hm
    · -- a call
      split at hm
      · split at hm
        · injection hm with hm; subst hm; cases hint <;> simp [neu] at he
        · cases hm
      · cases hm
    · split at hm
      · injection hm with hm; subst hm; simp [neu] at he
      · cases hm
    · rename_i hc
      split at hm
      · rename_i t x ht hx0
        split at hm
        · rename_i n el o1 hu; injection hm with hm; subst hm; exact snd_lenC h hd ho hc ht hx0 hu he
        · rename_i y hu hy; injection hm with hm; subst hm; exact snd_lenS h hd ho hc ht hx0 hy hu he
        · rename_i el y hu hy; injection hm with hm; subst hm; exact snd_len h hd ho hc ht hx0 hy hu he
        · cases hm
      · cases hm
    · rename_i hc
      split at hm
      · rename_i t u x' y' hts hargs
        obtain ⟨x, y, hl, hx, hy⟩ := opds_two hargs
        split at hm
        · rename_i el ht
          split at hm
          · rename_i i z k hi hz hu
            split at hm
            · injection hm with hm; subst hm; simp [neu] at he
            · cases hm
          · rename_i i z ud hnot hi hz hu
            split at hm
            · rename_i hzl
              injection hm with hm
              have hn' : ∀ k, ud ≠ .int k := fun k e => hnot k e
              have : m = .appP (P.cellsOf el) i.bytes x' y' ∨ m = .app (P.cellsOf el) i.bytes x' y' := by
                subst hm; cases hint <;> first | exact .inl rfl | exact .inr rfl
              rcases this with rfl | rfl
              · exact snd_appP h hd ho hc hl hts ht hu hn' hi hz hx hy rfl rfl he
              · exact snd_app h hd ho hc hl hts ht hu hn' hi hz hzl hx hy rfl rfl he
            · cases hm
          · cases hm
        · cases hm
      · cases hm
    · split at hm
      · split at hm
        · split at hm
          · injection hm with hm; subst hm; simp [neu] at he
          · cases hm
        · cases hm
      · cases hm
    · rename_i hc
      split at hm
      · rename_i t x ht hx0
        split at hm
        · rename_i el y hu hy; injection hm with hm; subst hm; exact snd_cap h hd ho hc ht hx0 hy hu he
        · cases hm
      · cases hm
    · rename_i hc
      split at hm
      · rename_i x' y' hargs
        obtain ⟨x, y, hl, hx, hy⟩ := opds_two hargs
        injection hm with hm; subst hm; exact snd_mnx h hd ho (isMin := true) hc hl hx hy he
      · cases hm
    · rename_i hc
      split at hm
      · rename_i x' y' hargs
        obtain ⟨x, y, hl, hx, hy⟩ := opds_two hargs
        injection hm with hm; subst hm; exact snd_mnx h hd ho (isMin := false) hc hl hx hy he
      · cases hm
    · cases hm
  · injection hm with hm; subst hm; simp [neu] at he
  · injection hm with hm; subst hm; simp [neu] at he
  · cases hm

theorem act_snd (h : RelC φ w0 N s a w) {o : Oper} (hd : ∀ x, o.dst = some x → x < N) {hint m : MOp} (hm : cop P o hint = some m) (he : act s o.dst m = some s') : SndA P w0 N a w o s' := by
  unfold cop at hm
  split at hm
  case h_9 t x y ho =>
    split at hm
    · rename_i i x' y' hi hx hy; injection hm with hm; subst hm; exact snd_store h hd ho hi hx hy rfl he
    · cases hm
  case h_23 c ho =>
    split at hm
    · split at hm
      · split at hm
        · injection hm with hm; subst hm; cases hint <;> simp [act] at he
        · cases hm
      · cases hm
    · split at hm
      · injection hm with hm; subst hm; simp [act] at he
      · cases hm
    · split at hm
      · split at hm <;> first | (injection hm with hm; subst hm; simp [act] at he; done) | (cases hm; done)
      · cases hm
    · rename_i hc
      split at hm
      · rename_i t u x' y' hts hargs
        obtain ⟨x, y, hl, hx, hy⟩ := opds_two hargs
        split at hm
        · rename_i el ht
          split at hm
          · rename_i i z k hi hz hu
            split at hm
            · injection hm with hm; subst hm; exact snd_appZ h hd ho hc hl hts ht hu hi hz hx hy rfl rfl he
            · cases hm
          · rename_i i z ud hnot hi hz hu
            split at hm
            · rename_i hzl
              injection hm with hm
              have hn' : ∀ k, ud ≠ .int k := fun k e => hnot k e
              have : m = .appP (P.cellsOf el) i.bytes x' y' ∨ m = .app (P.cellsOf el) i.bytes x' y' := by
                subst hm; cases hint <;> first | exact .inl rfl | exact .inr rfl
              rcases this with rfl | rfl
              · simp [act] at he
              · exact snd_appRow h hd ho hc hl hts ht hu hn' hi hz hzl hx hy rfl rfl he
            · cases hm
          · cases hm
        · cases hm
      · cases hm
    · rename_i hc
      split at hm
      · rename_i t ts x' y' hts hargs
        obtain ⟨x, y, hl, hx, hy⟩ := opds_two hargs
        split at hm
        · rename_i el ht
          split at hm
          · rename_i i hi; injection hm with hm; subst hm; exact snd_copy h hd ho hc hl hts ht hi hx hy rfl he
          · cases hm
        · cases hm
      · cases hm
    · split at hm
      · split at hm <;> first | (injection hm with hm; subst hm; simp [act] at he; done) | (cases hm; done)
      · cases hm
    · split at hm <;> first | (injection hm with hm; subst hm; simp [act] at he; done) | (cases hm; done)
    · split at hm <;> first | (injection hm with hm; subst hm; simp [act] at he; done) | (cases hm; done)
    · cases hm
  all_goals
    exfalso
    repeat' split at hm
    all_goals first
      | (injection hm with hm; subst hm; simp [act] at he; done)
      | (cases hm; done)
end
end Go.Proofs.YtmblapgoimegkaaDoor
