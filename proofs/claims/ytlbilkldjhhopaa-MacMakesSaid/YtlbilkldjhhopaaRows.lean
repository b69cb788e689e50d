/-
  No cell of these rows narrows 'for every input' (looked for: loops, veiled, ifaces, maps, wideKeys, modest, calm, conditions, laid).
  DERIVED. THE GIVEN ROWS OF THIS SEAT. 11 by the template 'for every input the law returns true; each argument reads behind the call as it read before'; 0 by the template 'total and deterministic' (their statements: YtlbilkldjhhopaaTotals.lean).
  GIVEN WITH THE SEED: the statements are not yours to turn. If you find one false, say at which input.
  Laid BY PROGRAM, IN A SANDBOX (cutbox-rows.mjs): the forced cells as the released guide's own fill.sh prints them over the translation 6dfe33fe30a2d9f9… (all of the seat's roots in one cut). By AI agents, Wed Nov 11 2026. No macro, syntax, notation, axiom, sorry.
-/
import Derived.Test.YtlbilkldjhhopaaChecked
import GoSem.Claim
import GoSem.ClaimJoined
import GoSem.ClaimMapViews
import Derived.JoinedTies
import Derived.KernelRfl
namespace Go.Proofs.Ytlbilkldjhhopaa
/- THE CELL 'sum', in the pinned program and in every row, IS THE sha256 OF THE DUMP (.gsa) THAT YtlbilkldjhhopaaProg.lean LOADS. Nothing in Lean hashes anything: it is a label: what it is worth is what the hold of that sum in a sandbox is worth. -/
noncomputable def Try.pinned : Pinned := { name := "ytlbilkldjhhopaa", sum := "6dfe33fe30a2d9f979d5771def7f3cb69e3c31b286aa7ff72e8325813b2c3458", checked := Try.checked }
namespace Rows
def none {H : Type} : Left H := { results := [], args := [] }

/-- 'tollhouselaw01.ShaSums': WHATEVER THE INPUT: true; the input reads as it did. -/
def shaSumsSpec : ChangeSpec := { name := "shaSums", fn := fun _ => fun
  | [d] => { results := [.lit (.bool true)], args := [d] }
  | _ => none }
def shaSumsRow : OpenClaim := { program := "ytlbilkldjhhopaa", sum := "6dfe33fe30a2d9f979d5771def7f3cb69e3c31b286aa7ff72e8325813b2c3458", func := "tollhouse/tollhouselaw01.ShaSums", spec := "shaSums", unfollowed := true, recurses := true, apart := false }
def ShaSumsSaid : Prop := shaSumsRow.holds Try.pinned (OpenSpec.ofChange shaSumsSpec)

/-- ITS FALSE NEIGHBOUR: 'it returns false'. Refute it at one input. -/
def shaSumsWrong : ChangeSpec := { name := "shaSums", fn := fun _ => fun
  | [d] => { results := [.lit (.bool false)], args := [d] }
  | _ => none }
def ShaSumsWrongFalsely : Prop := shaSumsRow.holds Try.pinned (OpenSpec.ofChange shaSumsWrong)

/-- 'tollhouselaw01.ShaTurns': WHATEVER THE INPUT: true; the input reads as it did. -/
def shaTurnsSpec : ChangeSpec := { name := "shaTurns", fn := fun _ => fun
  | [d1, d2, d3] => { results := [.lit (.bool true)], args := [d1, d2, d3] }
  | _ => none }
def shaTurnsRow : OpenClaim := { program := "ytlbilkldjhhopaa", sum := "6dfe33fe30a2d9f979d5771def7f3cb69e3c31b286aa7ff72e8325813b2c3458", func := "tollhouse/tollhouselaw01.ShaTurns", spec := "shaTurns", unfollowed := true, recurses := true, apart := false }
def ShaTurnsSaid : Prop := shaTurnsRow.holds Try.pinned (OpenSpec.ofChange shaTurnsSpec)

/-- ITS FALSE NEIGHBOUR: 'it returns false'. Refute it at one input. -/
def shaTurnsWrong : ChangeSpec := { name := "shaTurns", fn := fun _ => fun
  | [d1, d2, d3] => { results := [.lit (.bool false)], args := [d1, d2, d3] }
  | _ => none }
def ShaTurnsWrongFalsely : Prop := shaTurnsRow.holds Try.pinned (OpenSpec.ofChange shaTurnsWrong)

/-- 'tollhouselaw01.ShaParts': WHATEVER THE INPUT: true; the input reads as it did. -/
def shaPartsSpec : ChangeSpec := { name := "shaParts", fn := fun _ => fun
  | [d1, d2] => { results := [.lit (.bool true)], args := [d1, d2] }
  | _ => none }
def shaPartsRow : OpenClaim := { program := "ytlbilkldjhhopaa", sum := "6dfe33fe30a2d9f979d5771def7f3cb69e3c31b286aa7ff72e8325813b2c3458", func := "tollhouse/tollhouselaw01.ShaParts", spec := "shaParts", unfollowed := true, recurses := true, apart := false }
def ShaPartsSaid : Prop := shaPartsRow.holds Try.pinned (OpenSpec.ofChange shaPartsSpec)

/-- ITS FALSE NEIGHBOUR: 'it returns false'. Refute it at one input. -/
def shaPartsWrong : ChangeSpec := { name := "shaParts", fn := fun _ => fun
  | [d1, d2] => { results := [.lit (.bool false)], args := [d1, d2] }
  | _ => none }
def ShaPartsWrongFalsely : Prop := shaPartsRow.holds Try.pinned (OpenSpec.ofChange shaPartsWrong)

/-- 'tollhouselaw01.ShaPads': WHATEVER THE INPUT: true; the input reads as it did. -/
def shaPadsSpec : ChangeSpec := { name := "shaPads", fn := fun _ => fun
  | [d] => { results := [.lit (.bool true)], args := [d] }
  | _ => none }
def shaPadsRow : OpenClaim := { program := "ytlbilkldjhhopaa", sum := "6dfe33fe30a2d9f979d5771def7f3cb69e3c31b286aa7ff72e8325813b2c3458", func := "tollhouse/tollhouselaw01.ShaPads", spec := "shaPads", unfollowed := true, recurses := true, apart := false }
def ShaPadsSaid : Prop := shaPadsRow.holds Try.pinned (OpenSpec.ofChange shaPadsSpec)

/-- ITS FALSE NEIGHBOUR: 'it returns false'. Refute it at one input. -/
def shaPadsWrong : ChangeSpec := { name := "shaPads", fn := fun _ => fun
  | [d] => { results := [.lit (.bool false)], args := [d] }
  | _ => none }
def ShaPadsWrongFalsely : Prop := shaPadsRow.holds Try.pinned (OpenSpec.ofChange shaPadsWrong)

/-- 'tollhouselaw02.MacTags': WHATEVER THE INPUT: true; the input reads as it did. -/
def macTagsSpec : ChangeSpec := { name := "macTags", fn := fun _ => fun
  | [d1, d2] => { results := [.lit (.bool true)], args := [d1, d2] }
  | _ => none }
def macTagsRow : OpenClaim := { program := "ytlbilkldjhhopaa", sum := "6dfe33fe30a2d9f979d5771def7f3cb69e3c31b286aa7ff72e8325813b2c3458", func := "tollhouse/tollhouselaw02.MacTags", spec := "macTags", inPlace := ["slices.overlaps[[]byte]"], unfollowed := true, recurses := true, apart := false }
def MacTagsSaid : Prop := macTagsRow.holds Try.pinned (OpenSpec.ofChange macTagsSpec)

/-- ITS FALSE NEIGHBOUR: 'it returns false'. Refute it at one input. -/
def macTagsWrong : ChangeSpec := { name := "macTags", fn := fun _ => fun
  | [d1, d2] => { results := [.lit (.bool false)], args := [d1, d2] }
  | _ => none }
def MacTagsWrongFalsely : Prop := macTagsRow.holds Try.pinned (OpenSpec.ofChange macTagsWrong)

/-- 'tollhouselaw02.MacKeys': WHATEVER THE INPUT: true; the input reads as it did. -/
def macKeysSpec : ChangeSpec := { name := "macKeys", fn := fun _ => fun
  | [d1, d2, d3] => { results := [.lit (.bool true)], args := [d1, d2, d3] }
  | _ => none }
def macKeysRow : OpenClaim := { program := "ytlbilkldjhhopaa", sum := "6dfe33fe30a2d9f979d5771def7f3cb69e3c31b286aa7ff72e8325813b2c3458", func := "tollhouse/tollhouselaw02.MacKeys", spec := "macKeys", inPlace := ["slices.overlaps[[]byte]"], unfollowed := true, recurses := true, apart := false }
def MacKeysSaid : Prop := macKeysRow.holds Try.pinned (OpenSpec.ofChange macKeysSpec)

/-- ITS FALSE NEIGHBOUR: 'it returns false'. Refute it at one input. -/
def macKeysWrong : ChangeSpec := { name := "macKeys", fn := fun _ => fun
  | [d1, d2, d3] => { results := [.lit (.bool false)], args := [d1, d2, d3] }
  | _ => none }
def MacKeysWrongFalsely : Prop := macKeysRow.holds Try.pinned (OpenSpec.ofChange macKeysWrong)

/-- 'tollhouselaw02.MacMakes': WHATEVER THE INPUT: true; the input reads as it did. -/
def macMakesSpec : ChangeSpec := { name := "macMakes", fn := fun _ => fun
  | [d1, d2] => { results := [.lit (.bool true)], args := [d1, d2] }
  | _ => none }
def macMakesRow : OpenClaim := { program := "ytlbilkldjhhopaa", sum := "6dfe33fe30a2d9f979d5771def7f3cb69e3c31b286aa7ff72e8325813b2c3458", func := "tollhouse/tollhouselaw02.MacMakes", spec := "macMakes", inPlace := ["slices.overlaps[[]byte]"], unfollowed := true, recurses := true, apart := false }
def MacMakesSaid : Prop := macMakesRow.holds Try.pinned (OpenSpec.ofChange macMakesSpec)

/-- ITS FALSE NEIGHBOUR: 'it returns false'. Refute it at one input. -/
def macMakesWrong : ChangeSpec := { name := "macMakes", fn := fun _ => fun
  | [d1, d2] => { results := [.lit (.bool false)], args := [d1, d2] }
  | _ => none }
def MacMakesWrongFalsely : Prop := macMakesRow.holds Try.pinned (OpenSpec.ofChange macMakesWrong)

/-- 'tollhouselaw03.TagTells': WHATEVER THE INPUT: true; the input reads as it did. -/
def tagTellsSpec : ChangeSpec := { name := "tagTells", fn := fun _ => fun
  | [d1, d2, d3] => { results := [.lit (.bool true)], args := [d1, d2, d3] }
  | _ => none }
def tagTellsRow : OpenClaim := { program := "ytlbilkldjhhopaa", sum := "6dfe33fe30a2d9f979d5771def7f3cb69e3c31b286aa7ff72e8325813b2c3458", func := "tollhouse/tollhouselaw03.TagTells", spec := "tagTells", inPlace := ["slices.overlaps[[]byte]"], unfollowed := true, recurses := true, apart := false }
def TagTellsSaid : Prop := tagTellsRow.holds Try.pinned (OpenSpec.ofChange tagTellsSpec)

/-- ITS FALSE NEIGHBOUR: 'it returns false'. Refute it at one input. -/
def tagTellsWrong : ChangeSpec := { name := "tagTells", fn := fun _ => fun
  | [d1, d2, d3] => { results := [.lit (.bool false)], args := [d1, d2, d3] }
  | _ => none }
def TagTellsWrongFalsely : Prop := tagTellsRow.holds Try.pinned (OpenSpec.ofChange tagTellsWrong)

/-- 'tollhouselaw03.TagGoes': WHATEVER THE INPUT: true; the input reads as it did. -/
def tagGoesSpec : ChangeSpec := { name := "tagGoes", fn := fun _ => fun
  | [d1, d2] => { results := [.lit (.bool true)], args := [d1, d2] }
  | _ => none }
def tagGoesRow : OpenClaim := { program := "ytlbilkldjhhopaa", sum := "6dfe33fe30a2d9f979d5771def7f3cb69e3c31b286aa7ff72e8325813b2c3458", func := "tollhouse/tollhouselaw03.TagGoes", spec := "tagGoes", inPlace := ["slices.overlaps[[]byte]"], unfollowed := true, recurses := true, apart := false }
def TagGoesSaid : Prop := tagGoesRow.holds Try.pinned (OpenSpec.ofChange tagGoesSpec)

/-- ITS FALSE NEIGHBOUR: 'it returns false'. Refute it at one input. -/
def tagGoesWrong : ChangeSpec := { name := "tagGoes", fn := fun _ => fun
  | [d1, d2] => { results := [.lit (.bool false)], args := [d1, d2] }
  | _ => none }
def TagGoesWrongFalsely : Prop := tagGoesRow.holds Try.pinned (OpenSpec.ofChange tagGoesWrong)

/-- 'tollhouselaw03.TagSame': WHATEVER THE INPUT: true; the input reads as it did. -/
def tagSameSpec : ChangeSpec := { name := "tagSame", fn := fun _ => fun
  | [d1, d2, d3] => { results := [.lit (.bool true)], args := [d1, d2, d3] }
  | _ => none }
def tagSameRow : OpenClaim := { program := "ytlbilkldjhhopaa", sum := "6dfe33fe30a2d9f979d5771def7f3cb69e3c31b286aa7ff72e8325813b2c3458", func := "tollhouse/tollhouselaw03.TagSame", spec := "tagSame", inPlace := ["slices.overlaps[[]byte]"], unfollowed := true, recurses := true, apart := false }
def TagSameSaid : Prop := tagSameRow.holds Try.pinned (OpenSpec.ofChange tagSameSpec)

/-- ITS FALSE NEIGHBOUR: 'it returns false'. Refute it at one input. -/
def tagSameWrong : ChangeSpec := { name := "tagSame", fn := fun _ => fun
  | [d1, d2, d3] => { results := [.lit (.bool false)], args := [d1, d2, d3] }
  | _ => none }
def TagSameWrongFalsely : Prop := tagSameRow.holds Try.pinned (OpenSpec.ofChange tagSameWrong)

/-- 'tollhouselaw03.TagJoins': WHATEVER THE INPUT: true; the input reads as it did. -/
def tagJoinsSpec : ChangeSpec := { name := "tagJoins", fn := fun _ => fun
  | [d] => { results := [.lit (.bool true)], args := [d] }
  | _ => none }
def tagJoinsRow : OpenClaim := { program := "ytlbilkldjhhopaa", sum := "6dfe33fe30a2d9f979d5771def7f3cb69e3c31b286aa7ff72e8325813b2c3458", func := "tollhouse/tollhouselaw03.TagJoins", spec := "tagJoins", inPlace := ["slices.overlaps[[]byte]"], unfollowed := true, recurses := true, apart := false }
def TagJoinsSaid : Prop := tagJoinsRow.holds Try.pinned (OpenSpec.ofChange tagJoinsSpec)

/-- ITS FALSE NEIGHBOUR: 'it returns false'. Refute it at one input. -/
def tagJoinsWrong : ChangeSpec := { name := "tagJoins", fn := fun _ => fun
  | [d] => { results := [.lit (.bool false)], args := [d] }
  | _ => none }
def TagJoinsWrongFalsely : Prop := tagJoinsRow.holds Try.pinned (OpenSpec.ofChange tagJoinsWrong)

/- THE SECOND FORM. 'bulk': how many values and letters a reading holds, each counted each time it is reached (what is shared counts as often as it is met; a slice's spare places count too). A statement '..UptoSaid' is the law's where the arguments, and the package variables that the reading takes, are together of bulk at most 1048576: NARROWER than '..Said'. Prove '..Said' where nothing that the law and all that it calls make is longer than what came in: it says more and counts as full. Else prove '..UptoSaid'. A law counts once. -/
mutual
def uptoBulk {H : Type} : DataW H → Nat
  | .lit (.string bytes) => bytes.length + 1
  | .lit _ => 1
  | .nil => 1
  | .ptr d => uptoBulk d + 1
  | .slice elems spare => uptoBulkAll elems + uptoBulkAll spare + 1
  | .agg parts => uptoBulkAll parts + 1
  | .iface _ d => uptoBulk d + 1
  | .map entries => uptoBulkEntries entries + 1
  | .held _ => 1
def uptoBulkAll {H : Type} : List (DataW H) → Nat
  | [] => 0
  | d :: r => uptoBulk d + uptoBulkAll r
def uptoBulkEntries {H : Type} : List (Lit × DataW H) → Nat
  | [] => 0
  | x :: r => uptoBulkEntry x + uptoBulkEntries r
def uptoBulkEntry {H : Type} : Lit × DataW H → Nat
  | (.string bytes, d) => bytes.length + uptoBulk d + 1
  | (_, d) => uptoBulk d + 1
 end
def uptoSmall : (H : Type) → List (DataW H) → Bool := fun _ ds => decide (uptoBulkAll ds ≤ 1048576)
def OpenSpec.upto (s : _root_.Go.ChangeSpec) : _root_.Go.OpenSpec := { _root_.Go.OpenSpec.ofChange s with cond := some uptoSmall }

/-- 'tollhouselaw01.ShaSums', WHERE WHAT IT READS IS OF BULK AT MOST 1048576: true; the input reads as it did. -/
def shaSumsUptoRow : OpenClaim := { program := "ytlbilkldjhhopaa", sum := "6dfe33fe30a2d9f979d5771def7f3cb69e3c31b286aa7ff72e8325813b2c3458", func := "tollhouse/tollhouselaw01.ShaSums", spec := "shaSums", unfollowed := true, recurses := true, apart := false, narrowed := true }
def ShaSumsUptoSaid : Prop := shaSumsUptoRow.holds Try.pinned (OpenSpec.upto shaSumsSpec)

/-- 'tollhouselaw01.ShaTurns', WHERE WHAT IT READS IS OF BULK AT MOST 1048576: true; the input reads as it did. -/
def shaTurnsUptoRow : OpenClaim := { program := "ytlbilkldjhhopaa", sum := "6dfe33fe30a2d9f979d5771def7f3cb69e3c31b286aa7ff72e8325813b2c3458", func := "tollhouse/tollhouselaw01.ShaTurns", spec := "shaTurns", unfollowed := true, recurses := true, apart := false, narrowed := true }
def ShaTurnsUptoSaid : Prop := shaTurnsUptoRow.holds Try.pinned (OpenSpec.upto shaTurnsSpec)

/-- 'tollhouselaw01.ShaParts', WHERE WHAT IT READS IS OF BULK AT MOST 1048576: true; the input reads as it did. -/
def shaPartsUptoRow : OpenClaim := { program := "ytlbilkldjhhopaa", sum := "6dfe33fe30a2d9f979d5771def7f3cb69e3c31b286aa7ff72e8325813b2c3458", func := "tollhouse/tollhouselaw01.ShaParts", spec := "shaParts", unfollowed := true, recurses := true, apart := false, narrowed := true }
def ShaPartsUptoSaid : Prop := shaPartsUptoRow.holds Try.pinned (OpenSpec.upto shaPartsSpec)

/-- 'tollhouselaw01.ShaPads', WHERE WHAT IT READS IS OF BULK AT MOST 1048576: true; the input reads as it did. -/
def shaPadsUptoRow : OpenClaim := { program := "ytlbilkldjhhopaa", sum := "6dfe33fe30a2d9f979d5771def7f3cb69e3c31b286aa7ff72e8325813b2c3458", func := "tollhouse/tollhouselaw01.ShaPads", spec := "shaPads", unfollowed := true, recurses := true, apart := false, narrowed := true }
def ShaPadsUptoSaid : Prop := shaPadsUptoRow.holds Try.pinned (OpenSpec.upto shaPadsSpec)

/-- 'tollhouselaw02.MacTags', WHERE WHAT IT READS IS OF BULK AT MOST 1048576: true; the input reads as it did. -/
def macTagsUptoRow : OpenClaim := { program := "ytlbilkldjhhopaa", sum := "6dfe33fe30a2d9f979d5771def7f3cb69e3c31b286aa7ff72e8325813b2c3458", func := "tollhouse/tollhouselaw02.MacTags", spec := "macTags", inPlace := ["slices.overlaps[[]byte]"], unfollowed := true, recurses := true, apart := false, narrowed := true }
def MacTagsUptoSaid : Prop := macTagsUptoRow.holds Try.pinned (OpenSpec.upto macTagsSpec)

/-- 'tollhouselaw02.MacKeys', WHERE WHAT IT READS IS OF BULK AT MOST 1048576: true; the input reads as it did. -/
def macKeysUptoRow : OpenClaim := { program := "ytlbilkldjhhopaa", sum := "6dfe33fe30a2d9f979d5771def7f3cb69e3c31b286aa7ff72e8325813b2c3458", func := "tollhouse/tollhouselaw02.MacKeys", spec := "macKeys", inPlace := ["slices.overlaps[[]byte]"], unfollowed := true, recurses := true, apart := false, narrowed := true }
def MacKeysUptoSaid : Prop := macKeysUptoRow.holds Try.pinned (OpenSpec.upto macKeysSpec)

/-- 'tollhouselaw02.MacMakes', WHERE WHAT IT READS IS OF BULK AT MOST 1048576: true; the input reads as it did. -/
def macMakesUptoRow : OpenClaim := { program := "ytlbilkldjhhopaa", sum := "6dfe33fe30a2d9f979d5771def7f3cb69e3c31b286aa7ff72e8325813b2c3458", func := "tollhouse/tollhouselaw02.MacMakes", spec := "macMakes", inPlace := ["slices.overlaps[[]byte]"], unfollowed := true, recurses := true, apart := false, narrowed := true }
def MacMakesUptoSaid : Prop := macMakesUptoRow.holds Try.pinned (OpenSpec.upto macMakesSpec)

/-- 'tollhouselaw03.TagTells', WHERE WHAT IT READS IS OF BULK AT MOST 1048576: true; the input reads as it did. -/
def tagTellsUptoRow : OpenClaim := { program := "ytlbilkldjhhopaa", sum := "6dfe33fe30a2d9f979d5771def7f3cb69e3c31b286aa7ff72e8325813b2c3458", func := "tollhouse/tollhouselaw03.TagTells", spec := "tagTells", inPlace := ["slices.overlaps[[]byte]"], unfollowed := true, recurses := true, apart := false, narrowed := true }
def TagTellsUptoSaid : Prop := tagTellsUptoRow.holds Try.pinned (OpenSpec.upto tagTellsSpec)

/-- 'tollhouselaw03.TagGoes', WHERE WHAT IT READS IS OF BULK AT MOST 1048576: true; the input reads as it did. -/
def tagGoesUptoRow : OpenClaim := { program := "ytlbilkldjhhopaa", sum := "6dfe33fe30a2d9f979d5771def7f3cb69e3c31b286aa7ff72e8325813b2c3458", func := "tollhouse/tollhouselaw03.TagGoes", spec := "tagGoes", inPlace := ["slices.overlaps[[]byte]"], unfollowed := true, recurses := true, apart := false, narrowed := true }
def TagGoesUptoSaid : Prop := tagGoesUptoRow.holds Try.pinned (OpenSpec.upto tagGoesSpec)

/-- 'tollhouselaw03.TagSame', WHERE WHAT IT READS IS OF BULK AT MOST 1048576: true; the input reads as it did. -/
def tagSameUptoRow : OpenClaim := { program := "ytlbilkldjhhopaa", sum := "6dfe33fe30a2d9f979d5771def7f3cb69e3c31b286aa7ff72e8325813b2c3458", func := "tollhouse/tollhouselaw03.TagSame", spec := "tagSame", inPlace := ["slices.overlaps[[]byte]"], unfollowed := true, recurses := true, apart := false, narrowed := true }
def TagSameUptoSaid : Prop := tagSameUptoRow.holds Try.pinned (OpenSpec.upto tagSameSpec)

/-- 'tollhouselaw03.TagJoins', WHERE WHAT IT READS IS OF BULK AT MOST 1048576: true; the input reads as it did. -/
def tagJoinsUptoRow : OpenClaim := { program := "ytlbilkldjhhopaa", sum := "6dfe33fe30a2d9f979d5771def7f3cb69e3c31b286aa7ff72e8325813b2c3458", func := "tollhouse/tollhouselaw03.TagJoins", spec := "tagJoins", inPlace := ["slices.overlaps[[]byte]"], unfollowed := true, recurses := true, apart := false, narrowed := true }
def TagJoinsUptoSaid : Prop := tagJoinsUptoRow.holds Try.pinned (OpenSpec.upto tagJoinsSpec)

end Rows
end Go.Proofs.Ytlbilkldjhhopaa
