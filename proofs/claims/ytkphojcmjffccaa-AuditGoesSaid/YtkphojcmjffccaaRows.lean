/-
  No cell of these rows narrows 'for every input' (looked for: loops, veiled, ifaces, maps, wideKeys, modest, calm, conditions, laid).
  DERIVED. THE GIVEN ROWS OF THIS SEAT. 6 by the template 'for every input the law returns true; each argument reads behind the call as it read before'; 0 by the template 'total and deterministic' (their statements: YtkphojcmjffccaaTotals.lean).
  GIVEN WITH THE SEED: the statements are not yours to turn. If you find one false, say at which input.
  Laid BY PROGRAM, IN A SANDBOX (cutbox-rows.mjs): the forced cells as the released guide's own fill.sh prints them over the translation 68af2f17ef6a11eb… (all of the seat's roots in one cut). By AI agents, Wed Nov 11 2026. No macro, syntax, notation, axiom, sorry.
-/
import Derived.Test.YtkphojcmjffccaaChecked
import GoSem.Claim
import GoSem.ClaimJoined
import GoSem.ClaimMapViews
import Derived.JoinedTies
import Derived.KernelRfl
namespace Go.Proofs.Ytkphojcmjffccaa
/- THE CELL 'sum', in the pinned program and in every row, IS THE sha256 OF THE DUMP (.gsa) THAT YtkphojcmjffccaaProg.lean LOADS. Nothing in Lean hashes anything: it is a label: what it is worth is what the hold of that sum in a sandbox is worth. -/
noncomputable def Try.pinned : Pinned := { name := "ytkphojcmjffccaa", sum := "68af2f17ef6a11eb0643e0c23da9b2a42c157cc9d1a26c442c531c9ecdd49878", checked := Try.checked }
namespace Rows
def none {H : Type} : Left H := { results := [], args := [] }

/-- 'tollhouselaw25.AuditAdds': WHATEVER THE INPUT: true; the input reads as it did. -/
def auditAddsSpec : ChangeSpec := { name := "auditAdds", fn := fun _ => fun
  | [d1, d2] => { results := [.lit (.bool true)], args := [d1, d2] }
  | _ => none }
def auditAddsRow : OpenClaim := { program := "ytkphojcmjffccaa", sum := "68af2f17ef6a11eb0643e0c23da9b2a42c157cc9d1a26c442c531c9ecdd49878", func := "tollhouse/tollhouselaw25.AuditAdds", spec := "auditAdds", inPlace := ["slices.overlaps[[]byte]"], unfollowed := true, recurses := true, apart := false }
def AuditAddsSaid : Prop := auditAddsRow.holds Try.pinned (OpenSpec.ofChange auditAddsSpec)

/-- ITS FALSE NEIGHBOUR: 'it returns false'. Refute it at one input. -/
def auditAddsWrong : ChangeSpec := { name := "auditAdds", fn := fun _ => fun
  | [d1, d2] => { results := [.lit (.bool false)], args := [d1, d2] }
  | _ => none }
def AuditAddsWrongFalsely : Prop := auditAddsRow.holds Try.pinned (OpenSpec.ofChange auditAddsWrong)

/-- 'tollhouselaw25.AuditVerifies': WHATEVER THE INPUT: true; the input reads as it did. -/
def auditVerifiesSpec : ChangeSpec := { name := "auditVerifies", fn := fun _ => fun
  | [d] => { results := [.lit (.bool true)], args := [d] }
  | _ => none }
def auditVerifiesRow : OpenClaim := { program := "ytkphojcmjffccaa", sum := "68af2f17ef6a11eb0643e0c23da9b2a42c157cc9d1a26c442c531c9ecdd49878", func := "tollhouse/tollhouselaw25.AuditVerifies", spec := "auditVerifies", inPlace := ["slices.overlaps[[]byte]"], unfollowed := true, recurses := true, apart := false }
def AuditVerifiesSaid : Prop := auditVerifiesRow.holds Try.pinned (OpenSpec.ofChange auditVerifiesSpec)

/-- ITS FALSE NEIGHBOUR: 'it returns false'. Refute it at one input. -/
def auditVerifiesWrong : ChangeSpec := { name := "auditVerifies", fn := fun _ => fun
  | [d] => { results := [.lit (.bool false)], args := [d] }
  | _ => none }
def AuditVerifiesWrongFalsely : Prop := auditVerifiesRow.holds Try.pinned (OpenSpec.ofChange auditVerifiesWrong)

/-- 'tollhouselaw25.AuditTurned': WHATEVER THE INPUT: true; the input reads as it did. -/
def auditTurnedSpec : ChangeSpec := { name := "auditTurned", fn := fun _ => fun
  | [d1, d2] => { results := [.lit (.bool true)], args := [d1, d2] }
  | _ => none }
def auditTurnedRow : OpenClaim := { program := "ytkphojcmjffccaa", sum := "68af2f17ef6a11eb0643e0c23da9b2a42c157cc9d1a26c442c531c9ecdd49878", func := "tollhouse/tollhouselaw25.AuditTurned", spec := "auditTurned", inPlace := ["slices.overlaps[[]byte]"], unfollowed := true, recurses := true, apart := false }
def AuditTurnedSaid : Prop := auditTurnedRow.holds Try.pinned (OpenSpec.ofChange auditTurnedSpec)

/-- ITS FALSE NEIGHBOUR: 'it returns false'. Refute it at one input. -/
def auditTurnedWrong : ChangeSpec := { name := "auditTurned", fn := fun _ => fun
  | [d1, d2] => { results := [.lit (.bool false)], args := [d1, d2] }
  | _ => none }
def AuditTurnedWrongFalsely : Prop := auditTurnedRow.holds Try.pinned (OpenSpec.ofChange auditTurnedWrong)

/-- 'tollhouselaw25.AuditNone': WHATEVER THE INPUT: true; the input reads as it did. -/
def auditNoneSpec : ChangeSpec := { name := "auditNone", fn := fun _ => fun
  | [d] => { results := [.lit (.bool true)], args := [d] }
  | _ => none }
def auditNoneRow : OpenClaim := { program := "ytkphojcmjffccaa", sum := "68af2f17ef6a11eb0643e0c23da9b2a42c157cc9d1a26c442c531c9ecdd49878", func := "tollhouse/tollhouselaw25.AuditNone", spec := "auditNone", inPlace := ["slices.overlaps[[]byte]"], unfollowed := true, recurses := true, apart := false }
def AuditNoneSaid : Prop := auditNoneRow.holds Try.pinned (OpenSpec.ofChange auditNoneSpec)

/-- ITS FALSE NEIGHBOUR: 'it returns false'. Refute it at one input. -/
def auditNoneWrong : ChangeSpec := { name := "auditNone", fn := fun _ => fun
  | [d] => { results := [.lit (.bool false)], args := [d] }
  | _ => none }
def AuditNoneWrongFalsely : Prop := auditNoneRow.holds Try.pinned (OpenSpec.ofChange auditNoneWrong)

/-- 'tollhouselaw25.AuditGoes': WHATEVER THE INPUT: true; the input reads as it did. -/
def auditGoesSpec : ChangeSpec := { name := "auditGoes", fn := fun _ => fun
  | [d1, d2] => { results := [.lit (.bool true)], args := [d1, d2] }
  | _ => none }
def auditGoesRow : OpenClaim := { program := "ytkphojcmjffccaa", sum := "68af2f17ef6a11eb0643e0c23da9b2a42c157cc9d1a26c442c531c9ecdd49878", func := "tollhouse/tollhouselaw25.AuditGoes", spec := "auditGoes", inPlace := ["slices.overlaps[[]byte]"], unfollowed := true, recurses := true, apart := false }
def AuditGoesSaid : Prop := auditGoesRow.holds Try.pinned (OpenSpec.ofChange auditGoesSpec)

/-- ITS FALSE NEIGHBOUR: 'it returns false'. Refute it at one input. -/
def auditGoesWrong : ChangeSpec := { name := "auditGoes", fn := fun _ => fun
  | [d1, d2] => { results := [.lit (.bool false)], args := [d1, d2] }
  | _ => none }
def AuditGoesWrongFalsely : Prop := auditGoesRow.holds Try.pinned (OpenSpec.ofChange auditGoesWrong)

/-- 'tollhouselaw25.AuditSwaps': WHATEVER THE INPUT: true; the input reads as it did. -/
def auditSwapsSpec : ChangeSpec := { name := "auditSwaps", fn := fun _ => fun
  | [d1, d2] => { results := [.lit (.bool true)], args := [d1, d2] }
  | _ => none }
def auditSwapsRow : OpenClaim := { program := "ytkphojcmjffccaa", sum := "68af2f17ef6a11eb0643e0c23da9b2a42c157cc9d1a26c442c531c9ecdd49878", func := "tollhouse/tollhouselaw25.AuditSwaps", spec := "auditSwaps", inPlace := ["slices.overlaps[[]byte]"], unfollowed := true, recurses := true, apart := false }
def AuditSwapsSaid : Prop := auditSwapsRow.holds Try.pinned (OpenSpec.ofChange auditSwapsSpec)

/-- ITS FALSE NEIGHBOUR: 'it returns false'. Refute it at one input. -/
def auditSwapsWrong : ChangeSpec := { name := "auditSwaps", fn := fun _ => fun
  | [d1, d2] => { results := [.lit (.bool false)], args := [d1, d2] }
  | _ => none }
def AuditSwapsWrongFalsely : Prop := auditSwapsRow.holds Try.pinned (OpenSpec.ofChange auditSwapsWrong)

/- THE SECOND FORM. 'bulk': how many values and letters a reading holds, each counted each time it is reached (what is shared counts as often as it is met; a slice's spare places count too). A statement '..UptoSaid' is the law's where the arguments, and the package variables that the reading takes, are together of bulk at most 1048576: NARROWER than '..Said'. Prove '..Said' where nothing that the law and all that it calls make is longer than what came in: it says more and counts as full. Else prove '..UptoSaid'. A law counts once. -/
mutual
def uptoBulk {H : Type} : DataW H → Nat
  | .lit (.string bytes) => bytes.length + 1
  | .lit _ => 1
  | .nil => 1
  | .ptr d => uptoBulk d + 1
  | .slice elems spare => uptoBulkAll elems + uptoBulkAll spare + 1
  | .agg parts => uptoBulkAll parts + 1
  | .iface _ d => uptoBulk d + 1
  | .map entries => uptoBulkEntries entries + 1
  | .held _ => 1
def uptoBulkAll {H : Type} : List (DataW H) → Nat
  | [] => 0
  | d :: r => uptoBulk d + uptoBulkAll r
def uptoBulkEntries {H : Type} : List (Lit × DataW H) → Nat
  | [] => 0
  | x :: r => uptoBulkEntry x + uptoBulkEntries r
def uptoBulkEntry {H : Type} : Lit × DataW H → Nat
  | (.string bytes, d) => bytes.length + uptoBulk d + 1
  | (_, d) => uptoBulk d + 1
 end
def uptoSmall : (H : Type) → List (DataW H) → Bool := fun _ ds => decide (uptoBulkAll ds ≤ 1048576)
def OpenSpec.upto (s : _root_.Go.ChangeSpec) : _root_.Go.OpenSpec := { _root_.Go.OpenSpec.ofChange s with cond := some uptoSmall }

/-- 'tollhouselaw25.AuditAdds', WHERE WHAT IT READS IS OF BULK AT MOST 1048576: true; the input reads as it did. -/
def auditAddsUptoRow : OpenClaim := { program := "ytkphojcmjffccaa", sum := "68af2f17ef6a11eb0643e0c23da9b2a42c157cc9d1a26c442c531c9ecdd49878", func := "tollhouse/tollhouselaw25.AuditAdds", spec := "auditAdds", inPlace := ["slices.overlaps[[]byte]"], unfollowed := true, recurses := true, apart := false, narrowed := true }
def AuditAddsUptoSaid : Prop := auditAddsUptoRow.holds Try.pinned (OpenSpec.upto auditAddsSpec)

/-- 'tollhouselaw25.AuditVerifies', WHERE WHAT IT READS IS OF BULK AT MOST 1048576: true; the input reads as it did. -/
def auditVerifiesUptoRow : OpenClaim := { program := "ytkphojcmjffccaa", sum := "68af2f17ef6a11eb0643e0c23da9b2a42c157cc9d1a26c442c531c9ecdd49878", func := "tollhouse/tollhouselaw25.AuditVerifies", spec := "auditVerifies", inPlace := ["slices.overlaps[[]byte]"], unfollowed := true, recurses := true, apart := false, narrowed := true }
def AuditVerifiesUptoSaid : Prop := auditVerifiesUptoRow.holds Try.pinned (OpenSpec.upto auditVerifiesSpec)

/-- 'tollhouselaw25.AuditTurned', WHERE WHAT IT READS IS OF BULK AT MOST 1048576: true; the input reads as it did. -/
def auditTurnedUptoRow : OpenClaim := { program := "ytkphojcmjffccaa", sum := "68af2f17ef6a11eb0643e0c23da9b2a42c157cc9d1a26c442c531c9ecdd49878", func := "tollhouse/tollhouselaw25.AuditTurned", spec := "auditTurned", inPlace := ["slices.overlaps[[]byte]"], unfollowed := true, recurses := true, apart := false, narrowed := true }
def AuditTurnedUptoSaid : Prop := auditTurnedUptoRow.holds Try.pinned (OpenSpec.upto auditTurnedSpec)

/-- 'tollhouselaw25.AuditNone', WHERE WHAT IT READS IS OF BULK AT MOST 1048576: true; the input reads as it did. -/
def auditNoneUptoRow : OpenClaim := { program := "ytkphojcmjffccaa", sum := "68af2f17ef6a11eb0643e0c23da9b2a42c157cc9d1a26c442c531c9ecdd49878", func := "tollhouse/tollhouselaw25.AuditNone", spec := "auditNone", inPlace := ["slices.overlaps[[]byte]"], unfollowed := true, recurses := true, apart := false, narrowed := true }
def AuditNoneUptoSaid : Prop := auditNoneUptoRow.holds Try.pinned (OpenSpec.upto auditNoneSpec)

/-- 'tollhouselaw25.AuditGoes', WHERE WHAT IT READS IS OF BULK AT MOST 1048576: true; the input reads as it did. -/
def auditGoesUptoRow : OpenClaim := { program := "ytkphojcmjffccaa", sum := "68af2f17ef6a11eb0643e0c23da9b2a42c157cc9d1a26c442c531c9ecdd49878", func := "tollhouse/tollhouselaw25.AuditGoes", spec := "auditGoes", inPlace := ["slices.overlaps[[]byte]"], unfollowed := true, recurses := true, apart := false, narrowed := true }
def AuditGoesUptoSaid : Prop := auditGoesUptoRow.holds Try.pinned (OpenSpec.upto auditGoesSpec)

/-- 'tollhouselaw25.AuditSwaps', WHERE WHAT IT READS IS OF BULK AT MOST 1048576: true; the input reads as it did. -/
def auditSwapsUptoRow : OpenClaim := { program := "ytkphojcmjffccaa", sum := "68af2f17ef6a11eb0643e0c23da9b2a42c157cc9d1a26c442c531c9ecdd49878", func := "tollhouse/tollhouselaw25.AuditSwaps", spec := "auditSwaps", inPlace := ["slices.overlaps[[]byte]"], unfollowed := true, recurses := true, apart := false, narrowed := true }
def AuditSwapsUptoSaid : Prop := auditSwapsUptoRow.holds Try.pinned (OpenSpec.upto auditSwapsSpec)

end Rows
end Go.Proofs.Ytkphojcmjffccaa
