/-
  No cell of these rows narrows 'for every input' (looked for: loops, veiled, ifaces, maps, wideKeys, modest, calm, conditions, laid).
  DERIVED. THE GIVEN ROWS OF THIS SEAT. 12 by the template 'for every input the law returns true; each argument reads behind the call as it read before'; 0 by the template 'total and deterministic' (their statements: YtfohfnhimgmnlaaTotals.lean).
  GIVEN WITH THE SEED: the statements are not yours to turn. If you find one false, say at which input.
  Laid BY PROGRAM, IN A SANDBOX (cutbox-rows.mjs): the forced cells as the released guide's own fill.sh prints them over the translation d450bc689fc1b970… (all of the seat's roots in one cut). By AI agents, Wed Nov 11 2026. No macro, syntax, notation, axiom, sorry.
-/
import Derived.Test.YtfohfnhimgmnlaaChecked
import GoSem.Claim
import GoSem.ClaimJoined
import GoSem.ClaimMapViews
import Derived.JoinedTies
import Derived.KernelRfl
namespace Go.Proofs.Ytfohfnhimgmnlaa
/- THE CELL 'sum', in the pinned program and in every row, IS THE sha256 OF THE DUMP (.gsa) THAT YtfohfnhimgmnlaaProg.lean LOADS. Nothing in Lean hashes anything: it is a label: what it is worth is what the hold of that sum in a sandbox is worth. -/
noncomputable def Try.pinned : Pinned := { name := "ytfohfnhimgmnlaa", sum := "d450bc689fc1b97069c2450a00809be21759efe4ce20d66ceb4bb5c31943c47c", checked := Try.checked }
namespace Rows
def none {H : Type} : Left H := { results := [], args := [] }

/-- 'tollhouselaw11.PoolTells': WHATEVER THE INPUT: true; the input reads as it did. -/
def poolTellsSpec : ChangeSpec := { name := "poolTells", fn := fun _ => fun
  | [d1, d2] => { results := [.lit (.bool true)], args := [d1, d2] }
  | _ => none }
def poolTellsRow : OpenClaim := { program := "ytfohfnhimgmnlaa", sum := "d450bc689fc1b97069c2450a00809be21759efe4ce20d66ceb4bb5c31943c47c", func := "tollhouse/tollhouselaw11.PoolTells", spec := "poolTells", apart := false }
def PoolTellsSaid : Prop := poolTellsRow.holds Try.pinned (OpenSpec.ofChange poolTellsSpec)

/-- ITS FALSE NEIGHBOUR: 'it returns false'. Refute it at one input. -/
def poolTellsWrong : ChangeSpec := { name := "poolTells", fn := fun _ => fun
  | [d1, d2] => { results := [.lit (.bool false)], args := [d1, d2] }
  | _ => none }
def PoolTellsWrongFalsely : Prop := poolTellsRow.holds Try.pinned (OpenSpec.ofChange poolTellsWrong)

/-- 'tollhouselaw11.PoolApart': WHATEVER THE INPUT: true; the input reads as it did. -/
def poolApartSpec : ChangeSpec := { name := "poolApart", fn := fun _ => fun
  | [d1, d2] => { results := [.lit (.bool true)], args := [d1, d2] }
  | _ => none }
def poolApartRow : OpenClaim := { program := "ytfohfnhimgmnlaa", sum := "d450bc689fc1b97069c2450a00809be21759efe4ce20d66ceb4bb5c31943c47c", func := "tollhouse/tollhouselaw11.PoolApart", spec := "poolApart", apart := false }
def PoolApartSaid : Prop := poolApartRow.holds Try.pinned (OpenSpec.ofChange poolApartSpec)

/-- ITS FALSE NEIGHBOUR: 'it returns false'. Refute it at one input. -/
def poolApartWrong : ChangeSpec := { name := "poolApart", fn := fun _ => fun
  | [d1, d2] => { results := [.lit (.bool false)], args := [d1, d2] }
  | _ => none }
def PoolApartWrongFalsely : Prop := poolApartRow.holds Try.pinned (OpenSpec.ofChange poolApartWrong)

/-- 'tollhouselaw11.PoolAll': WHATEVER THE INPUT: true; the input reads as it did. -/
def poolAllSpec : ChangeSpec := { name := "poolAll", fn := fun _ => fun
  | [d] => { results := [.lit (.bool true)], args := [d] }
  | _ => none }
def poolAllRow : OpenClaim := { program := "ytfohfnhimgmnlaa", sum := "d450bc689fc1b97069c2450a00809be21759efe4ce20d66ceb4bb5c31943c47c", func := "tollhouse/tollhouselaw11.PoolAll", spec := "poolAll", apart := false }
def PoolAllSaid : Prop := poolAllRow.holds Try.pinned (OpenSpec.ofChange poolAllSpec)

/-- ITS FALSE NEIGHBOUR: 'it returns false'. Refute it at one input. -/
def poolAllWrong : ChangeSpec := { name := "poolAll", fn := fun _ => fun
  | [d] => { results := [.lit (.bool false)], args := [d] }
  | _ => none }
def PoolAllWrongFalsely : Prop := poolAllRow.holds Try.pinned (OpenSpec.ofChange poolAllWrong)

/-- 'tollhouselaw11.PoolOrder': WHATEVER THE INPUT: true; the input reads as it did. -/
def poolOrderSpec : ChangeSpec := { name := "poolOrder", fn := fun _ => fun
  | [d1, d2, d3] => { results := [.lit (.bool true)], args := [d1, d2, d3] }
  | _ => none }
def poolOrderRow : OpenClaim := { program := "ytfohfnhimgmnlaa", sum := "d450bc689fc1b97069c2450a00809be21759efe4ce20d66ceb4bb5c31943c47c", func := "tollhouse/tollhouselaw11.PoolOrder", spec := "poolOrder", apart := false }
def PoolOrderSaid : Prop := poolOrderRow.holds Try.pinned (OpenSpec.ofChange poolOrderSpec)

/-- ITS FALSE NEIGHBOUR: 'it returns false'. Refute it at one input. -/
def poolOrderWrong : ChangeSpec := { name := "poolOrder", fn := fun _ => fun
  | [d1, d2, d3] => { results := [.lit (.bool false)], args := [d1, d2, d3] }
  | _ => none }
def PoolOrderWrongFalsely : Prop := poolOrderRow.holds Try.pinned (OpenSpec.ofChange poolOrderWrong)

/-- 'tollhouselaw20.FatesPlay': WHATEVER THE INPUT: true; the input reads as it did. -/
def fatesPlaySpec : ChangeSpec := { name := "fatesPlay", fn := fun _ => fun
  | [d1, d2] => { results := [.lit (.bool true)], args := [d1, d2] }
  | _ => none }
def fatesPlayRow : OpenClaim := { program := "ytfohfnhimgmnlaa", sum := "d450bc689fc1b97069c2450a00809be21759efe4ce20d66ceb4bb5c31943c47c", func := "tollhouse/tollhouselaw20.FatesPlay", spec := "fatesPlay", unfollowed := true, recurses := true, apart := false }
def FatesPlaySaid : Prop := fatesPlayRow.holds Try.pinned (OpenSpec.ofChange fatesPlaySpec)

/-- ITS FALSE NEIGHBOUR: 'it returns false'. Refute it at one input. -/
def fatesPlayWrong : ChangeSpec := { name := "fatesPlay", fn := fun _ => fun
  | [d1, d2] => { results := [.lit (.bool false)], args := [d1, d2] }
  | _ => none }
def FatesPlayWrongFalsely : Prop := fatesPlayRow.holds Try.pinned (OpenSpec.ofChange fatesPlayWrong)

/-- 'tollhouselaw20.FatesOrder': WHATEVER THE INPUT: true; the input reads as it did. -/
def fatesOrderSpec : ChangeSpec := { name := "fatesOrder", fn := fun _ => fun
  | [d] => { results := [.lit (.bool true)], args := [d] }
  | _ => none }
def fatesOrderRow : OpenClaim := { program := "ytfohfnhimgmnlaa", sum := "d450bc689fc1b97069c2450a00809be21759efe4ce20d66ceb4bb5c31943c47c", func := "tollhouse/tollhouselaw20.FatesOrder", spec := "fatesOrder", unfollowed := true, recurses := true, apart := false }
def FatesOrderSaid : Prop := fatesOrderRow.holds Try.pinned (OpenSpec.ofChange fatesOrderSpec)

/-- ITS FALSE NEIGHBOUR: 'it returns false'. Refute it at one input. -/
def fatesOrderWrong : ChangeSpec := { name := "fatesOrder", fn := fun _ => fun
  | [d] => { results := [.lit (.bool false)], args := [d] }
  | _ => none }
def FatesOrderWrongFalsely : Prop := fatesOrderRow.holds Try.pinned (OpenSpec.ofChange fatesOrderWrong)

/-- 'tollhouselaw20.FatesNone': WHATEVER THE INPUT: true; the input reads as it did. -/
def fatesNoneSpec : ChangeSpec := { name := "fatesNone", fn := fun _ => fun
  | [d] => { results := [.lit (.bool true)], args := [d] }
  | _ => none }
def fatesNoneRow : OpenClaim := { program := "ytfohfnhimgmnlaa", sum := "d450bc689fc1b97069c2450a00809be21759efe4ce20d66ceb4bb5c31943c47c", func := "tollhouse/tollhouselaw20.FatesNone", spec := "fatesNone", unfollowed := true, recurses := true, apart := false }
def FatesNoneSaid : Prop := fatesNoneRow.holds Try.pinned (OpenSpec.ofChange fatesNoneSpec)

/-- ITS FALSE NEIGHBOUR: 'it returns false'. Refute it at one input. -/
def fatesNoneWrong : ChangeSpec := { name := "fatesNone", fn := fun _ => fun
  | [d] => { results := [.lit (.bool false)], args := [d] }
  | _ => none }
def FatesNoneWrongFalsely : Prop := fatesNoneRow.holds Try.pinned (OpenSpec.ofChange fatesNoneWrong)

/-- 'tollhouselaw20.FatesBits': WHATEVER THE INPUT: true; the input reads as it did. -/
def fatesBitsSpec : ChangeSpec := { name := "fatesBits", fn := fun _ => fun
  | [d1, d2] => { results := [.lit (.bool true)], args := [d1, d2] }
  | _ => none }
def fatesBitsRow : OpenClaim := { program := "ytfohfnhimgmnlaa", sum := "d450bc689fc1b97069c2450a00809be21759efe4ce20d66ceb4bb5c31943c47c", func := "tollhouse/tollhouselaw20.FatesBits", spec := "fatesBits", unfollowed := true, recurses := true, apart := false }
def FatesBitsSaid : Prop := fatesBitsRow.holds Try.pinned (OpenSpec.ofChange fatesBitsSpec)

/-- ITS FALSE NEIGHBOUR: 'it returns false'. Refute it at one input. -/
def fatesBitsWrong : ChangeSpec := { name := "fatesBits", fn := fun _ => fun
  | [d1, d2] => { results := [.lit (.bool false)], args := [d1, d2] }
  | _ => none }
def FatesBitsWrongFalsely : Prop := fatesBitsRow.holds Try.pinned (OpenSpec.ofChange fatesBitsWrong)

/-- 'tollhouselaw17.ReplyCodes': WHATEVER THE INPUT: true; the input reads as it did. -/
def replyCodesSpec : ChangeSpec := { name := "replyCodes", fn := fun _ => fun
  | [d1, d2] => { results := [.lit (.bool true)], args := [d1, d2] }
  | _ => none }
def replyCodesRow : OpenClaim := { program := "ytfohfnhimgmnlaa", sum := "d450bc689fc1b97069c2450a00809be21759efe4ce20d66ceb4bb5c31943c47c", func := "tollhouse/tollhouselaw17.ReplyCodes", spec := "replyCodes", apart := false }
def ReplyCodesSaid : Prop := replyCodesRow.holds Try.pinned (OpenSpec.ofChange replyCodesSpec)

/-- ITS FALSE NEIGHBOUR: 'it returns false'. Refute it at one input. -/
def replyCodesWrong : ChangeSpec := { name := "replyCodes", fn := fun _ => fun
  | [d1, d2] => { results := [.lit (.bool false)], args := [d1, d2] }
  | _ => none }
def ReplyCodesWrongFalsely : Prop := replyCodesRow.holds Try.pinned (OpenSpec.ofChange replyCodesWrong)

/-- 'tollhouselaw17.ReplyTurns': WHATEVER THE INPUT: true; the input reads as it did. -/
def replyTurnsSpec : ChangeSpec := { name := "replyTurns", fn := fun _ => fun
  | [d1, d2, d3] => { results := [.lit (.bool true)], args := [d1, d2, d3] }
  | _ => none }
def replyTurnsRow : OpenClaim := { program := "ytfohfnhimgmnlaa", sum := "d450bc689fc1b97069c2450a00809be21759efe4ce20d66ceb4bb5c31943c47c", func := "tollhouse/tollhouselaw17.ReplyTurns", spec := "replyTurns", apart := false }
def ReplyTurnsSaid : Prop := replyTurnsRow.holds Try.pinned (OpenSpec.ofChange replyTurnsSpec)

/-- ITS FALSE NEIGHBOUR: 'it returns false'. Refute it at one input. -/
def replyTurnsWrong : ChangeSpec := { name := "replyTurns", fn := fun _ => fun
  | [d1, d2, d3] => { results := [.lit (.bool false)], args := [d1, d2, d3] }
  | _ => none }
def ReplyTurnsWrongFalsely : Prop := replyTurnsRow.holds Try.pinned (OpenSpec.ofChange replyTurnsWrong)

/-- 'tollhouselaw17.ReplyJoins': WHATEVER THE INPUT: true; the input reads as it did. -/
def replyJoinsSpec : ChangeSpec := { name := "replyJoins", fn := fun _ => fun
  | [d1, d2] => { results := [.lit (.bool true)], args := [d1, d2] }
  | _ => none }
def replyJoinsRow : OpenClaim := { program := "ytfohfnhimgmnlaa", sum := "d450bc689fc1b97069c2450a00809be21759efe4ce20d66ceb4bb5c31943c47c", func := "tollhouse/tollhouselaw17.ReplyJoins", spec := "replyJoins", apart := false }
def ReplyJoinsSaid : Prop := replyJoinsRow.holds Try.pinned (OpenSpec.ofChange replyJoinsSpec)

/-- ITS FALSE NEIGHBOUR: 'it returns false'. Refute it at one input. -/
def replyJoinsWrong : ChangeSpec := { name := "replyJoins", fn := fun _ => fun
  | [d1, d2] => { results := [.lit (.bool false)], args := [d1, d2] }
  | _ => none }
def ReplyJoinsWrongFalsely : Prop := replyJoinsRow.holds Try.pinned (OpenSpec.ofChange replyJoinsWrong)

/-- 'tollhouselaw17.ReplyPlaces': WHATEVER THE INPUT: true; the input reads as it did. -/
def replyPlacesSpec : ChangeSpec := { name := "replyPlaces", fn := fun _ => fun
  | [d] => { results := [.lit (.bool true)], args := [d] }
  | _ => none }
def replyPlacesRow : OpenClaim := { program := "ytfohfnhimgmnlaa", sum := "d450bc689fc1b97069c2450a00809be21759efe4ce20d66ceb4bb5c31943c47c", func := "tollhouse/tollhouselaw17.ReplyPlaces", spec := "replyPlaces", apart := false }
def ReplyPlacesSaid : Prop := replyPlacesRow.holds Try.pinned (OpenSpec.ofChange replyPlacesSpec)

/-- ITS FALSE NEIGHBOUR: 'it returns false'. Refute it at one input. -/
def replyPlacesWrong : ChangeSpec := { name := "replyPlaces", fn := fun _ => fun
  | [d] => { results := [.lit (.bool false)], args := [d] }
  | _ => none }
def ReplyPlacesWrongFalsely : Prop := replyPlacesRow.holds Try.pinned (OpenSpec.ofChange replyPlacesWrong)

/- THE SECOND FORM. 'bulk': how many values and letters a reading holds, each counted each time it is reached (what is shared counts as often as it is met; a slice's spare places count too). A statement '..UptoSaid' is the law's where the arguments, and the package variables that the reading takes, are together of bulk at most 1048576: NARROWER than '..Said'. Prove '..Said' where nothing that the law and all that it calls make is longer than what came in: it says more and counts as full. Else prove '..UptoSaid'. A law counts once. -/
mutual
def uptoBulk {H : Type} : DataW H → Nat
  | .lit (.string bytes) => bytes.length + 1
  | .lit _ => 1
  | .nil => 1
  | .ptr d => uptoBulk d + 1
  | .slice elems spare => uptoBulkAll elems + uptoBulkAll spare + 1
  | .agg parts => uptoBulkAll parts + 1
  | .iface _ d => uptoBulk d + 1
  | .map entries => uptoBulkEntries entries + 1
  | .held _ => 1
def uptoBulkAll {H : Type} : List (DataW H) → Nat
  | [] => 0
  | d :: r => uptoBulk d + uptoBulkAll r
def uptoBulkEntries {H : Type} : List (Lit × DataW H) → Nat
  | [] => 0
  | x :: r => uptoBulkEntry x + uptoBulkEntries r
def uptoBulkEntry {H : Type} : Lit × DataW H → Nat
  | (.string bytes, d) => bytes.length + uptoBulk d + 1
  | (_, d) => uptoBulk d + 1
 end
def uptoSmall : (H : Type) → List (DataW H) → Bool := fun _ ds => decide (uptoBulkAll ds ≤ 1048576)
def OpenSpec.upto (s : _root_.Go.ChangeSpec) : _root_.Go.OpenSpec := { _root_.Go.OpenSpec.ofChange s with cond := some uptoSmall }

/-- 'tollhouselaw11.PoolTells', WHERE WHAT IT READS IS OF BULK AT MOST 1048576: true; the input reads as it did. -/
def poolTellsUptoRow : OpenClaim := { program := "ytfohfnhimgmnlaa", sum := "d450bc689fc1b97069c2450a00809be21759efe4ce20d66ceb4bb5c31943c47c", func := "tollhouse/tollhouselaw11.PoolTells", spec := "poolTells", apart := false, narrowed := true }
def PoolTellsUptoSaid : Prop := poolTellsUptoRow.holds Try.pinned (OpenSpec.upto poolTellsSpec)

/-- 'tollhouselaw11.PoolApart', WHERE WHAT IT READS IS OF BULK AT MOST 1048576: true; the input reads as it did. -/
def poolApartUptoRow : OpenClaim := { program := "ytfohfnhimgmnlaa", sum := "d450bc689fc1b97069c2450a00809be21759efe4ce20d66ceb4bb5c31943c47c", func := "tollhouse/tollhouselaw11.PoolApart", spec := "poolApart", apart := false, narrowed := true }
def PoolApartUptoSaid : Prop := poolApartUptoRow.holds Try.pinned (OpenSpec.upto poolApartSpec)

/-- 'tollhouselaw11.PoolAll', WHERE WHAT IT READS IS OF BULK AT MOST 1048576: true; the input reads as it did. -/
def poolAllUptoRow : OpenClaim := { program := "ytfohfnhimgmnlaa", sum := "d450bc689fc1b97069c2450a00809be21759efe4ce20d66ceb4bb5c31943c47c", func := "tollhouse/tollhouselaw11.PoolAll", spec := "poolAll", apart := false, narrowed := true }
def PoolAllUptoSaid : Prop := poolAllUptoRow.holds Try.pinned (OpenSpec.upto poolAllSpec)

/-- 'tollhouselaw11.PoolOrder', WHERE WHAT IT READS IS OF BULK AT MOST 1048576: true; the input reads as it did. -/
def poolOrderUptoRow : OpenClaim := { program := "ytfohfnhimgmnlaa", sum := "d450bc689fc1b97069c2450a00809be21759efe4ce20d66ceb4bb5c31943c47c", func := "tollhouse/tollhouselaw11.PoolOrder", spec := "poolOrder", apart := false, narrowed := true }
def PoolOrderUptoSaid : Prop := poolOrderUptoRow.holds Try.pinned (OpenSpec.upto poolOrderSpec)

/-- 'tollhouselaw20.FatesPlay', WHERE WHAT IT READS IS OF BULK AT MOST 1048576: true; the input reads as it did. -/
def fatesPlayUptoRow : OpenClaim := { program := "ytfohfnhimgmnlaa", sum := "d450bc689fc1b97069c2450a00809be21759efe4ce20d66ceb4bb5c31943c47c", func := "tollhouse/tollhouselaw20.FatesPlay", spec := "fatesPlay", unfollowed := true, recurses := true, apart := false, narrowed := true }
def FatesPlayUptoSaid : Prop := fatesPlayUptoRow.holds Try.pinned (OpenSpec.upto fatesPlaySpec)

/-- 'tollhouselaw20.FatesOrder', WHERE WHAT IT READS IS OF BULK AT MOST 1048576: true; the input reads as it did. -/
def fatesOrderUptoRow : OpenClaim := { program := "ytfohfnhimgmnlaa", sum := "d450bc689fc1b97069c2450a00809be21759efe4ce20d66ceb4bb5c31943c47c", func := "tollhouse/tollhouselaw20.FatesOrder", spec := "fatesOrder", unfollowed := true, recurses := true, apart := false, narrowed := true }
def FatesOrderUptoSaid : Prop := fatesOrderUptoRow.holds Try.pinned (OpenSpec.upto fatesOrderSpec)

/-- 'tollhouselaw20.FatesNone', WHERE WHAT IT READS IS OF BULK AT MOST 1048576: true; the input reads as it did. -/
def fatesNoneUptoRow : OpenClaim := { program := "ytfohfnhimgmnlaa", sum := "d450bc689fc1b97069c2450a00809be21759efe4ce20d66ceb4bb5c31943c47c", func := "tollhouse/tollhouselaw20.FatesNone", spec := "fatesNone", unfollowed := true, recurses := true, apart := false, narrowed := true }
def FatesNoneUptoSaid : Prop := fatesNoneUptoRow.holds Try.pinned (OpenSpec.upto fatesNoneSpec)

/-- 'tollhouselaw20.FatesBits', WHERE WHAT IT READS IS OF BULK AT MOST 1048576: true; the input reads as it did. -/
def fatesBitsUptoRow : OpenClaim := { program := "ytfohfnhimgmnlaa", sum := "d450bc689fc1b97069c2450a00809be21759efe4ce20d66ceb4bb5c31943c47c", func := "tollhouse/tollhouselaw20.FatesBits", spec := "fatesBits", unfollowed := true, recurses := true, apart := false, narrowed := true }
def FatesBitsUptoSaid : Prop := fatesBitsUptoRow.holds Try.pinned (OpenSpec.upto fatesBitsSpec)

/-- 'tollhouselaw17.ReplyCodes', WHERE WHAT IT READS IS OF BULK AT MOST 1048576: true; the input reads as it did. -/
def replyCodesUptoRow : OpenClaim := { program := "ytfohfnhimgmnlaa", sum := "d450bc689fc1b97069c2450a00809be21759efe4ce20d66ceb4bb5c31943c47c", func := "tollhouse/tollhouselaw17.ReplyCodes", spec := "replyCodes", apart := false, narrowed := true }
def ReplyCodesUptoSaid : Prop := replyCodesUptoRow.holds Try.pinned (OpenSpec.upto replyCodesSpec)

/-- 'tollhouselaw17.ReplyTurns', WHERE WHAT IT READS IS OF BULK AT MOST 1048576: true; the input reads as it did. -/
def replyTurnsUptoRow : OpenClaim := { program := "ytfohfnhimgmnlaa", sum := "d450bc689fc1b97069c2450a00809be21759efe4ce20d66ceb4bb5c31943c47c", func := "tollhouse/tollhouselaw17.ReplyTurns", spec := "replyTurns", apart := false, narrowed := true }
def ReplyTurnsUptoSaid : Prop := replyTurnsUptoRow.holds Try.pinned (OpenSpec.upto replyTurnsSpec)

/-- 'tollhouselaw17.ReplyJoins', WHERE WHAT IT READS IS OF BULK AT MOST 1048576: true; the input reads as it did. -/
def replyJoinsUptoRow : OpenClaim := { program := "ytfohfnhimgmnlaa", sum := "d450bc689fc1b97069c2450a00809be21759efe4ce20d66ceb4bb5c31943c47c", func := "tollhouse/tollhouselaw17.ReplyJoins", spec := "replyJoins", apart := false, narrowed := true }
def ReplyJoinsUptoSaid : Prop := replyJoinsUptoRow.holds Try.pinned (OpenSpec.upto replyJoinsSpec)

/-- 'tollhouselaw17.ReplyPlaces', WHERE WHAT IT READS IS OF BULK AT MOST 1048576: true; the input reads as it did. -/
def replyPlacesUptoRow : OpenClaim := { program := "ytfohfnhimgmnlaa", sum := "d450bc689fc1b97069c2450a00809be21759efe4ce20d66ceb4bb5c31943c47c", func := "tollhouse/tollhouselaw17.ReplyPlaces", spec := "replyPlaces", apart := false, narrowed := true }
def ReplyPlacesUptoSaid : Prop := replyPlacesUptoRow.holds Try.pinned (OpenSpec.upto replyPlacesSpec)

end Rows
end Go.Proofs.Ytfohfnhimgmnlaa
