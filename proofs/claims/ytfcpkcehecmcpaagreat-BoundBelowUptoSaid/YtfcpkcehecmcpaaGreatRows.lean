/-
  No cell of these rows narrows 'for every input' (looked for: loops, veiled, ifaces, maps, wideKeys, modest, calm, conditions, laid).
  DERIVED. THE GIVEN ROWS OF THIS SEAT. 5 by the template 'for every input the law returns true; each argument reads behind the call as it read before'; 0 by the template 'total and deterministic' (their statements: YtfcpkcehecmcpaaGreatTotals.lean).
  GIVEN WITH THE SEED: the statements are not yours to turn. If you find one false, say at which input.
  Laid BY PROGRAM, IN A SANDBOX (cutbox-rows.mjs): the forced cells as the released guide's own fill.sh prints them over the translation 5943529a8c53e9ea… (all of the seat's roots in one cut). By AI agents, Wed Nov 11 2026. No macro, syntax, notation, axiom, sorry.
-/
import Derived.Test.YtfcpkcehecmcpaaGreatChecked
import GoSem.Claim
import GoSem.ClaimJoined
import GoSem.ClaimMapViews
import Derived.JoinedTies
import Derived.KernelRfl
namespace Go.Proofs.YtfcpkcehecmcpaaGreat
/- THE CELL 'sum', in the pinned program and in every row, IS THE sha256 OF THE DUMP (.gsa) THAT YtfcpkcehecmcpaaGreatProg.lean LOADS. Nothing in Lean hashes anything: it is a label: what it is worth is what the hold of that sum in a sandbox is worth. -/
noncomputable def Tryz.pinned : Pinned := { name := "ytfcpkcehecmcpaagreat", sum := "5943529a8c53e9eadaa6bca36fc71716f041b904dff582dbdc91d31e893d0f05", checked := Tryz.checked }
namespace Rows
def none {H : Type} : Left H := { results := [], args := [] }

/-- 'provisolaw20.BoundRings': WHATEVER THE INPUT: true; the input reads as it did. -/
def boundRingsSpec : ChangeSpec := { name := "boundRings", fn := fun _ => fun
  | [d] => { results := [.lit (.bool true)], args := [d] }
  | _ => none }
def boundRingsRow : OpenClaim := { program := "ytfcpkcehecmcpaagreat", sum := "5943529a8c53e9eadaa6bca36fc71716f041b904dff582dbdc91d31e893d0f05", func := "proviso/provisolaw20.BoundRings", spec := "boundRings", unfollowed := true, recurses := true, apart := false }
def BoundRingsSaid : Prop := boundRingsRow.holds Tryz.pinned (OpenSpec.ofChange boundRingsSpec)

/-- ITS FALSE NEIGHBOUR: 'it returns false'. Refute it at one input. -/
def boundRingsWrong : ChangeSpec := { name := "boundRings", fn := fun _ => fun
  | [d] => { results := [.lit (.bool false)], args := [d] }
  | _ => none }
def BoundRingsWrongFalsely : Prop := boundRingsRow.holds Tryz.pinned (OpenSpec.ofChange boundRingsWrong)

/-- 'provisolaw20.BoundCalls': WHATEVER THE INPUT: true; the input reads as it did. -/
def boundCallsSpec : ChangeSpec := { name := "boundCalls", fn := fun _ => fun
  | [d1, d2] => { results := [.lit (.bool true)], args := [d1, d2] }
  | _ => none }
def boundCallsRow : OpenClaim := { program := "ytfcpkcehecmcpaagreat", sum := "5943529a8c53e9eadaa6bca36fc71716f041b904dff582dbdc91d31e893d0f05", func := "proviso/provisolaw20.BoundCalls", spec := "boundCalls", unfollowed := true, recurses := true, apart := false }
def BoundCallsSaid : Prop := boundCallsRow.holds Tryz.pinned (OpenSpec.ofChange boundCallsSpec)

/-- ITS FALSE NEIGHBOUR: 'it returns false'. Refute it at one input. -/
def boundCallsWrong : ChangeSpec := { name := "boundCalls", fn := fun _ => fun
  | [d1, d2] => { results := [.lit (.bool false)], args := [d1, d2] }
  | _ => none }
def BoundCallsWrongFalsely : Prop := boundCallsRow.holds Tryz.pinned (OpenSpec.ofChange boundCallsWrong)

/-- 'provisolaw20.BoundApart': WHATEVER THE INPUT: true; the input reads as it did. -/
def boundApartSpec : ChangeSpec := { name := "boundApart", fn := fun _ => fun
  | [d1, d2, d3] => { results := [.lit (.bool true)], args := [d1, d2, d3] }
  | _ => none }
def boundApartRow : OpenClaim := { program := "ytfcpkcehecmcpaagreat", sum := "5943529a8c53e9eadaa6bca36fc71716f041b904dff582dbdc91d31e893d0f05", func := "proviso/provisolaw20.BoundApart", spec := "boundApart", unfollowed := true, recurses := true, apart := false }
def BoundApartSaid : Prop := boundApartRow.holds Tryz.pinned (OpenSpec.ofChange boundApartSpec)

/-- ITS FALSE NEIGHBOUR: 'it returns false'. Refute it at one input. -/
def boundApartWrong : ChangeSpec := { name := "boundApart", fn := fun _ => fun
  | [d1, d2, d3] => { results := [.lit (.bool false)], args := [d1, d2, d3] }
  | _ => none }
def BoundApartWrongFalsely : Prop := boundApartRow.holds Tryz.pinned (OpenSpec.ofChange boundApartWrong)

/-- 'provisolaw20.BoundBelow': WHATEVER THE INPUT: true; the input reads as it did. -/
def boundBelowSpec : ChangeSpec := { name := "boundBelow", fn := fun _ => fun
  | [d1, d2] => { results := [.lit (.bool true)], args := [d1, d2] }
  | _ => none }
def boundBelowRow : OpenClaim := { program := "ytfcpkcehecmcpaagreat", sum := "5943529a8c53e9eadaa6bca36fc71716f041b904dff582dbdc91d31e893d0f05", func := "proviso/provisolaw20.BoundBelow", spec := "boundBelow", unfollowed := true, recurses := true, apart := false }
def BoundBelowSaid : Prop := boundBelowRow.holds Tryz.pinned (OpenSpec.ofChange boundBelowSpec)

/-- ITS FALSE NEIGHBOUR: 'it returns false'. Refute it at one input. -/
def boundBelowWrong : ChangeSpec := { name := "boundBelow", fn := fun _ => fun
  | [d1, d2] => { results := [.lit (.bool false)], args := [d1, d2] }
  | _ => none }
def BoundBelowWrongFalsely : Prop := boundBelowRow.holds Tryz.pinned (OpenSpec.ofChange boundBelowWrong)

/-- 'provisolaw20.BoundOf': WHATEVER THE INPUT: true; the input reads as it did. -/
def boundOfSpec : ChangeSpec := { name := "boundOf", fn := fun _ => fun
  | [d1, d2] => { results := [.lit (.bool true)], args := [d1, d2] }
  | _ => none }
def boundOfRow : OpenClaim := { program := "ytfcpkcehecmcpaagreat", sum := "5943529a8c53e9eadaa6bca36fc71716f041b904dff582dbdc91d31e893d0f05", func := "proviso/provisolaw20.BoundOf", spec := "boundOf", unfollowed := true, recurses := true, apart := false }
def BoundOfSaid : Prop := boundOfRow.holds Tryz.pinned (OpenSpec.ofChange boundOfSpec)

/-- ITS FALSE NEIGHBOUR: 'it returns false'. Refute it at one input. -/
def boundOfWrong : ChangeSpec := { name := "boundOf", fn := fun _ => fun
  | [d1, d2] => { results := [.lit (.bool false)], args := [d1, d2] }
  | _ => none }
def BoundOfWrongFalsely : Prop := boundOfRow.holds Tryz.pinned (OpenSpec.ofChange boundOfWrong)

/- THE SECOND FORM. 'bulk': how many values and letters a reading holds, each counted each time it is reached (what is shared counts as often as it is met; a slice's spare places count too). A statement '..UptoSaid' is the law's where the arguments, and the package variables that the reading takes, are together of bulk at most 1048576: NARROWER than '..Said'. Prove '..Said' where nothing that the law and all that it calls make is longer than what came in: it says more and counts as full. Else prove '..UptoSaid'. A law counts once. -/
mutual
def uptoBulk {H : Type} : DataW H → Nat
  | .lit (.string bytes) => bytes.length + 1
  | .lit _ => 1
  | .nil => 1
  | .ptr d => uptoBulk d + 1
  | .slice elems spare => uptoBulkAll elems + uptoBulkAll spare + 1
  | .agg parts => uptoBulkAll parts + 1
  | .iface _ d => uptoBulk d + 1
  | .map entries => uptoBulkEntries entries + 1
  | .held _ => 1
def uptoBulkAll {H : Type} : List (DataW H) → Nat
  | [] => 0
  | d :: r => uptoBulk d + uptoBulkAll r
def uptoBulkEntries {H : Type} : List (Lit × DataW H) → Nat
  | [] => 0
  | x :: r => uptoBulkEntry x + uptoBulkEntries r
def uptoBulkEntry {H : Type} : Lit × DataW H → Nat
  | (.string bytes, d) => bytes.length + uptoBulk d + 1
  | (_, d) => uptoBulk d + 1
 end
def uptoSmall : (H : Type) → List (DataW H) → Bool := fun _ ds => decide (uptoBulkAll ds ≤ 1048576)
def OpenSpec.upto (s : _root_.Go.ChangeSpec) : _root_.Go.OpenSpec := { _root_.Go.OpenSpec.ofChange s with cond := some uptoSmall }

/-- 'provisolaw20.BoundRings', WHERE WHAT IT READS IS OF BULK AT MOST 1048576: true; the input reads as it did. -/
def boundRingsUptoRow : OpenClaim := { program := "ytfcpkcehecmcpaagreat", sum := "5943529a8c53e9eadaa6bca36fc71716f041b904dff582dbdc91d31e893d0f05", func := "proviso/provisolaw20.BoundRings", spec := "boundRings", unfollowed := true, recurses := true, apart := false, narrowed := true }
def BoundRingsUptoSaid : Prop := boundRingsUptoRow.holds Tryz.pinned (OpenSpec.upto boundRingsSpec)

/-- 'provisolaw20.BoundCalls', WHERE WHAT IT READS IS OF BULK AT MOST 1048576: true; the input reads as it did. -/
def boundCallsUptoRow : OpenClaim := { program := "ytfcpkcehecmcpaagreat", sum := "5943529a8c53e9eadaa6bca36fc71716f041b904dff582dbdc91d31e893d0f05", func := "proviso/provisolaw20.BoundCalls", spec := "boundCalls", unfollowed := true, recurses := true, apart := false, narrowed := true }
def BoundCallsUptoSaid : Prop := boundCallsUptoRow.holds Tryz.pinned (OpenSpec.upto boundCallsSpec)

/-- 'provisolaw20.BoundApart', WHERE WHAT IT READS IS OF BULK AT MOST 1048576: true; the input reads as it did. -/
def boundApartUptoRow : OpenClaim := { program := "ytfcpkcehecmcpaagreat", sum := "5943529a8c53e9eadaa6bca36fc71716f041b904dff582dbdc91d31e893d0f05", func := "proviso/provisolaw20.BoundApart", spec := "boundApart", unfollowed := true, recurses := true, apart := false, narrowed := true }
def BoundApartUptoSaid : Prop := boundApartUptoRow.holds Tryz.pinned (OpenSpec.upto boundApartSpec)

/-- 'provisolaw20.BoundBelow', WHERE WHAT IT READS IS OF BULK AT MOST 1048576: true; the input reads as it did. -/
def boundBelowUptoRow : OpenClaim := { program := "ytfcpkcehecmcpaagreat", sum := "5943529a8c53e9eadaa6bca36fc71716f041b904dff582dbdc91d31e893d0f05", func := "proviso/provisolaw20.BoundBelow", spec := "boundBelow", unfollowed := true, recurses := true, apart := false, narrowed := true }
def BoundBelowUptoSaid : Prop := boundBelowUptoRow.holds Tryz.pinned (OpenSpec.upto boundBelowSpec)

/-- 'provisolaw20.BoundOf', WHERE WHAT IT READS IS OF BULK AT MOST 1048576: true; the input reads as it did. -/
def boundOfUptoRow : OpenClaim := { program := "ytfcpkcehecmcpaagreat", sum := "5943529a8c53e9eadaa6bca36fc71716f041b904dff582dbdc91d31e893d0f05", func := "proviso/provisolaw20.BoundOf", spec := "boundOf", unfollowed := true, recurses := true, apart := false, narrowed := true }
def BoundOfUptoSaid : Prop := boundOfUptoRow.holds Tryz.pinned (OpenSpec.upto boundOfSpec)

end Rows
end Go.Proofs.YtfcpkcehecmcpaaGreat
