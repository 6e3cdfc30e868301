/-
  No cell of these rows narrows 'for every input' (looked for: loops, veiled, ifaces, maps, wideKeys, modest, calm, conditions, laid).
  DERIVED. THE GIVEN ROWS OF THIS SEAT. 5 by the template 'for every input the law returns true; each argument reads behind the call as it read before'; 0 by the template 'total and deterministic' (their statements: YtpcdphfneidalaaTotals.lean).
  GIVEN WITH THE SEED: the statements are not yours to turn. If you find one false, say at which input.
  Laid BY PROGRAM, IN A SANDBOX (cutbox-rows.mjs): the forced cells as the released guide's own fill.sh prints them over the translation 70843c292b5badf2… (all of the seat's roots in one cut). By AI agents, Wed Nov 11 2026. No macro, syntax, notation, axiom, sorry.
-/
import Derived.Test.YtpcdphfneidalaaChecked
import GoSem.Claim
import GoSem.ClaimJoined
import GoSem.ClaimMapViews
import Derived.JoinedTies
import Derived.KernelRfl
namespace Go.Proofs.Ytpcdphfneidalaa
/- THE CELL 'sum', in the pinned program and in every row, IS THE sha256 OF THE DUMP (.gsa) THAT YtpcdphfneidalaaProg.lean LOADS. Nothing in Lean hashes anything: it is a label: what it is worth is what the hold of that sum in a sandbox is worth. -/
noncomputable def Try.pinned : Pinned := { name := "ytpcdphfneidalaa", sum := "70843c292b5badf272b0c58124c15e81d91037c11065f29e05d799f10382a28d", checked := Try.checked }
namespace Rows
def none {H : Type} : Left H := { results := [], args := [] }

/-- 'provisolaw24.TalkUploads': WHATEVER THE INPUT: true; the input reads as it did. -/
def talkUploadsSpec : ChangeSpec := { name := "talkUploads", fn := fun _ => fun
  | [d1, d2] => { results := [.lit (.bool true)], args := [d1, d2] }
  | _ => none }
def talkUploadsRow : OpenClaim := { program := "ytpcdphfneidalaa", sum := "70843c292b5badf272b0c58124c15e81d91037c11065f29e05d799f10382a28d", func := "proviso/provisolaw24.TalkUploads", spec := "talkUploads", apart := false }
def TalkUploadsSaid : Prop := talkUploadsRow.holds Try.pinned (OpenSpec.ofChange talkUploadsSpec)

/-- ITS FALSE NEIGHBOUR: 'it returns false'. Refute it at one input. -/
def talkUploadsWrong : ChangeSpec := { name := "talkUploads", fn := fun _ => fun
  | [d1, d2] => { results := [.lit (.bool false)], args := [d1, d2] }
  | _ => none }
def TalkUploadsWrongFalsely : Prop := talkUploadsRow.holds Try.pinned (OpenSpec.ofChange talkUploadsWrong)

/-- 'provisolaw24.TalkFrames': WHATEVER THE INPUT: true; the input reads as it did. -/
def talkFramesSpec : ChangeSpec := { name := "talkFrames", fn := fun _ => fun
  | [d1, d2] => { results := [.lit (.bool true)], args := [d1, d2] }
  | _ => none }
def talkFramesRow : OpenClaim := { program := "ytpcdphfneidalaa", sum := "70843c292b5badf272b0c58124c15e81d91037c11065f29e05d799f10382a28d", func := "proviso/provisolaw24.TalkFrames", spec := "talkFrames", apart := false }
def TalkFramesSaid : Prop := talkFramesRow.holds Try.pinned (OpenSpec.ofChange talkFramesSpec)

/-- ITS FALSE NEIGHBOUR: 'it returns false'. Refute it at one input. -/
def talkFramesWrong : ChangeSpec := { name := "talkFrames", fn := fun _ => fun
  | [d1, d2] => { results := [.lit (.bool false)], args := [d1, d2] }
  | _ => none }
def TalkFramesWrongFalsely : Prop := talkFramesRow.holds Try.pinned (OpenSpec.ofChange talkFramesWrong)

/-- 'provisolaw24.TalkReads': WHATEVER THE INPUT: true; the input reads as it did. -/
def talkReadsSpec : ChangeSpec := { name := "talkReads", fn := fun _ => fun
  | [d] => { results := [.lit (.bool true)], args := [d] }
  | _ => none }
def talkReadsRow : OpenClaim := { program := "ytpcdphfneidalaa", sum := "70843c292b5badf272b0c58124c15e81d91037c11065f29e05d799f10382a28d", func := "proviso/provisolaw24.TalkReads", spec := "talkReads", apart := false }
def TalkReadsSaid : Prop := talkReadsRow.holds Try.pinned (OpenSpec.ofChange talkReadsSpec)

/-- ITS FALSE NEIGHBOUR: 'it returns false'. Refute it at one input. -/
def talkReadsWrong : ChangeSpec := { name := "talkReads", fn := fun _ => fun
  | [d] => { results := [.lit (.bool false)], args := [d] }
  | _ => none }
def TalkReadsWrongFalsely : Prop := talkReadsRow.holds Try.pinned (OpenSpec.ofChange talkReadsWrong)

/-- 'provisolaw24.TalkTurned': WHATEVER THE INPUT: true; the input reads as it did. -/
def talkTurnedSpec : ChangeSpec := { name := "talkTurned", fn := fun _ => fun
  | [d1, d2, d3, d4] => { results := [.lit (.bool true)], args := [d1, d2, d3, d4] }
  | _ => none }
def talkTurnedRow : OpenClaim := { program := "ytpcdphfneidalaa", sum := "70843c292b5badf272b0c58124c15e81d91037c11065f29e05d799f10382a28d", func := "proviso/provisolaw24.TalkTurned", spec := "talkTurned", apart := false }
def TalkTurnedSaid : Prop := talkTurnedRow.holds Try.pinned (OpenSpec.ofChange talkTurnedSpec)

/-- ITS FALSE NEIGHBOUR: 'it returns false'. Refute it at one input. -/
def talkTurnedWrong : ChangeSpec := { name := "talkTurned", fn := fun _ => fun
  | [d1, d2, d3, d4] => { results := [.lit (.bool false)], args := [d1, d2, d3, d4] }
  | _ => none }
def TalkTurnedWrongFalsely : Prop := talkTurnedRow.holds Try.pinned (OpenSpec.ofChange talkTurnedWrong)

/-- 'provisolaw24.TalkBack': WHATEVER THE INPUT: true; the input reads as it did. -/
def talkBackSpec : ChangeSpec := { name := "talkBack", fn := fun _ => fun
  | [d1, d2] => { results := [.lit (.bool true)], args := [d1, d2] }
  | _ => none }
def talkBackRow : OpenClaim := { program := "ytpcdphfneidalaa", sum := "70843c292b5badf272b0c58124c15e81d91037c11065f29e05d799f10382a28d", func := "proviso/provisolaw24.TalkBack", spec := "talkBack", apart := false }
def TalkBackSaid : Prop := talkBackRow.holds Try.pinned (OpenSpec.ofChange talkBackSpec)

/-- ITS FALSE NEIGHBOUR: 'it returns false'. Refute it at one input. -/
def talkBackWrong : ChangeSpec := { name := "talkBack", fn := fun _ => fun
  | [d1, d2] => { results := [.lit (.bool false)], args := [d1, d2] }
  | _ => none }
def TalkBackWrongFalsely : Prop := talkBackRow.holds Try.pinned (OpenSpec.ofChange talkBackWrong)

/- THE SECOND FORM. 'bulk': how many values and letters a reading holds, each counted each time it is reached (what is shared counts as often as it is met; a slice's spare places count too). A statement '..UptoSaid' is the law's where the arguments, and the package variables that the reading takes, are together of bulk at most 1048576: NARROWER than '..Said'. Prove '..Said' where nothing that the law and all that it calls make is longer than what came in: it says more and counts as full. Else prove '..UptoSaid'. A law counts once. -/
mutual
def uptoBulk {H : Type} : DataW H → Nat
  | .lit (.string bytes) => bytes.length + 1
  | .lit _ => 1
  | .nil => 1
  | .ptr d => uptoBulk d + 1
  | .slice elems spare => uptoBulkAll elems + uptoBulkAll spare + 1
  | .agg parts => uptoBulkAll parts + 1
  | .iface _ d => uptoBulk d + 1
  | .map entries => uptoBulkEntries entries + 1
  | .held _ => 1
def uptoBulkAll {H : Type} : List (DataW H) → Nat
  | [] => 0
  | d :: r => uptoBulk d + uptoBulkAll r
def uptoBulkEntries {H : Type} : List (Lit × DataW H) → Nat
  | [] => 0
  | x :: r => uptoBulkEntry x + uptoBulkEntries r
def uptoBulkEntry {H : Type} : Lit × DataW H → Nat
  | (.string bytes, d) => bytes.length + uptoBulk d + 1
  | (_, d) => uptoBulk d + 1
 end
def uptoSmall : (H : Type) → List (DataW H) → Bool := fun _ ds => decide (uptoBulkAll ds ≤ 1048576)
def OpenSpec.upto (s : _root_.Go.ChangeSpec) : _root_.Go.OpenSpec := { _root_.Go.OpenSpec.ofChange s with cond := some uptoSmall }

/-- 'provisolaw24.TalkUploads', WHERE WHAT IT READS IS OF BULK AT MOST 1048576: true; the input reads as it did. -/
def talkUploadsUptoRow : OpenClaim := { program := "ytpcdphfneidalaa", sum := "70843c292b5badf272b0c58124c15e81d91037c11065f29e05d799f10382a28d", func := "proviso/provisolaw24.TalkUploads", spec := "talkUploads", apart := false, narrowed := true }
def TalkUploadsUptoSaid : Prop := talkUploadsUptoRow.holds Try.pinned (OpenSpec.upto talkUploadsSpec)

/-- 'provisolaw24.TalkFrames', WHERE WHAT IT READS IS OF BULK AT MOST 1048576: true; the input reads as it did. -/
def talkFramesUptoRow : OpenClaim := { program := "ytpcdphfneidalaa", sum := "70843c292b5badf272b0c58124c15e81d91037c11065f29e05d799f10382a28d", func := "proviso/provisolaw24.TalkFrames", spec := "talkFrames", apart := false, narrowed := true }
def TalkFramesUptoSaid : Prop := talkFramesUptoRow.holds Try.pinned (OpenSpec.upto talkFramesSpec)

/-- 'provisolaw24.TalkReads', WHERE WHAT IT READS IS OF BULK AT MOST 1048576: true; the input reads as it did. -/
def talkReadsUptoRow : OpenClaim := { program := "ytpcdphfneidalaa", sum := "70843c292b5badf272b0c58124c15e81d91037c11065f29e05d799f10382a28d", func := "proviso/provisolaw24.TalkReads", spec := "talkReads", apart := false, narrowed := true }
def TalkReadsUptoSaid : Prop := talkReadsUptoRow.holds Try.pinned (OpenSpec.upto talkReadsSpec)

/-- 'provisolaw24.TalkTurned', WHERE WHAT IT READS IS OF BULK AT MOST 1048576: true; the input reads as it did. -/
def talkTurnedUptoRow : OpenClaim := { program := "ytpcdphfneidalaa", sum := "70843c292b5badf272b0c58124c15e81d91037c11065f29e05d799f10382a28d", func := "proviso/provisolaw24.TalkTurned", spec := "talkTurned", apart := false, narrowed := true }
def TalkTurnedUptoSaid : Prop := talkTurnedUptoRow.holds Try.pinned (OpenSpec.upto talkTurnedSpec)

/-- 'provisolaw24.TalkBack', WHERE WHAT IT READS IS OF BULK AT MOST 1048576: true; the input reads as it did. -/
def talkBackUptoRow : OpenClaim := { program := "ytpcdphfneidalaa", sum := "70843c292b5badf272b0c58124c15e81d91037c11065f29e05d799f10382a28d", func := "proviso/provisolaw24.TalkBack", spec := "talkBack", apart := false, narrowed := true }
def TalkBackUptoSaid : Prop := talkBackUptoRow.holds Try.pinned (OpenSpec.upto talkBackSpec)

end Rows
end Go.Proofs.Ytpcdphfneidalaa
