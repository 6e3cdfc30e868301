/-
  No cell of these rows narrows 'for every input' (looked for: loops, veiled, ifaces, maps, wideKeys, modest, calm, conditions, laid).
  DERIVED. THE GIVEN ROWS OF THIS SEAT. 6 by the template 'for every input the law returns true; each argument reads behind the call as it read before'; 0 by the template 'total and deterministic' (their statements: YtmeodoidfpcjlaaTotals.lean).
  GIVEN WITH THE SEED: the statements are not yours to turn. If you find one false, say at which input.
  Laid BY PROGRAM, IN A SANDBOX (cutbox-rows.mjs): the forced cells as the released guide's own fill.sh prints them over the translation b4c2a2539c38c66d… (all of the seat's roots in one cut). By AI agents, Wed Nov 11 2026. No macro, syntax, notation, axiom, sorry.
-/
import Derived.Test.YtmeodoidfpcjlaaChecked
import GoSem.Claim
import GoSem.ClaimJoined
import GoSem.ClaimMapViews
import Derived.JoinedTies
import Derived.KernelRfl
namespace Go.Proofs.Ytmeodoidfpcjlaa
/- THE CELL 'sum', in the pinned program and in every row, IS THE sha256 OF THE DUMP (.gsa) THAT YtmeodoidfpcjlaaProg.lean LOADS. Nothing in Lean hashes anything: it is a label: what it is worth is what the hold of that sum in a sandbox is worth. -/
noncomputable def Try.pinned : Pinned := { name := "ytmeodoidfpcjlaa", sum := "b4c2a2539c38c66d0ee917f5fdfb4fd49841e27985b463d7be7161dde14bc440", checked := Try.checked }
namespace Rows
def none {H : Type} : Left H := { results := [], args := [] }

/-- 'provisolaw24.TalkUploads': WHATEVER THE INPUT: true; the input reads as it did. -/
def talkUploadsSpec : ChangeSpec := { name := "talkUploads", fn := fun _ => fun
  | [d1, d2] => { results := [.lit (.bool true)], args := [d1, d2] }
  | _ => none }
def talkUploadsRow : OpenClaim := { program := "ytmeodoidfpcjlaa", sum := "b4c2a2539c38c66d0ee917f5fdfb4fd49841e27985b463d7be7161dde14bc440", func := "proviso/provisolaw24.TalkUploads", spec := "talkUploads", apart := false }
def TalkUploadsSaid : Prop := talkUploadsRow.holds Try.pinned (OpenSpec.ofChange talkUploadsSpec)

/-- ITS FALSE NEIGHBOUR: 'it returns false'. Refute it at one input. -/
def talkUploadsWrong : ChangeSpec := { name := "talkUploads", fn := fun _ => fun
  | [d1, d2] => { results := [.lit (.bool false)], args := [d1, d2] }
  | _ => none }
def TalkUploadsWrongFalsely : Prop := talkUploadsRow.holds Try.pinned (OpenSpec.ofChange talkUploadsWrong)

/-- 'provisolaw18.LinkFrees': WHATEVER THE INPUT: true; the input reads as it did. -/
def linkFreesSpec : ChangeSpec := { name := "linkFrees", fn := fun _ => fun
  | [d] => { results := [.lit (.bool true)], args := [d] }
  | _ => none }
def linkFreesRow : OpenClaim := { program := "ytmeodoidfpcjlaa", sum := "b4c2a2539c38c66d0ee917f5fdfb4fd49841e27985b463d7be7161dde14bc440", func := "proviso/provisolaw18.LinkFrees", spec := "linkFrees", unfollowed := true, recurses := true, apart := false }
def LinkFreesSaid : Prop := linkFreesRow.holds Try.pinned (OpenSpec.ofChange linkFreesSpec)

/-- ITS FALSE NEIGHBOUR: 'it returns false'. Refute it at one input. -/
def linkFreesWrong : ChangeSpec := { name := "linkFrees", fn := fun _ => fun
  | [d] => { results := [.lit (.bool false)], args := [d] }
  | _ => none }
def LinkFreesWrongFalsely : Prop := linkFreesRow.holds Try.pinned (OpenSpec.ofChange linkFreesWrong)

/-- 'provisolaw19.OptLess': WHATEVER THE INPUT: true; the input reads as it did. -/
def optLessSpec : ChangeSpec := { name := "optLess", fn := fun _ => fun
  | [d] => { results := [.lit (.bool true)], args := [d] }
  | _ => none }
def optLessRow : OpenClaim := { program := "ytmeodoidfpcjlaa", sum := "b4c2a2539c38c66d0ee917f5fdfb4fd49841e27985b463d7be7161dde14bc440", func := "proviso/provisolaw19.OptLess", spec := "optLess", unfollowed := true, recurses := true, apart := false }
def OptLessSaid : Prop := optLessRow.holds Try.pinned (OpenSpec.ofChange optLessSpec)

/-- ITS FALSE NEIGHBOUR: 'it returns false'. Refute it at one input. -/
def optLessWrong : ChangeSpec := { name := "optLess", fn := fun _ => fun
  | [d] => { results := [.lit (.bool false)], args := [d] }
  | _ => none }
def OptLessWrongFalsely : Prop := optLessRow.holds Try.pinned (OpenSpec.ofChange optLessWrong)

/-- 'provisolaw19.OptFuncs': WHATEVER THE INPUT: true; the input reads as it did. -/
def optFuncsSpec : ChangeSpec := { name := "optFuncs", fn := fun _ => fun
  | [d] => { results := [.lit (.bool true)], args := [d] }
  | _ => none }
def optFuncsRow : OpenClaim := { program := "ytmeodoidfpcjlaa", sum := "b4c2a2539c38c66d0ee917f5fdfb4fd49841e27985b463d7be7161dde14bc440", func := "proviso/provisolaw19.OptFuncs", spec := "optFuncs", unfollowed := true, recurses := true, apart := false }
def OptFuncsSaid : Prop := optFuncsRow.holds Try.pinned (OpenSpec.ofChange optFuncsSpec)

/-- ITS FALSE NEIGHBOUR: 'it returns false'. Refute it at one input. -/
def optFuncsWrong : ChangeSpec := { name := "optFuncs", fn := fun _ => fun
  | [d] => { results := [.lit (.bool false)], args := [d] }
  | _ => none }
def OptFuncsWrongFalsely : Prop := optFuncsRow.holds Try.pinned (OpenSpec.ofChange optFuncsWrong)

/-- 'provisolaw19.OptDone': WHATEVER THE INPUT: true; the input reads as it did. -/
def optDoneSpec : ChangeSpec := { name := "optDone", fn := fun _ => fun
  | [d] => { results := [.lit (.bool true)], args := [d] }
  | _ => none }
def optDoneRow : OpenClaim := { program := "ytmeodoidfpcjlaa", sum := "b4c2a2539c38c66d0ee917f5fdfb4fd49841e27985b463d7be7161dde14bc440", func := "proviso/provisolaw19.OptDone", spec := "optDone", unfollowed := true, recurses := true, apart := false }
def OptDoneSaid : Prop := optDoneRow.holds Try.pinned (OpenSpec.ofChange optDoneSpec)

/-- ITS FALSE NEIGHBOUR: 'it returns false'. Refute it at one input. -/
def optDoneWrong : ChangeSpec := { name := "optDone", fn := fun _ => fun
  | [d] => { results := [.lit (.bool false)], args := [d] }
  | _ => none }
def OptDoneWrongFalsely : Prop := optDoneRow.holds Try.pinned (OpenSpec.ofChange optDoneWrong)

/-- 'provisolaw19.OptOwn': WHATEVER THE INPUT: true; the input reads as it did. -/
def optOwnSpec : ChangeSpec := { name := "optOwn", fn := fun _ => fun
  | [d] => { results := [.lit (.bool true)], args := [d] }
  | _ => none }
def optOwnRow : OpenClaim := { program := "ytmeodoidfpcjlaa", sum := "b4c2a2539c38c66d0ee917f5fdfb4fd49841e27985b463d7be7161dde14bc440", func := "proviso/provisolaw19.OptOwn", spec := "optOwn", unfollowed := true, recurses := true, apart := false }
def OptOwnSaid : Prop := optOwnRow.holds Try.pinned (OpenSpec.ofChange optOwnSpec)

/-- ITS FALSE NEIGHBOUR: 'it returns false'. Refute it at one input. -/
def optOwnWrong : ChangeSpec := { name := "optOwn", fn := fun _ => fun
  | [d] => { results := [.lit (.bool false)], args := [d] }
  | _ => none }
def OptOwnWrongFalsely : Prop := optOwnRow.holds Try.pinned (OpenSpec.ofChange optOwnWrong)

/- THE SECOND FORM. 'bulk': how many values and letters a reading holds, each counted each time it is reached (what is shared counts as often as it is met; a slice's spare places count too). A statement '..UptoSaid' is the law's where the arguments, and the package variables that the reading takes, are together of bulk at most 1048576: NARROWER than '..Said'. Prove '..Said' where nothing that the law and all that it calls make is longer than what came in: it says more and counts as full. Else prove '..UptoSaid'. A law counts once. -/
mutual
def uptoBulk {H : Type} : DataW H → Nat
  | .lit (.string bytes) => bytes.length + 1
  | .lit _ => 1
  | .nil => 1
  | .ptr d => uptoBulk d + 1
  | .slice elems spare => uptoBulkAll elems + uptoBulkAll spare + 1
  | .agg parts => uptoBulkAll parts + 1
  | .iface _ d => uptoBulk d + 1
  | .map entries => uptoBulkEntries entries + 1
  | .held _ => 1
def uptoBulkAll {H : Type} : List (DataW H) → Nat
  | [] => 0
  | d :: r => uptoBulk d + uptoBulkAll r
def uptoBulkEntries {H : Type} : List (Lit × DataW H) → Nat
  | [] => 0
  | x :: r => uptoBulkEntry x + uptoBulkEntries r
def uptoBulkEntry {H : Type} : Lit × DataW H → Nat
  | (.string bytes, d) => bytes.length + uptoBulk d + 1
  | (_, d) => uptoBulk d + 1
 end
def uptoSmall : (H : Type) → List (DataW H) → Bool := fun _ ds => decide (uptoBulkAll ds ≤ 1048576)
def OpenSpec.upto (s : _root_.Go.ChangeSpec) : _root_.Go.OpenSpec := { _root_.Go.OpenSpec.ofChange s with cond := some uptoSmall }

/-- 'provisolaw24.TalkUploads', WHERE WHAT IT READS IS OF BULK AT MOST 1048576: true; the input reads as it did. -/
def talkUploadsUptoRow : OpenClaim := { program := "ytmeodoidfpcjlaa", sum := "b4c2a2539c38c66d0ee917f5fdfb4fd49841e27985b463d7be7161dde14bc440", func := "proviso/provisolaw24.TalkUploads", spec := "talkUploads", apart := false, narrowed := true }
def TalkUploadsUptoSaid : Prop := talkUploadsUptoRow.holds Try.pinned (OpenSpec.upto talkUploadsSpec)

/-- 'provisolaw18.LinkFrees', WHERE WHAT IT READS IS OF BULK AT MOST 1048576: true; the input reads as it did. -/
def linkFreesUptoRow : OpenClaim := { program := "ytmeodoidfpcjlaa", sum := "b4c2a2539c38c66d0ee917f5fdfb4fd49841e27985b463d7be7161dde14bc440", func := "proviso/provisolaw18.LinkFrees", spec := "linkFrees", unfollowed := true, recurses := true, apart := false, narrowed := true }
def LinkFreesUptoSaid : Prop := linkFreesUptoRow.holds Try.pinned (OpenSpec.upto linkFreesSpec)

/-- 'provisolaw19.OptLess', WHERE WHAT IT READS IS OF BULK AT MOST 1048576: true; the input reads as it did. -/
def optLessUptoRow : OpenClaim := { program := "ytmeodoidfpcjlaa", sum := "b4c2a2539c38c66d0ee917f5fdfb4fd49841e27985b463d7be7161dde14bc440", func := "proviso/provisolaw19.OptLess", spec := "optLess", unfollowed := true, recurses := true, apart := false, narrowed := true }
def OptLessUptoSaid : Prop := optLessUptoRow.holds Try.pinned (OpenSpec.upto optLessSpec)

/-- 'provisolaw19.OptFuncs', WHERE WHAT IT READS IS OF BULK AT MOST 1048576: true; the input reads as it did. -/
def optFuncsUptoRow : OpenClaim := { program := "ytmeodoidfpcjlaa", sum := "b4c2a2539c38c66d0ee917f5fdfb4fd49841e27985b463d7be7161dde14bc440", func := "proviso/provisolaw19.OptFuncs", spec := "optFuncs", unfollowed := true, recurses := true, apart := false, narrowed := true }
def OptFuncsUptoSaid : Prop := optFuncsUptoRow.holds Try.pinned (OpenSpec.upto optFuncsSpec)

/-- 'provisolaw19.OptDone', WHERE WHAT IT READS IS OF BULK AT MOST 1048576: true; the input reads as it did. -/
def optDoneUptoRow : OpenClaim := { program := "ytmeodoidfpcjlaa", sum := "b4c2a2539c38c66d0ee917f5fdfb4fd49841e27985b463d7be7161dde14bc440", func := "proviso/provisolaw19.OptDone", spec := "optDone", unfollowed := true, recurses := true, apart := false, narrowed := true }
def OptDoneUptoSaid : Prop := optDoneUptoRow.holds Try.pinned (OpenSpec.upto optDoneSpec)

/-- 'provisolaw19.OptOwn', WHERE WHAT IT READS IS OF BULK AT MOST 1048576: true; the input reads as it did. -/
def optOwnUptoRow : OpenClaim := { program := "ytmeodoidfpcjlaa", sum := "b4c2a2539c38c66d0ee917f5fdfb4fd49841e27985b463d7be7161dde14bc440", func := "proviso/provisolaw19.OptOwn", spec := "optOwn", unfollowed := true, recurses := true, apart := false, narrowed := true }
def OptOwnUptoSaid : Prop := optOwnUptoRow.holds Try.pinned (OpenSpec.upto optOwnSpec)

end Rows
end Go.Proofs.Ytmeodoidfpcjlaa
