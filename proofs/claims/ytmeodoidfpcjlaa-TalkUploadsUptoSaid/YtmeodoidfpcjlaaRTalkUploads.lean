/- Upload of any file and chunk is the reference's, and what it hands out is memory of its own: the call answers true and leaves what it was handed as it was; of arguments that are of bulk at most 1048576 together. -/
import Derived.Test.YtmeodoidfpcjlaaPvj
import Derived.Test.YtmeodoidfpcjlaaLup
import Derived.Test.YtmeodoidfpcjlaaW3a
set_option linter.unusedVariables false
set_option linter.unusedSimpArgs false
namespace Go.Proofs.Ytmeodoidfpcjlaa.rowTalkUploads
open Go Go.RowKit Go.Pv Go.ChangeShapes Go.WideShapes Go.ChangeAt Go.Proofs.Ytmeodoidfpcjlaa
theorem own : ownKnob Try.prog.godebug = none := by kernel_rfl
theorem row_kids : Kids Try.prog (· < Try.prog.types.size) := kids_rows (by kernel_rfl) (by kernel_rfl)
theorem row_full : ∀ t e, t < Try.prog.types.size → Try.prog.underlying t = some (.slice e) → 0 < Try.prog.cellsOf e := slices_full_of Try.prog (by kernel_rfl)
theorem c5 : Try.prog.cellsOf 5 = 1 := by kernel_rfl
theorem c22 : Try.prog.cellsOf 22 = 1 := by kernel_rfl
theorem lawX (a0 : List UInt8) (a1 : Int) (k0 : okL okT 1048576 a0) (k1 : okI .i64 1048576 a1) : provisolaw24_TalkUploads a0 a1 = some true := TalkUploads_law a0 a1 k0.1
set_option maxRecDepth 100000 in
theorem contract (H : Type) (enc : TypeId × Value → H) (W : World) (base : Nat) (args : Array Value) (ds gs : List (DataW H)) (before : List MemPlace)
    (hval : ∀ (j : Nat) t v, Try.f3.params[j]? = some t → args[j]? = some v → Value.okWide Try.prog W .any base t v)
    (hW : DataW.Whole enc Try.prog Try.f3.params.toList Rows.talkUploadsSpec.vars false W args.toList ds gs before) (hk : Rows.uptoSmall H (ds ++ gs) = true) :
    Calls Try.prog 3 args W fun e W' => ∃ v, e = .returned v ∧ Rows.talkUploadsSpec.post enc Try.prog Try.f3 false true false false W args v W' := by
  have hW' := hW
  obtain ⟨p, q, hA0, hV, rfl, hfz, hnd⟩ := hW
  have hA : DataW.TrodAll enc Try.prog W 0 (fun _ => true) true Try.f3.params.toList args.toList ds p := hA0
  rw [Try.params3] at hA hval
  obtain ⟨v0, vs0, d0, ds0, p0, q0, e0, rfl, rfl, h0, r0⟩ := trodAll_cons hA
  obtain ⟨v1, vs1, d1, ds1, p1, q1, e1, rfl, rfl, h1, r1⟩ := trodAll_cons r0
  subst e1
  obtain ⟨rfl, rfl, rfl⟩ := trodAll_nil r1
  obtain rfl : args = #[v0, v1] := by cases args; simp_all
  obtain ⟨rfl, rfl⟩ := trodVars_none hV
  have hB : bulkAll ([d0, d1] ++ []) ≤ 1048576 := of_decide_eq_true hk
  simp only [List.append_nil, bulkAll, Rows.uptoBulkAll] at hB
  obtain ⟨a0, hr0, k0⟩ := arg_sl (Opn.slice (Opn.u8 Try.underlying5 c5) Try.underlying22 c22 rfl) Try.underlying22 (hval 0 22 v0 rfl rfl) h0
  obtain ⟨a1, rfl, lo1, hi1⟩ := arg_intv hval 1 rfl rfl Try.underlying3 h1
  have hlaw : provisolaw24_TalkUploads a0 a1 = some true := lawX a0 a1 (((Opn.slice (Opn.u8 Try.underlying5 c5) Try.underlying22 c22 rfl)).mono (by simp only [bulk]; omega) k0) ⟨lo1, hi1⟩
  refine (provisolaw24_TalkUploads_c hr0 hlaw).mono fun e W' ⟨v, he, hv, hs⟩ => ?_
  exact ⟨_, by rw [he, hv], post_true row_kids row_full (by rw [Try.params3]; decide) rfl rfl Try.underlying4 hW' rfl hs.fm⟩
set_option maxRecDepth 100000 in
theorem lifted (os : Os) (started : os.Started) (H : Type) (enc : TypeId × Value → H) (F : Stop.Interp) :
    ReturnsInHanded {} Try.checked os 3 .any ((Rows.OpenSpec.upto Rows.talkUploadsSpec).pre6 enc Try.prog Try.f3 Rows.talkUploadsUptoRow.domain false) (((Rows.OpenSpec.upto Rows.talkUploadsSpec).at F).post enc Try.prog Try.f3 false true false false) := by
  refine returnsInHanded_of_cond (C := Try.checked) (s := Rows.OpenSpec.upto Rows.talkUploadsSpec) (k := Rows.uptoSmall) rfl own started (by kernel_rfl) Try.func3
    (OpenSpec.witness (enc := enc) (C := Try.checked) (s := Rows.OpenSpec.upto Rows.talkUploadsSpec) (k := Rows.uptoSmall) rfl false ⟨#[], #[.slice none 0 0, .int .i64 0], []⟩ 8 (by kernel_rfl) (by kernel_rfl) (by kernel_rfl)
      (x := ([.nil, .lit (.int .i64 0)], [], [])) (by kernel_rfl) rfl (by kernel_rfl)) ?_
  intro W base args ds gs before hval hW _ hk _
  exact contract H enc W base args ds gs before hval hW hk
theorem over : Rows.talkUploadsUptoRow.holds Try.pinned (Rows.OpenSpec.upto Rows.talkUploadsSpec) :=
  OpenClaim.holds_of_cond 3 Try.f3 rfl rfl rfl rfl rfl rfl rfl ⟨rfl, rfl, rfl, rfl, rfl⟩ rfl rfl rfl rfl rfl (by kernel_rfl) Try.func3 (by kernel_rfl)
    (of_decide_eq_true (by kernel_rfl)) (by unfold Func.isWrapper; first | (rw [if_pos (by decide +kernel)]; kernel_rfl) | (rw [if_neg (by decide +kernel)]; exact ⟨rfl, rfl⟩))
    (fun os started H enc _ F => lifted os started H enc F)
theorem proved : Rows.TalkUploadsUptoSaid := over
end Go.Proofs.Ytmeodoidfpcjlaa.rowTalkUploads
namespace Go.Proofs.Ytmeodoidfpcjlaa
theorem TalkUploads_holds : Rows.TalkUploadsUptoSaid := rowTalkUploads.proved
end Go.Proofs.Ytmeodoidfpcjlaa
