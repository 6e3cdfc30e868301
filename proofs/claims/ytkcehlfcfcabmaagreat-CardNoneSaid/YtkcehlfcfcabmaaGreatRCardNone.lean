/- A nil card and a card without a store answer nothing to every call: the call answers true and leaves what it was handed as it was; of any arguments, without a condition. -/
import Derived.Test.YtkcehlfcfcabmaaGreatPvj
import Derived.Test.YtkcehlfcfcabmaaGreatLcn
import Derived.Test.YtkcehlfcfcabmaaGreatC3
set_option linter.unusedVariables false
set_option linter.unusedSimpArgs false
namespace Go.Proofs.YtkcehlfcfcabmaaGreat.rowCardNone
open Go Go.RowKit Go.Pv Go.ChangeShapes Go.WideShapes Go.ChangeAt Go.Proofs.YtkcehlfcfcabmaaGreat
theorem own : ownKnob Tryz.prog.godebug = none := by kernel_rfl
theorem row_kids : Kids Tryz.prog (· < Tryz.prog.types.size) := kids_rows (by kernel_rfl) (by kernel_rfl)
theorem row_full : ∀ t e, t < Tryz.prog.types.size → Tryz.prog.underlying t = some (.slice e) → 0 < Tryz.prog.cellsOf e := slices_full_of Tryz.prog (by kernel_rfl)
theorem c5 : Tryz.prog.cellsOf 5 = 1 := by kernel_rfl
theorem c22 : Tryz.prog.cellsOf 22 = 1 := by kernel_rfl
theorem lawX (a0 : List UInt8) (a1 : List UInt8) : provisolaw22_CardNone a0 a1 = some true := CardNone_law a0 a1
set_option maxRecDepth 100000 in
theorem contract (H : Type) (enc : TypeId × Value → H) (W : World) (base : Nat) (args : Array Value) (ds gs : List (DataW H)) (before : List MemPlace)
    (hval : ∀ (j : Nat) t v, Tryz.f3.params[j]? = some t → args[j]? = some v → Value.okWide Tryz.prog W .any base t v)
    (hW : DataW.Whole enc Tryz.prog Tryz.f3.params.toList Rows.cardNoneSpec.vars false W args.toList ds gs before) :
    Calls Tryz.prog 3 args W fun e W' => ∃ v, e = .returned v ∧ Rows.cardNoneSpec.post enc Tryz.prog Tryz.f3 false true false false W args v W' := by
  have hW' := hW
  obtain ⟨p, q, hA0, hV, rfl, hfz, hnd⟩ := hW
  have hA : DataW.TrodAll enc Tryz.prog W 0 (fun _ => true) true Tryz.f3.params.toList args.toList ds p := hA0
  rw [Tryz.params3] at hA hval
  obtain ⟨v0, vs0, d0, ds0, p0, q0, e0, rfl, rfl, h0, r0⟩ := trodAll_cons hA
  obtain ⟨v1, vs1, d1, ds1, p1, q1, e1, rfl, rfl, h1, r1⟩ := trodAll_cons r0
  subst e1
  obtain ⟨rfl, rfl, rfl⟩ := trodAll_nil r1
  obtain rfl : args = #[v0, v1] := by cases args; simp_all
  obtain ⟨rfl, rfl⟩ := trodVars_none hV
  obtain ⟨a0, rfl, k0⟩ := arg_str Tryz.underlying9 (hval 0 9 v0 rfl rfl) h0
  obtain ⟨a1, hr1, k1⟩ := arg_sl (Opn.slice (Opn.u8 Tryz.underlying5 c5) Tryz.underlying22 c22 rfl) Tryz.underlying22 (hval 1 22 v1 rfl rfl) h1
  have hlaw : provisolaw22_CardNone a0 a1 = some true := lawX a0 a1
  refine (provisolaw22_CardNone_c hr1 hlaw).mono fun e W' ⟨v, he, hv, hs⟩ => ?_
  exact ⟨_, by rw [he, hv], post_true row_kids row_full (by rw [Tryz.params3]; decide) rfl rfl Tryz.underlying4 hW' rfl hs.fm⟩
set_option maxRecDepth 100000 in
theorem lifted (os : Os) (started : os.Started) (H : Type) (enc : TypeId × Value → H) :
    ReturnsInHanded {} Tryz.checked os 3 .any (Rows.cardNoneSpec.pre6 enc Tryz.prog Tryz.f3 Rows.cardNoneRow.domain false) (Rows.cardNoneSpec.post enc Tryz.prog Tryz.f3 false true false false) := by
  refine returnsInHanded_of_change (C := Tryz.checked) own started (by kernel_rfl) Tryz.func3
    (ChangeSpec.witness6 (enc := enc) (C := Tryz.checked) false ⟨#[], #[.string ⟨#[]⟩, .slice none 0 0], []⟩ 8 (by kernel_rfl) (by kernel_rfl) (by kernel_rfl) (by kernel_rfl)) ?_
  intro W base args ds gs before hval hW _ _
  exact contract H enc W base args ds gs before hval hW
theorem over : Rows.cardNoneRow.holds Tryz.pinned (OpenSpec.ofChange Rows.cardNoneSpec) :=
  OpenClaim.holds_of_wide 3 Tryz.f3 rfl rfl rfl rfl rfl rfl rfl ⟨rfl, rfl, rfl, rfl, rfl⟩ rfl rfl rfl rfl rfl (by kernel_rfl) Tryz.func3 (by kernel_rfl)
    (of_decide_eq_true (by kernel_rfl)) (by unfold Func.isWrapper; first | (rw [if_pos (by decide +kernel)]; kernel_rfl) | (rw [if_neg (by decide +kernel)]; exact ⟨rfl, rfl⟩))
    (fun os started H enc _ => lifted os started H enc)
theorem proved : Rows.CardNoneSaid := over
end Go.Proofs.YtkcehlfcfcabmaaGreat.rowCardNone
namespace Go.Proofs.YtkcehlfcfcabmaaGreat
theorem CardNone_holds : Rows.CardNoneSaid := rowCardNone.proved
end Go.Proofs.YtkcehlfcfcabmaaGreat
