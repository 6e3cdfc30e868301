/- what opt.Func gives is memory of its own: the call answers true and leaves what it was handed as it was; of arguments that are of bulk at most 1048576 together. -/
import Derived.Test.YtmeodoidfpcjlaaPvj
import Derived.Test.YtmeodoidfpcjlaaLot
import Derived.Test.YtmeodoidfpcjlaaW8c
set_option linter.unusedVariables false
set_option linter.unusedSimpArgs false
namespace Go.Proofs.Ytmeodoidfpcjlaa.rowOptOwn
open Go Go.RowKit Go.Pv Go.ChangeShapes Go.WideShapes Go.ChangeAt Go.Proofs.Ytmeodoidfpcjlaa
theorem own : ownKnob Try.prog.godebug = none := by kernel_rfl
theorem row_kids : Kids Try.prog (· < Try.prog.types.size) := kids_rows (by kernel_rfl) (by kernel_rfl)
theorem row_full : ∀ t e, t < Try.prog.types.size → Try.prog.underlying t = some (.slice e) → 0 < Try.prog.cellsOf e := slices_full_of Try.prog (by kernel_rfl)
theorem c9 : Try.prog.cellsOf 9 = 1 := by kernel_rfl
theorem c52 : Try.prog.cellsOf 52 = 1 := by kernel_rfl
theorem c51 : Try.prog.cellsOf 51 = 1 := by kernel_rfl
theorem st54 : stB Try.prog 54 [51, 52] = true := by kernel_rfl
theorem c54 : Try.prog.cellsOf 54 = 2 := by kernel_rfl
theorem c3 : Try.prog.cellsOf 3 = 1 := by kernel_rfl
theorem c5 : Try.prog.cellsOf 5 = 1 := by kernel_rfl
theorem c22 : Try.prog.cellsOf 22 = 1 := by kernel_rfl
theorem st56 : stB Try.prog 56 [9, 54, 3, 22] = true := by kernel_rfl
theorem c56 : Try.prog.cellsOf 56 = 5 := by kernel_rfl
theorem O54 : Opn Try.prog T_api_Sig 54 (okF t_api_Sig (okP (okL okT) okT)) := Opn.struct (OpnF.cons (Opn.slice (Opn.u8 Try.underlying52 c52) Try.underlying51 c51 rfl) (OpnF.one (Opn.u8 Try.underlying52 c52))) st54 c54 t_api_Sig (fun y => (⟨y.1, y.2⟩ : S_api_Sig)) (fun _ => rfl)
theorem O56 : Opn Try.prog T_api_Func 56 (okF t_api_Func (okP okS (okP (okF t_api_Sig (okP (okL okT) okT)) (okP (okI .i64) (okL okT))))) := Opn.struct (OpnF.cons (Opn.str Try.underlying9 c9) (OpnF.cons O54 (OpnF.cons (Opn.int Try.underlying3 c3) (OpnF.one (Opn.slice (Opn.u8 Try.underlying5 c5) Try.underlying22 c22 rfl))))) st56 c56 t_api_Func (fun y => (⟨y.1, y.2.1, y.2.2.1, y.2.2.2⟩ : S_api_Func)) (fun _ => rfl)
theorem lawX (a0 : S_api_Func) (k0 : okF t_api_Func (okP okS (okP (okF t_api_Sig (okP (okL okT) okT)) (okP (okI .i64) (okL okT)))) 1048576 a0) : provisolaw19_OptOwn a0 = some true := OptOwn_law a0 k0.2.1.1.1
set_option maxRecDepth 100000 in
theorem contract (H : Type) (enc : TypeId × Value → H) (W : World) (base : Nat) (args : Array Value) (ds gs : List (DataW H)) (before : List MemPlace)
    (hval : ∀ (j : Nat) t v, Try.f8.params[j]? = some t → args[j]? = some v → Value.okWide Try.prog W .any base t v)
    (hW : DataW.Whole enc Try.prog Try.f8.params.toList Rows.optOwnSpec.vars false W args.toList ds gs before) (hk : Rows.uptoSmall H (ds ++ gs) = true) :
    Calls Try.prog 8 args W fun e W' => ∃ v, e = .returned v ∧ Rows.optOwnSpec.post enc Try.prog Try.f8 false true false false W args v W' := by
  have hW' := hW
  obtain ⟨p, q, hA0, hV, rfl, hfz, hnd⟩ := hW
  have hA : DataW.TrodAll enc Try.prog W 0 (fun _ => true) true Try.f8.params.toList args.toList ds p := hA0
  rw [Try.params8] at hA hval
  obtain ⟨v0, vs0, d0, ds0, p0, q0, e0, rfl, rfl, h0, r0⟩ := trodAll_cons hA
  obtain ⟨rfl, rfl, rfl⟩ := trodAll_nil r0
  obtain rfl : args = #[v0] := by cases args; simp_all
  obtain ⟨rfl, rfl⟩ := trodVars_none hV
  have hB : bulkAll ([d0] ++ []) ≤ 1048576 := of_decide_eq_true hk
  simp only [List.append_nil, bulkAll, Rows.uptoBulkAll] at hB
  obtain ⟨a0, cs0, rfl, hs0, hG0, k0⟩ := arg_st O56 Try.underlying56 (hval 0 56 v0 rfl rfl) h0
  obtain ⟨v0_1, v0_4, rfl, hr0_1, hr0_4⟩ := R_api_Func hs0 hG0
  have hlaw : provisolaw19_OptOwn a0 = some true := lawX a0 (O56.mono (by simp only [bulk]; omega) k0)
  refine (provisolaw19_OptOwn_c hr0_1 hr0_4 hlaw).mono fun e W' ⟨v, he, hv, hs⟩ => ?_
  exact ⟨_, by rw [he, hv], post_true row_kids row_full (by rw [Try.params8]; decide) rfl rfl Try.underlying4 hW' rfl hs.fm⟩
set_option maxRecDepth 100000 in
theorem lifted (os : Os) (started : os.Started) (H : Type) (enc : TypeId × Value → H) (F : Stop.Interp) :
    ReturnsInHanded {} Try.checked os 8 .any ((Rows.OpenSpec.upto Rows.optOwnSpec).pre6 enc Try.prog Try.f8 Rows.optOwnUptoRow.domain false) (((Rows.OpenSpec.upto Rows.optOwnSpec).at F).post enc Try.prog Try.f8 false true false false) := by
  refine returnsInHanded_of_cond (C := Try.checked) (s := Rows.OpenSpec.upto Rows.optOwnSpec) (k := Rows.uptoSmall) rfl own started (by kernel_rfl) Try.func8
    (OpenSpec.witness (enc := enc) (C := Try.checked) (s := Rows.OpenSpec.upto Rows.optOwnSpec) (k := Rows.uptoSmall) rfl false ⟨#[], #[.agg #[.string ⟨⟨[]⟩⟩, .slice none 0 0, .int .u8 0, .int .i64 0, .slice none 0 0]], []⟩ 8 (by kernel_rfl) (by kernel_rfl) (by kernel_rfl)
      (x := ([.agg [.lit (.string []), .agg [.nil, .lit (.int .u8 0)], .lit (.int .i64 0), .nil]], [], [])) (by kernel_rfl) rfl (by kernel_rfl)) ?_
  intro W base args ds gs before hval hW _ hk _
  exact contract H enc W base args ds gs before hval hW hk
theorem over : Rows.optOwnUptoRow.holds Try.pinned (Rows.OpenSpec.upto Rows.optOwnSpec) :=
  OpenClaim.holds_of_cond 8 Try.f8 rfl rfl rfl rfl rfl rfl rfl ⟨rfl, rfl, rfl, rfl, rfl⟩ rfl rfl rfl rfl rfl (by kernel_rfl) Try.func8 (by kernel_rfl)
    (of_decide_eq_true (by kernel_rfl)) (by unfold Func.isWrapper; first | (rw [if_pos (by decide +kernel)]; kernel_rfl) | (rw [if_neg (by decide +kernel)]; exact ⟨rfl, rfl⟩))
    (fun os started H enc _ F => lifted os started H enc F)
theorem proved : Rows.OptOwnUptoSaid := over
end Go.Proofs.Ytmeodoidfpcjlaa.rowOptOwn
namespace Go.Proofs.Ytmeodoidfpcjlaa
theorem OptOwn_holds : Rows.OptOwnUptoSaid := rowOptOwn.proved
end Go.Proofs.Ytmeodoidfpcjlaa
