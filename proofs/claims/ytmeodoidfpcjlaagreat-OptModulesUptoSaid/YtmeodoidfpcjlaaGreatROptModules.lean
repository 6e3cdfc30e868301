/- what opt.Module answers is what the reference's Module answers, and what is handed in stays: the call answers true and leaves what it was handed as it was; of arguments that are of bulk at most 1048576 together. -/
import Derived.Test.YtmeodoidfpcjlaaGreatPvj
import Derived.Test.YtmeodoidfpcjlaaGreatLor
import Derived.Test.YtmeodoidfpcjlaaGreatW3c
set_option linter.unusedVariables false
set_option linter.unusedSimpArgs false
namespace Go.Proofs.YtmeodoidfpcjlaaGreat.rowOptModules
open Go Go.RowKit Go.Pv Go.ChangeShapes Go.WideShapes Go.ChangeAt Go.Proofs.YtmeodoidfpcjlaaGreat
theorem own : ownKnob Tryz.prog.godebug = none := by kernel_rfl
theorem row_kids : Kids Tryz.prog (· < Tryz.prog.types.size) := kids_rows (by kernel_rfl) (by kernel_rfl)
theorem row_full : ∀ t e, t < Tryz.prog.types.size → Tryz.prog.underlying t = some (.slice e) → 0 < Tryz.prog.cellsOf e := slices_full_of Tryz.prog (by kernel_rfl)
theorem c9 : Tryz.prog.cellsOf 9 = 1 := by kernel_rfl
theorem c3 : Tryz.prog.cellsOf 3 = 1 := by kernel_rfl
theorem c35 : Tryz.prog.cellsOf 35 = 1 := by kernel_rfl
theorem st54 : stB Tryz.prog 54 [9, 35] = true := by kernel_rfl
theorem c54 : Tryz.prog.cellsOf 54 = 2 := by kernel_rfl
theorem c44 : Tryz.prog.cellsOf 44 = 1 := by kernel_rfl
theorem st46 : stB Tryz.prog 46 [9, 3, 44] = true := by kernel_rfl
theorem c46 : Tryz.prog.cellsOf 46 = 3 := by kernel_rfl
theorem c22 : Tryz.prog.cellsOf 22 = 1 := by kernel_rfl
theorem c34 : Tryz.prog.cellsOf 34 = 1 := by kernel_rfl
theorem st37 : stB Tryz.prog 37 [34, 35] = true := by kernel_rfl
theorem c37 : Tryz.prog.cellsOf 37 = 2 := by kernel_rfl
theorem c5 : Tryz.prog.cellsOf 5 = 1 := by kernel_rfl
theorem c38 : Tryz.prog.cellsOf 38 = 1 := by kernel_rfl
theorem st40 : stB Tryz.prog 40 [9, 37, 3, 38] = true := by kernel_rfl
theorem c40 : Tryz.prog.cellsOf 40 = 5 := by kernel_rfl
theorem c23 : Tryz.prog.cellsOf 23 = 1 := by kernel_rfl
theorem c24 : Tryz.prog.cellsOf 24 = 1 := by kernel_rfl
theorem st26 : stB Tryz.prog 26 [9, 22, 23, 24] = true := by kernel_rfl
theorem c26 : Tryz.prog.cellsOf 26 = 4 := by kernel_rfl
theorem O54 : Opn Tryz.prog T_api_Field 54 (okF t_api_Field (okP okS okT)) := Opn.struct (OpnF.cons (Opn.str Tryz.underlying9 c9) (OpnF.one (Opn.u8 Tryz.underlying35 c35))) st54 c54 t_api_Field (fun y => (⟨y.1, y.2⟩ : S_api_Field)) (fun _ => rfl)
theorem O46 : Opn Tryz.prog T_api_Class 46 (okF t_api_Class (okP okS (okP (okI .i64) (okL (okF t_api_Field (okP okS okT)))))) := Opn.struct (OpnF.cons (Opn.str Tryz.underlying9 c9) (OpnF.cons (Opn.int Tryz.underlying3 c3) (OpnF.one (Opn.slice O54 Tryz.underlying44 c44 rfl)))) st46 c46 t_api_Class (fun y => (⟨y.1, y.2.1, y.2.2⟩ : S_api_Class)) (fun _ => rfl)
theorem O37 : Opn Tryz.prog T_api_Sig 37 (okF t_api_Sig (okP (okL okT) okT)) := Opn.struct (OpnF.cons (Opn.slice (Opn.u8 Tryz.underlying35 c35) Tryz.underlying34 c34 rfl) (OpnF.one (Opn.u8 Tryz.underlying35 c35))) st37 c37 t_api_Sig (fun y => (⟨y.1, y.2⟩ : S_api_Sig)) (fun _ => rfl)
theorem O40 : Opn Tryz.prog T_api_Func 40 (okF t_api_Func (okP okS (okP (okF t_api_Sig (okP (okL okT) okT)) (okP (okI .i64) (okL okT))))) := Opn.struct (OpnF.cons (Opn.str Tryz.underlying9 c9) (OpnF.cons O37 (OpnF.cons (Opn.int Tryz.underlying3 c3) (OpnF.one (Opn.slice (Opn.u8 Tryz.underlying5 c5) Tryz.underlying38 c38 rfl))))) st40 c40 t_api_Func (fun y => (⟨y.1, y.2.1, y.2.2.1, y.2.2.2⟩ : S_api_Func)) (fun _ => rfl)
theorem O26 : Opn Tryz.prog T_api_Module 26 (okF t_api_Module (okP okS (okP (okL (okF t_api_Class (okP okS (okP (okI .i64) (okL (okF t_api_Field (okP okS okT))))))) (okP (okL (okF t_api_Func (okP okS (okP (okF t_api_Sig (okP (okL okT) okT)) (okP (okI .i64) (okL okT)))))) (okL (okL okT)))))) := Opn.struct (OpnF.cons (Opn.str Tryz.underlying9 c9) (OpnF.cons (Opn.slice O46 Tryz.underlying22 c22 rfl) (OpnF.cons (Opn.slice O40 Tryz.underlying23 c23 rfl) (OpnF.one (Opn.slice (Opn.slice (Opn.u8 Tryz.underlying5 c5) Tryz.underlying38 c38 rfl) Tryz.underlying24 c24 rfl))))) st26 c26 t_api_Module (fun y => (⟨y.1, y.2.1, y.2.2.1, y.2.2.2⟩ : S_api_Module)) (fun _ => rfl)
theorem lawX (a0 : S_api_Module) (k0 : okF t_api_Module (okP okS (okP (okL (okF t_api_Class (okP okS (okP (okI .i64) (okL (okF t_api_Field (okP okS okT))))))) (okP (okL (okF t_api_Func (okP okS (okP (okF t_api_Sig (okP (okL okT) okT)) (okP (okI .i64) (okL okT)))))) (okL (okL okT))))) 1048576 a0) : provisolaw19_OptModules a0 = some true := OptModules_law a0 ⟨k0.2.1.1, k0.2.2.1.1, k0.2.2.2.1, fun x hx => (k0.2.1.2 x hx).2.2.1, fun x hx => ⟨(k0.2.2.1.2 x hx).2.1.1.1, (k0.2.2.1.2 x hx).2.2.2.1⟩, fun x hx => (k0.2.2.2.2 x hx).1⟩
set_option maxRecDepth 100000 in
theorem contract (H : Type) (enc : TypeId × Value → H) (W : World) (base : Nat) (args : Array Value) (ds gs : List (DataW H)) (before : List MemPlace)
    (hval : ∀ (j : Nat) t v, Tryz.f3.params[j]? = some t → args[j]? = some v → Value.okWide Tryz.prog W .any base t v)
    (hW : DataW.Whole enc Tryz.prog Tryz.f3.params.toList Rows.optModulesSpec.vars false W args.toList ds gs before) (hk : Rows.uptoSmall H (ds ++ gs) = true) :
    Calls Tryz.prog 3 args W fun e W' => ∃ v, e = .returned v ∧ Rows.optModulesSpec.post enc Tryz.prog Tryz.f3 false true false false W args v W' := by
  have hW' := hW
  obtain ⟨p, q, hA0, hV, rfl, hfz, hnd⟩ := hW
  have hA : DataW.TrodAll enc Tryz.prog W 0 (fun _ => true) true Tryz.f3.params.toList args.toList ds p := hA0
  rw [Tryz.params3] at hA hval
  obtain ⟨v0, vs0, d0, ds0, p0, q0, e0, rfl, rfl, h0, r0⟩ := trodAll_cons hA
  obtain ⟨rfl, rfl, rfl⟩ := trodAll_nil r0
  obtain rfl : args = #[v0] := by cases args; simp_all
  obtain ⟨rfl, rfl⟩ := trodVars_none hV
  have hB : bulkAll ([d0] ++ []) ≤ 1048576 := of_decide_eq_true hk
  simp only [List.append_nil, bulkAll, Rows.uptoBulkAll] at hB
  obtain ⟨a0, cs0, rfl, hs0, hG0, k0⟩ := arg_st O26 Tryz.underlying26 (hval 0 26 v0 rfl rfl) h0
  obtain ⟨v0_1, v0_2, v0_3, rfl, hr0_1, hr0_2, hr0_3⟩ := R_api_Module hs0 hG0
  have hlaw : provisolaw19_OptModules a0 = some true := lawX a0 (O26.mono (by simp only [bulk]; omega) k0)
  refine (provisolaw19_OptModules_c hr0_1 hr0_2 hr0_3 hlaw).mono fun e W' ⟨v, he, hv, hs⟩ => ?_
  exact ⟨_, by rw [he, hv], post_true row_kids row_full (by rw [Tryz.params3]; decide) rfl rfl Tryz.underlying4 hW' rfl hs.fm⟩
set_option maxRecDepth 100000 in
theorem lifted (os : Os) (started : os.Started) (H : Type) (enc : TypeId × Value → H) (F : Stop.Interp) :
    ReturnsInHanded {} Tryz.checked os 3 .any ((Rows.OpenSpec.upto Rows.optModulesSpec).pre6 enc Tryz.prog Tryz.f3 Rows.optModulesUptoRow.domain false) (((Rows.OpenSpec.upto Rows.optModulesSpec).at F).post enc Tryz.prog Tryz.f3 false true false false) := by
  refine returnsInHanded_of_cond (C := Tryz.checked) (s := Rows.OpenSpec.upto Rows.optModulesSpec) (k := Rows.uptoSmall) rfl own started (by kernel_rfl) Tryz.func3
    (OpenSpec.witness (enc := enc) (C := Tryz.checked) (s := Rows.OpenSpec.upto Rows.optModulesSpec) (k := Rows.uptoSmall) rfl false ⟨#[], #[.agg #[.string ⟨⟨[]⟩⟩, .slice none 0 0, .slice none 0 0, .slice none 0 0]], []⟩ 8 (by kernel_rfl) (by kernel_rfl) (by kernel_rfl)
      (x := ([.agg [.lit (.string []), .nil, .nil, .nil]], [], [])) (by kernel_rfl) rfl (by kernel_rfl)) ?_
  intro W base args ds gs before hval hW _ hk _
  exact contract H enc W base args ds gs before hval hW hk
theorem over : Rows.optModulesUptoRow.holds Tryz.pinned (Rows.OpenSpec.upto Rows.optModulesSpec) :=
  OpenClaim.holds_of_cond 3 Tryz.f3 rfl rfl rfl rfl rfl rfl rfl ⟨rfl, rfl, rfl, rfl, rfl⟩ rfl rfl rfl rfl rfl (by kernel_rfl) Tryz.func3 (by kernel_rfl)
    (of_decide_eq_true (by kernel_rfl)) (by unfold Func.isWrapper; first | (rw [if_pos (by decide +kernel)]; kernel_rfl) | (rw [if_neg (by decide +kernel)]; exact ⟨rfl, rfl⟩))
    (fun os started H enc _ F => lifted os started H enc F)
theorem proved : Rows.OptModulesUptoSaid := over
end Go.Proofs.YtmeodoidfpcjlaaGreat.rowOptModules
namespace Go.Proofs.YtmeodoidfpcjlaaGreat
theorem OptModules_holds : Rows.OptModulesUptoSaid := rowOptModules.proved
end Go.Proofs.YtmeodoidfpcjlaaGreat
