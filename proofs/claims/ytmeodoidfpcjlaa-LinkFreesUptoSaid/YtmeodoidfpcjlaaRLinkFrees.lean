/- LinkFrees: Alone and Free, of any part: the call answers true and leaves what it was handed as it was; of arguments that are of bulk at most 1048576 together. -/
import Derived.Test.YtmeodoidfpcjlaaPvj
import Derived.Test.YtmeodoidfpcjlaaLkb
import Derived.Test.YtmeodoidfpcjlaaC4
set_option linter.unusedVariables false
set_option linter.unusedSimpArgs false
namespace Go.Proofs.Ytmeodoidfpcjlaa.rowLinkFrees
open Go Go.RowKit Go.Pv Go.ChangeShapes Go.WideShapes Go.ChangeAt Go.Proofs.Ytmeodoidfpcjlaa
theorem own : ownKnob Try.prog.godebug = none := by kernel_rfl
theorem row_kids : Kids Try.prog (· < Try.prog.types.size) := kids_rows (by kernel_rfl) (by kernel_rfl)
theorem row_full : ∀ t e, t < Try.prog.types.size → Try.prog.underlying t = some (.slice e) → 0 < Try.prog.cellsOf e := slices_full_of Try.prog (by kernel_rfl)
theorem c9 : Try.prog.cellsOf 9 = 1 := by kernel_rfl
theorem c3 : Try.prog.cellsOf 3 = 1 := by kernel_rfl
theorem c52 : Try.prog.cellsOf 52 = 1 := by kernel_rfl
theorem st84 : stB Try.prog 84 [9, 52] = true := by kernel_rfl
theorem c84 : Try.prog.cellsOf 84 = 2 := by kernel_rfl
theorem c79 : Try.prog.cellsOf 79 = 1 := by kernel_rfl
theorem st81 : stB Try.prog 81 [9, 3, 79] = true := by kernel_rfl
theorem c81 : Try.prog.cellsOf 81 = 3 := by kernel_rfl
theorem c40 : Try.prog.cellsOf 40 = 1 := by kernel_rfl
theorem c51 : Try.prog.cellsOf 51 = 1 := by kernel_rfl
theorem st54 : stB Try.prog 54 [51, 52] = true := by kernel_rfl
theorem c54 : Try.prog.cellsOf 54 = 2 := by kernel_rfl
theorem c5 : Try.prog.cellsOf 5 = 1 := by kernel_rfl
theorem c22 : Try.prog.cellsOf 22 = 1 := by kernel_rfl
theorem st56 : stB Try.prog 56 [9, 54, 3, 22] = true := by kernel_rfl
theorem c56 : Try.prog.cellsOf 56 = 5 := by kernel_rfl
theorem c41 : Try.prog.cellsOf 41 = 1 := by kernel_rfl
theorem c29 : Try.prog.cellsOf 29 = 1 := by kernel_rfl
theorem st43 : stB Try.prog 43 [9, 40, 41, 29] = true := by kernel_rfl
theorem c43 : Try.prog.cellsOf 43 = 4 := by kernel_rfl
theorem st77 : stB Try.prog 77 [9, 54] = true := by kernel_rfl
theorem c77 : Try.prog.cellsOf 77 = 3 := by kernel_rfl
theorem c44 : Try.prog.cellsOf 44 = 1 := by kernel_rfl
theorem st46 : stB Try.prog 46 [43, 44] = true := by kernel_rfl
theorem c46 : Try.prog.cellsOf 46 = 5 := by kernel_rfl
theorem O84 : Opn Try.prog T_api_Field 84 (okF t_api_Field (okP okS okT)) := Opn.struct (OpnF.cons (Opn.str Try.underlying9 c9) (OpnF.one (Opn.u8 Try.underlying52 c52))) st84 c84 t_api_Field (fun y => (⟨y.1, y.2⟩ : S_api_Field)) (fun _ => rfl)
theorem O81 : Opn Try.prog T_api_Class 81 (okF t_api_Class (okP okS (okP (okI .i64) (okL (okF t_api_Field (okP okS okT)))))) := Opn.struct (OpnF.cons (Opn.str Try.underlying9 c9) (OpnF.cons (Opn.int Try.underlying3 c3) (OpnF.one (Opn.slice O84 Try.underlying79 c79 rfl)))) st81 c81 t_api_Class (fun y => (⟨y.1, y.2.1, y.2.2⟩ : S_api_Class)) (fun _ => rfl)
theorem O54 : Opn Try.prog T_api_Sig 54 (okF t_api_Sig (okP (okL okT) okT)) := Opn.struct (OpnF.cons (Opn.slice (Opn.u8 Try.underlying52 c52) Try.underlying51 c51 rfl) (OpnF.one (Opn.u8 Try.underlying52 c52))) st54 c54 t_api_Sig (fun y => (⟨y.1, y.2⟩ : S_api_Sig)) (fun _ => rfl)
theorem O56 : Opn Try.prog T_api_Func 56 (okF t_api_Func (okP okS (okP (okF t_api_Sig (okP (okL okT) okT)) (okP (okI .i64) (okL okT))))) := Opn.struct (OpnF.cons (Opn.str Try.underlying9 c9) (OpnF.cons O54 (OpnF.cons (Opn.int Try.underlying3 c3) (OpnF.one (Opn.slice (Opn.u8 Try.underlying5 c5) Try.underlying22 c22 rfl))))) st56 c56 t_api_Func (fun y => (⟨y.1, y.2.1, y.2.2.1, y.2.2.2⟩ : S_api_Func)) (fun _ => rfl)
theorem O43 : Opn Try.prog T_api_Module 43 (okF t_api_Module (okP okS (okP (okL (okF t_api_Class (okP okS (okP (okI .i64) (okL (okF t_api_Field (okP okS okT))))))) (okP (okL (okF t_api_Func (okP okS (okP (okF t_api_Sig (okP (okL okT) okT)) (okP (okI .i64) (okL okT)))))) (okL (okL okT)))))) := Opn.struct (OpnF.cons (Opn.str Try.underlying9 c9) (OpnF.cons (Opn.slice O81 Try.underlying40 c40 rfl) (OpnF.cons (Opn.slice O56 Try.underlying41 c41 rfl) (OpnF.one (Opn.slice (Opn.slice (Opn.u8 Try.underlying5 c5) Try.underlying22 c22 rfl) Try.underlying29 c29 rfl))))) st43 c43 t_api_Module (fun y => (⟨y.1, y.2.1, y.2.2.1, y.2.2.2⟩ : S_api_Module)) (fun _ => rfl)
theorem O77 : Opn Try.prog T_api_Import 77 (okF t_api_Import (okP okS (okF t_api_Sig (okP (okL okT) okT)))) := Opn.struct (OpnF.cons (Opn.str Try.underlying9 c9) (OpnF.one O54)) st77 c77 t_api_Import (fun y => (⟨y.1, y.2⟩ : S_api_Import)) (fun _ => rfl)
theorem O46 : Opn Try.prog T_api_Part 46 (okF t_api_Part (okP (okF t_api_Module (okP okS (okP (okL (okF t_api_Class (okP okS (okP (okI .i64) (okL (okF t_api_Field (okP okS okT))))))) (okP (okL (okF t_api_Func (okP okS (okP (okF t_api_Sig (okP (okL okT) okT)) (okP (okI .i64) (okL okT)))))) (okL (okL okT)))))) (okL (okF t_api_Import (okP okS (okF t_api_Sig (okP (okL okT) okT))))))) := Opn.struct (OpnF.cons O43 (OpnF.one (Opn.slice O77 Try.underlying44 c44 rfl))) st46 c46 t_api_Part (fun y => (⟨y.1, y.2⟩ : S_api_Part)) (fun _ => rfl)
theorem lawX (a0 : S_api_Part) (k0 : okF t_api_Part (okP (okF t_api_Module (okP okS (okP (okL (okF t_api_Class (okP okS (okP (okI .i64) (okL (okF t_api_Field (okP okS okT))))))) (okP (okL (okF t_api_Func (okP okS (okP (okF t_api_Sig (okP (okL okT) okT)) (okP (okI .i64) (okL okT)))))) (okL (okL okT)))))) (okL (okF t_api_Import (okP okS (okF t_api_Sig (okP (okL okT) okT)))))) 1048576 a0) : provisolaw18_LinkFrees a0 = some true := LinkFrees_law a0 ⟨⟨k0.1.2.1.1, k0.1.2.2.1.1, k0.1.2.2.2.1, fun x hx => (k0.1.2.1.2 x hx).2.2.1, fun x hx => ⟨(k0.1.2.2.1.2 x hx).2.1.1.1, (k0.1.2.2.1.2 x hx).2.2.2.1⟩, fun x hx => (k0.1.2.2.2.2 x hx).1⟩, k0.2.1, fun x hx => (k0.2.2 x hx).2.1.1⟩
set_option maxRecDepth 100000 in
theorem contract (H : Type) (enc : TypeId × Value → H) (W : World) (base : Nat) (args : Array Value) (ds gs : List (DataW H)) (before : List MemPlace)
    (hval : ∀ (j : Nat) t v, Try.f4.params[j]? = some t → args[j]? = some v → Value.okWide Try.prog W .any base t v)
    (hW : DataW.Whole enc Try.prog Try.f4.params.toList Rows.linkFreesSpec.vars false W args.toList ds gs before) (hk : Rows.uptoSmall H (ds ++ gs) = true) :
    Calls Try.prog 4 args W fun e W' => ∃ v, e = .returned v ∧ Rows.linkFreesSpec.post enc Try.prog Try.f4 false true false false W args v W' := by
  have hW' := hW
  obtain ⟨p, q, hA0, hV, rfl, hfz, hnd⟩ := hW
  have hA : DataW.TrodAll enc Try.prog W 0 (fun _ => true) true Try.f4.params.toList args.toList ds p := hA0
  rw [Try.params4] at hA hval
  obtain ⟨v0, vs0, d0, ds0, p0, q0, e0, rfl, rfl, h0, r0⟩ := trodAll_cons hA
  obtain ⟨rfl, rfl, rfl⟩ := trodAll_nil r0
  obtain rfl : args = #[v0] := by cases args; simp_all
  obtain ⟨rfl, rfl⟩ := trodVars_none hV
  have hB : bulkAll ([d0] ++ []) ≤ 1048576 := of_decide_eq_true hk
  simp only [List.append_nil, bulkAll, Rows.uptoBulkAll] at hB
  obtain ⟨a0, cs0, rfl, hs0, hG0, k0⟩ := arg_st O46 Try.underlying46 (hval 0 46 v0 rfl rfl) h0
  obtain ⟨v0_1, v0_2, v0_3, v0_4, rfl, hr0_1, hr0_2, hr0_3, hr0_4⟩ := R_api_Part hs0 hG0
  have hlaw : provisolaw18_LinkFrees a0 = some true := lawX a0 (O46.mono (by simp only [bulk]; omega) k0)
  refine (provisolaw18_LinkFrees_c hr0_1 hr0_2 hr0_3 hr0_4 hlaw).mono fun e W' ⟨v, he, hv, hs⟩ => ?_
  exact ⟨_, by rw [he, hv], post_true row_kids row_full (by rw [Try.params4]; decide) rfl rfl Try.underlying4 hW' rfl hs.fm⟩
set_option maxRecDepth 100000 in
theorem lifted (os : Os) (started : os.Started) (H : Type) (enc : TypeId × Value → H) (F : Stop.Interp) :
    ReturnsInHanded {} Try.checked os 4 .any ((Rows.OpenSpec.upto Rows.linkFreesSpec).pre6 enc Try.prog Try.f4 Rows.linkFreesUptoRow.domain false) (((Rows.OpenSpec.upto Rows.linkFreesSpec).at F).post enc Try.prog Try.f4 false true false false) := by
  refine returnsInHanded_of_cond (C := Try.checked) (s := Rows.OpenSpec.upto Rows.linkFreesSpec) (k := Rows.uptoSmall) rfl own started (by kernel_rfl) Try.func4
    (OpenSpec.witness (enc := enc) (C := Try.checked) (s := Rows.OpenSpec.upto Rows.linkFreesSpec) (k := Rows.uptoSmall) rfl false ⟨#[], #[.agg #[.string ⟨⟨[]⟩⟩, .slice none 0 0, .slice none 0 0, .slice none 0 0, .slice none 0 0]], []⟩ 8 (by kernel_rfl) (by kernel_rfl) (by kernel_rfl)
      (x := ([.agg [.agg [.lit (.string []), .nil, .nil, .nil], .nil]], [], [])) (by kernel_rfl) rfl (by kernel_rfl)) ?_
  intro W base args ds gs before hval hW _ hk _
  exact contract H enc W base args ds gs before hval hW hk
theorem over : Rows.linkFreesUptoRow.holds Try.pinned (Rows.OpenSpec.upto Rows.linkFreesSpec) :=
  OpenClaim.holds_of_cond 4 Try.f4 rfl rfl rfl rfl rfl rfl rfl ⟨rfl, rfl, rfl, rfl, rfl⟩ rfl rfl rfl rfl rfl (by kernel_rfl) Try.func4 (by kernel_rfl)
    (of_decide_eq_true (by kernel_rfl)) (by unfold Func.isWrapper; first | (rw [if_pos (by decide +kernel)]; kernel_rfl) | (rw [if_neg (by decide +kernel)]; exact ⟨rfl, rfl⟩))
    (fun os started H enc _ F => lifted os started H enc F)
theorem proved : Rows.LinkFreesUptoSaid := over
end Go.Proofs.Ytmeodoidfpcjlaa.rowLinkFrees
namespace Go.Proofs.Ytmeodoidfpcjlaa
theorem LinkFrees_holds : Rows.LinkFreesUptoSaid := rowLinkFrees.proved
end Go.Proofs.Ytmeodoidfpcjlaa
