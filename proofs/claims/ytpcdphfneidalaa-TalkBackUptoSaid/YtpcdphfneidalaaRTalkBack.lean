/- TalkBack: Unpack of Pack is the request, Heard of Told the answer: the call answers true and leaves what it was handed as it was; of arguments that are of bulk at most 1048576 together. -/
import Derived.Test.YtpcdphfneidalaaPvj
import Derived.Test.YtpcdphfneidalaaLwe
import Derived.Test.YtpcdphfneidalaaC7
set_option linter.unusedVariables false
set_option linter.unusedSimpArgs false
namespace Go.Proofs.Ytpcdphfneidalaa.rowTalkBack
open Go Go.RowKit Go.Pv Go.ChangeShapes Go.WideShapes Go.ChangeAt Go.Proofs.Ytpcdphfneidalaa
theorem own : ownKnob Try.prog.godebug = none := by kernel_rfl
theorem row_kids : Kids Try.prog (· < Try.prog.types.size) := kids_rows (by kernel_rfl) (by kernel_rfl)
theorem row_full : ∀ t e, t < Try.prog.types.size → Try.prog.underlying t = some (.slice e) → 0 < Try.prog.cellsOf e := slices_full_of Try.prog (by kernel_rfl)
theorem c3 : Try.prog.cellsOf 3 = 1 := by kernel_rfl
theorem c5 : Try.prog.cellsOf 5 = 1 := by kernel_rfl
theorem c22 : Try.prog.cellsOf 22 = 1 := by kernel_rfl
theorem st35 : stB Try.prog 35 [3, 3, 22] = true := by kernel_rfl
theorem c35 : Try.prog.cellsOf 35 = 3 := by kernel_rfl
theorem O35 : Opn Try.prog T_api_Request 35 (okF t_api_Request (okP (okI .i64) (okP (okI .i64) (okL okT)))) := Opn.struct (OpnF.cons (Opn.int Try.underlying3 c3) (OpnF.cons (Opn.int Try.underlying3 c3) (OpnF.one (Opn.slice (Opn.u8 Try.underlying5 c5) Try.underlying22 c22 rfl)))) st35 c35 t_api_Request (fun y => (⟨y.1, y.2.1, y.2.2⟩ : S_api_Request)) (fun _ => rfl)
theorem lawX (a0 : S_api_Request) (a1 : Int) (k0 : okF t_api_Request (okP (okI .i64) (okP (okI .i64) (okL okT))) 1048576 a0) (k1 : okI .u64 1048576 a1) : provisolaw24_TalkBack a0 a1 = some true := TalkBack_law a0 a1 k1.1
theorem contract (H : Type) (enc : TypeId × Value → H) (W : World) (base : Nat) (args : Array Value) (ds gs : List (DataW H)) (before : List MemPlace)
    (hval : ∀ (j : Nat) t v, Try.f7.params[j]? = some t → args[j]? = some v → Value.okWide Try.prog W .any base t v)
    (hW : DataW.Whole enc Try.prog Try.f7.params.toList Rows.talkBackSpec.vars false W args.toList ds gs before) (hk : Rows.uptoSmall H (ds ++ gs) = true) :
    Calls Try.prog 7 args W fun e W' => ∃ v, e = .returned v ∧ Rows.talkBackSpec.post enc Try.prog Try.f7 false true false false W args v W' := by
  have hW' := hW
  obtain ⟨p, q, hA0, hV, rfl, hfz, hnd⟩ := hW
  have hA : DataW.TrodAll enc Try.prog W 0 (fun _ => true) true Try.f7.params.toList args.toList ds p := hA0
  rw [Try.params7] at hA hval
  obtain ⟨v0, vs0, d0, ds0, p0, q0, e0, rfl, rfl, h0, r0⟩ := trodAll_cons hA
  obtain ⟨v1, vs1, d1, ds1, p1, q1, e1, rfl, rfl, h1, r1⟩ := trodAll_cons r0
  subst e1
  obtain ⟨rfl, rfl, rfl⟩ := trodAll_nil r1
  obtain rfl : args = #[v0, v1] := by cases args; simp_all
  obtain ⟨rfl, rfl⟩ := trodVars_none hV
  have hB : bulkAll ([d0, d1] ++ []) ≤ 1048576 := of_decide_eq_true hk
  simp only [List.append_nil, bulkAll, Rows.uptoBulkAll] at hB
  obtain ⟨a0, cs0, rfl, hs0, hG0, k0⟩ := arg_st O35 Try.underlying35 (hval 0 35 v0 rfl rfl) h0
  obtain ⟨v0_2, rfl, hr0_2⟩ := R_api_Request hs0 hG0
  obtain ⟨a1, rfl, lo1, hi1⟩ := arg_int Try.underlying52 (hval 1 52 v1 rfl rfl) h1
  have hlaw : provisolaw24_TalkBack a0 a1 = some true := lawX a0 a1 (O35.mono (by simp only [bulk]; omega) k0) ⟨lo1, hi1⟩
  refine (provisolaw24_TalkBack_c hr0_2 hlaw).mono fun e W' ⟨v, he, hv, hs⟩ => ?_
  exact ⟨_, by rw [he, hv], post_true row_kids row_full (by rw [Try.params7]; decide) rfl rfl Try.underlying4 hW' rfl hs.fm⟩
set_option maxRecDepth 100000 in
theorem lifted (os : Os) (started : os.Started) (H : Type) (enc : TypeId × Value → H) (F : Stop.Interp) :
    ReturnsInHanded {} Try.checked os 7 .any ((Rows.OpenSpec.upto Rows.talkBackSpec).pre6 enc Try.prog Try.f7 Rows.talkBackUptoRow.domain false) (((Rows.OpenSpec.upto Rows.talkBackSpec).at F).post enc Try.prog Try.f7 false true false false) := by
  refine returnsInHanded_of_cond (C := Try.checked) (s := Rows.OpenSpec.upto Rows.talkBackSpec) (k := Rows.uptoSmall) rfl own started (by kernel_rfl) Try.func7
    (OpenSpec.witness (enc := enc) (C := Try.checked) (s := Rows.OpenSpec.upto Rows.talkBackSpec) (k := Rows.uptoSmall) rfl false ⟨#[], #[.agg #[.int .i64 0, .int .i64 0, .slice none 0 0], .int .u64 0], []⟩ 8 (by kernel_rfl) (by kernel_rfl) (by kernel_rfl)
      (x := ([.agg [.lit (.int .i64 0), .lit (.int .i64 0), .nil], .lit (.int .u64 0)], [], [])) (by kernel_rfl) rfl (by kernel_rfl)) ?_
  intro W base args ds gs before hval hW _ hk _
  exact contract H enc W base args ds gs before hval hW hk
theorem over : Rows.talkBackUptoRow.holds Try.pinned (Rows.OpenSpec.upto Rows.talkBackSpec) :=
  OpenClaim.holds_of_cond 7 Try.f7 rfl rfl rfl rfl rfl rfl rfl ⟨rfl, rfl, rfl, rfl, rfl⟩ rfl rfl rfl rfl rfl (by kernel_rfl) Try.func7 (by kernel_rfl)
    (of_decide_eq_true (by kernel_rfl)) (by unfold Func.isWrapper; first | (rw [if_pos (by decide +kernel)]; kernel_rfl) | (rw [if_neg (by decide +kernel)]; exact ⟨rfl, rfl⟩))
    (fun os started H enc _ F => lifted os started H enc F)
theorem proved : Rows.TalkBackUptoSaid := over
end Go.Proofs.Ytpcdphfneidalaa.rowTalkBack
namespace Go.Proofs.Ytpcdphfneidalaa
theorem TalkBack_holds : Rows.TalkBackUptoSaid := rowTalkBack.proved
end Go.Proofs.Ytpcdphfneidalaa
