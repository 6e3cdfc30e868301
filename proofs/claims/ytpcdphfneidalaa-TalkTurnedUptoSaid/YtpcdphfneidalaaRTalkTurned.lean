/- TalkTurned: a frame with one byte that is another one is refused, and so is each beginning, and what has more behind: the call answers true and leaves what it was handed as it was; of arguments that are of bulk at most 1048576 together. -/
import Derived.Test.YtpcdphfneidalaaPvj
import Derived.Test.YtpcdphfneidalaaLwf
import Derived.Test.YtpcdphfneidalaaC6
set_option linter.unusedVariables false
set_option linter.unusedSimpArgs false
namespace Go.Proofs.Ytpcdphfneidalaa.rowTalkTurned
open Go Go.RowKit Go.Pv Go.ChangeShapes Go.WideShapes Go.ChangeAt Go.Proofs.Ytpcdphfneidalaa
theorem own : ownKnob Try.prog.godebug = none := by kernel_rfl
theorem row_kids : Kids Try.prog (· < Try.prog.types.size) := kids_rows (by kernel_rfl) (by kernel_rfl)
theorem row_full : ∀ t e, t < Try.prog.types.size → Try.prog.underlying t = some (.slice e) → 0 < Try.prog.cellsOf e := slices_full_of Try.prog (by kernel_rfl)
theorem c3 : Try.prog.cellsOf 3 = 1 := by kernel_rfl
theorem c5 : Try.prog.cellsOf 5 = 1 := by kernel_rfl
theorem c22 : Try.prog.cellsOf 22 = 1 := by kernel_rfl
theorem st35 : stB Try.prog 35 [3, 3, 22] = true := by kernel_rfl
theorem c35 : Try.prog.cellsOf 35 = 3 := by kernel_rfl
theorem O35 : Opn Try.prog T_api_Request 35 (okF t_api_Request (okP (okI .i64) (okP (okI .i64) (okL okT)))) := Opn.struct (OpnF.cons (Opn.int Try.underlying3 c3) (OpnF.cons (Opn.int Try.underlying3 c3) (OpnF.one (Opn.slice (Opn.u8 Try.underlying5 c5) Try.underlying22 c22 rfl)))) st35 c35 t_api_Request (fun y => (⟨y.1, y.2.1, y.2.2⟩ : S_api_Request)) (fun _ => rfl)
theorem lawX (a0 : S_api_Request) (a1 : Int) (a2 : UInt8) (a3 : List UInt8) (k0 : okF t_api_Request (okP (okI .i64) (okP (okI .i64) (okL okT))) 1048576 a0) (k1 : okI .u64 1048576 a1) (k3 : okL okT 1048576 a3) : provisolaw24_TalkTurned a0 a1 a2 a3 = some true := TalkTurned_law a0 a1 a2 a3 k1.1 (by have := k3.1; omega)
theorem contract (H : Type) (enc : TypeId × Value → H) (W : World) (base : Nat) (args : Array Value) (ds gs : List (DataW H)) (before : List MemPlace)
    (hval : ∀ (j : Nat) t v, Try.f6.params[j]? = some t → args[j]? = some v → Value.okWide Try.prog W .any base t v)
    (hW : DataW.Whole enc Try.prog Try.f6.params.toList Rows.talkTurnedSpec.vars false W args.toList ds gs before) (hk : Rows.uptoSmall H (ds ++ gs) = true) :
    Calls Try.prog 6 args W fun e W' => ∃ v, e = .returned v ∧ Rows.talkTurnedSpec.post enc Try.prog Try.f6 false true false false W args v W' := by
  have hW' := hW
  obtain ⟨p, q, hA0, hV, rfl, hfz, hnd⟩ := hW
  have hA : DataW.TrodAll enc Try.prog W 0 (fun _ => true) true Try.f6.params.toList args.toList ds p := hA0
  rw [Try.params6] at hA hval
  obtain ⟨v0, vs0, d0, ds0, p0, q0, e0, rfl, rfl, h0, r0⟩ := trodAll_cons hA
  obtain ⟨v1, vs1, d1, ds1, p1, q1, e1, rfl, rfl, h1, r1⟩ := trodAll_cons r0
  subst e1
  obtain ⟨v2, vs2, d2, ds2, p2, q2, e2, rfl, rfl, h2, r2⟩ := trodAll_cons r1
  subst e2
  obtain ⟨v3, vs3, d3, ds3, p3, q3, e3, rfl, rfl, h3, r3⟩ := trodAll_cons r2
  subst e3
  obtain ⟨rfl, rfl, rfl⟩ := trodAll_nil r3
  obtain rfl : args = #[v0, v1, v2, v3] := by cases args; simp_all
  obtain ⟨rfl, rfl⟩ := trodVars_none hV
  have hB : bulkAll ([d0, d1, d2, d3] ++ []) ≤ 1048576 := of_decide_eq_true hk
  simp only [List.append_nil, bulkAll, Rows.uptoBulkAll] at hB
  obtain ⟨a0, cs0, rfl, hs0, hG0, k0⟩ := arg_st O35 Try.underlying35 (hval 0 35 v0 rfl rfl) h0
  obtain ⟨v0_2, rfl, hr0_2⟩ := R_api_Request hs0 hG0
  obtain ⟨a1, rfl, lo1, hi1⟩ := arg_int Try.underlying52 (hval 1 52 v1 rfl rfl) h1
  obtain ⟨a2, rfl⟩ := arg_u8 Try.underlying5 (hval 2 5 v2 rfl rfl) h2
  obtain ⟨a3, hr3, k3⟩ := arg_sl (Opn.slice (Opn.u8 Try.underlying5 c5) Try.underlying22 c22 rfl) Try.underlying22 (hval 3 22 v3 rfl rfl) h3
  have hlaw : provisolaw24_TalkTurned a0 a1 a2 a3 = some true := lawX a0 a1 a2 a3 (O35.mono (by simp only [bulk]; omega) k0) ⟨lo1, hi1⟩ (((Opn.slice (Opn.u8 Try.underlying5 c5) Try.underlying22 c22 rfl)).mono (by simp only [bulk]; omega) k3)
  refine (provisolaw24_TalkTurned_c hr0_2 hr3 hlaw).mono fun e W' ⟨v, he, hv, hs⟩ => ?_
  exact ⟨_, by rw [he, hv], post_true row_kids row_full (by rw [Try.params6]; decide) rfl rfl Try.underlying4 hW' rfl hs.fm⟩
set_option maxRecDepth 100000 in
theorem lifted (os : Os) (started : os.Started) (H : Type) (enc : TypeId × Value → H) (F : Stop.Interp) :
    ReturnsInHanded {} Try.checked os 6 .any ((Rows.OpenSpec.upto Rows.talkTurnedSpec).pre6 enc Try.prog Try.f6 Rows.talkTurnedUptoRow.domain false) (((Rows.OpenSpec.upto Rows.talkTurnedSpec).at F).post enc Try.prog Try.f6 false true false false) := by
  refine returnsInHanded_of_cond (C := Try.checked) (s := Rows.OpenSpec.upto Rows.talkTurnedSpec) (k := Rows.uptoSmall) rfl own started (by kernel_rfl) Try.func6
    (OpenSpec.witness (enc := enc) (C := Try.checked) (s := Rows.OpenSpec.upto Rows.talkTurnedSpec) (k := Rows.uptoSmall) rfl false ⟨#[], #[.agg #[.int .i64 0, .int .i64 0, .slice none 0 0], .int .u64 0, .int .u8 0, .slice none 0 0], []⟩ 8 (by kernel_rfl) (by kernel_rfl) (by kernel_rfl)
      (x := ([.agg [.lit (.int .i64 0), .lit (.int .i64 0), .nil], .lit (.int .u64 0), .lit (.int .u8 0), .nil], [], [])) (by kernel_rfl) rfl (by kernel_rfl)) ?_
  intro W base args ds gs before hval hW _ hk _
  exact contract H enc W base args ds gs before hval hW hk
theorem over : Rows.talkTurnedUptoRow.holds Try.pinned (Rows.OpenSpec.upto Rows.talkTurnedSpec) :=
  OpenClaim.holds_of_cond 6 Try.f6 rfl rfl rfl rfl rfl rfl rfl ⟨rfl, rfl, rfl, rfl, rfl⟩ rfl rfl rfl rfl rfl (by kernel_rfl) Try.func6 (by kernel_rfl)
    (of_decide_eq_true (by kernel_rfl)) (by unfold Func.isWrapper; first | (rw [if_pos (by decide +kernel)]; kernel_rfl) | (rw [if_neg (by decide +kernel)]; exact ⟨rfl, rfl⟩))
    (fun os started H enc _ F => lifted os started H enc F)
theorem proved : Rows.TalkTurnedUptoSaid := over
end Go.Proofs.Ytpcdphfneidalaa.rowTalkTurned
namespace Go.Proofs.Ytpcdphfneidalaa
theorem TalkTurned_holds : Rows.TalkTurnedUptoSaid := rowTalkTurned.proved
end Go.Proofs.Ytpcdphfneidalaa
