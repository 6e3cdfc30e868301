/- the bounds of what a function calls lie below its own: the call answers true and leaves what it was handed as it was; of arguments that are of bulk at most 1048576 together. -/
import Derived.Test.YtfcpkcehecmcpaaGreatKBg
set_option linter.unusedVariables false
set_option linter.unusedSimpArgs false
namespace Go.Proofs.YtfcpkcehecmcpaaGreat.rowBoundBelow
open Go Go.RowKit Go.Pv Go.ChangeShapes Go.WideShapes Go.ChangeAt Go.Proofs.YtfcpkcehecmcpaaGreat
theorem own : ownKnob Tryz.prog.godebug = none := by kernel_rfl
theorem row_kids : Kids Tryz.prog (· < Tryz.prog.types.size) := kids_rows (by kernel_rfl) (by kernel_rfl)
theorem row_full : ∀ t e, t < Tryz.prog.types.size → Tryz.prog.underlying t = some (.slice e) → 0 < Tryz.prog.cellsOf e := slices_full_of Tryz.prog (by kernel_rfl)
theorem c9 : Tryz.prog.cellsOf 9 = 1 := by kernel_rfl
theorem c3 : Tryz.prog.cellsOf 3 = 1 := by kernel_rfl
theorem c48 : Tryz.prog.cellsOf 48 = 1 := by kernel_rfl
theorem st106 : Wg Tryz.prog 106 [9, 48] = true := by kernel_rfl
theorem c106 : Tryz.prog.cellsOf 106 = 2 := by kernel_rfl
theorem c101 : Tryz.prog.cellsOf 101 = 1 := by kernel_rfl
theorem st103 : Wg Tryz.prog 103 [9, 3, 101] = true := by kernel_rfl
theorem c103 : Tryz.prog.cellsOf 103 = 3 := by kernel_rfl
theorem c22 : Tryz.prog.cellsOf 22 = 1 := by kernel_rfl
theorem c47 : Tryz.prog.cellsOf 47 = 1 := by kernel_rfl
theorem st50 : Wg Tryz.prog 50 [47, 48] = true := by kernel_rfl
theorem c50 : Tryz.prog.cellsOf 50 = 2 := by kernel_rfl
theorem c5 : Tryz.prog.cellsOf 5 = 1 := by kernel_rfl
theorem c42 : Tryz.prog.cellsOf 42 = 1 := by kernel_rfl
theorem st52 : Wg Tryz.prog 52 [9, 50, 3, 42] = true := by kernel_rfl
theorem c52 : Tryz.prog.cellsOf 52 = 5 := by kernel_rfl
theorem c23 : Tryz.prog.cellsOf 23 = 1 := by kernel_rfl
theorem c24 : Tryz.prog.cellsOf 24 = 1 := by kernel_rfl
theorem st26 : Wg Tryz.prog 26 [9, 22, 23, 24] = true := by kernel_rfl
theorem c26 : Tryz.prog.cellsOf 26 = 4 := by kernel_rfl
theorem O106 : EM Tryz.prog Dp 106 (okF JR (I7 OZ Mr)) := EM.struct (Ja.cons (EM.str Tryz.underlying9 c9) (Ja.one (EM.u8 Tryz.underlying48 c48))) st106 c106 JR (fun y => (⟨y.1, y.2⟩ : B1)) (fun _ => rfl)
theorem O103 : EM Tryz.prog AL 103 (okF JV (I7 OZ (I7 (Wx .i64) (My (okF JR (I7 OZ Mr)))))) := EM.struct (Ja.cons (EM.str Tryz.underlying9 c9) (Ja.cons (EM.int Tryz.underlying3 c3) (Ja.one (EM.slice O106 Tryz.underlying101 c101 rfl)))) st103 c103 JV (fun y => (⟨y.1, y.2.1, y.2.2⟩ : A9)) (fun _ => rfl)
theorem O50 : EM Tryz.prog Bs 50 (okF IR (I7 (My Mr) Mr)) := EM.struct (Ja.cons (EM.slice (EM.u8 Tryz.underlying48 c48) Tryz.underlying47 c47 rfl) (Ja.one (EM.u8 Tryz.underlying48 c48))) st50 c50 IR (fun y => (⟨y.1, y.2⟩ : Bq)) (fun _ => rfl)
theorem O52 : EM Tryz.prog Es 52 (okF KY (I7 OZ (I7 (okF IR (I7 (My Mr) Mr)) (I7 (Wx .i64) (My Mr))))) := EM.struct (Ja.cons (EM.str Tryz.underlying9 c9) (Ja.cons O50 (Ja.cons (EM.int Tryz.underlying3 c3) (Ja.one (EM.slice (EM.u8 Tryz.underlying5 c5) Tryz.underlying42 c42 rfl))))) st52 c52 KY (fun y => (⟨y.1, y.2.1, y.2.2.1, y.2.2.2⟩ : Df)) (fun _ => rfl)
theorem O26 : EM Tryz.prog Sj 26 (okF MK (I7 OZ (I7 (My (okF JV (I7 OZ (I7 (Wx .i64) (My (okF JR (I7 OZ Mr))))))) (I7 (My (okF KY (I7 OZ (I7 (okF IR (I7 (My Mr) Mr)) (I7 (Wx .i64) (My Mr)))))) (My (My Mr)))))) := EM.struct (Ja.cons (EM.str Tryz.underlying9 c9) (Ja.cons (EM.slice O103 Tryz.underlying22 c22 rfl) (Ja.cons (EM.slice O52 Tryz.underlying23 c23 rfl) (Ja.one (EM.slice (EM.slice (EM.u8 Tryz.underlying5 c5) Tryz.underlying42 c42 rfl) Tryz.underlying24 c24 rfl))))) st26 c26 MK (fun y => (⟨y.1, y.2.1, y.2.2.1, y.2.2.2⟩ : AH)) (fun _ => rfl)
theorem lawX (a0 : AH) (a1 : Int) (k0 : okF MK (I7 OZ (I7 (My (okF JV (I7 OZ (I7 (Wx .i64) (My (okF JR (I7 OZ Mr))))))) (I7 (My (okF KY (I7 OZ (I7 (okF IR (I7 (My Mr) Mr)) (I7 (Wx .i64) (My Mr)))))) (My (My Mr))))) 1048576 a0) (k1 : Wx .u64 1048576 a1) : DT a0 a1 = some true := Vy a0 a1 k1.1 ⟨k0.2.1.1, k0.2.2.1.1, k0.2.2.2.1, fun x hx => (k0.2.1.2 x hx).2.2.1, fun x hx => ⟨(k0.2.2.1.2 x hx).2.1.1.1, (k0.2.2.1.2 x hx).2.2.2.1⟩, fun x hx => (k0.2.2.2.2 x hx).1⟩
set_option maxRecDepth 100000 in
theorem contract (H : Type) (enc : TypeId × Value → H) (W : World) (base : Nat) (args : Array Value) (ds gs : List (DataW H)) (before : List MemPlace)
    (hval : ∀ (j : Nat) t v, Tryz.f6.params[j]? = some t → args[j]? = some v → Value.okWide Tryz.prog W .any base t v)
    (hW : DataW.Whole enc Tryz.prog Tryz.f6.params.toList Rows.boundBelowSpec.vars false W args.toList ds gs before) (hk : Rows.uptoSmall H (ds ++ gs) = true) :
    Calls Tryz.prog 6 args W fun e W' => ∃ v, e = .returned v ∧ Rows.boundBelowSpec.post enc Tryz.prog Tryz.f6 false true false false W args v W' := by
  have hW' := hW
  obtain ⟨p, q, hA0, hV, rfl, hfz, hnd⟩ := hW
  have hA : DataW.TrodAll enc Tryz.prog W 0 (fun _ => true) true Tryz.f6.params.toList args.toList ds p := hA0
  rw [Tryz.params6] at hA hval
  obtain ⟨v0, vs0, d0, ds0, p0, q0, e0, rfl, rfl, h0, r0⟩ := trodAll_cons hA
  obtain ⟨v1, vs1, d1, ds1, p1, q1, e1, rfl, rfl, h1, r1⟩ := trodAll_cons r0
  subst e1
  obtain ⟨rfl, rfl, rfl⟩ := trodAll_nil r1
  obtain rfl : args = #[v0, v1] := by cases args; simp_all
  obtain ⟨rfl, rfl⟩ := trodVars_none hV
  have hB : Ge ([d0, d1] ++ []) ≤ 1048576 := of_decide_eq_true hk
  simp only [List.append_nil, Ge, Rows.uptoBulkAll] at hB
  obtain ⟨a0, cs0, rfl, hs0, hG0, k0⟩ := Ajw O26 Tryz.underlying26 (hval 0 26 v0 rfl rfl) h0
  obtain ⟨v0_1, v0_2, v0_3, rfl, hr0_1, hr0_2, hr0_3⟩ := Xz hs0 hG0
  obtain ⟨a1, rfl, lo1, hi1⟩ := Aeg hval 1 rfl rfl Tryz.underlying41 h1
  have hlaw : DT a0 a1 = some true := lawX a0 a1 (O26.mono (by simp only [bulk]; omega) k0) ⟨lo1, hi1⟩
  refine (Oj hr0_1 hr0_2 hr0_3 hlaw).mono fun e W' ⟨v, he, hv, hs⟩ => ?_
  exact ⟨_, by rw [he, hv], Acn row_kids row_full (by rw [Tryz.params6]; decide) rfl rfl Tryz.underlying4 hW' rfl hs.fm⟩
set_option maxRecDepth 100000 in
theorem lifted (os : Os) (started : os.Started) (H : Type) (enc : TypeId × Value → H) (F : Stop.Interp) :
    ReturnsInHanded {} Tryz.checked os 6 .any ((Rows.OpenSpec.upto Rows.boundBelowSpec).pre6 enc Tryz.prog Tryz.f6 Rows.boundBelowUptoRow.domain false) (((Rows.OpenSpec.upto Rows.boundBelowSpec).at F).post enc Tryz.prog Tryz.f6 false true false false) := by
  refine returnsInHanded_of_cond (C := Tryz.checked) (s := Rows.OpenSpec.upto Rows.boundBelowSpec) (k := Rows.uptoSmall) rfl own started (by kernel_rfl) Tryz.func6
    (OpenSpec.witness (enc := enc) (C := Tryz.checked) (s := Rows.OpenSpec.upto Rows.boundBelowSpec) (k := Rows.uptoSmall) rfl false ⟨#[], #[.agg #[.string ⟨⟨[]⟩⟩, .slice none 0 0, .slice none 0 0, .slice none 0 0], .int .u64 0], []⟩ 8 (by kernel_rfl) (by kernel_rfl) (by kernel_rfl)
      (x := ([.agg [.lit (.string []), .nil, .nil, .nil], .lit (.int .u64 0)], [], [])) (by kernel_rfl) rfl (by kernel_rfl)) ?_
  intro W base args ds gs before hval hW _ hk _
  exact contract H enc W base args ds gs before hval hW hk
theorem over : Rows.boundBelowUptoRow.holds Tryz.pinned (Rows.OpenSpec.upto Rows.boundBelowSpec) :=
  OpenClaim.holds_of_cond 6 Tryz.f6 rfl rfl rfl rfl rfl rfl rfl ⟨rfl, rfl, rfl, rfl, rfl⟩ rfl rfl rfl rfl rfl (by kernel_rfl) Tryz.func6 (by kernel_rfl)
    (of_decide_eq_true (by kernel_rfl)) (by unfold Func.isWrapper; first | (rw [A1 (by decide +kernel)]; kernel_rfl) | (rw [Ay (by decide +kernel)]; exact ⟨rfl, rfl⟩))
    (fun os started H enc _ F => lifted os started H enc F)
theorem proved : Rows.BoundBelowUptoSaid := over
end Go.Proofs.YtfcpkcehecmcpaaGreat.rowBoundBelow
namespace Go.Proofs.YtfcpkcehecmcpaaGreat
theorem BoundBelow_holds : Rows.BoundBelowUptoSaid := rowBoundBelow.proved
end Go.Proofs.YtfcpkcehecmcpaaGreat
