/- Of any module bound's Rings is the document's answer: the call answers true and leaves what it was handed as it was; of arguments that are of bulk at most 1048576 together. -/
import Derived.Test.YtfcpkcehecmcpaaGreatKRf
set_option linter.unusedVariables false
set_option linter.unusedSimpArgs false
namespace Go.Proofs.YtfcpkcehecmcpaaGreat.rowBoundRings
open Go Go.RowKit Go.Pv Go.ChangeShapes Go.WideShapes Go.ChangeAt Go.Proofs.YtfcpkcehecmcpaaGreat
theorem own : ownKnob Tryz.prog.godebug = none := by kernel_rfl
theorem row_kids : Kids Tryz.prog (· < Tryz.prog.types.size) := kids_rows (by kernel_rfl) (by kernel_rfl)
theorem row_full : ∀ t e, t < Tryz.prog.types.size → Tryz.prog.underlying t = some (.slice e) → 0 < Tryz.prog.cellsOf e := slices_full_of Tryz.prog (by kernel_rfl)
theorem c9 : Tryz.prog.cellsOf 9 = 1 := by kernel_rfl
theorem c3 : Tryz.prog.cellsOf 3 = 1 := by kernel_rfl
theorem c48 : Tryz.prog.cellsOf 48 = 1 := by kernel_rfl
theorem st106 : stB Tryz.prog 106 [9, 48] = true := by kernel_rfl
theorem c106 : Tryz.prog.cellsOf 106 = 2 := by kernel_rfl
theorem c101 : Tryz.prog.cellsOf 101 = 1 := by kernel_rfl
theorem st103 : stB Tryz.prog 103 [9, 3, 101] = true := by kernel_rfl
theorem c103 : Tryz.prog.cellsOf 103 = 3 := by kernel_rfl
theorem c22 : Tryz.prog.cellsOf 22 = 1 := by kernel_rfl
theorem c47 : Tryz.prog.cellsOf 47 = 1 := by kernel_rfl
theorem st50 : stB Tryz.prog 50 [47, 48] = true := by kernel_rfl
theorem c50 : Tryz.prog.cellsOf 50 = 2 := by kernel_rfl
theorem c5 : Tryz.prog.cellsOf 5 = 1 := by kernel_rfl
theorem c42 : Tryz.prog.cellsOf 42 = 1 := by kernel_rfl
theorem st52 : stB Tryz.prog 52 [9, 50, 3, 42] = true := by kernel_rfl
theorem c52 : Tryz.prog.cellsOf 52 = 5 := by kernel_rfl
theorem c23 : Tryz.prog.cellsOf 23 = 1 := by kernel_rfl
theorem c24 : Tryz.prog.cellsOf 24 = 1 := by kernel_rfl
theorem st26 : stB Tryz.prog 26 [9, 22, 23, 24] = true := by kernel_rfl
theorem c26 : Tryz.prog.cellsOf 26 = 4 := by kernel_rfl
theorem O106 : Opn Tryz.prog AG5 106 (okF AXk (okP okS okT)) := Opn.struct (AV5.cons (Opn.str Tryz.underlying9 c9) (AV5.one (Opn.u8 Tryz.underlying48 c48))) st106 c106 AXk (fun y => (⟨y.1, y.2⟩ : Ar2)) (fun _ => rfl)
theorem O103 : Opn Tryz.prog Aef 103 (okF AV8 (okP okS (okP (okI .i64) (okL (okF AXk (okP okS okT)))))) := Opn.struct (AV5.cons (Opn.str Tryz.underlying9 c9) (AV5.cons (Opn.int Tryz.underlying3 c3) (AV5.one (Opn.slice O106 Tryz.underlying101 c101 rfl)))) st103 c103 AV8 (fun y => (⟨y.1, y.2.1, y.2.2⟩ : Abi)) (fun _ => rfl)
theorem O50 : Opn Tryz.prog Ate 50 (okF ARp (okP (okL okT) okT)) := Opn.struct (AV5.cons (Opn.slice (Opn.u8 Tryz.underlying48 c48) Tryz.underlying47 c47 rfl) (AV5.one (Opn.u8 Tryz.underlying48 c48))) st50 c50 ARp (fun y => (⟨y.1, y.2⟩ : Am7)) (fun _ => rfl)
theorem O52 : Opn Tryz.prog AAt 52 (okF AXa (okP okS (okP (okF ARp (okP (okL okT) okT)) (okP (okI .i64) (okL okT))))) := Opn.struct (AV5.cons (Opn.str Tryz.underlying9 c9) (AV5.cons O50 (AV5.cons (Opn.int Tryz.underlying3 c3) (AV5.one (Opn.slice (Opn.u8 Tryz.underlying5 c5) Tryz.underlying42 c42 rfl))))) st52 c52 AXa (fun y => (⟨y.1, y.2.1, y.2.2.1, y.2.2.2⟩ : A7z)) (fun _ => rfl)
theorem O26 : Opn Tryz.prog Bhy 26 (okF Bar (okP okS (okP (okL (okF AV8 (okP okS (okP (okI .i64) (okL (okF AXk (okP okS okT))))))) (okP (okL (okF AXa (okP okS (okP (okF ARp (okP (okL okT) okT)) (okP (okI .i64) (okL okT)))))) (okL (okL okT)))))) := Opn.struct (AV5.cons (Opn.str Tryz.underlying9 c9) (AV5.cons (Opn.slice O103 Tryz.underlying22 c22 rfl) (AV5.cons (Opn.slice O52 Tryz.underlying23 c23 rfl) (AV5.one (Opn.slice (Opn.slice (Opn.u8 Tryz.underlying5 c5) Tryz.underlying42 c42 rfl) Tryz.underlying24 c24 rfl))))) st26 c26 Bar (fun y => (⟨y.1, y.2.1, y.2.2.1, y.2.2.2⟩ : Aha)) (fun _ => rfl)
theorem lawX (a0 : Aha) (k0 : okF Bar (okP okS (okP (okL (okF AV8 (okP okS (okP (okI .i64) (okL (okF AXk (okP okS okT))))))) (okP (okL (okF AXa (okP okS (okP (okF ARp (okP (okL okT) okT)) (okP (okI .i64) (okL okT)))))) (okL (okL okT))))) 1048576 a0) : APy a0 = some true := Bmv a0 ⟨k0.2.1.1, k0.2.2.1.1, k0.2.2.2.1, fun x hx => (k0.2.1.2 x hx).2.2.1, fun x hx => ⟨(k0.2.2.1.2 x hx).2.1.1.1, (k0.2.2.1.2 x hx).2.2.2.1⟩, fun x hx => (k0.2.2.2.2 x hx).1⟩
set_option maxRecDepth 100000 in
theorem contract (H : Type) (enc : TypeId × Value → H) (W : World) (base : Nat) (args : Array Value) (ds gs : List (DataW H)) (before : List MemPlace)
    (hval : ∀ (j : Nat) t v, Tryz.f3.params[j]? = some t → args[j]? = some v → Value.okWide Tryz.prog W .any base t v)
    (hW : DataW.Whole enc Tryz.prog Tryz.f3.params.toList Rows.boundRingsSpec.vars false W args.toList ds gs before) (hk : Rows.uptoSmall H (ds ++ gs) = true) :
    Calls Tryz.prog 3 args W fun e W' => ∃ v, e = .returned v ∧ Rows.boundRingsSpec.post enc Tryz.prog Tryz.f3 false true false false W args v W' := by
  have hW' := hW
  obtain ⟨p, q, hA0, hV, rfl, hfz, hnd⟩ := hW
  have hA : DataW.TrodAll enc Tryz.prog W 0 (fun _ => true) true Tryz.f3.params.toList args.toList ds p := hA0
  rw [Tryz.params3] at hA hval
  obtain ⟨v0, vs0, d0, ds0, p0, q0, e0, rfl, rfl, h0, r0⟩ := trodAll_cons hA
  obtain ⟨rfl, rfl, rfl⟩ := trodAll_nil r0
  obtain rfl : args = #[v0] := by cases args; simp_all
  obtain ⟨rfl, rfl⟩ := trodVars_none hV
  have hB : AS8 ([d0] ++ []) ≤ 1048576 := of_decide_eq_true hk
  simp only [List.append_nil, AS8, Rows.uptoBulkAll] at hB
  obtain ⟨a0, cs0, rfl, hs0, hG0, k0⟩ := B0u O26 Tryz.underlying26 (hval 0 26 v0 rfl rfl) h0
  obtain ⟨v0_1, v0_2, v0_3, rfl, hr0_1, hr0_2, hr0_3⟩ := Bpo hs0 hG0
  have hlaw : APy a0 = some true := lawX a0 (O26.mono (by simp only [bulk]; omega) k0)
  refine (Bc3 hr0_1 hr0_2 hr0_3 hlaw).mono fun e W' ⟨v, he, hv, hs⟩ => ?_
  exact ⟨_, by rw [he, hv], Buo row_kids row_full (by rw [Tryz.params3]; decide) rfl rfl Tryz.underlying4 hW' rfl hs.fm⟩
set_option maxRecDepth 100000 in
theorem lifted (os : Os) (started : os.Started) (H : Type) (enc : TypeId × Value → H) (F : Stop.Interp) :
    ReturnsInHanded {} Tryz.checked os 3 .any ((Rows.OpenSpec.upto Rows.boundRingsSpec).pre6 enc Tryz.prog Tryz.f3 Rows.boundRingsUptoRow.domain false) (((Rows.OpenSpec.upto Rows.boundRingsSpec).at F).post enc Tryz.prog Tryz.f3 false true false false) := by
  refine returnsInHanded_of_cond (C := Tryz.checked) (s := Rows.OpenSpec.upto Rows.boundRingsSpec) (k := Rows.uptoSmall) rfl own started (by kernel_rfl) Tryz.func3
    (OpenSpec.witness (enc := enc) (C := Tryz.checked) (s := Rows.OpenSpec.upto Rows.boundRingsSpec) (k := Rows.uptoSmall) rfl false ⟨#[], #[.agg #[.string ⟨⟨[]⟩⟩, .slice none 0 0, .slice none 0 0, .slice none 0 0]], []⟩ 8 (by kernel_rfl) (by kernel_rfl) (by kernel_rfl)
      (x := ([.agg [.lit (.string []), .nil, .nil, .nil]], [], [])) (by kernel_rfl) rfl (by kernel_rfl)) ?_
  intro W base args ds gs before hval hW _ hk _
  exact contract H enc W base args ds gs before hval hW hk
theorem over : Rows.boundRingsUptoRow.holds Tryz.pinned (Rows.OpenSpec.upto Rows.boundRingsSpec) :=
  OpenClaim.holds_of_cond 3 Tryz.f3 rfl rfl rfl rfl rfl rfl rfl ⟨rfl, rfl, rfl, rfl, rfl⟩ rfl rfl rfl rfl rfl (by kernel_rfl) Tryz.func3 (by kernel_rfl)
    (of_decide_eq_true (by kernel_rfl)) (by unfold Func.isWrapper; first | (rw [Mo (by decide +kernel)]; kernel_rfl) | (rw [Hw (by decide +kernel)]; exact ⟨rfl, rfl⟩))
    (fun os started H enc _ F => lifted os started H enc F)
theorem proved : Rows.BoundRingsUptoSaid := over
end Go.Proofs.YtfcpkcehecmcpaaGreat.rowBoundRings
namespace Go.Proofs.YtfcpkcehecmcpaaGreat
theorem BoundRings_holds : Rows.BoundRingsUptoSaid := rowBoundRings.proved
end Go.Proofs.YtfcpkcehecmcpaaGreat
