/- a machine run in two pieces stands where a machine run in one piece stands: the call answers true and leaves what it was handed as it was; of arguments that are of bulk at most 1048576 together. -/
import Derived.Test.YtpnacdckamiedaaGreatMPd
set_option linter.unusedVariables false
set_option linter.unusedSimpArgs false
namespace Go.Proofs.YtpnacdckamiedaaGreat.rowMachineParts
open Go Go.RowKit Go.Pv Go.ChangeShapes Go.WideShapes Go.ChangeAt Go.Proofs.YtpnacdckamiedaaGreat
theorem own : ownKnob Tryz.prog.godebug = none := by kernel_rfl
theorem row_kids : Kids Tryz.prog (· < Tryz.prog.types.size) := kids_rows (by kernel_rfl) (by kernel_rfl)
theorem row_full : ∀ t e, t < Tryz.prog.types.size → Tryz.prog.underlying t = some (.slice e) → 0 < Tryz.prog.cellsOf e := slices_full_of Tryz.prog (by kernel_rfl)
theorem c9 : Tryz.prog.cellsOf 9 = 1 := by kernel_rfl
theorem c3 : Tryz.prog.cellsOf 3 = 1 := by kernel_rfl
theorem c64 : Tryz.prog.cellsOf 64 = 1 := by kernel_rfl
theorem st112 : MW Tryz.prog 112 [9, 64] = true := by kernel_rfl
theorem c112 : Tryz.prog.cellsOf 112 = 2 := by kernel_rfl
theorem c107 : Tryz.prog.cellsOf 107 = 1 := by kernel_rfl
theorem st109 : MW Tryz.prog 109 [9, 3, 107] = true := by kernel_rfl
theorem c109 : Tryz.prog.cellsOf 109 = 3 := by kernel_rfl
theorem c22 : Tryz.prog.cellsOf 22 = 1 := by kernel_rfl
theorem c63 : Tryz.prog.cellsOf 63 = 1 := by kernel_rfl
theorem st66 : MW Tryz.prog 66 [63, 64] = true := by kernel_rfl
theorem c66 : Tryz.prog.cellsOf 66 = 2 := by kernel_rfl
theorem c5 : Tryz.prog.cellsOf 5 = 1 := by kernel_rfl
theorem c67 : Tryz.prog.cellsOf 67 = 1 := by kernel_rfl
theorem st69 : MW Tryz.prog 69 [9, 66, 3, 67] = true := by kernel_rfl
theorem c69 : Tryz.prog.cellsOf 69 = 5 := by kernel_rfl
theorem c23 : Tryz.prog.cellsOf 23 = 1 := by kernel_rfl
theorem c24 : Tryz.prog.cellsOf 24 = 1 := by kernel_rfl
theorem st26 : MW Tryz.prog 26 [9, 22, 23, 24] = true := by kernel_rfl
theorem c26 : Tryz.prog.cellsOf 26 = 4 := by kernel_rfl
theorem c27 : Tryz.prog.cellsOf 27 = 1 := by kernel_rfl
theorem st29 : MW Tryz.prog 29 [3, 27, 3, 3] = true := by kernel_rfl
theorem c29 : Tryz.prog.cellsOf 29 = 4 := by kernel_rfl
theorem O112 : Cr Tryz.prog AW 112 (okF Gk (DX JH HZ)) := Cr.struct (Em.cons (Cr.str Tryz.underlying9 c9) (Em.one (Cr.u8 Tryz.underlying64 c64))) st112 c112 Gk (fun y => (⟨y.1, y.2⟩ : Av)) (fun _ => rfl)
theorem O109 : Cr Tryz.prog Ag 109 (okF D2 (DX JH (DX (ID .i64) (GZ (okF Gk (DX JH HZ)))))) := Cr.struct (Em.cons (Cr.str Tryz.underlying9 c9) (Em.cons (Cr.int Tryz.underlying3 c3) (Em.one (Cr.slice O112 Tryz.underlying107 c107 rfl)))) st109 c109 D2 (fun y => (⟨y.1, y.2.1, y.2.2⟩ : Ad)) (fun _ => rfl)
theorem O66 : Cr Tryz.prog Bv 66 (okF CV (DX (GZ HZ) HZ)) := Cr.struct (Em.cons (Cr.slice (Cr.u8 Tryz.underlying64 c64) Tryz.underlying63 c63 rfl) (Em.one (Cr.u8 Tryz.underlying64 c64))) st66 c66 CV (fun y => (⟨y.1, y.2⟩ : Am)) (fun _ => rfl)
theorem O69 : Cr Tryz.prog As 69 (okF ES (DX JH (DX (okF CV (DX (GZ HZ) HZ)) (DX (ID .i64) (GZ HZ))))) := Cr.struct (Em.cons (Cr.str Tryz.underlying9 c9) (Em.cons O66 (Em.cons (Cr.int Tryz.underlying3 c3) (Em.one (Cr.slice (Cr.u8 Tryz.underlying5 c5) Tryz.underlying67 c67 rfl))))) st69 c69 ES (fun y => (⟨y.1, y.2.1, y.2.2.1, y.2.2.2⟩ : A3)) (fun _ => rfl)
theorem O26 : Cr Tryz.prog Ll 26 (okF HS (DX JH (DX (GZ (okF D2 (DX JH (DX (ID .i64) (GZ (okF Gk (DX JH HZ))))))) (DX (GZ (okF ES (DX JH (DX (okF CV (DX (GZ HZ) HZ)) (DX (ID .i64) (GZ HZ)))))) (GZ (GZ HZ)))))) := Cr.struct (Em.cons (Cr.str Tryz.underlying9 c9) (Em.cons (Cr.slice O109 Tryz.underlying22 c22 rfl) (Em.cons (Cr.slice O69 Tryz.underlying23 c23 rfl) (Em.one (Cr.slice (Cr.slice (Cr.u8 Tryz.underlying5 c5) Tryz.underlying67 c67 rfl) Tryz.underlying24 c24 rfl))))) st26 c26 HS (fun y => (⟨y.1, y.2.1, y.2.2.1, y.2.2.2⟩ : Ah)) (fun _ => rfl)
theorem O29 : Cr Tryz.prog Il 29 (okF EE (DX (ID .i64) (DX (GZ (ID .i64)) (DX (ID .i64) (ID .i64))))) := Cr.struct (Em.cons (Cr.int Tryz.underlying3 c3) (Em.cons (Cr.slice (Cr.int Tryz.underlying3 c3) Tryz.underlying27 c27 rfl) (Em.cons (Cr.int Tryz.underlying3 c3) (Em.one (Cr.int Tryz.underlying3 c3))))) st29 c29 EE (fun y => (⟨y.1, y.2.1, y.2.2.1, y.2.2.2⟩ : BJ)) (fun _ => rfl)
theorem lawX (a0 : Ah) (a1 : BJ) (a2 : Int) (a3 : Int) (k0 : okF HS (DX JH (DX (GZ (okF D2 (DX JH (DX (ID .i64) (GZ (okF Gk (DX JH HZ))))))) (DX (GZ (okF ES (DX JH (DX (okF CV (DX (GZ HZ) HZ)) (DX (ID .i64) (GZ HZ)))))) (GZ (GZ HZ))))) 1048576 a0) (k1 : okF EE (DX (ID .i64) (DX (GZ (ID .i64)) (DX (ID .i64) (ID .i64)))) 1048576 a1) (k2 : ID .i64 1048576 a2) (k3 : ID .i64 1048576 a3) : BZ a0 a1 a2 a3 = some true := MJ a0 a1 a2 a3 ⟨k0.2.1.1, k0.2.2.1.1, k0.2.2.2.1, fun x hx => (k0.2.1.2 x hx).2.2.1, fun x hx => ⟨(k0.2.2.1.2 x hx).2.1.1.1, (k0.2.2.1.2 x hx).2.2.2.1⟩, fun x hx => (k0.2.2.2.2 x hx).1⟩ k1.2.1.1
set_option maxRecDepth 100000 in
theorem contract (H : Type) (enc : TypeId × Value → H) (W : World) (base : Nat) (args : Array Value) (ds gs : List (DataW H)) (before : List MemPlace)
    (hval : ∀ (j : Nat) t v, Tryz.f5.params[j]? = some t → args[j]? = some v → Value.okWide Tryz.prog W .any base t v)
    (hW : DataW.Whole enc Tryz.prog Tryz.f5.params.toList Rows.machinePartsSpec.vars false W args.toList ds gs before) (hk : Rows.uptoSmall H (ds ++ gs) = true) :
    Calls Tryz.prog 5 args W fun e W' => ∃ v, e = .returned v ∧ Rows.machinePartsSpec.post enc Tryz.prog Tryz.f5 false true false false W args v W' := by
  have hW' := hW
  obtain ⟨p, q, hA0, hV, rfl, hfz, hnd⟩ := hW
  have hA : DataW.TrodAll enc Tryz.prog W 0 (fun _ => true) true Tryz.f5.params.toList args.toList ds p := hA0
  rw [Tryz.params5] at hA hval
  obtain ⟨v0, vs0, d0, ds0, p0, q0, e0, rfl, rfl, h0, r0⟩ := trodAll_cons hA
  obtain ⟨v1, vs1, d1, ds1, p1, q1, e1, rfl, rfl, h1, r1⟩ := trodAll_cons r0
  subst e1
  obtain ⟨v2, vs2, d2, ds2, p2, q2, e2, rfl, rfl, h2, r2⟩ := trodAll_cons r1
  subst e2
  obtain ⟨v3, vs3, d3, ds3, p3, q3, e3, rfl, rfl, h3, r3⟩ := trodAll_cons r2
  subst e3
  obtain ⟨rfl, rfl, rfl⟩ := trodAll_nil r3
  obtain rfl : args = #[v0, v1, v2, v3] := by cases args; simp_all
  obtain ⟨rfl, rfl⟩ := trodVars_none hV
  have hB : DU ([d0, d1, d2, d3] ++ []) ≤ 1048576 := of_decide_eq_true hk
  simp only [List.append_nil, DU, Rows.uptoBulkAll] at hB
  obtain ⟨a0, cs0, rfl, hs0, hG0, k0⟩ := Su O26 Tryz.underlying26 (hval 0 26 v0 rfl rfl) h0
  obtain ⟨v0_1, v0_2, v0_3, rfl, hr0_1, hr0_2, hr0_3⟩ := Pm hs0 hG0
  obtain ⟨a1, cs1, rfl, hs1, hG1, k1⟩ := Su O29 Tryz.underlying29 (hval 1 29 v1 rfl rfl) h1
  obtain ⟨v1_1, rfl, hr1_1⟩ := KU hs1 hG1
  obtain ⟨a2, rfl, lo2, hi2⟩ := P2 hval 2 rfl rfl Tryz.underlying3 h2
  obtain ⟨a3, rfl, lo3, hi3⟩ := P2 hval 3 rfl rfl Tryz.underlying3 h3
  have hlaw : BZ a0 a1 a2 a3 = some true := lawX a0 a1 a2 a3 (O26.mono (by simp only [bulk]; omega) k0) (O29.mono (by simp only [bulk]; omega) k1) ⟨lo2, hi2⟩ ⟨lo3, hi3⟩
  refine (II hr0_1 hr0_2 hr0_3 hr1_1 hlaw).mono fun e W' ⟨v, he, hv, hs⟩ => ?_
  exact ⟨_, by rw [he, hv], SQ row_kids row_full (by rw [Tryz.params5]; decide) rfl rfl Tryz.underlying4 hW' rfl hs.fm⟩
set_option maxRecDepth 100000 in
theorem lifted (os : Os) (started : os.Started) (H : Type) (enc : TypeId × Value → H) (F : Stop.Interp) :
    ReturnsInHanded {} Tryz.checked os 5 .any ((Rows.OpenSpec.upto Rows.machinePartsSpec).pre6 enc Tryz.prog Tryz.f5 Rows.machinePartsUptoRow.domain false) (((Rows.OpenSpec.upto Rows.machinePartsSpec).at F).post enc Tryz.prog Tryz.f5 false true false false) := by
  refine returnsInHanded_of_cond (C := Tryz.checked) (s := Rows.OpenSpec.upto Rows.machinePartsSpec) (k := Rows.uptoSmall) rfl own started (by kernel_rfl) Tryz.func5
    (OpenSpec.witness (enc := enc) (C := Tryz.checked) (s := Rows.OpenSpec.upto Rows.machinePartsSpec) (k := Rows.uptoSmall) rfl false ⟨#[], #[.agg #[.string ⟨⟨[]⟩⟩, .slice none 0 0, .slice none 0 0, .slice none 0 0], .agg #[.int .i64 0, .slice none 0 0, .int .i64 0, .int .i64 0], .int .i64 0, .int .i64 0], []⟩ 8 (by kernel_rfl) (by kernel_rfl) (by kernel_rfl)
      (x := ([.agg [.lit (.string []), .nil, .nil, .nil], .agg [.lit (.int .i64 0), .nil, .lit (.int .i64 0), .lit (.int .i64 0)], .lit (.int .i64 0), .lit (.int .i64 0)], [], [])) (by kernel_rfl) rfl (by kernel_rfl)) ?_
  intro W base args ds gs before hval hW _ hk _
  exact contract H enc W base args ds gs before hval hW hk
theorem over : Rows.machinePartsUptoRow.holds Tryz.pinned (Rows.OpenSpec.upto Rows.machinePartsSpec) :=
  OpenClaim.holds_of_cond 5 Tryz.f5 rfl rfl rfl rfl rfl rfl rfl ⟨rfl, rfl, rfl, rfl, rfl⟩ rfl rfl rfl rfl rfl (by kernel_rfl) Tryz.func5 (by kernel_rfl)
    (of_decide_eq_true (by kernel_rfl)) (by unfold Func.isWrapper; first | (rw [Ab (by decide +kernel)]; kernel_rfl) | (rw [Ac (by decide +kernel)]; exact ⟨rfl, rfl⟩))
    (fun os started H enc _ F => lifted os started H enc F)
theorem proved : Rows.MachinePartsUptoSaid := over
end Go.Proofs.YtpnacdckamiedaaGreat.rowMachineParts
namespace Go.Proofs.YtpnacdckamiedaaGreat
theorem MachineParts_holds : Rows.MachinePartsUptoSaid := rowMachineParts.proved
end Go.Proofs.YtpnacdckamiedaaGreat
