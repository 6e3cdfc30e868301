/- The walk of proviso/provisoplain.Func. -/
import Derived.Test.YtmeodoidfpcjlaaFx
import Derived.Test.YtmeodoidfpcjlaaDf
import Derived.Test.YtmeodoidfpcjlaaC31
import Derived.Test.YtmeodoidfpcjlaaC35
set_option linter.unusedVariables false
set_option linter.unusedSimpArgs false
namespace Go.Proofs.Ytmeodoidfpcjlaa
open Go Go.RowKit Go.Pv
theorem provisoplain_Func_c {w : World} {v0_1 v0_4 : Value} {a0 : S_api_Func} {r : S_api_Func} (hr0_1 : Rd Ty.u8 w [] v0_1 a0.Sig.Params) (hr0_4 : Rd Ty.u8 w [] v0_4 a0.Code) (H : provisoplain_Func a0 = some r) :
    Calls Try.prog 24 #[.agg ⟨[.string ⟨⟨a0.Name⟩⟩, v0_1, .int .u8 (a0.Sig.Result.toNat : Int), .int .i64 a0.Locals, v0_4]⟩] w (Ret fun u_ w_ => ∃ u0 u1 : Value, u_ = .agg ⟨[.string ⟨⟨r.Name⟩⟩, u0, .int .u8 (r.Sig.Result.toNat : Int), .int .i64 r.Locals, u1]⟩ ∧ SL w [] w_ [Sl Ty.u8 u0 r.Sig.Params, Sl Ty.u8 u1 r.Code]) := by
  have s0 : SL w [] w [] := SL.init0 w
  refine call_enter Try.func24 rfl Try.ntmps24 (Nat.le_of_ble_eq_true rfl) (args := [.agg ⟨[.string ⟨⟨a0.Name⟩⟩, v0_1, .int .u8 (a0.Sig.Result.toNat : Int), .int .i64 a0.Locals, v0_4]⟩]) fun q0 F0 => ?_
  unfold provisoplain_Func at H
  refine wp_seq ?_
  refine wp_reg ?_
  refine st_box F0 s0 rfl rfl rfl fun g13 w14 q15 F16 s17 => ?_
  refine st_alloc F16 s17 Fx.zero56 rfl rfl fun g19 w20 q21 F22 s23 => ?_
  refine st_end ?_
  refine then_n ?_
  refine wp_seq ?_
  refine wp_reg ?_
  obtain ⟨x45, hx46, H⟩ := bind_ok H
  refine st_pr F22 (PR.op (ex_fab Fx.fa56_1 rfl rfl) <| PR.op (ex_ldagg Fx.agg54 rfl (s23.blk_cells (.tail _ <| .head _) (o := 1) (ds := [v0_1, .int .u8 (a0.Sig.Result.toNat : Int)]) (subcells _ rfl)) rfl) <| PR.nil) fun q47 F48 => ?_
  refine st_call (args := [.tmp 4]) F48 Fx.fn35 rfl (provisoplain_Sig_c (a0 := (⟨a0.Sig.Params, a0.Sig.Result⟩ : S_api_Sig))  (hr0_1.pass0 s23) hx46) rfl fun v49 w50 q51 hS53 F52 => ?_
  obtain ⟨v56, rfl, hq55⟩ := hS53
  have s54 := s23.add hq55
  refine st_pr F52 (PR.op (ex_fab Fx.fa56_1 rfl rfl) <| PR.nil) fun q58 F59 => ?_
  have s64 := s54.f2
  refine st_storea F59 s64 rfl rfl Fx.sz54 (one_cons (form_one (formL (s64.own_rd (.tail _ <| .head _)))) (one_cons rfl one_nil)) (Nat.le_of_ble_eq_true rfl) fun w60 q61 F62 s63 => ?_
  replace s63 : SL w [] w60 [Blk g13 56 [.string ⟨⟨a0.Name⟩⟩, v56, .int .u8 (x45.Result.toNat : Int), .int .i64 a0.Locals, v0_4], Sl Ty.u8 v56 x45.Params, Blk g19 56 [.string ⟨⟨[]⟩⟩, .slice none 0 0, .int .u8 0, .int .i64 0, .slice none 0 0]] := s63
  refine st_end ?_
  refine then_n ?_
  refine wp_seq ?_
  refine wp_reg ?_
  obtain ⟨x85, hx86, H⟩ := bind_ok H
  refine st_pr F62 (PR.op (ex_fab Fx.fa56_3 rfl rfl) <| PR.op (ex_ld Fx.nag22 rfl (s63.blk_cell (.head _) rfl)) <| PR.nil) fun q87 F88 => ?_
  refine st_call (args := [.tmp 8]) F88 Fx.fn31 rfl (slices_Clone_byte_byte_c (a0 := a0.Code)  (hr0_4.pass0 s63) hx86) rfl fun v89 w90 q91 hS93 F92 => ?_
  obtain ⟨_, rfl, hq95⟩ := hS93
  have s94 := s63.add hq95
  refine st_pr F92 (PR.op (ex_fab Fx.fa56_3 rfl rfl) <| PR.nil) fun q98 F99 => ?_
  have s104 := s94.f1
  refine st_store F99 s104 rfl rfl Fx.sz22 (form_cells (formL (s104.own_rd (.tail _ <| .head _)))) (form_one (formL (s104.own_rd (.tail _ <| .head _)))) rfl fun w100 q101 F102 s103 => ?_
  replace s103 : SL w [] w100 [Blk g13 56 [.string ⟨⟨a0.Name⟩⟩, v56, .int .u8 (x45.Result.toNat : Int), .int .i64 a0.Locals, v89], Sl Ty.u8 v89 x85, Sl Ty.u8 v56 x45.Params, Blk g19 56 [.string ⟨⟨[]⟩⟩, .slice none 0 0, .int .u8 0, .int .i64 0, .slice none 0 0]] := s103
  refine st_end ?_
  refine then_n ?_
  refine wp_seq ?_
  refine wp_reg ?_
  refine st_pr F102 (PR.op (ex_ldagg Fx.agg56 rfl (s103.blk_cells (.head _) (o := 0) (ds := [.string ⟨⟨a0.Name⟩⟩, v56, .int .u8 (x45.Result.toNat : Int), .int .i64 a0.Locals, v89]) (fun j u hu => by rw [Nat.zero_add]; exact hu)) rfl) <| PR.nil) fun q112 F113 => ?_
  have s118 := s103.f3
  refine st_storea F113 s118 rfl rfl Fx.sz56 (one_cons rfl (one_cons (form_one (formL (s118.own_rd (.tail _ <| .tail _ <| .tail _ <| .head _)))) (one_cons rfl (one_cons rfl (one_cons (form_one (formL (s118.own_rd (.tail _ <| .tail _ <| .head _)))) one_nil))))) (Nat.le_of_ble_eq_true rfl) fun w114 q115 F116 s117 => ?_
  replace s117 : SL w [] w114 [Blk g19 56 [.string ⟨⟨a0.Name⟩⟩, v56, .int .u8 (x45.Result.toNat : Int), .int .i64 a0.Locals, v89], Blk g13 56 [.string ⟨⟨a0.Name⟩⟩, v56, .int .u8 (x45.Result.toNat : Int), .int .i64 a0.Locals, v89], Sl Ty.u8 v89 x85, Sl Ty.u8 v56 x45.Params] := s117
  refine st_end ?_
  refine then_n ?_
  obtain rfl := some_ok H
  refine wp_ret ?_
  refine ret_gen (rs := [.cell 2 56]) (vs := [.agg ⟨[.string ⟨⟨a0.Name⟩⟩, v56, .int .u8 (x45.Result.toNat : Int), .int .i64 a0.Locals, v89]⟩]) F116 (by rfl) ⟨_, _, rfl, RV.blk s117 (.head _) rfl Fx.agg56 rfl, rfl⟩ ⟨_, rfl, ⟨v56, v89, rfl, s117.drop.drop.f1⟩⟩
end Go.Proofs.Ytmeodoidfpcjlaa
