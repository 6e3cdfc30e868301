/- The walk of (*proviso/wire.Writer).put. -/
import Derived.Test.YtpcdphfneidalaaFx
import Derived.Test.YtpcdphfneidalaaDf
set_option linter.unusedVariables false
set_option linter.unusedSimpArgs false
namespace Go.Proofs.Ytpcdphfneidalaa
open Go Go.RowKit Go.Pv
theorem wire_Writer_put_c {w : World} {FF : List Nat} {g0 : Nat} {v0_0 v1 : Value} {a0 : S_wire_Writer} {a1 : List UInt8} {r : Int × S_wire_Writer} (hst : Star [Blk g0 75 [v0_0, .bool a0.made], Sl Ty.u8 v0_0 a0.b] w FF) (hr1 : Rd Ty.u8 w FF v1 a1) (H : wire_Writer_put a0 a1 = some r) :
    Calls Try.prog 46 #[.pointer (some ⟨g0, 0, none⟩), v1] w (Ret fun u_ w_ => ∃ u0 : Value, u_ = .int .i64 r.1 ∧ SL w FF w_ [Blk g0 75 [u0, .bool r.2.made], Sl Ty.u8 u0 r.2.b]) := by
  have s0 : SL w FF w [Blk g0 75 [v0_0, .bool a0.made], Sl Ty.u8 v0_0 a0.b] := SL.init w FF hst
  refine call_enter Try.func46 rfl Try.ntmps46 (Nat.le_of_ble_eq_true rfl) (args := [.pointer (some ⟨g0, 0, none⟩), v1]) fun q0 F0 => ?_
  unfold wire_Writer_put at H
  refine wp_seq ?_
  refine wp_reg ?_
  refine st_pr F0 (PR.op (ex_asg rfl) <| PR.nil) fun q3 F4 => ?_
  refine st_end ?_
  refine then_n ?_
  refine wp_seq ?_
  refine wp_seq ?_
  refine wp_reg ?_
  refine st_pr F4 (PR.op (ex_move rfl) <| PR.op (ex_len rfl Try.underlying22 (formL (rdL hr1 s0))) <| PR.op (ex_move rfl) <| PR.op (ex_nilcheck rfl) <| PR.op (ex_fab Fx.fa75_0 rfl rfl) <| PR.op (ex_ld Fx.nag22 rfl (s0.blk_cell (.head _) rfl)) <| PR.op (ex_len rfl Try.underlying22 (formL (s0.own_rd (.tail _ <| .head _)))) <| PR.op (ex_sub rfl rfl) <| PR.op (ex_gt rfl rfl) <| PR.nil) fun q16 F17 => ?_
  refine st_end ?_
  refine then_n ?_
  refine wp_if F17 rfl (fun hb18 => ?_) (fun hb18 => ?_)
  · replace H := ite_t hb18 H
    refine wp_seq ?_
    refine wp_reg ?_
    refine st_pr F17 (PR.op (ex_asg rfl) <| PR.nil) fun q21 F22 => ?_
    refine st_end ?_
    refine then_n ?_
    obtain rfl := some_ok H
    refine wp_ret ?_
    refine then_r ?_
    refine ret_gen (rs := [.tmp 4]) (vs := [.int .i64 7]) F22 (by rfl) ⟨_, _, rfl, RV.tmp rfl, rfl⟩ ⟨_, rfl, ⟨v0_0, rfl, s0⟩⟩
  · replace H := ite_f hb18 H
    refine wp_skip ?_
    refine then_n ?_
    refine wp_seq ?_
    refine wp_reg ?_
    obtain ⟨x40, hx41, H⟩ := bind_ok H
    refine st_pr F17 (PR.op (ex_move rfl) <| PR.op (ex_move rfl) <| PR.op (ex_nilcheck rfl) <| PR.op (ex_fab Fx.fa75_0 rfl rfl) <| PR.op (ex_ld Fx.nag22 rfl (s0.blk_cell (.head _) rfl)) <| PR.op (ex_move rfl) <| PR.nil) fun q42 F43 => ?_
    have s49 := s0.f1
    obtain ⟨_, hr_⟩ := (rdL hr1 s49)
    refine st_append_rd Flat.u8 F43 s49 Fx.sl22 rfl rfl rfl rfl hr_ rfl rfl hx41 rfl fun v44 w45 q46 F47 s48 => ?_
    refine st_pr F47 (PR.op (ex_nilcheck rfl) <| PR.op (ex_fab Fx.fa75_0 rfl rfl) <| PR.nil) fun q50 F51 => ?_
    have s56 := s48.f1
    refine st_store F51 s56 rfl rfl Fx.sz22 (form_cells (formL (s56.own_rd (.tail _ <| .head _)))) (form_one (formL (s56.own_rd (.tail _ <| .head _)))) rfl fun w52 q53 F54 s55 => ?_
    replace s55 : SL w FF w52 [Blk g0 75 [v44, .bool a0.made], Sl Ty.u8 v44 x40] := s55
    refine st_end ?_
    refine then_n ?_
    refine wp_seq ?_
    refine wp_reg ?_
    refine st_pr F54 (PR.op (ex_asg rfl) <| PR.nil) fun q59 F60 => ?_
    refine st_end ?_
    refine then_n ?_
    obtain rfl := some_ok H
    refine wp_ret ?_
    refine ret_gen (rs := [.tmp 4]) (vs := [.int .i64 0]) F60 (by rfl) ⟨_, _, rfl, RV.tmp rfl, rfl⟩ ⟨_, rfl, ⟨v44, rfl, s55⟩⟩
end Go.Proofs.Ytpcdphfneidalaa
