/- The walk of (*proviso/talk.Session).Handle. -/
import Derived.Test.YtfepcangbajjjacGreatFx
import Derived.Test.YtfepcangbajjjacGreatDf
set_option linter.unusedVariables false
set_option linter.unusedSimpArgs false
namespace Go.Proofs.YtfepcangbajjjacGreat
open Go Go.RowKit Go.Pv
theorem talk_Session_Handle_zp_c {w : World} {FF : List Nat} {g0 : Nat} {v1 : Value} {a1 : List UInt8} {r : (List UInt8)} (hst : Star [Blk g0 31 [.pointer none, .int .i64 0, .slice none 0 0, .slice none 0 0, .map none]] w FF) (hr1 : Rd Ty.u8 w FF v1 a1) (H : talk_Session_Handle_zp a1 = some r) :
    Calls Tryz.prog 5 #[.pointer (some ⟨g0, 0, none⟩), v1] w (Ret fun u_ w_ => ∃ u0 : Value, u_ = u0 ∧ SL w FF w_ [Blk g0 31 [.pointer none, .int .i64 0, .slice none 0 0, .slice none 0 0, .map none], Sl Ty.u8 u0 r]) := by
  have s0 : SL w FF w [Blk g0 31 [.pointer none, .int .i64 0, .slice none 0 0, .slice none 0 0, .map none]] := SL.init w FF hst
  refine call_enter Tryz.func5 rfl Tryz.ntmps5 (Nat.le_of_ble_eq_true rfl) (args := [.pointer (some ⟨g0, 0, none⟩), v1]) fun q0 F0 => ?_
  unfold talk_Session_Handle_zp at H
  refine wp_seq ?_
  refine wp_reg ?_
  refine st_pr F0 (PR.op (ex_asg rfl) <| PR.nil) fun q3 F4 => ?_
  refine st_end ?_
  refine then_n ?_
  refine wp_seq ?_
  refine wp_seq ?_
  refine wp_reg ?_
  refine st_pr F4 (PR.op (ex_move rfl) <| PR.op (ex_ptr_eq rfl rfl Tryz.underlying23) <| PR.op (ex_move rfl) <| PR.nil) fun q23 F24 => ?_
  refine st_gop F24 rfl rfl rfl (ex_move rfl) rfl rfl fun q25 F26 => ?_
  refine st_gop F26 rfl rfl rfl (ex_nilcheck rfl) rfl rfl fun q27 F28 => ?_
  refine st_gop F28 rfl rfl rfl (ex_fab Fx.fa31_4 rfl rfl) rfl rfl fun q29 F30 => ?_
  refine st_gop F30 rfl rfl rfl (ex_ld Fx.nag29 rfl (s0.blk_cell (.head _) rfl)) rfl rfl fun q31 F32 => ?_
  refine st_gop F32 rfl rfl rfl (ex_map_nne rfl rfl Tryz.underlying29) rfl rfl fun q33 F34 => ?_
  refine st_pr F34 (PR.op (ex_pick_f rfl rfl) <| PR.nil) fun q35 F36 => ?_
  refine st_end ?_
  refine then_n ?_
  refine wp_if_t F36 rfl ?_
  refine wp_seq ?_
  refine wp_reg ?_
  refine st_pr F36 (PR.op (ex_asg rfl) <| PR.nil) fun q39 F40 => ?_
  refine st_end ?_
  refine then_n ?_
  obtain rfl := some_ok H
  refine wp_ret ?_
  refine then_r ?_
  refine ret_gen (rs := [.tmp 4]) (vs := [.slice none 0 0]) F40 (by rfl) ⟨_, _, rfl, RV.tmp rfl, rfl⟩ ⟨_, rfl, ⟨(.slice none 0 0), rfl, (SL.nilSl (T := Ty.u8) s0).f1⟩⟩
end Go.Proofs.YtfepcangbajjjacGreat
