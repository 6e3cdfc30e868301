/- The walk of (*proviso/card.Card).Run. -/
import Derived.Test.YtkcehlfcfcabmaaGreatFx
import Derived.Test.YtkcehlfcfcabmaaGreatDf
import Derived.Test.YtkcehlfcfcabmaaGreatC15n
set_option linter.unusedVariables false
set_option linter.unusedSimpArgs false
namespace Go.Proofs.YtkcehlfcfcabmaaGreat
open Go Go.RowKit Go.Pv
theorem card_Card_Run_npppp_c {w : World} {v2 : Value} {a1 : List UInt8} {a2 : List Int} {a3 : Int} {a4 : Int} {r : S_api_Outcome × Int} (hr2 : Rd (Ty.int .i64) w [] v2 a2) (H : card_Card_Run_npppp a1 a2 a3 a4 = some r) :
    Calls Tryz.prog 7 #[.pointer none, .string ⟨⟨a1⟩⟩, v2, .int .i64 a3, .int .i64 a4] w (Ret fun u_ w_ => ∃ u0 : Value, u_ = .tuple ⟨[.agg ⟨[.int .i64 r.1.Err, .int .i64 r.1.Trap, .int .i64 r.1.Result, u0, .int .i64 r.1.Steps, .int .i64 r.1.Cells]⟩, .int .i64 r.2]⟩ ∧ SL w [] w_ [Sl (Ty.int .i64) u0 r.1.Told]) := by
  have s0 : SL w [] w [] := SL.init0 w
  refine call_enter Tryz.func7 rfl Tryz.ntmps7 (Nat.le_of_ble_eq_true rfl) (args := [.pointer none, .string ⟨⟨a1⟩⟩, v2, .int .i64 a3, .int .i64 a4]) fun q0 F0 => ?_
  unfold card_Card_Run_npppp at H
  refine wp_seq ?_
  refine wp_reg ?_
  refine st_alloc F0 s0 Fx.zero51 rfl rfl fun g8 w9 q10 F11 s12 => ?_
  refine sv 1 F11 fun _ F14 => ?_
  refine st_end ?_
  refine then_n ?_
  refine wp_seq ?_
  refine wp_seq ?_
  refine wp_reg ?_
  obtain ⟨x62, hx63, H⟩ := bind_ok H
  obtain rfl : false = x62 := some_ok hx63
  refine sv 1 F14 fun _ F64 => ?_
  refine stc F64 s12 (card_Card_lock_n_c    hx63) fun w66 _ F68 s70 => ?_
  refine sv 1 F68 fun _ F72 => ?_
  refine st_end ?_
  refine then_n ?_
  refine wp_if_t F72 rfl ?_
  refine wp_seq ?_
  refine wp_reg ?_
  refine sx F72 (ex_build (vs := []) Fx.zero51 Fx.pl51 rfl (cs := [.int .i64 0, .int .i64 0, .int .i64 0, .slice none 0 0, .int .i64 0, .int .i64 0]) (rfl)) fun _ F80 => ?_
  have s85 := s70
  refine st_storea F80 s85 rfl rfl Fx.sz51 (one_cons rfl (one_cons rfl (one_cons rfl (one_cons rfl (one_cons rfl (one_cons rfl one_nil)))))) (Nat.le_of_ble_eq_true rfl) fun w81 q82 F83 s84 => ?_
  replace s84 : SL w [] w81 [Blk g8 51 [.int .i64 0, .int .i64 0, .int .i64 0, .slice none 0 0, .int .i64 0, .int .i64 0]] := s84
  refine sv 1 F83 fun _ F86 => ?_
  refine st_end ?_
  refine then_n ?_
  obtain rfl := some_ok H
  refine wp_ret ?_
  refine then_r ?_
  refine ret_gen (rs := [.cell 10 51, .tmp 11]) (vs := [.agg ⟨[.int .i64 0, .int .i64 0, .int .i64 0, .slice none 0 0, .int .i64 0, .int .i64 0]⟩, .int .i64 8]) F86 (by rfl) ⟨_, _, rfl, RV.blk s84 (.head _) rfl Fx.agg51 rfl, _, _, rfl, RV.tmp rfl, rfl⟩ ⟨_, rfl, ⟨(.slice none 0 0), rfl, (SL.nilSl (T := (Ty.int .i64)) s84).f1.drop⟩⟩
end Go.Proofs.YtkcehlfcfcabmaaGreat
