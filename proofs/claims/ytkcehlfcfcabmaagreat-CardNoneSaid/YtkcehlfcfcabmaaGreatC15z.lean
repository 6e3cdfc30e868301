/- The walk of (*proviso/card.Card).lock. -/
import Derived.Test.YtkcehlfcfcabmaaGreatFx
import Derived.Test.YtkcehlfcfcabmaaGreatDf
set_option linter.unusedVariables false
set_option linter.unusedSimpArgs false
namespace Go.Proofs.YtkcehlfcfcabmaaGreat
open Go Go.RowKit Go.Pv
theorem card_Card_lock_z_c {w : World} {FF : List Nat} {g0 : Nat} {r : Bool} (hst : Star [Blk g0 39 [.int .i32 0, .int .u32 0, .nilIface, .int .i64 0, .string ⟨⟨[]⟩⟩, .string ⟨⟨[]⟩⟩, .slice none 0 0, .slice none 0 0, .slice none 0 0]] w FF)  (H : card_Card_lock_z = some r) :
    Calls Tryz.prog 15 #[.pointer (some ⟨g0, 0, none⟩)] w (Ret fun u_ w_ => u_ = .bool r ∧ SL w FF w_ [Blk g0 39 [.int .i32 0, .int .u32 0, .nilIface, .int .i64 0, .string ⟨⟨[]⟩⟩, .string ⟨⟨[]⟩⟩, .slice none 0 0, .slice none 0 0, .slice none 0 0]]) := by
  have s0 : SL w FF w [Blk g0 39 [.int .i32 0, .int .u32 0, .nilIface, .int .i64 0, .string ⟨⟨[]⟩⟩, .string ⟨⟨[]⟩⟩, .slice none 0 0, .slice none 0 0, .slice none 0 0]] := SL.init w FF hst
  refine call_enter Tryz.func15 rfl Tryz.ntmps15 (Nat.le_of_ble_eq_true rfl) (args := [.pointer (some ⟨g0, 0, none⟩)]) fun q0 F0 => ?_
  unfold card_Card_lock_z at H
  refine wp_seq ?_
  refine wp_reg ?_
  refine sv 1 F0 fun _ F2 => ?_
  refine st_end ?_
  refine then_n ?_
  refine wp_seq ?_
  refine wp_seq ?_
  refine wp_reg ?_
  refine sv 1 F2 fun _ F13 => ?_
  refine sx F13 (ex_ptr_eq rfl rfl Tryz.underlying23) fun _ F14 => ?_
  refine sv 4 F14 fun _ F15 => ?_
  refine st_gop F15 rfl rfl rfl (ex_ld Fx.nag32 rfl (s0.blk_cell (.head _) rfl)) rfl rfl fun q16 F17 => ?_
  refine st_gop F17 rfl rfl rfl (ex_if_nne rfl Tryz.underlying32) rfl rfl fun q18 F19 => ?_
  refine sv 1 F19 fun _ F20 => ?_
  refine st_end ?_
  refine then_n ?_
  refine wp_if_t F20 rfl ?_
  refine wp_seq ?_
  refine wp_reg ?_
  refine sv 1 F20 fun _ F22 => ?_
  refine st_end ?_
  refine then_n ?_
  obtain rfl := some_ok H
  refine wp_ret ?_
  refine then_r ?_
  exact rt F22 ⟨rfl, s0⟩
end Go.Proofs.YtkcehlfcfcabmaaGreat
