/- The walk of (*proviso/card.Card).Size. -/
import Derived.Test.YtkcehlfcfcabmaaGreatFx
import Derived.Test.YtkcehlfcfcabmaaGreatDf
import Derived.Test.YtkcehlfcfcabmaaGreatC15z
set_option linter.unusedVariables false
set_option linter.unusedSimpArgs false
namespace Go.Proofs.YtkcehlfcfcabmaaGreat
open Go Go.RowKit Go.Pv
theorem card_Card_Size_zp_c {w : World} {FF : List Nat} {g0 : Nat} {a1 : List UInt8} {r : Int × Int} (hst : Star [Blk g0 39 [.int .i32 0, .int .u32 0, .nilIface, .int .i64 0, .string ⟨⟨[]⟩⟩, .string ⟨⟨[]⟩⟩, .slice none 0 0, .slice none 0 0, .slice none 0 0]] w FF)  (H : card_Card_Size_zp a1 = some r) :
    Calls Tryz.prog 4 #[.pointer (some ⟨g0, 0, none⟩), .string ⟨⟨a1⟩⟩] w (Ret fun u_ w_ => u_ = .tuple ⟨[.int .i64 r.1, .int .i64 r.2]⟩ ∧ SL w FF w_ [Blk g0 39 [.int .i32 0, .int .u32 0, .nilIface, .int .i64 0, .string ⟨⟨[]⟩⟩, .string ⟨⟨[]⟩⟩, .slice none 0 0, .slice none 0 0, .slice none 0 0]]) := by
  have s0 : SL w FF w [Blk g0 39 [.int .i32 0, .int .u32 0, .nilIface, .int .i64 0, .string ⟨⟨[]⟩⟩, .string ⟨⟨[]⟩⟩, .slice none 0 0, .slice none 0 0, .slice none 0 0]] := SL.init w FF hst
  refine call_enter Tryz.func4 rfl Tryz.ntmps4 (Nat.le_of_ble_eq_true rfl) (args := [.pointer (some ⟨g0, 0, none⟩), .string ⟨⟨a1⟩⟩]) fun q0 F0 => ?_
  unfold card_Card_Size_zp at H
  refine wp_seq ?_
  refine wp_reg ?_
  refine sv 2 F0 fun _ F2 => ?_
  refine st_end ?_
  refine then_n ?_
  refine wp_seq ?_
  refine wp_seq ?_
  refine wp_reg ?_
  obtain ⟨x56, hx57, H⟩ := bind_ok H
  obtain rfl : false = x56 := some_ok hx57
  refine sv 1 F2 fun _ F58 => ?_
  have s66 := s0
  obtain ⟨G71, hst67, hF68, hG69, hcl70⟩ := SL.open_ (ps := [Blk g0 39 [.int .i32 0, .int .u32 0, .nilIface, .int .i64 0, .string ⟨⟨[]⟩⟩, .string ⟨⟨[]⟩⟩, .slice none 0 0, .slice none 0 0, .slice none 0 0]]) (rest := []) s66
  refine std F58 (card_Card_lock_z_c  hst67   hx57) fun v59 w60 _ hS63 F62 => ?_
  obtain ⟨rfl, hq65⟩ := hS63
  have s64 := hcl70 _ _ hq65
  refine sv 1 F62 fun _ F72 => ?_
  refine st_end ?_
  refine then_n ?_
  refine wp_if_t F72 rfl ?_
  refine wp_seq ?_
  refine wp_reg ?_
  refine sv 2 F72 fun _ F74 => ?_
  refine st_end ?_
  refine then_n ?_
  obtain rfl := some_ok H
  refine wp_ret ?_
  refine then_r ?_
  exact rt F74 ⟨rfl, s64⟩
end Go.Proofs.YtkcehlfcfcabmaaGreat
