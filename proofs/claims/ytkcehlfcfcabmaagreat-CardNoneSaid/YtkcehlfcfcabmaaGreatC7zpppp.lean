/- The walk of (*proviso/card.Card).Run. -/
import Derived.Test.YtkcehlfcfcabmaaGreatFx
import Derived.Test.YtkcehlfcfcabmaaGreatDf
import Derived.Test.YtkcehlfcfcabmaaGreatC15z
set_option linter.unusedVariables false
set_option linter.unusedSimpArgs false
namespace Go.Proofs.YtkcehlfcfcabmaaGreat
open Go Go.RowKit Go.Pv
theorem card_Card_Run_zpppp_c {w : World} {FF : List Nat} {g0 : Nat} {v2 : Value} {a1 : List UInt8} {a2 : List Int} {a3 : Int} {a4 : Int} {r : S_api_Outcome × Int} (hst : Star [Blk g0 39 [.int .i32 0, .int .u32 0, .nilIface, .int .i64 0, .string ⟨⟨[]⟩⟩, .string ⟨⟨[]⟩⟩, .slice none 0 0, .slice none 0 0, .slice none 0 0]] w FF) (hr2 : Rd (Ty.int .i64) w FF v2 a2) (H : card_Card_Run_zpppp a1 a2 a3 a4 = some r) :
    Calls Tryz.prog 7 #[.pointer (some ⟨g0, 0, none⟩), .string ⟨⟨a1⟩⟩, v2, .int .i64 a3, .int .i64 a4] w (Ret fun u_ w_ => ∃ u0 : Value, u_ = .tuple ⟨[.agg ⟨[.int .i64 r.1.Err, .int .i64 r.1.Trap, .int .i64 r.1.Result, u0, .int .i64 r.1.Steps, .int .i64 r.1.Cells]⟩, .int .i64 r.2]⟩ ∧ SL w FF w_ [Blk g0 39 [.int .i32 0, .int .u32 0, .nilIface, .int .i64 0, .string ⟨⟨[]⟩⟩, .string ⟨⟨[]⟩⟩, .slice none 0 0, .slice none 0 0, .slice none 0 0], Sl (Ty.int .i64) u0 r.1.Told]) := by
  have s0 : SL w FF w [Blk g0 39 [.int .i32 0, .int .u32 0, .nilIface, .int .i64 0, .string ⟨⟨[]⟩⟩, .string ⟨⟨[]⟩⟩, .slice none 0 0, .slice none 0 0, .slice none 0 0]] := SL.init w FF hst
  refine call_enter Tryz.func7 rfl Tryz.ntmps7 (Nat.le_of_ble_eq_true rfl) (args := [.pointer (some ⟨g0, 0, none⟩), .string ⟨⟨a1⟩⟩, v2, .int .i64 a3, .int .i64 a4]) fun q0 F0 => ?_
  unfold card_Card_Run_zpppp at H
  refine wp_seq ?_
  refine wp_reg ?_
  refine st_alloc F0 s0 Fx.zero51 rfl rfl fun g8 w9 q10 F11 s12 => ?_
  refine sv 1 F11 fun _ F14 => ?_
  refine st_end ?_
  refine then_n ?_
  refine wp_seq ?_
  refine wp_seq ?_
  refine wp_reg ?_
  obtain ⟨x80, hx81, H⟩ := bind_ok H
  obtain rfl : false = x80 := some_ok hx81
  refine sv 1 F14 fun _ F82 => ?_
  have s90 := s12.f1
  obtain ⟨G95, hst91, hF92, hG93, hcl94⟩ := SL.open_ (ps := [Blk g0 39 [.int .i32 0, .int .u32 0, .nilIface, .int .i64 0, .string ⟨⟨[]⟩⟩, .string ⟨⟨[]⟩⟩, .slice none 0 0, .slice none 0 0, .slice none 0 0]]) (rest := [Blk g8 51 [.int .i64 0, .int .i64 0, .int .i64 0, .slice none 0 0, .int .i64 0, .int .i64 0]]) s90
  refine std F82 (card_Card_lock_z_c  hst91   hx81) fun v83 w84 _ hS87 F86 => ?_
  obtain ⟨rfl, hq89⟩ := hS87
  have s88 := hcl94 _ _ hq89
  refine sv 1 F86 fun _ F96 => ?_
  refine st_end ?_
  refine then_n ?_
  refine wp_if_t F96 rfl ?_
  refine wp_seq ?_
  refine wp_reg ?_
  refine sx F96 (ex_build (vs := []) Fx.zero51 Fx.pl51 rfl (cs := [.int .i64 0, .int .i64 0, .int .i64 0, .slice none 0 0, .int .i64 0, .int .i64 0]) (rfl)) fun _ F104 => ?_
  have s109 := s88.f1
  refine st_storea F104 s109 rfl rfl Fx.sz51 (one_cons rfl (one_cons rfl (one_cons rfl (one_cons rfl (one_cons rfl (one_cons rfl one_nil)))))) (Nat.le_of_ble_eq_true rfl) fun w105 q106 F107 s108 => ?_
  replace s108 : SL w FF w105 [Blk g8 51 [.int .i64 0, .int .i64 0, .int .i64 0, .slice none 0 0, .int .i64 0, .int .i64 0], Blk g0 39 [.int .i32 0, .int .u32 0, .nilIface, .int .i64 0, .string ⟨⟨[]⟩⟩, .string ⟨⟨[]⟩⟩, .slice none 0 0, .slice none 0 0, .slice none 0 0]] := s108
  refine sv 1 F107 fun _ F110 => ?_
  refine st_end ?_
  refine then_n ?_
  obtain rfl := some_ok H
  refine wp_ret ?_
  refine then_r ?_
  refine ret_gen (rs := [.cell 10 51, .tmp 11]) (vs := [.agg ⟨[.int .i64 0, .int .i64 0, .int .i64 0, .slice none 0 0, .int .i64 0, .int .i64 0]⟩, .int .i64 8]) F110 (by rfl) ⟨_, _, rfl, RV.blk s108 (.head _) rfl Fx.agg51 rfl, _, _, rfl, RV.tmp rfl, rfl⟩ ⟨_, rfl, ⟨(.slice none 0 0), rfl, (SL.nilSl (T := (Ty.int .i64)) s108).f1.drop.f1⟩⟩
end Go.Proofs.YtkcehlfcfcabmaaGreat
