/- The walk of proviso/wire.words. -/
import Derived.Test.YtpcdphfneidalaaFx
import Derived.Test.YtpcdphfneidalaaDf
set_option linter.unusedVariables false
set_option linter.unusedSimpArgs false
namespace Go.Proofs.Ytpcdphfneidalaa
open Go Go.RowKit Go.Pv
theorem wire_words_c {w : World} {r : (List Int)}  (H : wire_words = some r) :
    Calls Try.prog 54 #[] w (Ret fun u_ w_ => u_ = .agg ⟨r.flatMap (fun x : Int => [Value.int .u32 x])⟩ ∧ r.length = 256 ∧ SL w [] w_ []) := by
  have s0 : SL w [] w [] := SL.init0 w
  refine call_enter Try.func54 rfl Try.ntmps54 (Nat.le_of_ble_eq_true rfl) (args := []) fun q0 F0 => ?_
  unfold wire_words at H
  refine wp_seq ?_
  refine wp_reg ?_
  refine st_alloc_arr (e := 79) (Flat.int .u32) 256 (0 : Int) F0 s0 Fx.zero85 rfl fun g7 w8 q9 F10 s11 => ?_
  refine st_end ?_
  refine then_n ?_
  refine wp_seq ?_
  refine wp_reg ?_
  refine st_alloc_arr (e := 79) (Flat.int .u32) 256 (0 : Int) F10 s11 Fx.zero85 rfl fun g19 w20 q21 F22 s23 => ?_
  refine st_end ?_
  refine then_n ?_
  refine wp_seq ?_
  refine wp_seq ?_
  refine wp_reg ?_
  refine st_pr F22 (PR.op (ex_move rfl) <| PR.nil) fun q11808 F11809 => ?_
  refine st_end ?_
  refine then_n ?_
  obtain ⟨o17695, H17696, R17697⟩ := bind_ok H
  clear H
  refine wp_cutn (fun a w_ => Fr a 26 [(0, .pointer (some ⟨g7, 0, none⟩)), (1, .pointer (some ⟨g19, 0, none⟩))] ∧ SL w [] w_ [Sl (Ty.int .u32) (arV g19 256) o17695, Sl (Ty.int .u32) (arV g7 256) (List.replicate 256 (0 : Int))]) ?_ ?_
  · have H := H17696
    refine wp_block ?_
    refine wp_lp (wire_words_b1) (fun s17698 a w_ => Fr a 26 [(0, .pointer (some ⟨g7, 0, none⟩)), (1, .pointer (some ⟨g19, 0, none⟩)), (5, .int .i64 s17698.2)] ∧ SL w [] w_ [Sl (Ty.int .u32) (arV g19 256) s17698.1, Sl (Ty.int .u32) (arV g7 256) (List.replicate 256 (0 : Int))]) H ?_ ?_
    · exact ⟨F11809.sub ⟨rfl, rfl, rfl, trivial⟩, s23⟩
    · intro s17698 q22112 w22113 hI22114 o22111 H hr
      obtain ⟨F22109, s22110⟩ := hI22114
      replace H : wire_words_b1 s17698 = some o22111 := H
      unfold wire_words_b1 at H
      refine wp_seq ?_
      refine wp_reg ?_
      refine st_pr F22109 (PR.op (ex_lt rfl rfl) <| PR.nil) fun q22117 F22118 => ?_
      refine st_end ?_
      refine then_n ?_
      refine wp_seq ?_
      refine wp_if F22118 rfl (fun hb22120 => ?_) (fun hb22120 => ?_)
      · replace H := ite_t hb22120 H
        refine wp_skip ?_
        refine then_n ?_
        refine wp_seq ?_
        refine wp_block ?_
        refine wp_seq ?_
        refine wp_reg ?_
        refine st_pr F22118 (PR.op (ex_move rfl) <| PR.op (ex_asg rfl) <| PR.nil) fun q22853 F22854 => ?_
        refine st_end ?_
        refine then_n ?_
        refine wp_seq ?_
        refine wp_reg ?_
        refine st_pr F22854 (PR.op (ex_move rfl) <| PR.op (ex_conv rfl Try.underlying3 Try.underlying79) <| PR.op (ex_asg rfl) <| PR.nil) fun q22857 F22858 => ?_
        refine st_end ?_
        refine then_n ?_
        refine wp_seq ?_
        refine wp_seq ?_
        refine wp_reg ?_
        refine st_pr F22858 (PR.op (ex_move rfl) <| PR.nil) fun q23218 F23219 => ?_
        refine st_end ?_
        refine then_n ?_
        obtain ⟨o23393, H23394, R23395⟩ := bind_ok H
        clear H
        refine wp_cutn (fun a w_ => Fr a 26 [(0, .pointer (some ⟨g7, 0, none⟩)), (1, .pointer (some ⟨g19, 0, none⟩)), (2, .int .i64 s17698.2), (3, .int .u32 o23393), (5, .int .i64 s17698.2)] ∧ SL w [] w_ [Sl (Ty.int .u32) (arV g19 256) s17698.1, Sl (Ty.int .u32) (arV g7 256) (List.replicate 256 (0 : Int))]) ?_ ?_
        · have H := H23394
          refine wp_block ?_
          refine wp_lp (wire_words_b0) (fun s23396 a w_ => Fr a 26 [(0, .pointer (some ⟨g7, 0, none⟩)), (1, .pointer (some ⟨g19, 0, none⟩)), (2, .int .i64 s17698.2), (3, .int .u32 s23396.1), (5, .int .i64 s17698.2), (10, .int .i64 s23396.2)] ∧ SL w [] w_ [Sl (Ty.int .u32) (arV g19 256) s17698.1, Sl (Ty.int .u32) (arV g7 256) (List.replicate 256 (0 : Int))]) H ?_ ?_
          · exact ⟨F23219.sub ⟨rfl, rfl, rfl, rfl, rfl, rfl, trivial⟩, s22110⟩
          · intro s23396 q23526 w23527 hI23528 o23525 H hr
            obtain ⟨F23523, s23524⟩ := hI23528
            replace H : wire_words_b0 s23396 = some o23525 := H
            unfold wire_words_b0 at H
            refine wp_seq ?_
            refine wp_reg ?_
            refine st_pr F23523 (PR.op (ex_lt rfl rfl) <| PR.nil) fun q23531 F23532 => ?_
            refine st_end ?_
            refine then_n ?_
            refine wp_seq ?_
            refine wp_if F23532 rfl (fun hb23534 => ?_) (fun hb23534 => ?_)
            · replace H := ite_t hb23534 H
              refine wp_skip ?_
              refine then_n ?_
              refine wp_seq ?_
              refine wp_block ?_
              refine wp_seq ?_
              refine wp_reg ?_
              refine st_pr F23532 (PR.op (ex_move rfl) <| PR.op (ex_and rfl rfl) <| PR.op (ex_asg rfl) <| PR.nil) fun q23552 F23553 => ?_
              refine st_end ?_
              refine then_n ?_
              refine wp_seq ?_
              refine wp_reg ?_
              refine st_pr F23553 (PR.op (ex_move rfl) <| PR.op (ex_shr rfl rfl rfl) <| PR.op (ex_asg rfl) <| PR.nil) fun q23556 F23557 => ?_
              refine st_end ?_
              refine then_n ?_
              refine wp_seq ?_
              refine wp_reg ?_
              refine st_pr F23557 (PR.op (ex_move rfl) <| PR.op (ex_ne rfl rfl) <| PR.nil) fun q23560 F23561 => ?_
              refine st_end ?_
              refine then_n ?_
              refine wp_if F23561 rfl (fun hb23562 => ?_) (fun hb23562 => ?_)
              · replace H := ite_t hb23562 H
                refine wp_reg ?_
                refine st_pr F23561 (PR.op (ex_move rfl) <| PR.op (ex_xor rfl rfl) <| PR.op (ex_asg rfl) <| PR.nil) fun q23563 F23564 => ?_
                refine st_end ?_
                refine blk_n ?_
                refine then_n ?_
                refine wp_reg ?_
                refine st_pr F23564 (PR.op (ex_add rfl rfl) <| PR.op (ex_move rfl) <| PR.nil) fun q23565 F23566 => ?_
                refine st_end ?_
                obtain rfl := some_ok H
                refine then_n ?_
                exact ⟨_, rfl, F23566.sub ⟨rfl, rfl, rfl, rfl, rfl, rfl, trivial⟩, s23524⟩
              · replace H := ite_f hb23562 H
                refine wp_skip ?_
                refine blk_n ?_
                refine then_n ?_
                refine wp_reg ?_
                refine st_pr F23561 (PR.op (ex_add rfl rfl) <| PR.op (ex_move rfl) <| PR.nil) fun q23567 F23568 => ?_
                refine st_end ?_
                obtain rfl := some_ok H
                refine then_n ?_
                exact ⟨_, rfl, F23568.sub ⟨rfl, rfl, rfl, rfl, rfl, rfl, trivial⟩, s23524⟩
            · replace H := ite_f hb23534 H
              refine wp_exit ?_
              refine then_x <| then_x <| blk_hit ?_
              obtain rfl := some_ok H
              obtain rfl := hr _ rfl
              refine then_n ?_
              exact ⟨F23532.sub ⟨rfl, rfl, rfl, rfl, rfl, trivial⟩, s23524⟩
        · intro q23571 w23572 hJ
          obtain ⟨F23569, s23570⟩ := hJ
          have H := R23395
          clear R23395 H23394
          refine then_n ?_
          refine wp_reg ?_
          obtain ⟨x23573, hx23574, H⟩ := bind_ok H
          refine st_pr F23569 (PR.op (ex_move rfl) <| PR.op (ex_move rfl) <| PR.op (ex_ixarr (T := (Ty.int .u32)) Fx.ar85 rfl s23570 (.head _) hx23574 rfl rfl) <| PR.nil) fun q23575 F23576 => ?_
          refine st_setel (y' := o23393) (Flat.int .u32) F23576 s23570 elAt_arr hx23574 rfl rfl (by rfl) Fx.sz79 fun w23577 q23578 F23579 s23580 => ?_
          refine st_end ?_
          refine blk_n ?_
          refine then_n ?_
          refine wp_reg ?_
          refine st_pr F23579 (PR.op (ex_add rfl rfl) <| PR.op (ex_move rfl) <| PR.nil) fun q23581 F23582 => ?_
          refine st_end ?_
          obtain rfl := some_ok H
          refine then_n ?_
          exact ⟨_, rfl, F23582.sub ⟨rfl, rfl, rfl, trivial⟩, s23580⟩
      · replace H := ite_f hb22120 H
        refine wp_exit ?_
        refine then_x <| then_x <| blk_hit ?_
        obtain rfl := some_ok H
        obtain rfl := hr _ rfl
        refine then_n ?_
        exact ⟨F22118.sub ⟨rfl, rfl, trivial⟩, s22110⟩
  · intro q23585 w23586 hJ
    obtain ⟨F23583, s23584⟩ := hJ
    have H := R17697
    clear R17697 H17696
    refine then_n ?_
    refine wp_seq ?_
    refine wp_reg ?_
    refine st_pr F23583 (PR.op (ex_ldarr (Flat.int .u32) rfl s23584 (.head _) Fx.agg85 rfl rfl) <| PR.nil) fun q23593 F23594 => ?_
    refine st_storearr (r := o17695) (Flat.int .u32) F23594 s23584.f1 rfl rfl (SL.arr_len s23584 (.head _)) Fx.sz85 fun w23595 q23596 F23597 s23598 => ?_
    refine st_end ?_
    refine then_n ?_
    obtain rfl := some_ok H
    refine wp_ret ?_
    refine ret_gen (rs := [.cell 0 85]) (vs := [.agg ⟨o17695.flatMap (fun x : Int => [Value.int .u32 x])⟩]) F23597 (by rfl) ⟨_, _, rfl, RV.blk_arr (Flat.int .u32) s23598 (.head _) rfl Fx.agg85 rfl, rfl⟩ ⟨_, rfl, ⟨rfl, (SL.arr_len s23598 (.head _)), s23598.drop.drop⟩⟩
end Go.Proofs.Ytpcdphfneidalaa
