/- The walk of proviso/provisoref04.take. -/
import Derived.Test.YtmeodoidfpcjlaaFx
import Derived.Test.YtmeodoidfpcjlaaDf
set_option linter.unusedVariables false
set_option linter.unusedSimpArgs false
namespace Go.Proofs.Ytmeodoidfpcjlaa
open Go Go.RowKit Go.Pv
theorem provisoref04_take_c {w : World} {v0 : Value} {a0 : List UInt8} {a1 : Int} {r : Int} (hr0 : Rd Ty.u8 w [] v0 a0) (H : provisoref04_take a0 a1 = some r) :
    Calls Try.prog 70 #[v0, .int .i64 a1] w (Ret fun u_ w_ => u_ = .int .i64 r ∧ SL w [] w_ []) := by
  have s0 : SL w [] w [] := SL.init0 w
  refine call_enter Try.func70 rfl Try.ntmps70 (Nat.le_of_ble_eq_true rfl) (args := [v0, .int .i64 a1]) fun q0 F0 => ?_
  unfold provisoref04_take at H
  refine wp_seq ?_
  refine wp_reg ?_
  refine st_pr F0 (PR.op (ex_asg rfl) <| PR.nil) fun q3 F4 => ?_
  refine st_end ?_
  refine then_n ?_
  refine wp_seq ?_
  refine wp_reg ?_
  refine st_pr F4 (PR.op (ex_asg rfl) <| PR.nil) fun q7 F8 => ?_
  refine st_end ?_
  refine then_n ?_
  refine wp_seq ?_
  refine wp_seq ?_
  refine wp_reg ?_
  refine st_pr F8 (PR.op (ex_asg rfl) <| PR.nil) fun q256 F257 => ?_
  refine st_end ?_
  refine then_n ?_
  obtain ⟨o375, H376, R377⟩ := bind_ok H
  clear H
  refine wp_cutn (fun a w_ => Fr a 29 [(1, .int .i64 a1), (5, .int .i64 o375)] ∧ SL w [] w_ []) ?_ ?_
  · have H := H376
    refine wp_block ?_
    refine wp_lp (provisoref04_take_b0 a0 a1) (fun s378 a w_ => Fr a 29 [(0, v0), (1, .int .i64 a1), (5, .int .i64 s378.1), (6, .int .i64 s378.2)] ∧ SL w [] w_ []) H ?_ ?_
    · exact ⟨F257.sub ⟨rfl, rfl, rfl, rfl, trivial⟩, s0⟩
    · intro s378 q466 w467 hI468 o465 H hr
      obtain ⟨F463, s464⟩ := hI468
      replace H : provisoref04_take_b0 a0 a1 s378 = some o465 := H
      unfold provisoref04_take_b0 at H
      refine wp_seq ?_
      refine wp_seq ?_
      refine wp_reg ?_
      refine st_pr F463 (PR.op (ex_move rfl) <| PR.op (ex_move rfl) <| PR.op (ex_lt rfl rfl) <| PR.nil) fun q476 F477 => ?_
      refine st_end ?_
      refine then_n ?_
      refine wp_if F477 rfl (fun hb478 => ?_) (fun hb478 => ?_)
      · replace H := ite_t hb478 H
        refine wp_skip ?_
        refine then_n ?_
        refine wp_seq ?_
        refine wp_block ?_
        refine wp_reg ?_
        obtain ⟨x486, hx487, H⟩ := bind_ok H
        obtain ⟨ad488, hi489, hc490⟩ := idxL Flat.u8 (rdL hr0 s464) Fx.sl22 rfl hx487
        refine st_pr F477 (PR.op (ex_move rfl) <| PR.op (ex_mul rfl rfl) <| PR.op (ex_move rfl) <| PR.op (ex_move rfl) <| PR.op (hi489 _ _ _ _ _ _ _ _ _ _ rfl rfl) <| PR.op (ex_ld Fx.nag5 rfl (Cells.at_ hc490 (o := 0) rfl)) <| PR.op (ex_cv864 rfl Try.underlying5 Try.underlying3) <| PR.op (ex_add rfl rfl) <| PR.op (ex_asg rfl) <| PR.nil) fun q491 F492 => ?_
        refine st_end ?_
        refine blk_n ?_
        refine then_n ?_
        refine wp_reg ?_
        refine st_pr F492 (PR.op (ex_move rfl) <| PR.op (ex_add rfl rfl) <| PR.op (ex_asg rfl) <| PR.nil) fun q493 F494 => ?_
        refine st_end ?_
        obtain rfl := some_ok H
        refine then_n ?_
        exact ⟨_, rfl, F494.sub ⟨rfl, rfl, rfl, rfl, trivial⟩, s464⟩
      · replace H := ite_f hb478 H
        refine wp_exit ?_
        refine then_x <| then_x <| blk_hit ?_
        obtain rfl := some_ok H
        obtain rfl := hr _ rfl
        refine then_n ?_
        exact ⟨F477.sub ⟨rfl, rfl, trivial⟩, s464⟩
  · intro q497 w498 hJ
    obtain ⟨F495, s496⟩ := hJ
    have H := R377
    clear R377 H376
    refine then_n ?_
    refine wp_seq ?_
    refine wp_seq ?_
    refine wp_reg ?_
    refine st_pr F495 (PR.op (ex_move rfl) <| PR.op (ex_eq rfl rfl) <| PR.op (ex_move rfl) <| PR.nil) fun q517 F518 => ?_
    refine bool_split (a1 == 4) (fun hb519 => ?_) (fun hb519 => ?_)
    · replace H := ite_t hb519 H
      refine st_gop F518 rfl rfl (look_b rfl hb519) (ex_move rfl) rfl rfl fun q520 F521 => ?_
      refine st_gop F521 rfl rfl (look_b rfl hb519) (ex_gt rfl rfl) rfl rfl fun q522 F523 => ?_
      refine st_pr F523 (PR.op (ex_pick_t (ev_b rfl hb519) rfl) <| PR.nil) fun q524 F525 => ?_
      refine st_end ?_
      refine then_n ?_
      refine wp_if F525 rfl (fun hb526 => ?_) (fun hb526 => ?_)
      · replace H := ite_t hb526 H
        refine wp_reg ?_
        refine st_pr F525 (PR.op (ex_move rfl) <| PR.op (ex_sub rfl rfl) <| PR.op (ex_asg rfl) <| PR.nil) fun q527 F528 => ?_
        refine st_end ?_
        refine then_n ?_
        refine wp_seq ?_
        refine wp_reg ?_
        refine st_pr F528 (PR.op (ex_move rfl) <| PR.op (ex_asg rfl) <| PR.nil) fun q531 F532 => ?_
        refine st_end ?_
        refine then_n ?_
        obtain rfl := some_ok H
        refine wp_ret ?_
        refine ret_gen (rs := [.tmp 4]) (vs := [.int .i64 (wr (o375 - 4294967296))]) F532 (by rfl) ⟨_, _, rfl, RV.tmp rfl, rfl⟩ ⟨_, rfl, ⟨rfl, s496⟩⟩
      · replace H := ite_f hb526 H
        refine wp_skip ?_
        refine then_n ?_
        refine wp_seq ?_
        refine wp_reg ?_
        refine st_pr F525 (PR.op (ex_move rfl) <| PR.op (ex_asg rfl) <| PR.nil) fun q535 F536 => ?_
        refine st_end ?_
        refine then_n ?_
        obtain rfl := some_ok H
        refine wp_ret ?_
        refine ret_gen (rs := [.tmp 4]) (vs := [.int .i64 o375]) F536 (by rfl) ⟨_, _, rfl, RV.tmp rfl, rfl⟩ ⟨_, rfl, ⟨rfl, s496⟩⟩
    · replace H := ite_f hb519 H
      refine st_gskip F518 rfl rfl (look_b rfl hb519) Bool.noConfusion rfl rfl fun q537 F538 => ?_
      refine st_gskip F538 rfl rfl (look_b rfl hb519) Bool.noConfusion rfl rfl fun q539 F540 => ?_
      refine st_pr F540 (PR.op (ex_pick_f (ev_b rfl hb519) rfl) <| PR.nil) fun q541 F542 => ?_
      refine st_end ?_
      refine then_n ?_
      refine wp_if_f F542 rfl ?_
      refine wp_skip ?_
      refine then_n ?_
      refine wp_seq ?_
      refine wp_reg ?_
      refine st_pr F542 (PR.op (ex_move rfl) <| PR.op (ex_asg rfl) <| PR.nil) fun q545 F546 => ?_
      refine st_end ?_
      refine then_n ?_
      obtain rfl := some_ok H
      refine wp_ret ?_
      refine ret_gen (rs := [.tmp 4]) (vs := [.int .i64 o375]) F546 (by rfl) ⟨_, _, rfl, RV.tmp rfl, rfl⟩ ⟨_, rfl, ⟨rfl, s496⟩⟩
end Go.Proofs.Ytmeodoidfpcjlaa
