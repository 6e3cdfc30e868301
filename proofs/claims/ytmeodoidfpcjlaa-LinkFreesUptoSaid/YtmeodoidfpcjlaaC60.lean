/- The walk of slices.Index[[]int,int]. -/
import Derived.Test.YtmeodoidfpcjlaaFx
import Derived.Test.YtmeodoidfpcjlaaDf
set_option linter.unusedVariables false
set_option linter.unusedSimpArgs false
namespace Go.Proofs.Ytmeodoidfpcjlaa
open Go Go.RowKit Go.Pv
theorem slices_Index_int_int_c {w : World} {v0 : Value} {a0 : List Int} {a1 : Int} {r : Int} (hr0 : Rd (Ty.int .i64) w [] v0 a0) (H : slices_Index_int_int a0 a1 = some r) :
    Calls Try.prog 60 #[v0, .int .i64 a1] w (Ret fun u_ w_ => u_ = .int .i64 r ∧ SL w [] w_ []) := by
  have s0 : SL w [] w [] := SL.init0 w
  refine call_enter Try.func60 rfl Try.ntmps60 (Nat.le_of_ble_eq_true rfl) (args := [v0, .int .i64 a1]) fun q0 F0 => ?_
  unfold slices_Index_int_int at H
  refine wp_seq ?_
  refine wp_reg ?_
  refine st_pr F0 (PR.op (ex_asg rfl) <| PR.nil) fun q3 F4 => ?_
  refine st_end ?_
  refine then_n ?_
  refine wp_seq ?_
  refine wp_seq ?_
  refine wp_reg ?_
  refine st_pr F4 (PR.op (ex_move rfl) <| PR.op (ex_len rfl Try.underlying57 (formL (rdL hr0 s0))) <| PR.op (ex_move rfl) <| PR.nil) fun q478 F479 => ?_
  refine st_end ?_
  refine then_n ?_
  obtain ⟨o709, H710, R711⟩ := bind_ok H
  clear H
  refine wp_cutn (fun a w_ => ∃ p712 : Unit, o709 = .inr (p712) ∧ Fr a 19 [] ∧ SL w [] w_ []) ?_ ?_
  · have H := H710
    refine wp_block ?_
    refine wp_lp (slices_Index_int_int_b0 a0 a1) (fun s713 a w_ => Fr a 19 [(0, v0), (1, .int .i64 a1), (7, .int .i64 (a0.length : Int)), (8, .int .i64 s713)] ∧ SL w [] w_ []) H ?_ ?_
    · exact ⟨F479.sub ⟨rfl, rfl, rfl, rfl, trivial⟩, s0⟩
    · intro s713 q885 w886 hI887 o884 H hr
      obtain ⟨F882, s883⟩ := hI887
      replace H : slices_Index_int_int_b0 a0 a1 s713 = some o884 := H
      unfold slices_Index_int_int_b0 at H
      refine wp_seq ?_
      refine wp_reg ?_
      refine st_pr F882 (PR.op (ex_lt rfl rfl) <| PR.nil) fun q890 F891 => ?_
      refine st_end ?_
      refine then_n ?_
      refine wp_seq ?_
      refine wp_if F891 rfl (fun hb893 => ?_) (fun hb893 => ?_)
      · replace H := ite_t hb893 H
        refine wp_skip ?_
        refine then_n ?_
        refine wp_seq ?_
        refine wp_block ?_
        refine wp_seq ?_
        refine wp_reg ?_
        refine st_pr F891 (PR.op (ex_move rfl) <| PR.op (ex_asg rfl) <| PR.nil) fun q919 F920 => ?_
        refine st_end ?_
        refine then_n ?_
        refine wp_seq ?_
        refine wp_reg ?_
        obtain ⟨x928, hx929, H⟩ := bind_ok H
        obtain ⟨ad930, hi931, hc932⟩ := idxL (Flat.int .i64) (rdL hr0 s883) Fx.sl57 rfl hx929
        refine st_pr F920 (PR.op (ex_move rfl) <| PR.op (ex_move rfl) <| PR.op (ex_move rfl) <| PR.op (hi931 _ _ _ _ _ _ _ _ _ _ rfl rfl) <| PR.op (ex_ld Fx.nag3 rfl (Cells.at_ hc932 (o := 0) rfl)) <| PR.op (ex_eq rfl rfl) <| PR.nil) fun q933 F934 => ?_
        refine st_end ?_
        refine then_n ?_
        refine wp_if F934 rfl (fun hb935 => ?_) (fun hb935 => ?_)
        · replace H := ite_t hb935 H
          refine wp_seq ?_
          refine wp_reg ?_
          refine st_pr F934 (PR.op (ex_move rfl) <| PR.op (ex_asg rfl) <| PR.nil) fun q938 F939 => ?_
          refine st_end ?_
          refine then_n ?_
          obtain rfl := some_ok H
          obtain rfl := hr _ rfl
          replace H := R711
          dsimp only at H
          obtain rfl := some_ok H
          refine wp_ret ?_
          refine blk_r <| then_r <| then_r <| blk_r <| then_r <| then_r ?_
          refine ret_gen (rs := [.tmp 4]) (vs := [.int .i64 s713]) F939 (by rfl) ⟨_, _, rfl, RV.tmp rfl, rfl⟩ ⟨_, rfl, ⟨rfl, s883⟩⟩
        · replace H := ite_f hb935 H
          refine wp_skip ?_
          refine blk_n ?_
          refine then_n ?_
          refine wp_reg ?_
          refine st_pr F934 (PR.op (ex_add rfl rfl) <| PR.op (ex_move rfl) <| PR.nil) fun q940 F941 => ?_
          refine st_end ?_
          obtain rfl := some_ok H
          refine then_n ?_
          exact ⟨_, rfl, F941.sub ⟨rfl, rfl, rfl, rfl, trivial⟩, s883⟩
      · replace H := ite_f hb893 H
        refine wp_exit ?_
        refine then_x <| then_x <| blk_hit ?_
        obtain rfl := some_ok H
        obtain rfl := hr _ rfl
        refine then_n ?_
        exact ⟨_, rfl, F891.sub trivial, s883⟩
  · intro q944 w945 hJ
    obtain ⟨p712, rfl, F942, s943⟩ := hJ
    have H := R711
    clear R711 H710
    dsimp only at H
    refine then_n ?_
    refine wp_seq ?_
    refine wp_reg ?_
    refine st_pr F942 (PR.op (ex_asg rfl) <| PR.nil) fun q948 F949 => ?_
    refine st_end ?_
    refine then_n ?_
    obtain rfl := some_ok H
    refine wp_ret ?_
    refine ret_gen (rs := [.tmp 4]) (vs := [.int .i64 (-1)]) F949 (by rfl) ⟨_, _, rfl, RV.tmp rfl, rfl⟩ ⟨_, rfl, ⟨rfl, s943⟩⟩
end Go.Proofs.Ytmeodoidfpcjlaa
