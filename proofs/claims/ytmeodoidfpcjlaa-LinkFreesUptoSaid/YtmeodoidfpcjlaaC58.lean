/- The walk of proviso/provisoplain.SameClasses. -/
import Derived.Test.YtmeodoidfpcjlaaFx
import Derived.Test.YtmeodoidfpcjlaaDf
import Derived.Test.YtmeodoidfpcjlaaC81
set_option linter.unusedVariables false
set_option linter.unusedSimpArgs false
namespace Go.Proofs.Ytmeodoidfpcjlaa
open Go Go.RowKit Go.Pv
theorem provisoplain_SameClasses_c {w : World} {v0 v1 : Value} {a0 : List S_api_Class} {a1 : List S_api_Class} {r : Bool} (hr0 : Rd T_api_Class w [] v0 a0) (hr1 : Rd T_api_Class w [] v1 a1) (H : provisoplain_SameClasses a0 a1 = some r) :
    Calls Try.prog 58 #[v0, v1] w (Ret fun u_ w_ => u_ = .bool r ∧ SL w [] w_ []) := by
  have s0 : SL w [] w [] := SL.init0 w
  refine call_enter Try.func58 rfl Try.ntmps58 (Nat.le_of_ble_eq_true rfl) (args := [v0, v1]) fun q0 F0 => ?_
  unfold provisoplain_SameClasses at H
  refine wp_seq ?_
  refine wp_reg ?_
  refine st_pr F0 (PR.op (ex_asg rfl) <| PR.nil) fun q3 F4 => ?_
  refine st_end ?_
  refine then_n ?_
  refine wp_seq ?_
  refine wp_seq ?_
  refine wp_reg ?_
  refine st_pr F4 (PR.op (ex_move rfl) <| PR.op (ex_len rfl Try.underlying40 (formL (rdL hr0 s0))) <| PR.op (ex_move rfl) <| PR.op (ex_len rfl Try.underlying40 (formL (rdL hr1 s0))) <| PR.op (ex_ne rfl rfl) <| PR.nil) fun q16 F17 => ?_
  refine st_end ?_
  refine then_n ?_
  refine wp_if F17 rfl (fun hb18 => ?_) (fun hb18 => ?_)
  · replace H := ite_t hb18 H
    refine wp_seq ?_
    refine wp_reg ?_
    refine st_pr F17 (PR.op (ex_asg rfl) <| PR.nil) fun q21 F22 => ?_
    refine st_end ?_
    refine then_n ?_
    obtain rfl := some_ok H
    refine wp_ret ?_
    refine then_r ?_
    refine ret_gen (rs := [.tmp 4]) (vs := [.bool false]) F22 (by rfl) ⟨_, _, rfl, RV.tmp rfl, rfl⟩ ⟨_, rfl, ⟨rfl, s0⟩⟩
  · replace H := ite_f hb18 H
    refine wp_skip ?_
    refine then_n ?_
    refine wp_seq ?_
    refine wp_seq ?_
    refine wp_reg ?_
    refine st_pr F17 (PR.op (ex_move rfl) <| PR.op (ex_len rfl Try.underlying40 (formL (rdL hr0 s0))) <| PR.op (ex_move rfl) <| PR.nil) fun q1712 F1713 => ?_
    refine st_end ?_
    refine then_n ?_
    obtain ⟨o2551, H2552, R2553⟩ := bind_ok H
    clear H
    refine wp_cutn (fun a w_ => ∃ p2554 : Unit, o2551 = .inr (p2554) ∧ Fr a 55 [] ∧ SL w [] w_ []) ?_ ?_
    · have H := H2552
      refine wp_block ?_
      refine wp_lp (provisoplain_SameClasses_b0 a0 a1) (fun s2555 a w_ => Fr a 55 [(0, v0), (1, v1), (12, .int .i64 (a0.length : Int)), (13, .int .i64 s2555)] ∧ SL w [] w_ []) H ?_ ?_
      · exact ⟨F1713.sub ⟨rfl, rfl, rfl, rfl, trivial⟩, s0⟩
      · intro s2555 q3183 w3184 hI3185 o3182 H hr
        obtain ⟨F3180, s3181⟩ := hI3185
        replace H : provisoplain_SameClasses_b0 a0 a1 s2555 = some o3182 := H
        unfold provisoplain_SameClasses_b0 at H
        refine wp_seq ?_
        refine wp_reg ?_
        refine st_pr F3180 (PR.op (ex_lt rfl rfl) <| PR.nil) fun q3188 F3189 => ?_
        refine st_end ?_
        refine then_n ?_
        refine wp_seq ?_
        refine wp_if F3189 rfl (fun hb3191 => ?_) (fun hb3191 => ?_)
        · replace H := ite_t hb3191 H
          refine wp_skip ?_
          refine then_n ?_
          refine wp_seq ?_
          refine wp_block ?_
          refine wp_seq ?_
          refine wp_reg ?_
          refine st_pr F3189 (PR.op (ex_move rfl) <| PR.op (ex_asg rfl) <| PR.nil) fun q3293 F3294 => ?_
          refine st_end ?_
          refine then_n ?_
          refine wp_seq ?_
          obtain ⟨x3295, hx3296, H⟩ := bind_ok H
          obtain ⟨ad3297, cs3300, G3301, hi3298, hc3299, hr3302, hG3303⟩ := Rd.idx hr0 Fx.sl40 rfl hx3296
          obtain ⟨v3304, rfl, hr3305⟩ := (R_api_Class hr3302 hG3303)
          have hc3299_ := hc3299; clear hc3299; have hc3299 := fun w_ (hC : SL w [] w_ []) => hc3299_ _ _ hC
          obtain ⟨x3306, hx3307, H⟩ := bind_ok H
          obtain ⟨ad3308, cs3311, G3312, hi3309, hc3310, hr3313, hG3314⟩ := Rd.idx hr1 Fx.sl40 rfl hx3307
          obtain ⟨v3315, rfl, hr3316⟩ := (R_api_Class hr3313 hG3314)
          have hc3310_ := hc3310; clear hc3310; have hc3310 := fun w_ (hC : SL w [] w_ []) => hc3310_ _ _ hC
          refine bool_split (x3295.Name != x3306.Name) (fun hb3317 => ?_) (fun hb3317 => ?_)
          · replace H := ite_t hb3317 H
            refine wp_regq (fun w_ => SL w [] w_ []) Fx.mixed (by kernel_rfl) s3181.drew F3294 (QR.op (fun _ hC => ex_move rfl) <| QR.op (fun _ hC => ex_move rfl) <| QR.op (fun _ hC => hi3298 _ _ _ _ _ _ _ _ _ _ rfl rfl) <| QR.op (fun _ hC => ex_fa Fx.fa81_0 rfl) <| QR.op (fun _ hC => ex_ld Fx.nag9 rfl (Cells.at_ (hc3299 _ hC) (o := 0) rfl)) <| QR.op (fun _ hC => ex_move rfl) <| QR.op (fun _ hC => ex_move rfl) <| QR.op (fun _ hC => hi3309 _ _ _ _ _ _ _ _ _ _ rfl rfl) <| QR.op (fun _ hC => ex_fa Fx.fa81_0 rfl) <| QR.op (fun _ hC => ex_ld Fx.nag9 rfl (Cells.at_ (hc3310 _ hC) (o := 0) rfl)) <| QR.op (fun _ hC => ex_sne rfl rfl) <| QR.op (fun _ hC => ex_move rfl) <| QR.gskip rfl rfl (look_b rfl hb3317) Bool.noConfusion <| QR.gskip rfl rfl (look_b rfl hb3317) Bool.noConfusion <| QR.gskip rfl rfl (look_b rfl hb3317) Bool.noConfusion <| QR.gskip rfl rfl (look_b rfl hb3317) Bool.noConfusion <| QR.gskip rfl rfl (look_b rfl hb3317) Bool.noConfusion <| QR.gskip rfl rfl (look_b rfl hb3317) Bool.noConfusion <| QR.gskip rfl rfl (look_b rfl hb3317) Bool.noConfusion <| QR.gskip rfl rfl (look_b rfl hb3317) Bool.noConfusion <| QR.gskip rfl rfl (look_b rfl hb3317) Bool.noConfusion <| QR.gskip rfl rfl (look_b rfl hb3317) Bool.noConfusion <| QR.gskip rfl rfl (look_b rfl hb3317) Bool.noConfusion <| QR.op (fun _ hC => ex_pick_t (ev_b rfl hb3317) rfl) <| QR.op (fun _ hC => ex_move rfl) <| QR.gskip rfl rfl rfl Bool.noConfusion <| QR.gskip rfl rfl rfl Bool.noConfusion <| QR.gskip rfl rfl rfl Bool.noConfusion <| QR.gskip rfl rfl rfl Bool.noConfusion <| QR.gskip rfl rfl rfl Bool.noConfusion <| QR.gskip rfl rfl rfl Bool.noConfusion <| QR.gskip rfl rfl rfl Bool.noConfusion <| QR.gskip rfl rfl rfl Bool.noConfusion <| QR.gskip rfl rfl rfl Bool.noConfusion <| QR.gskip rfl rfl rfl Bool.noConfusion <| QR.gskip rfl rfl rfl Bool.noConfusion <| QR.gskip rfl rfl rfl Bool.noConfusion <| QR.op (fun _ hC => ex_pick_t rfl rfl) <| QR.nil) fun w3321 q3319 s3318 F3320 => ?_
            refine then_n ?_
            refine wp_if_t F3320 rfl ?_
            refine wp_seq ?_
            refine wp_reg ?_
            refine st_pr F3320 (PR.op (ex_asg rfl) <| PR.nil) fun q3324 F3325 => ?_
            refine st_end ?_
            refine then_n ?_
            obtain rfl := some_ok H
            obtain rfl := hr _ rfl
            replace H := R2553
            dsimp only at H
            obtain rfl := some_ok H
            refine wp_ret ?_
            refine blk_r <| then_r <| then_r <| blk_r <| then_r <| then_r ?_
            refine ret_gen (rs := [.tmp 4]) (vs := [.bool false]) F3325 (by rfl) ⟨_, _, rfl, RV.tmp rfl, rfl⟩ ⟨_, rfl, ⟨rfl, s3318⟩⟩
          · replace H := ite_f hb3317 H
            obtain ⟨x3326, hx3327, H⟩ := bind_ok H
            obtain ⟨ad3328, cs3331, G3332, hi3329, hc3330, hr3333, hG3334⟩ := Rd.idx hr0 Fx.sl40 rfl hx3327
            obtain ⟨v3335, rfl, hr3336⟩ := (R_api_Class hr3333 hG3334)
            have hc3330_ := hc3330; clear hc3330; have hc3330 := fun w_ (hC : SL w [] w_ []) => hc3330_ _ _ hC
            obtain ⟨x3337, hx3338, H⟩ := bind_ok H
            obtain ⟨ad3339, cs3342, G3343, hi3340, hc3341, hr3344, hG3345⟩ := Rd.idx hr1 Fx.sl40 rfl hx3338
            obtain ⟨v3346, rfl, hr3347⟩ := (R_api_Class hr3344 hG3345)
            have hc3341_ := hc3341; clear hc3341; have hc3341 := fun w_ (hC : SL w [] w_ []) => hc3341_ _ _ hC
            refine bool_split (x3326.Parent != x3337.Parent) (fun hb3348 => ?_) (fun hb3348 => ?_)
            · replace H := ite_t hb3348 H
              refine wp_regq (fun w_ => SL w [] w_ []) Fx.mixed (by kernel_rfl) s3181.drew F3294 (QR.op (fun _ hC => ex_move rfl) <| QR.op (fun _ hC => ex_move rfl) <| QR.op (fun _ hC => hi3298 _ _ _ _ _ _ _ _ _ _ rfl rfl) <| QR.op (fun _ hC => ex_fa Fx.fa81_0 rfl) <| QR.op (fun _ hC => ex_ld Fx.nag9 rfl (Cells.at_ (hc3299 _ hC) (o := 0) rfl)) <| QR.op (fun _ hC => ex_move rfl) <| QR.op (fun _ hC => ex_move rfl) <| QR.op (fun _ hC => hi3309 _ _ _ _ _ _ _ _ _ _ rfl rfl) <| QR.op (fun _ hC => ex_fa Fx.fa81_0 rfl) <| QR.op (fun _ hC => ex_ld Fx.nag9 rfl (Cells.at_ (hc3310 _ hC) (o := 0) rfl)) <| QR.op (fun _ hC => ex_sne rfl rfl) <| QR.op (fun _ hC => ex_move rfl) <| QR.gop (fun _ hC => ex_move rfl) rfl rfl (look_b rfl hb3317) <| QR.gop (fun _ hC => ex_move rfl) rfl rfl (look_b rfl hb3317) <| QR.gop (fun _ hC => hi3329 _ _ _ _ _ _ _ _ _ _ rfl rfl) rfl rfl (look_b rfl hb3317) <| QR.gop (fun _ hC => ex_fa Fx.fa81_1 rfl) rfl rfl (look_b rfl hb3317) <| QR.gop (fun _ hC => ex_ld Fx.nag3 rfl (Cells.at_ (hc3330 _ hC) (o := 1) rfl)) rfl rfl (look_b rfl hb3317) <| QR.gop (fun _ hC => ex_move rfl) rfl rfl (look_b rfl hb3317) <| QR.gop (fun _ hC => ex_move rfl) rfl rfl (look_b rfl hb3317) <| QR.gop (fun _ hC => hi3340 _ _ _ _ _ _ _ _ _ _ rfl rfl) rfl rfl (look_b rfl hb3317) <| QR.gop (fun _ hC => ex_fa Fx.fa81_1 rfl) rfl rfl (look_b rfl hb3317) <| QR.gop (fun _ hC => ex_ld Fx.nag3 rfl (Cells.at_ (hc3341 _ hC) (o := 1) rfl)) rfl rfl (look_b rfl hb3317) <| QR.gop (fun _ hC => ex_ne rfl rfl) rfl rfl (look_b rfl hb3317) <| QR.op (fun _ hC => ex_pick_f (ev_b rfl hb3317) rfl) <| QR.op (fun _ hC => ex_move rfl) <| QR.gskip rfl rfl (look_b rfl hb3348) Bool.noConfusion <| QR.gskip rfl rfl (look_b rfl hb3348) Bool.noConfusion <| QR.gskip rfl rfl (look_b rfl hb3348) Bool.noConfusion <| QR.gskip rfl rfl (look_b rfl hb3348) Bool.noConfusion <| QR.gskip rfl rfl (look_b rfl hb3348) Bool.noConfusion <| QR.gskip rfl rfl (look_b rfl hb3348) Bool.noConfusion <| QR.gskip rfl rfl (look_b rfl hb3348) Bool.noConfusion <| QR.gskip rfl rfl (look_b rfl hb3348) Bool.noConfusion <| QR.gskip rfl rfl (look_b rfl hb3348) Bool.noConfusion <| QR.gskip rfl rfl (look_b rfl hb3348) Bool.noConfusion <| QR.gskip rfl rfl (look_b rfl hb3348) Bool.noConfusion <| QR.gskip rfl rfl (look_b rfl hb3348) Bool.noConfusion <| QR.op (fun _ hC => ex_pick_t (ev_b rfl hb3348) rfl) <| QR.nil) fun w3352 q3350 s3349 F3351 => ?_
              refine then_n ?_
              refine wp_if_t F3351 rfl ?_
              refine wp_seq ?_
              refine wp_reg ?_
              refine st_pr F3351 (PR.op (ex_asg rfl) <| PR.nil) fun q3355 F3356 => ?_
              refine st_end ?_
              refine then_n ?_
              obtain rfl := some_ok H
              obtain rfl := hr _ rfl
              replace H := R2553
              dsimp only at H
              obtain rfl := some_ok H
              refine wp_ret ?_
              refine blk_r <| then_r <| then_r <| blk_r <| then_r <| then_r ?_
              refine ret_gen (rs := [.tmp 4]) (vs := [.bool false]) F3356 (by rfl) ⟨_, _, rfl, RV.tmp rfl, rfl⟩ ⟨_, rfl, ⟨rfl, s3349⟩⟩
            · replace H := ite_f hb3348 H
              obtain ⟨x3357, hx3358, H⟩ := bind_ok H
              obtain ⟨ad3359, cs3362, G3363, hi3360, hc3361, hr3364, hG3365⟩ := Rd.idx hr0 Fx.sl40 rfl hx3358
              obtain ⟨v3366, rfl, hr3367⟩ := (R_api_Class hr3364 hG3365)
              have hc3361_ := hc3361; clear hc3361; have hc3361 := fun w_ (hC : SL w [] w_ []) => hc3361_ _ _ hC
              obtain ⟨x3368, hx3369, H⟩ := bind_ok H
              obtain ⟨ad3370, cs3373, G3374, hi3371, hc3372, hr3375, hG3376⟩ := Rd.idx hr1 Fx.sl40 rfl hx3369
              obtain ⟨v3377, rfl, hr3378⟩ := (R_api_Class hr3375 hG3376)
              have hc3372_ := hc3372; clear hc3372; have hc3372 := fun w_ (hC : SL w [] w_ []) => hc3372_ _ _ hC
              obtain ⟨x3379, hx3380, H⟩ := bind_ok H
              refine wp_regq (fun w_ => SL w [] w_ []) Fx.mixed (by kernel_rfl) s3181.drew F3294 (QR.op (fun _ hC => ex_move rfl) <| QR.op (fun _ hC => ex_move rfl) <| QR.op (fun _ hC => hi3298 _ _ _ _ _ _ _ _ _ _ rfl rfl) <| QR.op (fun _ hC => ex_fa Fx.fa81_0 rfl) <| QR.op (fun _ hC => ex_ld Fx.nag9 rfl (Cells.at_ (hc3299 _ hC) (o := 0) rfl)) <| QR.op (fun _ hC => ex_move rfl) <| QR.op (fun _ hC => ex_move rfl) <| QR.op (fun _ hC => hi3309 _ _ _ _ _ _ _ _ _ _ rfl rfl) <| QR.op (fun _ hC => ex_fa Fx.fa81_0 rfl) <| QR.op (fun _ hC => ex_ld Fx.nag9 rfl (Cells.at_ (hc3310 _ hC) (o := 0) rfl)) <| QR.op (fun _ hC => ex_sne rfl rfl) <| QR.op (fun _ hC => ex_move rfl) <| QR.gop (fun _ hC => ex_move rfl) rfl rfl (look_b rfl hb3317) <| QR.gop (fun _ hC => ex_move rfl) rfl rfl (look_b rfl hb3317) <| QR.gop (fun _ hC => hi3329 _ _ _ _ _ _ _ _ _ _ rfl rfl) rfl rfl (look_b rfl hb3317) <| QR.gop (fun _ hC => ex_fa Fx.fa81_1 rfl) rfl rfl (look_b rfl hb3317) <| QR.gop (fun _ hC => ex_ld Fx.nag3 rfl (Cells.at_ (hc3330 _ hC) (o := 1) rfl)) rfl rfl (look_b rfl hb3317) <| QR.gop (fun _ hC => ex_move rfl) rfl rfl (look_b rfl hb3317) <| QR.gop (fun _ hC => ex_move rfl) rfl rfl (look_b rfl hb3317) <| QR.gop (fun _ hC => hi3340 _ _ _ _ _ _ _ _ _ _ rfl rfl) rfl rfl (look_b rfl hb3317) <| QR.gop (fun _ hC => ex_fa Fx.fa81_1 rfl) rfl rfl (look_b rfl hb3317) <| QR.gop (fun _ hC => ex_ld Fx.nag3 rfl (Cells.at_ (hc3341 _ hC) (o := 1) rfl)) rfl rfl (look_b rfl hb3317) <| QR.gop (fun _ hC => ex_ne rfl rfl) rfl rfl (look_b rfl hb3317) <| QR.op (fun _ hC => ex_pick_f (ev_b rfl hb3317) rfl) <| QR.op (fun _ hC => ex_move rfl) <| QR.gop (fun _ hC => ex_move rfl) rfl rfl (look_b rfl hb3348) <| QR.gop (fun _ hC => ex_move rfl) rfl rfl (look_b rfl hb3348) <| QR.gop (fun _ hC => hi3360 _ _ _ _ _ _ _ _ _ _ rfl rfl) rfl rfl (look_b rfl hb3348) <| QR.gop (fun _ hC => ex_fa Fx.fa81_2 rfl) rfl rfl (look_b rfl hb3348) <| QR.gop (fun _ hC => ex_ld Fx.nag79 rfl (Cells.at_ (hc3361 _ hC) (o := 2) rfl)) rfl rfl (look_b rfl hb3348) <| QR.gop (fun _ hC => ex_move rfl) rfl rfl (look_b rfl hb3348) <| QR.gop (fun _ hC => ex_move rfl) rfl rfl (look_b rfl hb3348) <| QR.gop (fun _ hC => hi3371 _ _ _ _ _ _ _ _ _ _ rfl rfl) rfl rfl (look_b rfl hb3348) <| QR.gop (fun _ hC => ex_fa Fx.fa81_2 rfl) rfl rfl (look_b rfl hb3348) <| QR.gop (fun _ hC => ex_ld Fx.nag79 rfl (Cells.at_ (hc3372 _ hC) (o := 2) rfl)) rfl rfl (look_b rfl hb3348) <| QR.gcall rfl (look_b rfl hb3348) (args := [.tmp 45, .tmp 50]) Fx.fn81 rfl (fun _ hC => quiet_c (slices_Equal_api_Field_api_Field_c (a0 := x3357.Fields) (a1 := x3368.Fields) (hr3367.pass0 hC) (hr3378.pass0 hC) hx3380) hC) <| QR.gop (fun _ hC => ex_not rfl) rfl rfl (look_b rfl hb3348) <| QR.op (fun _ hC => ex_pick_f (ev_b rfl hb3348) rfl) <| QR.nil) fun w3384 q3382 s3381 F3383 => ?_
              refine then_n ?_
              refine wp_if F3383 rfl (fun hb3385 => ?_) (fun hb3385 => ?_)
              · replace H := ite_t hb3385 H
                refine wp_seq ?_
                refine wp_reg ?_
                refine st_pr F3383 (PR.op (ex_asg rfl) <| PR.nil) fun q3388 F3389 => ?_
                refine st_end ?_
                refine then_n ?_
                obtain rfl := some_ok H
                obtain rfl := hr _ rfl
                replace H := R2553
                dsimp only at H
                obtain rfl := some_ok H
                refine wp_ret ?_
                refine blk_r <| then_r <| then_r <| blk_r <| then_r <| then_r ?_
                refine ret_gen (rs := [.tmp 4]) (vs := [.bool false]) F3389 (by rfl) ⟨_, _, rfl, RV.tmp rfl, rfl⟩ ⟨_, rfl, ⟨rfl, s3381⟩⟩
              · replace H := ite_f hb3385 H
                refine wp_skip ?_
                refine blk_n ?_
                refine then_n ?_
                refine wp_reg ?_
                refine st_pr F3383 (PR.op (ex_add rfl rfl) <| PR.op (ex_move rfl) <| PR.nil) fun q3390 F3391 => ?_
                refine st_end ?_
                obtain rfl := some_ok H
                refine then_n ?_
                exact ⟨_, rfl, F3391.sub ⟨rfl, rfl, rfl, rfl, trivial⟩, s3381⟩
        · replace H := ite_f hb3191 H
          refine wp_exit ?_
          refine then_x <| then_x <| blk_hit ?_
          obtain rfl := some_ok H
          obtain rfl := hr _ rfl
          refine then_n ?_
          exact ⟨_, rfl, F3189.sub trivial, s3181⟩
    · intro q3394 w3395 hJ
      obtain ⟨p2554, rfl, F3392, s3393⟩ := hJ
      have H := R2553
      clear R2553 H2552
      dsimp only at H
      refine then_n ?_
      refine wp_seq ?_
      refine wp_reg ?_
      refine st_pr F3392 (PR.op (ex_asg rfl) <| PR.nil) fun q3398 F3399 => ?_
      refine st_end ?_
      refine then_n ?_
      obtain rfl := some_ok H
      refine wp_ret ?_
      refine ret_gen (rs := [.tmp 4]) (vs := [.bool true]) F3399 (by rfl) ⟨_, _, rfl, RV.tmp rfl, rfl⟩ ⟨_, rfl, ⟨rfl, s3393⟩⟩
end Go.Proofs.Ytmeodoidfpcjlaa
