/- The walk of proviso/provisolaw18.samePart. -/
import Derived.Test.YtmeodoidfpcjlaaFx
import Derived.Test.YtmeodoidfpcjlaaDf
import Derived.Test.YtmeodoidfpcjlaaC39
import Derived.Test.YtmeodoidfpcjlaaC40
set_option linter.unusedVariables false
set_option linter.unusedSimpArgs false
namespace Go.Proofs.Ytmeodoidfpcjlaa
open Go Go.RowKit Go.Pv
theorem provisolaw18_samePart_c {w : World} {v0_1 v0_2 v0_3 v0_4 v1_1 v1_2 v1_3 v1_4 : Value} {a0 : S_api_Part} {a1 : S_api_Part} {r : Bool} (hr0_1 : Rd T_api_Class w [] v0_1 a0.Module.Classes) (hr0_2 : Rd T_api_Func w [] v0_2 a0.Module.Funcs) (hr0_3 : Rd (Ty.slice Ty.u8) w [] v0_3 a0.Module.Certs) (hr0_4 : Rd T_api_Import w [] v0_4 a0.Imports) (hr1_1 : Rd T_api_Class w [] v1_1 a1.Module.Classes) (hr1_2 : Rd T_api_Func w [] v1_2 a1.Module.Funcs) (hr1_3 : Rd (Ty.slice Ty.u8) w [] v1_3 a1.Module.Certs) (hr1_4 : Rd T_api_Import w [] v1_4 a1.Imports) (H : provisolaw18_samePart a0 a1 = some r) :
    Calls Try.prog 19 #[.agg ⟨[.string ⟨⟨a0.Module.Name⟩⟩, v0_1, v0_2, v0_3, v0_4]⟩, .agg ⟨[.string ⟨⟨a1.Module.Name⟩⟩, v1_1, v1_2, v1_3, v1_4]⟩] w (Ret fun u_ w_ => u_ = .bool r ∧ SL w [] w_ []) := by
  have s0 : SL w [] w [] := SL.init0 w
  refine call_enter Try.func19 rfl Try.ntmps19 (Nat.le_of_ble_eq_true rfl) (args := [.agg ⟨[.string ⟨⟨a0.Module.Name⟩⟩, v0_1, v0_2, v0_3, v0_4]⟩, .agg ⟨[.string ⟨⟨a1.Module.Name⟩⟩, v1_1, v1_2, v1_3, v1_4]⟩]) fun q0 F0 => ?_
  unfold provisolaw18_samePart at H
  refine wp_seq ?_
  refine wp_reg ?_
  refine st_box F0 s0 rfl rfl rfl fun g15 w16 q17 F18 s19 => ?_
  refine st_box F18 s19 rfl rfl rfl fun g21 w22 q23 F24 s25 => ?_
  refine st_pr F24 (PR.op (ex_asg rfl) <| PR.nil) fun q27 F28 => ?_
  refine st_end ?_
  refine then_n ?_
  refine wp_seq ?_
  refine wp_seq ?_
  refine wp_reg ?_
  obtain ⟨x84, hx85, H⟩ := bind_ok H
  refine st_pr F28 (PR.op (ex_fab Fx.fa46_0 rfl rfl) <| PR.op (ex_ldagg Fx.agg43 rfl (s25.blk_cells (.tail _ <| .head _) (o := 0) (ds := [.string ⟨⟨a0.Module.Name⟩⟩, v0_1, v0_2, v0_3]) (subcells _ rfl)) rfl) <| PR.op (ex_fab Fx.fa46_0 rfl rfl) <| PR.op (ex_ldagg Fx.agg43 rfl (s25.blk_cells (.head _) (o := 0) (ds := [.string ⟨⟨a1.Module.Name⟩⟩, v1_1, v1_2, v1_3]) (subcells _ rfl)) rfl) <| PR.nil) fun q86 F87 => ?_
  refine st_call (args := [.tmp 8, .tmp 10]) F87 Fx.fn39 rfl (provisoplain_SameModule_c (a0 := (⟨a0.Module.Name, a0.Module.Classes, a0.Module.Funcs, a0.Module.Certs⟩ : S_api_Module)) (a1 := (⟨a1.Module.Name, a1.Module.Classes, a1.Module.Funcs, a1.Module.Certs⟩ : S_api_Module))  (hr0_1.pass0 s25) (hr0_2.pass0 s25) (hr0_3.pass0 s25) (hr1_1.pass0 s25) (hr1_2.pass0 s25) (hr1_3.pass0 s25) hx85) rfl fun v88 w89 q90 hS92 F91 => ?_
  obtain ⟨rfl, hq94⟩ := hS92
  have s93 := s25.add hq94
  refine st_pr F91 (PR.op (ex_not rfl) <| PR.op (ex_move rfl) <| PR.nil) fun q95 F96 => ?_
  refine bool_split (!x84) (fun hb97 => ?_) (fun hb97 => ?_)
  · replace H := ite_t hb97 H
    refine st_gskip F96 rfl rfl (look_b rfl hb97) Bool.noConfusion rfl rfl fun q98 F99 => ?_
    refine st_gskip F99 rfl rfl (look_b rfl hb97) Bool.noConfusion rfl rfl fun q100 F101 => ?_
    refine st_gskip F101 rfl rfl (look_b rfl hb97) Bool.noConfusion rfl rfl fun q102 F103 => ?_
    refine st_gskip F103 rfl rfl (look_b rfl hb97) Bool.noConfusion rfl rfl fun q104 F105 => ?_
    refine st_gskip F105 rfl rfl (look_b rfl hb97) Bool.noConfusion rfl rfl fun q106 F107 => ?_
    refine st_gskip F107 rfl rfl (look_b rfl hb97) Bool.noConfusion rfl rfl fun q108 F109 => ?_
    refine st_gskip F109 rfl rfl (look_b rfl hb97) Bool.noConfusion rfl rfl fun q110 F111 => ?_
    refine st_pr F111 (PR.op (ex_pick_t (ev_b rfl hb97) rfl) <| PR.nil) fun q112 F113 => ?_
    refine st_end ?_
    refine then_n ?_
    refine wp_if_t F113 rfl ?_
    refine wp_seq ?_
    refine wp_reg ?_
    refine st_pr F113 (PR.op (ex_asg rfl) <| PR.nil) fun q116 F117 => ?_
    refine st_end ?_
    refine then_n ?_
    obtain rfl := some_ok H
    refine wp_ret ?_
    refine then_r ?_
    refine ret_gen (rs := [.tmp 4]) (vs := [.bool false]) F117 (by rfl) ⟨_, _, rfl, RV.tmp rfl, rfl⟩ ⟨_, rfl, ⟨rfl, s93.drop.drop⟩⟩
  · replace H := ite_f hb97 H
    refine st_gop F96 rfl rfl (look_b rfl hb97) (ex_fab Fx.fa46_1 rfl rfl) rfl rfl fun q118 F119 => ?_
    refine st_gop F119 rfl rfl (look_b rfl hb97) (ex_ld Fx.nag44 rfl (s93.blk_cell (.tail _ <| .head _) rfl)) rfl rfl fun q120 F121 => ?_
    refine st_gop F121 rfl rfl (look_b rfl hb97) (ex_len rfl Try.underlying44 (formL (rdL hr0_4 s93))) rfl rfl fun q122 F123 => ?_
    refine st_gop F123 rfl rfl (look_b rfl hb97) (ex_fab Fx.fa46_1 rfl rfl) rfl rfl fun q124 F125 => ?_
    refine st_gop F125 rfl rfl (look_b rfl hb97) (ex_ld Fx.nag44 rfl (s93.blk_cell (.head _) rfl)) rfl rfl fun q126 F127 => ?_
    refine st_gop F127 rfl rfl (look_b rfl hb97) (ex_len rfl Try.underlying44 (formL (rdL hr1_4 s93))) rfl rfl fun q128 F129 => ?_
    refine st_gop F129 rfl rfl (look_b rfl hb97) (ex_ne rfl rfl) rfl rfl fun q130 F131 => ?_
    refine st_pr F131 (PR.op (ex_pick_f (ev_b rfl hb97) rfl) <| PR.nil) fun q132 F133 => ?_
    refine st_end ?_
    refine then_n ?_
    refine wp_if F133 rfl (fun hb134 => ?_) (fun hb134 => ?_)
    · replace H := ite_t hb134 H
      refine wp_seq ?_
      refine wp_reg ?_
      refine st_pr F133 (PR.op (ex_asg rfl) <| PR.nil) fun q137 F138 => ?_
      refine st_end ?_
      refine then_n ?_
      obtain rfl := some_ok H
      refine wp_ret ?_
      refine then_r ?_
      refine ret_gen (rs := [.tmp 4]) (vs := [.bool false]) F138 (by rfl) ⟨_, _, rfl, RV.tmp rfl, rfl⟩ ⟨_, rfl, ⟨rfl, s93.drop.drop⟩⟩
    · replace H := ite_f hb134 H
      refine wp_skip ?_
      refine then_n ?_
      refine wp_seq ?_
      refine wp_seq ?_
      refine wp_reg ?_
      refine st_pr F133 (PR.op (ex_fab Fx.fa46_1 rfl rfl) <| PR.op (ex_ld Fx.nag44 rfl (s93.blk_cell (.tail _ <| .head _) rfl)) <| PR.op (ex_len rfl Try.underlying44 (formL (rdL hr0_4 s93))) <| PR.op (ex_move rfl) <| PR.nil) fun q1748 F1749 => ?_
      refine st_end ?_
      refine then_n ?_
      obtain ⟨o2547, H2548, R2549⟩ := bind_ok H
      clear H
      refine wp_cutn (fun a w_ => ∃ p2550 : Unit, o2547 = .inr (p2550) ∧ Fr a 52 [] ∧ SL w [] w_ []) ?_ ?_
      · have H := H2548
        refine wp_block ?_
        refine wp_lp (provisolaw18_samePart_b0 a0 a1) (fun s2551 a w_ => Fr a 52 [(3, .pointer (some ⟨g21, 0, none⟩)), (23, v0_4), (24, .int .i64 (a0.Imports.length : Int)), (25, .int .i64 s2551)] ∧ SL w [] w_ [Blk g21 46 [.string ⟨⟨a1.Module.Name⟩⟩, v1_1, v1_2, v1_3, v1_4]]) H ?_ ?_
        · exact ⟨F1749.sub ⟨rfl, rfl, rfl, rfl, trivial⟩, s93.f1.drop⟩
        · intro s2551 q3149 w3150 hI3151 o3148 H hr
          obtain ⟨F3146, s3147⟩ := hI3151
          replace H : provisolaw18_samePart_b0 a0 a1 s2551 = some o3148 := H
          unfold provisolaw18_samePart_b0 at H
          refine wp_seq ?_
          refine wp_reg ?_
          refine st_pr F3146 (PR.op (ex_lt rfl rfl) <| PR.nil) fun q3154 F3155 => ?_
          refine st_end ?_
          refine then_n ?_
          refine wp_seq ?_
          refine wp_if F3155 rfl (fun hb3157 => ?_) (fun hb3157 => ?_)
          · replace H := ite_t hb3157 H
            refine wp_skip ?_
            refine then_n ?_
            refine wp_seq ?_
            refine wp_block ?_
            refine wp_seq ?_
            refine wp_reg ?_
            obtain ⟨x3278, hx3279, H⟩ := bind_ok H
            obtain ⟨ad3280, cs3283, G3284, hi3281, hc3282, hr3285, hG3286⟩ := Rd.idx hr0_4 Fx.sl44 rfl hx3279
            obtain ⟨v3287, rfl, hr3288⟩ := (R_api_Import hr3285 hG3286)
            replace hc3282 := hc3282 _ _ s3147
            refine st_pr F3155 (PR.op (ex_move rfl) <| PR.op (hi3281 _ _ _ _ _ _ _ _ _ _ rfl rfl) <| PR.op (ex_ldagg Fx.agg77 rfl hc3282 rfl) <| PR.nil) fun q3289 F3290 => ?_
            refine st_alloc F3290 s3147 Fx.zero77 rfl rfl fun g3291 w3292 q3293 F3294 s3295 => ?_
            refine st_pr F3294 (PR.op (ex_asg rfl) <| PR.nil) fun q3297 F3298 => ?_
            have s3303 := s3295
            refine st_storea F3298 s3303 rfl rfl Fx.sz77 (one_cons rfl (one_cons (form_one (formL (rdL hr3288 s3303))) (one_cons rfl one_nil))) (Nat.le_of_ble_eq_true rfl) fun w3299 q3300 F3301 s3302 => ?_
            replace s3302 : SL w [] w3299 [Blk g3291 77 [.string ⟨⟨x3278.Name⟩⟩, v3287, .int .u8 (x3278.Sig.Result.toNat : Int)], Blk g21 46 [.string ⟨⟨a1.Module.Name⟩⟩, v1_1, v1_2, v1_3, v1_4]] := s3302
            refine st_end ?_
            refine then_n ?_
            refine wp_seq ?_
            obtain ⟨x3304, hx3305, H⟩ := bind_ok H
            obtain ⟨ad3306, cs3309, G3310, hi3307, hc3308, hr3311, hG3312⟩ := Rd.idx hr1_4 Fx.sl44 rfl hx3305
            obtain ⟨v3313, rfl, hr3314⟩ := (R_api_Import hr3311 hG3312)
            have hc3308_ := hc3308; clear hc3308; have hc3308 := fun w_ (hC : SL w [] w_ [Blk g3291 77 [.string ⟨⟨x3278.Name⟩⟩, v3287, .int .u8 (x3278.Sig.Result.toNat : Int)], Blk g21 46 [.string ⟨⟨a1.Module.Name⟩⟩, v1_1, v1_2, v1_3, v1_4]]) => hc3308_ _ _ hC
            refine bool_split (x3278.Name != x3304.Name) (fun hb3315 => ?_) (fun hb3315 => ?_)
            · replace H := ite_t hb3315 H
              refine wp_regq (fun w_ => SL w [] w_ [Blk g3291 77 [.string ⟨⟨x3278.Name⟩⟩, v3287, .int .u8 (x3278.Sig.Result.toNat : Int)], Blk g21 46 [.string ⟨⟨a1.Module.Name⟩⟩, v1_1, v1_2, v1_3, v1_4]]) Fx.mixed (by kernel_rfl) s3302.drew F3301 (QR.op (fun _ hC => ex_fab Fx.fa77_0 rfl rfl) <| QR.op (fun _ hC => ex_ld Fx.nag9 rfl (hC.blk_cell (.head _) rfl)) <| QR.op (fun _ hC => ex_fab Fx.fa46_1 rfl rfl) <| QR.op (fun _ hC => ex_ld Fx.nag44 rfl (hC.blk_cell (.tail _ <| .head _) rfl)) <| QR.op (fun _ hC => ex_move rfl) <| QR.op (fun _ hC => hi3307 _ _ _ _ _ _ _ _ _ _ rfl rfl) <| QR.op (fun _ hC => ex_fa Fx.fa77_0 rfl) <| QR.op (fun _ hC => ex_ld Fx.nag9 rfl (Cells.at_ (hc3308 _ hC) (o := 0) rfl)) <| QR.op (fun _ hC => ex_sne rfl rfl) <| QR.op (fun _ hC => ex_move rfl) <| QR.gskip rfl rfl (look_b rfl hb3315) Bool.noConfusion <| QR.gskip rfl rfl (look_b rfl hb3315) Bool.noConfusion <| QR.gskip rfl rfl (look_b rfl hb3315) Bool.noConfusion <| QR.gskip rfl rfl (look_b rfl hb3315) Bool.noConfusion <| QR.gskip rfl rfl (look_b rfl hb3315) Bool.noConfusion <| QR.gskip rfl rfl (look_b rfl hb3315) Bool.noConfusion <| QR.gskip rfl rfl (look_b rfl hb3315) Bool.noConfusion <| QR.gskip rfl rfl (look_b rfl hb3315) Bool.noConfusion <| QR.gskip rfl rfl (look_b rfl hb3315) Bool.noConfusion <| QR.gskip rfl rfl (look_b rfl hb3315) Bool.noConfusion <| QR.op (fun _ hC => ex_pick_t (ev_b rfl hb3315) rfl) <| QR.nil) fun w3319 q3317 s3316 F3318 => ?_
              refine then_n ?_
              refine wp_if_t F3318 rfl ?_
              refine wp_seq ?_
              refine wp_reg ?_
              refine st_pr F3318 (PR.op (ex_asg rfl) <| PR.nil) fun q3322 F3323 => ?_
              refine st_end ?_
              refine then_n ?_
              obtain rfl := some_ok H
              obtain rfl := hr _ rfl
              replace H := R2549
              dsimp only at H
              obtain rfl := some_ok H
              refine wp_ret ?_
              refine blk_r <| then_r <| then_r <| blk_r <| then_r <| then_r ?_
              refine ret_gen (rs := [.tmp 4]) (vs := [.bool false]) F3323 (by rfl) ⟨_, _, rfl, RV.tmp rfl, rfl⟩ ⟨_, rfl, ⟨rfl, s3316.drop.drop⟩⟩
            · replace H := ite_f hb3315 H
              obtain ⟨x3324, hx3325, H⟩ := bind_ok H
              obtain ⟨ad3326, cs3329, G3330, hi3327, hc3328, hr3331, hG3332⟩ := Rd.idx hr1_4 Fx.sl44 rfl hx3325
              obtain ⟨v3333, rfl, hr3334⟩ := (R_api_Import hr3331 hG3332)
              have hc3328_ := hc3328; clear hc3328; have hc3328 := fun w_ (hC : SL w [] w_ [Blk g3291 77 [.string ⟨⟨x3278.Name⟩⟩, v3287, .int .u8 (x3278.Sig.Result.toNat : Int)], Blk g21 46 [.string ⟨⟨a1.Module.Name⟩⟩, v1_1, v1_2, v1_3, v1_4]]) => hc3328_ _ _ hC
              obtain ⟨x3335, hx3336, H⟩ := bind_ok H
              refine wp_regq (fun w_ => SL w [] w_ [Blk g3291 77 [.string ⟨⟨x3278.Name⟩⟩, v3287, .int .u8 (x3278.Sig.Result.toNat : Int)], Blk g21 46 [.string ⟨⟨a1.Module.Name⟩⟩, v1_1, v1_2, v1_3, v1_4]]) Fx.mixed (by kernel_rfl) s3302.drew F3301 (QR.op (fun _ hC => ex_fab Fx.fa77_0 rfl rfl) <| QR.op (fun _ hC => ex_ld Fx.nag9 rfl (hC.blk_cell (.head _) rfl)) <| QR.op (fun _ hC => ex_fab Fx.fa46_1 rfl rfl) <| QR.op (fun _ hC => ex_ld Fx.nag44 rfl (hC.blk_cell (.tail _ <| .head _) rfl)) <| QR.op (fun _ hC => ex_move rfl) <| QR.op (fun _ hC => hi3307 _ _ _ _ _ _ _ _ _ _ rfl rfl) <| QR.op (fun _ hC => ex_fa Fx.fa77_0 rfl) <| QR.op (fun _ hC => ex_ld Fx.nag9 rfl (Cells.at_ (hc3308 _ hC) (o := 0) rfl)) <| QR.op (fun _ hC => ex_sne rfl rfl) <| QR.op (fun _ hC => ex_move rfl) <| QR.gop (fun _ hC => ex_fab Fx.fa77_1 rfl rfl) rfl rfl (look_b rfl hb3315) <| QR.gop (fun _ hC => ex_ldagg Fx.agg54 rfl (hC.blk_cells (.head _) (o := 1) (ds := [v3287, .int .u8 (x3278.Sig.Result.toNat : Int)]) (subcells _ rfl)) rfl) rfl rfl (look_b rfl hb3315) <| QR.gop (fun _ hC => ex_fab Fx.fa46_1 rfl rfl) rfl rfl (look_b rfl hb3315) <| QR.gop (fun _ hC => ex_ld Fx.nag44 rfl (hC.blk_cell (.tail _ <| .head _) rfl)) rfl rfl (look_b rfl hb3315) <| QR.gop (fun _ hC => ex_move rfl) rfl rfl (look_b rfl hb3315) <| QR.gop (fun _ hC => hi3327 _ _ _ _ _ _ _ _ _ _ rfl rfl) rfl rfl (look_b rfl hb3315) <| QR.gop (fun _ hC => ex_fa Fx.fa77_1 rfl) rfl rfl (look_b rfl hb3315) <| QR.gop (fun _ hC => ex_ldagg Fx.agg54 rfl (Cells.sub (hc3328 _ hC) 1 (ds := [v3333, .int .u8 (x3324.Sig.Result.toNat : Int)]) (subcells _ rfl)) rfl) rfl rfl (look_b rfl hb3315) <| QR.gcall rfl (look_b rfl hb3315) (args := [.tmp 41, .tmp 47]) Fx.fn40 rfl (fun _ hC => quiet_c (provisoplain_SameSig_c (a0 := (⟨x3278.Sig.Params, x3278.Sig.Result⟩ : S_api_Sig)) (a1 := (⟨x3324.Sig.Params, x3324.Sig.Result⟩ : S_api_Sig)) (hr3288.pass0 hC) (hr3334.pass0 hC) hx3336) hC) <| QR.gop (fun _ hC => ex_not rfl) rfl rfl (look_b rfl hb3315) <| QR.op (fun _ hC => ex_pick_f (ev_b rfl hb3315) rfl) <| QR.nil) fun w3340 q3338 s3337 F3339 => ?_
              refine then_n ?_
              refine wp_if F3339 rfl (fun hb3341 => ?_) (fun hb3341 => ?_)
              · replace H := ite_t hb3341 H
                refine wp_seq ?_
                refine wp_reg ?_
                refine st_pr F3339 (PR.op (ex_asg rfl) <| PR.nil) fun q3344 F3345 => ?_
                refine st_end ?_
                refine then_n ?_
                obtain rfl := some_ok H
                obtain rfl := hr _ rfl
                replace H := R2549
                dsimp only at H
                obtain rfl := some_ok H
                refine wp_ret ?_
                refine blk_r <| then_r <| then_r <| blk_r <| then_r <| then_r ?_
                refine ret_gen (rs := [.tmp 4]) (vs := [.bool false]) F3345 (by rfl) ⟨_, _, rfl, RV.tmp rfl, rfl⟩ ⟨_, rfl, ⟨rfl, s3337.drop.drop⟩⟩
              · replace H := ite_f hb3341 H
                refine wp_skip ?_
                refine blk_n ?_
                refine then_n ?_
                refine wp_reg ?_
                refine st_pr F3339 (PR.op (ex_add rfl rfl) <| PR.op (ex_move rfl) <| PR.nil) fun q3346 F3347 => ?_
                refine st_end ?_
                obtain rfl := some_ok H
                refine then_n ?_
                exact ⟨_, rfl, F3347.sub ⟨rfl, rfl, rfl, rfl, trivial⟩, s3337.drop⟩
          · replace H := ite_f hb3157 H
            refine wp_exit ?_
            refine then_x <| then_x <| blk_hit ?_
            obtain rfl := some_ok H
            obtain rfl := hr _ rfl
            refine then_n ?_
            exact ⟨_, rfl, F3155.sub trivial, s3147.drop⟩
      · intro q3350 w3351 hJ
        obtain ⟨p2550, rfl, F3348, s3349⟩ := hJ
        have H := R2549
        clear R2549 H2548
        dsimp only at H
        refine then_n ?_
        refine wp_seq ?_
        refine wp_reg ?_
        refine st_pr F3348 (PR.op (ex_asg rfl) <| PR.nil) fun q3354 F3355 => ?_
        refine st_end ?_
        refine then_n ?_
        obtain rfl := some_ok H
        refine wp_ret ?_
        refine ret_gen (rs := [.tmp 4]) (vs := [.bool true]) F3355 (by rfl) ⟨_, _, rfl, RV.tmp rfl, rfl⟩ ⟨_, rfl, ⟨rfl, s3349⟩⟩
end Go.Proofs.Ytmeodoidfpcjlaa
