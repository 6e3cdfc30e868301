/- The walk of proviso/provisoplain.SameModule. -/
import Derived.Test.YtmeodoidfpcjlaaFx
import Derived.Test.YtmeodoidfpcjlaaDf
import Derived.Test.YtmeodoidfpcjlaaC30
import Derived.Test.YtmeodoidfpcjlaaC32
import Derived.Test.YtmeodoidfpcjlaaC58
set_option linter.unusedVariables false
set_option linter.unusedSimpArgs false
namespace Go.Proofs.Ytmeodoidfpcjlaa
open Go Go.RowKit Go.Pv
theorem provisoplain_SameModule_c {w : World} {v0_1 v0_2 v0_3 v1_1 v1_2 v1_3 : Value} {a0 : S_api_Module} {a1 : S_api_Module} {r : Bool} (hr0_1 : Rd T_api_Class w [] v0_1 a0.Classes) (hr0_2 : Rd T_api_Func w [] v0_2 a0.Funcs) (hr0_3 : Rd (Ty.slice Ty.u8) w [] v0_3 a0.Certs) (hr1_1 : Rd T_api_Class w [] v1_1 a1.Classes) (hr1_2 : Rd T_api_Func w [] v1_2 a1.Funcs) (hr1_3 : Rd (Ty.slice Ty.u8) w [] v1_3 a1.Certs) (H : provisoplain_SameModule a0 a1 = some r) :
    Calls Try.prog 39 #[.agg ⟨[.string ⟨⟨a0.Name⟩⟩, v0_1, v0_2, v0_3]⟩, .agg ⟨[.string ⟨⟨a1.Name⟩⟩, v1_1, v1_2, v1_3]⟩] w (Ret fun u_ w_ => u_ = .bool r ∧ SL w [] w_ []) := by
  have s0 : SL w [] w [] := SL.init0 w
  refine call_enter Try.func39 rfl Try.ntmps39 (Nat.le_of_ble_eq_true rfl) (args := [.agg ⟨[.string ⟨⟨a0.Name⟩⟩, v0_1, v0_2, v0_3]⟩, .agg ⟨[.string ⟨⟨a1.Name⟩⟩, v1_1, v1_2, v1_3]⟩]) fun q0 F0 => ?_
  unfold provisoplain_SameModule at H
  refine wp_seq ?_
  refine wp_reg ?_
  refine st_box F0 s0 rfl rfl rfl fun g15 w16 q17 F18 s19 => ?_
  refine st_box F18 s19 rfl rfl rfl fun g21 w22 q23 F24 s25 => ?_
  refine st_pr F24 (PR.op (ex_asg rfl) <| PR.nil) fun q27 F28 => ?_
  refine st_end ?_
  refine then_n ?_
  refine wp_seq ?_
  refine wp_seq ?_
  refine wp_reg ?_
  refine st_pr F28 (PR.op (ex_fab Fx.fa43_0 rfl rfl) <| PR.op (ex_ld Fx.nag9 rfl (s25.blk_cell (.tail _ <| .head _) rfl)) <| PR.op (ex_fab Fx.fa43_0 rfl rfl) <| PR.op (ex_ld Fx.nag9 rfl (s25.blk_cell (.head _) rfl)) <| PR.op (ex_sne rfl rfl) <| PR.op (ex_move rfl) <| PR.nil) fun q198 F199 => ?_
  refine bool_split (a0.Name != a1.Name) (fun hb200 => ?_) (fun hb200 => ?_)
  · replace H := ite_t hb200 H
    refine st_gskip F199 rfl rfl (look_b rfl hb200) Bool.noConfusion rfl rfl fun q201 F202 => ?_
    refine st_gskip F202 rfl rfl (look_b rfl hb200) Bool.noConfusion rfl rfl fun q203 F204 => ?_
    refine st_gskip F204 rfl rfl (look_b rfl hb200) Bool.noConfusion rfl rfl fun q205 F206 => ?_
    refine st_gskip F206 rfl rfl (look_b rfl hb200) Bool.noConfusion rfl rfl fun q207 F208 => ?_
    refine st_gskip F208 rfl rfl (look_b rfl hb200) Bool.noConfusion rfl rfl fun q209 F210 => ?_
    refine st_gskip F210 rfl rfl (look_b rfl hb200) Bool.noConfusion rfl rfl fun q211 F212 => ?_
    refine st_pr F212 (PR.op (ex_pick_t (ev_b rfl hb200) rfl) <| PR.op (ex_move rfl) <| PR.nil) fun q213 F214 => ?_
    refine st_gskip F214 rfl rfl rfl Bool.noConfusion rfl rfl fun q215 F216 => ?_
    refine st_gskip F216 rfl rfl rfl Bool.noConfusion rfl rfl fun q217 F218 => ?_
    refine st_gskip F218 rfl rfl rfl Bool.noConfusion rfl rfl fun q219 F220 => ?_
    refine st_gskip F220 rfl rfl rfl Bool.noConfusion rfl rfl fun q221 F222 => ?_
    refine st_gskip F222 rfl rfl rfl Bool.noConfusion rfl rfl fun q223 F224 => ?_
    refine st_gskip F224 rfl rfl rfl Bool.noConfusion rfl rfl fun q225 F226 => ?_
    refine st_gskip F226 rfl rfl rfl Bool.noConfusion rfl rfl fun q227 F228 => ?_
    refine st_pr F228 (PR.op (ex_pick_t rfl rfl) <| PR.op (ex_move rfl) <| PR.nil) fun q229 F230 => ?_
    refine st_gskip F230 rfl rfl rfl Bool.noConfusion rfl rfl fun q231 F232 => ?_
    refine st_gskip F232 rfl rfl rfl Bool.noConfusion rfl rfl fun q233 F234 => ?_
    refine st_gskip F234 rfl rfl rfl Bool.noConfusion rfl rfl fun q235 F236 => ?_
    refine st_gskip F236 rfl rfl rfl Bool.noConfusion rfl rfl fun q237 F238 => ?_
    refine st_gskip F238 rfl rfl rfl Bool.noConfusion rfl rfl fun q239 F240 => ?_
    refine st_gskip F240 rfl rfl rfl Bool.noConfusion rfl rfl fun q241 F242 => ?_
    refine st_gskip F242 rfl rfl rfl Bool.noConfusion rfl rfl fun q243 F244 => ?_
    refine st_pr F244 (PR.op (ex_pick_t rfl rfl) <| PR.nil) fun q245 F246 => ?_
    refine st_end ?_
    refine then_n ?_
    refine wp_if_t F246 rfl ?_
    refine wp_seq ?_
    refine wp_reg ?_
    refine st_pr F246 (PR.op (ex_asg rfl) <| PR.nil) fun q249 F250 => ?_
    refine st_end ?_
    refine then_n ?_
    obtain rfl := some_ok H
    refine wp_ret ?_
    refine then_r ?_
    refine ret_gen (rs := [.tmp 4]) (vs := [.bool false]) F250 (by rfl) ⟨_, _, rfl, RV.tmp rfl, rfl⟩ ⟨_, rfl, ⟨rfl, s25.drop.drop⟩⟩
  · replace H := ite_f hb200 H
    refine st_gop F199 rfl rfl (look_b rfl hb200) (ex_fab Fx.fa43_1 rfl rfl) rfl rfl fun q251 F252 => ?_
    refine st_gop F252 rfl rfl (look_b rfl hb200) (ex_ld Fx.nag40 rfl (s25.blk_cell (.tail _ <| .head _) rfl)) rfl rfl fun q253 F254 => ?_
    refine st_gop F254 rfl rfl (look_b rfl hb200) (ex_fab Fx.fa43_1 rfl rfl) rfl rfl fun q255 F256 => ?_
    refine st_gop F256 rfl rfl (look_b rfl hb200) (ex_ld Fx.nag40 rfl (s25.blk_cell (.head _) rfl)) rfl rfl fun q257 F258 => ?_
    obtain ⟨x259, hx260, H⟩ := bind_ok H
    refine st_ungd F258 rfl (look_b rfl hb200) ?_
    refine st_call (args := [.tmp 14, .tmp 16]) F258 Fx.fn58 rfl (provisoplain_SameClasses_c (a0 := a0.Classes) (a1 := a1.Classes)  (hr0_1.pass0 s25) (hr1_1.pass0 s25) hx260) rfl fun v261 w262 q263 hS265 F264 => ?_
    obtain ⟨rfl, hq267⟩ := hS265
    have s266 := s25.add hq267
    refine st_gop F264 rfl rfl (look_b rfl hb200) (ex_not rfl) rfl rfl fun q268 F269 => ?_
    refine st_pr F269 (PR.op (ex_pick_f (ev_b rfl hb200) rfl) <| PR.op (ex_move rfl) <| PR.nil) fun q270 F271 => ?_
    refine bool_split (!x259) (fun hb272 => ?_) (fun hb272 => ?_)
    · replace H := ite_t hb272 H
      refine st_gskip F271 rfl rfl (look_b rfl hb272) Bool.noConfusion rfl rfl fun q273 F274 => ?_
      refine st_gskip F274 rfl rfl (look_b rfl hb272) Bool.noConfusion rfl rfl fun q275 F276 => ?_
      refine st_gskip F276 rfl rfl (look_b rfl hb272) Bool.noConfusion rfl rfl fun q277 F278 => ?_
      refine st_gskip F278 rfl rfl (look_b rfl hb272) Bool.noConfusion rfl rfl fun q279 F280 => ?_
      refine st_gskip F280 rfl rfl (look_b rfl hb272) Bool.noConfusion rfl rfl fun q281 F282 => ?_
      refine st_gskip F282 rfl rfl (look_b rfl hb272) Bool.noConfusion rfl rfl fun q283 F284 => ?_
      refine st_gskip F284 rfl rfl (look_b rfl hb272) Bool.noConfusion rfl rfl fun q285 F286 => ?_
      refine st_pr F286 (PR.op (ex_pick_t (ev_b rfl hb272) rfl) <| PR.op (ex_move rfl) <| PR.nil) fun q287 F288 => ?_
      refine st_gskip F288 rfl rfl rfl Bool.noConfusion rfl rfl fun q289 F290 => ?_
      refine st_gskip F290 rfl rfl rfl Bool.noConfusion rfl rfl fun q291 F292 => ?_
      refine st_gskip F292 rfl rfl rfl Bool.noConfusion rfl rfl fun q293 F294 => ?_
      refine st_gskip F294 rfl rfl rfl Bool.noConfusion rfl rfl fun q295 F296 => ?_
      refine st_gskip F296 rfl rfl rfl Bool.noConfusion rfl rfl fun q297 F298 => ?_
      refine st_gskip F298 rfl rfl rfl Bool.noConfusion rfl rfl fun q299 F300 => ?_
      refine st_gskip F300 rfl rfl rfl Bool.noConfusion rfl rfl fun q301 F302 => ?_
      refine st_pr F302 (PR.op (ex_pick_t rfl rfl) <| PR.nil) fun q303 F304 => ?_
      refine st_end ?_
      refine then_n ?_
      refine wp_if_t F304 rfl ?_
      refine wp_seq ?_
      refine wp_reg ?_
      refine st_pr F304 (PR.op (ex_asg rfl) <| PR.nil) fun q307 F308 => ?_
      refine st_end ?_
      refine then_n ?_
      obtain rfl := some_ok H
      refine wp_ret ?_
      refine then_r ?_
      refine ret_gen (rs := [.tmp 4]) (vs := [.bool false]) F308 (by rfl) ⟨_, _, rfl, RV.tmp rfl, rfl⟩ ⟨_, rfl, ⟨rfl, s266.drop.drop⟩⟩
    · replace H := ite_f hb272 H
      refine st_gop F271 rfl rfl (look_b rfl hb272) (ex_fab Fx.fa43_2 rfl rfl) rfl rfl fun q309 F310 => ?_
      refine st_gop F310 rfl rfl (look_b rfl hb272) (ex_ld Fx.nag41 rfl (s266.blk_cell (.tail _ <| .head _) rfl)) rfl rfl fun q311 F312 => ?_
      refine st_gop F312 rfl rfl (look_b rfl hb272) (ex_len rfl Try.underlying41 (formL (rdL hr0_2 s266))) rfl rfl fun q313 F314 => ?_
      refine st_gop F314 rfl rfl (look_b rfl hb272) (ex_fab Fx.fa43_2 rfl rfl) rfl rfl fun q315 F316 => ?_
      refine st_gop F316 rfl rfl (look_b rfl hb272) (ex_ld Fx.nag41 rfl (s266.blk_cell (.head _) rfl)) rfl rfl fun q317 F318 => ?_
      refine st_gop F318 rfl rfl (look_b rfl hb272) (ex_len rfl Try.underlying41 (formL (rdL hr1_2 s266))) rfl rfl fun q319 F320 => ?_
      refine st_gop F320 rfl rfl (look_b rfl hb272) (ex_ne rfl rfl) rfl rfl fun q321 F322 => ?_
      refine st_pr F322 (PR.op (ex_pick_f (ev_b rfl hb272) rfl) <| PR.op (ex_move rfl) <| PR.nil) fun q323 F324 => ?_
      refine bool_split ((a0.Funcs.length : Int) != (a1.Funcs.length : Int)) (fun hb325 => ?_) (fun hb325 => ?_)
      · replace H := ite_t hb325 H
        refine st_gskip F324 rfl rfl (look_b rfl hb325) Bool.noConfusion rfl rfl fun q326 F327 => ?_
        refine st_gskip F327 rfl rfl (look_b rfl hb325) Bool.noConfusion rfl rfl fun q328 F329 => ?_
        refine st_gskip F329 rfl rfl (look_b rfl hb325) Bool.noConfusion rfl rfl fun q330 F331 => ?_
        refine st_gskip F331 rfl rfl (look_b rfl hb325) Bool.noConfusion rfl rfl fun q332 F333 => ?_
        refine st_gskip F333 rfl rfl (look_b rfl hb325) Bool.noConfusion rfl rfl fun q334 F335 => ?_
        refine st_gskip F335 rfl rfl (look_b rfl hb325) Bool.noConfusion rfl rfl fun q336 F337 => ?_
        refine st_gskip F337 rfl rfl (look_b rfl hb325) Bool.noConfusion rfl rfl fun q338 F339 => ?_
        refine st_pr F339 (PR.op (ex_pick_t (ev_b rfl hb325) rfl) <| PR.nil) fun q340 F341 => ?_
        refine st_end ?_
        refine then_n ?_
        refine wp_if_t F341 rfl ?_
        refine wp_seq ?_
        refine wp_reg ?_
        refine st_pr F341 (PR.op (ex_asg rfl) <| PR.nil) fun q344 F345 => ?_
        refine st_end ?_
        refine then_n ?_
        obtain rfl := some_ok H
        refine wp_ret ?_
        refine then_r ?_
        refine ret_gen (rs := [.tmp 4]) (vs := [.bool false]) F345 (by rfl) ⟨_, _, rfl, RV.tmp rfl, rfl⟩ ⟨_, rfl, ⟨rfl, s266.drop.drop⟩⟩
      · replace H := ite_f hb325 H
        refine st_gop F324 rfl rfl (look_b rfl hb325) (ex_fab Fx.fa43_3 rfl rfl) rfl rfl fun q346 F347 => ?_
        refine st_gop F347 rfl rfl (look_b rfl hb325) (ex_ld Fx.nag29 rfl (s266.blk_cell (.tail _ <| .head _) rfl)) rfl rfl fun q348 F349 => ?_
        refine st_gop F349 rfl rfl (look_b rfl hb325) (ex_len rfl Try.underlying29 (formL (rdL hr0_3 s266))) rfl rfl fun q350 F351 => ?_
        refine st_gop F351 rfl rfl (look_b rfl hb325) (ex_fab Fx.fa43_3 rfl rfl) rfl rfl fun q352 F353 => ?_
        refine st_gop F353 rfl rfl (look_b rfl hb325) (ex_ld Fx.nag29 rfl (s266.blk_cell (.head _) rfl)) rfl rfl fun q354 F355 => ?_
        refine st_gop F355 rfl rfl (look_b rfl hb325) (ex_len rfl Try.underlying29 (formL (rdL hr1_3 s266))) rfl rfl fun q356 F357 => ?_
        refine st_gop F357 rfl rfl (look_b rfl hb325) (ex_ne rfl rfl) rfl rfl fun q358 F359 => ?_
        refine st_pr F359 (PR.op (ex_pick_f (ev_b rfl hb325) rfl) <| PR.nil) fun q360 F361 => ?_
        refine st_end ?_
        refine then_n ?_
        refine wp_if F361 rfl (fun hb362 => ?_) (fun hb362 => ?_)
        · replace H := ite_t hb362 H
          refine wp_seq ?_
          refine wp_reg ?_
          refine st_pr F361 (PR.op (ex_asg rfl) <| PR.nil) fun q365 F366 => ?_
          refine st_end ?_
          refine then_n ?_
          obtain rfl := some_ok H
          refine wp_ret ?_
          refine then_r ?_
          refine ret_gen (rs := [.tmp 4]) (vs := [.bool false]) F366 (by rfl) ⟨_, _, rfl, RV.tmp rfl, rfl⟩ ⟨_, rfl, ⟨rfl, s266.drop.drop⟩⟩
        · replace H := ite_f hb362 H
          refine wp_skip ?_
          refine then_n ?_
          refine wp_seq ?_
          refine wp_seq ?_
          refine wp_reg ?_
          refine st_pr F361 (PR.op (ex_fab Fx.fa43_2 rfl rfl) <| PR.op (ex_ld Fx.nag41 rfl (s266.blk_cell (.tail _ <| .head _) rfl)) <| PR.op (ex_len rfl Try.underlying41 (formL (rdL hr0_2 s266))) <| PR.op (ex_move rfl) <| PR.nil) fun q1640 F1641 => ?_
          refine st_end ?_
          refine then_n ?_
          obtain ⟨o2271, H2272, R2273⟩ := bind_ok H
          clear H
          refine wp_cutn (fun a w_ => ∃ p2274 : Unit, o2271 = .inr (p2274) ∧ Fr a 76 [(2, .pointer (some ⟨g15, 0, none⟩)), (3, .pointer (some ⟨g21, 0, none⟩))] ∧ SL w [] w_ [Blk g21 43 [.string ⟨⟨a1.Name⟩⟩, v1_1, v1_2, v1_3], Blk g15 43 [.string ⟨⟨a0.Name⟩⟩, v0_1, v0_2, v0_3]]) ?_ ?_
          · have H := H2272
            refine wp_block ?_
            refine wp_lp (provisoplain_SameModule_b0 a0 a1) (fun s2275 a w_ => Fr a 76 [(2, .pointer (some ⟨g15, 0, none⟩)), (3, .pointer (some ⟨g21, 0, none⟩)), (40, .int .i64 (a0.Funcs.length : Int)), (41, .int .i64 s2275)] ∧ SL w [] w_ [Blk g21 43 [.string ⟨⟨a1.Name⟩⟩, v1_1, v1_2, v1_3], Blk g15 43 [.string ⟨⟨a0.Name⟩⟩, v0_1, v0_2, v0_3]]) H ?_ ?_
            · exact ⟨F1641.sub ⟨rfl, rfl, rfl, rfl, trivial⟩, s266⟩
            · intro s2275 q2747 w2748 hI2749 o2746 H hr
              obtain ⟨F2744, s2745⟩ := hI2749
              replace H : provisoplain_SameModule_b0 a0 a1 s2275 = some o2746 := H
              unfold provisoplain_SameModule_b0 at H
              refine wp_seq ?_
              refine wp_reg ?_
              refine st_pr F2744 (PR.op (ex_lt rfl rfl) <| PR.nil) fun q2752 F2753 => ?_
              refine st_end ?_
              refine then_n ?_
              refine wp_seq ?_
              refine wp_if F2753 rfl (fun hb2755 => ?_) (fun hb2755 => ?_)
              · replace H := ite_t hb2755 H
                refine wp_skip ?_
                refine then_n ?_
                refine wp_seq ?_
                refine wp_block ?_
                refine wp_seq ?_
                refine wp_reg ?_
                refine st_pr F2753 (PR.op (ex_move rfl) <| PR.op (ex_asg rfl) <| PR.nil) fun q2831 F2832 => ?_
                refine st_end ?_
                refine then_n ?_
                refine wp_seq ?_
                obtain ⟨x2865, hx2866, H⟩ := bind_ok H
                obtain ⟨ad2867, cs2870, G2871, hi2868, hc2869, hr2872, hG2873⟩ := Rd.idx hr0_2 Fx.sl41 rfl hx2866
                obtain ⟨v2874, v2876, rfl, hr2875, hr2877⟩ := (R_api_Func hr2872 hG2873)
                have hc2869_ := hc2869; clear hc2869; have hc2869 := fun w_ (hC : SL w [] w_ [Blk g21 43 [.string ⟨⟨a1.Name⟩⟩, v1_1, v1_2, v1_3], Blk g15 43 [.string ⟨⟨a0.Name⟩⟩, v0_1, v0_2, v0_3]]) => hc2869_ _ _ hC
                obtain ⟨x2878, hx2879, H⟩ := bind_ok H
                obtain ⟨ad2880, cs2883, G2884, hi2881, hc2882, hr2885, hG2886⟩ := Rd.idx hr1_2 Fx.sl41 rfl hx2879
                obtain ⟨v2887, v2889, rfl, hr2888, hr2890⟩ := (R_api_Func hr2885 hG2886)
                have hc2882_ := hc2882; clear hc2882; have hc2882 := fun w_ (hC : SL w [] w_ [Blk g21 43 [.string ⟨⟨a1.Name⟩⟩, v1_1, v1_2, v1_3], Blk g15 43 [.string ⟨⟨a0.Name⟩⟩, v0_1, v0_2, v0_3]]) => hc2882_ _ _ hC
                obtain ⟨x2891, hx2892, H⟩ := bind_ok H
                refine wp_regq (fun w_ => SL w [] w_ [Blk g21 43 [.string ⟨⟨a1.Name⟩⟩, v1_1, v1_2, v1_3], Blk g15 43 [.string ⟨⟨a0.Name⟩⟩, v0_1, v0_2, v0_3]]) Fx.mixed (by kernel_rfl) s2745.drew F2832 (QR.op (fun _ hC => ex_fab Fx.fa43_2 rfl rfl) <| QR.op (fun _ hC => ex_ld Fx.nag41 rfl (hC.blk_cell (.tail _ <| .head _) rfl)) <| QR.op (fun _ hC => ex_move rfl) <| QR.op (fun _ hC => hi2868 _ _ _ _ _ _ _ _ _ _ rfl rfl) <| QR.op (fun _ hC => ex_ldagg Fx.agg56 rfl (hc2869 _ hC) rfl) <| QR.op (fun _ hC => ex_fab Fx.fa43_2 rfl rfl) <| QR.op (fun _ hC => ex_ld Fx.nag41 rfl (hC.blk_cell (.head _) rfl)) <| QR.op (fun _ hC => ex_move rfl) <| QR.op (fun _ hC => hi2881 _ _ _ _ _ _ _ _ _ _ rfl rfl) <| QR.op (fun _ hC => ex_ldagg Fx.agg56 rfl (hc2882 _ hC) rfl) <| QR.call (args := [.tmp 48, .tmp 53]) Fx.fn30 rfl (fun _ hC => quiet_c (provisoplain_SameFunc_c (a0 := x2865) (a1 := x2878) (hr2875.pass0 hC) (hr2877.pass0 hC) (hr2888.pass0 hC) (hr2890.pass0 hC) hx2892) hC) <| QR.op (fun _ hC => ex_not rfl) <| QR.nil) fun w2896 q2894 s2893 F2895 => ?_
                refine then_n ?_
                refine wp_if F2895 rfl (fun hb2897 => ?_) (fun hb2897 => ?_)
                · replace H := ite_t hb2897 H
                  refine wp_seq ?_
                  refine wp_reg ?_
                  refine st_pr F2895 (PR.op (ex_asg rfl) <| PR.nil) fun q2900 F2901 => ?_
                  refine st_end ?_
                  refine then_n ?_
                  obtain rfl := some_ok H
                  obtain rfl := hr _ rfl
                  replace H := R2273
                  dsimp only at H
                  obtain rfl := some_ok H
                  refine wp_ret ?_
                  refine blk_r <| then_r <| then_r <| blk_r <| then_r <| then_r ?_
                  refine ret_gen (rs := [.tmp 4]) (vs := [.bool false]) F2901 (by rfl) ⟨_, _, rfl, RV.tmp rfl, rfl⟩ ⟨_, rfl, ⟨rfl, s2893.drop.drop⟩⟩
                · replace H := ite_f hb2897 H
                  refine wp_skip ?_
                  refine blk_n ?_
                  refine then_n ?_
                  refine wp_reg ?_
                  refine st_pr F2895 (PR.op (ex_add rfl rfl) <| PR.op (ex_move rfl) <| PR.nil) fun q2902 F2903 => ?_
                  refine st_end ?_
                  obtain rfl := some_ok H
                  refine then_n ?_
                  exact ⟨_, rfl, F2903.sub ⟨rfl, rfl, rfl, rfl, trivial⟩, s2893⟩
              · replace H := ite_f hb2755 H
                refine wp_exit ?_
                refine then_x <| then_x <| blk_hit ?_
                obtain rfl := some_ok H
                obtain rfl := hr _ rfl
                refine then_n ?_
                exact ⟨_, rfl, F2753.sub ⟨rfl, rfl, trivial⟩, s2745⟩
          · intro q2906 w2907 hJ
            obtain ⟨p2274, rfl, F2904, s2905⟩ := hJ
            have H := R2273
            clear R2273 H2272
            dsimp only at H
            refine then_n ?_
            refine wp_seq ?_
            refine wp_seq ?_
            refine wp_reg ?_
            refine st_pr F2904 (PR.op (ex_fab Fx.fa43_3 rfl rfl) <| PR.op (ex_ld Fx.nag29 rfl (s2905.blk_cell (.tail _ <| .head _) rfl)) <| PR.op (ex_len rfl Try.underlying29 (formL (rdL hr0_3 s2905))) <| PR.op (ex_move rfl) <| PR.nil) fun q4053 F4054 => ?_
            refine st_end ?_
            refine then_n ?_
            obtain ⟨o4620, H4621, R4622⟩ := bind_ok H
            clear H
            refine wp_cutn (fun a w_ => ∃ p4623 : Unit, o4620 = .inr (p4623) ∧ Fr a 76 [] ∧ SL w [] w_ []) ?_ ?_
            · have H := H4621
              refine wp_block ?_
              refine wp_lp (provisoplain_SameModule_b1 a0 a1) (fun s4624 a w_ => Fr a 76 [(2, .pointer (some ⟨g15, 0, none⟩)), (3, .pointer (some ⟨g21, 0, none⟩)), (59, .int .i64 (a0.Certs.length : Int)), (60, .int .i64 s4624)] ∧ SL w [] w_ [Blk g21 43 [.string ⟨⟨a1.Name⟩⟩, v1_1, v1_2, v1_3], Blk g15 43 [.string ⟨⟨a0.Name⟩⟩, v0_1, v0_2, v0_3]]) H ?_ ?_
              · exact ⟨F4054.sub ⟨rfl, rfl, rfl, rfl, trivial⟩, s2905⟩
              · intro s4624 q5048 w5049 hI5050 o5047 H hr
                obtain ⟨F5045, s5046⟩ := hI5050
                replace H : provisoplain_SameModule_b1 a0 a1 s4624 = some o5047 := H
                unfold provisoplain_SameModule_b1 at H
                refine wp_seq ?_
                refine wp_reg ?_
                refine st_pr F5045 (PR.op (ex_lt rfl rfl) <| PR.nil) fun q5053 F5054 => ?_
                refine st_end ?_
                refine then_n ?_
                refine wp_seq ?_
                refine wp_if F5054 rfl (fun hb5056 => ?_) (fun hb5056 => ?_)
                · replace H := ite_t hb5056 H
                  refine wp_skip ?_
                  refine then_n ?_
                  refine wp_seq ?_
                  refine wp_block ?_
                  refine wp_seq ?_
                  refine wp_reg ?_
                  refine st_pr F5054 (PR.op (ex_move rfl) <| PR.op (ex_asg rfl) <| PR.nil) fun q5124 F5125 => ?_
                  refine st_end ?_
                  refine then_n ?_
                  refine wp_seq ?_
                  obtain ⟨x5154, hx5155, H⟩ := bind_ok H
                  obtain ⟨ad5156, cs5159, G5160, hi5157, hc5158, hr5161, hG5162⟩ := Rd.idx hr0_3 Fx.sl29 rfl hx5155
                  obtain ⟨v5163, rfl, hr5164⟩ := (rd_sl hr5161 hG5162)
                  have hc5158_ := hc5158; clear hc5158; have hc5158 := fun w_ (hC : SL w [] w_ [Blk g21 43 [.string ⟨⟨a1.Name⟩⟩, v1_1, v1_2, v1_3], Blk g15 43 [.string ⟨⟨a0.Name⟩⟩, v0_1, v0_2, v0_3]]) => hc5158_ _ _ hC
                  obtain ⟨x5165, hx5166, H⟩ := bind_ok H
                  obtain ⟨ad5167, cs5170, G5171, hi5168, hc5169, hr5172, hG5173⟩ := Rd.idx hr1_3 Fx.sl29 rfl hx5166
                  obtain ⟨v5174, rfl, hr5175⟩ := (rd_sl hr5172 hG5173)
                  have hc5169_ := hc5169; clear hc5169; have hc5169 := fun w_ (hC : SL w [] w_ [Blk g21 43 [.string ⟨⟨a1.Name⟩⟩, v1_1, v1_2, v1_3], Blk g15 43 [.string ⟨⟨a0.Name⟩⟩, v0_1, v0_2, v0_3]]) => hc5169_ _ _ hC
                  obtain ⟨x5176, hx5177, H⟩ := bind_ok H
                  refine wp_regq (fun w_ => SL w [] w_ [Blk g21 43 [.string ⟨⟨a1.Name⟩⟩, v1_1, v1_2, v1_3], Blk g15 43 [.string ⟨⟨a0.Name⟩⟩, v0_1, v0_2, v0_3]]) Fx.mixed (by kernel_rfl) s5046.drew F5125 (QR.op (fun _ hC => ex_fab Fx.fa43_3 rfl rfl) <| QR.op (fun _ hC => ex_ld Fx.nag29 rfl (hC.blk_cell (.tail _ <| .head _) rfl)) <| QR.op (fun _ hC => ex_move rfl) <| QR.op (fun _ hC => hi5157 _ _ _ _ _ _ _ _ _ _ rfl rfl) <| QR.op (fun _ hC => ex_ld Fx.nag22 rfl (Cells.at_ (hc5158 _ hC) (o := 0) rfl)) <| QR.op (fun _ hC => ex_fab Fx.fa43_3 rfl rfl) <| QR.op (fun _ hC => ex_ld Fx.nag29 rfl (hC.blk_cell (.head _) rfl)) <| QR.op (fun _ hC => ex_move rfl) <| QR.op (fun _ hC => hi5168 _ _ _ _ _ _ _ _ _ _ rfl rfl) <| QR.op (fun _ hC => ex_ld Fx.nag22 rfl (Cells.at_ (hc5169 _ hC) (o := 0) rfl)) <| QR.call (args := [.tmp 67, .tmp 72]) Fx.fn32 rfl (fun _ hC => quiet_c (slices_Equal_byte_byte_c (a0 := x5154) (a1 := x5165) (hr5164.pass0 hC) (hr5175.pass0 hC) hx5177) hC) <| QR.op (fun _ hC => ex_not rfl) <| QR.nil) fun w5181 q5179 s5178 F5180 => ?_
                  refine then_n ?_
                  refine wp_if F5180 rfl (fun hb5182 => ?_) (fun hb5182 => ?_)
                  · replace H := ite_t hb5182 H
                    refine wp_seq ?_
                    refine wp_reg ?_
                    refine st_pr F5180 (PR.op (ex_asg rfl) <| PR.nil) fun q5185 F5186 => ?_
                    refine st_end ?_
                    refine then_n ?_
                    obtain rfl := some_ok H
                    obtain rfl := hr _ rfl
                    replace H := R4622
                    dsimp only at H
                    obtain rfl := some_ok H
                    refine wp_ret ?_
                    refine blk_r <| then_r <| then_r <| blk_r <| then_r <| then_r ?_
                    refine ret_gen (rs := [.tmp 4]) (vs := [.bool false]) F5186 (by rfl) ⟨_, _, rfl, RV.tmp rfl, rfl⟩ ⟨_, rfl, ⟨rfl, s5178.drop.drop⟩⟩
                  · replace H := ite_f hb5182 H
                    refine wp_skip ?_
                    refine blk_n ?_
                    refine then_n ?_
                    refine wp_reg ?_
                    refine st_pr F5180 (PR.op (ex_add rfl rfl) <| PR.op (ex_move rfl) <| PR.nil) fun q5187 F5188 => ?_
                    refine st_end ?_
                    obtain rfl := some_ok H
                    refine then_n ?_
                    exact ⟨_, rfl, F5188.sub ⟨rfl, rfl, rfl, rfl, trivial⟩, s5178⟩
                · replace H := ite_f hb5056 H
                  refine wp_exit ?_
                  refine then_x <| then_x <| blk_hit ?_
                  obtain rfl := some_ok H
                  obtain rfl := hr _ rfl
                  refine then_n ?_
                  exact ⟨_, rfl, F5054.sub trivial, s5046.drop.drop⟩
            · intro q5191 w5192 hJ
              obtain ⟨p4623, rfl, F5189, s5190⟩ := hJ
              have H := R4622
              clear R4622 H4621
              dsimp only at H
              refine then_n ?_
              refine wp_seq ?_
              refine wp_reg ?_
              refine st_pr F5189 (PR.op (ex_asg rfl) <| PR.nil) fun q5195 F5196 => ?_
              refine st_end ?_
              refine then_n ?_
              obtain rfl := some_ok H
              refine wp_ret ?_
              refine ret_gen (rs := [.tmp 4]) (vs := [.bool true]) F5196 (by rfl) ⟨_, _, rfl, RV.tmp rfl, rfl⟩ ⟨_, rfl, ⟨rfl, s5190⟩⟩
end Go.Proofs.Ytmeodoidfpcjlaa
