/- The walk of proviso/provisoref18.Free. -/
import Derived.Test.YtmeodoidfpcjlaaFx
import Derived.Test.YtmeodoidfpcjlaaDf
import Derived.Test.YtmeodoidfpcjlaaC26
set_option linter.unusedVariables false
set_option linter.unusedSimpArgs false
namespace Go.Proofs.Ytmeodoidfpcjlaa
open Go Go.RowKit Go.Pv
theorem provisoref18_Free_c {w : World} {v0_1 v0_2 v0_3 v0_4 : Value} {a0 : S_api_Part} {r : (List Int) × Int × Int} (hr0_1 : Rd T_api_Class w [] v0_1 a0.Module.Classes) (hr0_2 : Rd T_api_Func w [] v0_2 a0.Module.Funcs) (hr0_3 : Rd (Ty.slice Ty.u8) w [] v0_3 a0.Module.Certs) (hr0_4 : Rd T_api_Import w [] v0_4 a0.Imports) (H : provisoref18_Free a0 = some r) :
    Calls Try.prog 21 #[.agg ⟨[.string ⟨⟨a0.Module.Name⟩⟩, v0_1, v0_2, v0_3, v0_4]⟩] w (Ret fun u_ w_ => ∃ u0 : Value, u_ = .tuple ⟨[u0, .int .i64 r.2.1, .int .i64 r.2.2]⟩ ∧ SL w [] w_ [Sl (Ty.int .i64) u0 r.1]) := by
  have s0 : SL w [] w [] := SL.init0 w
  refine call_enter Try.func21 rfl Try.ntmps21 (Nat.le_of_ble_eq_true rfl) (args := [.agg ⟨[.string ⟨⟨a0.Module.Name⟩⟩, v0_1, v0_2, v0_3, v0_4]⟩]) fun q0 F0 => ?_
  unfold provisoref18_Free at H
  refine wp_seq ?_
  refine wp_reg ?_
  refine st_box F0 s0 rfl rfl rfl fun g9 w10 q11 F12 s13 => ?_
  refine st_pr F12 (PR.op (ex_asg rfl) <| PR.op (ex_asg rfl) <| PR.op (ex_asg rfl) <| PR.nil) fun q15 F16 => ?_
  refine st_end ?_
  refine then_n ?_
  refine wp_seq ?_
  refine wp_reg ?_
  obtain ⟨x29, hx30, H⟩ := bind_ok H
  refine st_pr F16 (PR.op (ex_fab Fx.fa46_1 rfl rfl) <| PR.op (ex_ld Fx.nag44 rfl (s13.blk_cell (.head _) rfl)) <| PR.op (ex_len rfl Try.underlying44 (formL (rdL hr0_4 s13))) <| PR.nil) fun q31 F32 => ?_
  refine st_make Flat.bool false F32 s13 Fx.sl93 rfl rfl Fx.zero4 rfl rfl rfl hx30 rfl fun v33 w34 q35 F36 s37 => ?_
  refine st_pr F36 (PR.op (ex_asg rfl) <| PR.nil) fun q39 F40 => ?_
  refine st_end ?_
  refine then_n ?_
  refine wp_seq ?_
  refine wp_seq ?_
  refine wp_reg ?_
  refine st_pr F40 (PR.op (ex_asg rfl) <| PR.nil) fun q25164 F25165 => ?_
  refine st_end ?_
  refine then_n ?_
  obtain ⟨o37719, H37720, R37721⟩ := bind_ok H
  clear H
  refine wp_cutn (fun a w_ => ∃ p37722 : (List Bool), o37719 = .inr (p37722) ∧ ∃ v37723 : Value, Fr a 93 [(5, v37723)] ∧ SL w [] w_ [Sl Ty.bool v37723 p37722]) ?_ ?_
  · have H := H37720
    refine wp_block ?_
    refine wp_lp (provisoref18_Free_b1 a0) (fun s37725 a w_ => ∃ v44000 : Value, Fr a 93 [(1, .pointer (some ⟨g9, 0, none⟩)), (5, v44000), (6, .int .i64 s37725.2)] ∧ SL w [] w_ [Blk g9 46 [.string ⟨⟨a0.Module.Name⟩⟩, v0_1, v0_2, v0_3, v0_4], Sl Ty.bool v44000 s37725.1]) H ?_ ?_
    · exact ⟨v33, F25165.sub ⟨rfl, rfl, rfl, trivial⟩, s37.f1⟩
    · intro s37725 q47141 w47142 hI47143 o47140 H hr
      obtain ⟨v44000, F47138, s47139⟩ := hI47143
      replace H : provisoref18_Free_b1 a0 s37725 = some o47140 := H
      unfold provisoref18_Free_b1 at H
      refine wp_seq ?_
      refine wp_seq ?_
      refine wp_reg ?_
      refine st_pr F47138 (PR.op (ex_move rfl) <| PR.op (ex_fab Fx.fa46_0 rfl rfl) <| PR.op (ex_fab Fx.fa43_2 rfl rfl) <| PR.op (ex_ld Fx.nag41 rfl (s47139.blk_cell (.head _) rfl)) <| PR.op (ex_len rfl Try.underlying41 (formL (rdL hr0_2 s47139))) <| PR.op (ex_lt rfl rfl) <| PR.nil) fun q47151 F47152 => ?_
      refine st_end ?_
      refine then_n ?_
      refine wp_if F47152 rfl (fun hb47153 => ?_) (fun hb47153 => ?_)
      · replace H := ite_t hb47153 H
        refine wp_skip ?_
        refine then_n ?_
        refine wp_seq ?_
        refine wp_block ?_
        refine wp_seq ?_
        refine wp_reg ?_
        obtain ⟨x48743, hx48744, H⟩ := bind_ok H
        obtain ⟨ad48745, cs48748, G48749, hi48746, hc48747, hr48750, hG48751⟩ := Rd.idx hr0_2 Fx.sl41 rfl hx48744
        obtain ⟨v48752, v48754, rfl, hr48753, hr48755⟩ := (R_api_Func hr48750 hG48751)
        replace hc48747 := hc48747 _ _ s47139
        obtain ⟨x48756, hx48757, H⟩ := bind_ok H
        refine st_pr F47152 (PR.op (ex_fab Fx.fa46_0 rfl rfl) <| PR.op (ex_fab Fx.fa43_2 rfl rfl) <| PR.op (ex_ld Fx.nag41 rfl (s47139.blk_cell (.head _) rfl)) <| PR.op (ex_move rfl) <| PR.op (hi48746 _ _ _ _ _ _ _ _ _ _ rfl rfl) <| PR.op (ex_fa Fx.fa56_3 rfl) <| PR.op (ex_ld Fx.nag22 rfl (Cells.at_ hc48747 (o := 4) rfl)) <| PR.nil) fun q48758 F48759 => ?_
        refine st_call (args := [.tmp 33]) F48759 Fx.fn26 rfl (provisoref05_Scan_c (a0 := x48743.Code)  (hr48755.pass0 s47139) hx48757) rfl fun v48760 w48761 q48762 hS48764 F48763 => ?_
        obtain ⟨v48767, rfl, hq48766⟩ := hS48764
        have s48765 := s47139.add hq48766
        refine st_pr F48763 (PR.op (ex_move rfl) <| PR.op (ex_extract (v := v48767) rfl rfl) <| PR.op (ex_extract (v := .int .i64 x48756.2.1) rfl rfl) <| PR.op (ex_extract (v := .int .i64 x48756.2.2) rfl rfl) <| PR.op (ex_asg rfl) <| PR.op (ex_asg rfl) <| PR.op (ex_asg rfl) <| PR.nil) fun q48769 F48770 => ?_
        refine st_end ?_
        refine then_n ?_
        refine wp_seq ?_
        refine wp_seq ?_
        refine wp_reg ?_
        refine st_pr F48770 (PR.op (ex_move rfl) <| PR.op (ex_ne rfl rfl) <| PR.nil) fun q48782 F48783 => ?_
        refine st_end ?_
        refine then_n ?_
        refine wp_if F48783 rfl (fun hb48784 => ?_) (fun hb48784 => ?_)
        · replace H := ite_t hb48784 H
          refine wp_seq ?_
          refine wp_reg ?_
          refine st_pr F48783 (PR.op (ex_move rfl) <| PR.op (ex_move rfl) <| PR.op (ex_asg rfl) <| PR.op (ex_asg rfl) <| PR.op (ex_asg rfl) <| PR.nil) fun q48787 F48788 => ?_
          refine st_end ?_
          refine then_n ?_
          obtain rfl := some_ok H
          obtain rfl := hr _ rfl
          replace H := R37721
          dsimp only at H
          obtain rfl := some_ok H
          refine wp_ret ?_
          refine then_r <| blk_r <| then_r <| then_r <| blk_r <| then_r <| then_r ?_
          refine ret_gen (rs := [.tmp 2, .tmp 3, .tmp 4]) (vs := [.slice none 0 0, .int .i64 s37725.2, .int .i64 x48756.2.2]) F48788 (by rfl) ⟨_, _, rfl, RV.tmp rfl, _, _, rfl, RV.tmp rfl, _, _, rfl, RV.tmp rfl, rfl⟩ ⟨_, rfl, ⟨(.slice none 0 0), rfl, (SL.nilSl (T := (Ty.int .i64)) s48765).f1.drop.f1.drop.f1.drop⟩⟩
        · replace H := ite_f hb48784 H
          refine wp_skip ?_
          refine then_n ?_
          refine wp_seq ?_
          refine wp_reg ?_
          refine st_pr F48783 (PR.op (ex_asg rfl) <| PR.nil) fun q48791 F48792 => ?_
          refine st_end ?_
          refine then_n ?_
          obtain ⟨o49530, H49531, R49532⟩ := bind_ok H
          clear H
          refine wp_cutn (fun a w_ => ∃ v49533 : Value, Fr a 93 [(1, .pointer (some ⟨g9, 0, none⟩)), (5, v49533), (6, .int .i64 s37725.2)] ∧ SL w [] w_ [Blk g9 46 [.string ⟨⟨a0.Module.Name⟩⟩, v0_1, v0_2, v0_3, v0_4], Sl Ty.bool v49533 o49530]) ?_ ?_
          · have H := H49531
            refine wp_block ?_
            refine wp_lp (provisoref18_Free_b0 a0 x48756) (fun s49535 a w_ => ∃ v49902 : Value, Fr a 93 [(1, .pointer (some ⟨g9, 0, none⟩)), (5, v49902), (6, .int .i64 s37725.2), (7, v48767), (10, .int .i64 s49535.2)] ∧ SL w [] w_ [Sl T_api_Instr v48767 x48756.1, Blk g9 46 [.string ⟨⟨a0.Module.Name⟩⟩, v0_1, v0_2, v0_3, v0_4], Sl Ty.bool v49902 s49535.1]) H ?_ ?_
            · exact ⟨v44000, F48792.sub ⟨rfl, rfl, rfl, rfl, rfl, trivial⟩, s48765⟩
            · intro s49535 q50089 w50090 hI50091 o50088 H hr
              obtain ⟨v49902, F50086, s50087⟩ := hI50091
              replace H : provisoref18_Free_b0 a0 x48756 s49535 = some o50088 := H
              unfold provisoref18_Free_b0 at H
              refine wp_seq ?_
              refine wp_seq ?_
              refine wp_reg ?_
              refine st_pr F50086 (PR.op (ex_move rfl) <| PR.op (ex_move rfl) <| PR.op (ex_len rfl Try.underlying67 (formL (s50087.own_rd (.head _)))) <| PR.op (ex_lt rfl rfl) <| PR.nil) fun q50099 F50100 => ?_
              refine st_end ?_
              refine then_n ?_
              refine wp_if F50100 rfl (fun hb50101 => ?_) (fun hb50101 => ?_)
              · replace H := ite_t hb50101 H
                refine wp_skip ?_
                refine then_n ?_
                refine wp_seq ?_
                refine wp_block ?_
                refine wp_seq ?_
                obtain ⟨x50192, hx50193, H⟩ := bind_ok H
                obtain ⟨ad50194, hi50195, hc50196⟩ := idxC (C := fun w_ => SL w [] w_ [Sl T_api_Instr v48767 x48756.1, Blk g9 46 [.string ⟨⟨a0.Module.Name⟩⟩, v0_1, v0_2, v0_3, v0_4], Sl Ty.bool v49902 s49535.1]) F_api_Instr (fun _ hC => (hC.own_rd (.head _))) s50087 Fx.sl67 rfl hx50193
                refine wp_regq (fun w_ => SL w [] w_ [Sl T_api_Instr v48767 x48756.1, Blk g9 46 [.string ⟨⟨a0.Module.Name⟩⟩, v0_1, v0_2, v0_3, v0_4], Sl Ty.bool v49902 s49535.1]) Fx.mixed (by kernel_rfl) s50087.drew F50100 (QR.op (fun _ hC => ex_move rfl) <| QR.op (fun _ hC => ex_move rfl) <| QR.op (fun _ hC => hi50195 _ _ _ _ _ _ _ _ _ _ rfl rfl) <| QR.op (fun _ hC => ex_fa Fx.fa90_2 rfl) <| QR.op (fun _ hC => ex_ld Fx.nag3 rfl (Cells.at_ (hc50196 _ hC) (o := 2) rfl)) <| QR.op (fun _ hC => ex_fab Fx.fa46_0 rfl rfl) <| QR.op (fun _ hC => ex_fab Fx.fa43_2 rfl rfl) <| QR.op (fun _ hC => ex_ld Fx.nag41 rfl (hC.blk_cell (.tail _ <| .head _) rfl)) <| QR.op (fun _ hC => ex_len rfl Try.underlying41 (formL (rdL hr0_2 hC))) <| QR.op (fun _ hC => ex_sub rfl rfl) <| QR.op (fun _ hC => ex_asg rfl) <| QR.nil) fun w50200 q50198 s50197 F50199 => ?_
                refine then_n ?_
                refine wp_seq ?_
                refine wp_reg ?_
                obtain ⟨x50201, hx50202, H⟩ := bind_ok H
                obtain ⟨ad50203, hi50204, he50205⟩ := own_idx F_api_Instr s50197 (.head _) Fx.sl67 rfl hx50202
                refine st_pr F50199 (PR.op (ex_move rfl) <| PR.op (ex_move rfl) <| PR.op (hi50204 _ _ _ _ _ _ _ _ _ _ rfl rfl) <| PR.op (ex_fa Fx.fa90_1 rfl) <| PR.op (ex_ld Fx.nag5 rfl (Cells.at_ (SL.elcells F_api_Instr s50197 (.head _) he50205 hx50202) (o := 1) rfl)) <| PR.op (ex_cv864 rfl Try.underlying5 Try.underlying3) <| PR.op (ex_eq rfl rfl) <| PR.op (ex_move rfl) <| PR.nil) fun q50206 F50207 => ?_
                refine bool_split ((x50201.Op.toNat : Int) == 21) (fun hb50208 => ?_) (fun hb50208 => ?_)
                · replace H := ite_t hb50208 H
                  refine st_gop F50207 rfl rfl (look_b rfl hb50208) (ex_move rfl) rfl rfl fun q50209 F50210 => ?_
                  refine st_gop F50210 rfl rfl (look_b rfl hb50208) (ex_ge rfl rfl) rfl rfl fun q50211 F50212 => ?_
                  refine st_pr F50212 (PR.op (ex_pick_t (ev_b rfl hb50208) rfl) <| PR.op (ex_move rfl) <| PR.nil) fun q50213 F50214 => ?_
                  refine bool_split (decide ((wr (x50192.A - (a0.Module.Funcs.length : Int))) ≥ 0)) (fun hb50215 => ?_) (fun hb50215 => ?_)
                  · replace H := ite_t hb50215 H
                    refine st_gop F50214 rfl rfl (look_b rfl hb50215) (ex_move rfl) rfl rfl fun q50216 F50217 => ?_
                    refine st_gop F50217 rfl rfl (look_b rfl hb50215) (ex_move rfl) rfl rfl fun q50218 F50219 => ?_
                    refine st_gop F50219 rfl rfl (look_b rfl hb50215) (ex_len rfl Try.underlying93 (formL (s50197.own_rd (.tail _ <| .tail _ <| .head _)))) rfl rfl fun q50220 F50221 => ?_
                    refine st_gop F50221 rfl rfl (look_b rfl hb50215) (ex_lt rfl rfl) rfl rfl fun q50222 F50223 => ?_
                    refine st_pr F50223 (PR.op (ex_pick_t (ev_b rfl hb50215) rfl) <| PR.nil) fun q50224 F50225 => ?_
                    refine st_end ?_
                    refine then_n ?_
                    refine wp_if F50225 rfl (fun hb50226 => ?_) (fun hb50226 => ?_)
                    · replace H := ite_t hb50226 H
                      refine wp_reg ?_
                      obtain ⟨x50227, hx50228, H⟩ := bind_ok H
                      obtain ⟨ad50229, hi50230, he50231⟩ := own_idx Flat.bool s50197 (.tail _ <| .tail _ <| .head _) Fx.sl93 rfl hx50228
                      refine st_pr F50225 (PR.op (ex_move rfl) <| PR.op (ex_move rfl) <| PR.op (hi50230 _ _ _ _ _ _ _ _ _ _ rfl rfl) <| PR.nil) fun q50232 F50233 => ?_
                      refine st_setel (y' := true) Flat.bool F50233 s50197.f2 he50231 hx50228 rfl rfl (by rfl) Fx.sz4 fun w50234 q50235 F50236 s50237 => ?_
                      refine st_end ?_
                      refine blk_n ?_
                      refine then_n ?_
                      refine wp_reg ?_
                      refine st_pr F50236 (PR.op (ex_move rfl) <| PR.op (ex_add rfl rfl) <| PR.op (ex_asg rfl) <| PR.nil) fun q50238 F50239 => ?_
                      refine st_end ?_
                      obtain rfl := some_ok H
                      refine then_n ?_
                      exact ⟨_, rfl, v49902, F50239.sub ⟨rfl, rfl, rfl, rfl, rfl, trivial⟩, s50237.f2.f2⟩
                    · replace H := ite_f hb50226 H
                      refine wp_skip ?_
                      refine blk_n ?_
                      refine then_n ?_
                      refine wp_reg ?_
                      refine st_pr F50225 (PR.op (ex_move rfl) <| PR.op (ex_add rfl rfl) <| PR.op (ex_asg rfl) <| PR.nil) fun q50240 F50241 => ?_
                      refine st_end ?_
                      obtain rfl := some_ok H
                      refine then_n ?_
                      exact ⟨_, rfl, v49902, F50241.sub ⟨rfl, rfl, rfl, rfl, rfl, trivial⟩, s50197⟩
                  · replace H := ite_f hb50215 H
                    refine st_gskip F50214 rfl rfl (look_b rfl hb50215) Bool.noConfusion rfl rfl fun q50242 F50243 => ?_
                    refine st_gskip F50243 rfl rfl (look_b rfl hb50215) Bool.noConfusion rfl rfl fun q50244 F50245 => ?_
                    refine st_gskip F50245 rfl rfl (look_b rfl hb50215) Bool.noConfusion rfl rfl fun q50246 F50247 => ?_
                    refine st_gskip F50247 rfl rfl (look_b rfl hb50215) Bool.noConfusion rfl rfl fun q50248 F50249 => ?_
                    refine st_pr F50249 (PR.op (ex_pick_f (ev_b rfl hb50215) rfl) <| PR.nil) fun q50250 F50251 => ?_
                    refine st_end ?_
                    refine then_n ?_
                    refine wp_if_f F50251 rfl ?_
                    refine wp_skip ?_
                    refine blk_n ?_
                    refine then_n ?_
                    refine wp_reg ?_
                    refine st_pr F50251 (PR.op (ex_move rfl) <| PR.op (ex_add rfl rfl) <| PR.op (ex_asg rfl) <| PR.nil) fun q50252 F50253 => ?_
                    refine st_end ?_
                    obtain rfl := some_ok H
                    refine then_n ?_
                    exact ⟨_, rfl, v49902, F50253.sub ⟨rfl, rfl, rfl, rfl, rfl, trivial⟩, s50197⟩
                · replace H := ite_f hb50208 H
                  refine st_gskip F50207 rfl rfl (look_b rfl hb50208) Bool.noConfusion rfl rfl fun q50254 F50255 => ?_
                  refine st_gskip F50255 rfl rfl (look_b rfl hb50208) Bool.noConfusion rfl rfl fun q50256 F50257 => ?_
                  refine st_pr F50257 (PR.op (ex_pick_f (ev_b rfl hb50208) rfl) <| PR.op (ex_move rfl) <| PR.nil) fun q50258 F50259 => ?_
                  refine st_gskip F50259 rfl rfl rfl Bool.noConfusion rfl rfl fun q50260 F50261 => ?_
                  refine st_gskip F50261 rfl rfl rfl Bool.noConfusion rfl rfl fun q50262 F50263 => ?_
                  refine st_gskip F50263 rfl rfl rfl Bool.noConfusion rfl rfl fun q50264 F50265 => ?_
                  refine st_gskip F50265 rfl rfl rfl Bool.noConfusion rfl rfl fun q50266 F50267 => ?_
                  refine st_pr F50267 (PR.op (ex_pick_f rfl rfl) <| PR.nil) fun q50268 F50269 => ?_
                  refine st_end ?_
                  refine then_n ?_
                  refine wp_if_f F50269 rfl ?_
                  refine wp_skip ?_
                  refine blk_n ?_
                  refine then_n ?_
                  refine wp_reg ?_
                  refine st_pr F50269 (PR.op (ex_move rfl) <| PR.op (ex_add rfl rfl) <| PR.op (ex_asg rfl) <| PR.nil) fun q50270 F50271 => ?_
                  refine st_end ?_
                  obtain rfl := some_ok H
                  refine then_n ?_
                  exact ⟨_, rfl, v49902, F50271.sub ⟨rfl, rfl, rfl, rfl, rfl, trivial⟩, s50197⟩
              · replace H := ite_f hb50101 H
                refine wp_exit ?_
                refine then_x <| then_x <| blk_hit ?_
                obtain rfl := some_ok H
                obtain rfl := hr _ rfl
                refine then_n ?_
                exact ⟨v49902, F50100.sub ⟨rfl, rfl, rfl, trivial⟩, s50087.drop⟩
          · intro q50274 w50275 hJ
            obtain ⟨v49533, F50272, s50273⟩ := hJ
            have H := R49532
            clear R49532 H49531
            refine blk_n ?_
            refine then_n ?_
            refine wp_reg ?_
            refine st_pr F50272 (PR.op (ex_move rfl) <| PR.op (ex_add rfl rfl) <| PR.op (ex_asg rfl) <| PR.nil) fun q50276 F50277 => ?_
            refine st_end ?_
            obtain rfl := some_ok H
            refine then_n ?_
            exact ⟨_, rfl, v49533, F50277.sub ⟨rfl, rfl, rfl, trivial⟩, s50273⟩
      · replace H := ite_f hb47153 H
        refine wp_exit ?_
        refine then_x <| then_x <| blk_hit ?_
        obtain rfl := some_ok H
        obtain rfl := hr _ rfl
        refine then_n ?_
        exact ⟨_, rfl, v44000, F47152.sub ⟨rfl, trivial⟩, s47139.drop⟩
  · intro q50280 w50281 hJ
    obtain ⟨p37722, rfl, v37723, F50278, s50279⟩ := hJ
    have H := R37721
    clear R37721 H37720
    dsimp only at H
    refine then_n ?_
    refine wp_seq ?_
    refine wp_reg ?_
    refine st_pr F50278 (PR.op (ex_asg rfl) <| PR.nil) fun q50284 F50285 => ?_
    refine st_end ?_
    refine then_n ?_
    refine wp_seq ?_
    refine wp_seq ?_
    refine wp_reg ?_
    refine st_pr F50285 (PR.op (ex_asg rfl) <| PR.nil) fun q50979 F50980 => ?_
    refine st_end ?_
    refine then_n ?_
    obtain ⟨o51320, H51321, R51322⟩ := bind_ok H
    clear H
    refine wp_cutn (fun a w_ => ∃ v51323 : Value, Fr a 93 [(12, v51323)] ∧ SL w [] w_ [Sl (Ty.int .i64) v51323 o51320]) ?_ ?_
    · have H := H51321
      refine wp_block ?_
      refine wp_lp (provisoref18_Free_b2 p37722) (fun s51325 a w_ => ∃ v51494 : Value, Fr a 93 [(5, v37723), (12, v51494), (13, .int .i64 s51325.2)] ∧ SL w [] w_ [Sl Ty.bool v37723 p37722, Sl (Ty.int .i64) v51494 s51325.1]) H ?_ ?_
      · exact ⟨(.slice none 0 0), F50980.sub ⟨rfl, rfl, rfl, trivial⟩, (SL.nilSl (T := (Ty.int .i64)) s50279).f1⟩
      · intro s51325 q51581 w51582 hI51583 o51580 H hr
        obtain ⟨v51494, F51578, s51579⟩ := hI51583
        replace H : provisoref18_Free_b2 p37722 s51325 = some o51580 := H
        unfold provisoref18_Free_b2 at H
        refine wp_seq ?_
        refine wp_seq ?_
        refine wp_reg ?_
        refine st_pr F51578 (PR.op (ex_move rfl) <| PR.op (ex_move rfl) <| PR.op (ex_len rfl Try.underlying93 (formL (s51579.own_rd (.head _)))) <| PR.op (ex_lt rfl rfl) <| PR.nil) fun q51591 F51592 => ?_
        refine st_end ?_
        refine then_n ?_
        refine wp_if F51592 rfl (fun hb51593 => ?_) (fun hb51593 => ?_)
        · replace H := ite_t hb51593 H
          refine wp_skip ?_
          refine then_n ?_
          refine wp_seq ?_
          refine wp_block ?_
          refine wp_seq ?_
          refine wp_reg ?_
          obtain ⟨x51634, hx51635, H⟩ := bind_ok H
          obtain ⟨ad51636, hi51637, he51638⟩ := own_idx Flat.bool s51579 (.head _) Fx.sl93 rfl hx51635
          refine st_pr F51592 (PR.op (ex_move rfl) <| PR.op (ex_move rfl) <| PR.op (hi51637 _ _ _ _ _ _ _ _ _ _ rfl rfl) <| PR.op (ex_ld Fx.nag4 rfl (Cells.at_ (SL.elcells Flat.bool s51579 (.head _) he51638 hx51635) (o := 0) rfl)) <| PR.nil) fun q51639 F51640 => ?_
          refine st_end ?_
          refine then_n ?_
          refine wp_if F51640 rfl (fun hb51641 => ?_) (fun hb51641 => ?_)
          · replace H := ite_t hb51641 H
            refine wp_reg ?_
            refine st_pr F51640 (PR.op (ex_move rfl) <| PR.op (ex_move rfl) <| PR.nil) fun q51642 F51643 => ?_
            refine st_bslice (parts := [(0, .tmp 89)]) (Flat.int .i64) ([s51325.2] : List Int) F51643 s51579 Fx.sl57 rfl (by decide) rfl rfl rfl (by simp [Value.cells]) rfl rfl rfl fun v51644 w51645 q51646 F51647 s51648 => ?_
            obtain ⟨x51650, hx51651, H⟩ := bind_ok H
            have s51657 := s51648.f2
            obtain ⟨_, hr_⟩ := (s51657.own_rd (.tail _ <| .head _))
            refine st_append_rd (Flat.int .i64) F51647 s51657 Fx.sl57 rfl rfl rfl rfl hr_ rfl rfl hx51651 rfl fun v51652 w51653 q51654 F51655 s51656 => ?_
            have s51656' := s51656.f1.drop
            refine st_pr F51655 (PR.op (ex_asg rfl) <| PR.nil) fun q51658 F51659 => ?_
            refine st_end ?_
            refine blk_n ?_
            refine then_n ?_
            refine wp_reg ?_
            refine st_pr F51659 (PR.op (ex_move rfl) <| PR.op (ex_add rfl rfl) <| PR.op (ex_asg rfl) <| PR.nil) fun q51660 F51661 => ?_
            refine st_end ?_
            obtain rfl := some_ok H
            refine then_n ?_
            exact ⟨_, rfl, v51652, F51661.sub ⟨rfl, rfl, rfl, trivial⟩, s51656'.f1⟩
          · replace H := ite_f hb51641 H
            refine wp_skip ?_
            refine blk_n ?_
            refine then_n ?_
            refine wp_reg ?_
            refine st_pr F51640 (PR.op (ex_move rfl) <| PR.op (ex_add rfl rfl) <| PR.op (ex_asg rfl) <| PR.nil) fun q51662 F51663 => ?_
            refine st_end ?_
            obtain rfl := some_ok H
            refine then_n ?_
            exact ⟨_, rfl, v51494, F51663.sub ⟨rfl, rfl, rfl, trivial⟩, s51579⟩
        · replace H := ite_f hb51593 H
          refine wp_exit ?_
          refine then_x <| then_x <| blk_hit ?_
          obtain rfl := some_ok H
          obtain rfl := hr _ rfl
          refine then_n ?_
          exact ⟨v51494, F51592.sub ⟨rfl, trivial⟩, s51579.drop⟩
    · intro q51666 w51667 hJ
      obtain ⟨v51323, F51664, s51665⟩ := hJ
      have H := R51322
      clear R51322 H51321
      refine then_n ?_
      refine wp_seq ?_
      refine wp_reg ?_
      refine st_pr F51664 (PR.op (ex_move rfl) <| PR.op (ex_asg rfl) <| PR.op (ex_asg rfl) <| PR.op (ex_asg rfl) <| PR.nil) fun q51670 F51671 => ?_
      refine st_end ?_
      refine then_n ?_
      obtain rfl := some_ok H
      refine wp_ret ?_
      refine ret_gen (rs := [.tmp 2, .tmp 3, .tmp 4]) (vs := [v51323, .int .i64 0, .int .i64 0]) F51671 (by rfl) ⟨_, _, rfl, RV.tmp rfl, _, _, rfl, RV.tmp rfl, _, _, rfl, RV.tmp rfl, rfl⟩ ⟨_, rfl, ⟨v51323, rfl, s51665⟩⟩
end Go.Proofs.Ytmeodoidfpcjlaa
