/- The walk of proviso/link.Free. -/
import Derived.Test.YtmeodoidfpcjlaaFx
import Derived.Test.YtmeodoidfpcjlaaDf
import Derived.Test.YtmeodoidfpcjlaaC27
import Derived.Test.YtmeodoidfpcjlaaC41
import Derived.Test.YtmeodoidfpcjlaaHs
set_option linter.unusedVariables false
set_option linter.unusedSimpArgs false
namespace Go.Proofs.Ytmeodoidfpcjlaa
open Go Go.RowKit Go.Pv
theorem link_Free_c {w : World} {v0_1 v0_2 v0_3 v0_4 : Value} {a0 : S_api_Part} {r : (List Int) × Int × Int} (hr0_1 : Rd T_api_Class w [] v0_1 a0.Module.Classes) (hr0_2 : Rd T_api_Func w [] v0_2 a0.Module.Funcs) (hr0_3 : Rd (Ty.slice Ty.u8) w [] v0_3 a0.Module.Certs) (hr0_4 : Rd T_api_Import w [] v0_4 a0.Imports) (H : link_Free a0 = some r) :
    Calls Try.prog 20 #[.agg ⟨[.string ⟨⟨a0.Module.Name⟩⟩, v0_1, v0_2, v0_3, v0_4]⟩] w (Ret fun u_ w_ => ∃ u0 : Value, u_ = .tuple ⟨[u0, .int .i64 r.2.1, .int .i64 r.2.2]⟩ ∧ SL w [] w_ [Sl (Ty.int .i64) u0 r.1]) := by
  have s0 : SL w [] w [] := SL.init0 w
  refine call_enter Try.func20 rfl Try.ntmps20 (Nat.le_of_ble_eq_true rfl) (args := [.agg ⟨[.string ⟨⟨a0.Module.Name⟩⟩, v0_1, v0_2, v0_3, v0_4]⟩]) fun q0 F0 => ?_
  unfold link_Free at H
  refine wp_seq ?_
  refine wp_reg ?_
  refine st_box F0 s0 rfl rfl rfl fun g9 w10 q11 F12 s13 => ?_
  refine st_pr F12 (PR.op (ex_asg rfl) <| PR.op (ex_asg rfl) <| PR.op (ex_asg rfl) <| PR.nil) fun q15 F16 => ?_
  refine st_end ?_
  refine then_n ?_
  refine wp_seq ?_
  refine wp_reg ?_
  refine st_pr F16 (PR.op (ex_asg rfl) <| PR.nil) fun q19 F20 => ?_
  refine st_end ?_
  refine then_n ?_
  refine wp_seq ?_
  refine wp_reg ?_
  refine st_pr F20 (PR.op (ex_fab Fx.fa46_0 rfl rfl) <| PR.op (ex_fab Fx.fa43_2 rfl rfl) <| PR.op (ex_ld Fx.nag41 rfl (s13.blk_cell (.head _) rfl)) <| PR.op (ex_len rfl Try.underlying41 (formL (rdL hr0_2 s13))) <| PR.op (ex_asg rfl) <| PR.nil) fun q23 F24 => ?_
  refine st_end ?_
  refine then_n ?_
  refine wp_seq ?_
  refine wp_seq ?_
  refine wp_reg ?_
  refine st_pr F24 (PR.op (ex_fab Fx.fa46_0 rfl rfl) <| PR.op (ex_fab Fx.fa43_2 rfl rfl) <| PR.op (ex_ld Fx.nag41 rfl (s13.blk_cell (.head _) rfl)) <| PR.op (ex_len rfl Try.underlying41 (formL (rdL hr0_2 s13))) <| PR.op (ex_move rfl) <| PR.nil) fun q45324 F45325 => ?_
  refine st_end ?_
  refine then_n ?_
  obtain ⟨o67967, H67968, R67969⟩ := bind_ok H
  clear H
  refine wp_cutn (fun a w_ => ∃ p67970 : (List Int), o67967 = .inr (p67970) ∧ ∃ v67971 : Value, Fr a 78 [(5, v67971)] ∧ SL w [] w_ [Sl (Ty.int .i64) v67971 p67970]) ?_ ?_
  · have H := H67968
    refine wp_block ?_
    refine wp_lp (link_Free_b1 a0) (fun s67973 a w_ => ∃ v79296 : Value, Fr a 78 [(1, .pointer (some ⟨g9, 0, none⟩)), (5, v79296), (6, .int .i64 (a0.Module.Funcs.length : Int)), (21, v0_2), (22, .int .i64 (a0.Module.Funcs.length : Int)), (23, .int .i64 s67973.2)] ∧ SL w [] w_ [Blk g9 46 [.string ⟨⟨a0.Module.Name⟩⟩, v0_1, v0_2, v0_3, v0_4], Sl (Ty.int .i64) v79296 s67973.1]) H ?_ ?_
    · exact ⟨(.slice none 0 0), F45325.sub ⟨rfl, rfl, rfl, rfl, rfl, rfl, trivial⟩, (SL.nilSl (T := (Ty.int .i64)) s13).f1⟩
    · intro s67973 q84957 w84958 hI84959 o84956 H hr
      obtain ⟨v79296, F84954, s84955⟩ := hI84959
      replace H : link_Free_b1 a0 s67973 = some o84956 := H
      unfold link_Free_b1 at H
      refine wp_seq ?_
      refine wp_reg ?_
      refine st_pr F84954 (PR.op (ex_lt rfl rfl) <| PR.nil) fun q84962 F84963 => ?_
      refine st_end ?_
      refine then_n ?_
      refine wp_seq ?_
      refine wp_if F84963 rfl (fun hb84965 => ?_) (fun hb84965 => ?_)
      · replace H := ite_t hb84965 H
        refine wp_skip ?_
        refine then_n ?_
        refine wp_seq ?_
        refine wp_block ?_
        refine wp_seq ?_
        refine wp_reg ?_
        obtain ⟨x87817, hx87818, H⟩ := bind_ok H
        obtain ⟨ad87819, cs87822, G87823, hi87820, hc87821, hr87824, hG87825⟩ := Rd.idx hr0_2 Fx.sl41 rfl hx87818
        obtain ⟨v87826, v87828, rfl, hr87827, hr87829⟩ := (R_api_Func hr87824 hG87825)
        replace hc87821 := hc87821 _ _ s84955
        refine st_pr F84963 (PR.op (ex_move rfl) <| PR.op (hi87820 _ _ _ _ _ _ _ _ _ _ rfl rfl) <| PR.op (ex_ldagg Fx.agg56 rfl hc87821 rfl) <| PR.nil) fun q87830 F87831 => ?_
        refine st_alloc F87831 s84955 Fx.zero56 rfl rfl fun g87832 w87833 q87834 F87835 s87836 => ?_
        refine st_pr F87835 (PR.op (ex_asg rfl) <| PR.nil) fun q87838 F87839 => ?_
        have s87844 := s87836
        refine st_storea F87839 s87844 rfl rfl Fx.sz56 (one_cons rfl (one_cons (form_one (formL (rdL hr87827 s87844))) (one_cons rfl (one_cons rfl (one_cons (form_one (formL (rdL hr87829 s87844))) one_nil))))) (Nat.le_of_ble_eq_true rfl) fun w87840 q87841 F87842 s87843 => ?_
        replace s87843 : SL w [] w87840 [Blk g87832 56 [.string ⟨⟨x87817.Name⟩⟩, v87826, .int .u8 (x87817.Sig.Result.toNat : Int), .int .i64 x87817.Locals, v87828], Blk g9 46 [.string ⟨⟨a0.Module.Name⟩⟩, v0_1, v0_2, v0_3, v0_4], Sl (Ty.int .i64) v79296 s67973.1] := s87843
        refine st_end ?_
        refine then_n ?_
        refine wp_seq ?_
        refine wp_reg ?_
        obtain ⟨x87860, hx87861, H⟩ := bind_ok H
        refine st_pr F87842 (PR.op (ex_fab Fx.fa56_3 rfl rfl) <| PR.op (ex_ld Fx.nag22 rfl (s87843.blk_cell (.head _) rfl)) <| PR.nil) fun q87862 F87863 => ?_
        refine st_call (args := [.tmp 30]) F87863 Fx.fn27 rfl (flow_Scan_c (a0 := x87817.Code)  (hr87829.pass0 s87843) hx87861) rfl fun v87864 w87865 q87866 hS87868 F87867 => ?_
        obtain ⟨v87871, rfl, hq87870⟩ := hS87868
        have s87869 := s87843.add hq87870
        refine st_pr F87867 (PR.op (ex_move rfl) <| PR.op (ex_extract (v := v87871) rfl rfl) <| PR.op (ex_extract (v := .int .i64 x87860.2.1) rfl rfl) <| PR.op (ex_extract (v := .int .i64 x87860.2.2) rfl rfl) <| PR.op (ex_asg rfl) <| PR.op (ex_asg rfl) <| PR.op (ex_asg rfl) <| PR.nil) fun q87873 F87874 => ?_
        refine st_end ?_
        refine then_n ?_
        refine wp_seq ?_
        refine wp_seq ?_
        refine wp_reg ?_
        refine st_pr F87874 (PR.op (ex_move rfl) <| PR.op (ex_ne rfl rfl) <| PR.nil) fun q87886 F87887 => ?_
        refine st_end ?_
        refine then_n ?_
        refine wp_if F87887 rfl (fun hb87888 => ?_) (fun hb87888 => ?_)
        · replace H := ite_t hb87888 H
          refine wp_seq ?_
          refine wp_reg ?_
          refine st_pr F87887 (PR.op (ex_move rfl) <| PR.op (ex_move rfl) <| PR.op (ex_asg rfl) <| PR.op (ex_asg rfl) <| PR.op (ex_asg rfl) <| PR.nil) fun q87891 F87892 => ?_
          refine st_end ?_
          refine then_n ?_
          obtain rfl := some_ok H
          obtain rfl := hr _ rfl
          replace H := R67969
          dsimp only at H
          obtain rfl := some_ok H
          refine wp_ret ?_
          refine then_r <| blk_r <| then_r <| then_r <| blk_r <| then_r <| then_r ?_
          refine ret_gen (rs := [.tmp 2, .tmp 3, .tmp 4]) (vs := [.slice none 0 0, .int .i64 s67973.2, .int .i64 x87860.2.2]) F87892 (by rfl) ⟨_, _, rfl, RV.tmp rfl, _, _, rfl, RV.tmp rfl, _, _, rfl, RV.tmp rfl, rfl⟩ ⟨_, rfl, ⟨(.slice none 0 0), rfl, (SL.nilSl (T := (Ty.int .i64)) s87869).f1.drop.f1.drop.f1.drop.f1.drop⟩⟩
        · replace H := ite_f hb87888 H
          refine wp_skip ?_
          refine then_n ?_
          refine wp_seq ?_
          refine wp_reg ?_
          refine st_pr F87887 (PR.op (ex_move rfl) <| PR.op (ex_len rfl Try.underlying67 (formL (s87869.own_rd (.head _)))) <| PR.op (ex_move rfl) <| PR.nil) fun q87895 F87896 => ?_
          refine st_end ?_
          refine then_n ?_
          obtain ⟨o89250, H89251, R89252⟩ := bind_ok H
          clear H
          refine wp_cutn (fun a w_ => ∃ v89253 : Value, Fr a 78 [(1, .pointer (some ⟨g9, 0, none⟩)), (5, v89253), (6, .int .i64 (a0.Module.Funcs.length : Int)), (21, v0_2), (22, .int .i64 (a0.Module.Funcs.length : Int)), (23, .int .i64 s67973.2)] ∧ SL w [] w_ [Blk g9 46 [.string ⟨⟨a0.Module.Name⟩⟩, v0_1, v0_2, v0_3, v0_4], Sl (Ty.int .i64) v89253 o89250]) ?_ ?_
          · have H := H89251
            refine wp_block ?_
            refine wp_lp (link_Free_b0 a0 x87860) (fun s89255 a w_ => ∃ v89930 : Value, Fr a 78 [(1, .pointer (some ⟨g9, 0, none⟩)), (5, v89930), (6, .int .i64 (a0.Module.Funcs.length : Int)), (21, v0_2), (22, .int .i64 (a0.Module.Funcs.length : Int)), (23, .int .i64 s67973.2), (39, v87871), (40, .int .i64 (x87860.1.length : Int)), (41, .int .i64 s89255.2)] ∧ SL w [] w_ [Sl T_api_Instr v87871 x87860.1, Blk g9 46 [.string ⟨⟨a0.Module.Name⟩⟩, v0_1, v0_2, v0_3, v0_4], Sl (Ty.int .i64) v89930 s89255.1]) H ?_ ?_
            · exact ⟨v79296, F87896.sub ⟨rfl, rfl, rfl, rfl, rfl, rfl, rfl, rfl, rfl, trivial⟩, s87869.f1.drop⟩
            · intro s89255 q90271 w90272 hI90273 o90270 H hr
              obtain ⟨v89930, F90268, s90269⟩ := hI90273
              replace H : link_Free_b0 a0 x87860 s89255 = some o90270 := H
              unfold link_Free_b0 at H
              refine wp_seq ?_
              refine wp_reg ?_
              refine st_pr F90268 (PR.op (ex_lt rfl rfl) <| PR.nil) fun q90276 F90277 => ?_
              refine st_end ?_
              refine then_n ?_
              refine wp_seq ?_
              refine wp_if F90277 rfl (fun hb90279 => ?_) (fun hb90279 => ?_)
              · replace H := ite_t hb90279 H
                refine wp_skip ?_
                refine then_n ?_
                refine wp_seq ?_
                refine wp_block ?_
                refine wp_seq ?_
                refine wp_reg ?_
                obtain ⟨x90457, hx90458, H⟩ := bind_ok H
                obtain ⟨ad90459, hi90460, he90461⟩ := own_idx F_api_Instr s90269 (.head _) Fx.sl67 rfl hx90458
                refine st_pr F90277 (PR.op (hi90460 _ _ _ _ _ _ _ _ _ _ rfl rfl) <| PR.op (ex_ldagg Fx.agg90 rfl (SL.elcells F_api_Instr s90269 (.head _) he90461 hx90458) rfl) <| PR.nil) fun q90462 F90463 => ?_
                refine st_alloc F90463 s90269 Fx.zero90 rfl rfl fun g90464 w90465 q90466 F90467 s90468 => ?_
                have s90474 := s90468
                refine st_storea F90467 s90474 rfl rfl Fx.sz90 (one_cons rfl (one_cons rfl (one_cons rfl (one_cons rfl one_nil)))) (Nat.le_of_ble_eq_true rfl) fun w90470 q90471 F90472 s90473 => ?_
                replace s90473 : SL w [] w90470 [Blk g90464 90 [.int .i64 x90457.At, .int .u8 (x90457.Op.toNat : Int), .int .i64 x90457.A, .int .i64 x90457.B], Sl T_api_Instr v87871 x87860.1, Blk g9 46 [.string ⟨⟨a0.Module.Name⟩⟩, v0_1, v0_2, v0_3, v0_4], Sl (Ty.int .i64) v89930 s89255.1] := s90473
                refine st_end ?_
                refine then_n ?_
                refine wp_seq ?_
                refine wp_reg ?_
                refine st_pr F90472 (PR.op (ex_fab Fx.fa90_2 rfl rfl) <| PR.op (ex_ld Fx.nag3 rfl (s90473.blk_cell (.head _) rfl)) <| PR.op (ex_move rfl) <| PR.op (ex_sub rfl rfl) <| PR.op (ex_asg rfl) <| PR.nil) fun q90477 F90478 => ?_
                refine st_end ?_
                refine then_n ?_
                refine wp_seq ?_
                refine wp_reg ?_
                refine st_pr F90478 (PR.op (ex_fab Fx.fa90_1 rfl rfl) <| PR.op (ex_ld Fx.nag5 rfl (s90473.blk_cell (.head _) rfl)) <| PR.op (ex_eq rfl rfl) <| PR.op (ex_move rfl) <| PR.nil) fun q90479 F90480 => ?_
                refine bool_split ((x90457.Op.toNat : Int) == 21) (fun hb90481 => ?_) (fun hb90481 => ?_)
                · replace H := ite_t hb90481 H
                  refine st_gop F90480 rfl rfl (look_b rfl hb90481) (ex_move rfl) rfl rfl fun q90482 F90483 => ?_
                  refine st_gop F90483 rfl rfl (look_b rfl hb90481) (ex_ge rfl rfl) rfl rfl fun q90484 F90485 => ?_
                  refine st_pr F90485 (PR.op (ex_pick_t (ev_b rfl hb90481) rfl) <| PR.op (ex_move rfl) <| PR.nil) fun q90486 F90487 => ?_
                  refine bool_split (decide ((wr (x90457.A - (a0.Module.Funcs.length : Int))) ≥ 0)) (fun hb90488 => ?_) (fun hb90488 => ?_)
                  · replace H := ite_t hb90488 H
                    refine st_gop F90487 rfl rfl (look_b rfl hb90488) (ex_move rfl) rfl rfl fun q90489 F90490 => ?_
                    refine st_gop F90490 rfl rfl (look_b rfl hb90488) (ex_fab Fx.fa46_1 rfl rfl) rfl rfl fun q90491 F90492 => ?_
                    refine st_gop F90492 rfl rfl (look_b rfl hb90488) (ex_ld Fx.nag44 rfl (s90473.blk_cell (.tail _ <| .tail _ <| .head _) rfl)) rfl rfl fun q90493 F90494 => ?_
                    refine st_gop F90494 rfl rfl (look_b rfl hb90488) (ex_len rfl Try.underlying44 (formL (rdL hr0_4 s90473))) rfl rfl fun q90495 F90496 => ?_
                    refine st_gop F90496 rfl rfl (look_b rfl hb90488) (ex_lt rfl rfl) rfl rfl fun q90497 F90498 => ?_
                    refine st_pr F90498 (PR.op (ex_pick_t (ev_b rfl hb90488) rfl) <| PR.op (ex_move rfl) <| PR.nil) fun q90499 F90500 => ?_
                    refine bool_split (decide ((wr (x90457.A - (a0.Module.Funcs.length : Int))) < (a0.Imports.length : Int))) (fun hb90501 => ?_) (fun hb90501 => ?_)
                    · replace H := ite_t hb90501 H
                      refine st_gop F90500 rfl rfl (look_b rfl hb90501) (ex_move rfl) rfl rfl fun q90502 F90503 => ?_
                      refine st_gop F90503 rfl rfl (look_b rfl hb90501) (ex_move rfl) rfl rfl fun q90504 F90505 => ?_
                      obtain ⟨x90506, hx90507, H⟩ := bind_ok H
                      refine st_ungd F90505 rfl (look_b rfl hb90501) ?_
                      refine st_call (args := [.tmp 64, .tmp 65]) F90505 Fx.fn41 rfl (slices_Contains_int_int_c (a0 := s89255.1) (a1 := wr (x90457.A - (a0.Module.Funcs.length : Int)))  (s90473.rd0 (.tail _ <| .tail _ <| .tail _ <| .head _)) hx90507) rfl fun v90508 w90509 q90510 hS90512 F90511 => ?_
                      obtain ⟨rfl, hq90514⟩ := hS90512
                      have s90513 := s90473.add hq90514
                      refine st_gop F90511 rfl rfl (look_b rfl hb90501) (ex_not rfl) rfl rfl fun q90515 F90516 => ?_
                      refine st_pr F90516 (PR.op (ex_pick_t (ev_b rfl hb90501) rfl) <| PR.nil) fun q90517 F90518 => ?_
                      refine st_end ?_
                      refine then_n ?_
                      refine wp_if F90518 rfl (fun hb90519 => ?_) (fun hb90519 => ?_)
                      · replace H := ite_t hb90519 H
                        refine wp_reg ?_
                        refine st_pr F90518 (PR.op (ex_move rfl) <| PR.op (ex_move rfl) <| PR.nil) fun q90520 F90521 => ?_
                        refine st_bslice (parts := [(0, .tmp 70)]) (Flat.int .i64) ([wr (x90457.A - (a0.Module.Funcs.length : Int))] : List Int) F90521 s90513 Fx.sl57 rfl (by decide) rfl rfl rfl (by simp [Value.cells]) rfl rfl rfl fun v90522 w90523 q90524 F90525 s90526 => ?_
                        obtain ⟨x90528, hx90529, H⟩ := bind_ok H
                        have s90535 := s90526.f4
                        obtain ⟨_, hr_⟩ := (s90535.own_rd (.tail _ <| .head _))
                        refine st_append_rd (Flat.int .i64) F90525 s90535 Fx.sl57 rfl rfl rfl rfl hr_ rfl rfl hx90529 rfl fun v90530 w90531 q90532 F90533 s90534 => ?_
                        have s90534' := s90534.f1.drop
                        refine st_pr F90533 (PR.op (ex_asg rfl) <| PR.nil) fun q90536 F90537 => ?_
                        refine st_end ?_
                        refine blk_n ?_
                        refine then_n ?_
                        refine wp_reg ?_
                        refine st_pr F90537 (PR.op (ex_add rfl rfl) <| PR.op (ex_move rfl) <| PR.nil) fun q90538 F90539 => ?_
                        refine st_end ?_
                        obtain rfl := some_ok H
                        refine then_n ?_
                        exact ⟨_, rfl, v90530, F90539.sub ⟨rfl, rfl, rfl, rfl, rfl, rfl, rfl, rfl, rfl, trivial⟩, s90534'.f1.drop.f2.f2⟩
                      · replace H := ite_f hb90519 H
                        refine wp_skip ?_
                        refine blk_n ?_
                        refine then_n ?_
                        refine wp_reg ?_
                        refine st_pr F90518 (PR.op (ex_add rfl rfl) <| PR.op (ex_move rfl) <| PR.nil) fun q90540 F90541 => ?_
                        refine st_end ?_
                        obtain rfl := some_ok H
                        refine then_n ?_
                        exact ⟨_, rfl, v89930, F90541.sub ⟨rfl, rfl, rfl, rfl, rfl, rfl, rfl, rfl, rfl, trivial⟩, s90513.drop⟩
                    · replace H := ite_f hb90501 H
                      refine st_gskip F90500 rfl rfl (look_b rfl hb90501) Bool.noConfusion rfl rfl fun q90542 F90543 => ?_
                      refine st_gskip F90543 rfl rfl (look_b rfl hb90501) Bool.noConfusion rfl rfl fun q90544 F90545 => ?_
                      refine st_gskip F90545 rfl rfl (look_b rfl hb90501) Bool.noConfusion rfl rfl fun q90546 F90547 => ?_
                      refine st_gskip F90547 rfl rfl (look_b rfl hb90501) Bool.noConfusion rfl rfl fun q90548 F90549 => ?_
                      refine st_pr F90549 (PR.op (ex_pick_f (ev_b rfl hb90501) rfl) <| PR.nil) fun q90550 F90551 => ?_
                      refine st_end ?_
                      refine then_n ?_
                      refine wp_if_f F90551 rfl ?_
                      refine wp_skip ?_
                      refine blk_n ?_
                      refine then_n ?_
                      refine wp_reg ?_
                      refine st_pr F90551 (PR.op (ex_add rfl rfl) <| PR.op (ex_move rfl) <| PR.nil) fun q90552 F90553 => ?_
                      refine st_end ?_
                      obtain rfl := some_ok H
                      refine then_n ?_
                      exact ⟨_, rfl, v89930, F90553.sub ⟨rfl, rfl, rfl, rfl, rfl, rfl, rfl, rfl, rfl, trivial⟩, s90473.drop⟩
                  · replace H := ite_f hb90488 H
                    refine st_gskip F90487 rfl rfl (look_b rfl hb90488) Bool.noConfusion rfl rfl fun q90554 F90555 => ?_
                    refine st_gskip F90555 rfl rfl (look_b rfl hb90488) Bool.noConfusion rfl rfl fun q90556 F90557 => ?_
                    refine st_gskip F90557 rfl rfl (look_b rfl hb90488) Bool.noConfusion rfl rfl fun q90558 F90559 => ?_
                    refine st_gskip F90559 rfl rfl (look_b rfl hb90488) Bool.noConfusion rfl rfl fun q90560 F90561 => ?_
                    refine st_gskip F90561 rfl rfl (look_b rfl hb90488) Bool.noConfusion rfl rfl fun q90562 F90563 => ?_
                    refine st_pr F90563 (PR.op (ex_pick_f (ev_b rfl hb90488) rfl) <| PR.op (ex_move rfl) <| PR.nil) fun q90564 F90565 => ?_
                    refine st_gskip F90565 rfl rfl rfl Bool.noConfusion rfl rfl fun q90566 F90567 => ?_
                    refine st_gskip F90567 rfl rfl rfl Bool.noConfusion rfl rfl fun q90568 F90569 => ?_
                    refine st_gskip F90569 rfl rfl rfl Bool.noConfusion rfl rfl fun q90570 F90571 => ?_
                    refine st_gskip F90571 rfl rfl rfl Bool.noConfusion rfl rfl fun q90572 F90573 => ?_
                    refine st_pr F90573 (PR.op (ex_pick_f rfl rfl) <| PR.nil) fun q90574 F90575 => ?_
                    refine st_end ?_
                    refine then_n ?_
                    refine wp_if_f F90575 rfl ?_
                    refine wp_skip ?_
                    refine blk_n ?_
                    refine then_n ?_
                    refine wp_reg ?_
                    refine st_pr F90575 (PR.op (ex_add rfl rfl) <| PR.op (ex_move rfl) <| PR.nil) fun q90576 F90577 => ?_
                    refine st_end ?_
                    obtain rfl := some_ok H
                    refine then_n ?_
                    exact ⟨_, rfl, v89930, F90577.sub ⟨rfl, rfl, rfl, rfl, rfl, rfl, rfl, rfl, rfl, trivial⟩, s90473.drop⟩
                · replace H := ite_f hb90481 H
                  refine st_gskip F90480 rfl rfl (look_b rfl hb90481) Bool.noConfusion rfl rfl fun q90578 F90579 => ?_
                  refine st_gskip F90579 rfl rfl (look_b rfl hb90481) Bool.noConfusion rfl rfl fun q90580 F90581 => ?_
                  refine st_pr F90581 (PR.op (ex_pick_f (ev_b rfl hb90481) rfl) <| PR.op (ex_move rfl) <| PR.nil) fun q90582 F90583 => ?_
                  refine st_gskip F90583 rfl rfl rfl Bool.noConfusion rfl rfl fun q90584 F90585 => ?_
                  refine st_gskip F90585 rfl rfl rfl Bool.noConfusion rfl rfl fun q90586 F90587 => ?_
                  refine st_gskip F90587 rfl rfl rfl Bool.noConfusion rfl rfl fun q90588 F90589 => ?_
                  refine st_gskip F90589 rfl rfl rfl Bool.noConfusion rfl rfl fun q90590 F90591 => ?_
                  refine st_gskip F90591 rfl rfl rfl Bool.noConfusion rfl rfl fun q90592 F90593 => ?_
                  refine st_pr F90593 (PR.op (ex_pick_f rfl rfl) <| PR.op (ex_move rfl) <| PR.nil) fun q90594 F90595 => ?_
                  refine st_gskip F90595 rfl rfl rfl Bool.noConfusion rfl rfl fun q90596 F90597 => ?_
                  refine st_gskip F90597 rfl rfl rfl Bool.noConfusion rfl rfl fun q90598 F90599 => ?_
                  refine st_gskip F90599 rfl rfl rfl Bool.noConfusion rfl rfl fun q90600 F90601 => ?_
                  refine st_gskip F90601 rfl rfl rfl Bool.noConfusion rfl rfl fun q90602 F90603 => ?_
                  refine st_pr F90603 (PR.op (ex_pick_f rfl rfl) <| PR.nil) fun q90604 F90605 => ?_
                  refine st_end ?_
                  refine then_n ?_
                  refine wp_if_f F90605 rfl ?_
                  refine wp_skip ?_
                  refine blk_n ?_
                  refine then_n ?_
                  refine wp_reg ?_
                  refine st_pr F90605 (PR.op (ex_add rfl rfl) <| PR.op (ex_move rfl) <| PR.nil) fun q90606 F90607 => ?_
                  refine st_end ?_
                  obtain rfl := some_ok H
                  refine then_n ?_
                  exact ⟨_, rfl, v89930, F90607.sub ⟨rfl, rfl, rfl, rfl, rfl, rfl, rfl, rfl, rfl, trivial⟩, s90473.drop⟩
              · replace H := ite_f hb90279 H
                refine wp_exit ?_
                refine then_x <| then_x <| blk_hit ?_
                obtain rfl := some_ok H
                obtain rfl := hr _ rfl
                refine then_n ?_
                exact ⟨v89930, F90277.sub ⟨rfl, rfl, rfl, rfl, rfl, rfl, trivial⟩, s90269.drop⟩
          · intro q90610 w90611 hJ
            obtain ⟨v89253, F90608, s90609⟩ := hJ
            have H := R89252
            clear R89252 H89251
            refine blk_n ?_
            refine then_n ?_
            refine wp_reg ?_
            refine st_pr F90608 (PR.op (ex_add rfl rfl) <| PR.op (ex_move rfl) <| PR.nil) fun q90612 F90613 => ?_
            refine st_end ?_
            obtain rfl := some_ok H
            refine then_n ?_
            exact ⟨_, rfl, v89253, F90613.sub ⟨rfl, rfl, rfl, rfl, rfl, rfl, trivial⟩, s90609⟩
      · replace H := ite_f hb84965 H
        refine wp_exit ?_
        refine then_x <| then_x <| blk_hit ?_
        obtain rfl := some_ok H
        obtain rfl := hr _ rfl
        refine then_n ?_
        exact ⟨_, rfl, v79296, F84963.sub ⟨rfl, trivial⟩, s84955.drop⟩
  · intro q90616 w90617 hJ
    obtain ⟨p67970, rfl, v67971, F90614, s90615⟩ := hJ
    have H := R67969
    clear R67969 H67968
    dsimp only at H
    refine then_n ?_
    refine wp_seq ?_
    refine wp_reg ?_
    obtain ⟨x90635, hx90636, H⟩ := bind_ok H
    refine st_pr F90614 (PR.op (ex_move rfl) <| PR.nil) fun q90637 F90638 => ?_
    have s90639 := s90615
    obtain ⟨G90640, hst90641, hF90642, hG90643, hcl90644⟩ := SL.open_ (ps := [Sl (Ty.int .i64) v67971 p67970]) (rest := []) s90639
    refine st_call (args := [.tmp 75]) F90638 Fx.fn42 rfl (sort_own lays_sort hst90641 hx90636) rfl fun v90645 w90646 q90647 hS90648 F90649 => ?_
    obtain ⟨rfl, hq90650⟩ := hS90648
    have s90651 := hcl90644 _ _ hq90650
    refine st_end ?_
    refine then_n ?_
    refine wp_seq ?_
    refine wp_reg ?_
    refine st_pr F90649 (PR.op (ex_move rfl) <| PR.op (ex_asg rfl) <| PR.op (ex_asg rfl) <| PR.op (ex_asg rfl) <| PR.nil) fun q90654 F90655 => ?_
    refine st_end ?_
    refine then_n ?_
    obtain rfl := some_ok H
    refine wp_ret ?_
    refine ret_gen (rs := [.tmp 2, .tmp 3, .tmp 4]) (vs := [v67971, .int .i64 0, .int .i64 0]) F90655 (by rfl) ⟨_, _, rfl, RV.tmp rfl, _, _, rfl, RV.tmp rfl, _, _, rfl, RV.tmp rfl, rfl⟩ ⟨_, rfl, ⟨v67971, rfl, s90651⟩⟩
end Go.Proofs.Ytmeodoidfpcjlaa
