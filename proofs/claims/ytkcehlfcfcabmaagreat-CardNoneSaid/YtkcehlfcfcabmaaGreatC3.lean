/- The walk of proviso/provisolaw22.CardNone. -/
import Derived.Test.YtkcehlfcfcabmaaGreatFx
import Derived.Test.YtkcehlfcfcabmaaGreatDf
import Derived.Test.YtkcehlfcfcabmaaGreatC10n
import Derived.Test.YtkcehlfcfcabmaaGreatC10z
import Derived.Test.YtkcehlfcfcabmaaGreatC11n
import Derived.Test.YtkcehlfcfcabmaaGreatC11z
import Derived.Test.YtkcehlfcfcabmaaGreatC12n
import Derived.Test.YtkcehlfcfcabmaaGreatC12z
import Derived.Test.YtkcehlfcfcabmaaGreatC13n
import Derived.Test.YtkcehlfcfcabmaaGreatC13z
import Derived.Test.YtkcehlfcfcabmaaGreatC4np
import Derived.Test.YtkcehlfcfcabmaaGreatC4zp
import Derived.Test.YtkcehlfcfcabmaaGreatC5np
import Derived.Test.YtkcehlfcfcabmaaGreatC5zp
import Derived.Test.YtkcehlfcfcabmaaGreatC6np
import Derived.Test.YtkcehlfcfcabmaaGreatC6zp
import Derived.Test.YtkcehlfcfcabmaaGreatC7npppp
import Derived.Test.YtkcehlfcfcabmaaGreatC7zpppp
import Derived.Test.YtkcehlfcfcabmaaGreatC8np
import Derived.Test.YtkcehlfcfcabmaaGreatC8zp
import Derived.Test.YtkcehlfcfcabmaaGreatC9n
import Derived.Test.YtkcehlfcfcabmaaGreatC9z
import Derived.Test.YtkcehlfcfcabmaaGreatCard
set_option linter.unusedVariables false
set_option linter.unusedSimpArgs false
namespace Go.Proofs.YtkcehlfcfcabmaaGreat
open Go Go.RowKit Go.Pv
theorem provisolaw22_CardNone_c {w : World} {v1 : Value} {a0 : List UInt8} {a1 : List UInt8} {r : Bool} (hr1 : Rd Ty.u8 w [] v1 a1) (H : provisolaw22_CardNone a0 a1 = some r) :
    Calls Tryz.prog 3 #[.string ⟨⟨a0⟩⟩, v1] w (Ret fun u_ w_ => u_ = .bool r ∧ SL w [] w_ []) := by
  have s0 : SL w [] w [] := SL.init0 w
  refine call_enter Tryz.func3 rfl Tryz.ntmps3 (Nat.le_of_ble_eq_true rfl) (args := [.string ⟨⟨a0⟩⟩, v1]) fun q0 F0 => ?_
  unfold provisolaw22_CardNone at H
  refine wp_seq ?_
  refine wp_reg ?_
  refine sv 1 F0 fun _ F2 => ?_
  refine st_end ?_
  refine then_n ?_
  refine wp_seq ?_
  refine wp_reg ?_
  refine sv 1 F2 fun _ F4 => ?_
  refine st_end ?_
  refine then_n ?_
  refine wp_seq ?_
  refine wp_reg ?_
  refine st_alloc F4 s0 Fx.zero39 rfl rfl fun g11 w12 q13 F14 s15 => ?_
  refine st_end ?_
  refine then_n ?_
  refine wp_seq ?_
  refine wp_seq ?_
  refine wp_reg ?_
  refine sv 1 F14 fun _ F6828 => ?_
  refine st_bsliceb (parts := [(0, .tmp 22), (1, .tmp 6)]) (vs := [.pointer none, .pointer (some ⟨g11, 0, none⟩)]) F6828 s15 Fx.sl40 rfl (by decide) rfl rfl rfl (one_cells_all (cells1_cons rfl (cells1_cons rfl cells1_nil))) rfl fun g6829 w6830 q6831 F6832 s6833 => ?_
  refine sx F6832 (ex_len rfl Tryz.underlying40 ⟨_, _, rfl⟩) fun _ F6835 => ?_
  refine sv 1 F6835 fun _ F6836 => ?_
  refine st_end ?_
  refine then_n ?_
  refine wp_block ?_
  refine wp_loop_rounds 3 ?_
  refine rounds_step ?_
  refine wp_seq ?_
  refine wp_reg ?_
  refine sv 1 F6836 fun _ F6838 => ?_
  refine st_end ?_
  refine then_n ?_
  refine wp_seq ?_
  refine wp_if_t F6838 rfl ?_
  refine wp_skip ?_
  refine then_n ?_
  refine wp_seq ?_
  refine wp_block ?_
  refine wp_seq ?_
  refine wp_reg ?_
  refine sx F6838 (ex_ixlit Fx.sl40 rfl rfl (by decide)) fun _ F8476 => ?_
  refine sx F8476 (ex_ld Fx.nag23 rfl (s6833.blk_cell (.head _) rfl)) fun _ F8477 => ?_
  refine sv 1 F8477 fun _ F8478 => ?_
  refine st_end ?_
  refine then_n ?_
  refine wp_seq ?_
  refine wp_reg ?_
  obtain ⟨x8490, hx8491, H⟩ := bind_ok H
  refine sv 2 F8478 fun _ F8492 => ?_
  refine stc F8492 s6833 (card_Card_Size_np_c    hx8491) fun w8494 _ F8496 s8498 => ?_
  refine sv 5 F8496 fun _ F8500 => ?_
  refine st_end ?_
  refine then_n ?_
  refine wp_seq ?_
  refine wp_reg ?_
  obtain ⟨x8514, hx8515, H⟩ := bind_ok H
  refine sv 2 F8500 fun _ F8516 => ?_
  refine std F8516 (card_Card_Install_np_c    (hr1.pass0 s8498) hx8515) fun v8517 w8518 _ hS8521 F8520 => ?_
  obtain ⟨v8524, rfl, hq8523⟩ := hS8521
  have s8522 := s8498.add hq8523
  refine sv 7 F8520 fun _ F8526 => ?_
  refine st_end ?_
  refine then_n ?_
  refine wp_seq ?_
  refine wp_reg ?_
  obtain ⟨x8540, hx8541, H⟩ := bind_ok H
  refine sv 2 F8526 fun _ F8542 => ?_
  refine std F8542 (card_Card_Remove_np_c     hx8541) fun v8543 w8544 _ hS8547 F8546 => ?_
  obtain ⟨v8550, rfl, hq8549⟩ := hS8547
  have s8548 := s8522.add hq8549
  refine sv 5 F8546 fun _ F8552 => ?_
  refine st_end ?_
  refine then_n ?_
  refine wp_seq ?_
  refine wp_reg ?_
  obtain ⟨x8578, hx8579, H⟩ := bind_ok H
  refine sv 2 F8552 fun _ F8580 => ?_
  refine std F8580 (card_Card_Run_npppp_c    Rd.nil_ hx8579) fun v8581 w8582 _ hS8585 F8584 => ?_
  obtain ⟨v8588, rfl, hq8587⟩ := hS8585
  have s8586 := s8548.add hq8587
  refine sv 3 F8584 fun _ F8590 => ?_
  refine st_alloc F8590 s8586 Fx.zero51 rfl rfl fun g8591 w8592 q8593 F8594 s8595 => ?_
  have s8601 := s8595
  refine st_storea F8594 s8601 rfl rfl Fx.sz51 (one_cons rfl (one_cons rfl (one_cons rfl (one_cons (form_one (formL (s8601.own_rd (.tail _ <| .head _)))) (one_cons rfl (one_cons rfl one_nil)))))) (Nat.le_of_ble_eq_true rfl) fun w8597 q8598 F8599 s8600 => ?_
  replace s8600 : SL w [] w8597 [Blk g8591 51 [.int .i64 x8578.1.Err, .int .i64 x8578.1.Trap, .int .i64 x8578.1.Result, v8588, .int .i64 x8578.1.Steps, .int .i64 x8578.1.Cells], Sl (Ty.int .i64) v8588 x8578.1.Told, Sl T_api_Write v8550 x8540.1, Sl T_api_Write v8524 x8514.2.1, Blk g6829 23 [.pointer none, .pointer (some ⟨g11, 0, none⟩)], Blk g11 39 [.int .i32 0, .int .u32 0, .nilIface, .int .i64 0, .string ⟨⟨[]⟩⟩, .string ⟨⟨[]⟩⟩, .slice none 0 0, .slice none 0 0, .slice none 0 0]] := s8600
  refine sv 1 F8599 fun _ F8602 => ?_
  refine st_end ?_
  refine then_n ?_
  refine wp_seq ?_
  refine wp_seq ?_
  refine wp_reg ?_
  obtain ⟨x9347, hx9348, H⟩ := bind_ok H
  refine sv 6 F8602 fun _ F9349 => ?_
  refine stc F9349 s8600 (card_Card_Select_np_c    hx9348) fun w9351 _ F9353 s9355 => ?_
  obtain ⟨x9357, hx9358, H⟩ := bind_ok H
  refine sv 1 F9353 fun _ F9359 => ?_
  refine stc F9359 s9355 (card_Card_Pack_n_c    hx9358) fun w9361 _ F9363 s9365 => ?_
  refine st_bslice (parts := [(0, .tmp 54), (1, .tmp 55), (2, .tmp 56), (3, .tmp 57), (4, .tmp 60), (5, .tmp 62)]) (Flat.int .i64) ([x8490.2, x8514.2.2, x8540.2, x8578.2, x9347, x9357] : List Int) F9363 s9365 Fx.sl56 rfl (by decide) rfl rfl rfl (by simp [Value.cells]) rfl rfl rfl fun v9367 w9368 q9369 F9370 s9371 => ?_
  refine sx F9370 (ex_len rfl Tryz.underlying56 (formL (s9371.own_rd (.head _)))) fun _ F9373 => ?_
  refine sv 1 F9373 fun _ F9374 => ?_
  refine st_end ?_
  refine then_n ?_
  obtain ⟨o9809, H9810, R9811⟩ := bind_ok H
  clear H
  refine wp_cutn (fun a w_ => ∃ p9812 : Unit, o9809 = .inr (p9812) ∧ Fr a 108 [(0, .string ⟨⟨a0⟩⟩), (1, v1), (8, .pointer none), (23, .slice (some ⟨g6829, 0, none⟩) 2 2), (24, .int .i64 ((2 : Nat) : Int)), (25, .int .i64 0)] ∧ SL w [] w_ [Blk g6829 23 [.pointer none, .pointer (some ⟨g11, 0, none⟩)], Blk g11 39 [.int .i32 0, .int .u32 0, .nilIface, .int .i64 0, .string ⟨⟨[]⟩⟩, .string ⟨⟨[]⟩⟩, .slice none 0 0, .slice none 0 0, .slice none 0 0]]) ?_ ?_
  · have H := H9810
    refine wp_block ?_
    refine wp_lp (provisolaw22_CardNone_b0 x8490 x8514 x8540 x8578 x9347 x9357) (fun s9813 a w_ => Fr a 108 [(0, .string ⟨⟨a0⟩⟩), (1, v1), (8, .pointer none), (23, .slice (some ⟨g6829, 0, none⟩) 2 2), (24, .int .i64 ((2 : Nat) : Int)), (25, .int .i64 0), (63, v9367), (64, .int .i64 (([x8490.2, x8514.2.2, x8540.2, x8578.2, x9347, x9357] : List Int).length : Int)), (65, .int .i64 s9813)] ∧ SL w [] w_ [Sl (Ty.int .i64) v9367 ([x8490.2, x8514.2.2, x8540.2, x8578.2, x9347, x9357] : List Int), Blk g6829 23 [.pointer none, .pointer (some ⟨g11, 0, none⟩)], Blk g11 39 [.int .i32 0, .int .u32 0, .nilIface, .int .i64 0, .string ⟨⟨[]⟩⟩, .string ⟨⟨[]⟩⟩, .slice none 0 0, .slice none 0 0, .slice none 0 0]]) H ?_ ?_
    · exact ⟨F9374.sub ⟨rfl, rfl, rfl, rfl, rfl, rfl, rfl, rfl, rfl, trivial⟩, s9371.f1.drop.f1.drop.f1.drop.f1.drop⟩
    · intro s9813 q9976 w9977 hI9978 o9975 H hr
      obtain ⟨F9973, s9974⟩ := hI9978
      replace H : provisolaw22_CardNone_b0 x8490 x8514 x8540 x8578 x9347 x9357 s9813 = some o9975 := H
      unfold provisolaw22_CardNone_b0 at H
      refine wp_seq ?_
      refine wp_reg ?_
      refine sv 1 F9973 fun _ F9980 => ?_
      refine st_end ?_
      refine then_n ?_
      refine wp_seq ?_
      refine ifs F9980 H (fun hb9983 H F9984 => ?_) (fun hb9983 H F9984 => ?_)
      · refine wp_skip ?_
        refine then_n ?_
        refine wp_seq ?_
        refine wp_block ?_
        refine wp_seq ?_
        refine wp_reg ?_
        obtain ⟨x10015, hx10016, H⟩ := bind_ok H
        obtain ⟨ad10017, hi10018, he10019⟩ := own_idx (Flat.int .i64) s9974 (.head _) Fx.sl56 rfl hx10016
        refine sx F9984 (hi10018 _ _ _ _ _ _ _ _ _ _ rfl rfl) fun _ F10020 => ?_
        refine sx F10020 (ex_ld Fx.nag41 rfl (Cells.at_ (SL.elcells (Flat.int .i64) s9974 (.head _) he10019 hx10016) (o := 0) rfl)) fun _ F10021 => ?_
        refine sv 1 F10021 fun _ F10022 => ?_
        refine st_end ?_
        refine then_n ?_
        refine wp_seq ?_
        refine wp_reg ?_
        refine sv 2 F10022 fun _ F10024 => ?_
        refine st_end ?_
        refine then_n ?_
        refine ifs F10024 H (fun hb10025 H F10026 => ?_) (fun hb10025 H F10026 => ?_)
        · refine wp_seq ?_
          refine wp_reg ?_
          refine sv 1 F10026 fun _ F10028 => ?_
          refine st_end ?_
          refine then_n ?_
          obtain rfl := some_ok H
          obtain rfl := hr _ rfl
          replace H := R9811
          try dsimp only at H
          obtain rfl := some_ok H
          refine wp_ret ?_
          refine blk_r <| then_r <| then_r <| blk_r <| then_r <| then_r <| blk_r <| then_r <| then_r <| blk_r <| then_r ?_
          exact rt F10028 ⟨rfl, s9974.drop.drop.drop⟩
        · refine wp_skip ?_
          refine blk_n ?_
          refine then_n ?_
          refine wp_reg ?_
          refine sv 2 F10026 fun _ F10029 => ?_
          refine st_end ?_
          obtain rfl := some_ok H
          refine then_n ?_
          exact ⟨_, rfl, F10029.sub ⟨rfl, rfl, rfl, rfl, rfl, rfl, rfl, rfl, rfl, trivial⟩, s9974⟩
      · refine wp_exit ?_
        refine then_x <| then_x <| blk_hit ?_
        obtain rfl := some_ok H
        obtain rfl := hr _ rfl
        refine then_n ?_
        exact ⟨_, rfl, F9984.sub ⟨rfl, rfl, rfl, rfl, rfl, rfl, trivial⟩, s9974.drop⟩
  · intro q10032 w10033 hJ
    obtain ⟨p9812, rfl, F10030, s10031⟩ := hJ
    have H := R9811
    clear R9811 H9810
    try dsimp only at H
    refine then_n ?_
    refine wp_seq ?_
    refine wp_reg ?_
    obtain ⟨x10034, hx10035, H⟩ := bind_ok H
    refine sv 1 F10030 fun _ F10036 => ?_
    refine std F10036 (card_Card_Names_n_c     hx10035) fun v10037 w10038 _ hS10041 F10040 => ?_
    obtain ⟨_, rfl, hq10043⟩ := hS10041
    have s10042 := s10031.add hq10043
    refine sx F10040 (ex_len rfl Tryz.underlying57 (formL (s10042.own_rd (.head _)))) fun _ F10046 => ?_
    refine sv 2 F10046 fun _ F10047 => ?_
    refine bsp 76 F10047 H (fun hb10048 H F10049 => ?_) (fun hb10048 H F10049 => ?_)
    · refine sv 15 F10049 fun _ F10050 => ?_
      refine st_end ?_
      refine then_n ?_
      refine wp_if_t F10050 rfl ?_
      refine wp_seq ?_
      refine wp_reg ?_
      refine sv 1 F10050 fun _ F10052 => ?_
      refine st_end ?_
      refine then_n ?_
      obtain rfl := some_ok H
      refine wp_ret ?_
      refine blk_r <| then_r <| then_r <| blk_r <| then_r ?_
      exact rt F10052 ⟨rfl, s10042.drop.drop.drop⟩
    · obtain ⟨x10053, hx10054, H⟩ := bind_ok H
      refine sv 1 F10049 fun _ F10055 => ?_
      refine st_ungd F10055 rfl rfl ?_
      refine std F10055 (card_Card_Image_n_c     hx10054) fun v10056 w10057 _ hS10060 F10059 => ?_
      obtain ⟨_, rfl, hq10062⟩ := hS10060
      have s10061 := s10042.add hq10062
      refine st_gop F10059 rfl rfl rfl (ex_len rfl Tryz.underlying22 (formL (s10061.own_rd (.head _)))) rfl rfl fun q10065 F10066 => ?_
      refine sv 3 F10066 fun _ F10067 => ?_
      refine bsp 82 F10067 H (fun hb10068 H F10069 => ?_) (fun hb10068 H F10069 => ?_)
      · refine sv 9 F10069 fun _ F10070 => ?_
        refine st_end ?_
        refine then_n ?_
        refine wp_if_t F10070 rfl ?_
        refine wp_seq ?_
        refine wp_reg ?_
        refine sv 1 F10070 fun _ F10072 => ?_
        refine st_end ?_
        refine then_n ?_
        obtain rfl := some_ok H
        refine wp_ret ?_
        refine blk_r <| then_r <| then_r <| blk_r <| then_r ?_
        exact rt F10072 ⟨rfl, s10061.drop.drop.drop.drop⟩
      · obtain ⟨x10073, hx10074, H⟩ := bind_ok H
        refine sv 1 F10069 fun _ F10075 => ?_
        refine st_ungd F10075 rfl rfl ?_
        refine stc F10075 s10061 (card_Card_Free_n_c    hx10074) fun w10077 _ F10079 s10081 => ?_
        refine sv 3 F10079 fun _ F10083 => ?_
        refine bsp 87 F10083 H (fun hb10084 H F10085 => ?_) (fun hb10084 H F10085 => ?_)
        · refine sv 4 F10085 fun _ F10086 => ?_
          refine st_end ?_
          refine then_n ?_
          refine wp_if_t F10086 rfl ?_
          refine wp_seq ?_
          refine wp_reg ?_
          refine sv 1 F10086 fun _ F10088 => ?_
          refine st_end ?_
          refine then_n ?_
          obtain rfl := some_ok H
          refine wp_ret ?_
          refine blk_r <| then_r <| then_r <| blk_r <| then_r ?_
          exact rt F10088 ⟨rfl, s10081.drop.drop.drop.drop⟩
        · obtain ⟨x10089, hx10090, H⟩ := bind_ok H
          refine sv 1 F10085 fun _ F10091 => ?_
          refine st_ungd F10091 rfl rfl ?_
          refine stc F10091 s10081 (card_Card_Selected_n_c    hx10090) fun w10093 _ F10095 s10097 => ?_
          refine st_gop F10095 rfl rfl rfl (ex_sne rfl rfl) rfl rfl fun q10099 F10100 => ?_
          refine sv 1 F10100 fun _ F10101 => ?_
          refine st_end ?_
          refine then_n ?_
          refine ifs F10101 H (fun hb10102 H F10103 => ?_) (fun hb10102 H F10103 => ?_)
          · refine wp_seq ?_
            refine wp_reg ?_
            refine sv 1 F10103 fun _ F10105 => ?_
            refine st_end ?_
            refine then_n ?_
            obtain rfl := some_ok H
            refine wp_ret ?_
            refine blk_r <| then_r <| then_r <| blk_r <| then_r ?_
            exact rt F10105 ⟨rfl, s10097.drop.drop.drop.drop⟩
          · refine wp_skip ?_
            refine blk_n ?_
            refine then_n ?_
            refine wp_reg ?_
            refine sv 2 F10103 fun _ F10106 => ?_
            refine st_end ?_
            refine then_n ?_
            refine rounds_step ?_
            refine wp_seq ?_
            refine wp_reg ?_
            refine sv 1 F10106 fun _ F10108 => ?_
            refine st_end ?_
            refine then_n ?_
            refine wp_seq ?_
            refine wp_if_t F10108 rfl ?_
            refine wp_skip ?_
            refine then_n ?_
            refine wp_seq ?_
            refine wp_block ?_
            refine wp_seq ?_
            refine wp_reg ?_
            refine sx F10108 (ex_ixlit Fx.sl40 rfl rfl (by decide)) fun _ F11866 => ?_
            refine sx F11866 (ex_ld Fx.nag23 rfl (s10097.blk_cell (.tail _ <| .tail _ <| .head _) rfl)) fun _ F11867 => ?_
            refine sv 1 F11867 fun _ F11868 => ?_
            refine st_end ?_
            refine then_n ?_
            refine wp_seq ?_
            refine wp_reg ?_
            obtain ⟨x11886, hx11887, H⟩ := bind_ok H
            refine sv 2 F11868 fun _ F11888 => ?_
            have s11896 := s10097.f3
            obtain ⟨G11901, hst11897, hF11898, hG11899, hcl11900⟩ := SL.open_ (ps := [Blk g11 39 [.int .i32 0, .int .u32 0, .nilIface, .int .i64 0, .string ⟨⟨[]⟩⟩, .string ⟨⟨[]⟩⟩, .slice none 0 0, .slice none 0 0, .slice none 0 0]]) (rest := [Sl Ty.u8 v10056 x10053, Sl Ty.str v10037 x10034, Blk g6829 23 [.pointer none, .pointer (some ⟨g11, 0, none⟩)]]) s11896
            refine std F11888 (card_Card_Size_zp_c  hst11897   hx11887) fun v11889 w11890 _ hS11893 F11892 => ?_
            obtain ⟨rfl, hq11895⟩ := hS11893
            have s11894 := hcl11900 _ _ hq11895
            refine sv 5 F11892 fun _ F11902 => ?_
            refine st_end ?_
            refine then_n ?_
            refine wp_seq ?_
            refine wp_reg ?_
            obtain ⟨x11922, hx11923, H⟩ := bind_ok H
            refine sv 2 F11902 fun _ F11924 => ?_
            have s11932 := s11894
            obtain ⟨G11937, hst11933, hF11934, hG11935, hcl11936⟩ := SL.open_ (ps := [Blk g11 39 [.int .i32 0, .int .u32 0, .nilIface, .int .i64 0, .string ⟨⟨[]⟩⟩, .string ⟨⟨[]⟩⟩, .slice none 0 0, .slice none 0 0, .slice none 0 0]]) (rest := [Sl Ty.u8 v10056 x10053, Sl Ty.str v10037 x10034, Blk g6829 23 [.pointer none, .pointer (some ⟨g11, 0, none⟩)]]) s11932
            refine std F11924 (card_Card_Install_zp_c  hst11933  (hr1.pass s11932 hF11934) hx11923) fun v11925 w11926 _ hS11929 F11928 => ?_
            obtain ⟨v11938, rfl, hq11931⟩ := hS11929
            have s11930 := hcl11936 _ _ hq11931
            refine sv 7 F11928 fun _ F11940 => ?_
            refine st_end ?_
            refine then_n ?_
            refine wp_seq ?_
            refine wp_reg ?_
            obtain ⟨x11960, hx11961, H⟩ := bind_ok H
            refine sv 2 F11940 fun _ F11962 => ?_
            have s11970 := s11930
            obtain ⟨G11975, hst11971, hF11972, hG11973, hcl11974⟩ := SL.open_ (ps := [Blk g11 39 [.int .i32 0, .int .u32 0, .nilIface, .int .i64 0, .string ⟨⟨[]⟩⟩, .string ⟨⟨[]⟩⟩, .slice none 0 0, .slice none 0 0, .slice none 0 0]]) (rest := [Sl T_api_Write v11938 x11922.2.1, Sl Ty.u8 v10056 x10053, Sl Ty.str v10037 x10034, Blk g6829 23 [.pointer none, .pointer (some ⟨g11, 0, none⟩)]]) s11970
            refine std F11962 (card_Card_Remove_zp_c  hst11971   hx11961) fun v11963 w11964 _ hS11967 F11966 => ?_
            obtain ⟨v11976, rfl, hq11969⟩ := hS11967
            have s11968 := hcl11974 _ _ hq11969
            refine sv 5 F11966 fun _ F11978 => ?_
            refine st_end ?_
            refine then_n ?_
            refine wp_seq ?_
            refine wp_reg ?_
            obtain ⟨x12010, hx12011, H⟩ := bind_ok H
            refine sv 2 F11978 fun _ F12012 => ?_
            have s12020 := s11968
            obtain ⟨G12025, hst12021, hF12022, hG12023, hcl12024⟩ := SL.open_ (ps := [Blk g11 39 [.int .i32 0, .int .u32 0, .nilIface, .int .i64 0, .string ⟨⟨[]⟩⟩, .string ⟨⟨[]⟩⟩, .slice none 0 0, .slice none 0 0, .slice none 0 0]]) (rest := [Sl T_api_Write v11976 x11960.1, Sl T_api_Write v11938 x11922.2.1, Sl Ty.u8 v10056 x10053, Sl Ty.str v10037 x10034, Blk g6829 23 [.pointer none, .pointer (some ⟨g11, 0, none⟩)]]) s12020
            refine std F12012 (card_Card_Run_zpppp_c  hst12021  Rd.nil_ hx12011) fun v12013 w12014 _ hS12017 F12016 => ?_
            obtain ⟨v12026, rfl, hq12019⟩ := hS12017
            have s12018 := hcl12024 _ _ hq12019
            refine sv 3 F12016 fun _ F12028 => ?_
            refine st_alloc F12028 s12018 Fx.zero51 rfl rfl fun g12029 w12030 q12031 F12032 s12033 => ?_
            have s12039 := s12033
            refine st_storea F12032 s12039 rfl rfl Fx.sz51 (one_cons rfl (one_cons rfl (one_cons rfl (one_cons (form_one (formL (s12039.own_rd (.tail _ <| .tail _ <| .head _)))) (one_cons rfl (one_cons rfl one_nil)))))) (Nat.le_of_ble_eq_true rfl) fun w12035 q12036 F12037 s12038 => ?_
            replace s12038 : SL w [] w12035 [Blk g12029 51 [.int .i64 x12010.1.Err, .int .i64 x12010.1.Trap, .int .i64 x12010.1.Result, v12026, .int .i64 x12010.1.Steps, .int .i64 x12010.1.Cells], Blk g11 39 [.int .i32 0, .int .u32 0, .nilIface, .int .i64 0, .string ⟨⟨[]⟩⟩, .string ⟨⟨[]⟩⟩, .slice none 0 0, .slice none 0 0, .slice none 0 0], Sl (Ty.int .i64) v12026 x12010.1.Told, Sl T_api_Write v11976 x11960.1, Sl T_api_Write v11938 x11922.2.1, Sl Ty.u8 v10056 x10053, Sl Ty.str v10037 x10034, Blk g6829 23 [.pointer none, .pointer (some ⟨g11, 0, none⟩)]] := s12038
            refine sv 1 F12037 fun _ F12040 => ?_
            refine st_end ?_
            refine then_n ?_
            refine wp_seq ?_
            refine wp_seq ?_
            refine wp_reg ?_
            obtain ⟨x12821, hx12822, H⟩ := bind_ok H
            refine sv 6 F12040 fun _ F12823 => ?_
            have s12831 := s12038.f1
            obtain ⟨G12836, hst12832, hF12833, hG12834, hcl12835⟩ := SL.open_ (ps := [Blk g11 39 [.int .i32 0, .int .u32 0, .nilIface, .int .i64 0, .string ⟨⟨[]⟩⟩, .string ⟨⟨[]⟩⟩, .slice none 0 0, .slice none 0 0, .slice none 0 0]]) (rest := [Blk g12029 51 [.int .i64 x12010.1.Err, .int .i64 x12010.1.Trap, .int .i64 x12010.1.Result, v12026, .int .i64 x12010.1.Steps, .int .i64 x12010.1.Cells], Sl (Ty.int .i64) v12026 x12010.1.Told, Sl T_api_Write v11976 x11960.1, Sl T_api_Write v11938 x11922.2.1, Sl Ty.u8 v10056 x10053, Sl Ty.str v10037 x10034, Blk g6829 23 [.pointer none, .pointer (some ⟨g11, 0, none⟩)]]) s12831
            refine std F12823 (card_Card_Select_zp_c  hst12832   hx12822) fun v12824 w12825 _ hS12828 F12827 => ?_
            obtain ⟨rfl, hq12830⟩ := hS12828
            have s12829 := hcl12835 _ _ hq12830
            obtain ⟨x12837, hx12838, H⟩ := bind_ok H
            refine sv 1 F12827 fun _ F12839 => ?_
            have s12847 := s12829
            obtain ⟨G12852, hst12848, hF12849, hG12850, hcl12851⟩ := SL.open_ (ps := [Blk g11 39 [.int .i32 0, .int .u32 0, .nilIface, .int .i64 0, .string ⟨⟨[]⟩⟩, .string ⟨⟨[]⟩⟩, .slice none 0 0, .slice none 0 0, .slice none 0 0]]) (rest := [Blk g12029 51 [.int .i64 x12010.1.Err, .int .i64 x12010.1.Trap, .int .i64 x12010.1.Result, v12026, .int .i64 x12010.1.Steps, .int .i64 x12010.1.Cells], Sl (Ty.int .i64) v12026 x12010.1.Told, Sl T_api_Write v11976 x11960.1, Sl T_api_Write v11938 x11922.2.1, Sl Ty.u8 v10056 x10053, Sl Ty.str v10037 x10034, Blk g6829 23 [.pointer none, .pointer (some ⟨g11, 0, none⟩)]]) s12847
            refine std F12839 (card_Card_Pack_z_c  hst12848   hx12838) fun v12840 w12841 _ hS12844 F12843 => ?_
            obtain ⟨rfl, hq12846⟩ := hS12844
            have s12845 := hcl12851 _ _ hq12846
            refine st_bslice (parts := [(0, .tmp 54), (1, .tmp 55), (2, .tmp 56), (3, .tmp 57), (4, .tmp 60), (5, .tmp 62)]) (Flat.int .i64) ([x11886.2, x11922.2.2, x11960.2, x12010.2, x12821, x12837] : List Int) F12843 s12845 Fx.sl56 rfl (by decide) rfl rfl rfl (by simp [Value.cells]) rfl rfl rfl fun v12853 w12854 q12855 F12856 s12857 => ?_
            refine sx F12856 (ex_len rfl Tryz.underlying56 (formL (s12857.own_rd (.head _)))) fun _ F12859 => ?_
            refine sv 1 F12859 fun _ F12860 => ?_
            refine st_end ?_
            refine then_n ?_
            obtain ⟨o13295, H13296, R13297⟩ := bind_ok H
            clear H
            refine wp_cutn (fun a w_ => ∃ p13298 : Unit, o13295 = .inr (p13298) ∧ Fr a 108 [(0, .string ⟨⟨a0⟩⟩), (1, v1), (8, .pointer (some ⟨g11, 0, none⟩)), (23, .slice (some ⟨g6829, 0, none⟩) 2 2), (24, .int .i64 ((2 : Nat) : Int)), (25, .int .i64 1), (77, .pointer none), (78, v10056), (79, .int .i64 (x10053.length : Int)), (80, .bool ((x10053.length : Int) != 0)), (83, .pointer none), (84, .int .i64 x10073), (85, .bool (x10073 != 0)), (88, .pointer none), (89, .string ⟨⟨x10089⟩⟩), (90, .bool (x10089 != []))] ∧ SL w [] w_ [Blk g11 39 [.int .i32 0, .int .u32 0, .nilIface, .int .i64 0, .string ⟨⟨[]⟩⟩, .string ⟨⟨[]⟩⟩, .slice none 0 0, .slice none 0 0, .slice none 0 0], Sl Ty.u8 v10056 x10053, Blk g6829 23 [.pointer none, .pointer (some ⟨g11, 0, none⟩)]]) ?_ ?_
            · have H := H13296
              refine wp_block ?_
              refine wp_lp (provisolaw22_CardNone_b1 x11886 x11922 x11960 x12010 x12821 x12837) (fun s13299 a w_ => Fr a 108 [(0, .string ⟨⟨a0⟩⟩), (1, v1), (8, .pointer (some ⟨g11, 0, none⟩)), (23, .slice (some ⟨g6829, 0, none⟩) 2 2), (24, .int .i64 ((2 : Nat) : Int)), (25, .int .i64 1), (63, v12853), (64, .int .i64 (([x11886.2, x11922.2.2, x11960.2, x12010.2, x12821, x12837] : List Int).length : Int)), (65, .int .i64 s13299), (77, .pointer none), (78, v10056), (79, .int .i64 (x10053.length : Int)), (80, .bool ((x10053.length : Int) != 0)), (83, .pointer none), (84, .int .i64 x10073), (85, .bool (x10073 != 0)), (88, .pointer none), (89, .string ⟨⟨x10089⟩⟩), (90, .bool (x10089 != []))] ∧ SL w [] w_ [Sl (Ty.int .i64) v12853 ([x11886.2, x11922.2.2, x11960.2, x12010.2, x12821, x12837] : List Int), Blk g11 39 [.int .i32 0, .int .u32 0, .nilIface, .int .i64 0, .string ⟨⟨[]⟩⟩, .string ⟨⟨[]⟩⟩, .slice none 0 0, .slice none 0 0, .slice none 0 0], Sl Ty.u8 v10056 x10053, Blk g6829 23 [.pointer none, .pointer (some ⟨g11, 0, none⟩)]]) H ?_ ?_
              · exact ⟨F12860.sub ⟨rfl, rfl, rfl, rfl, rfl, rfl, rfl, rfl, rfl, rfl, rfl, rfl, rfl, rfl, rfl, rfl, rfl, rfl, rfl, trivial⟩, s12857.f2.drop.f2.drop.f2.drop.f2.drop.f3.drop⟩
              · intro s13299 q13462 w13463 hI13464 o13461 H hr
                obtain ⟨F13459, s13460⟩ := hI13464
                replace H : provisolaw22_CardNone_b1 x11886 x11922 x11960 x12010 x12821 x12837 s13299 = some o13461 := H
                unfold provisolaw22_CardNone_b1 at H
                refine wp_seq ?_
                refine wp_reg ?_
                refine sv 1 F13459 fun _ F13466 => ?_
                refine st_end ?_
                refine then_n ?_
                refine wp_seq ?_
                refine ifs F13466 H (fun hb13469 H F13470 => ?_) (fun hb13469 H F13470 => ?_)
                · refine wp_skip ?_
                  refine then_n ?_
                  refine wp_seq ?_
                  refine wp_block ?_
                  refine wp_seq ?_
                  refine wp_reg ?_
                  obtain ⟨x13501, hx13502, H⟩ := bind_ok H
                  obtain ⟨ad13503, hi13504, he13505⟩ := own_idx (Flat.int .i64) s13460 (.head _) Fx.sl56 rfl hx13502
                  refine sx F13470 (hi13504 _ _ _ _ _ _ _ _ _ _ rfl rfl) fun _ F13506 => ?_
                  refine sx F13506 (ex_ld Fx.nag41 rfl (Cells.at_ (SL.elcells (Flat.int .i64) s13460 (.head _) he13505 hx13502) (o := 0) rfl)) fun _ F13507 => ?_
                  refine sv 1 F13507 fun _ F13508 => ?_
                  refine st_end ?_
                  refine then_n ?_
                  refine wp_seq ?_
                  refine wp_reg ?_
                  refine sv 2 F13508 fun _ F13510 => ?_
                  refine st_end ?_
                  refine then_n ?_
                  refine ifs F13510 H (fun hb13511 H F13512 => ?_) (fun hb13511 H F13512 => ?_)
                  · refine wp_seq ?_
                    refine wp_reg ?_
                    refine sv 1 F13512 fun _ F13514 => ?_
                    refine st_end ?_
                    refine then_n ?_
                    obtain rfl := some_ok H
                    obtain rfl := hr _ rfl
                    replace H := R13297
                    try dsimp only at H
                    obtain rfl := some_ok H
                    refine wp_ret ?_
                    refine blk_r <| then_r <| then_r <| blk_r <| then_r <| then_r <| blk_r <| then_r <| then_r <| blk_r <| then_r ?_
                    exact rt F13514 ⟨rfl, s13460.drop.drop.drop.drop⟩
                  · refine wp_skip ?_
                    refine blk_n ?_
                    refine then_n ?_
                    refine wp_reg ?_
                    refine sv 2 F13512 fun _ F13515 => ?_
                    refine st_end ?_
                    obtain rfl := some_ok H
                    refine then_n ?_
                    exact ⟨_, rfl, F13515.sub ⟨rfl, rfl, rfl, rfl, rfl, rfl, rfl, rfl, rfl, rfl, rfl, rfl, rfl, rfl, rfl, rfl, rfl, rfl, rfl, trivial⟩, s13460⟩
                · refine wp_exit ?_
                  refine then_x <| then_x <| blk_hit ?_
                  obtain rfl := some_ok H
                  obtain rfl := hr _ rfl
                  refine then_n ?_
                  exact ⟨_, rfl, F13470.sub ⟨rfl, rfl, rfl, rfl, rfl, rfl, rfl, rfl, rfl, rfl, rfl, rfl, rfl, rfl, rfl, rfl, trivial⟩, s13460.drop⟩
            · intro q13518 w13519 hJ
              obtain ⟨p13298, rfl, F13516, s13517⟩ := hJ
              have H := R13297
              clear R13297 H13296
              try dsimp only at H
              refine then_n ?_
              refine wp_seq ?_
              refine wp_reg ?_
              obtain ⟨x13520, hx13521, H⟩ := bind_ok H
              refine sv 1 F13516 fun _ F13522 => ?_
              have s13530 := s13517
              obtain ⟨G13535, hst13531, hF13532, hG13533, hcl13534⟩ := SL.open_ (ps := [Blk g11 39 [.int .i32 0, .int .u32 0, .nilIface, .int .i64 0, .string ⟨⟨[]⟩⟩, .string ⟨⟨[]⟩⟩, .slice none 0 0, .slice none 0 0, .slice none 0 0]]) (rest := [Sl Ty.u8 v10056 x10053, Blk g6829 23 [.pointer none, .pointer (some ⟨g11, 0, none⟩)]]) s13530
              refine std F13522 (card_Card_Names_z_c  hst13531   hx13521) fun v13523 w13524 _ hS13527 F13526 => ?_
              obtain ⟨_, rfl, hq13529⟩ := hS13527
              have s13528 := hcl13534 _ _ hq13529
              refine sx F13526 (ex_len rfl Tryz.underlying57 (formL (s13528.own_rd (.tail _ <| .head _)))) fun _ F13538 => ?_
              refine sv 2 F13538 fun _ F13539 => ?_
              refine bsp 76 F13539 H (fun hb13540 H F13541 => ?_) (fun hb13540 H F13541 => ?_)
              · refine sv 15 F13541 fun _ F13542 => ?_
                refine st_end ?_
                refine then_n ?_
                refine wp_if_t F13542 rfl ?_
                refine wp_seq ?_
                refine wp_reg ?_
                refine sv 1 F13542 fun _ F13544 => ?_
                refine st_end ?_
                refine then_n ?_
                obtain rfl := some_ok H
                refine wp_ret ?_
                refine blk_r <| then_r <| then_r <| blk_r <| then_r ?_
                exact rt F13544 ⟨rfl, s13528.drop.drop.drop.drop⟩
              · obtain ⟨x13545, hx13546, H⟩ := bind_ok H
                refine sv 1 F13541 fun _ F13547 => ?_
                refine st_ungd F13547 rfl rfl ?_
                have s13555 := s13528
                obtain ⟨G13560, hst13556, hF13557, hG13558, hcl13559⟩ := SL.open_ (ps := [Blk g11 39 [.int .i32 0, .int .u32 0, .nilIface, .int .i64 0, .string ⟨⟨[]⟩⟩, .string ⟨⟨[]⟩⟩, .slice none 0 0, .slice none 0 0, .slice none 0 0]]) (rest := [Sl Ty.str v13523 x13520, Sl Ty.u8 v10056 x10053, Blk g6829 23 [.pointer none, .pointer (some ⟨g11, 0, none⟩)]]) s13555
                refine std F13547 (card_Card_Image_z_c  hst13556   hx13546) fun v13548 w13549 _ hS13552 F13551 => ?_
                obtain ⟨_, rfl, hq13554⟩ := hS13552
                have s13553 := hcl13559 _ _ hq13554
                refine st_gop F13551 rfl rfl rfl (ex_len rfl Tryz.underlying22 (formL (s13553.own_rd (.tail _ <| .head _)))) rfl rfl fun q13563 F13564 => ?_
                refine sv 3 F13564 fun _ F13565 => ?_
                refine bsp 82 F13565 H (fun hb13566 H F13567 => ?_) (fun hb13566 H F13567 => ?_)
                · refine sv 9 F13567 fun _ F13568 => ?_
                  refine st_end ?_
                  refine then_n ?_
                  refine wp_if_t F13568 rfl ?_
                  refine wp_seq ?_
                  refine wp_reg ?_
                  refine sv 1 F13568 fun _ F13570 => ?_
                  refine st_end ?_
                  refine then_n ?_
                  obtain rfl := some_ok H
                  refine wp_ret ?_
                  refine blk_r <| then_r <| then_r <| blk_r <| then_r ?_
                  exact rt F13570 ⟨rfl, s13553.drop.drop.drop.drop.drop⟩
                · obtain ⟨x13571, hx13572, H⟩ := bind_ok H
                  refine sv 1 F13567 fun _ F13573 => ?_
                  refine st_ungd F13573 rfl rfl ?_
                  have s13581 := s13553
                  obtain ⟨G13586, hst13582, hF13583, hG13584, hcl13585⟩ := SL.open_ (ps := [Blk g11 39 [.int .i32 0, .int .u32 0, .nilIface, .int .i64 0, .string ⟨⟨[]⟩⟩, .string ⟨⟨[]⟩⟩, .slice none 0 0, .slice none 0 0, .slice none 0 0]]) (rest := [Sl Ty.u8 v13548 x13545, Sl Ty.str v13523 x13520, Sl Ty.u8 v10056 x10053, Blk g6829 23 [.pointer none, .pointer (some ⟨g11, 0, none⟩)]]) s13581
                  refine std F13573 (card_Card_Free_z_c  hst13582   hx13572) fun v13574 w13575 _ hS13578 F13577 => ?_
                  obtain ⟨rfl, hq13580⟩ := hS13578
                  have s13579 := hcl13585 _ _ hq13580
                  refine sv 3 F13577 fun _ F13587 => ?_
                  refine bsp 87 F13587 H (fun hb13588 H F13589 => ?_) (fun hb13588 H F13589 => ?_)
                  · refine sv 4 F13589 fun _ F13590 => ?_
                    refine st_end ?_
                    refine then_n ?_
                    refine wp_if_t F13590 rfl ?_
                    refine wp_seq ?_
                    refine wp_reg ?_
                    refine sv 1 F13590 fun _ F13592 => ?_
                    refine st_end ?_
                    refine then_n ?_
                    obtain rfl := some_ok H
                    refine wp_ret ?_
                    refine blk_r <| then_r <| then_r <| blk_r <| then_r ?_
                    exact rt F13592 ⟨rfl, s13579.drop.drop.drop.drop.drop⟩
                  · obtain ⟨x13593, hx13594, H⟩ := bind_ok H
                    refine sv 1 F13589 fun _ F13595 => ?_
                    refine st_ungd F13595 rfl rfl ?_
                    have s13603 := s13579
                    obtain ⟨G13608, hst13604, hF13605, hG13606, hcl13607⟩ := SL.open_ (ps := [Blk g11 39 [.int .i32 0, .int .u32 0, .nilIface, .int .i64 0, .string ⟨⟨[]⟩⟩, .string ⟨⟨[]⟩⟩, .slice none 0 0, .slice none 0 0, .slice none 0 0]]) (rest := [Sl Ty.u8 v13548 x13545, Sl Ty.str v13523 x13520, Sl Ty.u8 v10056 x10053, Blk g6829 23 [.pointer none, .pointer (some ⟨g11, 0, none⟩)]]) s13603
                    refine std F13595 (card_Card_Selected_z_c  hst13604   hx13594) fun v13596 w13597 _ hS13600 F13599 => ?_
                    obtain ⟨rfl, hq13602⟩ := hS13600
                    have s13601 := hcl13607 _ _ hq13602
                    refine st_gop F13599 rfl rfl rfl (ex_sne rfl rfl) rfl rfl fun q13609 F13610 => ?_
                    refine sv 1 F13610 fun _ F13611 => ?_
                    refine st_end ?_
                    refine then_n ?_
                    refine ifs F13611 H (fun hb13612 H F13613 => ?_) (fun hb13612 H F13613 => ?_)
                    · refine wp_seq ?_
                      refine wp_reg ?_
                      refine sv 1 F13613 fun _ F13615 => ?_
                      refine st_end ?_
                      refine then_n ?_
                      obtain rfl := some_ok H
                      refine wp_ret ?_
                      refine blk_r <| then_r <| then_r <| blk_r <| then_r ?_
                      exact rt F13615 ⟨rfl, s13601.drop.drop.drop.drop.drop⟩
                    · refine wp_skip ?_
                      refine blk_n ?_
                      refine then_n ?_
                      refine wp_reg ?_
                      refine sv 2 F13613 fun _ F13616 => ?_
                      refine st_end ?_
                      refine then_n ?_
                      refine rounds_step ?_
                      refine wp_seq ?_
                      refine wp_reg ?_
                      refine sv 1 F13616 fun _ F13618 => ?_
                      refine st_end ?_
                      refine then_n ?_
                      refine wp_seq ?_
                      refine wp_if_f F13618 rfl ?_
                      refine wp_exit ?_
                      refine then_x <| then_x <| blk_hit ?_
                      refine then_n ?_
                      refine wp_seq ?_
                      refine wp_reg ?_
                      refine st_call (args := [.const (.int .i64 7)]) F13618 Fx.fn14 rfl card_New7_c rfl fun v13631 w13632 q13633 hS13634 F13635 => ?_
                      obtain ⟨g13629, rfl, hq13630⟩ := hS13634
                      have s13636 := s13601.add hq13630
                      refine sv 5 F13635 fun _ F13638 => ?_
                      refine st_end ?_
                      refine then_n ?_
                      refine wp_seq ?_
                      refine wp_reg ?_
                      refine sv 1 F13638 fun _ F13657 => ?_
                      refine sx F13657 (ex_ptr_ne rfl rfl Tryz.underlying23) fun _ F13658 => ?_
                      refine sv 6 F13658 fun _ F13659 => ?_
                      refine st_ungd F13659 rfl rfl ?_
                      have s13660 := s13636
                      obtain ⟨G13661, hst13662, hF13663, hG13664, hcl13665⟩ := SL.open_ (ps := [CdNew g13629]) (rest := [Blk g11 39 [.int .i32 0, .int .u32 0, .nilIface, .int .i64 0, .string ⟨⟨[]⟩⟩, .string ⟨⟨[]⟩⟩, .slice none 0 0, .slice none 0 0, .slice none 0 0], Sl Ty.u8 v13548 x13545, Sl Ty.str v13523 x13520, Sl Ty.u8 v10056 x10053, Blk g6829 23 [.pointer none, .pointer (some ⟨g11, 0, none⟩)]]) s13660
                      refine st_call (args := [.tmp 104]) F13659 Fx.fn12 rfl (card_Free7_c hst13662) rfl fun v13666 w13667 q13668 hS13669 F13670 => ?_
                      obtain ⟨rfl, h13673⟩ := hS13669
                      have s13671 := hcl13665 _ _ h13673
                      refine sv 3 F13670 fun _ F13674 => ?_
                      refine st_end ?_
                      refine then_n ?_
                      obtain rfl := some_ok H
                      refine wp_ret ?_
                      exact rt F13674 ⟨rfl, s13671.drop.drop.drop.drop.drop.drop⟩
end Go.Proofs.YtkcehlfcfcabmaaGreat
