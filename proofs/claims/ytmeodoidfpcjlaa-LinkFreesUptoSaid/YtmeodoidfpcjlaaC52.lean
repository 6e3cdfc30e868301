/- The walk of proviso/code.Decode. -/
import Derived.Test.YtmeodoidfpcjlaaFx
import Derived.Test.YtmeodoidfpcjlaaDf
import Derived.Test.YtmeodoidfpcjlaaC53
import Derived.Test.YtmeodoidfpcjlaaC71s0
import Derived.Test.YtmeodoidfpcjlaaC72
set_option linter.unusedVariables false
set_option linter.unusedSimpArgs false
namespace Go.Proofs.Ytmeodoidfpcjlaa
open Go Go.RowKit Go.Pv
theorem code_Decode_c {w : World} {v0 : Value} {a0 : List UInt8} {a1 : Int} {r : S_api_Instr × Int} (hr0 : Rd Ty.u8 w [] v0 a0) (H : code_Decode a0 a1 = some r) :
    Calls Try.prog 52 #[v0, .int .i64 a1] w (Ret fun u_ w_ => u_ = .tuple ⟨[.agg ⟨[.int .i64 r.1.At, .int .u8 (r.1.Op.toNat : Int), .int .i64 r.1.A, .int .i64 r.1.B]⟩, .int .i64 r.2]⟩ ∧ SL w [] w_ []) := by
  have s0 : SL w [] w [] := SL.init0 w
  refine call_enter Try.func52 rfl Try.ntmps52 (Nat.le_of_ble_eq_true rfl) (args := [v0, .int .i64 a1]) fun q0 F0 => ?_
  unfold code_Decode at H
  refine wp_seq ?_
  refine wp_reg ?_
  refine st_alloc F0 s0 Fx.zero90 rfl rfl fun g9 w10 q11 F12 s13 => ?_
  refine st_pr F12 (PR.op (ex_asg rfl) <| PR.nil) fun q15 F16 => ?_
  refine st_end ?_
  refine then_n ?_
  refine wp_seq ?_
  refine wp_reg ?_
  refine st_pr F16 (PR.op (ex_build (vs := []) Fx.zero90 Fx.pl90 rfl (cs := [.int .i64 0, .int .u8 0, .int .i64 0, .int .i64 0]) (rfl)) <| PR.nil) fun q30 F31 => ?_
  refine st_alloc F31 s13 Fx.zero90 rfl rfl fun g32 w33 q34 F35 s36 => ?_
  have s42 := s36
  refine st_storea F35 s42 rfl rfl Fx.sz90 (one_cons rfl (one_cons rfl (one_cons rfl (one_cons rfl one_nil)))) (Nat.le_of_ble_eq_true rfl) fun w38 q39 F40 s41 => ?_
  replace s41 : SL w [] w38 [Blk g32 90 [.int .i64 0, .int .u8 0, .int .i64 0, .int .i64 0], Blk g9 90 [.int .i64 0, .int .u8 0, .int .i64 0, .int .i64 0]] := s41
  refine st_end ?_
  refine then_n ?_
  refine wp_seq ?_
  refine wp_block ?_
  refine wp_seq ?_
  refine wp_reg ?_
  refine st_pr F40 (PR.op (ex_move rfl) <| PR.op (ex_lt rfl rfl) <| PR.op (ex_move rfl) <| PR.nil) fun q236 F237 => ?_
  refine bool_split (decide (a1 < 0)) (fun hb238 => ?_) (fun hb238 => ?_)
  · replace H := ite_t hb238 H
    refine st_gskip F237 rfl rfl (look_b rfl hb238) Bool.noConfusion rfl rfl fun q239 F240 => ?_
    refine st_gskip F240 rfl rfl (look_b rfl hb238) Bool.noConfusion rfl rfl fun q241 F242 => ?_
    refine st_gskip F242 rfl rfl (look_b rfl hb238) Bool.noConfusion rfl rfl fun q243 F244 => ?_
    refine st_gskip F244 rfl rfl (look_b rfl hb238) Bool.noConfusion rfl rfl fun q245 F246 => ?_
    refine st_pr F246 (PR.op (ex_pick_t (ev_b rfl hb238) rfl) <| PR.op (ex_asg rfl) <| PR.nil) fun q247 F248 => ?_
    refine st_end ?_
    refine then_n ?_
    refine wp_if_t F248 rfl ?_
    refine wp_seq ?_
    refine wp_reg ?_
    refine st_pr F248 (PR.op (ex_ldagg Fx.agg90 rfl (s41.blk_cells (.head _) (o := 0) (ds := [.int .i64 0, .int .u8 0, .int .i64 0, .int .i64 0]) (fun j u hu => by rw [Nat.zero_add]; exact hu)) rfl) <| PR.nil) fun q258 F259 => ?_
    have s264 := s41.f1
    refine st_storea F259 s264 rfl rfl Fx.sz90 (one_cons rfl (one_cons rfl (one_cons rfl (one_cons rfl one_nil)))) (Nat.le_of_ble_eq_true rfl) fun w260 q261 F262 s263 => ?_
    replace s263 : SL w [] w260 [Blk g9 90 [.int .i64 0, .int .u8 0, .int .i64 0, .int .i64 0], Blk g32 90 [.int .i64 0, .int .u8 0, .int .i64 0, .int .i64 0]] := s263
    refine st_pr F262 (PR.op (ex_asg rfl) <| PR.nil) fun q265 F266 => ?_
    refine st_end ?_
    refine then_n ?_
    obtain rfl := some_ok H
    refine wp_ret ?_
    refine blk_r <| then_r ?_
    refine ret_gen (rs := [.cell 4 90, .tmp 5]) (vs := [.agg ⟨[.int .i64 0, .int .u8 0, .int .i64 0, .int .i64 0]⟩, .int .i64 1]) F266 (by rfl) ⟨_, _, rfl, RV.blk s263 (.head _) rfl Fx.agg90 rfl, _, _, rfl, RV.tmp rfl, rfl⟩ ⟨_, rfl, ⟨rfl, s263.drop.drop⟩⟩
  · replace H := ite_f hb238 H
    refine st_gop F237 rfl rfl (look_b rfl hb238) (ex_move rfl) rfl rfl fun q267 F268 => ?_
    refine st_gop F268 rfl rfl (look_b rfl hb238) (ex_move rfl) rfl rfl fun q269 F270 => ?_
    refine st_gop F270 rfl rfl (look_b rfl hb238) (ex_len rfl Try.underlying22 (formL (rdL hr0 s41))) rfl rfl fun q271 F272 => ?_
    refine st_gop F272 rfl rfl (look_b rfl hb238) (ex_gt rfl rfl) rfl rfl fun q273 F274 => ?_
    refine st_pr F274 (PR.op (ex_pick_f (ev_b rfl hb238) rfl) <| PR.op (ex_asg rfl) <| PR.nil) fun q275 F276 => ?_
    refine st_end ?_
    refine then_n ?_
    refine wp_if F276 rfl (fun hb277 => ?_) (fun hb277 => ?_)
    · replace H := ite_t hb277 H
      refine wp_seq ?_
      refine wp_reg ?_
      refine st_pr F276 (PR.op (ex_ldagg Fx.agg90 rfl (s41.blk_cells (.head _) (o := 0) (ds := [.int .i64 0, .int .u8 0, .int .i64 0, .int .i64 0]) (fun j u hu => by rw [Nat.zero_add]; exact hu)) rfl) <| PR.nil) fun q287 F288 => ?_
      have s293 := s41.f1
      refine st_storea F288 s293 rfl rfl Fx.sz90 (one_cons rfl (one_cons rfl (one_cons rfl (one_cons rfl one_nil)))) (Nat.le_of_ble_eq_true rfl) fun w289 q290 F291 s292 => ?_
      replace s292 : SL w [] w289 [Blk g9 90 [.int .i64 0, .int .u8 0, .int .i64 0, .int .i64 0], Blk g32 90 [.int .i64 0, .int .u8 0, .int .i64 0, .int .i64 0]] := s292
      refine st_pr F291 (PR.op (ex_asg rfl) <| PR.nil) fun q294 F295 => ?_
      refine st_end ?_
      refine then_n ?_
      obtain rfl := some_ok H
      refine wp_ret ?_
      refine blk_r <| then_r ?_
      refine ret_gen (rs := [.cell 4 90, .tmp 5]) (vs := [.agg ⟨[.int .i64 0, .int .u8 0, .int .i64 0, .int .i64 0]⟩, .int .i64 1]) F295 (by rfl) ⟨_, _, rfl, RV.blk s292 (.head _) rfl Fx.agg90 rfl, _, _, rfl, RV.tmp rfl, rfl⟩ ⟨_, rfl, ⟨rfl, s292.drop.drop⟩⟩
    · replace H := ite_f hb277 H
      refine wp_seq ?_
      refine wp_reg ?_
      refine st_pr F276 (PR.op (ex_move rfl) <| PR.op (ex_move rfl) <| PR.op (ex_len rfl Try.underlying22 (formL (rdL hr0 s41))) <| PR.op (ex_eq rfl rfl) <| PR.op (ex_asg rfl) <| PR.nil) fun q298 F299 => ?_
      refine st_end ?_
      refine then_n ?_
      refine wp_if F299 rfl (fun hb300 => ?_) (fun hb300 => ?_)
      · replace H := ite_t hb300 H
        refine wp_seq ?_
        refine wp_reg ?_
        refine st_pr F299 (PR.op (ex_ldagg Fx.agg90 rfl (s41.blk_cells (.head _) (o := 0) (ds := [.int .i64 0, .int .u8 0, .int .i64 0, .int .i64 0]) (fun j u hu => by rw [Nat.zero_add]; exact hu)) rfl) <| PR.nil) fun q310 F311 => ?_
        have s316 := s41.f1
        refine st_storea F311 s316 rfl rfl Fx.sz90 (one_cons rfl (one_cons rfl (one_cons rfl (one_cons rfl one_nil)))) (Nat.le_of_ble_eq_true rfl) fun w312 q313 F314 s315 => ?_
        replace s315 : SL w [] w312 [Blk g9 90 [.int .i64 0, .int .u8 0, .int .i64 0, .int .i64 0], Blk g32 90 [.int .i64 0, .int .u8 0, .int .i64 0, .int .i64 0]] := s315
        refine st_pr F314 (PR.op (ex_asg rfl) <| PR.nil) fun q317 F318 => ?_
        refine st_end ?_
        refine then_n ?_
        obtain rfl := some_ok H
        refine wp_ret ?_
        refine blk_r <| then_r ?_
        refine ret_gen (rs := [.cell 4 90, .tmp 5]) (vs := [.agg ⟨[.int .i64 0, .int .u8 0, .int .i64 0, .int .i64 0]⟩, .int .i64 2]) F318 (by rfl) ⟨_, _, rfl, RV.blk s315 (.head _) rfl Fx.agg90 rfl, _, _, rfl, RV.tmp rfl, rfl⟩ ⟨_, rfl, ⟨rfl, s315.drop.drop⟩⟩
      · replace H := ite_f hb300 H
        refine wp_seq ?_
        refine wp_reg ?_
        obtain ⟨x337, hx338, H⟩ := bind_ok H
        obtain ⟨ad339, hi340, hc341⟩ := idxL Flat.u8 (rdL hr0 s41) Fx.sl22 rfl hx338
        obtain ⟨x342, hx343, H⟩ := bind_ok H
        refine st_pr F299 (PR.op (ex_move rfl) <| PR.op (ex_move rfl) <| PR.op (hi340 _ _ _ _ _ _ _ _ _ _ rfl rfl) <| PR.op (ex_ld Fx.nag5 rfl (Cells.at_ hc341 (o := 0) rfl)) <| PR.nil) fun q344 F345 => ?_
        refine st_call (args := [.tmp 33]) F345 Fx.fn53 rfl (code_Size_c (a0 := x337)   hx343) rfl fun v346 w347 q348 hS350 F349 => ?_
        obtain ⟨rfl, hq352⟩ := hS350
        have s351 := s41.add hq352
        refine st_pr F349 (PR.op (ex_eq rfl rfl) <| PR.op (ex_asg rfl) <| PR.nil) fun q353 F354 => ?_
        refine st_end ?_
        refine then_n ?_
        refine wp_if F354 rfl (fun hb355 => ?_) (fun hb355 => ?_)
        · replace H := ite_t hb355 H
          refine wp_seq ?_
          refine wp_reg ?_
          refine st_pr F354 (PR.op (ex_ldagg Fx.agg90 rfl (s351.blk_cells (.head _) (o := 0) (ds := [.int .i64 0, .int .u8 0, .int .i64 0, .int .i64 0]) (fun j u hu => by rw [Nat.zero_add]; exact hu)) rfl) <| PR.nil) fun q365 F366 => ?_
          have s371 := s351.f1
          refine st_storea F366 s371 rfl rfl Fx.sz90 (one_cons rfl (one_cons rfl (one_cons rfl (one_cons rfl one_nil)))) (Nat.le_of_ble_eq_true rfl) fun w367 q368 F369 s370 => ?_
          replace s370 : SL w [] w367 [Blk g9 90 [.int .i64 0, .int .u8 0, .int .i64 0, .int .i64 0], Blk g32 90 [.int .i64 0, .int .u8 0, .int .i64 0, .int .i64 0]] := s370
          refine st_pr F369 (PR.op (ex_asg rfl) <| PR.nil) fun q372 F373 => ?_
          refine st_end ?_
          refine then_n ?_
          obtain rfl := some_ok H
          refine wp_ret ?_
          refine blk_r <| then_r ?_
          refine ret_gen (rs := [.cell 4 90, .tmp 5]) (vs := [.agg ⟨[.int .i64 0, .int .u8 0, .int .i64 0, .int .i64 0]⟩, .int .i64 40]) F373 (by rfl) ⟨_, _, rfl, RV.blk s370 (.head _) rfl Fx.agg90 rfl, _, _, rfl, RV.tmp rfl, rfl⟩ ⟨_, rfl, ⟨rfl, s370.drop.drop⟩⟩
        · replace H := ite_f hb355 H
          refine wp_seq ?_
          refine wp_reg ?_
          obtain ⟨x392, hx393, H⟩ := bind_ok H
          obtain ⟨ad394, hi395, hc396⟩ := idxL Flat.u8 (rdL hr0 s351) Fx.sl22 rfl hx393
          obtain ⟨x397, hx398, H⟩ := bind_ok H
          refine st_pr F354 (PR.op (ex_move rfl) <| PR.op (ex_len rfl Try.underlying22 (formL (rdL hr0 s351))) <| PR.op (ex_move rfl) <| PR.op (ex_sub rfl rfl) <| PR.op (ex_move rfl) <| PR.op (ex_move rfl) <| PR.op (hi395 _ _ _ _ _ _ _ _ _ _ rfl rfl) <| PR.op (ex_ld Fx.nag5 rfl (Cells.at_ hc396 (o := 0) rfl)) <| PR.nil) fun q399 F400 => ?_
          refine st_call (args := [.tmp 45]) F400 Fx.fn53 rfl (code_Size_c (a0 := x392)   hx398) rfl fun v401 w402 q403 hS405 F404 => ?_
          obtain ⟨rfl, hq407⟩ := hS405
          have s406 := s351.add hq407
          refine st_pr F404 (PR.op (ex_lt rfl rfl) <| PR.op (ex_asg rfl) <| PR.nil) fun q408 F409 => ?_
          refine st_end ?_
          refine then_n ?_
          refine wp_if F409 rfl (fun hb410 => ?_) (fun hb410 => ?_)
          · replace H := ite_t hb410 H
            refine wp_seq ?_
            refine wp_reg ?_
            refine st_pr F409 (PR.op (ex_ldagg Fx.agg90 rfl (s406.blk_cells (.head _) (o := 0) (ds := [.int .i64 0, .int .u8 0, .int .i64 0, .int .i64 0]) (fun j u hu => by rw [Nat.zero_add]; exact hu)) rfl) <| PR.nil) fun q420 F421 => ?_
            have s426 := s406.f1
            refine st_storea F421 s426 rfl rfl Fx.sz90 (one_cons rfl (one_cons rfl (one_cons rfl (one_cons rfl one_nil)))) (Nat.le_of_ble_eq_true rfl) fun w422 q423 F424 s425 => ?_
            replace s425 : SL w [] w422 [Blk g9 90 [.int .i64 0, .int .u8 0, .int .i64 0, .int .i64 0], Blk g32 90 [.int .i64 0, .int .u8 0, .int .i64 0, .int .i64 0]] := s425
            refine st_pr F424 (PR.op (ex_asg rfl) <| PR.nil) fun q427 F428 => ?_
            refine st_end ?_
            refine then_n ?_
            obtain rfl := some_ok H
            refine wp_ret ?_
            refine blk_r <| then_r ?_
            refine ret_gen (rs := [.cell 4 90, .tmp 5]) (vs := [.agg ⟨[.int .i64 0, .int .u8 0, .int .i64 0, .int .i64 0]⟩, .int .i64 2]) F428 (by rfl) ⟨_, _, rfl, RV.blk s425 (.head _) rfl Fx.agg90 rfl, _, _, rfl, RV.tmp rfl, rfl⟩ ⟨_, rfl, ⟨rfl, s425.drop.drop⟩⟩
          · replace H := ite_f hb410 H
            refine wp_skip ?_
            refine blk_n ?_
            refine then_n ?_
            refine wp_seq ?_
            refine wp_reg ?_
            obtain ⟨x447, hx448, H⟩ := bind_ok H
            obtain ⟨ad449, hi450, hc451⟩ := idxL Flat.u8 (rdL hr0 s406) Fx.sl22 rfl hx448
            refine st_pr F409 (PR.op (ex_move rfl) <| PR.op (ex_move rfl) <| PR.op (ex_move rfl) <| PR.op (hi450 _ _ _ _ _ _ _ _ _ _ rfl rfl) <| PR.op (ex_ld Fx.nag5 rfl (Cells.at_ hc451 (o := 0) rfl)) <| PR.op (ex_build (vs := [.int .i64 a1, .int .u8 (x447.toNat : Int)]) Fx.zero90 Fx.pl90 rfl (cs := [.int .i64 a1, .int .u8 (x447.toNat : Int), .int .i64 0, .int .i64 0]) (rfl)) <| PR.nil) fun q452 F453 => ?_
            refine st_alloc F453 s406 Fx.zero90 rfl rfl fun g454 w455 q456 F457 s458 => ?_
            have s464 := s458
            refine st_storea F457 s464 rfl rfl Fx.sz90 (one_cons rfl (one_cons rfl (one_cons rfl (one_cons rfl one_nil)))) (Nat.le_of_ble_eq_true rfl) fun w460 q461 F462 s463 => ?_
            replace s463 : SL w [] w460 [Blk g454 90 [.int .i64 a1, .int .u8 (x447.toNat : Int), .int .i64 0, .int .i64 0], Blk g32 90 [.int .i64 0, .int .u8 0, .int .i64 0, .int .i64 0], Blk g9 90 [.int .i64 0, .int .u8 0, .int .i64 0, .int .i64 0]] := s463
            refine st_end ?_
            refine then_n ?_
            refine wp_seq ?_
            refine wp_reg ?_
            obtain ⟨x483, hx484, H⟩ := bind_ok H
            obtain ⟨v485, hsc486, hv487⟩ := Rd.cut hr0 Fx.sl22 rfl hx484 (some (wr (a1 + 1))) none (.inl rfl) (.inr ⟨rfl, rfl⟩)
            refine st_pr F462 (PR.op (ex_move rfl) <| PR.op (ex_move rfl) <| PR.op (ex_add rfl rfl) <| PR.op (hsc486 _ _ _ _ _ .i64 .i64 _ _ _ _ _ rfl rfl trivial) <| PR.nil) fun q488 F489 => ?_
            refine st_alloc F489 s463 Fx.zero22 rfl rfl fun g490 w491 q492 F493 s494 => ?_
            have s500 := s494
            refine st_store F493 s500 rfl rfl Fx.sz22 (form_cells (formL (rdL hv487 s500))) (form_one (formL (rdL hv487 s500))) rfl fun w496 q497 F498 s499 => ?_
            replace s499 : SL w [] w496 [Blk g490 22 [v485], Blk g454 90 [.int .i64 a1, .int .u8 (x447.toNat : Int), .int .i64 0, .int .i64 0], Blk g32 90 [.int .i64 0, .int .u8 0, .int .i64 0, .int .i64 0], Blk g9 90 [.int .i64 0, .int .u8 0, .int .i64 0, .int .i64 0]] := s499
            refine st_end ?_
            refine then_n ?_
            refine wp_seq ?_
            refine wp_reg ?_
            refine st_pr F498 (PR.op (ex_mkfunc (cs := [.tmp 8]) (vs := [.pointer (some ⟨g490, 0, none⟩)]) rfl) <| PR.op (ex_asg rfl) <| PR.nil) fun q503 F504 => ?_
            refine st_end ?_
            refine then_n ?_
            refine wp_seq ?_
            refine wp_reg ?_
            obtain ⟨x518, hx519, H⟩ := bind_ok H
            refine st_pr F504 (PR.op (ex_fab Fx.fa90_1 rfl rfl) <| PR.op (ex_ld Fx.nag5 rfl (s499.blk_cell (.tail _ <| .head _) rfl)) <| PR.nil) fun q520 F521 => ?_
            refine st_call (args := [.tmp 62]) F521 Fx.fn72 rfl (code_widths_c (a0 := x447)   hx519) rfl fun v522 w523 q524 hS526 F525 => ?_
            obtain ⟨rfl, hq528⟩ := hS526
            have s527 := s499.add hq528
            refine st_pr F525 (PR.op (ex_move rfl) <| PR.op (ex_extract (v := .int .i64 x518.1) rfl rfl) <| PR.op (ex_extract (v := .int .i64 x518.2) rfl rfl) <| PR.op (ex_asg rfl) <| PR.op (ex_asg rfl) <| PR.nil) fun q529 F530 => ?_
            refine st_end ?_
            refine then_n ?_
            refine wp_seq ?_
            refine wp_reg ?_
            obtain ⟨x558, hx559, H⟩ := bind_ok H
            refine st_pr F530 (PR.op (ex_move rfl) <| PR.op (ex_move rfl) <| PR.nil) fun q560 F561 => ?_
            have s569 := s527
            obtain ⟨G574, hst570, hF571, hG572, hcl573⟩ := SL.open_ (ps := [Blk g490 22 [v485]]) (rest := [Blk g454 90 [.int .i64 a1, .int .u8 (x447.toNat : Int), .int .i64 0, .int .i64 0], Blk g32 90 [.int .i64 0, .int .u8 0, .int .i64 0, .int .i64 0], Blk g9 90 [.int .i64 0, .int .u8 0, .int .i64 0, .int .i64 0]]) s569
            refine st_callf (args := [.tmp 67]) F561 Fx.fn71 rfl rfl (code_Decode_1_s0_c (a0 := x518.1) (a1 := x483) hst570 (hv487.pass s569 hF571) hx559) rfl fun v562 w563 q564 hS566 F565 => ?_
            obtain ⟨v575, rfl, hv576, hq568⟩ := hS566
            have hr577 := View.rd hv576 hv487
            have s567 := hcl573 _ _ hq568
            refine st_pr F565 (PR.op (ex_fab Fx.fa90_2 rfl rfl) <| PR.nil) fun q578 F579 => ?_
            have s584 := s567.f1
            refine st_store F579 s584 rfl rfl Fx.sz3 rfl rfl rfl fun w580 q581 F582 s583 => ?_
            replace s583 : SL w [] w580 [Blk g454 90 [.int .i64 a1, .int .u8 (x447.toNat : Int), .int .i64 x558.1, .int .i64 0], Blk g490 22 [v575], Blk g32 90 [.int .i64 0, .int .u8 0, .int .i64 0, .int .i64 0], Blk g9 90 [.int .i64 0, .int .u8 0, .int .i64 0, .int .i64 0]] := s583
            refine st_end ?_
            refine then_n ?_
            refine wp_seq ?_
            refine wp_reg ?_
            obtain ⟨x612, hx613, H⟩ := bind_ok H
            refine st_pr F582 (PR.op (ex_move rfl) <| PR.op (ex_move rfl) <| PR.nil) fun q614 F615 => ?_
            have s623 := s583.f1
            obtain ⟨G628, hst624, hF625, hG626, hcl627⟩ := SL.open_ (ps := [Blk g490 22 [v575]]) (rest := [Blk g454 90 [.int .i64 a1, .int .u8 (x447.toNat : Int), .int .i64 x558.1, .int .i64 0], Blk g32 90 [.int .i64 0, .int .u8 0, .int .i64 0, .int .i64 0], Blk g9 90 [.int .i64 0, .int .u8 0, .int .i64 0, .int .i64 0]]) s623
            refine st_callf (args := [.tmp 71]) F615 Fx.fn71 rfl rfl (code_Decode_1_s0_c (a0 := x518.2) (a1 := x558.2) hst624 (hr577.pass s623 hF625) hx613) rfl fun v616 w617 q618 hS620 F619 => ?_
            obtain ⟨v629, rfl, hv630, hq622⟩ := hS620
            have hr631 := View.rd hv630 hr577
            have s621 := hcl627 _ _ hq622
            refine st_pr F619 (PR.op (ex_fab Fx.fa90_3 rfl rfl) <| PR.nil) fun q632 F633 => ?_
            have s638 := s621.f1
            refine st_store F633 s638 rfl rfl Fx.sz3 rfl rfl rfl fun w634 q635 F636 s637 => ?_
            replace s637 : SL w [] w634 [Blk g454 90 [.int .i64 a1, .int .u8 (x447.toNat : Int), .int .i64 x558.1, .int .i64 x612.1], Blk g490 22 [v629], Blk g32 90 [.int .i64 0, .int .u8 0, .int .i64 0, .int .i64 0], Blk g9 90 [.int .i64 0, .int .u8 0, .int .i64 0, .int .i64 0]] := s637
            refine st_end ?_
            refine then_n ?_
            refine wp_seq ?_
            refine wp_seq ?_
            refine wp_reg ?_
            refine st_pr F636 (PR.op (ex_fab Fx.fa90_1 rfl rfl) <| PR.op (ex_ld Fx.nag5 rfl (s637.blk_cell (.head _) rfl)) <| PR.op (ex_eq rfl rfl) <| PR.op (ex_move rfl) <| PR.nil) fun q677 F678 => ?_
            refine bool_split ((x447.toNat : Int) == 2) (fun hb679 => ?_) (fun hb679 => ?_)
            · replace H := ite_t hb679 H
              refine st_gop F678 rfl rfl (look_b rfl hb679) (ex_fab Fx.fa90_2 rfl rfl) rfl rfl fun q680 F681 => ?_
              refine st_gop F681 rfl rfl (look_b rfl hb679) (ex_ld Fx.nag3 rfl (s637.blk_cell (.head _) rfl)) rfl rfl fun q682 F683 => ?_
              refine st_gop F683 rfl rfl (look_b rfl hb679) (ex_gt rfl rfl) rfl rfl fun q684 F685 => ?_
              refine st_pr F685 (PR.op (ex_pick_t (ev_b rfl hb679) rfl) <| PR.nil) fun q686 F687 => ?_
              refine st_end ?_
              refine then_n ?_
              refine wp_if F687 rfl (fun hb688 => ?_) (fun hb688 => ?_)
              · replace H := ite_t hb688 H
                refine wp_seq ?_
                refine wp_reg ?_
                refine st_pr F687 (PR.op (ex_ldagg Fx.agg90 rfl (s637.blk_cells (.tail _ <| .tail _ <| .head _) (o := 0) (ds := [.int .i64 0, .int .u8 0, .int .i64 0, .int .i64 0]) (fun j u hu => by rw [Nat.zero_add]; exact hu)) rfl) <| PR.nil) fun q698 F699 => ?_
                have s704 := s637.f3
                refine st_storea F699 s704 rfl rfl Fx.sz90 (one_cons rfl (one_cons rfl (one_cons rfl (one_cons rfl one_nil)))) (Nat.le_of_ble_eq_true rfl) fun w700 q701 F702 s703 => ?_
                replace s703 : SL w [] w700 [Blk g9 90 [.int .i64 0, .int .u8 0, .int .i64 0, .int .i64 0], Blk g454 90 [.int .i64 a1, .int .u8 (x447.toNat : Int), .int .i64 x558.1, .int .i64 x612.1], Blk g490 22 [v629], Blk g32 90 [.int .i64 0, .int .u8 0, .int .i64 0, .int .i64 0]] := s703
                refine st_pr F702 (PR.op (ex_asg rfl) <| PR.nil) fun q705 F706 => ?_
                refine st_end ?_
                refine then_n ?_
                obtain rfl := some_ok H
                refine wp_ret ?_
                refine then_r ?_
                refine ret_gen (rs := [.cell 4 90, .tmp 5]) (vs := [.agg ⟨[.int .i64 0, .int .u8 0, .int .i64 0, .int .i64 0]⟩, .int .i64 5]) F706 (by rfl) ⟨_, _, rfl, RV.blk s703 (.head _) rfl Fx.agg90 rfl, _, _, rfl, RV.tmp rfl, rfl⟩ ⟨_, rfl, ⟨rfl, s703.drop.drop.drop.drop⟩⟩
              · replace H := ite_f hb688 H
                refine wp_skip ?_
                refine then_n ?_
                refine wp_seq ?_
                refine wp_reg ?_
                refine st_pr F687 (PR.op (ex_ldagg Fx.agg90 rfl (s637.blk_cells (.head _) (o := 0) (ds := [.int .i64 a1, .int .u8 (x447.toNat : Int), .int .i64 x558.1, .int .i64 x612.1]) (fun j u hu => by rw [Nat.zero_add]; exact hu)) rfl) <| PR.nil) fun q716 F717 => ?_
                have s722 := s637.f3
                refine st_storea F717 s722 rfl rfl Fx.sz90 (one_cons rfl (one_cons rfl (one_cons rfl (one_cons rfl one_nil)))) (Nat.le_of_ble_eq_true rfl) fun w718 q719 F720 s721 => ?_
                replace s721 : SL w [] w718 [Blk g9 90 [.int .i64 a1, .int .u8 (x447.toNat : Int), .int .i64 x558.1, .int .i64 x612.1], Blk g454 90 [.int .i64 a1, .int .u8 (x447.toNat : Int), .int .i64 x558.1, .int .i64 x612.1], Blk g490 22 [v629], Blk g32 90 [.int .i64 0, .int .u8 0, .int .i64 0, .int .i64 0]] := s721
                refine st_pr F720 (PR.op (ex_asg rfl) <| PR.nil) fun q723 F724 => ?_
                refine st_end ?_
                refine then_n ?_
                obtain rfl := some_ok H
                refine wp_ret ?_
                refine ret_gen (rs := [.cell 4 90, .tmp 5]) (vs := [.agg ⟨[.int .i64 a1, .int .u8 (x447.toNat : Int), .int .i64 x558.1, .int .i64 x612.1]⟩, .int .i64 0]) F724 (by rfl) ⟨_, _, rfl, RV.blk s721 (.head _) rfl Fx.agg90 rfl, _, _, rfl, RV.tmp rfl, rfl⟩ ⟨_, rfl, ⟨rfl, s721.drop.drop.drop.drop⟩⟩
            · replace H := ite_f hb679 H
              refine st_gskip F678 rfl rfl (look_b rfl hb679) Bool.noConfusion rfl rfl fun q725 F726 => ?_
              refine st_gskip F726 rfl rfl (look_b rfl hb679) Bool.noConfusion rfl rfl fun q727 F728 => ?_
              refine st_gskip F728 rfl rfl (look_b rfl hb679) Bool.noConfusion rfl rfl fun q729 F730 => ?_
              refine st_pr F730 (PR.op (ex_pick_f (ev_b rfl hb679) rfl) <| PR.nil) fun q731 F732 => ?_
              refine st_end ?_
              refine then_n ?_
              refine wp_if_f F732 rfl ?_
              refine wp_skip ?_
              refine then_n ?_
              refine wp_seq ?_
              refine wp_reg ?_
              refine st_pr F732 (PR.op (ex_ldagg Fx.agg90 rfl (s637.blk_cells (.head _) (o := 0) (ds := [.int .i64 a1, .int .u8 (x447.toNat : Int), .int .i64 x558.1, .int .i64 x612.1]) (fun j u hu => by rw [Nat.zero_add]; exact hu)) rfl) <| PR.nil) fun q742 F743 => ?_
              have s748 := s637.f3
              refine st_storea F743 s748 rfl rfl Fx.sz90 (one_cons rfl (one_cons rfl (one_cons rfl (one_cons rfl one_nil)))) (Nat.le_of_ble_eq_true rfl) fun w744 q745 F746 s747 => ?_
              replace s747 : SL w [] w744 [Blk g9 90 [.int .i64 a1, .int .u8 (x447.toNat : Int), .int .i64 x558.1, .int .i64 x612.1], Blk g454 90 [.int .i64 a1, .int .u8 (x447.toNat : Int), .int .i64 x558.1, .int .i64 x612.1], Blk g490 22 [v629], Blk g32 90 [.int .i64 0, .int .u8 0, .int .i64 0, .int .i64 0]] := s747
              refine st_pr F746 (PR.op (ex_asg rfl) <| PR.nil) fun q749 F750 => ?_
              refine st_end ?_
              refine then_n ?_
              obtain rfl := some_ok H
              refine wp_ret ?_
              refine ret_gen (rs := [.cell 4 90, .tmp 5]) (vs := [.agg ⟨[.int .i64 a1, .int .u8 (x447.toNat : Int), .int .i64 x558.1, .int .i64 x612.1]⟩, .int .i64 0]) F750 (by rfl) ⟨_, _, rfl, RV.blk s747 (.head _) rfl Fx.agg90 rfl, _, _, rfl, RV.tmp rfl, rfl⟩ ⟨_, rfl, ⟨rfl, s747.drop.drop.drop.drop⟩⟩
end Go.Proofs.Ytmeodoidfpcjlaa
