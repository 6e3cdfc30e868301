/- The walk of proviso/provisoplain.SameOutcome. -/
import Derived.Test.YtfepcangbajjjaaFx
import Derived.Test.YtfepcangbajjjaaDf
import Derived.Test.YtfepcangbajjjaaC11
set_option linter.unusedVariables false
set_option linter.unusedSimpArgs false
namespace Go.Proofs.Ytfepcangbajjjaa
open Go Go.RowKit Go.Pv
theorem provisoplain_SameOutcome_c {w : World} {v0_3 v1_3 : Value} {a0 : S_api_Outcome} {a1 : S_api_Outcome} {r : Bool} (hr0_3 : Rd (Ty.int .i64) w [] v0_3 a0.Told) (hr1_3 : Rd (Ty.int .i64) w [] v1_3 a1.Told) (H : provisoplain_SameOutcome a0 a1 = some r) :
    Calls Try.prog 6 #[.agg ⟨[.int .i64 a0.Err, .int .i64 a0.Trap, .int .i64 a0.Result, v0_3, .int .i64 a0.Steps, .int .i64 a0.Cells]⟩, .agg ⟨[.int .i64 a1.Err, .int .i64 a1.Trap, .int .i64 a1.Result, v1_3, .int .i64 a1.Steps, .int .i64 a1.Cells]⟩] w (Ret fun u_ w_ => u_ = .bool r ∧ SL w [] w_ []) := by
  have s0 : SL w [] w [] := SL.init0 w
  refine call_enter Try.func6 rfl Try.ntmps6 (Nat.le_of_ble_eq_true rfl) (args := [.agg ⟨[.int .i64 a0.Err, .int .i64 a0.Trap, .int .i64 a0.Result, v0_3, .int .i64 a0.Steps, .int .i64 a0.Cells]⟩, .agg ⟨[.int .i64 a1.Err, .int .i64 a1.Trap, .int .i64 a1.Result, v1_3, .int .i64 a1.Steps, .int .i64 a1.Cells]⟩]) fun q0 F0 => ?_
  unfold provisoplain_SameOutcome at H
  refine wp_seq ?_
  refine wp_reg ?_
  refine st_box F0 s0 rfl rfl rfl fun g15 w16 q17 F18 s19 => ?_
  refine st_box F18 s19 rfl rfl rfl fun g21 w22 q23 F24 s25 => ?_
  refine st_pr F24 (PR.op (ex_asg rfl) <| PR.nil) fun q27 F28 => ?_
  refine st_end ?_
  refine then_n ?_
  refine wp_seq ?_
  refine wp_reg ?_
  refine st_pr F28 (PR.op (ex_fab Fx.fa35_0 rfl rfl) <| PR.op (ex_ld Fx.nag27 rfl (s25.blk_cell (.tail _ <| .head _) rfl)) <| PR.op (ex_fab Fx.fa35_0 rfl rfl) <| PR.op (ex_ld Fx.nag27 rfl (s25.blk_cell (.head _) rfl)) <| PR.op (ex_eq rfl rfl) <| PR.op (ex_move rfl) <| PR.nil) fun q283 F284 => ?_
  refine bool_split (a0.Err == a1.Err) (fun hb285 => ?_) (fun hb285 => ?_)
  · replace H := ite_t hb285 H
    refine st_gop F284 rfl rfl (look_b rfl hb285) (ex_fab Fx.fa35_1 rfl rfl) rfl rfl fun q286 F287 => ?_
    refine st_gop F287 rfl rfl (look_b rfl hb285) (ex_ld Fx.nag3 rfl (s25.blk_cell (.tail _ <| .head _) rfl)) rfl rfl fun q288 F289 => ?_
    refine st_gop F289 rfl rfl (look_b rfl hb285) (ex_fab Fx.fa35_1 rfl rfl) rfl rfl fun q290 F291 => ?_
    refine st_gop F291 rfl rfl (look_b rfl hb285) (ex_ld Fx.nag3 rfl (s25.blk_cell (.head _) rfl)) rfl rfl fun q292 F293 => ?_
    refine st_gop F293 rfl rfl (look_b rfl hb285) (ex_eq rfl rfl) rfl rfl fun q294 F295 => ?_
    refine st_pr F295 (PR.op (ex_pick_t (ev_b rfl hb285) rfl) <| PR.op (ex_move rfl) <| PR.nil) fun q296 F297 => ?_
    refine bool_split (a0.Trap == a1.Trap) (fun hb298 => ?_) (fun hb298 => ?_)
    · replace H := ite_t hb298 H
      refine st_gop F297 rfl rfl (look_b rfl hb298) (ex_fab Fx.fa35_2 rfl rfl) rfl rfl fun q299 F300 => ?_
      refine st_gop F300 rfl rfl (look_b rfl hb298) (ex_ld Fx.nag3 rfl (s25.blk_cell (.tail _ <| .head _) rfl)) rfl rfl fun q301 F302 => ?_
      refine st_gop F302 rfl rfl (look_b rfl hb298) (ex_fab Fx.fa35_2 rfl rfl) rfl rfl fun q303 F304 => ?_
      refine st_gop F304 rfl rfl (look_b rfl hb298) (ex_ld Fx.nag3 rfl (s25.blk_cell (.head _) rfl)) rfl rfl fun q305 F306 => ?_
      refine st_gop F306 rfl rfl (look_b rfl hb298) (ex_eq rfl rfl) rfl rfl fun q307 F308 => ?_
      refine st_pr F308 (PR.op (ex_pick_t (ev_b rfl hb298) rfl) <| PR.op (ex_move rfl) <| PR.nil) fun q309 F310 => ?_
      refine bool_split (a0.Result == a1.Result) (fun hb311 => ?_) (fun hb311 => ?_)
      · replace H := ite_t hb311 H
        refine st_gop F310 rfl rfl (look_b rfl hb311) (ex_fab Fx.fa35_4 rfl rfl) rfl rfl fun q312 F313 => ?_
        refine st_gop F313 rfl rfl (look_b rfl hb311) (ex_ld Fx.nag3 rfl (s25.blk_cell (.tail _ <| .head _) rfl)) rfl rfl fun q314 F315 => ?_
        refine st_gop F315 rfl rfl (look_b rfl hb311) (ex_fab Fx.fa35_4 rfl rfl) rfl rfl fun q316 F317 => ?_
        refine st_gop F317 rfl rfl (look_b rfl hb311) (ex_ld Fx.nag3 rfl (s25.blk_cell (.head _) rfl)) rfl rfl fun q318 F319 => ?_
        refine st_gop F319 rfl rfl (look_b rfl hb311) (ex_eq rfl rfl) rfl rfl fun q320 F321 => ?_
        refine st_pr F321 (PR.op (ex_pick_t (ev_b rfl hb311) rfl) <| PR.op (ex_move rfl) <| PR.nil) fun q322 F323 => ?_
        refine bool_split (a0.Steps == a1.Steps) (fun hb324 => ?_) (fun hb324 => ?_)
        · replace H := ite_t hb324 H
          refine st_gop F323 rfl rfl (look_b rfl hb324) (ex_fab Fx.fa35_5 rfl rfl) rfl rfl fun q325 F326 => ?_
          refine st_gop F326 rfl rfl (look_b rfl hb324) (ex_ld Fx.nag3 rfl (s25.blk_cell (.tail _ <| .head _) rfl)) rfl rfl fun q327 F328 => ?_
          refine st_gop F328 rfl rfl (look_b rfl hb324) (ex_fab Fx.fa35_5 rfl rfl) rfl rfl fun q329 F330 => ?_
          refine st_gop F330 rfl rfl (look_b rfl hb324) (ex_ld Fx.nag3 rfl (s25.blk_cell (.head _) rfl)) rfl rfl fun q331 F332 => ?_
          refine st_gop F332 rfl rfl (look_b rfl hb324) (ex_eq rfl rfl) rfl rfl fun q333 F334 => ?_
          refine st_pr F334 (PR.op (ex_pick_t (ev_b rfl hb324) rfl) <| PR.op (ex_move rfl) <| PR.nil) fun q335 F336 => ?_
          refine bool_split (a0.Cells == a1.Cells) (fun hb337 => ?_) (fun hb337 => ?_)
          · replace H := ite_t hb337 H
            refine st_gop F336 rfl rfl (look_b rfl hb337) (ex_fab Fx.fa35_3 rfl rfl) rfl rfl fun q338 F339 => ?_
            refine st_gop F339 rfl rfl (look_b rfl hb337) (ex_ld Fx.nag33 rfl (s25.blk_cell (.tail _ <| .head _) rfl)) rfl rfl fun q340 F341 => ?_
            refine st_gop F341 rfl rfl (look_b rfl hb337) (ex_fab Fx.fa35_3 rfl rfl) rfl rfl fun q342 F343 => ?_
            refine st_gop F343 rfl rfl (look_b rfl hb337) (ex_ld Fx.nag33 rfl (s25.blk_cell (.head _) rfl)) rfl rfl fun q344 F345 => ?_
            obtain ⟨x346, hx347, H⟩ := bind_ok H
            refine st_ungd F345 rfl (look_b rfl hb337) ?_
            refine st_call (args := [.tmp 40, .tmp 42]) F345 Fx.fn11 rfl (slices_Equal_int_int_c (a0 := a0.Told) (a1 := a1.Told)  (hr0_3.pass0 s25) (hr1_3.pass0 s25) hx347) rfl fun v348 w349 q350 hS352 F351 => ?_
            obtain ⟨rfl, hq354⟩ := hS352
            have s353 := s25.add hq354
            refine st_pr F351 (PR.op (ex_pick_t (ev_b rfl hb337) rfl) <| PR.op (ex_asg rfl) <| PR.nil) fun q355 F356 => ?_
            refine st_end ?_
            refine then_n ?_
            obtain rfl := some_ok H
            refine wp_ret ?_
            refine ret_gen (rs := [.tmp 4]) (vs := [.bool x346]) F356 (by rfl) ⟨_, _, rfl, RV.tmp rfl, rfl⟩ ⟨_, rfl, ⟨rfl, s353.drop.drop⟩⟩
          · replace H := ite_f hb337 H
            refine st_gskip F336 rfl rfl (look_b rfl hb337) Bool.noConfusion rfl rfl fun q357 F358 => ?_
            refine st_gskip F358 rfl rfl (look_b rfl hb337) Bool.noConfusion rfl rfl fun q359 F360 => ?_
            refine st_gskip F360 rfl rfl (look_b rfl hb337) Bool.noConfusion rfl rfl fun q361 F362 => ?_
            refine st_gskip F362 rfl rfl (look_b rfl hb337) Bool.noConfusion rfl rfl fun q363 F364 => ?_
            refine st_gskip F364 rfl rfl (look_b rfl hb337) Bool.noConfusion rfl rfl fun q365 F366 => ?_
            refine st_pr F366 (PR.op (ex_pick_f (ev_b rfl hb337) rfl) <| PR.op (ex_asg rfl) <| PR.nil) fun q367 F368 => ?_
            refine st_end ?_
            refine then_n ?_
            obtain rfl := some_ok H
            refine wp_ret ?_
            refine ret_gen (rs := [.tmp 4]) (vs := [.bool false]) F368 (by rfl) ⟨_, _, rfl, RV.tmp rfl, rfl⟩ ⟨_, rfl, ⟨rfl, s25.drop.drop⟩⟩
        · replace H := ite_f hb324 H
          refine st_gskip F323 rfl rfl (look_b rfl hb324) Bool.noConfusion rfl rfl fun q369 F370 => ?_
          refine st_gskip F370 rfl rfl (look_b rfl hb324) Bool.noConfusion rfl rfl fun q371 F372 => ?_
          refine st_gskip F372 rfl rfl (look_b rfl hb324) Bool.noConfusion rfl rfl fun q373 F374 => ?_
          refine st_gskip F374 rfl rfl (look_b rfl hb324) Bool.noConfusion rfl rfl fun q375 F376 => ?_
          refine st_gskip F376 rfl rfl (look_b rfl hb324) Bool.noConfusion rfl rfl fun q377 F378 => ?_
          refine st_pr F378 (PR.op (ex_pick_f (ev_b rfl hb324) rfl) <| PR.op (ex_move rfl) <| PR.nil) fun q379 F380 => ?_
          refine st_gskip F380 rfl rfl rfl Bool.noConfusion rfl rfl fun q381 F382 => ?_
          refine st_gskip F382 rfl rfl rfl Bool.noConfusion rfl rfl fun q383 F384 => ?_
          refine st_gskip F384 rfl rfl rfl Bool.noConfusion rfl rfl fun q385 F386 => ?_
          refine st_gskip F386 rfl rfl rfl Bool.noConfusion rfl rfl fun q387 F388 => ?_
          refine st_gskip F388 rfl rfl rfl Bool.noConfusion rfl rfl fun q389 F390 => ?_
          refine st_pr F390 (PR.op (ex_pick_f rfl rfl) <| PR.op (ex_asg rfl) <| PR.nil) fun q391 F392 => ?_
          refine st_end ?_
          refine then_n ?_
          obtain rfl := some_ok H
          refine wp_ret ?_
          refine ret_gen (rs := [.tmp 4]) (vs := [.bool false]) F392 (by rfl) ⟨_, _, rfl, RV.tmp rfl, rfl⟩ ⟨_, rfl, ⟨rfl, s25.drop.drop⟩⟩
      · replace H := ite_f hb311 H
        refine st_gskip F310 rfl rfl (look_b rfl hb311) Bool.noConfusion rfl rfl fun q393 F394 => ?_
        refine st_gskip F394 rfl rfl (look_b rfl hb311) Bool.noConfusion rfl rfl fun q395 F396 => ?_
        refine st_gskip F396 rfl rfl (look_b rfl hb311) Bool.noConfusion rfl rfl fun q397 F398 => ?_
        refine st_gskip F398 rfl rfl (look_b rfl hb311) Bool.noConfusion rfl rfl fun q399 F400 => ?_
        refine st_gskip F400 rfl rfl (look_b rfl hb311) Bool.noConfusion rfl rfl fun q401 F402 => ?_
        refine st_pr F402 (PR.op (ex_pick_f (ev_b rfl hb311) rfl) <| PR.op (ex_move rfl) <| PR.nil) fun q403 F404 => ?_
        refine st_gskip F404 rfl rfl rfl Bool.noConfusion rfl rfl fun q405 F406 => ?_
        refine st_gskip F406 rfl rfl rfl Bool.noConfusion rfl rfl fun q407 F408 => ?_
        refine st_gskip F408 rfl rfl rfl Bool.noConfusion rfl rfl fun q409 F410 => ?_
        refine st_gskip F410 rfl rfl rfl Bool.noConfusion rfl rfl fun q411 F412 => ?_
        refine st_gskip F412 rfl rfl rfl Bool.noConfusion rfl rfl fun q413 F414 => ?_
        refine st_pr F414 (PR.op (ex_pick_f rfl rfl) <| PR.op (ex_move rfl) <| PR.nil) fun q415 F416 => ?_
        refine st_gskip F416 rfl rfl rfl Bool.noConfusion rfl rfl fun q417 F418 => ?_
        refine st_gskip F418 rfl rfl rfl Bool.noConfusion rfl rfl fun q419 F420 => ?_
        refine st_gskip F420 rfl rfl rfl Bool.noConfusion rfl rfl fun q421 F422 => ?_
        refine st_gskip F422 rfl rfl rfl Bool.noConfusion rfl rfl fun q423 F424 => ?_
        refine st_gskip F424 rfl rfl rfl Bool.noConfusion rfl rfl fun q425 F426 => ?_
        refine st_pr F426 (PR.op (ex_pick_f rfl rfl) <| PR.op (ex_asg rfl) <| PR.nil) fun q427 F428 => ?_
        refine st_end ?_
        refine then_n ?_
        obtain rfl := some_ok H
        refine wp_ret ?_
        refine ret_gen (rs := [.tmp 4]) (vs := [.bool false]) F428 (by rfl) ⟨_, _, rfl, RV.tmp rfl, rfl⟩ ⟨_, rfl, ⟨rfl, s25.drop.drop⟩⟩
    · replace H := ite_f hb298 H
      refine st_gskip F297 rfl rfl (look_b rfl hb298) Bool.noConfusion rfl rfl fun q429 F430 => ?_
      refine st_gskip F430 rfl rfl (look_b rfl hb298) Bool.noConfusion rfl rfl fun q431 F432 => ?_
      refine st_gskip F432 rfl rfl (look_b rfl hb298) Bool.noConfusion rfl rfl fun q433 F434 => ?_
      refine st_gskip F434 rfl rfl (look_b rfl hb298) Bool.noConfusion rfl rfl fun q435 F436 => ?_
      refine st_gskip F436 rfl rfl (look_b rfl hb298) Bool.noConfusion rfl rfl fun q437 F438 => ?_
      refine st_pr F438 (PR.op (ex_pick_f (ev_b rfl hb298) rfl) <| PR.op (ex_move rfl) <| PR.nil) fun q439 F440 => ?_
      refine st_gskip F440 rfl rfl rfl Bool.noConfusion rfl rfl fun q441 F442 => ?_
      refine st_gskip F442 rfl rfl rfl Bool.noConfusion rfl rfl fun q443 F444 => ?_
      refine st_gskip F444 rfl rfl rfl Bool.noConfusion rfl rfl fun q445 F446 => ?_
      refine st_gskip F446 rfl rfl rfl Bool.noConfusion rfl rfl fun q447 F448 => ?_
      refine st_gskip F448 rfl rfl rfl Bool.noConfusion rfl rfl fun q449 F450 => ?_
      refine st_pr F450 (PR.op (ex_pick_f rfl rfl) <| PR.op (ex_move rfl) <| PR.nil) fun q451 F452 => ?_
      refine st_gskip F452 rfl rfl rfl Bool.noConfusion rfl rfl fun q453 F454 => ?_
      refine st_gskip F454 rfl rfl rfl Bool.noConfusion rfl rfl fun q455 F456 => ?_
      refine st_gskip F456 rfl rfl rfl Bool.noConfusion rfl rfl fun q457 F458 => ?_
      refine st_gskip F458 rfl rfl rfl Bool.noConfusion rfl rfl fun q459 F460 => ?_
      refine st_gskip F460 rfl rfl rfl Bool.noConfusion rfl rfl fun q461 F462 => ?_
      refine st_pr F462 (PR.op (ex_pick_f rfl rfl) <| PR.op (ex_move rfl) <| PR.nil) fun q463 F464 => ?_
      refine st_gskip F464 rfl rfl rfl Bool.noConfusion rfl rfl fun q465 F466 => ?_
      refine st_gskip F466 rfl rfl rfl Bool.noConfusion rfl rfl fun q467 F468 => ?_
      refine st_gskip F468 rfl rfl rfl Bool.noConfusion rfl rfl fun q469 F470 => ?_
      refine st_gskip F470 rfl rfl rfl Bool.noConfusion rfl rfl fun q471 F472 => ?_
      refine st_gskip F472 rfl rfl rfl Bool.noConfusion rfl rfl fun q473 F474 => ?_
      refine st_pr F474 (PR.op (ex_pick_f rfl rfl) <| PR.op (ex_asg rfl) <| PR.nil) fun q475 F476 => ?_
      refine st_end ?_
      refine then_n ?_
      obtain rfl := some_ok H
      refine wp_ret ?_
      refine ret_gen (rs := [.tmp 4]) (vs := [.bool false]) F476 (by rfl) ⟨_, _, rfl, RV.tmp rfl, rfl⟩ ⟨_, rfl, ⟨rfl, s25.drop.drop⟩⟩
  · replace H := ite_f hb285 H
    refine st_gskip F284 rfl rfl (look_b rfl hb285) Bool.noConfusion rfl rfl fun q477 F478 => ?_
    refine st_gskip F478 rfl rfl (look_b rfl hb285) Bool.noConfusion rfl rfl fun q479 F480 => ?_
    refine st_gskip F480 rfl rfl (look_b rfl hb285) Bool.noConfusion rfl rfl fun q481 F482 => ?_
    refine st_gskip F482 rfl rfl (look_b rfl hb285) Bool.noConfusion rfl rfl fun q483 F484 => ?_
    refine st_gskip F484 rfl rfl (look_b rfl hb285) Bool.noConfusion rfl rfl fun q485 F486 => ?_
    refine st_pr F486 (PR.op (ex_pick_f (ev_b rfl hb285) rfl) <| PR.op (ex_move rfl) <| PR.nil) fun q487 F488 => ?_
    refine st_gskip F488 rfl rfl rfl Bool.noConfusion rfl rfl fun q489 F490 => ?_
    refine st_gskip F490 rfl rfl rfl Bool.noConfusion rfl rfl fun q491 F492 => ?_
    refine st_gskip F492 rfl rfl rfl Bool.noConfusion rfl rfl fun q493 F494 => ?_
    refine st_gskip F494 rfl rfl rfl Bool.noConfusion rfl rfl fun q495 F496 => ?_
    refine st_gskip F496 rfl rfl rfl Bool.noConfusion rfl rfl fun q497 F498 => ?_
    refine st_pr F498 (PR.op (ex_pick_f rfl rfl) <| PR.op (ex_move rfl) <| PR.nil) fun q499 F500 => ?_
    refine st_gskip F500 rfl rfl rfl Bool.noConfusion rfl rfl fun q501 F502 => ?_
    refine st_gskip F502 rfl rfl rfl Bool.noConfusion rfl rfl fun q503 F504 => ?_
    refine st_gskip F504 rfl rfl rfl Bool.noConfusion rfl rfl fun q505 F506 => ?_
    refine st_gskip F506 rfl rfl rfl Bool.noConfusion rfl rfl fun q507 F508 => ?_
    refine st_gskip F508 rfl rfl rfl Bool.noConfusion rfl rfl fun q509 F510 => ?_
    refine st_pr F510 (PR.op (ex_pick_f rfl rfl) <| PR.op (ex_move rfl) <| PR.nil) fun q511 F512 => ?_
    refine st_gskip F512 rfl rfl rfl Bool.noConfusion rfl rfl fun q513 F514 => ?_
    refine st_gskip F514 rfl rfl rfl Bool.noConfusion rfl rfl fun q515 F516 => ?_
    refine st_gskip F516 rfl rfl rfl Bool.noConfusion rfl rfl fun q517 F518 => ?_
    refine st_gskip F518 rfl rfl rfl Bool.noConfusion rfl rfl fun q519 F520 => ?_
    refine st_gskip F520 rfl rfl rfl Bool.noConfusion rfl rfl fun q521 F522 => ?_
    refine st_pr F522 (PR.op (ex_pick_f rfl rfl) <| PR.op (ex_move rfl) <| PR.nil) fun q523 F524 => ?_
    refine st_gskip F524 rfl rfl rfl Bool.noConfusion rfl rfl fun q525 F526 => ?_
    refine st_gskip F526 rfl rfl rfl Bool.noConfusion rfl rfl fun q527 F528 => ?_
    refine st_gskip F528 rfl rfl rfl Bool.noConfusion rfl rfl fun q529 F530 => ?_
    refine st_gskip F530 rfl rfl rfl Bool.noConfusion rfl rfl fun q531 F532 => ?_
    refine st_gskip F532 rfl rfl rfl Bool.noConfusion rfl rfl fun q533 F534 => ?_
    refine st_pr F534 (PR.op (ex_pick_f rfl rfl) <| PR.op (ex_asg rfl) <| PR.nil) fun q535 F536 => ?_
    refine st_end ?_
    refine then_n ?_
    obtain rfl := some_ok H
    refine wp_ret ?_
    refine ret_gen (rs := [.tmp 4]) (vs := [.bool false]) F536 (by rfl) ⟨_, _, rfl, RV.tmp rfl, rfl⟩ ⟨_, rfl, ⟨rfl, s25.drop.drop⟩⟩
end Go.Proofs.Ytfepcangbajjjaa
