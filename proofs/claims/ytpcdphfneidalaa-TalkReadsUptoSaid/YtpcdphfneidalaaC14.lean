/- The walk of proviso/provisoplain.Untouched. -/
import Derived.Test.YtpcdphfneidalaaFx
import Derived.Test.YtpcdphfneidalaaDf
import Derived.Test.YtpcdphfneidalaaC17
set_option linter.unusedVariables false
set_option linter.unusedSimpArgs false
namespace Go.Proofs.Ytpcdphfneidalaa
open Go Go.RowKit Go.Pv
theorem provisoplain_Untouched_c {w : World} {v0 v1 : Value} {a0 : List UInt8} {a1 : List UInt8} {r : Bool} (hr0 : Rd Ty.u8 w [] v0 a0) (hr1 : Rd Ty.u8 w [] v1 a1) (H : provisoplain_Untouched a0 a1 = some r) :
    Calls Try.prog 14 #[v0, v1] w (Ret fun u_ w_ => u_ = .bool r ∧ SL w [] w_ []) := by
  have s0 : SL w [] w [] := SL.init0 w
  refine call_enter Try.func14 rfl Try.ntmps14 (Nat.le_of_ble_eq_true rfl) (args := [v0, v1]) fun q0 F0 => ?_
  unfold provisoplain_Untouched at H
  refine wp_seq ?_
  refine wp_reg ?_
  refine st_pr F0 (PR.op (ex_asg rfl) <| PR.nil) fun q3 F4 => ?_
  refine st_end ?_
  refine then_n ?_
  refine wp_seq ?_
  refine wp_reg ?_
  refine st_pr F4 (PR.op (ex_move rfl) <| PR.op (ex_len rfl Try.underlying22 (formL (rdL hr1 s0))) <| PR.op (ex_asg rfl) <| PR.nil) fun q7 F8 => ?_
  refine st_end ?_
  refine then_n ?_
  refine wp_seq ?_
  refine wp_reg ?_
  obtain ⟨x243, hx244, H⟩ := bind_ok H
  obtain ⟨v245, hsc246, hv247⟩ := Rd.cut hr0 Fx.sl22 rfl hx244 none (some (a1.length : Int)) (.inr ⟨rfl, rfl⟩) (.inl rfl)
  obtain ⟨x248, hx249, H⟩ := bind_ok H
  refine st_pr F8 (PR.op (ex_move rfl) <| PR.op (ex_move rfl) <| PR.op (hsc246 _ _ _ _ _ .i64 .i64 _ _ _ _ _ rfl trivial rfl) <| PR.op (ex_move rfl) <| PR.nil) fun q250 F251 => ?_
  refine st_call (args := [.tmp 10, .tmp 11]) F251 Fx.fn17 rfl (slices_Equal_byte_byte_c (a0 := x243) (a1 := a1)  (hv247.pass0 s0) (hr1.pass0 s0) hx249) rfl fun v252 w253 q254 hS256 F255 => ?_
  obtain ⟨rfl, hq258⟩ := hS256
  have s257 := s0.add hq258
  refine st_pr F255 (PR.op (ex_move rfl) <| PR.nil) fun q259 F260 => ?_
  refine bool_split x248 (fun hb261 => ?_) (fun hb261 => ?_)
  · replace H := ite_t hb261 H
    refine st_gop F260 rfl rfl (look_b rfl hb261) (ex_move rfl) rfl rfl fun q262 F263 => ?_
    refine st_gop F263 rfl rfl (look_b rfl hb261) (ex_move rfl) rfl rfl fun q264 F265 => ?_
    obtain ⟨x266, hx267, H⟩ := bind_ok H
    obtain ⟨ad268, hi269, hc270⟩ := idxL Flat.u8 (rdL hr0 s257) Fx.sl22 rfl hx267
    refine st_gop F265 rfl rfl (look_b rfl hb261) (hi269 _ _ _ _ _ _ _ _ _ _ rfl rfl) rfl rfl fun q271 F272 => ?_
    refine st_gop F272 rfl rfl (look_b rfl hb261) (ex_ld Fx.nag5 rfl (Cells.at_ hc270 (o := 0) rfl)) rfl rfl fun q273 F274 => ?_
    refine st_gop F274 rfl rfl (look_b rfl hb261) (ex_eq rfl rfl) rfl rfl fun q275 F276 => ?_
    refine st_pr F276 (PR.op (ex_pick_t (ev_b rfl hb261) rfl) <| PR.op (ex_move rfl) <| PR.nil) fun q277 F278 => ?_
    refine bool_split ((x266.toNat : Int) == 165) (fun hb279 => ?_) (fun hb279 => ?_)
    · replace H := ite_t hb279 H
      refine st_gop F278 rfl rfl (look_b rfl hb279) (ex_move rfl) rfl rfl fun q280 F281 => ?_
      refine st_gop F281 rfl rfl (look_b rfl hb279) (ex_move rfl) rfl rfl fun q282 F283 => ?_
      refine st_gop F283 rfl rfl (look_b rfl hb279) (ex_add rfl rfl) rfl rfl fun q284 F285 => ?_
      obtain ⟨x286, hx287, H⟩ := bind_ok H
      obtain ⟨ad288, hi289, hc290⟩ := idxL Flat.u8 (rdL hr0 s257) Fx.sl22 rfl hx287
      refine st_gop F285 rfl rfl (look_b rfl hb279) (hi289 _ _ _ _ _ _ _ _ _ _ rfl rfl) rfl rfl fun q291 F292 => ?_
      refine st_gop F292 rfl rfl (look_b rfl hb279) (ex_ld Fx.nag5 rfl (Cells.at_ hc290 (o := 0) rfl)) rfl rfl fun q293 F294 => ?_
      refine st_gop F294 rfl rfl (look_b rfl hb279) (ex_eq rfl rfl) rfl rfl fun q295 F296 => ?_
      refine st_pr F296 (PR.op (ex_pick_t (ev_b rfl hb279) rfl) <| PR.op (ex_move rfl) <| PR.nil) fun q297 F298 => ?_
      refine bool_split ((x286.toNat : Int) == 90) (fun hb299 => ?_) (fun hb299 => ?_)
      · replace H := ite_t hb299 H
        refine st_gop F298 rfl rfl (look_b rfl hb299) (ex_move rfl) rfl rfl fun q300 F301 => ?_
        refine st_gop F301 rfl rfl (look_b rfl hb299) (ex_move rfl) rfl rfl fun q302 F303 => ?_
        refine st_gop F303 rfl rfl (look_b rfl hb299) (ex_add rfl rfl) rfl rfl fun q304 F305 => ?_
        obtain ⟨x306, hx307, H⟩ := bind_ok H
        obtain ⟨ad308, hi309, hc310⟩ := idxL Flat.u8 (rdL hr0 s257) Fx.sl22 rfl hx307
        refine st_gop F305 rfl rfl (look_b rfl hb299) (hi309 _ _ _ _ _ _ _ _ _ _ rfl rfl) rfl rfl fun q311 F312 => ?_
        refine st_gop F312 rfl rfl (look_b rfl hb299) (ex_ld Fx.nag5 rfl (Cells.at_ hc310 (o := 0) rfl)) rfl rfl fun q313 F314 => ?_
        refine st_gop F314 rfl rfl (look_b rfl hb299) (ex_eq rfl rfl) rfl rfl fun q315 F316 => ?_
        refine st_pr F316 (PR.op (ex_pick_t (ev_b rfl hb299) rfl) <| PR.op (ex_move rfl) <| PR.nil) fun q317 F318 => ?_
        refine bool_split ((x306.toNat : Int) == 195) (fun hb319 => ?_) (fun hb319 => ?_)
        · replace H := ite_t hb319 H
          refine st_gop F318 rfl rfl (look_b rfl hb319) (ex_move rfl) rfl rfl fun q320 F321 => ?_
          refine st_gop F321 rfl rfl (look_b rfl hb319) (ex_move rfl) rfl rfl fun q322 F323 => ?_
          refine st_gop F323 rfl rfl (look_b rfl hb319) (ex_add rfl rfl) rfl rfl fun q324 F325 => ?_
          obtain ⟨x326, hx327, H⟩ := bind_ok H
          obtain ⟨ad328, hi329, hc330⟩ := idxL Flat.u8 (rdL hr0 s257) Fx.sl22 rfl hx327
          refine st_gop F325 rfl rfl (look_b rfl hb319) (hi329 _ _ _ _ _ _ _ _ _ _ rfl rfl) rfl rfl fun q331 F332 => ?_
          refine st_gop F332 rfl rfl (look_b rfl hb319) (ex_ld Fx.nag5 rfl (Cells.at_ hc330 (o := 0) rfl)) rfl rfl fun q333 F334 => ?_
          refine st_gop F334 rfl rfl (look_b rfl hb319) (ex_eq rfl rfl) rfl rfl fun q335 F336 => ?_
          refine st_pr F336 (PR.op (ex_pick_t (ev_b rfl hb319) rfl) <| PR.op (ex_asg rfl) <| PR.nil) fun q337 F338 => ?_
          refine st_end ?_
          refine then_n ?_
          obtain rfl := some_ok H
          refine wp_ret ?_
          refine ret_gen (rs := [.tmp 4]) (vs := [.bool ((x326.toNat : Int) == 60)]) F338 (by rfl) ⟨_, _, rfl, RV.tmp rfl, rfl⟩ ⟨_, rfl, ⟨rfl, s257⟩⟩
        · replace H := ite_f hb319 H
          refine st_gskip F318 rfl rfl (look_b rfl hb319) Bool.noConfusion rfl rfl fun q339 F340 => ?_
          refine st_gskip F340 rfl rfl (look_b rfl hb319) Bool.noConfusion rfl rfl fun q341 F342 => ?_
          refine st_gskip F342 rfl rfl (look_b rfl hb319) Bool.noConfusion rfl rfl fun q343 F344 => ?_
          refine st_gskip F344 rfl rfl (look_b rfl hb319) Bool.noConfusion rfl rfl fun q345 F346 => ?_
          refine st_gskip F346 rfl rfl (look_b rfl hb319) Bool.noConfusion rfl rfl fun q347 F348 => ?_
          refine st_gskip F348 rfl rfl (look_b rfl hb319) Bool.noConfusion rfl rfl fun q349 F350 => ?_
          refine st_pr F350 (PR.op (ex_pick_f (ev_b rfl hb319) rfl) <| PR.op (ex_asg rfl) <| PR.nil) fun q351 F352 => ?_
          refine st_end ?_
          refine then_n ?_
          obtain rfl := some_ok H
          refine wp_ret ?_
          refine ret_gen (rs := [.tmp 4]) (vs := [.bool false]) F352 (by rfl) ⟨_, _, rfl, RV.tmp rfl, rfl⟩ ⟨_, rfl, ⟨rfl, s257⟩⟩
      · replace H := ite_f hb299 H
        refine st_gskip F298 rfl rfl (look_b rfl hb299) Bool.noConfusion rfl rfl fun q353 F354 => ?_
        refine st_gskip F354 rfl rfl (look_b rfl hb299) Bool.noConfusion rfl rfl fun q355 F356 => ?_
        refine st_gskip F356 rfl rfl (look_b rfl hb299) Bool.noConfusion rfl rfl fun q357 F358 => ?_
        refine st_gskip F358 rfl rfl (look_b rfl hb299) Bool.noConfusion rfl rfl fun q359 F360 => ?_
        refine st_gskip F360 rfl rfl (look_b rfl hb299) Bool.noConfusion rfl rfl fun q361 F362 => ?_
        refine st_gskip F362 rfl rfl (look_b rfl hb299) Bool.noConfusion rfl rfl fun q363 F364 => ?_
        refine st_pr F364 (PR.op (ex_pick_f (ev_b rfl hb299) rfl) <| PR.op (ex_move rfl) <| PR.nil) fun q365 F366 => ?_
        refine st_gskip F366 rfl rfl rfl Bool.noConfusion rfl rfl fun q367 F368 => ?_
        refine st_gskip F368 rfl rfl rfl Bool.noConfusion rfl rfl fun q369 F370 => ?_
        refine st_gskip F370 rfl rfl rfl Bool.noConfusion rfl rfl fun q371 F372 => ?_
        refine st_gskip F372 rfl rfl rfl Bool.noConfusion rfl rfl fun q373 F374 => ?_
        refine st_gskip F374 rfl rfl rfl Bool.noConfusion rfl rfl fun q375 F376 => ?_
        refine st_gskip F376 rfl rfl rfl Bool.noConfusion rfl rfl fun q377 F378 => ?_
        refine st_pr F378 (PR.op (ex_pick_f rfl rfl) <| PR.op (ex_asg rfl) <| PR.nil) fun q379 F380 => ?_
        refine st_end ?_
        refine then_n ?_
        obtain rfl := some_ok H
        refine wp_ret ?_
        refine ret_gen (rs := [.tmp 4]) (vs := [.bool false]) F380 (by rfl) ⟨_, _, rfl, RV.tmp rfl, rfl⟩ ⟨_, rfl, ⟨rfl, s257⟩⟩
    · replace H := ite_f hb279 H
      refine st_gskip F278 rfl rfl (look_b rfl hb279) Bool.noConfusion rfl rfl fun q381 F382 => ?_
      refine st_gskip F382 rfl rfl (look_b rfl hb279) Bool.noConfusion rfl rfl fun q383 F384 => ?_
      refine st_gskip F384 rfl rfl (look_b rfl hb279) Bool.noConfusion rfl rfl fun q385 F386 => ?_
      refine st_gskip F386 rfl rfl (look_b rfl hb279) Bool.noConfusion rfl rfl fun q387 F388 => ?_
      refine st_gskip F388 rfl rfl (look_b rfl hb279) Bool.noConfusion rfl rfl fun q389 F390 => ?_
      refine st_gskip F390 rfl rfl (look_b rfl hb279) Bool.noConfusion rfl rfl fun q391 F392 => ?_
      refine st_pr F392 (PR.op (ex_pick_f (ev_b rfl hb279) rfl) <| PR.op (ex_move rfl) <| PR.nil) fun q393 F394 => ?_
      refine st_gskip F394 rfl rfl rfl Bool.noConfusion rfl rfl fun q395 F396 => ?_
      refine st_gskip F396 rfl rfl rfl Bool.noConfusion rfl rfl fun q397 F398 => ?_
      refine st_gskip F398 rfl rfl rfl Bool.noConfusion rfl rfl fun q399 F400 => ?_
      refine st_gskip F400 rfl rfl rfl Bool.noConfusion rfl rfl fun q401 F402 => ?_
      refine st_gskip F402 rfl rfl rfl Bool.noConfusion rfl rfl fun q403 F404 => ?_
      refine st_gskip F404 rfl rfl rfl Bool.noConfusion rfl rfl fun q405 F406 => ?_
      refine st_pr F406 (PR.op (ex_pick_f rfl rfl) <| PR.op (ex_move rfl) <| PR.nil) fun q407 F408 => ?_
      refine st_gskip F408 rfl rfl rfl Bool.noConfusion rfl rfl fun q409 F410 => ?_
      refine st_gskip F410 rfl rfl rfl Bool.noConfusion rfl rfl fun q411 F412 => ?_
      refine st_gskip F412 rfl rfl rfl Bool.noConfusion rfl rfl fun q413 F414 => ?_
      refine st_gskip F414 rfl rfl rfl Bool.noConfusion rfl rfl fun q415 F416 => ?_
      refine st_gskip F416 rfl rfl rfl Bool.noConfusion rfl rfl fun q417 F418 => ?_
      refine st_gskip F418 rfl rfl rfl Bool.noConfusion rfl rfl fun q419 F420 => ?_
      refine st_pr F420 (PR.op (ex_pick_f rfl rfl) <| PR.op (ex_asg rfl) <| PR.nil) fun q421 F422 => ?_
      refine st_end ?_
      refine then_n ?_
      obtain rfl := some_ok H
      refine wp_ret ?_
      refine ret_gen (rs := [.tmp 4]) (vs := [.bool false]) F422 (by rfl) ⟨_, _, rfl, RV.tmp rfl, rfl⟩ ⟨_, rfl, ⟨rfl, s257⟩⟩
  · replace H := ite_f hb261 H
    refine st_gskip F260 rfl rfl (look_b rfl hb261) Bool.noConfusion rfl rfl fun q423 F424 => ?_
    refine st_gskip F424 rfl rfl (look_b rfl hb261) Bool.noConfusion rfl rfl fun q425 F426 => ?_
    refine st_gskip F426 rfl rfl (look_b rfl hb261) Bool.noConfusion rfl rfl fun q427 F428 => ?_
    refine st_gskip F428 rfl rfl (look_b rfl hb261) Bool.noConfusion rfl rfl fun q429 F430 => ?_
    refine st_gskip F430 rfl rfl (look_b rfl hb261) Bool.noConfusion rfl rfl fun q431 F432 => ?_
    refine st_pr F432 (PR.op (ex_pick_f (ev_b rfl hb261) rfl) <| PR.op (ex_move rfl) <| PR.nil) fun q433 F434 => ?_
    refine st_gskip F434 rfl rfl rfl Bool.noConfusion rfl rfl fun q435 F436 => ?_
    refine st_gskip F436 rfl rfl rfl Bool.noConfusion rfl rfl fun q437 F438 => ?_
    refine st_gskip F438 rfl rfl rfl Bool.noConfusion rfl rfl fun q439 F440 => ?_
    refine st_gskip F440 rfl rfl rfl Bool.noConfusion rfl rfl fun q441 F442 => ?_
    refine st_gskip F442 rfl rfl rfl Bool.noConfusion rfl rfl fun q443 F444 => ?_
    refine st_gskip F444 rfl rfl rfl Bool.noConfusion rfl rfl fun q445 F446 => ?_
    refine st_pr F446 (PR.op (ex_pick_f rfl rfl) <| PR.op (ex_move rfl) <| PR.nil) fun q447 F448 => ?_
    refine st_gskip F448 rfl rfl rfl Bool.noConfusion rfl rfl fun q449 F450 => ?_
    refine st_gskip F450 rfl rfl rfl Bool.noConfusion rfl rfl fun q451 F452 => ?_
    refine st_gskip F452 rfl rfl rfl Bool.noConfusion rfl rfl fun q453 F454 => ?_
    refine st_gskip F454 rfl rfl rfl Bool.noConfusion rfl rfl fun q455 F456 => ?_
    refine st_gskip F456 rfl rfl rfl Bool.noConfusion rfl rfl fun q457 F458 => ?_
    refine st_gskip F458 rfl rfl rfl Bool.noConfusion rfl rfl fun q459 F460 => ?_
    refine st_pr F460 (PR.op (ex_pick_f rfl rfl) <| PR.op (ex_move rfl) <| PR.nil) fun q461 F462 => ?_
    refine st_gskip F462 rfl rfl rfl Bool.noConfusion rfl rfl fun q463 F464 => ?_
    refine st_gskip F464 rfl rfl rfl Bool.noConfusion rfl rfl fun q465 F466 => ?_
    refine st_gskip F466 rfl rfl rfl Bool.noConfusion rfl rfl fun q467 F468 => ?_
    refine st_gskip F468 rfl rfl rfl Bool.noConfusion rfl rfl fun q469 F470 => ?_
    refine st_gskip F470 rfl rfl rfl Bool.noConfusion rfl rfl fun q471 F472 => ?_
    refine st_gskip F472 rfl rfl rfl Bool.noConfusion rfl rfl fun q473 F474 => ?_
    refine st_pr F474 (PR.op (ex_pick_f rfl rfl) <| PR.op (ex_asg rfl) <| PR.nil) fun q475 F476 => ?_
    refine st_end ?_
    refine then_n ?_
    obtain rfl := some_ok H
    refine wp_ret ?_
    refine ret_gen (rs := [.tmp 4]) (vs := [.bool false]) F476 (by rfl) ⟨_, _, rfl, RV.tmp rfl, rfl⟩ ⟨_, rfl, ⟨rfl, s257⟩⟩
end Go.Proofs.Ytpcdphfneidalaa
