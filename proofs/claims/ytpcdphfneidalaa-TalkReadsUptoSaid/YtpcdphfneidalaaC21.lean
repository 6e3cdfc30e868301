/- The walk of proviso/provisoref24.Unpack. -/
import Derived.Test.YtpcdphfneidalaaFx
import Derived.Test.YtpcdphfneidalaaDf
import Derived.Test.YtpcdphfneidalaaC43
set_option linter.unusedVariables false
set_option linter.unusedSimpArgs false
namespace Go.Proofs.Ytpcdphfneidalaa
open Go Go.RowKit Go.Pv
theorem provisoref24_Unpack_c {w : World} {v0 : Value} {a0 : List UInt8} {r : S_api_Request × Int} (hr0 : Rd Ty.u8 w [] v0 a0) (H : provisoref24_Unpack a0 = some r) :
    Calls Try.prog 21 #[v0] w (Ret fun u_ w_ => ∃ u0 : Value, u_ = .tuple ⟨[.agg ⟨[.int .i64 r.1.Command, .int .i64 r.1.Number, u0]⟩, .int .i64 r.2]⟩ ∧ SL w [] w_ [Sl Ty.u8 u0 r.1.Data]) := by
  have s0 : SL w [] w [] := SL.init0 w
  refine call_enter Try.func21 rfl Try.ntmps21 (Nat.le_of_ble_eq_true rfl) (args := [v0]) fun q0 F0 => ?_
  unfold provisoref24_Unpack at H
  refine wp_seq ?_
  refine wp_reg ?_
  refine st_alloc F0 s0 Fx.zero35 rfl rfl fun g9 w10 q11 F12 s13 => ?_
  refine st_pr F12 (PR.op (ex_asg rfl) <| PR.nil) fun q15 F16 => ?_
  refine st_end ?_
  refine then_n ?_
  refine wp_seq ?_
  refine wp_reg ?_
  obtain ⟨x30, hx31, H⟩ := bind_ok H
  refine st_pr F16 (PR.op (ex_move rfl) <| PR.nil) fun q32 F33 => ?_
  refine st_call (args := [.tmp 5, .const (.int .u8 80), .const (.int .i64 4)]) F33 Fx.fn43 rfl (provisoref24_framed_c (a0 := a0) (a1 := (80 : UInt8)) (a2 := 4)  (hr0.pass0 s13) hx31) rfl fun v34 w35 q36 hS38 F37 => ?_
  obtain ⟨rfl, hq40⟩ := hS38
  have s39 := s13.add hq40
  refine st_pr F37 (PR.op (ex_asg rfl) <| PR.nil) fun q41 F42 => ?_
  refine st_end ?_
  refine then_n ?_
  refine wp_seq ?_
  refine wp_seq ?_
  refine wp_reg ?_
  refine st_pr F42 (PR.op (ex_move rfl) <| PR.op (ex_ne rfl rfl) <| PR.nil) fun q68 F69 => ?_
  refine st_end ?_
  refine then_n ?_
  refine wp_if F69 rfl (fun hb70 => ?_) (fun hb70 => ?_)
  · replace H := ite_t hb70 H
    refine wp_seq ?_
    refine wp_reg ?_
    refine st_pr F69 (PR.op (ex_build (vs := []) Fx.zero35 Fx.pl35 rfl (cs := [.int .i64 0, .int .i64 0, .slice none 0 0]) (rfl)) <| PR.op (ex_move rfl) <| PR.nil) fun q80 F81 => ?_
    have s86 := s39
    refine st_storea F81 s86 rfl rfl Fx.sz35 (one_cons rfl (one_cons rfl (one_cons rfl one_nil))) (Nat.le_of_ble_eq_true rfl) fun w82 q83 F84 s85 => ?_
    replace s85 : SL w [] w82 [Blk g9 35 [.int .i64 0, .int .i64 0, .slice none 0 0]] := s85
    refine st_pr F84 (PR.op (ex_asg rfl) <| PR.nil) fun q87 F88 => ?_
    refine st_end ?_
    refine then_n ?_
    obtain rfl := some_ok H
    refine wp_ret ?_
    refine then_r ?_
    refine ret_gen (rs := [.cell 2 35, .tmp 3]) (vs := [.agg ⟨[.int .i64 0, .int .i64 0, .slice none 0 0]⟩, .int .i64 x30]) F88 (by rfl) ⟨_, _, rfl, RV.blk s85 (.head _) rfl Fx.agg35 rfl, _, _, rfl, RV.tmp rfl, rfl⟩ ⟨_, rfl, ⟨(.slice none 0 0), rfl, (SL.nilSl (T := Ty.u8) s85).f1.drop⟩⟩
  · replace H := ite_f hb70 H
    refine wp_skip ?_
    refine then_n ?_
    refine wp_seq ?_
    refine wp_regh Fx.mixed (fun w_ => SL w [] w_ []) ?_
    have s380 := s39.drew
    have s381 : SL w [] _ [] := s380.drop
    refine hd_take (i := 0) rfl (by kernel_rfl) (by kernel_rfl) (by kernel_rfl) (fun _ hC => ex_move rfl) rfl rfl rfl F69 s381 fun q382 F383 => ?_
    obtain ⟨x384, hx385, H⟩ := bind_ok H
    obtain ⟨ad386, hi387, hc388⟩ := idxC (C := fun w_ => SL w [] w_ []) Flat.u8 (fun _ hC => (rdL hr0 hC)) s381 Fx.sl22 rfl hx385
    refine hd_take (i := 1) rfl (by kernel_rfl) (by kernel_rfl) (by kernel_rfl) (fun _ hC => hi387 _ _ _ _ _ _ _ _ _ _ rfl rfl) rfl rfl rfl F383 s381 fun q389 F390 => ?_
    refine hd_take (i := 2) rfl (by kernel_rfl) (by kernel_rfl) (by kernel_rfl) (fun _ hC => ex_ld Fx.nag5 rfl (Cells.at_ (hc388 _ hC) (o := 0) rfl)) rfl rfl rfl F390 s381 fun q391 F392 => ?_
    refine hd_take (i := 3) rfl (by kernel_rfl) (by kernel_rfl) (by kernel_rfl) (fun _ hC => ex_cv864 rfl Try.underlying5 Try.underlying3) rfl rfl rfl F392 s381 fun q393 F394 => ?_
    refine hd_take (i := 4) rfl (by kernel_rfl) (by kernel_rfl) (by kernel_rfl) (fun _ hC => ex_move rfl) rfl rfl rfl F394 s381 fun q395 F396 => ?_
    obtain ⟨x397, hx398, H⟩ := bind_ok H
    obtain ⟨ad399, hi400, hc401⟩ := idxC (C := fun w_ => SL w [] w_ []) Flat.u8 (fun _ hC => (rdL hr0 hC)) s381 Fx.sl22 rfl hx398
    refine hd_take (i := 5) rfl (by kernel_rfl) (by kernel_rfl) (by kernel_rfl) (fun _ hC => hi400 _ _ _ _ _ _ _ _ _ _ rfl rfl) rfl rfl rfl F396 s381 fun q402 F403 => ?_
    refine hd_take (i := 6) rfl (by kernel_rfl) (by kernel_rfl) (by kernel_rfl) (fun _ hC => ex_ld Fx.nag5 rfl (Cells.at_ (hc401 _ hC) (o := 0) rfl)) rfl rfl rfl F403 s381 fun q404 F405 => ?_
    refine hd_take (i := 7) rfl (by kernel_rfl) (by kernel_rfl) (by kernel_rfl) (fun _ hC => ex_cv864 rfl Try.underlying5 Try.underlying3) rfl rfl rfl F405 s381 fun q406 F407 => ?_
    refine hd_take (i := 8) rfl (by kernel_rfl) (by kernel_rfl) (by kernel_rfl) (fun _ hC => ex_mul rfl rfl) rfl rfl rfl F407 s381 fun q408 F409 => ?_
    refine hd_take (i := 9) rfl (by kernel_rfl) (by kernel_rfl) (by kernel_rfl) (fun _ hC => ex_move rfl) rfl rfl rfl F409 s381 fun q410 F411 => ?_
    obtain ⟨x412, hx413, H⟩ := bind_ok H
    obtain ⟨ad414, hi415, hc416⟩ := idxC (C := fun w_ => SL w [] w_ []) Flat.u8 (fun _ hC => (rdL hr0 hC)) s381 Fx.sl22 rfl hx413
    refine hd_take (i := 10) rfl (by kernel_rfl) (by kernel_rfl) (by kernel_rfl) (fun _ hC => hi415 _ _ _ _ _ _ _ _ _ _ rfl rfl) rfl rfl rfl F411 s381 fun q417 F418 => ?_
    refine hd_take (i := 11) rfl (by kernel_rfl) (by kernel_rfl) (by kernel_rfl) (fun _ hC => ex_ld Fx.nag5 rfl (Cells.at_ (hc416 _ hC) (o := 0) rfl)) rfl rfl rfl F418 s381 fun q419 F420 => ?_
    refine hd_take (i := 12) rfl (by kernel_rfl) (by kernel_rfl) (by kernel_rfl) (fun _ hC => ex_cv864 rfl Try.underlying5 Try.underlying3) rfl rfl rfl F420 s381 fun q421 F422 => ?_
    refine hd_take (i := 13) rfl (by kernel_rfl) (by kernel_rfl) (by kernel_rfl) (fun _ hC => ex_add rfl rfl) rfl rfl rfl F422 s381 fun q423 F424 => ?_
    refine hd_take (i := 14) rfl (by kernel_rfl) (by kernel_rfl) (by kernel_rfl) (fun _ hC => ex_move rfl) rfl rfl rfl F424 s381 fun q425 F426 => ?_
    refine hd_take (i := 15) rfl (by kernel_rfl) (by kernel_rfl) (by kernel_rfl) (fun _ hC => ex_move rfl) rfl rfl rfl F426 s381 fun q427 F428 => ?_
    refine hd_take (i := 16) rfl (by kernel_rfl) (by kernel_rfl) (by kernel_rfl) (fun _ hC => ex_len rfl Try.underlying22 (formL (rdL hr0 hC))) rfl rfl rfl F428 s381 fun q429 F430 => ?_
    refine hd_take (i := 17) rfl (by kernel_rfl) (by kernel_rfl) (by kernel_rfl) (fun _ hC => ex_sub rfl rfl) rfl rfl rfl F430 s381 fun q431 F432 => ?_
    obtain ⟨x433, hx434, H⟩ := bind_ok H
    obtain ⟨v435, hsc436, hv437⟩ := Rd.cut hr0 Fx.sl22 rfl hx434 (some 5) (some (wr ((a0.length : Int) - 4))) (.inl rfl) (.inl rfl)
    refine hd_take (i := 18) rfl (by kernel_rfl) (by kernel_rfl) (by kernel_rfl) (fun _ hC => hsc436 _ _ _ _ _ .i64 .i64 _ _ _ _ _ rfl rfl rfl) rfl rfl rfl F432 s381 fun q438 F439 => ?_
    obtain ⟨x442, hx443, H⟩ := bind_ok H
    refine hd_one (i := 19) rfl (by kernel_rfl) ?_
    have s450 := (SL.nilSl (T := Ty.u8) s380)
    obtain ⟨_, hr_⟩ := (rdL hv437 s450)
    refine st_append_rd Flat.u8 F439 s450 Fx.sl22 rfl rfl rfl rfl hr_ rfl rfl hx443 rfl fun v445 w446 q447 F448 s449 => ?_
    have s451 : SL w [] _ [] := s449.drop.drop
    refine kq_end ⟨s451, ?_⟩
    have hv452 := (formL (s449.own_rd (.head _)))
    refine hd_one (i := 20) rfl (by kernel_rfl) ?_
    refine st_op F448 (ex_build (vs := [.int .i64 (x384.toNat : Int), .int .i64 (wr ((wr (256 * (x397.toNat : Int))) + (x412.toNat : Int))), v445]) Fx.zero35 Fx.pl35 rfl (cs := [.int .i64 (x384.toNat : Int), .int .i64 (wr ((wr (256 * (x397.toNat : Int))) + (x412.toNat : Int))), v445]) (by obtain ⟨_, _, e_0⟩ := hv452; rw [e_0] <;> rfl)) rfl rfl rfl fun q453 F454 => ?_
    have s455 : SL w [] _ [] := s449.drop.drop
    refine kq_end ⟨s455, ?_⟩
    refine hd_one (i := 21) rfl (by kernel_rfl) ?_
    have s460 := s449.f1
    refine st_storea F454 s460 rfl rfl Fx.sz35 (one_cons rfl (one_cons rfl (one_cons (form_one (formL (s460.own_rd (.tail _ <| .head _)))) one_nil))) (Nat.le_of_ble_eq_true rfl) fun w456 q457 F458 s459 => ?_
    replace s459 : SL w [] w456 [Blk g9 35 [.int .i64 (x384.toNat : Int), .int .i64 (wr ((wr (256 * (x397.toNat : Int))) + (x412.toNat : Int))), v445], Sl Ty.u8 v445 x442] := s459
    have s461 : SL w [] _ [] := s459.drop.drop
    refine kq_end ⟨s461, ?_⟩
    refine hd_one (i := 22) rfl (by kernel_rfl) ?_
    refine st_op F458 (ex_asg rfl) rfl rfl rfl fun q462 F463 => ?_
    have s464 : SL w [] _ [] := s459.drop.drop
    refine kq_end ⟨s464, ?_⟩
    refine hd_done (by kernel_rfl) ?_
    refine then_n ?_
    obtain rfl := some_ok H
    refine wp_ret ?_
    refine ret_gen (rs := [.cell 2 35, .tmp 3]) (vs := [.agg ⟨[.int .i64 (x384.toNat : Int), .int .i64 (wr ((wr (256 * (x397.toNat : Int))) + (x412.toNat : Int))), v445]⟩, .int .i64 0]) F463 (by rfl) ⟨_, _, rfl, RV.blk s459 (.head _) rfl Fx.agg35 rfl, _, _, rfl, RV.tmp rfl, rfl⟩ ⟨_, rfl, ⟨v445, rfl, s459.drop⟩⟩
end Go.Proofs.Ytpcdphfneidalaa
