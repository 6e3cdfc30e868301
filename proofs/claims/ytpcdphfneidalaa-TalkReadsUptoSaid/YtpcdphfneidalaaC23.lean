/- The walk of proviso/provisoref24.Heard. -/
import Derived.Test.YtpcdphfneidalaaFx
import Derived.Test.YtpcdphfneidalaaDf
import Derived.Test.YtpcdphfneidalaaC43
set_option linter.unusedVariables false
set_option linter.unusedSimpArgs false
namespace Go.Proofs.Ytpcdphfneidalaa
open Go Go.RowKit Go.Pv
theorem provisoref24_Heard_c {w : World} {v0 : Value} {a0 : List UInt8} {r : S_api_Answer × Int} (hr0 : Rd Ty.u8 w [] v0 a0) (H : provisoref24_Heard a0 = some r) :
    Calls Try.prog 23 #[v0] w (Ret fun u_ w_ => ∃ u0 : Value, u_ = .tuple ⟨[.agg ⟨[.int .i64 r.1.Status, u0]⟩, .int .i64 r.2]⟩ ∧ SL w [] w_ [Sl Ty.u8 u0 r.1.Data]) := by
  have s0 : SL w [] w [] := SL.init0 w
  refine call_enter Try.func23 rfl Try.ntmps23 (Nat.le_of_ble_eq_true rfl) (args := [v0]) fun q0 F0 => ?_
  unfold provisoref24_Heard at H
  refine wp_seq ?_
  refine wp_reg ?_
  refine st_alloc F0 s0 Fx.zero41 rfl rfl fun g9 w10 q11 F12 s13 => ?_
  refine st_pr F12 (PR.op (ex_asg rfl) <| PR.nil) fun q15 F16 => ?_
  refine st_end ?_
  refine then_n ?_
  refine wp_seq ?_
  refine wp_reg ?_
  obtain ⟨x30, hx31, H⟩ := bind_ok H
  refine st_pr F16 (PR.op (ex_move rfl) <| PR.nil) fun q32 F33 => ?_
  refine st_call (args := [.tmp 5, .const (.int .u8 112), .const (.int .i64 3)]) F33 Fx.fn43 rfl (provisoref24_framed_c (a0 := a0) (a1 := (112 : UInt8)) (a2 := 3)  (hr0.pass0 s13) hx31) rfl fun v34 w35 q36 hS38 F37 => ?_
  obtain ⟨rfl, hq40⟩ := hS38
  have s39 := s13.add hq40
  refine st_pr F37 (PR.op (ex_asg rfl) <| PR.nil) fun q41 F42 => ?_
  refine st_end ?_
  refine then_n ?_
  refine wp_seq ?_
  refine wp_seq ?_
  refine wp_reg ?_
  refine st_pr F42 (PR.op (ex_move rfl) <| PR.op (ex_ne rfl rfl) <| PR.nil) fun q68 F69 => ?_
  refine st_end ?_
  refine then_n ?_
  refine wp_if F69 rfl (fun hb70 => ?_) (fun hb70 => ?_)
  · replace H := ite_t hb70 H
    refine wp_seq ?_
    refine wp_reg ?_
    refine st_pr F69 (PR.op (ex_build (vs := []) Fx.zero41 Fx.pl41 rfl (cs := [.int .i64 0, .slice none 0 0]) (rfl)) <| PR.op (ex_move rfl) <| PR.nil) fun q80 F81 => ?_
    have s86 := s39
    refine st_storea F81 s86 rfl rfl Fx.sz41 (one_cons rfl (one_cons rfl one_nil)) (Nat.le_of_ble_eq_true rfl) fun w82 q83 F84 s85 => ?_
    replace s85 : SL w [] w82 [Blk g9 41 [.int .i64 0, .slice none 0 0]] := s85
    refine st_pr F84 (PR.op (ex_asg rfl) <| PR.nil) fun q87 F88 => ?_
    refine st_end ?_
    refine then_n ?_
    obtain rfl := some_ok H
    refine wp_ret ?_
    refine then_r ?_
    refine ret_gen (rs := [.cell 2 41, .tmp 3]) (vs := [.agg ⟨[.int .i64 0, .slice none 0 0]⟩, .int .i64 x30]) F88 (by rfl) ⟨_, _, rfl, RV.blk s85 (.head _) rfl Fx.agg41 rfl, _, _, rfl, RV.tmp rfl, rfl⟩ ⟨_, rfl, ⟨(.slice none 0 0), rfl, (SL.nilSl (T := Ty.u8) s85).f1.drop⟩⟩
  · replace H := ite_f hb70 H
    refine wp_skip ?_
    refine then_n ?_
    refine wp_seq ?_
    refine wp_regh Fx.mixed (fun w_ => SL w [] w_ []) ?_
    have s331 := s39.drew
    have s332 : SL w [] _ [] := s331.drop
    refine hd_take (i := 0) rfl (by kernel_rfl) (by kernel_rfl) (by kernel_rfl) (fun _ hC => ex_move rfl) rfl rfl rfl F69 s332 fun q333 F334 => ?_
    obtain ⟨x335, hx336, H⟩ := bind_ok H
    obtain ⟨ad337, hi338, hc339⟩ := idxC (C := fun w_ => SL w [] w_ []) Flat.u8 (fun _ hC => (rdL hr0 hC)) s332 Fx.sl22 rfl hx336
    refine hd_take (i := 1) rfl (by kernel_rfl) (by kernel_rfl) (by kernel_rfl) (fun _ hC => hi338 _ _ _ _ _ _ _ _ _ _ rfl rfl) rfl rfl rfl F334 s332 fun q340 F341 => ?_
    refine hd_take (i := 2) rfl (by kernel_rfl) (by kernel_rfl) (by kernel_rfl) (fun _ hC => ex_ld Fx.nag5 rfl (Cells.at_ (hc339 _ hC) (o := 0) rfl)) rfl rfl rfl F341 s332 fun q342 F343 => ?_
    refine hd_take (i := 3) rfl (by kernel_rfl) (by kernel_rfl) (by kernel_rfl) (fun _ hC => ex_cv864 rfl Try.underlying5 Try.underlying3) rfl rfl rfl F343 s332 fun q344 F345 => ?_
    refine hd_take (i := 4) rfl (by kernel_rfl) (by kernel_rfl) (by kernel_rfl) (fun _ hC => ex_mul rfl rfl) rfl rfl rfl F345 s332 fun q346 F347 => ?_
    refine hd_take (i := 5) rfl (by kernel_rfl) (by kernel_rfl) (by kernel_rfl) (fun _ hC => ex_move rfl) rfl rfl rfl F347 s332 fun q348 F349 => ?_
    obtain ⟨x350, hx351, H⟩ := bind_ok H
    obtain ⟨ad352, hi353, hc354⟩ := idxC (C := fun w_ => SL w [] w_ []) Flat.u8 (fun _ hC => (rdL hr0 hC)) s332 Fx.sl22 rfl hx351
    refine hd_take (i := 6) rfl (by kernel_rfl) (by kernel_rfl) (by kernel_rfl) (fun _ hC => hi353 _ _ _ _ _ _ _ _ _ _ rfl rfl) rfl rfl rfl F349 s332 fun q355 F356 => ?_
    refine hd_take (i := 7) rfl (by kernel_rfl) (by kernel_rfl) (by kernel_rfl) (fun _ hC => ex_ld Fx.nag5 rfl (Cells.at_ (hc354 _ hC) (o := 0) rfl)) rfl rfl rfl F356 s332 fun q357 F358 => ?_
    refine hd_take (i := 8) rfl (by kernel_rfl) (by kernel_rfl) (by kernel_rfl) (fun _ hC => ex_cv864 rfl Try.underlying5 Try.underlying3) rfl rfl rfl F358 s332 fun q359 F360 => ?_
    refine hd_take (i := 9) rfl (by kernel_rfl) (by kernel_rfl) (by kernel_rfl) (fun _ hC => ex_add rfl rfl) rfl rfl rfl F360 s332 fun q361 F362 => ?_
    refine hd_take (i := 10) rfl (by kernel_rfl) (by kernel_rfl) (by kernel_rfl) (fun _ hC => ex_move rfl) rfl rfl rfl F362 s332 fun q363 F364 => ?_
    refine hd_take (i := 11) rfl (by kernel_rfl) (by kernel_rfl) (by kernel_rfl) (fun _ hC => ex_move rfl) rfl rfl rfl F364 s332 fun q365 F366 => ?_
    refine hd_take (i := 12) rfl (by kernel_rfl) (by kernel_rfl) (by kernel_rfl) (fun _ hC => ex_len rfl Try.underlying22 (formL (rdL hr0 hC))) rfl rfl rfl F366 s332 fun q367 F368 => ?_
    refine hd_take (i := 13) rfl (by kernel_rfl) (by kernel_rfl) (by kernel_rfl) (fun _ hC => ex_sub rfl rfl) rfl rfl rfl F368 s332 fun q369 F370 => ?_
    obtain ⟨x371, hx372, H⟩ := bind_ok H
    obtain ⟨v373, hsc374, hv375⟩ := Rd.cut hr0 Fx.sl22 rfl hx372 (some 4) (some (wr ((a0.length : Int) - 4))) (.inl rfl) (.inl rfl)
    refine hd_take (i := 14) rfl (by kernel_rfl) (by kernel_rfl) (by kernel_rfl) (fun _ hC => hsc374 _ _ _ _ _ .i64 .i64 _ _ _ _ _ rfl rfl rfl) rfl rfl rfl F370 s332 fun q376 F377 => ?_
    obtain ⟨x380, hx381, H⟩ := bind_ok H
    refine hd_one (i := 15) rfl (by kernel_rfl) ?_
    have s388 := (SL.nilSl (T := Ty.u8) s331)
    obtain ⟨_, hr_⟩ := (rdL hv375 s388)
    refine st_append_rd Flat.u8 F377 s388 Fx.sl22 rfl rfl rfl rfl hr_ rfl rfl hx381 rfl fun v383 w384 q385 F386 s387 => ?_
    have s389 : SL w [] _ [] := s387.drop.drop
    refine kq_end ⟨s389, ?_⟩
    have hv390 := (formL (s387.own_rd (.head _)))
    refine hd_one (i := 16) rfl (by kernel_rfl) ?_
    refine st_op F386 (ex_build (vs := [.int .i64 (wr ((wr (256 * (x335.toNat : Int))) + (x350.toNat : Int))), v383]) Fx.zero41 Fx.pl41 rfl (cs := [.int .i64 (wr ((wr (256 * (x335.toNat : Int))) + (x350.toNat : Int))), v383]) (by obtain ⟨_, _, e_0⟩ := hv390; rw [e_0] <;> rfl)) rfl rfl rfl fun q391 F392 => ?_
    have s393 : SL w [] _ [] := s387.drop.drop
    refine kq_end ⟨s393, ?_⟩
    refine hd_one (i := 17) rfl (by kernel_rfl) ?_
    have s398 := s387.f1
    refine st_storea F392 s398 rfl rfl Fx.sz41 (one_cons rfl (one_cons (form_one (formL (s398.own_rd (.tail _ <| .head _)))) one_nil)) (Nat.le_of_ble_eq_true rfl) fun w394 q395 F396 s397 => ?_
    replace s397 : SL w [] w394 [Blk g9 41 [.int .i64 (wr ((wr (256 * (x335.toNat : Int))) + (x350.toNat : Int))), v383], Sl Ty.u8 v383 x380] := s397
    have s399 : SL w [] _ [] := s397.drop.drop
    refine kq_end ⟨s399, ?_⟩
    refine hd_one (i := 18) rfl (by kernel_rfl) ?_
    refine st_op F396 (ex_asg rfl) rfl rfl rfl fun q400 F401 => ?_
    have s402 : SL w [] _ [] := s397.drop.drop
    refine kq_end ⟨s402, ?_⟩
    refine hd_done (by kernel_rfl) ?_
    refine then_n ?_
    obtain rfl := some_ok H
    refine wp_ret ?_
    refine ret_gen (rs := [.cell 2 41, .tmp 3]) (vs := [.agg ⟨[.int .i64 (wr ((wr (256 * (x335.toNat : Int))) + (x350.toNat : Int))), v383]⟩, .int .i64 0]) F401 (by rfl) ⟨_, _, rfl, RV.blk s397 (.head _) rfl Fx.agg41 rfl, _, _, rfl, RV.tmp rfl, rfl⟩ ⟨_, rfl, ⟨v383, rfl, s397.drop⟩⟩
end Go.Proofs.Ytpcdphfneidalaa
