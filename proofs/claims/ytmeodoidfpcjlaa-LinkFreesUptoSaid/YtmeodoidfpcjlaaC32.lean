/- The walk of slices.Equal[[]byte,byte]. -/
import Derived.Test.YtmeodoidfpcjlaaFx
import Derived.Test.YtmeodoidfpcjlaaDf
set_option linter.unusedVariables false
set_option linter.unusedSimpArgs false
namespace Go.Proofs.Ytmeodoidfpcjlaa
open Go Go.RowKit Go.Pv
theorem slices_Equal_byte_byte_c {w : World} {v0 v1 : Value} {a0 : List UInt8} {a1 : List UInt8} {r : Bool} (hr0 : Rd Ty.u8 w [] v0 a0) (hr1 : Rd Ty.u8 w [] v1 a1) (H : slices_Equal_byte_byte a0 a1 = some r) :
    Calls Try.prog 32 #[v0, v1] w (Ret fun u_ w_ => u_ = .bool r ∧ SL w [] w_ []) := by
  have s0 : SL w [] w [] := SL.init0 w
  refine call_enter Try.func32 rfl Try.ntmps32 (Nat.le_of_ble_eq_true rfl) (args := [v0, v1]) fun q0 F0 => ?_
  unfold slices_Equal_byte_byte at H
  refine wp_seq ?_
  refine wp_reg ?_
  refine st_pr F0 (PR.op (ex_asg rfl) <| PR.nil) fun q3 F4 => ?_
  refine st_end ?_
  refine then_n ?_
  refine wp_seq ?_
  refine wp_seq ?_
  refine wp_reg ?_
  refine st_pr F4 (PR.op (ex_move rfl) <| PR.op (ex_len rfl Try.underlying22 (formL (rdL hr0 s0))) <| PR.op (ex_move rfl) <| PR.op (ex_len rfl Try.underlying22 (formL (rdL hr1 s0))) <| PR.op (ex_ne rfl rfl) <| PR.nil) fun q16 F17 => ?_
  refine st_end ?_
  refine then_n ?_
  refine wp_if F17 rfl (fun hb18 => ?_) (fun hb18 => ?_)
  · replace H := ite_t hb18 H
    refine wp_seq ?_
    refine wp_reg ?_
    refine st_pr F17 (PR.op (ex_asg rfl) <| PR.nil) fun q21 F22 => ?_
    refine st_end ?_
    refine then_n ?_
    obtain rfl := some_ok H
    refine wp_ret ?_
    refine then_r ?_
    refine ret_gen (rs := [.tmp 4]) (vs := [.bool false]) F22 (by rfl) ⟨_, _, rfl, RV.tmp rfl, rfl⟩ ⟨_, rfl, ⟨rfl, s0⟩⟩
  · replace H := ite_f hb18 H
    refine wp_skip ?_
    refine then_n ?_
    refine wp_seq ?_
    refine wp_seq ?_
    refine wp_reg ?_
    refine st_pr F17 (PR.op (ex_move rfl) <| PR.op (ex_len rfl Try.underlying22 (formL (rdL hr0 s0))) <| PR.op (ex_move rfl) <| PR.nil) fun q720 F721 => ?_
    refine st_end ?_
    refine then_n ?_
    obtain ⟨o1063, H1064, R1065⟩ := bind_ok H
    clear H
    refine wp_cutn (fun a w_ => ∃ p1066 : Unit, o1063 = .inr (p1066) ∧ Fr a 26 [] ∧ SL w [] w_ []) ?_ ?_
    · have H := H1064
      refine wp_block ?_
      refine wp_lp (slices_Equal_byte_byte_b0 a0 a1) (fun s1067 a w_ => Fr a 26 [(0, v0), (1, v1), (12, .int .i64 (a0.length : Int)), (13, .int .i64 s1067)] ∧ SL w [] w_ []) H ?_ ?_
      · exact ⟨F721.sub ⟨rfl, rfl, rfl, rfl, trivial⟩, s0⟩
      · intro s1067 q1323 w1324 hI1325 o1322 H hr
        obtain ⟨F1320, s1321⟩ := hI1325
        replace H : slices_Equal_byte_byte_b0 a0 a1 s1067 = some o1322 := H
        unfold slices_Equal_byte_byte_b0 at H
        refine wp_seq ?_
        refine wp_reg ?_
        refine st_pr F1320 (PR.op (ex_lt rfl rfl) <| PR.nil) fun q1328 F1329 => ?_
        refine st_end ?_
        refine then_n ?_
        refine wp_seq ?_
        refine wp_if F1329 rfl (fun hb1331 => ?_) (fun hb1331 => ?_)
        · replace H := ite_t hb1331 H
          refine wp_skip ?_
          refine then_n ?_
          refine wp_seq ?_
          refine wp_block ?_
          refine wp_seq ?_
          refine wp_reg ?_
          refine st_pr F1329 (PR.op (ex_move rfl) <| PR.op (ex_asg rfl) <| PR.nil) fun q1371 F1372 => ?_
          refine st_end ?_
          refine then_n ?_
          refine wp_seq ?_
          obtain ⟨x1387, hx1388, H⟩ := bind_ok H
          obtain ⟨ad1389, hi1390, hc1391⟩ := idxC (C := fun w_ => SL w [] w_ []) Flat.u8 (fun _ hC => (rdL hr0 hC)) s1321 Fx.sl22 rfl hx1388
          obtain ⟨x1392, hx1393, H⟩ := bind_ok H
          obtain ⟨ad1394, hi1395, hc1396⟩ := idxC (C := fun w_ => SL w [] w_ []) Flat.u8 (fun _ hC => (rdL hr1 hC)) s1321 Fx.sl22 rfl hx1393
          refine wp_regq (fun w_ => SL w [] w_ []) Fx.mixed (by kernel_rfl) s1321.drew F1372 (QR.op (fun _ hC => ex_move rfl) <| QR.op (fun _ hC => ex_move rfl) <| QR.op (fun _ hC => hi1390 _ _ _ _ _ _ _ _ _ _ rfl rfl) <| QR.op (fun _ hC => ex_ld Fx.nag5 rfl (Cells.at_ (hc1391 _ hC) (o := 0) rfl)) <| QR.op (fun _ hC => ex_move rfl) <| QR.op (fun _ hC => ex_move rfl) <| QR.op (fun _ hC => hi1395 _ _ _ _ _ _ _ _ _ _ rfl rfl) <| QR.op (fun _ hC => ex_ld Fx.nag5 rfl (Cells.at_ (hc1396 _ hC) (o := 0) rfl)) <| QR.op (fun _ hC => ex_ne rfl rfl) <| QR.nil) fun w1400 q1398 s1397 F1399 => ?_
          refine then_n ?_
          refine wp_if F1399 rfl (fun hb1401 => ?_) (fun hb1401 => ?_)
          · replace H := ite_t hb1401 H
            refine wp_seq ?_
            refine wp_reg ?_
            refine st_pr F1399 (PR.op (ex_asg rfl) <| PR.nil) fun q1404 F1405 => ?_
            refine st_end ?_
            refine then_n ?_
            obtain rfl := some_ok H
            obtain rfl := hr _ rfl
            replace H := R1065
            dsimp only at H
            obtain rfl := some_ok H
            refine wp_ret ?_
            refine blk_r <| then_r <| then_r <| blk_r <| then_r <| then_r ?_
            refine ret_gen (rs := [.tmp 4]) (vs := [.bool false]) F1405 (by rfl) ⟨_, _, rfl, RV.tmp rfl, rfl⟩ ⟨_, rfl, ⟨rfl, s1397⟩⟩
          · replace H := ite_f hb1401 H
            refine wp_skip ?_
            refine blk_n ?_
            refine then_n ?_
            refine wp_reg ?_
            refine st_pr F1399 (PR.op (ex_add rfl rfl) <| PR.op (ex_move rfl) <| PR.nil) fun q1406 F1407 => ?_
            refine st_end ?_
            obtain rfl := some_ok H
            refine then_n ?_
            exact ⟨_, rfl, F1407.sub ⟨rfl, rfl, rfl, rfl, trivial⟩, s1397⟩
        · replace H := ite_f hb1331 H
          refine wp_exit ?_
          refine then_x <| then_x <| blk_hit ?_
          obtain rfl := some_ok H
          obtain rfl := hr _ rfl
          refine then_n ?_
          exact ⟨_, rfl, F1329.sub trivial, s1321⟩
    · intro q1410 w1411 hJ
      obtain ⟨p1066, rfl, F1408, s1409⟩ := hJ
      have H := R1065
      clear R1065 H1064
      dsimp only at H
      refine then_n ?_
      refine wp_seq ?_
      refine wp_reg ?_
      refine st_pr F1408 (PR.op (ex_asg rfl) <| PR.nil) fun q1414 F1415 => ?_
      refine st_end ?_
      refine then_n ?_
      obtain rfl := some_ok H
      refine wp_ret ?_
      refine ret_gen (rs := [.tmp 4]) (vs := [.bool true]) F1415 (by rfl) ⟨_, _, rfl, RV.tmp rfl, rfl⟩ ⟨_, rfl, ⟨rfl, s1409⟩⟩
end Go.Proofs.Ytmeodoidfpcjlaa
