/- The walk of proviso/provisoref24.framed. -/
import Derived.Test.YtpcdphfneidalaaFx
import Derived.Test.YtpcdphfneidalaaDf
import Derived.Test.YtpcdphfneidalaaC37
set_option linter.unusedVariables false
set_option linter.unusedSimpArgs false
namespace Go.Proofs.Ytpcdphfneidalaa
open Go Go.RowKit Go.Pv
theorem provisoref24_framed_c {w : World} {v0 : Value} {a0 : List UInt8} {a1 : UInt8} {a2 : Int} {r : Int} (hr0 : Rd Ty.u8 w [] v0 a0) (H : provisoref24_framed a0 a1 a2 = some r) :
    Calls Try.prog 43 #[v0, .int .u8 (a1.toNat : Int), .int .i64 a2] w (Ret fun u_ w_ => u_ = .int .i64 r ∧ SL w [] w_ []) := by
  have s0 : SL w [] w [] := SL.init0 w
  refine call_enter Try.func43 rfl Try.ntmps43 (Nat.le_of_ble_eq_true rfl) (args := [v0, .int .u8 (a1.toNat : Int), .int .i64 a2]) fun q0 F0 => ?_
  unfold provisoref24_framed at H
  refine wp_seq ?_
  refine wp_reg ?_
  refine st_pr F0 (PR.op (ex_asg rfl) <| PR.nil) fun q3 F4 => ?_
  refine st_end ?_
  refine then_n ?_
  refine wp_seq ?_
  refine wp_seq ?_
  refine wp_reg ?_
  refine st_pr F4 (PR.op (ex_move rfl) <| PR.op (ex_len rfl Try.underlying22 (formL (rdL hr0 s0))) <| PR.op (ex_eq rfl rfl) <| PR.nil) fun q16 F17 => ?_
  refine st_end ?_
  refine then_n ?_
  refine wp_if F17 rfl (fun hb18 => ?_) (fun hb18 => ?_)
  · replace H := ite_t hb18 H
    refine wp_seq ?_
    refine wp_reg ?_
    refine st_pr F17 (PR.op (ex_asg rfl) <| PR.nil) fun q21 F22 => ?_
    refine st_end ?_
    refine then_n ?_
    obtain rfl := some_ok H
    refine wp_ret ?_
    refine then_r ?_
    refine ret_gen (rs := [.tmp 6]) (vs := [.int .i64 2]) F22 (by rfl) ⟨_, _, rfl, RV.tmp rfl, rfl⟩ ⟨_, rfl, ⟨rfl, s0⟩⟩
  · replace H := ite_f hb18 H
    refine wp_skip ?_
    refine then_n ?_
    refine wp_seq ?_
    refine wp_seq ?_
    refine wp_reg ?_
    obtain ⟨x49, hx50, H⟩ := bind_ok H
    obtain ⟨ad51, hi52, hc53⟩ := idxL Flat.u8 (rdL hr0 s0) Fx.sl22 rfl hx50
    refine st_pr F17 (PR.op (ex_move rfl) <| PR.op (hi52 _ _ _ _ _ _ _ _ _ _ rfl rfl) <| PR.op (ex_ld Fx.nag5 rfl (Cells.at_ hc53 (o := 0) rfl)) <| PR.op (ex_move rfl) <| PR.op (ex_ne rfl rfl) <| PR.nil) fun q54 F55 => ?_
    refine st_end ?_
    refine then_n ?_
    refine wp_if F55 rfl (fun hb56 => ?_) (fun hb56 => ?_)
    · replace H := ite_t hb56 H
      refine wp_seq ?_
      refine wp_reg ?_
      refine st_pr F55 (PR.op (ex_asg rfl) <| PR.nil) fun q59 F60 => ?_
      refine st_end ?_
      refine then_n ?_
      obtain rfl := some_ok H
      refine wp_ret ?_
      refine then_r ?_
      refine ret_gen (rs := [.tmp 6]) (vs := [.int .i64 240]) F60 (by rfl) ⟨_, _, rfl, RV.tmp rfl, rfl⟩ ⟨_, rfl, ⟨rfl, s0⟩⟩
    · replace H := ite_f hb56 H
      refine wp_skip ?_
      refine then_n ?_
      refine wp_seq ?_
      refine wp_seq ?_
      refine wp_reg ?_
      refine st_pr F55 (PR.op (ex_move rfl) <| PR.op (ex_len rfl Try.underlying22 (formL (rdL hr0 s0))) <| PR.op (ex_move rfl) <| PR.op (ex_le rfl rfl) <| PR.nil) fun q72 F73 => ?_
      refine st_end ?_
      refine then_n ?_
      refine wp_if F73 rfl (fun hb74 => ?_) (fun hb74 => ?_)
      · replace H := ite_t hb74 H
        refine wp_seq ?_
        refine wp_reg ?_
        refine st_pr F73 (PR.op (ex_asg rfl) <| PR.nil) fun q77 F78 => ?_
        refine st_end ?_
        refine then_n ?_
        obtain rfl := some_ok H
        refine wp_ret ?_
        refine then_r ?_
        refine ret_gen (rs := [.tmp 6]) (vs := [.int .i64 2]) F78 (by rfl) ⟨_, _, rfl, RV.tmp rfl, rfl⟩ ⟨_, rfl, ⟨rfl, s0⟩⟩
      · replace H := ite_f hb74 H
        refine wp_skip ?_
        refine then_n ?_
        refine wp_seq ?_
        refine wp_reg ?_
        obtain ⟨x86, hx87, H⟩ := bind_ok H
        obtain ⟨ad88, hi89, hc90⟩ := idxL Flat.u8 (rdL hr0 s0) Fx.sl22 rfl hx87
        refine st_pr F73 (PR.op (ex_move rfl) <| PR.op (ex_add rfl rfl) <| PR.op (ex_move rfl) <| PR.op (ex_move rfl) <| PR.op (hi89 _ _ _ _ _ _ _ _ _ _ rfl rfl) <| PR.op (ex_ld Fx.nag5 rfl (Cells.at_ hc90 (o := 0) rfl)) <| PR.op (ex_cv864 rfl Try.underlying5 Try.underlying3) <| PR.op (ex_add rfl rfl) <| PR.op (ex_add rfl rfl) <| PR.op (ex_asg rfl) <| PR.nil) fun q91 F92 => ?_
        refine st_end ?_
        refine then_n ?_
        refine wp_seq ?_
        refine wp_seq ?_
        refine wp_reg ?_
        refine st_pr F92 (PR.op (ex_move rfl) <| PR.op (ex_len rfl Try.underlying22 (formL (rdL hr0 s0))) <| PR.op (ex_move rfl) <| PR.op (ex_lt rfl rfl) <| PR.nil) fun q104 F105 => ?_
        refine st_end ?_
        refine then_n ?_
        refine wp_if F105 rfl (fun hb106 => ?_) (fun hb106 => ?_)
        · replace H := ite_t hb106 H
          refine wp_seq ?_
          refine wp_reg ?_
          refine st_pr F105 (PR.op (ex_asg rfl) <| PR.nil) fun q109 F110 => ?_
          refine st_end ?_
          refine then_n ?_
          obtain rfl := some_ok H
          refine wp_ret ?_
          refine then_r ?_
          refine ret_gen (rs := [.tmp 6]) (vs := [.int .i64 2]) F110 (by rfl) ⟨_, _, rfl, RV.tmp rfl, rfl⟩ ⟨_, rfl, ⟨rfl, s0⟩⟩
        · replace H := ite_f hb106 H
          refine wp_skip ?_
          refine then_n ?_
          refine wp_seq ?_
          refine wp_seq ?_
          refine wp_reg ?_
          refine st_pr F105 (PR.op (ex_move rfl) <| PR.op (ex_len rfl Try.underlying22 (formL (rdL hr0 s0))) <| PR.op (ex_move rfl) <| PR.op (ex_gt rfl rfl) <| PR.nil) fun q122 F123 => ?_
          refine st_end ?_
          refine then_n ?_
          refine wp_if F123 rfl (fun hb124 => ?_) (fun hb124 => ?_)
          · replace H := ite_t hb124 H
            refine wp_seq ?_
            refine wp_reg ?_
            refine st_pr F123 (PR.op (ex_asg rfl) <| PR.nil) fun q127 F128 => ?_
            refine st_end ?_
            refine then_n ?_
            obtain rfl := some_ok H
            refine wp_ret ?_
            refine then_r ?_
            refine ret_gen (rs := [.tmp 6]) (vs := [.int .i64 3]) F128 (by rfl) ⟨_, _, rfl, RV.tmp rfl, rfl⟩ ⟨_, rfl, ⟨rfl, s0⟩⟩
          · replace H := ite_f hb124 H
            refine wp_skip ?_
            refine then_n ?_
            refine wp_seq ?_
            refine wp_seq ?_
            refine wp_regh Fx.mixed (fun w_ => SL w [] w_ []) ?_
            have s291 := s0.drew
            have s292 : SL w [] _ [] := s291
            refine hd_take (i := 0) rfl (by kernel_rfl) (by kernel_rfl) (by kernel_rfl) (fun _ hC => ex_move rfl) rfl rfl rfl F123 s292 fun q293 F294 => ?_
            refine hd_take (i := 1) rfl (by kernel_rfl) (by kernel_rfl) (by kernel_rfl) (fun _ hC => ex_move rfl) rfl rfl rfl F294 s292 fun q295 F296 => ?_
            refine hd_take (i := 2) rfl (by kernel_rfl) (by kernel_rfl) (by kernel_rfl) (fun _ hC => ex_sub rfl rfl) rfl rfl rfl F296 s292 fun q297 F298 => ?_
            obtain ⟨x299, hx300, H⟩ := bind_ok H
            obtain ⟨v301, hsc302, hv303⟩ := Rd.cut hr0 Fx.sl22 rfl hx300 none (some (wr ((wr ((wr ((wr (a2 + 1)) + (x86.toNat : Int))) + 4)) - 4))) (.inr ⟨rfl, rfl⟩) (.inl rfl)
            refine hd_take (i := 3) rfl (by kernel_rfl) (by kernel_rfl) (by kernel_rfl) (fun _ hC => hsc302 _ _ _ _ _ .i64 .i64 _ _ _ _ _ rfl trivial rfl) rfl rfl rfl F298 s292 fun q304 F305 => ?_
            refine hd_take (i := 6) rfl (by kernel_rfl) (by kernel_rfl) (by kernel_rfl) (fun _ hC => ex_move rfl) rfl rfl rfl F305 s292 fun q308 F309 => ?_
            refine hd_take (i := 7) rfl (by kernel_rfl) (by kernel_rfl) (by kernel_rfl) (fun _ hC => ex_b2s rfl (rdL hr0 hC) Try.underlying22 Try.underlying5 Try.underlying9) rfl rfl rfl F309 s292 fun q312 F313 => ?_
            obtain ⟨x316, hx317, H⟩ := bind_ok H
            refine hd_one (i := 4) rfl (by kernel_rfl) ?_
            refine st_call (args := [.tmp 40]) F313 Fx.fn37 rfl (provisoref16_Summed_c (a0 := x299)  (hv303.pass0 s291) hx317) rfl fun v318 w319 q320 hS322 F321 => ?_
            obtain ⟨_, rfl, hq324⟩ := hS322
            have s323 := s291.add hq324
            have s327 : SL w [] _ [] := s323.drop
            refine kq_end ⟨s327, ?_⟩
            refine hd_one (i := 5) rfl (by kernel_rfl) ?_
            refine st_op F321 (ex_b2s rfl (s323.own_rd (.head _)) Try.underlying22 Try.underlying5 Try.underlying9) rfl rfl rfl fun q328 F329 => ?_
            have s330 : SL w [] _ [] := s323.drop
            refine kq_end ⟨s330, ?_⟩
            refine hd_one (i := 8) rfl (by kernel_rfl) ?_
            refine st_op F329 (ex_sne rfl rfl) rfl rfl rfl fun q331 F332 => ?_
            have s333 : SL w [] _ [] := s323.drop
            refine kq_end ⟨s333, ?_⟩
            refine hd_done (by kernel_rfl) ?_
            refine then_n ?_
            refine wp_if F332 rfl (fun hb334 => ?_) (fun hb334 => ?_)
            · replace H := ite_t hb334 H
              refine wp_seq ?_
              refine wp_reg ?_
              refine st_pr F332 (PR.op (ex_asg rfl) <| PR.nil) fun q337 F338 => ?_
              refine st_end ?_
              refine then_n ?_
              obtain rfl := some_ok H
              refine wp_ret ?_
              refine then_r ?_
              refine ret_gen (rs := [.tmp 6]) (vs := [.int .i64 161]) F338 (by rfl) ⟨_, _, rfl, RV.tmp rfl, rfl⟩ ⟨_, rfl, ⟨rfl, s323.drop⟩⟩
            · replace H := ite_f hb334 H
              refine wp_skip ?_
              refine then_n ?_
              refine wp_seq ?_
              refine wp_reg ?_
              refine st_pr F332 (PR.op (ex_asg rfl) <| PR.nil) fun q341 F342 => ?_
              refine st_end ?_
              refine then_n ?_
              obtain rfl := some_ok H
              refine wp_ret ?_
              refine ret_gen (rs := [.tmp 6]) (vs := [.int .i64 0]) F342 (by rfl) ⟨_, _, rfl, RV.tmp rfl, rfl⟩ ⟨_, rfl, ⟨rfl, s323.drop⟩⟩
end Go.Proofs.Ytpcdphfneidalaa
