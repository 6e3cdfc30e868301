/- The walk of proviso/wire.Sum. -/
import Derived.Test.YtpcdphfneidalaaFx
import Derived.Test.YtpcdphfneidalaaDf
import Derived.Test.YtpcdphfneidalaaC54
set_option linter.unusedVariables false
set_option linter.unusedSimpArgs false
namespace Go.Proofs.Ytpcdphfneidalaa
open Go Go.RowKit Go.Pv
theorem wire_Sum_c {w : World} {v0 : Value} {a0 : List UInt8} {r : Int} (hr0 : Rd Ty.u8 w [] v0 a0) (H : wire_Sum a0 = some r) :
    Calls Try.prog 48 #[v0] w (Ret fun u_ w_ => u_ = .int .i64 r ∧ SL w [] w_ []) := by
  have s0 : SL w [] w [] := SL.init0 w
  refine call_enter Try.func48 rfl Try.ntmps48 (Nat.le_of_ble_eq_true rfl) (args := [v0]) fun q0 F0 => ?_
  unfold wire_Sum at H
  refine wp_seq ?_
  refine wp_reg ?_
  refine st_pr F0 (PR.op (ex_asg rfl) <| PR.nil) fun q3 F4 => ?_
  refine st_end ?_
  refine then_n ?_
  refine wp_seq ?_
  refine wp_reg ?_
  obtain ⟨x25, hx26, H⟩ := bind_ok H
  refine st_call (args := []) F4 Fx.fn54 rfl (wire_words_c    hx26) rfl fun v27 w28 q29 hS31 F30 => ?_
  obtain ⟨rfl, hl34, hq33⟩ := hS31
  have s32 := s0.add hq33
  refine st_alloc_arr (e := 79) (Flat.int .u32) 256 (0 : Int) F30 s32 Fx.zero85 rfl fun g35 w36 q37 F38 s39 => ?_
  refine st_storearr (r := x25) (Flat.int .u32) F38 s39 rfl rfl hl34 Fx.sz85 fun w41 q42 F43 s44 => ?_
  refine st_end ?_
  refine then_n ?_
  refine wp_seq ?_
  refine wp_reg ?_
  refine st_pr F43 (PR.op (ex_asg rfl) <| PR.nil) fun q47 F48 => ?_
  refine st_end ?_
  refine then_n ?_
  refine wp_seq ?_
  refine wp_seq ?_
  refine wp_reg ?_
  refine st_pr F48 (PR.op (ex_move rfl) <| PR.op (ex_len rfl Try.underlying22 (formL (rdL hr0 s44))) <| PR.op (ex_move rfl) <| PR.nil) fun q440 F441 => ?_
  refine st_end ?_
  refine then_n ?_
  obtain ⟨o631, H632, R633⟩ := bind_ok H
  clear H
  refine wp_cutn (fun a w_ => Fr a 27 [(4, .int .u32 o631)] ∧ SL w [] w_ []) ?_ ?_
  · have H := H632
    refine wp_block ?_
    refine wp_lp (wire_Sum_b0 a0 x25) (fun s634 a w_ => Fr a 27 [(3, .pointer (some ⟨g35, 0, none⟩)), (4, .int .u32 s634.1), (8, v0), (9, .int .i64 (a0.length : Int)), (10, .int .i64 s634.2)] ∧ SL w [] w_ [Sl (Ty.int .u32) (arV g35 256) x25]) H ?_ ?_
    · exact ⟨F441.sub ⟨rfl, rfl, rfl, rfl, rfl, trivial⟩, s44⟩
    · intro s634 q776 w777 hI778 o775 H hr
      obtain ⟨F773, s774⟩ := hI778
      replace H : wire_Sum_b0 a0 x25 s634 = some o775 := H
      unfold wire_Sum_b0 at H
      refine wp_seq ?_
      refine wp_reg ?_
      refine st_pr F773 (PR.op (ex_lt rfl rfl) <| PR.nil) fun q781 F782 => ?_
      refine st_end ?_
      refine then_n ?_
      refine wp_seq ?_
      refine wp_if F782 rfl (fun hb784 => ?_) (fun hb784 => ?_)
      · replace H := ite_t hb784 H
        refine wp_skip ?_
        refine then_n ?_
        refine wp_seq ?_
        refine wp_block ?_
        refine wp_seq ?_
        refine wp_reg ?_
        obtain ⟨x810, hx811, H⟩ := bind_ok H
        obtain ⟨ad812, hi813, hc814⟩ := idxL Flat.u8 (rdL hr0 s774) Fx.sl22 rfl hx811
        refine st_pr F782 (PR.op (hi813 _ _ _ _ _ _ _ _ _ _ rfl rfl) <| PR.op (ex_ld Fx.nag5 rfl (Cells.at_ hc814 (o := 0) rfl)) <| PR.op (ex_asg rfl) <| PR.nil) fun q815 F816 => ?_
        refine st_end ?_
        refine then_n ?_
        refine wp_reg ?_
        obtain ⟨x817, hx818, H⟩ := bind_ok H
        refine st_pr F816 (PR.op (ex_move rfl) <| PR.op (ex_cv8 rfl Try.underlying79 Try.underlying5) <| PR.op (ex_move rfl) <| PR.op (ex_xor8 rfl rfl) <| PR.op (ex_ixarr (T := (Ty.int .u32)) Fx.ar85 rfl s774 (.head _) hx818 rfl rfl) <| PR.op (ex_ld Fx.nag79 rfl (Cells.at_ (SL.elcells (Flat.int .u32) s774 (.head _) elAt_arr hx818) (o := 0) rfl)) <| PR.op (ex_move rfl) <| PR.op (ex_shr rfl rfl rfl) <| PR.op (ex_xor rfl rfl) <| PR.op (ex_asg rfl) <| PR.nil) fun q819 F820 => ?_
        refine st_end ?_
        refine blk_n ?_
        refine then_n ?_
        refine wp_reg ?_
        refine st_pr F820 (PR.op (ex_add rfl rfl) <| PR.op (ex_move rfl) <| PR.nil) fun q821 F822 => ?_
        refine st_end ?_
        obtain rfl := some_ok H
        refine then_n ?_
        exact ⟨_, rfl, F822.sub ⟨rfl, rfl, rfl, rfl, rfl, trivial⟩, s774⟩
      · replace H := ite_f hb784 H
        refine wp_exit ?_
        refine then_x <| then_x <| blk_hit ?_
        obtain rfl := some_ok H
        obtain rfl := hr _ rfl
        refine then_n ?_
        exact ⟨F782.sub ⟨rfl, trivial⟩, s774.drop⟩
  · intro q825 w826 hJ
    obtain ⟨F823, s824⟩ := hJ
    have H := R633
    clear R633 H632
    refine then_n ?_
    refine wp_seq ?_
    refine wp_reg ?_
    refine st_pr F823 (PR.op (ex_move rfl) <| PR.op (ex_bnot rfl) <| PR.op (ex_conv rfl Try.underlying79 Try.underlying3) <| PR.op (ex_asg rfl) <| PR.nil) fun q829 F830 => ?_
    refine st_end ?_
    refine then_n ?_
    obtain rfl := some_ok H
    refine wp_ret ?_
    refine ret_gen (rs := [.tmp 2]) (vs := [.int .i64 (wr (bNot .u32 o631))]) F830 (by rfl) ⟨_, _, rfl, RV.tmp rfl, rfl⟩ ⟨_, rfl, ⟨rfl, s824⟩⟩
end Go.Proofs.Ytpcdphfneidalaa
