/- The walk of proviso/provisoref01.Sum. -/
import Derived.Test.YtpcdphfneidalaaFx
import Derived.Test.YtpcdphfneidalaaDf
set_option linter.unusedVariables false
set_option linter.unusedSimpArgs false
namespace Go.Proofs.Ytpcdphfneidalaa
open Go Go.RowKit Go.Pv
theorem provisoref01_Sum_c {w : World} {v0 : Value} {a0 : List UInt8} {r : Int} (hr0 : Rd Ty.u8 w [] v0 a0) (H : provisoref01_Sum a0 = some r) :
    Calls Try.prog 50 #[v0] w (Ret fun u_ w_ => u_ = .int .i64 r ∧ SL w [] w_ []) := by
  have s0 : SL w [] w [] := SL.init0 w
  refine call_enter Try.func50 rfl Try.ntmps50 (Nat.le_of_ble_eq_true rfl) (args := [v0]) fun q0 F0 => ?_
  unfold provisoref01_Sum at H
  refine wp_seq ?_
  refine wp_reg ?_
  refine st_pr F0 (PR.op (ex_asg rfl) <| PR.nil) fun q3 F4 => ?_
  refine st_end ?_
  refine then_n ?_
  refine wp_seq ?_
  refine wp_reg ?_
  refine st_pr F4 (PR.op (ex_asg rfl) <| PR.nil) fun q7 F8 => ?_
  refine st_end ?_
  refine then_n ?_
  refine wp_seq ?_
  refine wp_seq ?_
  refine wp_reg ?_
  refine st_pr F8 (PR.op (ex_move rfl) <| PR.op (ex_len rfl Try.underlying22 (formL (rdL hr0 s0))) <| PR.op (ex_move rfl) <| PR.nil) fun q6624 F6625 => ?_
  refine st_end ?_
  refine then_n ?_
  obtain ⟨o9927, H9928, R9929⟩ := bind_ok H
  clear H
  refine wp_cutn (fun a w_ => Fr a 34 [(3, .int .u32 o9927)] ∧ SL w [] w_ []) ?_ ?_
  · have H := H9928
    refine wp_block ?_
    refine wp_lp (provisoref01_Sum_b1 a0) (fun s9930 a w_ => Fr a 34 [(3, .int .u32 s9930.1), (8, v0), (9, .int .i64 (a0.length : Int)), (10, .int .i64 s9930.2)] ∧ SL w [] w_ []) H ?_ ?_
    · exact ⟨F6625.sub ⟨rfl, rfl, rfl, rfl, trivial⟩, s0⟩
    · intro s9930 q12406 w12407 hI12408 o12405 H hr
      obtain ⟨F12403, s12404⟩ := hI12408
      replace H : provisoref01_Sum_b1 a0 s9930 = some o12405 := H
      unfold provisoref01_Sum_b1 at H
      refine wp_seq ?_
      refine wp_reg ?_
      refine st_pr F12403 (PR.op (ex_lt rfl rfl) <| PR.nil) fun q12411 F12412 => ?_
      refine st_end ?_
      refine then_n ?_
      refine wp_seq ?_
      refine wp_if F12412 rfl (fun hb12414 => ?_) (fun hb12414 => ?_)
      · replace H := ite_t hb12414 H
        refine wp_skip ?_
        refine then_n ?_
        refine wp_seq ?_
        refine wp_block ?_
        refine wp_seq ?_
        refine wp_reg ?_
        obtain ⟨x12829, hx12830, H⟩ := bind_ok H
        obtain ⟨ad12831, hi12832, hc12833⟩ := idxL Flat.u8 (rdL hr0 s12404) Fx.sl22 rfl hx12830
        refine st_pr F12412 (PR.op (hi12832 _ _ _ _ _ _ _ _ _ _ rfl rfl) <| PR.op (ex_ld Fx.nag5 rfl (Cells.at_ hc12833 (o := 0) rfl)) <| PR.op (ex_asg rfl) <| PR.nil) fun q12834 F12835 => ?_
        refine st_end ?_
        refine then_n ?_
        refine wp_seq ?_
        refine wp_reg ?_
        refine st_pr F12835 (PR.op (ex_move rfl) <| PR.op (ex_move rfl) <| PR.op (ex_conv rfl Try.underlying5 Try.underlying79) <| PR.op (ex_xor rfl rfl) <| PR.op (ex_asg rfl) <| PR.nil) fun q12838 F12839 => ?_
        refine st_end ?_
        refine then_n ?_
        refine wp_seq ?_
        refine wp_reg ?_
        refine st_pr F12839 (PR.op (ex_asg rfl) <| PR.nil) fun q12842 F12843 => ?_
        refine st_end ?_
        refine then_n ?_
        obtain ⟨o13033, H13034, R13035⟩ := bind_ok H
        clear H
        refine wp_cutn (fun a w_ => Fr a 34 [(3, .int .u32 o13033), (8, v0), (9, .int .i64 (a0.length : Int)), (10, .int .i64 s9930.2)] ∧ SL w [] w_ []) ?_ ?_
        · have H := H13034
          refine wp_block ?_
          refine wp_lp (provisoref01_Sum_b0) (fun s13036 a w_ => Fr a 34 [(3, .int .u32 s13036.1), (6, .int .i64 s13036.2), (8, v0), (9, .int .i64 (a0.length : Int)), (10, .int .i64 s9930.2)] ∧ SL w [] w_ []) H ?_ ?_
          · exact ⟨F12843.sub ⟨rfl, rfl, rfl, rfl, rfl, trivial⟩, s12404⟩
          · intro s13036 q13178 w13179 hI13180 o13177 H hr
            obtain ⟨F13175, s13176⟩ := hI13180
            replace H : provisoref01_Sum_b0 s13036 = some o13177 := H
            unfold provisoref01_Sum_b0 at H
            refine wp_seq ?_
            refine wp_seq ?_
            refine wp_reg ?_
            refine st_pr F13175 (PR.op (ex_move rfl) <| PR.op (ex_lt rfl rfl) <| PR.nil) fun q13188 F13189 => ?_
            refine st_end ?_
            refine then_n ?_
            refine wp_if F13189 rfl (fun hb13190 => ?_) (fun hb13190 => ?_)
            · replace H := ite_t hb13190 H
              refine wp_skip ?_
              refine then_n ?_
              refine wp_seq ?_
              refine wp_block ?_
              refine wp_seq ?_
              refine wp_reg ?_
              refine st_pr F13189 (PR.op (ex_move rfl) <| PR.op (ex_rem rfl rfl rfl) <| PR.op (ex_eq rfl rfl) <| PR.op (ex_asg rfl) <| PR.nil) fun q13208 F13209 => ?_
              refine st_end ?_
              refine then_n ?_
              refine wp_seq ?_
              refine wp_reg ?_
              refine st_pr F13209 (PR.op (ex_move rfl) <| PR.op (ex_quo rfl rfl rfl) <| PR.op (ex_asg rfl) <| PR.nil) fun q13212 F13213 => ?_
              refine st_end ?_
              refine then_n ?_
              refine wp_seq ?_
              refine wp_reg ?_
              refine st_pr F13213 (PR.op (ex_move rfl) <| PR.nil) fun q13216 F13217 => ?_
              refine st_end ?_
              refine then_n ?_
              refine wp_if F13217 rfl (fun hb13218 => ?_) (fun hb13218 => ?_)
              · replace H := ite_t hb13218 H
                refine wp_reg ?_
                refine st_pr F13217 (PR.op (ex_move rfl) <| PR.op (ex_xor rfl rfl) <| PR.op (ex_asg rfl) <| PR.nil) fun q13219 F13220 => ?_
                refine st_end ?_
                refine blk_n ?_
                refine then_n ?_
                refine wp_reg ?_
                refine st_pr F13220 (PR.op (ex_move rfl) <| PR.op (ex_add rfl rfl) <| PR.op (ex_asg rfl) <| PR.nil) fun q13221 F13222 => ?_
                refine st_end ?_
                obtain rfl := some_ok H
                refine then_n ?_
                exact ⟨_, rfl, F13222.sub ⟨rfl, rfl, rfl, rfl, rfl, trivial⟩, s13176⟩
              · replace H := ite_f hb13218 H
                refine wp_skip ?_
                refine blk_n ?_
                refine then_n ?_
                refine wp_reg ?_
                refine st_pr F13217 (PR.op (ex_move rfl) <| PR.op (ex_add rfl rfl) <| PR.op (ex_asg rfl) <| PR.nil) fun q13223 F13224 => ?_
                refine st_end ?_
                obtain rfl := some_ok H
                refine then_n ?_
                exact ⟨_, rfl, F13224.sub ⟨rfl, rfl, rfl, rfl, rfl, trivial⟩, s13176⟩
            · replace H := ite_f hb13190 H
              refine wp_exit ?_
              refine then_x <| then_x <| blk_hit ?_
              obtain rfl := some_ok H
              obtain rfl := hr _ rfl
              refine then_n ?_
              exact ⟨F13189.sub ⟨rfl, rfl, rfl, rfl, trivial⟩, s13176⟩
        · intro q13227 w13228 hJ
          obtain ⟨F13225, s13226⟩ := hJ
          have H := R13035
          clear R13035 H13034
          refine blk_n ?_
          refine then_n ?_
          refine wp_reg ?_
          refine st_pr F13225 (PR.op (ex_add rfl rfl) <| PR.op (ex_move rfl) <| PR.nil) fun q13229 F13230 => ?_
          refine st_end ?_
          obtain rfl := some_ok H
          refine then_n ?_
          exact ⟨_, rfl, F13230.sub ⟨rfl, rfl, rfl, rfl, trivial⟩, s13226⟩
      · replace H := ite_f hb12414 H
        refine wp_exit ?_
        refine then_x <| then_x <| blk_hit ?_
        obtain rfl := some_ok H
        obtain rfl := hr _ rfl
        refine then_n ?_
        exact ⟨F12412.sub ⟨rfl, trivial⟩, s12404⟩
  · intro q13233 w13234 hJ
    obtain ⟨F13231, s13232⟩ := hJ
    have H := R9929
    clear R9929 H9928
    refine then_n ?_
    refine wp_seq ?_
    refine wp_reg ?_
    refine st_pr F13231 (PR.op (ex_move rfl) <| PR.op (ex_xor rfl rfl) <| PR.op (ex_conv rfl Try.underlying79 Try.underlying3) <| PR.op (ex_asg rfl) <| PR.nil) fun q13237 F13238 => ?_
    refine st_end ?_
    refine then_n ?_
    obtain rfl := some_ok H
    refine wp_ret ?_
    refine ret_gen (rs := [.tmp 2]) (vs := [.int .i64 (wr (bXor .u32 o9927 4294967295))]) F13238 (by rfl) ⟨_, _, rfl, RV.tmp rfl, rfl⟩ ⟨_, rfl, ⟨rfl, s13232⟩⟩
end Go.Proofs.Ytpcdphfneidalaa
