/- The walk of proviso/code.widths. -/
import Derived.Test.YtmeodoidfpcjlaaFx
import Derived.Test.YtmeodoidfpcjlaaDf
set_option linter.unusedVariables false
set_option linter.unusedSimpArgs false
namespace Go.Proofs.Ytmeodoidfpcjlaa
open Go Go.RowKit Go.Pv
theorem code_widths_c {w : World} {a0 : UInt8} {r : Int × Int}  (H : code_widths a0 = some r) :
    Calls Try.prog 72 #[.int .u8 (a0.toNat : Int)] w (Ret fun u_ w_ => u_ = .tuple ⟨[.int .i64 r.1, .int .i64 r.2]⟩ ∧ SL w [] w_ []) := by
  have s0 : SL w [] w [] := SL.init0 w
  refine call_enter Try.func72 rfl Try.ntmps72 (Nat.le_of_ble_eq_true rfl) (args := [.int .u8 (a0.toNat : Int)]) fun q0 F0 => ?_
  unfold code_widths at H
  refine wp_seq ?_
  refine wp_reg ?_
  refine st_pr F0 (PR.op (ex_asg rfl) <| PR.op (ex_asg rfl) <| PR.nil) fun q3 F4 => ?_
  refine st_end ?_
  refine then_n ?_
  refine wp_seq ?_
  refine wp_seq ?_
  refine wp_reg ?_
  refine st_pr F4 (PR.op (ex_move rfl) <| PR.nil) fun q7155 F7156 => ?_
  refine st_end ?_
  refine then_n ?_
  refine wp_block ?_
  refine wp_seq ?_
  refine wp_block ?_
  refine wp_block ?_
  refine wp_seq ?_
  refine wp_block ?_
  refine wp_seq ?_
  refine wp_block ?_
  refine wp_seq ?_
  refine wp_block ?_
  refine wp_seq ?_
  refine wp_seq ?_
  refine wp_seq ?_
  refine wp_reg ?_
  refine st_pr F7156 (PR.op (ex_eq rfl rfl) <| PR.op (ex_asg rfl) <| PR.nil) fun q14027 F14028 => ?_
  refine st_end ?_
  refine then_n ?_
  refine wp_if F14028 rfl (fun hb14029 => ?_) (fun hb14029 => ?_)
  · replace H := ite_t hb14029 H
    refine wp_exit ?_
    refine then_x <| then_x <| blk_hit ?_
    refine then_n ?_
    refine wp_seq ?_
    refine wp_seq ?_
    refine wp_reg ?_
    refine st_pr F14028 (PR.op (ex_asg rfl) <| PR.op (ex_asg rfl) <| PR.nil) fun q14036 F14037 => ?_
    refine st_end ?_
    refine then_n ?_
    obtain rfl := some_ok H
    refine wp_ret ?_
    refine then_r <| blk_r <| then_r <| blk_r <| then_r <| blk_r <| blk_r <| then_r <| blk_r <| then_r ?_
    refine ret_gen (rs := [.tmp 2, .tmp 3]) (vs := [.int .i64 4, .int .i64 0]) F14037 (by rfl) ⟨_, _, rfl, RV.tmp rfl, _, _, rfl, RV.tmp rfl, rfl⟩ ⟨_, rfl, ⟨rfl, s0⟩⟩
  · replace H := ite_f hb14029 H
    refine wp_skip ?_
    refine then_n ?_
    refine wp_seq ?_
    refine wp_seq ?_
    obtain ⟨o14067, H14068, R14069⟩ := bind_ok H
    clear H
    refine wp_cutn (fun a w_ => Fr a 23 [(4, .int .u8 (a0.toNat : Int)), (7, .bool o14067)] ∧ SL w [] w_ []) ?_ ?_
    · have H := H14068
      refine wp_seq ?_
      refine wp_reg ?_
      refine st_pr F14028 (PR.op (ex_eq rfl rfl) <| PR.op (ex_asg rfl) <| PR.nil) fun q14072 F14073 => ?_
      refine st_end ?_
      refine then_n ?_
      refine wp_if F14073 rfl (fun hb14074 => ?_) (fun hb14074 => ?_)
      · replace H := ite_t hb14074 H
        refine wp_skip ?_
        obtain rfl := some_ok H
        refine then_n ?_
        exact ⟨F14073.sub ⟨rfl, rfl, trivial⟩, s0⟩
      · replace H := ite_f hb14074 H
        refine wp_reg ?_
        refine st_pr F14073 (PR.op (ex_eq rfl rfl) <| PR.op (ex_asg rfl) <| PR.nil) fun q14075 F14076 => ?_
        refine st_end ?_
        obtain rfl := some_ok H
        refine then_n ?_
        exact ⟨F14076.sub ⟨rfl, rfl, trivial⟩, s0⟩
    · intro q14079 w14080 hJ
      obtain ⟨F14077, s14078⟩ := hJ
      have H := R14069
      clear R14069 H14068
      refine then_n ?_
      refine wp_if F14077 rfl (fun hb14081 => ?_) (fun hb14081 => ?_)
      · replace H := ite_t hb14081 H
        refine wp_exit ?_
        refine then_x <| then_x <| blk_miss rfl <| then_x <| blk_hit ?_
        refine then_n ?_
        refine wp_seq ?_
        refine wp_seq ?_
        refine wp_reg ?_
        refine st_pr F14077 (PR.op (ex_asg rfl) <| PR.op (ex_asg rfl) <| PR.nil) fun q14088 F14089 => ?_
        refine st_end ?_
        refine then_n ?_
        obtain rfl := some_ok H
        refine wp_ret ?_
        refine then_r <| blk_r <| then_r <| blk_r <| blk_r <| then_r <| blk_r <| then_r ?_
        refine ret_gen (rs := [.tmp 2, .tmp 3]) (vs := [.int .i64 2, .int .i64 0]) F14089 (by rfl) ⟨_, _, rfl, RV.tmp rfl, _, _, rfl, RV.tmp rfl, rfl⟩ ⟨_, rfl, ⟨rfl, s14078⟩⟩
      · replace H := ite_f hb14081 H
        refine wp_skip ?_
        refine then_n ?_
        refine wp_seq ?_
        refine wp_seq ?_
        obtain ⟨o14119, H14120, R14121⟩ := bind_ok H
        clear H
        refine wp_cutn (fun a w_ => Fr a 23 [(4, .int .u8 (a0.toNat : Int)), (10, .bool o14119)] ∧ SL w [] w_ []) ?_ ?_
        · have H := H14120
          refine wp_seq ?_
          refine wp_reg ?_
          refine st_pr F14077 (PR.op (ex_eq rfl rfl) <| PR.op (ex_asg rfl) <| PR.nil) fun q14124 F14125 => ?_
          refine st_end ?_
          refine then_n ?_
          refine wp_if F14125 rfl (fun hb14126 => ?_) (fun hb14126 => ?_)
          · replace H := ite_t hb14126 H
            refine wp_skip ?_
            obtain rfl := some_ok H
            refine then_n ?_
            exact ⟨F14125.sub ⟨rfl, rfl, trivial⟩, s14078⟩
          · replace H := ite_f hb14126 H
            refine wp_reg ?_
            refine st_pr F14125 (PR.op (ex_eq rfl rfl) <| PR.op (ex_asg rfl) <| PR.nil) fun q14127 F14128 => ?_
            refine st_end ?_
            obtain rfl := some_ok H
            refine then_n ?_
            exact ⟨F14128.sub ⟨rfl, rfl, trivial⟩, s14078⟩
        · intro q14131 w14132 hJ
          obtain ⟨F14129, s14130⟩ := hJ
          have H := R14121
          clear R14121 H14120
          refine then_n ?_
          refine wp_if F14129 rfl (fun hb14133 => ?_) (fun hb14133 => ?_)
          · replace H := ite_t hb14133 H
            refine wp_exit ?_
            refine then_x <| then_x <| blk_miss rfl <| then_x <| blk_miss rfl <| then_x <| blk_hit ?_
            refine then_n ?_
            refine wp_seq ?_
            refine wp_seq ?_
            refine wp_reg ?_
            refine st_pr F14129 (PR.op (ex_asg rfl) <| PR.op (ex_asg rfl) <| PR.nil) fun q14140 F14141 => ?_
            refine st_end ?_
            refine then_n ?_
            obtain rfl := some_ok H
            refine wp_ret ?_
            refine then_r <| blk_r <| blk_r <| then_r <| blk_r <| then_r ?_
            refine ret_gen (rs := [.tmp 2, .tmp 3]) (vs := [.int .i64 1, .int .i64 1]) F14141 (by rfl) ⟨_, _, rfl, RV.tmp rfl, _, _, rfl, RV.tmp rfl, rfl⟩ ⟨_, rfl, ⟨rfl, s14130⟩⟩
          · replace H := ite_f hb14133 H
            refine wp_skip ?_
            refine then_n ?_
            refine wp_seq ?_
            refine wp_seq ?_
            obtain ⟨o14191, H14192, R14193⟩ := bind_ok H
            clear H
            refine wp_cutn (fun a w_ => Fr a 23 [(4, .int .u8 (a0.toNat : Int)), (13, .bool o14191)] ∧ SL w [] w_ []) ?_ ?_
            · have H := H14192
              refine wp_seq ?_
              refine wp_reg ?_
              refine st_pr F14129 (PR.op (ex_eq rfl rfl) <| PR.op (ex_asg rfl) <| PR.nil) fun q14196 F14197 => ?_
              refine st_end ?_
              refine then_n ?_
              refine wp_if F14197 rfl (fun hb14198 => ?_) (fun hb14198 => ?_)
              · replace H := ite_t hb14198 H
                refine wp_skip ?_
                obtain rfl := some_ok H
                refine then_n ?_
                exact ⟨F14197.sub ⟨rfl, rfl, trivial⟩, s14130⟩
              · replace H := ite_f hb14198 H
                refine wp_seq ?_
                refine wp_reg ?_
                refine st_pr F14197 (PR.op (ex_eq rfl rfl) <| PR.op (ex_asg rfl) <| PR.nil) fun q14201 F14202 => ?_
                refine st_end ?_
                refine then_n ?_
                refine wp_if F14202 rfl (fun hb14203 => ?_) (fun hb14203 => ?_)
                · replace H := ite_t hb14203 H
                  refine wp_skip ?_
                  obtain rfl := some_ok H
                  refine then_n ?_
                  exact ⟨F14202.sub ⟨rfl, rfl, trivial⟩, s14130⟩
                · replace H := ite_f hb14203 H
                  refine wp_reg ?_
                  refine st_pr F14202 (PR.op (ex_eq rfl rfl) <| PR.op (ex_asg rfl) <| PR.nil) fun q14204 F14205 => ?_
                  refine st_end ?_
                  obtain rfl := some_ok H
                  refine then_n ?_
                  exact ⟨F14205.sub ⟨rfl, rfl, trivial⟩, s14130⟩
            · intro q14208 w14209 hJ
              obtain ⟨F14206, s14207⟩ := hJ
              have H := R14193
              clear R14193 H14192
              refine then_n ?_
              refine wp_if F14206 rfl (fun hb14210 => ?_) (fun hb14210 => ?_)
              · replace H := ite_t hb14210 H
                refine wp_exit ?_
                refine then_x <| then_x <| blk_miss rfl <| then_x <| blk_miss rfl <| then_x <| blk_miss rfl <| then_x <| blk_hit ?_
                refine blk_n ?_
                refine then_n ?_
                refine wp_seq ?_
                refine wp_seq ?_
                refine wp_reg ?_
                refine st_pr F14206 (PR.op (ex_asg rfl) <| PR.op (ex_asg rfl) <| PR.nil) fun q14217 F14218 => ?_
                refine st_end ?_
                refine then_n ?_
                obtain rfl := some_ok H
                refine wp_ret ?_
                refine then_r <| blk_r <| then_r ?_
                refine ret_gen (rs := [.tmp 2, .tmp 3]) (vs := [.int .i64 1, .int .i64 0]) F14218 (by rfl) ⟨_, _, rfl, RV.tmp rfl, _, _, rfl, RV.tmp rfl, rfl⟩ ⟨_, rfl, ⟨rfl, s14207⟩⟩
              · replace H := ite_f hb14210 H
                refine wp_skip ?_
                refine then_n ?_
                refine wp_seq ?_
                obtain ⟨o14263, H14264, R14265⟩ := bind_ok H
                clear H
                refine wp_cutn (fun a w_ => Fr a 23 [(17, .bool o14263)] ∧ SL w [] w_ []) ?_ ?_
                · have H := H14264
                  refine wp_seq ?_
                  refine wp_reg ?_
                  refine st_pr F14206 (PR.op (ex_eq rfl rfl) <| PR.op (ex_asg rfl) <| PR.nil) fun q14268 F14269 => ?_
                  refine st_end ?_
                  refine then_n ?_
                  refine wp_if F14269 rfl (fun hb14270 => ?_) (fun hb14270 => ?_)
                  · replace H := ite_t hb14270 H
                    refine wp_skip ?_
                    obtain rfl := some_ok H
                    refine then_n ?_
                    exact ⟨F14269.sub ⟨rfl, trivial⟩, s14207⟩
                  · replace H := ite_f hb14270 H
                    refine wp_seq ?_
                    refine wp_reg ?_
                    refine st_pr F14269 (PR.op (ex_eq rfl rfl) <| PR.op (ex_asg rfl) <| PR.nil) fun q14273 F14274 => ?_
                    refine st_end ?_
                    refine then_n ?_
                    refine wp_if F14274 rfl (fun hb14275 => ?_) (fun hb14275 => ?_)
                    · replace H := ite_t hb14275 H
                      refine wp_skip ?_
                      obtain rfl := some_ok H
                      refine then_n ?_
                      exact ⟨F14274.sub ⟨rfl, trivial⟩, s14207⟩
                    · replace H := ite_f hb14275 H
                      refine wp_seq ?_
                      refine wp_reg ?_
                      refine st_pr F14274 (PR.op (ex_eq rfl rfl) <| PR.op (ex_asg rfl) <| PR.nil) fun q14278 F14279 => ?_
                      refine st_end ?_
                      refine then_n ?_
                      refine wp_if F14279 rfl (fun hb14280 => ?_) (fun hb14280 => ?_)
                      · replace H := ite_t hb14280 H
                        refine wp_skip ?_
                        obtain rfl := some_ok H
                        refine then_n ?_
                        exact ⟨F14279.sub ⟨rfl, trivial⟩, s14207⟩
                      · replace H := ite_f hb14280 H
                        refine wp_seq ?_
                        refine wp_reg ?_
                        refine st_pr F14279 (PR.op (ex_eq rfl rfl) <| PR.op (ex_asg rfl) <| PR.nil) fun q14283 F14284 => ?_
                        refine st_end ?_
                        refine then_n ?_
                        refine wp_if F14284 rfl (fun hb14285 => ?_) (fun hb14285 => ?_)
                        · replace H := ite_t hb14285 H
                          refine wp_skip ?_
                          obtain rfl := some_ok H
                          refine then_n ?_
                          exact ⟨F14284.sub ⟨rfl, trivial⟩, s14207⟩
                        · replace H := ite_f hb14285 H
                          refine wp_reg ?_
                          refine st_pr F14284 (PR.op (ex_eq rfl rfl) <| PR.op (ex_asg rfl) <| PR.nil) fun q14286 F14287 => ?_
                          refine st_end ?_
                          obtain rfl := some_ok H
                          refine then_n ?_
                          exact ⟨F14287.sub ⟨rfl, trivial⟩, s14207⟩
                · intro q14290 w14291 hJ
                  obtain ⟨F14288, s14289⟩ := hJ
                  have H := R14265
                  clear R14265 H14264
                  refine then_n ?_
                  refine wp_if F14288 rfl (fun hb14292 => ?_) (fun hb14292 => ?_)
                  · replace H := ite_t hb14292 H
                    refine wp_exit ?_
                    refine then_x <| blk_miss rfl <| then_x <| blk_miss rfl <| then_x <| blk_miss rfl <| then_x <| blk_miss rfl <| blk_hit ?_
                    refine then_n ?_
                    refine wp_seq ?_
                    refine wp_seq ?_
                    refine wp_reg ?_
                    refine st_pr F14288 (PR.op (ex_asg rfl) <| PR.op (ex_asg rfl) <| PR.nil) fun q14299 F14300 => ?_
                    refine st_end ?_
                    refine then_n ?_
                    obtain rfl := some_ok H
                    refine wp_ret ?_
                    refine then_r <| blk_r <| then_r ?_
                    refine ret_gen (rs := [.tmp 2, .tmp 3]) (vs := [.int .i64 1, .int .i64 0]) F14300 (by rfl) ⟨_, _, rfl, RV.tmp rfl, _, _, rfl, RV.tmp rfl, rfl⟩ ⟨_, rfl, ⟨rfl, s14289⟩⟩
                  · replace H := ite_f hb14292 H
                    refine wp_skip ?_
                    refine then_n ?_
                    refine wp_exit ?_
                    refine blk_miss rfl <| then_x <| blk_miss rfl <| then_x <| blk_miss rfl <| then_x <| blk_miss rfl <| blk_miss rfl <| then_x <| blk_hit ?_
                    refine then_n ?_
                    refine wp_seq ?_
                    refine wp_reg ?_
                    refine st_pr F14288 (PR.op (ex_asg rfl) <| PR.op (ex_asg rfl) <| PR.nil) fun q14303 F14304 => ?_
                    refine st_end ?_
                    refine then_n ?_
                    obtain rfl := some_ok H
                    refine wp_ret ?_
                    refine ret_gen (rs := [.tmp 2, .tmp 3]) (vs := [.int .i64 0, .int .i64 0]) F14304 (by rfl) ⟨_, _, rfl, RV.tmp rfl, _, _, rfl, RV.tmp rfl, rfl⟩ ⟨_, rfl, ⟨rfl, s14289⟩⟩
end Go.Proofs.Ytmeodoidfpcjlaa
