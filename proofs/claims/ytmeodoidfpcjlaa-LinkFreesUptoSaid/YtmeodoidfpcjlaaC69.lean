/- The walk of proviso/provisoref04.wide. -/
import Derived.Test.YtmeodoidfpcjlaaFx
import Derived.Test.YtmeodoidfpcjlaaDf
set_option linter.unusedVariables false
set_option linter.unusedSimpArgs false
namespace Go.Proofs.Ytmeodoidfpcjlaa
open Go Go.RowKit Go.Pv
theorem provisoref04_wide_c {w : World} {a0 : UInt8} {r : Int × Int}  (H : provisoref04_wide a0 = some r) :
    Calls Try.prog 69 #[.int .u8 (a0.toNat : Int)] w (Ret fun u_ w_ => u_ = .tuple ⟨[.int .i64 r.1, .int .i64 r.2]⟩ ∧ SL w [] w_ []) := by
  have s0 : SL w [] w [] := SL.init0 w
  refine call_enter Try.func69 rfl Try.ntmps69 (Nat.le_of_ble_eq_true rfl) (args := [.int .u8 (a0.toNat : Int)]) fun q0 F0 => ?_
  unfold provisoref04_wide at H
  refine wp_seq ?_
  refine wp_reg ?_
  refine st_pr F0 (PR.op (ex_asg rfl) <| PR.op (ex_asg rfl) <| PR.nil) fun q3 F4 => ?_
  refine st_end ?_
  refine then_n ?_
  refine wp_seq ?_
  refine wp_seq ?_
  refine wp_reg ?_
  refine st_pr F4 (PR.op (ex_move rfl) <| PR.nil) fun q209 F210 => ?_
  refine st_end ?_
  refine then_n ?_
  refine wp_block ?_
  refine wp_seq ?_
  refine wp_reg ?_
  refine st_pr F210 (PR.op (ex_eq rfl rfl) <| PR.op (ex_asg rfl) <| PR.nil) fun q213 F214 => ?_
  refine st_end ?_
  refine then_n ?_
  refine wp_if F214 rfl (fun hb215 => ?_) (fun hb215 => ?_)
  · replace H := ite_t hb215 H
    refine wp_seq ?_
    refine wp_reg ?_
    refine st_pr F214 (PR.op (ex_asg rfl) <| PR.op (ex_asg rfl) <| PR.nil) fun q218 F219 => ?_
    refine st_end ?_
    refine then_n ?_
    obtain rfl := some_ok H
    refine wp_ret ?_
    refine blk_r <| then_r ?_
    refine ret_gen (rs := [.tmp 2, .tmp 3]) (vs := [.int .i64 4, .int .i64 0]) F219 (by rfl) ⟨_, _, rfl, RV.tmp rfl, _, _, rfl, RV.tmp rfl, rfl⟩ ⟨_, rfl, ⟨rfl, s0⟩⟩
  · replace H := ite_f hb215 H
    refine wp_seq ?_
    obtain ⟨o234, H235, R236⟩ := bind_ok H
    clear H
    refine wp_cutn (fun a w_ => Fr a 22 [(4, .int .u8 (a0.toNat : Int)), (7, .bool o234)] ∧ SL w [] w_ []) ?_ ?_
    · have H := H235
      refine wp_seq ?_
      refine wp_reg ?_
      refine st_pr F214 (PR.op (ex_eq rfl rfl) <| PR.op (ex_asg rfl) <| PR.nil) fun q239 F240 => ?_
      refine st_end ?_
      refine then_n ?_
      refine wp_if F240 rfl (fun hb241 => ?_) (fun hb241 => ?_)
      · replace H := ite_t hb241 H
        refine wp_skip ?_
        obtain rfl := some_ok H
        refine then_n ?_
        exact ⟨F240.sub ⟨rfl, rfl, trivial⟩, s0⟩
      · replace H := ite_f hb241 H
        refine wp_reg ?_
        refine st_pr F240 (PR.op (ex_eq rfl rfl) <| PR.op (ex_asg rfl) <| PR.nil) fun q242 F243 => ?_
        refine st_end ?_
        obtain rfl := some_ok H
        refine then_n ?_
        exact ⟨F243.sub ⟨rfl, rfl, trivial⟩, s0⟩
    · intro q246 w247 hJ
      obtain ⟨F244, s245⟩ := hJ
      have H := R236
      clear R236 H235
      refine then_n ?_
      refine wp_if F244 rfl (fun hb248 => ?_) (fun hb248 => ?_)
      · replace H := ite_t hb248 H
        refine wp_seq ?_
        refine wp_reg ?_
        refine st_pr F244 (PR.op (ex_asg rfl) <| PR.op (ex_asg rfl) <| PR.nil) fun q251 F252 => ?_
        refine st_end ?_
        refine then_n ?_
        obtain rfl := some_ok H
        refine wp_ret ?_
        refine blk_r <| then_r ?_
        refine ret_gen (rs := [.tmp 2, .tmp 3]) (vs := [.int .i64 2, .int .i64 0]) F252 (by rfl) ⟨_, _, rfl, RV.tmp rfl, _, _, rfl, RV.tmp rfl, rfl⟩ ⟨_, rfl, ⟨rfl, s245⟩⟩
      · replace H := ite_f hb248 H
        refine wp_seq ?_
        obtain ⟨o267, H268, R269⟩ := bind_ok H
        clear H
        refine wp_cutn (fun a w_ => Fr a 22 [(4, .int .u8 (a0.toNat : Int)), (10, .bool o267)] ∧ SL w [] w_ []) ?_ ?_
        · have H := H268
          refine wp_seq ?_
          refine wp_reg ?_
          refine st_pr F244 (PR.op (ex_eq rfl rfl) <| PR.op (ex_asg rfl) <| PR.nil) fun q272 F273 => ?_
          refine st_end ?_
          refine then_n ?_
          refine wp_if F273 rfl (fun hb274 => ?_) (fun hb274 => ?_)
          · replace H := ite_t hb274 H
            refine wp_skip ?_
            obtain rfl := some_ok H
            refine then_n ?_
            exact ⟨F273.sub ⟨rfl, rfl, trivial⟩, s245⟩
          · replace H := ite_f hb274 H
            refine wp_reg ?_
            refine st_pr F273 (PR.op (ex_eq rfl rfl) <| PR.op (ex_asg rfl) <| PR.nil) fun q275 F276 => ?_
            refine st_end ?_
            obtain rfl := some_ok H
            refine then_n ?_
            exact ⟨F276.sub ⟨rfl, rfl, trivial⟩, s245⟩
        · intro q279 w280 hJ
          obtain ⟨F277, s278⟩ := hJ
          have H := R269
          clear R269 H268
          refine then_n ?_
          refine wp_if F277 rfl (fun hb281 => ?_) (fun hb281 => ?_)
          · replace H := ite_t hb281 H
            refine wp_seq ?_
            refine wp_reg ?_
            refine st_pr F277 (PR.op (ex_asg rfl) <| PR.op (ex_asg rfl) <| PR.nil) fun q284 F285 => ?_
            refine st_end ?_
            refine then_n ?_
            obtain rfl := some_ok H
            refine wp_ret ?_
            refine blk_r <| then_r ?_
            refine ret_gen (rs := [.tmp 2, .tmp 3]) (vs := [.int .i64 1, .int .i64 1]) F285 (by rfl) ⟨_, _, rfl, RV.tmp rfl, _, _, rfl, RV.tmp rfl, rfl⟩ ⟨_, rfl, ⟨rfl, s278⟩⟩
          · replace H := ite_f hb281 H
            refine wp_seq ?_
            obtain ⟨o360, H361, R362⟩ := bind_ok H
            clear H
            refine wp_cutn (fun a w_ => Fr a 22 [(13, .bool o360)] ∧ SL w [] w_ []) ?_ ?_
            · have H := H361
              refine wp_seq ?_
              refine wp_reg ?_
              refine st_pr F277 (PR.op (ex_eq rfl rfl) <| PR.op (ex_asg rfl) <| PR.nil) fun q365 F366 => ?_
              refine st_end ?_
              refine then_n ?_
              refine wp_if F366 rfl (fun hb367 => ?_) (fun hb367 => ?_)
              · replace H := ite_t hb367 H
                refine wp_skip ?_
                obtain rfl := some_ok H
                refine then_n ?_
                exact ⟨F366.sub ⟨rfl, trivial⟩, s278⟩
              · replace H := ite_f hb367 H
                refine wp_seq ?_
                refine wp_reg ?_
                refine st_pr F366 (PR.op (ex_eq rfl rfl) <| PR.op (ex_asg rfl) <| PR.nil) fun q370 F371 => ?_
                refine st_end ?_
                refine then_n ?_
                refine wp_if F371 rfl (fun hb372 => ?_) (fun hb372 => ?_)
                · replace H := ite_t hb372 H
                  refine wp_skip ?_
                  obtain rfl := some_ok H
                  refine then_n ?_
                  exact ⟨F371.sub ⟨rfl, trivial⟩, s278⟩
                · replace H := ite_f hb372 H
                  refine wp_seq ?_
                  refine wp_reg ?_
                  refine st_pr F371 (PR.op (ex_eq rfl rfl) <| PR.op (ex_asg rfl) <| PR.nil) fun q375 F376 => ?_
                  refine st_end ?_
                  refine then_n ?_
                  refine wp_if F376 rfl (fun hb377 => ?_) (fun hb377 => ?_)
                  · replace H := ite_t hb377 H
                    refine wp_skip ?_
                    obtain rfl := some_ok H
                    refine then_n ?_
                    exact ⟨F376.sub ⟨rfl, trivial⟩, s278⟩
                  · replace H := ite_f hb377 H
                    refine wp_seq ?_
                    refine wp_reg ?_
                    refine st_pr F376 (PR.op (ex_eq rfl rfl) <| PR.op (ex_asg rfl) <| PR.nil) fun q380 F381 => ?_
                    refine st_end ?_
                    refine then_n ?_
                    refine wp_if F381 rfl (fun hb382 => ?_) (fun hb382 => ?_)
                    · replace H := ite_t hb382 H
                      refine wp_skip ?_
                      obtain rfl := some_ok H
                      refine then_n ?_
                      exact ⟨F381.sub ⟨rfl, trivial⟩, s278⟩
                    · replace H := ite_f hb382 H
                      refine wp_seq ?_
                      refine wp_reg ?_
                      refine st_pr F381 (PR.op (ex_eq rfl rfl) <| PR.op (ex_asg rfl) <| PR.nil) fun q385 F386 => ?_
                      refine st_end ?_
                      refine then_n ?_
                      refine wp_if F386 rfl (fun hb387 => ?_) (fun hb387 => ?_)
                      · replace H := ite_t hb387 H
                        refine wp_skip ?_
                        obtain rfl := some_ok H
                        refine then_n ?_
                        exact ⟨F386.sub ⟨rfl, trivial⟩, s278⟩
                      · replace H := ite_f hb387 H
                        refine wp_seq ?_
                        refine wp_reg ?_
                        refine st_pr F386 (PR.op (ex_eq rfl rfl) <| PR.op (ex_asg rfl) <| PR.nil) fun q390 F391 => ?_
                        refine st_end ?_
                        refine then_n ?_
                        refine wp_if F391 rfl (fun hb392 => ?_) (fun hb392 => ?_)
                        · replace H := ite_t hb392 H
                          refine wp_skip ?_
                          obtain rfl := some_ok H
                          refine then_n ?_
                          exact ⟨F391.sub ⟨rfl, trivial⟩, s278⟩
                        · replace H := ite_f hb392 H
                          refine wp_seq ?_
                          refine wp_reg ?_
                          refine st_pr F391 (PR.op (ex_eq rfl rfl) <| PR.op (ex_asg rfl) <| PR.nil) fun q395 F396 => ?_
                          refine st_end ?_
                          refine then_n ?_
                          refine wp_if F396 rfl (fun hb397 => ?_) (fun hb397 => ?_)
                          · replace H := ite_t hb397 H
                            refine wp_skip ?_
                            obtain rfl := some_ok H
                            refine then_n ?_
                            exact ⟨F396.sub ⟨rfl, trivial⟩, s278⟩
                          · replace H := ite_f hb397 H
                            refine wp_reg ?_
                            refine st_pr F396 (PR.op (ex_eq rfl rfl) <| PR.op (ex_asg rfl) <| PR.nil) fun q398 F399 => ?_
                            refine st_end ?_
                            obtain rfl := some_ok H
                            refine then_n ?_
                            exact ⟨F399.sub ⟨rfl, trivial⟩, s278⟩
            · intro q402 w403 hJ
              obtain ⟨F400, s401⟩ := hJ
              have H := R362
              clear R362 H361
              refine then_n ?_
              refine wp_if F400 rfl (fun hb404 => ?_) (fun hb404 => ?_)
              · replace H := ite_t hb404 H
                refine wp_seq ?_
                refine wp_reg ?_
                refine st_pr F400 (PR.op (ex_asg rfl) <| PR.op (ex_asg rfl) <| PR.nil) fun q407 F408 => ?_
                refine st_end ?_
                refine then_n ?_
                obtain rfl := some_ok H
                refine wp_ret ?_
                refine blk_r <| then_r ?_
                refine ret_gen (rs := [.tmp 2, .tmp 3]) (vs := [.int .i64 1, .int .i64 0]) F408 (by rfl) ⟨_, _, rfl, RV.tmp rfl, _, _, rfl, RV.tmp rfl, rfl⟩ ⟨_, rfl, ⟨rfl, s401⟩⟩
              · replace H := ite_f hb404 H
                refine wp_skip ?_
                refine blk_n ?_
                refine then_n ?_
                refine wp_seq ?_
                refine wp_reg ?_
                refine st_pr F400 (PR.op (ex_asg rfl) <| PR.op (ex_asg rfl) <| PR.nil) fun q411 F412 => ?_
                refine st_end ?_
                refine then_n ?_
                obtain rfl := some_ok H
                refine wp_ret ?_
                refine ret_gen (rs := [.tmp 2, .tmp 3]) (vs := [.int .i64 0, .int .i64 0]) F412 (by rfl) ⟨_, _, rfl, RV.tmp rfl, _, _, rfl, RV.tmp rfl, rfl⟩ ⟨_, rfl, ⟨rfl, s401⟩⟩
end Go.Proofs.Ytmeodoidfpcjlaa
