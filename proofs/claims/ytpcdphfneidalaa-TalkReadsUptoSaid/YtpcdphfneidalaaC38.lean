/- The walk of proviso/talk.fault. -/
import Derived.Test.YtpcdphfneidalaaFx
import Derived.Test.YtpcdphfneidalaaDf
import Derived.Test.YtpcdphfneidalaaC39
import Derived.Test.YtpcdphfneidalaaC48
import Derived.Test.YtpcdphfneidalaaC51
set_option linter.unusedVariables false
set_option linter.unusedSimpArgs false
namespace Go.Proofs.Ytpcdphfneidalaa
open Go Go.RowKit Go.Pv
theorem talk_fault_c {w : World} {v0 : Value} {a0 : List UInt8} {a1 : UInt8} {a2 : Int} {r : Int} (hr0 : Rd Ty.u8 w [] v0 a0) (H : talk_fault a0 a1 a2 = some r) :
    Calls Try.prog 38 #[v0, .int .u8 (a1.toNat : Int), .int .i64 a2] w (Ret fun u_ w_ => u_ = .int .i64 r ∧ SL w [] w_ []) := by
  have s0 : SL w [] w [] := SL.init0 w
  refine call_enter Try.func38 rfl Try.ntmps38 (Nat.le_of_ble_eq_true rfl) (args := [v0, .int .u8 (a1.toNat : Int), .int .i64 a2]) fun q0 F0 => ?_
  unfold talk_fault at H
  refine wp_seq ?_
  refine wp_reg ?_
  refine st_pr F0 (PR.op (ex_asg rfl) <| PR.nil) fun q3 F4 => ?_
  refine st_end ?_
  refine then_n ?_
  refine wp_scope_fwd 0 rfl ?_
  refine wp_seq ?_
  refine wp_reg ?_
  refine st_pr F4 (PR.op (ex_asg rfl) <| PR.nil) fun q7 F8 => ?_
  refine st_end ?_
  refine then_n ?_
  refine wp_seq ?_
  refine wp_reg ?_
  refine st_pr F8 (PR.op (ex_asg rfl) <| PR.nil) fun q11 F12 => ?_
  refine st_end ?_
  refine then_n ?_
  refine wp_seq ?_
  refine wp_seq ?_
  refine wp_reg ?_
  refine st_pr F12 (PR.op (ex_move rfl) <| PR.op (ex_len rfl Try.underlying22 (formL (rdL hr0 s0))) <| PR.op (ex_eq rfl rfl) <| PR.nil) fun q24 F25 => ?_
  refine st_end ?_
  refine then_n ?_
  refine wp_if F25 rfl (fun hb26 => ?_) (fun hb26 => ?_)
  · replace H := ite_t hb26 H
    refine wp_seq ?_
    refine wp_reg ?_
    refine st_pr F25 (PR.op (ex_asg rfl) <| PR.nil) fun q29 F30 => ?_
    refine st_end ?_
    refine then_n ?_
    obtain rfl := some_ok H
    refine wp_ret ?_
    refine then_r <| jmp_r ?_
    refine ret_gen (rs := [.tmp 6]) (vs := [.int .i64 2]) F30 (by rfl) ⟨_, _, rfl, RV.tmp rfl, rfl⟩ ⟨_, rfl, ⟨rfl, s0⟩⟩
  · replace H := ite_f hb26 H
    refine wp_skip ?_
    refine then_n ?_
    refine wp_seq ?_
    refine wp_seq ?_
    refine wp_reg ?_
    obtain ⟨x57, hx58, H⟩ := bind_ok H
    obtain ⟨ad59, hi60, hc61⟩ := idxL Flat.u8 (rdL hr0 s0) Fx.sl22 rfl hx58
    refine st_pr F25 (PR.op (ex_move rfl) <| PR.op (hi60 _ _ _ _ _ _ _ _ _ _ rfl rfl) <| PR.op (ex_ld Fx.nag5 rfl (Cells.at_ hc61 (o := 0) rfl)) <| PR.op (ex_move rfl) <| PR.op (ex_ne rfl rfl) <| PR.nil) fun q62 F63 => ?_
    refine st_end ?_
    refine then_n ?_
    refine wp_if F63 rfl (fun hb64 => ?_) (fun hb64 => ?_)
    · replace H := ite_t hb64 H
      refine wp_seq ?_
      refine wp_reg ?_
      refine st_pr F63 (PR.op (ex_asg rfl) <| PR.nil) fun q67 F68 => ?_
      refine st_end ?_
      refine then_n ?_
      refine wp_goto ?_
      refine then_g <| jmp_hit ?_
      refine wp_seq ?_
      refine wp_skip ?_
      refine then_n ?_
      refine wp_seq ?_
      refine wp_reg ?_
      refine st_pr F68 (PR.op (ex_move rfl) <| PR.op (ex_asg rfl) <| PR.nil) fun q71 F72 => ?_
      refine st_end ?_
      refine then_n ?_
      obtain rfl := some_ok H
      refine wp_ret ?_
      refine nog_r ?_
      refine ret_gen (rs := [.tmp 6]) (vs := [.int .i64 240]) F72 (by rfl) ⟨_, _, rfl, RV.tmp rfl, rfl⟩ ⟨_, rfl, ⟨rfl, s0⟩⟩
    · replace H := ite_f hb64 H
      refine wp_skip ?_
      refine then_n ?_
      refine wp_seq ?_
      refine wp_seq ?_
      refine wp_reg ?_
      refine st_pr F63 (PR.op (ex_move rfl) <| PR.op (ex_len rfl Try.underlying22 (formL (rdL hr0 s0))) <| PR.op (ex_move rfl) <| PR.op (ex_lt rfl rfl) <| PR.nil) fun q84 F85 => ?_
      refine st_end ?_
      refine then_n ?_
      refine wp_if F85 rfl (fun hb86 => ?_) (fun hb86 => ?_)
      · replace H := ite_t hb86 H
        refine wp_seq ?_
        refine wp_reg ?_
        refine st_pr F85 (PR.op (ex_asg rfl) <| PR.nil) fun q89 F90 => ?_
        refine st_end ?_
        refine then_n ?_
        refine wp_goto ?_
        refine then_g <| jmp_hit ?_
        refine wp_seq ?_
        refine wp_skip ?_
        refine then_n ?_
        refine wp_seq ?_
        refine wp_reg ?_
        refine st_pr F90 (PR.op (ex_move rfl) <| PR.op (ex_asg rfl) <| PR.nil) fun q93 F94 => ?_
        refine st_end ?_
        refine then_n ?_
        obtain rfl := some_ok H
        refine wp_ret ?_
        refine nog_r ?_
        refine ret_gen (rs := [.tmp 6]) (vs := [.int .i64 2]) F94 (by rfl) ⟨_, _, rfl, RV.tmp rfl, rfl⟩ ⟨_, rfl, ⟨rfl, s0⟩⟩
      · replace H := ite_f hb86 H
        refine wp_skip ?_
        refine then_n ?_
        refine wp_seq ?_
        refine wp_reg ?_
        obtain ⟨x102, hx103, H⟩ := bind_ok H
        obtain ⟨ad104, hi105, hc106⟩ := idxL Flat.u8 (rdL hr0 s0) Fx.sl22 rfl hx103
        refine st_pr F85 (PR.op (ex_move rfl) <| PR.op (ex_move rfl) <| PR.op (ex_move rfl) <| PR.op (ex_sub rfl rfl) <| PR.op (hi105 _ _ _ _ _ _ _ _ _ _ rfl rfl) <| PR.op (ex_ld Fx.nag5 rfl (Cells.at_ hc106 (o := 0) rfl)) <| PR.op (ex_cv864 rfl Try.underlying5 Try.underlying3) <| PR.op (ex_add rfl rfl) <| PR.op (ex_add rfl rfl) <| PR.op (ex_asg rfl) <| PR.nil) fun q107 F108 => ?_
        refine st_end ?_
        refine then_n ?_
        refine wp_seq ?_
        refine wp_seq ?_
        refine wp_reg ?_
        refine st_pr F108 (PR.op (ex_move rfl) <| PR.op (ex_len rfl Try.underlying22 (formL (rdL hr0 s0))) <| PR.op (ex_move rfl) <| PR.op (ex_lt rfl rfl) <| PR.nil) fun q120 F121 => ?_
        refine st_end ?_
        refine then_n ?_
        refine wp_if F121 rfl (fun hb122 => ?_) (fun hb122 => ?_)
        · replace H := ite_t hb122 H
          refine wp_seq ?_
          refine wp_reg ?_
          refine st_pr F121 (PR.op (ex_asg rfl) <| PR.nil) fun q125 F126 => ?_
          refine st_end ?_
          refine then_n ?_
          refine wp_goto ?_
          refine then_g <| jmp_hit ?_
          refine wp_seq ?_
          refine wp_skip ?_
          refine then_n ?_
          refine wp_seq ?_
          refine wp_reg ?_
          refine st_pr F126 (PR.op (ex_move rfl) <| PR.op (ex_asg rfl) <| PR.nil) fun q129 F130 => ?_
          refine st_end ?_
          refine then_n ?_
          obtain rfl := some_ok H
          refine wp_ret ?_
          refine nog_r ?_
          refine ret_gen (rs := [.tmp 6]) (vs := [.int .i64 2]) F130 (by rfl) ⟨_, _, rfl, RV.tmp rfl, rfl⟩ ⟨_, rfl, ⟨rfl, s0⟩⟩
        · replace H := ite_f hb122 H
          refine wp_skip ?_
          refine then_n ?_
          refine wp_seq ?_
          refine wp_seq ?_
          refine wp_reg ?_
          refine st_pr F121 (PR.op (ex_move rfl) <| PR.op (ex_len rfl Try.underlying22 (formL (rdL hr0 s0))) <| PR.op (ex_move rfl) <| PR.op (ex_gt rfl rfl) <| PR.nil) fun q142 F143 => ?_
          refine st_end ?_
          refine then_n ?_
          refine wp_if F143 rfl (fun hb144 => ?_) (fun hb144 => ?_)
          · replace H := ite_t hb144 H
            refine wp_seq ?_
            refine wp_reg ?_
            refine st_pr F143 (PR.op (ex_asg rfl) <| PR.nil) fun q147 F148 => ?_
            refine st_end ?_
            refine then_n ?_
            refine wp_goto ?_
            refine then_g <| jmp_hit ?_
            refine wp_seq ?_
            refine wp_skip ?_
            refine then_n ?_
            refine wp_seq ?_
            refine wp_reg ?_
            refine st_pr F148 (PR.op (ex_move rfl) <| PR.op (ex_asg rfl) <| PR.nil) fun q151 F152 => ?_
            refine st_end ?_
            refine then_n ?_
            obtain rfl := some_ok H
            refine wp_ret ?_
            refine nog_r ?_
            refine ret_gen (rs := [.tmp 6]) (vs := [.int .i64 3]) F152 (by rfl) ⟨_, _, rfl, RV.tmp rfl, rfl⟩ ⟨_, rfl, ⟨rfl, s0⟩⟩
          · replace H := ite_f hb144 H
            refine wp_skip ?_
            refine then_n ?_
            refine wp_seq ?_
            refine wp_seq ?_
            refine wp_reg ?_
            obtain ⟨x309, hx310, H⟩ := bind_ok H
            obtain ⟨v311, hsc312, hv313⟩ := Rd.cut hr0 Fx.sl22 rfl hx310 (some (wr ((wr ((wr (a2 + (x102.toNat : Int))) + 4)) - 4))) none (.inl rfl) (.inr ⟨rfl, rfl⟩)
            obtain ⟨x314, hx315, H⟩ := bind_ok H
            refine st_pr F143 (PR.op (ex_move rfl) <| PR.op (ex_move rfl) <| PR.op (ex_sub rfl rfl) <| PR.op (hsc312 _ _ _ _ _ .i64 .i64 _ _ _ _ _ rfl rfl trivial) <| PR.nil) fun q316 F317 => ?_
            refine st_call (args := [.tmp 44]) F317 Fx.fn39 rfl (wire_Over_c (a0 := x309)  (hv313.pass0 s0) hx315) rfl fun v318 w319 q320 hS322 F321 => ?_
            obtain ⟨g325, v327, rfl, hq324⟩ := hS322
            have s323 := s0.add hq324
            obtain ⟨x329, hx330, H⟩ := bind_ok H
            have s338 := s323.f1.f1
            obtain ⟨G343, hst339, hF340, hG341, hcl342⟩ := SL.open_ (ps := [Blk g325 81 [v327, .int .i64 x314.at_, .bool x314.made], Sl Ty.u8 v327 x314.b]) (rest := []) s338
            refine st_call (args := [.tmp 45]) F321 Fx.fn51 rfl (wire_Reader_Long_c (a0 := (⟨x314.b, x314.at_, x314.made⟩ : S_wire_Reader)) hst339  hx330) rfl fun v331 w332 q333 hS335 F334 => ?_
            obtain ⟨v344, rfl, hq337⟩ := hS335
            have s336 := hcl342 _ _ hq337
            refine st_pr F334 (PR.op (ex_move rfl) <| PR.op (ex_extract (v := .int .i64 x329.1) rfl rfl) <| PR.op (ex_extract (v := .int .i64 x329.2.1) rfl rfl) <| PR.op (ex_asg rfl) <| PR.op (ex_asg rfl) <| PR.nil) fun q346 F347 => ?_
            refine st_end ?_
            refine then_n ?_
            refine wp_seq ?_
            refine wp_reg ?_
            obtain ⟨x366, hx367, H⟩ := bind_ok H
            obtain ⟨v368, hsc369, hv370⟩ := Rd.cut hr0 Fx.sl22 rfl hx367 none (some (wr ((wr ((wr (a2 + (x102.toNat : Int))) + 4)) - 4))) (.inr ⟨rfl, rfl⟩) (.inl rfl)
            obtain ⟨x371, hx372, H⟩ := bind_ok H
            refine st_pr F347 (PR.op (ex_move rfl) <| PR.op (ex_conv rfl Try.underlying3 Try.underlying79) <| PR.op (ex_conv rfl Try.underlying79 Try.underlying3) <| PR.op (ex_move rfl) <| PR.op (ex_move rfl) <| PR.op (ex_sub rfl rfl) <| PR.op (hsc369 _ _ _ _ _ .i64 .i64 _ _ _ _ _ rfl trivial rfl) <| PR.nil) fun q373 F374 => ?_
            refine st_call (args := [.tmp 55]) F374 Fx.fn48 rfl (wire_Sum_c (a0 := x366)  (hv370.pass0 s336) hx372) rfl fun v375 w376 q377 hS379 F378 => ?_
            obtain ⟨rfl, hq381⟩ := hS379
            have s380 := s336.add hq381
            refine st_pr F378 (PR.op (ex_ne rfl rfl) <| PR.nil) fun q382 F383 => ?_
            refine st_end ?_
            refine then_n ?_
            refine wp_if F383 rfl (fun hb384 => ?_) (fun hb384 => ?_)
            · replace H := ite_t hb384 H
              refine wp_reg ?_
              refine st_pr F383 (PR.op (ex_asg rfl) <| PR.nil) fun q385 F386 => ?_
              refine st_end ?_
              refine then_n ?_
              refine wp_seq ?_
              refine wp_label ?_
              refine then_n ?_
              refine wp_seq ?_
              refine wp_reg ?_
              refine st_pr F386 (PR.op (ex_move rfl) <| PR.op (ex_asg rfl) <| PR.nil) fun q389 F390 => ?_
              refine st_end ?_
              refine then_n ?_
              obtain rfl := some_ok H
              refine wp_ret ?_
              refine jmp_r ?_
              refine ret_gen (rs := [.tmp 6]) (vs := [.int .i64 161]) F390 (by rfl) ⟨_, _, rfl, RV.tmp rfl, rfl⟩ ⟨_, rfl, ⟨rfl, s380.drop.drop⟩⟩
            · replace H := ite_f hb384 H
              refine wp_skip ?_
              refine then_n ?_
              refine wp_seq ?_
              refine wp_label ?_
              refine then_n ?_
              refine wp_seq ?_
              refine wp_reg ?_
              refine st_pr F383 (PR.op (ex_move rfl) <| PR.op (ex_asg rfl) <| PR.nil) fun q393 F394 => ?_
              refine st_end ?_
              refine then_n ?_
              obtain rfl := some_ok H
              refine wp_ret ?_
              refine jmp_r ?_
              refine ret_gen (rs := [.tmp 6]) (vs := [.int .i64 0]) F394 (by rfl) ⟨_, _, rfl, RV.tmp rfl, rfl⟩ ⟨_, rfl, ⟨rfl, s380.drop.drop⟩⟩
end Go.Proofs.Ytpcdphfneidalaa
