/- The walk of (*proviso/wire.Reader).next. -/
import Derived.Test.YtpcdphfneidalaaFx
import Derived.Test.YtpcdphfneidalaaDf
import Derived.Test.YtpcdphfneidalaaC55
import Derived.Test.YtpcdphfneidalaaC56
set_option linter.unusedVariables false
set_option linter.unusedSimpArgs false
namespace Go.Proofs.Ytpcdphfneidalaa
open Go Go.RowKit Go.Pv
theorem wire_Reader_next_c {w : World} {FF : List Nat} {g0 : Nat} {v0_0 : Value} {a0 : S_wire_Reader} {a1 : Int} {r : (List UInt8) × Int × S_wire_Reader} (hst : Star [Blk g0 81 [v0_0, .int .i64 a0.at_, .bool a0.made], Sl Ty.u8 v0_0 a0.b] w FF)  (H : wire_Reader_next a0 a1 = some r) :
    Calls Try.prog 53 #[.pointer (some ⟨g0, 0, none⟩), .int .i64 a1] w (Ret fun u_ w_ => ∃ u0 u1 : Value, u_ = .tuple ⟨[u1, .int .i64 r.2.1]⟩ ∧ View Ty.u8 u0 r.2.2.b u1 r.1 ∧ SL w FF w_ [Blk g0 81 [u0, .int .i64 r.2.2.at_, .bool r.2.2.made], Sl Ty.u8 u0 r.2.2.b]) := by
  have s0 : SL w FF w [Blk g0 81 [v0_0, .int .i64 a0.at_, .bool a0.made], Sl Ty.u8 v0_0 a0.b] := SL.init w FF hst
  refine call_enter Try.func53 rfl Try.ntmps53 (Nat.le_of_ble_eq_true rfl) (args := [.pointer (some ⟨g0, 0, none⟩), .int .i64 a1]) fun q0 F0 => ?_
  unfold wire_Reader_next at H
  refine wp_seq ?_
  refine wp_reg ?_
  refine st_pr F0 (PR.op (ex_asg rfl) <| PR.op (ex_asg rfl) <| PR.nil) fun q3 F4 => ?_
  refine st_end ?_
  refine then_n ?_
  refine wp_seq ?_
  refine wp_block ?_
  refine wp_seq ?_
  refine wp_reg ?_
  obtain ⟨x119, hx120, H⟩ := bind_ok H
  refine st_pr F4 (PR.op (ex_move rfl) <| PR.nil) fun q121 F122 => ?_
  have s130 := s0.f1.f1
  obtain ⟨G135, hst131, hF132, hG133, hcl134⟩ := SL.open_ (ps := [Blk g0 81 [v0_0, .int .i64 a0.at_, .bool a0.made], Sl Ty.u8 v0_0 a0.b]) (rest := []) s130
  refine st_call (args := [.tmp 7]) F122 Fx.fn55 rfl (wire_Reader_ready_c (a0 := (⟨a0.b, a0.at_, a0.made⟩ : S_wire_Reader)) hst131  hx120) rfl fun v123 w124 q125 hS127 F126 => ?_
  obtain ⟨rfl, hq129⟩ := hS127
  have s128 := hcl134 _ _ hq129
  refine st_pr F126 (PR.op (ex_not rfl) <| PR.op (ex_asg rfl) <| PR.nil) fun q136 F137 => ?_
  refine st_end ?_
  refine then_n ?_
  refine wp_if F137 rfl (fun hb138 => ?_) (fun hb138 => ?_)
  · replace H := ite_t hb138 H
    refine wp_seq ?_
    refine wp_reg ?_
    refine st_pr F137 (PR.op (ex_asg rfl) <| PR.op (ex_asg rfl) <| PR.nil) fun q141 F142 => ?_
    refine st_end ?_
    refine then_n ?_
    obtain rfl := some_ok H
    refine wp_ret ?_
    refine blk_r <| then_r ?_
    refine ret_gen (rs := [.tmp 4, .tmp 5]) (vs := [.slice none 0 0, .int .i64 8]) F142 (by rfl) ⟨_, _, rfl, RV.tmp rfl, _, _, rfl, RV.tmp rfl, rfl⟩ ⟨_, rfl, ⟨v0_0, (.slice none 0 0), rfl, View.nil, s128⟩⟩
  · replace H := ite_f hb138 H
    refine wp_seq ?_
    refine wp_reg ?_
    refine st_pr F137 (PR.op (ex_move rfl) <| PR.op (ex_lt rfl rfl) <| PR.op (ex_asg rfl) <| PR.nil) fun q145 F146 => ?_
    refine st_end ?_
    refine then_n ?_
    refine wp_if F146 rfl (fun hb147 => ?_) (fun hb147 => ?_)
    · replace H := ite_t hb147 H
      refine wp_seq ?_
      refine wp_reg ?_
      refine st_pr F146 (PR.op (ex_asg rfl) <| PR.op (ex_asg rfl) <| PR.nil) fun q150 F151 => ?_
      refine st_end ?_
      refine then_n ?_
      obtain rfl := some_ok H
      refine wp_ret ?_
      refine blk_r <| then_r ?_
      refine ret_gen (rs := [.tmp 4, .tmp 5]) (vs := [.slice none 0 0, .int .i64 1]) F151 (by rfl) ⟨_, _, rfl, RV.tmp rfl, _, _, rfl, RV.tmp rfl, rfl⟩ ⟨_, rfl, ⟨v0_0, (.slice none 0 0), rfl, View.nil, s128⟩⟩
    · replace H := ite_f hb147 H
      refine wp_seq ?_
      refine wp_reg ?_
      obtain ⟨x171, hx172, H⟩ := bind_ok H
      refine st_pr F146 (PR.op (ex_move rfl) <| PR.op (ex_move rfl) <| PR.nil) fun q173 F174 => ?_
      have s182 := s128.f1.f1
      obtain ⟨G187, hst183, hF184, hG185, hcl186⟩ := SL.open_ (ps := [Blk g0 81 [v0_0, .int .i64 a0.at_, .bool a0.made], Sl Ty.u8 v0_0 a0.b]) (rest := []) s182
      refine st_call (args := [.tmp 15]) F174 Fx.fn56 rfl (wire_Reader_Left_c (a0 := (⟨a0.b, a0.at_, a0.made⟩ : S_wire_Reader)) hst183  hx172) rfl fun v175 w176 q177 hS179 F178 => ?_
      obtain ⟨rfl, hq181⟩ := hS179
      have s180 := hcl186 _ _ hq181
      refine st_pr F178 (PR.op (ex_gt rfl rfl) <| PR.op (ex_asg rfl) <| PR.nil) fun q188 F189 => ?_
      refine st_end ?_
      refine then_n ?_
      refine wp_if F189 rfl (fun hb190 => ?_) (fun hb190 => ?_)
      · replace H := ite_t hb190 H
        refine wp_seq ?_
        refine wp_reg ?_
        refine st_pr F189 (PR.op (ex_asg rfl) <| PR.op (ex_asg rfl) <| PR.nil) fun q193 F194 => ?_
        refine st_end ?_
        refine then_n ?_
        obtain rfl := some_ok H
        refine wp_ret ?_
        refine blk_r <| then_r ?_
        refine ret_gen (rs := [.tmp 4, .tmp 5]) (vs := [.slice none 0 0, .int .i64 2]) F194 (by rfl) ⟨_, _, rfl, RV.tmp rfl, _, _, rfl, RV.tmp rfl, rfl⟩ ⟨_, rfl, ⟨v0_0, (.slice none 0 0), rfl, View.nil, s180⟩⟩
      · replace H := ite_f hb190 H
        refine wp_skip ?_
        refine blk_n ?_
        refine then_n ?_
        refine wp_seq ?_
        refine wp_reg ?_
        refine st_pr F189 (PR.op (ex_move rfl) <| PR.op (ex_nilcheck rfl) <| PR.op (ex_fab Fx.fa81_1 rfl rfl) <| PR.op (ex_ld Fx.nag3 rfl (s180.blk_cell (.head _) rfl)) <| PR.op (ex_move rfl) <| PR.op (ex_add rfl rfl) <| PR.op (ex_nilcheck rfl) <| PR.op (ex_fab Fx.fa81_1 rfl rfl) <| PR.nil) fun q202 F203 => ?_
        have s208 := s180
        refine st_store F203 s208 rfl rfl Fx.sz3 rfl rfl rfl fun w204 q205 F206 s207 => ?_
        replace s207 : SL w FF w204 [Blk g0 81 [v0_0, .int .i64 (wr (a0.at_ + a1)), .bool a0.made], Sl Ty.u8 v0_0 a0.b] := s207
        refine st_end ?_
        refine then_n ?_
        refine wp_seq ?_
        obtain ⟨x218, hx219, H⟩ := bind_ok H
        obtain ⟨v220, hsc221, hv222⟩ := cut_view (s207.own_rd (.tail _ <| .head _)) Fx.sl22 rfl hx219 (some (wr ((wr (a0.at_ + a1)) - a1))) (some (wr (a0.at_ + a1))) (.inl rfl) (.inl rfl)
        refine wp_regq (fun w_ => SL w FF w_ [Blk g0 81 [v0_0, .int .i64 (wr (a0.at_ + a1)), .bool a0.made], Sl Ty.u8 v0_0 a0.b]) Fx.mixed (by kernel_rfl) s207.drew F206 (QR.op (fun _ hC => ex_move rfl) <| QR.op (fun _ hC => ex_nilcheck rfl) <| QR.op (fun _ hC => ex_fab Fx.fa81_0 rfl rfl) <| QR.op (fun _ hC => ex_ld Fx.nag22 rfl (hC.blk_cell (.head _) rfl)) <| QR.op (fun _ hC => ex_move rfl) <| QR.op (fun _ hC => ex_nilcheck rfl) <| QR.op (fun _ hC => ex_fab Fx.fa81_1 rfl rfl) <| QR.op (fun _ hC => ex_ld Fx.nag3 rfl (hC.blk_cell (.head _) rfl)) <| QR.op (fun _ hC => ex_move rfl) <| QR.op (fun _ hC => ex_sub rfl rfl) <| QR.op (fun _ hC => ex_move rfl) <| QR.op (fun _ hC => ex_nilcheck rfl) <| QR.op (fun _ hC => ex_fab Fx.fa81_1 rfl rfl) <| QR.op (fun _ hC => ex_ld Fx.nag3 rfl (hC.blk_cell (.head _) rfl)) <| QR.op (fun _ hC => hsc221 _ _ _ _ _ .i64 .i64 _ _ _ _ _ rfl rfl rfl) <| QR.op (fun _ hC => ex_asg rfl) <| QR.op (fun _ hC => ex_asg rfl) <| QR.nil) fun w226 q224 s223 F225 => ?_
        refine then_n ?_
        obtain rfl := some_ok H
        refine wp_ret ?_
        refine ret_gen (rs := [.tmp 4, .tmp 5]) (vs := [v220, .int .i64 0]) F225 (by rfl) ⟨_, _, rfl, RV.tmp rfl, _, _, rfl, RV.tmp rfl, rfl⟩ ⟨_, rfl, ⟨v0_0, v220, rfl, hv222, s223⟩⟩
end Go.Proofs.Ytpcdphfneidalaa
