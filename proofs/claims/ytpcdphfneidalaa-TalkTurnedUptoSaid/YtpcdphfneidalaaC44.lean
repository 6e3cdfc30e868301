/- The walk of (*proviso/wire.Writer).number. -/
import Derived.Test.YtpcdphfneidalaaFx
import Derived.Test.YtpcdphfneidalaaDf
import Derived.Test.YtpcdphfneidalaaC45
import Derived.Test.YtpcdphfneidalaaC46
set_option linter.unusedVariables false
set_option linter.unusedSimpArgs false
namespace Go.Proofs.Ytpcdphfneidalaa
open Go Go.RowKit Go.Pv
theorem wire_Writer_number_c {w : World} {FF : List Nat} {g0 : Nat} {v0_0 : Value} {a0 : S_wire_Writer} {a1 : Int} {a2 : Int} {a3 : Int} {a4 : Int} {r : Int × S_wire_Writer} (hst : Star [Blk g0 75 [v0_0, .bool a0.made], Sl Ty.u8 v0_0 a0.b] w FF)  (H : wire_Writer_number a0 a1 a2 a3 a4 = some r) :
    Calls Try.prog 44 #[.pointer (some ⟨g0, 0, none⟩), .int .i64 a1, .int .i64 a2, .int .i64 a3, .int .i64 a4] w (Ret fun u_ w_ => ∃ u0 : Value, u_ = .int .i64 r.1 ∧ SL w FF w_ [Blk g0 75 [u0, .bool r.2.made], Sl Ty.u8 u0 r.2.b]) := by
  have s0 : SL w FF w [Blk g0 75 [v0_0, .bool a0.made], Sl Ty.u8 v0_0 a0.b] := SL.init w FF hst
  refine call_enter Try.func44 rfl Try.ntmps44 (Nat.le_of_ble_eq_true rfl) (args := [.pointer (some ⟨g0, 0, none⟩), .int .i64 a1, .int .i64 a2, .int .i64 a3, .int .i64 a4]) fun q0 F0 => ?_
  unfold wire_Writer_number at H
  refine wp_seq ?_
  refine wp_reg ?_
  refine st_pr F0 (PR.op (ex_asg rfl) <| PR.nil) fun q3 F4 => ?_
  refine st_end ?_
  refine then_n ?_
  refine wp_seq ?_
  refine wp_block ?_
  refine wp_seq ?_
  refine wp_reg ?_
  obtain ⟨x95, hx96, H⟩ := bind_ok H
  refine st_pr F4 (PR.op (ex_move rfl) <| PR.nil) fun q97 F98 => ?_
  have s106 := s0.f1.f1
  obtain ⟨G111, hst107, hF108, hG109, hcl110⟩ := SL.open_ (ps := [Blk g0 75 [v0_0, .bool a0.made], Sl Ty.u8 v0_0 a0.b]) (rest := []) s106
  refine st_call (args := [.tmp 14]) F98 Fx.fn45 rfl (wire_Writer_ready_c (a0 := (⟨a0.b, a0.made⟩ : S_wire_Writer)) hst107  hx96) rfl fun v99 w100 q101 hS103 F102 => ?_
  obtain ⟨rfl, hq105⟩ := hS103
  have s104 := hcl110 _ _ hq105
  refine st_pr F102 (PR.op (ex_not rfl) <| PR.op (ex_asg rfl) <| PR.nil) fun q112 F113 => ?_
  refine st_end ?_
  refine then_n ?_
  refine wp_if F113 rfl (fun hb114 => ?_) (fun hb114 => ?_)
  · replace H := ite_t hb114 H
    refine wp_seq ?_
    refine wp_reg ?_
    refine st_pr F113 (PR.op (ex_asg rfl) <| PR.nil) fun q117 F118 => ?_
    refine st_end ?_
    refine then_n ?_
    obtain rfl := some_ok H
    refine wp_ret ?_
    refine blk_r <| then_r ?_
    refine ret_gen (rs := [.tmp 10]) (vs := [.int .i64 8]) F118 (by rfl) ⟨_, _, rfl, RV.tmp rfl, rfl⟩ ⟨_, rfl, ⟨v0_0, rfl, s104⟩⟩
  · replace H := ite_f hb114 H
    refine wp_seq ?_
    refine wp_reg ?_
    refine st_pr F113 (PR.op (ex_move rfl) <| PR.op (ex_move rfl) <| PR.op (ex_lt rfl rfl) <| PR.op (ex_move rfl) <| PR.nil) fun q119 F120 => ?_
    refine bool_split (decide (a1 < a2)) (fun hb121 => ?_) (fun hb121 => ?_)
    · replace H := ite_t hb121 H
      refine st_gskip F120 rfl rfl (look_b rfl hb121) Bool.noConfusion rfl rfl fun q122 F123 => ?_
      refine st_gskip F123 rfl rfl (look_b rfl hb121) Bool.noConfusion rfl rfl fun q124 F125 => ?_
      refine st_gskip F125 rfl rfl (look_b rfl hb121) Bool.noConfusion rfl rfl fun q126 F127 => ?_
      refine st_pr F127 (PR.op (ex_pick_t (ev_b rfl hb121) rfl) <| PR.op (ex_asg rfl) <| PR.nil) fun q128 F129 => ?_
      refine st_end ?_
      refine then_n ?_
      refine wp_if_t F129 rfl ?_
      refine wp_seq ?_
      refine wp_reg ?_
      refine st_pr F129 (PR.op (ex_asg rfl) <| PR.nil) fun q132 F133 => ?_
      refine st_end ?_
      refine then_n ?_
      obtain rfl := some_ok H
      refine wp_ret ?_
      refine blk_r <| then_r ?_
      refine ret_gen (rs := [.tmp 10]) (vs := [.int .i64 5]) F133 (by rfl) ⟨_, _, rfl, RV.tmp rfl, rfl⟩ ⟨_, rfl, ⟨v0_0, rfl, s104⟩⟩
    · replace H := ite_f hb121 H
      refine st_gop F120 rfl rfl (look_b rfl hb121) (ex_move rfl) rfl rfl fun q134 F135 => ?_
      refine st_gop F135 rfl rfl (look_b rfl hb121) (ex_move rfl) rfl rfl fun q136 F137 => ?_
      refine st_gop F137 rfl rfl (look_b rfl hb121) (ex_gt rfl rfl) rfl rfl fun q138 F139 => ?_
      refine st_pr F139 (PR.op (ex_pick_f (ev_b rfl hb121) rfl) <| PR.op (ex_asg rfl) <| PR.nil) fun q140 F141 => ?_
      refine st_end ?_
      refine then_n ?_
      refine wp_if F141 rfl (fun hb142 => ?_) (fun hb142 => ?_)
      · replace H := ite_t hb142 H
        refine wp_seq ?_
        refine wp_reg ?_
        refine st_pr F141 (PR.op (ex_asg rfl) <| PR.nil) fun q145 F146 => ?_
        refine st_end ?_
        refine then_n ?_
        obtain rfl := some_ok H
        refine wp_ret ?_
        refine blk_r <| then_r ?_
        refine ret_gen (rs := [.tmp 10]) (vs := [.int .i64 5]) F146 (by rfl) ⟨_, _, rfl, RV.tmp rfl, rfl⟩ ⟨_, rfl, ⟨v0_0, rfl, s104⟩⟩
      · replace H := ite_f hb142 H
        refine wp_skip ?_
        refine blk_n ?_
        refine then_n ?_
        refine wp_seq ?_
        refine wp_reg ?_
        refine st_alloc_arr (e := 5) Flat.u8 4 (0 : UInt8) F141 s104 Fx.zero84 rfl fun g153 w154 q155 F156 s157 => ?_
        refine st_end ?_
        refine then_n ?_
        refine wp_seq ?_
        refine wp_seq ?_
        refine wp_reg ?_
        refine st_pr F156 (PR.op (ex_move rfl) <| PR.op (ex_move rfl) <| PR.nil) fun q470 F471 => ?_
        refine st_end ?_
        refine then_n ?_
        obtain ⟨o621, H622, R623⟩ := bind_ok H
        clear H
        refine wp_cutn (fun a w_ => Fr a 46 [(0, .pointer (some ⟨g0, 0, none⟩)), (4, .int .i64 a4), (11, .pointer (some ⟨g153, 0, none⟩))] ∧ SL w FF w_ [Sl Ty.u8 (arV g153 4) o621, Blk g0 75 [v0_0, .bool a0.made], Sl Ty.u8 v0_0 a0.b]) ?_ ?_
        · have H := H622
          refine wp_block ?_
          refine wp_lp (wire_Writer_number_b0 a1 a4) (fun s624 a w_ => Fr a 46 [(0, .pointer (some ⟨g0, 0, none⟩)), (1, .int .i64 a1), (4, .int .i64 a4), (11, .pointer (some ⟨g153, 0, none⟩)), (26, .int .i64 a4), (27, .int .i64 s624.2)] ∧ SL w FF w_ [Sl Ty.u8 (arV g153 4) s624.1, Blk g0 75 [v0_0, .bool a0.made], Sl Ty.u8 v0_0 a0.b]) H ?_ ?_
          · exact ⟨F471.sub ⟨rfl, rfl, rfl, rfl, rfl, rfl, trivial⟩, s157⟩
          · intro s624 q736 w737 hI738 o735 H hr
            obtain ⟨F733, s734⟩ := hI738
            replace H : wire_Writer_number_b0 a1 a4 s624 = some o735 := H
            unfold wire_Writer_number_b0 at H
            refine wp_seq ?_
            refine wp_reg ?_
            refine st_pr F733 (PR.op (ex_lt rfl rfl) <| PR.nil) fun q741 F742 => ?_
            refine st_end ?_
            refine then_n ?_
            refine wp_seq ?_
            refine wp_if F742 rfl (fun hb744 => ?_) (fun hb744 => ?_)
            · replace H := ite_t hb744 H
              refine wp_skip ?_
              refine then_n ?_
              refine wp_seq ?_
              refine wp_block ?_
              refine wp_seq ?_
              refine wp_reg ?_
              refine st_pr F742 (PR.op (ex_move rfl) <| PR.op (ex_asg rfl) <| PR.nil) fun q760 F761 => ?_
              refine st_end ?_
              refine then_n ?_
              refine wp_reg ?_
              obtain ⟨hz762, H⟩ := none_else H
              obtain ⟨x763, hx764, H⟩ := bind_ok H
              refine st_pr F761 (PR.op (ex_move rfl) <| PR.op (ex_move rfl) <| PR.op (ex_conv rfl Try.underlying3 Try.underlying79) <| PR.op (ex_move rfl) <| PR.op (ex_sub rfl rfl) <| PR.op (ex_move rfl) <| PR.op (ex_sub rfl rfl) <| PR.op (ex_mul rfl rfl) <| PR.op (ex_shr rfl rfl hz762) <| PR.op (ex_cv8 rfl Try.underlying79 Try.underlying5) <| PR.op (ex_ixarr (T := Ty.u8) Fx.ar84 rfl s734 (.head _) hx764 rfl rfl) <| PR.nil) fun q765 F766 => ?_
              refine st_setel (y' := toU8 (sShr .u32 (IntKind.u32.wrap a1) (wr (8 * (wr ((wr (a4 - 1)) - s624.2)))))) Flat.u8 F766 s734 elAt_arr hx764 rfl rfl (by rfl) Fx.sz5 fun w767 q768 F769 s770 => ?_
              refine st_end ?_
              refine blk_n ?_
              refine then_n ?_
              refine wp_reg ?_
              refine st_pr F769 (PR.op (ex_add rfl rfl) <| PR.op (ex_move rfl) <| PR.nil) fun q771 F772 => ?_
              refine st_end ?_
              obtain rfl := some_ok H
              refine then_n ?_
              exact ⟨_, rfl, F772.sub ⟨rfl, rfl, rfl, rfl, rfl, rfl, trivial⟩, s770⟩
            · replace H := ite_f hb744 H
              refine wp_exit ?_
              refine then_x <| then_x <| blk_hit ?_
              obtain rfl := some_ok H
              obtain rfl := hr _ rfl
              refine then_n ?_
              exact ⟨F742.sub ⟨rfl, rfl, rfl, trivial⟩, s734⟩
        · intro q775 w776 hJ
          obtain ⟨F773, s774⟩ := hJ
          have H := R623
          clear R623 H622
          refine then_n ?_
          refine wp_seq ?_
          refine wp_reg ?_
          obtain ⟨x803, hx804, H⟩ := bind_ok H
          obtain ⟨v805, hsc806, hv807⟩ := arr_cut s774 (.head _) Fx.ar84 rfl hx804 none (some a4) (.inr ⟨rfl, rfl⟩) (.inl rfl)
          obtain ⟨x808, hx809, H⟩ := bind_ok H
          refine st_pr F773 (PR.op (ex_move rfl) <| PR.op (ex_move rfl) <| PR.op (hsc806 _ _ _ _ _ .i64 .i64 _ _ _ _ _ rfl trivial rfl) <| PR.nil) fun q810 F811 => ?_
          have s819 := s774.f2.f2
          obtain ⟨G824, hst820, hF821, hG822, hcl823⟩ := SL.open_ (ps := [Blk g0 75 [v0_0, .bool a0.made], Sl Ty.u8 v0_0 a0.b]) (rest := [Sl Ty.u8 (arV g153 4) o621]) s819
          refine st_call (args := [.tmp 42, .tmp 44]) F811 Fx.fn46 rfl (wire_Writer_put_c (a0 := (⟨a0.b, a0.made⟩ : S_wire_Writer)) (a1 := x803) hst820 (hv807.rd (rd_of_own (.head _) hG822)) hx809) rfl fun v812 w813 q814 hS816 F815 => ?_
          obtain ⟨v825, rfl, hq818⟩ := hS816
          have s817 := hcl823 _ _ hq818
          refine st_pr F815 (PR.op (ex_asg rfl) <| PR.nil) fun q827 F828 => ?_
          refine st_end ?_
          refine then_n ?_
          obtain rfl := some_ok H
          refine wp_ret ?_
          refine ret_gen (rs := [.tmp 10]) (vs := [.int .i64 x808.1]) F828 (by rfl) ⟨_, _, rfl, RV.tmp rfl, rfl⟩ ⟨_, rfl, ⟨v825, rfl, s817.f2.drop⟩⟩
end Go.Proofs.Ytpcdphfneidalaa
