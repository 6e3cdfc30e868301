/- The walk of (*proviso/wire.Reader).number. -/
import Derived.Test.YtpcdphfneidalaaFx
import Derived.Test.YtpcdphfneidalaaDf
import Derived.Test.YtpcdphfneidalaaC53
set_option linter.unusedVariables false
set_option linter.unusedSimpArgs false
namespace Go.Proofs.Ytpcdphfneidalaa
open Go Go.RowKit Go.Pv
theorem wire_Reader_number_c {w : World} {FF : List Nat} {g0 : Nat} {v0_0 : Value} {a0 : S_wire_Reader} {a1 : Int} {r : Int × Int × S_wire_Reader} (hst : Star [Blk g0 81 [v0_0, .int .i64 a0.at_, .bool a0.made], Sl Ty.u8 v0_0 a0.b] w FF)  (H : wire_Reader_number a0 a1 = some r) :
    Calls Try.prog 52 #[.pointer (some ⟨g0, 0, none⟩), .int .i64 a1] w (Ret fun u_ w_ => ∃ u0 : Value, u_ = .tuple ⟨[.int .u32 r.1, .int .i64 r.2.1]⟩ ∧ SL w FF w_ [Blk g0 81 [u0, .int .i64 r.2.2.at_, .bool r.2.2.made], Sl Ty.u8 u0 r.2.2.b]) := by
  have s0 : SL w FF w [Blk g0 81 [v0_0, .int .i64 a0.at_, .bool a0.made], Sl Ty.u8 v0_0 a0.b] := SL.init w FF hst
  refine call_enter Try.func52 rfl Try.ntmps52 (Nat.le_of_ble_eq_true rfl) (args := [.pointer (some ⟨g0, 0, none⟩), .int .i64 a1]) fun q0 F0 => ?_
  unfold wire_Reader_number at H
  refine wp_seq ?_
  refine wp_reg ?_
  refine st_pr F0 (PR.op (ex_asg rfl) <| PR.op (ex_asg rfl) <| PR.nil) fun q3 F4 => ?_
  refine st_end ?_
  refine then_n ?_
  refine wp_seq ?_
  refine wp_reg ?_
  obtain ⟨x28, hx29, H⟩ := bind_ok H
  refine st_pr F4 (PR.op (ex_move rfl) <| PR.op (ex_move rfl) <| PR.nil) fun q30 F31 => ?_
  have s39 := s0.f1.f1
  obtain ⟨G44, hst40, hF41, hG42, hcl43⟩ := SL.open_ (ps := [Blk g0 81 [v0_0, .int .i64 a0.at_, .bool a0.made], Sl Ty.u8 v0_0 a0.b]) (rest := []) s39
  refine st_call (args := [.tmp 12, .tmp 13]) F31 Fx.fn53 rfl (wire_Reader_next_c (a0 := (⟨a0.b, a0.at_, a0.made⟩ : S_wire_Reader)) (a1 := a1) hst40  hx29) rfl fun v32 w33 q34 hS36 F35 => ?_
  obtain ⟨v45, v47, rfl, hv48, hq38⟩ := hS36
  have s37 := hcl43 _ _ hq38
  refine st_pr F35 (PR.op (ex_move rfl) <| PR.op (ex_extract (v := v47) rfl rfl) <| PR.op (ex_extract (v := .int .i64 x28.2.1) rfl rfl) <| PR.op (ex_asg rfl) <| PR.op (ex_asg rfl) <| PR.nil) fun q49 F50 => ?_
  refine st_end ?_
  refine then_n ?_
  refine wp_seq ?_
  refine wp_reg ?_
  refine st_pr F50 (PR.op (ex_asg rfl) <| PR.nil) fun q53 F54 => ?_
  refine st_end ?_
  refine then_n ?_
  refine wp_seq ?_
  refine wp_seq ?_
  refine wp_reg ?_
  refine st_pr F54 (PR.op (ex_move rfl) <| PR.op (ex_len rfl Try.underlying22 (formL (hv48.L (s37.own_rd (.tail _ <| .head _))))) <| PR.op (ex_move rfl) <| PR.nil) fun q414 F415 => ?_
  refine st_end ?_
  refine then_n ?_
  obtain ⟨o589, H590, R591⟩ := bind_ok H
  clear H
  refine wp_cutn (fun a w_ => Fr a 31 [(7, .int .i64 x28.2.1), (8, .int .u32 o589)] ∧ SL w FF w_ [Blk g0 81 [v45, .int .i64 x28.2.2.at_, .bool x28.2.2.made], Sl Ty.u8 v45 x28.2.2.b]) ?_ ?_
  · have H := H590
    refine wp_block ?_
    refine wp_lp (wire_Reader_number_b0 x28) (fun s592 a w_ => Fr a 31 [(7, .int .i64 x28.2.1), (8, .int .u32 s592.1), (17, v47), (18, .int .i64 (x28.1.length : Int)), (19, .int .i64 s592.2)] ∧ SL w FF w_ [Blk g0 81 [v45, .int .i64 x28.2.2.at_, .bool x28.2.2.made], Sl Ty.u8 v45 x28.2.2.b]) H ?_ ?_
    · exact ⟨F415.sub ⟨rfl, rfl, rfl, rfl, rfl, trivial⟩, s37⟩
    · intro s592 q722 w723 hI724 o721 H hr
      obtain ⟨F719, s720⟩ := hI724
      replace H : wire_Reader_number_b0 x28 s592 = some o721 := H
      unfold wire_Reader_number_b0 at H
      refine wp_seq ?_
      refine wp_reg ?_
      refine st_pr F719 (PR.op (ex_lt rfl rfl) <| PR.nil) fun q727 F728 => ?_
      refine st_end ?_
      refine then_n ?_
      refine wp_seq ?_
      refine wp_if F728 rfl (fun hb730 => ?_) (fun hb730 => ?_)
      · replace H := ite_t hb730 H
        refine wp_skip ?_
        refine then_n ?_
        refine wp_seq ?_
        refine wp_block ?_
        refine wp_seq ?_
        refine wp_reg ?_
        obtain ⟨x754, hx755, H⟩ := bind_ok H
        obtain ⟨ad756, hi757, hc758⟩ := idxL Flat.u8 (hv48.L (s720.own_rd (.tail _ <| .head _))) Fx.sl22 rfl hx755
        refine st_pr F728 (PR.op (hi757 _ _ _ _ _ _ _ _ _ _ rfl rfl) <| PR.op (ex_ld Fx.nag5 rfl (Cells.at_ hc758 (o := 0) rfl)) <| PR.op (ex_asg rfl) <| PR.nil) fun q759 F760 => ?_
        refine st_end ?_
        refine then_n ?_
        refine wp_reg ?_
        refine st_pr F760 (PR.op (ex_move rfl) <| PR.op (ex_shl rfl rfl rfl) <| PR.op (ex_move rfl) <| PR.op (ex_conv rfl Try.underlying5 Try.underlying79) <| PR.op (ex_or rfl rfl) <| PR.op (ex_asg rfl) <| PR.nil) fun q761 F762 => ?_
        refine st_end ?_
        refine blk_n ?_
        refine then_n ?_
        refine wp_reg ?_
        refine st_pr F762 (PR.op (ex_add rfl rfl) <| PR.op (ex_move rfl) <| PR.nil) fun q763 F764 => ?_
        refine st_end ?_
        obtain rfl := some_ok H
        refine then_n ?_
        exact ⟨_, rfl, F764.sub ⟨rfl, rfl, rfl, rfl, rfl, trivial⟩, s720⟩
      · replace H := ite_f hb730 H
        refine wp_exit ?_
        refine then_x <| then_x <| blk_hit ?_
        obtain rfl := some_ok H
        obtain rfl := hr _ rfl
        refine then_n ?_
        exact ⟨F728.sub ⟨rfl, rfl, trivial⟩, s720⟩
  · intro q767 w768 hJ
    obtain ⟨F765, s766⟩ := hJ
    have H := R591
    clear R591 H590
    refine then_n ?_
    refine wp_seq ?_
    refine wp_reg ?_
    refine st_pr F765 (PR.op (ex_move rfl) <| PR.op (ex_move rfl) <| PR.op (ex_asg rfl) <| PR.op (ex_asg rfl) <| PR.nil) fun q771 F772 => ?_
    refine st_end ?_
    refine then_n ?_
    obtain rfl := some_ok H
    refine wp_ret ?_
    refine ret_gen (rs := [.tmp 4, .tmp 5]) (vs := [.int .u32 o589, .int .i64 x28.2.1]) F772 (by rfl) ⟨_, _, rfl, RV.tmp rfl, _, _, rfl, RV.tmp rfl, rfl⟩ ⟨_, rfl, ⟨v45, rfl, s766⟩⟩
end Go.Proofs.Ytpcdphfneidalaa
