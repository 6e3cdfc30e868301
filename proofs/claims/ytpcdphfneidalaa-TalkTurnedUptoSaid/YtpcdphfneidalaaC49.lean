/- The walk of (*proviso/wire.Writer).Bytes. -/
import Derived.Test.YtpcdphfneidalaaFx
import Derived.Test.YtpcdphfneidalaaDf
import Derived.Test.YtpcdphfneidalaaC45
set_option linter.unusedVariables false
set_option linter.unusedSimpArgs false
namespace Go.Proofs.Ytpcdphfneidalaa
open Go Go.RowKit Go.Pv
theorem wire_Writer_Bytes_c {w : World} {FF : List Nat} {g0 : Nat} {v0_0 : Value} {a0 : S_wire_Writer} {r : (List UInt8)} (hst : Star [Blk g0 75 [v0_0, .bool a0.made], Sl Ty.u8 v0_0 a0.b] w FF)  (H : wire_Writer_Bytes a0 = some r) :
    Calls Try.prog 49 #[.pointer (some ⟨g0, 0, none⟩)] w (Ret fun u_ w_ => ∃ u0 : Value, u_ = u0 ∧ SL w FF w_ [Blk g0 75 [v0_0, .bool a0.made], Sl Ty.u8 v0_0 a0.b, Sl Ty.u8 u0 r]) := by
  have s0 : SL w FF w [Blk g0 75 [v0_0, .bool a0.made], Sl Ty.u8 v0_0 a0.b] := SL.init w FF hst
  refine call_enter Try.func49 rfl Try.ntmps49 (Nat.le_of_ble_eq_true rfl) (args := [.pointer (some ⟨g0, 0, none⟩)]) fun q0 F0 => ?_
  unfold wire_Writer_Bytes at H
  refine wp_seq ?_
  refine wp_reg ?_
  refine st_pr F0 (PR.op (ex_asg rfl) <| PR.nil) fun q3 F4 => ?_
  refine st_end ?_
  refine then_n ?_
  refine wp_seq ?_
  refine wp_seq ?_
  refine wp_reg ?_
  obtain ⟨x67, hx68, H⟩ := bind_ok H
  refine st_pr F4 (PR.op (ex_move rfl) <| PR.nil) fun q69 F70 => ?_
  have s78 := s0.f1.f1
  obtain ⟨G83, hst79, hF80, hG81, hcl82⟩ := SL.open_ (ps := [Blk g0 75 [v0_0, .bool a0.made], Sl Ty.u8 v0_0 a0.b]) (rest := []) s78
  refine st_call (args := [.tmp 4]) F70 Fx.fn45 rfl (wire_Writer_ready_c (a0 := (⟨a0.b, a0.made⟩ : S_wire_Writer)) hst79  hx68) rfl fun v71 w72 q73 hS75 F74 => ?_
  obtain ⟨rfl, hq77⟩ := hS75
  have s76 := hcl82 _ _ hq77
  refine st_pr F74 (PR.op (ex_not rfl) <| PR.nil) fun q84 F85 => ?_
  refine st_end ?_
  refine then_n ?_
  refine wp_if F85 rfl (fun hb86 => ?_) (fun hb86 => ?_)
  · replace H := ite_t hb86 H
    refine wp_seq ?_
    refine wp_reg ?_
    refine st_pr F85 (PR.op (ex_asg rfl) <| PR.nil) fun q89 F90 => ?_
    refine st_end ?_
    refine then_n ?_
    obtain rfl := some_ok H
    refine wp_ret ?_
    refine then_r ?_
    refine ret_gen (rs := [.tmp 2]) (vs := [.slice none 0 0]) F90 (by rfl) ⟨_, _, rfl, RV.tmp rfl, rfl⟩ ⟨_, rfl, ⟨(.slice none 0 0), rfl, (SL.nilSl (T := Ty.u8) s76).f2.f2⟩⟩
  · replace H := ite_f hb86 H
    refine wp_skip ?_
    refine then_n ?_
    refine wp_seq ?_
    refine wp_reg ?_
    obtain ⟨x103, hx104, H⟩ := bind_ok H
    refine st_pr F85 (PR.op (ex_move rfl) <| PR.op (ex_nilcheck rfl) <| PR.op (ex_fab Fx.fa75_0 rfl rfl) <| PR.op (ex_ld Fx.nag22 rfl (s76.blk_cell (.head _) rfl)) <| PR.op (ex_len rfl Try.underlying22 (formL (s76.own_rd (.tail _ <| .head _)))) <| PR.nil) fun q105 F106 => ?_
    refine st_make Flat.u8 (0 : UInt8) F106 s76 Fx.sl22 rfl rfl Fx.zero5 rfl rfl rfl hx104 rfl fun v107 w108 q109 F110 s111 => ?_
    refine st_pr F110 (PR.op (ex_asg rfl) <| PR.nil) fun q113 F114 => ?_
    refine st_end ?_
    refine then_n ?_
    refine wp_seq ?_
    refine wp_reg ?_
    refine st_pr F114 (PR.op (ex_move rfl) <| PR.op (ex_move rfl) <| PR.op (ex_nilcheck rfl) <| PR.op (ex_fab Fx.fa75_0 rfl rfl) <| PR.op (ex_ld Fx.nag22 rfl (s111.blk_cell (.tail _ <| .head _) rfl)) <| PR.nil) fun q122 F123 => ?_
    have s124 := s111
    obtain ⟨_, hr_⟩ := (s124.own_rd (.tail _ <| .tail _ <| .head _))
    refine st_copy Flat.u8 F123 s124 Fx.sl22 rfl rfl rfl rfl hr_ rfl fun w125 q126 F127 s128 => ?_
    refine st_end ?_
    refine then_n ?_
    refine wp_seq ?_
    refine wp_reg ?_
    refine st_pr F127 (PR.op (ex_move rfl) <| PR.op (ex_asg rfl) <| PR.nil) fun q131 F132 => ?_
    refine st_end ?_
    refine then_n ?_
    obtain rfl := some_ok H
    refine wp_ret ?_
    refine ret_gen (rs := [.tmp 2]) (vs := [v107]) F132 (by rfl) ⟨_, _, rfl, RV.tmp rfl, rfl⟩ ⟨_, rfl, ⟨v107, rfl, s128.f2.f2⟩⟩
end Go.Proofs.Ytpcdphfneidalaa
