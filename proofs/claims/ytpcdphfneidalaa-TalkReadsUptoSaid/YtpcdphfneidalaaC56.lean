/- The walk of (*proviso/wire.Reader).Left. -/
import Derived.Test.YtpcdphfneidalaaFx
import Derived.Test.YtpcdphfneidalaaDf
import Derived.Test.YtpcdphfneidalaaC55
set_option linter.unusedVariables false
set_option linter.unusedSimpArgs false
namespace Go.Proofs.Ytpcdphfneidalaa
open Go Go.RowKit Go.Pv
theorem wire_Reader_Left_c {w : World} {FF : List Nat} {g0 : Nat} {v0_0 : Value} {a0 : S_wire_Reader} {r : Int} (hst : Star [Blk g0 81 [v0_0, .int .i64 a0.at_, .bool a0.made], Sl Ty.u8 v0_0 a0.b] w FF)  (H : wire_Reader_Left a0 = some r) :
    Calls Try.prog 56 #[.pointer (some ⟨g0, 0, none⟩)] w (Ret fun u_ w_ => u_ = .int .i64 r ∧ SL w FF w_ [Blk g0 81 [v0_0, .int .i64 a0.at_, .bool a0.made], Sl Ty.u8 v0_0 a0.b]) := by
  have s0 : SL w FF w [Blk g0 81 [v0_0, .int .i64 a0.at_, .bool a0.made], Sl Ty.u8 v0_0 a0.b] := SL.init w FF hst
  refine call_enter Try.func56 rfl Try.ntmps56 (Nat.le_of_ble_eq_true rfl) (args := [.pointer (some ⟨g0, 0, none⟩)]) fun q0 F0 => ?_
  unfold wire_Reader_Left at H
  refine wp_seq ?_
  refine wp_reg ?_
  refine st_pr F0 (PR.op (ex_asg rfl) <| PR.nil) fun q3 F4 => ?_
  refine st_end ?_
  refine then_n ?_
  refine wp_seq ?_
  refine wp_seq ?_
  refine wp_reg ?_
  obtain ⟨x67, hx68, H⟩ := bind_ok H
  refine st_pr F4 (PR.op (ex_move rfl) <| PR.nil) fun q69 F70 => ?_
  have s78 := s0.f1.f1
  obtain ⟨G83, hst79, hF80, hG81, hcl82⟩ := SL.open_ (ps := [Blk g0 81 [v0_0, .int .i64 a0.at_, .bool a0.made], Sl Ty.u8 v0_0 a0.b]) (rest := []) s78
  refine st_call (args := [.tmp 3]) F70 Fx.fn55 rfl (wire_Reader_ready_c (a0 := (⟨a0.b, a0.at_, a0.made⟩ : S_wire_Reader)) hst79  hx68) rfl fun v71 w72 q73 hS75 F74 => ?_
  obtain ⟨rfl, hq77⟩ := hS75
  have s76 := hcl82 _ _ hq77
  refine st_pr F74 (PR.op (ex_not rfl) <| PR.nil) fun q84 F85 => ?_
  refine st_end ?_
  refine then_n ?_
  refine wp_if F85 rfl (fun hb86 => ?_) (fun hb86 => ?_)
  · replace H := ite_t hb86 H
    refine wp_seq ?_
    refine wp_reg ?_
    refine st_pr F85 (PR.op (ex_asg rfl) <| PR.nil) fun q89 F90 => ?_
    refine st_end ?_
    refine then_n ?_
    obtain rfl := some_ok H
    refine wp_ret ?_
    refine then_r ?_
    refine ret_gen (rs := [.tmp 2]) (vs := [.int .i64 0]) F90 (by rfl) ⟨_, _, rfl, RV.tmp rfl, rfl⟩ ⟨_, rfl, ⟨rfl, s76⟩⟩
  · replace H := ite_f hb86 H
    refine wp_skip ?_
    refine then_n ?_
    refine wp_seq ?_
    refine wp_regq (fun w_ => SL w FF w_ [Blk g0 81 [v0_0, .int .i64 a0.at_, .bool a0.made], Sl Ty.u8 v0_0 a0.b]) Fx.mixed (by kernel_rfl) s76.drew F85 (QR.op (fun _ hC => ex_move rfl) <| QR.op (fun _ hC => ex_nilcheck rfl) <| QR.op (fun _ hC => ex_fab Fx.fa81_0 rfl rfl) <| QR.op (fun _ hC => ex_ld Fx.nag22 rfl (hC.blk_cell (.head _) rfl)) <| QR.op (fun _ hC => ex_len rfl Try.underlying22 (formL (hC.own_rd (.tail _ <| .head _)))) <| QR.op (fun _ hC => ex_move rfl) <| QR.op (fun _ hC => ex_nilcheck rfl) <| QR.op (fun _ hC => ex_fab Fx.fa81_1 rfl rfl) <| QR.op (fun _ hC => ex_ld Fx.nag3 rfl (hC.blk_cell (.head _) rfl)) <| QR.op (fun _ hC => ex_sub rfl rfl) <| QR.op (fun _ hC => ex_asg rfl) <| QR.nil) fun w98 q96 s95 F97 => ?_
    refine then_n ?_
    obtain rfl := some_ok H
    refine wp_ret ?_
    refine ret_gen (rs := [.tmp 2]) (vs := [.int .i64 (wr ((a0.b.length : Int) - a0.at_))]) F97 (by rfl) ⟨_, _, rfl, RV.tmp rfl, rfl⟩ ⟨_, rfl, ⟨rfl, s95⟩⟩
end Go.Proofs.Ytpcdphfneidalaa
