/- The walk of (*proviso/wire.Writer).Put. -/
import Derived.Test.YtpcdphfneidalaaFx
import Derived.Test.YtpcdphfneidalaaDf
import Derived.Test.YtpcdphfneidalaaC45
import Derived.Test.YtpcdphfneidalaaC46
set_option linter.unusedVariables false
set_option linter.unusedSimpArgs false
namespace Go.Proofs.Ytpcdphfneidalaa
open Go Go.RowKit Go.Pv
theorem wire_Writer_Put_c {w : World} {FF : List Nat} {g0 : Nat} {v0_0 v1 : Value} {a0 : S_wire_Writer} {a1 : List UInt8} {r : Int × S_wire_Writer} (hst : Star [Blk g0 75 [v0_0, .bool a0.made], Sl Ty.u8 v0_0 a0.b] w FF) (hr1 : Rd Ty.u8 w FF v1 a1) (H : wire_Writer_Put a0 a1 = some r) :
    Calls Try.prog 34 #[.pointer (some ⟨g0, 0, none⟩), v1] w (Ret fun u_ w_ => ∃ u0 : Value, u_ = .int .i64 r.1 ∧ SL w FF w_ [Blk g0 75 [u0, .bool r.2.made], Sl Ty.u8 u0 r.2.b]) := by
  have s0 : SL w FF w [Blk g0 75 [v0_0, .bool a0.made], Sl Ty.u8 v0_0 a0.b] := SL.init w FF hst
  refine call_enter Try.func34 rfl Try.ntmps34 (Nat.le_of_ble_eq_true rfl) (args := [.pointer (some ⟨g0, 0, none⟩), v1]) fun q0 F0 => ?_
  unfold wire_Writer_Put at H
  refine wp_seq ?_
  refine wp_reg ?_
  refine st_pr F0 (PR.op (ex_asg rfl) <| PR.nil) fun q3 F4 => ?_
  refine st_end ?_
  refine then_n ?_
  refine wp_seq ?_
  refine wp_seq ?_
  refine wp_reg ?_
  obtain ⟨x67, hx68, H⟩ := bind_ok H
  refine st_pr F4 (PR.op (ex_move rfl) <| PR.nil) fun q69 F70 => ?_
  have s78 := s0.f1.f1
  obtain ⟨G83, hst79, hF80, hG81, hcl82⟩ := SL.open_ (ps := [Blk g0 75 [v0_0, .bool a0.made], Sl Ty.u8 v0_0 a0.b]) (rest := []) s78
  refine st_call (args := [.tmp 5]) F70 Fx.fn45 rfl (wire_Writer_ready_c (a0 := (⟨a0.b, a0.made⟩ : S_wire_Writer)) hst79  hx68) rfl fun v71 w72 q73 hS75 F74 => ?_
  obtain ⟨rfl, hq77⟩ := hS75
  have s76 := hcl82 _ _ hq77
  refine st_pr F74 (PR.op (ex_not rfl) <| PR.nil) fun q84 F85 => ?_
  refine st_end ?_
  refine then_n ?_
  refine wp_if F85 rfl (fun hb86 => ?_) (fun hb86 => ?_)
  · replace H := ite_t hb86 H
    refine wp_seq ?_
    refine wp_reg ?_
    refine st_pr F85 (PR.op (ex_asg rfl) <| PR.nil) fun q89 F90 => ?_
    refine st_end ?_
    refine then_n ?_
    obtain rfl := some_ok H
    refine wp_ret ?_
    refine then_r ?_
    refine ret_gen (rs := [.tmp 4]) (vs := [.int .i64 8]) F90 (by rfl) ⟨_, _, rfl, RV.tmp rfl, rfl⟩ ⟨_, rfl, ⟨v0_0, rfl, s76⟩⟩
  · replace H := ite_f hb86 H
    refine wp_skip ?_
    refine then_n ?_
    refine wp_seq ?_
    refine wp_reg ?_
    obtain ⟨x112, hx113, H⟩ := bind_ok H
    refine st_pr F85 (PR.op (ex_move rfl) <| PR.op (ex_move rfl) <| PR.nil) fun q114 F115 => ?_
    have s123 := s76.f1.f1
    obtain ⟨G128, hst124, hF125, hG126, hcl127⟩ := SL.open_ (ps := [Blk g0 75 [v0_0, .bool a0.made], Sl Ty.u8 v0_0 a0.b]) (rest := []) s123
    refine st_call (args := [.tmp 8, .tmp 9]) F115 Fx.fn46 rfl (wire_Writer_put_c (a0 := (⟨a0.b, a0.made⟩ : S_wire_Writer)) (a1 := a1) hst124 (hr1.pass s123 hF125) hx113) rfl fun v116 w117 q118 hS120 F119 => ?_
    obtain ⟨v129, rfl, hq122⟩ := hS120
    have s121 := hcl127 _ _ hq122
    refine st_pr F119 (PR.op (ex_asg rfl) <| PR.nil) fun q131 F132 => ?_
    refine st_end ?_
    refine then_n ?_
    obtain rfl := some_ok H
    refine wp_ret ?_
    refine ret_gen (rs := [.tmp 4]) (vs := [.int .i64 x112.1]) F132 (by rfl) ⟨_, _, rfl, RV.tmp rfl, rfl⟩ ⟨_, rfl, ⟨v129, rfl, s121⟩⟩
end Go.Proofs.Ytpcdphfneidalaa
