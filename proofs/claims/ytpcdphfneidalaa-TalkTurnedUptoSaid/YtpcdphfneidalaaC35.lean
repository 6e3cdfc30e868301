/- The walk of proviso/talk.framed. -/
import Derived.Test.YtpcdphfneidalaaFx
import Derived.Test.YtpcdphfneidalaaDf
import Derived.Test.YtpcdphfneidalaaC47
import Derived.Test.YtpcdphfneidalaaC48
import Derived.Test.YtpcdphfneidalaaC49
set_option linter.unusedVariables false
set_option linter.unusedSimpArgs false
namespace Go.Proofs.Ytpcdphfneidalaa
open Go Go.RowKit Go.Pv
theorem talk_framed_c {w : World} {FF : List Nat} {g0 : Nat} {v0_0 : Value} {a0 : S_wire_Writer} {r : (List UInt8) × S_wire_Writer} (hst : Star [Blk g0 75 [v0_0, .bool a0.made], Sl Ty.u8 v0_0 a0.b] w FF)  (H : talk_framed a0 = some r) :
    Calls Try.prog 35 #[.pointer (some ⟨g0, 0, none⟩)] w (Ret fun u_ w_ => ∃ u0 u1 : Value, u_ = u1 ∧ SL w FF w_ [Blk g0 75 [u0, .bool r.2.made], Sl Ty.u8 u0 r.2.b, Sl Ty.u8 u1 r.1]) := by
  have s0 : SL w FF w [Blk g0 75 [v0_0, .bool a0.made], Sl Ty.u8 v0_0 a0.b] := SL.init w FF hst
  refine call_enter Try.func35 rfl Try.ntmps35 (Nat.le_of_ble_eq_true rfl) (args := [.pointer (some ⟨g0, 0, none⟩)]) fun q0 F0 => ?_
  unfold talk_framed at H
  refine wp_seq ?_
  refine wp_reg ?_
  refine st_pr F0 (PR.op (ex_asg rfl) <| PR.nil) fun q3 F4 => ?_
  refine st_end ?_
  refine then_n ?_
  refine wp_seq ?_
  refine wp_reg ?_
  obtain ⟨x52, hx53, H⟩ := bind_ok H
  refine st_pr F4 (PR.op (ex_move rfl) <| PR.op (ex_move rfl) <| PR.nil) fun q54 F55 => ?_
  have s63 := s0.f1.f1
  obtain ⟨G68, hst64, hF65, hG66, hcl67⟩ := SL.open_ (ps := [Blk g0 75 [v0_0, .bool a0.made], Sl Ty.u8 v0_0 a0.b]) (rest := []) s63
  refine st_call (args := [.tmp 4]) F55 Fx.fn49 rfl (wire_Writer_Bytes_c (a0 := (⟨a0.b, a0.made⟩ : S_wire_Writer)) hst64  hx53) rfl fun v56 w57 q58 hS60 F59 => ?_
  obtain ⟨_, rfl, hq62⟩ := hS60
  have s61 := hcl67 _ _ hq62
  obtain ⟨x71, hx72, H⟩ := bind_ok H
  refine st_call (args := [.tmp 5]) F59 Fx.fn48 rfl (wire_Sum_c (a0 := x52)  (s61.rd0 (.tail _ <| .tail _ <| .head _)) hx72) rfl fun v73 w74 q75 hS77 F76 => ?_
  obtain ⟨rfl, hq79⟩ := hS77
  have s78 := s61.add hq79
  obtain ⟨x80, hx81, H⟩ := bind_ok H
  refine st_pr F76 (PR.op (ex_conv rfl Try.underlying3 Try.underlying21) <| PR.op (ex_conv rfl Try.underlying21 Try.underlying3) <| PR.nil) fun q82 F83 => ?_
  have s91 := s78.f1.f1
  obtain ⟨G96, hst92, hF93, hG94, hcl95⟩ := SL.open_ (ps := [Blk g0 75 [v0_0, .bool a0.made], Sl Ty.u8 v0_0 a0.b]) (rest := [Sl Ty.u8 v56 x52]) s91
  refine st_call (args := [.tmp 3, .tmp 8]) F83 Fx.fn47 rfl (wire_Writer_Long_c (a0 := (⟨a0.b, a0.made⟩ : S_wire_Writer)) (a1 := wr (IntKind.i32.wrap x71)) hst92  hx81) rfl fun v84 w85 q86 hS88 F87 => ?_
  obtain ⟨v97, rfl, hq90⟩ := hS88
  have s89 := hcl95 _ _ hq90
  refine st_end ?_
  refine then_n ?_
  refine wp_seq ?_
  refine wp_reg ?_
  obtain ⟨x120, hx121, H⟩ := bind_ok H
  refine st_pr F87 (PR.op (ex_move rfl) <| PR.nil) fun q122 F123 => ?_
  have s131 := s89.f1.f1
  obtain ⟨G136, hst132, hF133, hG134, hcl135⟩ := SL.open_ (ps := [Blk g0 75 [v97, .bool x80.2.made], Sl Ty.u8 v97 x80.2.b]) (rest := [Sl Ty.u8 v56 x52]) s131
  refine st_call (args := [.tmp 10]) F123 Fx.fn49 rfl (wire_Writer_Bytes_c (a0 := (⟨x80.2.b, x80.2.made⟩ : S_wire_Writer)) hst132  hx121) rfl fun v124 w125 q126 hS128 F127 => ?_
  obtain ⟨_, rfl, hq130⟩ := hS128
  have s129 := hcl135 _ _ hq130
  refine st_pr F127 (PR.op (ex_asg rfl) <| PR.nil) fun q139 F140 => ?_
  refine st_end ?_
  refine then_n ?_
  obtain rfl := some_ok H
  refine wp_ret ?_
  refine ret_gen (rs := [.tmp 2]) (vs := [v124]) F140 (by rfl) ⟨_, _, rfl, RV.tmp rfl, rfl⟩ ⟨_, rfl, ⟨v97, v124, rfl, s129.f3.drop⟩⟩
end Go.Proofs.Ytpcdphfneidalaa
