/- The walk of (*proviso/wire.Writer).Word. -/
import Derived.Test.YtpcdphfneidalaaFx
import Derived.Test.YtpcdphfneidalaaDf
import Derived.Test.YtpcdphfneidalaaC44
set_option linter.unusedVariables false
set_option linter.unusedSimpArgs false
namespace Go.Proofs.Ytpcdphfneidalaa
open Go Go.RowKit Go.Pv
theorem wire_Writer_Word_c {w : World} {FF : List Nat} {g0 : Nat} {v0_0 : Value} {a0 : S_wire_Writer} {a1 : Int} {r : Int × S_wire_Writer} (hst : Star [Blk g0 75 [v0_0, .bool a0.made], Sl Ty.u8 v0_0 a0.b] w FF)  (H : wire_Writer_Word a0 a1 = some r) :
    Calls Try.prog 33 #[.pointer (some ⟨g0, 0, none⟩), .int .i64 a1] w (Ret fun u_ w_ => ∃ u0 : Value, u_ = .int .i64 r.1 ∧ SL w FF w_ [Blk g0 75 [u0, .bool r.2.made], Sl Ty.u8 u0 r.2.b]) := by
  have s0 : SL w FF w [Blk g0 75 [v0_0, .bool a0.made], Sl Ty.u8 v0_0 a0.b] := SL.init w FF hst
  refine call_enter Try.func33 rfl Try.ntmps33 (Nat.le_of_ble_eq_true rfl) (args := [.pointer (some ⟨g0, 0, none⟩), .int .i64 a1]) fun q0 F0 => ?_
  unfold wire_Writer_Word at H
  refine wp_seq ?_
  refine wp_reg ?_
  refine st_pr F0 (PR.op (ex_asg rfl) <| PR.nil) fun q3 F4 => ?_
  refine st_end ?_
  refine then_n ?_
  refine wp_seq ?_
  refine wp_reg ?_
  obtain ⟨x26, hx27, H⟩ := bind_ok H
  refine st_pr F4 (PR.op (ex_move rfl) <| PR.op (ex_move rfl) <| PR.nil) fun q28 F29 => ?_
  have s37 := s0.f1.f1
  obtain ⟨G42, hst38, hF39, hG40, hcl41⟩ := SL.open_ (ps := [Blk g0 75 [v0_0, .bool a0.made], Sl Ty.u8 v0_0 a0.b]) (rest := []) s37
  refine st_call (args := [.tmp 5, .tmp 6, .const (.int .i64 0), .const (.int .i64 65535), .const (.int .i64 2)]) F29 Fx.fn44 rfl (wire_Writer_number_c (a0 := (⟨a0.b, a0.made⟩ : S_wire_Writer)) (a1 := a1) (a2 := 0) (a3 := 65535) (a4 := 2) hst38  hx27) rfl fun v30 w31 q32 hS34 F33 => ?_
  obtain ⟨v43, rfl, hq36⟩ := hS34
  have s35 := hcl41 _ _ hq36
  refine st_pr F33 (PR.op (ex_asg rfl) <| PR.nil) fun q45 F46 => ?_
  refine st_end ?_
  refine then_n ?_
  obtain rfl := some_ok H
  refine wp_ret ?_
  refine ret_gen (rs := [.tmp 4]) (vs := [.int .i64 x26.1]) F46 (by rfl) ⟨_, _, rfl, RV.tmp rfl, rfl⟩ ⟨_, rfl, ⟨v43, rfl, s35⟩⟩
end Go.Proofs.Ytpcdphfneidalaa
