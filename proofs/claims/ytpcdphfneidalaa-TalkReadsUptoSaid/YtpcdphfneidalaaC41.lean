/- The walk of (*proviso/wire.Reader).Word. -/
import Derived.Test.YtpcdphfneidalaaFx
import Derived.Test.YtpcdphfneidalaaDf
import Derived.Test.YtpcdphfneidalaaC52
set_option linter.unusedVariables false
set_option linter.unusedSimpArgs false
namespace Go.Proofs.Ytpcdphfneidalaa
open Go Go.RowKit Go.Pv
theorem wire_Reader_Word_c {w : World} {FF : List Nat} {g0 : Nat} {v0_0 : Value} {a0 : S_wire_Reader} {r : Int × Int × S_wire_Reader} (hst : Star [Blk g0 81 [v0_0, .int .i64 a0.at_, .bool a0.made], Sl Ty.u8 v0_0 a0.b] w FF)  (H : wire_Reader_Word a0 = some r) :
    Calls Try.prog 41 #[.pointer (some ⟨g0, 0, none⟩)] w (Ret fun u_ w_ => ∃ u0 : Value, u_ = .tuple ⟨[.int .i64 r.1, .int .i64 r.2.1]⟩ ∧ SL w FF w_ [Blk g0 81 [u0, .int .i64 r.2.2.at_, .bool r.2.2.made], Sl Ty.u8 u0 r.2.2.b]) := by
  have s0 : SL w FF w [Blk g0 81 [v0_0, .int .i64 a0.at_, .bool a0.made], Sl Ty.u8 v0_0 a0.b] := SL.init w FF hst
  refine call_enter Try.func41 rfl Try.ntmps41 (Nat.le_of_ble_eq_true rfl) (args := [.pointer (some ⟨g0, 0, none⟩)]) fun q0 F0 => ?_
  unfold wire_Reader_Word at H
  refine wp_seq ?_
  refine wp_reg ?_
  refine st_pr F0 (PR.op (ex_asg rfl) <| PR.op (ex_asg rfl) <| PR.nil) fun q3 F4 => ?_
  refine st_end ?_
  refine then_n ?_
  refine wp_seq ?_
  refine wp_reg ?_
  obtain ⟨x26, hx27, H⟩ := bind_ok H
  refine st_pr F4 (PR.op (ex_move rfl) <| PR.nil) fun q28 F29 => ?_
  have s37 := s0.f1.f1
  obtain ⟨G42, hst38, hF39, hG40, hcl41⟩ := SL.open_ (ps := [Blk g0 81 [v0_0, .int .i64 a0.at_, .bool a0.made], Sl Ty.u8 v0_0 a0.b]) (rest := []) s37
  refine st_call (args := [.tmp 7, .const (.int .i64 2)]) F29 Fx.fn52 rfl (wire_Reader_number_c (a0 := (⟨a0.b, a0.at_, a0.made⟩ : S_wire_Reader)) (a1 := 2) hst38  hx27) rfl fun v30 w31 q32 hS34 F33 => ?_
  obtain ⟨v43, rfl, hq36⟩ := hS34
  have s35 := hcl41 _ _ hq36
  refine st_pr F33 (PR.op (ex_move rfl) <| PR.op (ex_extract (v := .int .u32 x26.1) rfl rfl) <| PR.op (ex_extract (v := .int .i64 x26.2.1) rfl rfl) <| PR.op (ex_asg rfl) <| PR.op (ex_asg rfl) <| PR.nil) fun q45 F46 => ?_
  refine st_end ?_
  refine then_n ?_
  refine wp_seq ?_
  refine wp_reg ?_
  refine st_pr F46 (PR.op (ex_move rfl) <| PR.op (ex_conv rfl Try.underlying79 Try.underlying3) <| PR.op (ex_move rfl) <| PR.op (ex_asg rfl) <| PR.op (ex_asg rfl) <| PR.nil) fun q49 F50 => ?_
  refine st_end ?_
  refine then_n ?_
  obtain rfl := some_ok H
  refine wp_ret ?_
  refine ret_gen (rs := [.tmp 2, .tmp 3]) (vs := [.int .i64 (wr x26.1), .int .i64 x26.2.1]) F50 (by rfl) ⟨_, _, rfl, RV.tmp rfl, _, _, rfl, RV.tmp rfl, rfl⟩ ⟨_, rfl, ⟨v43, rfl, s35⟩⟩
end Go.Proofs.Ytpcdphfneidalaa
