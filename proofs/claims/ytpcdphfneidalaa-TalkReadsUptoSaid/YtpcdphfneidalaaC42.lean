/- The walk of (*proviso/wire.Reader).Take. -/
import Derived.Test.YtpcdphfneidalaaFx
import Derived.Test.YtpcdphfneidalaaDf
import Derived.Test.YtpcdphfneidalaaC53
set_option linter.unusedVariables false
set_option linter.unusedSimpArgs false
namespace Go.Proofs.Ytpcdphfneidalaa
open Go Go.RowKit Go.Pv
theorem wire_Reader_Take_c {w : World} {FF : List Nat} {g0 : Nat} {v0_0 : Value} {a0 : S_wire_Reader} {a1 : Int} {r : (List UInt8) × Int × S_wire_Reader} (hst : Star [Blk g0 81 [v0_0, .int .i64 a0.at_, .bool a0.made], Sl Ty.u8 v0_0 a0.b] w FF)  (H : wire_Reader_Take a0 a1 = some r) :
    Calls Try.prog 42 #[.pointer (some ⟨g0, 0, none⟩), .int .i64 a1] w (Ret fun u_ w_ => ∃ u0 u1 : Value, u_ = .tuple ⟨[u1, .int .i64 r.2.1]⟩ ∧ SL w FF w_ [Blk g0 81 [u0, .int .i64 r.2.2.at_, .bool r.2.2.made], Sl Ty.u8 u0 r.2.2.b, Sl Ty.u8 u1 r.1]) := by
  have s0 : SL w FF w [Blk g0 81 [v0_0, .int .i64 a0.at_, .bool a0.made], Sl Ty.u8 v0_0 a0.b] := SL.init w FF hst
  refine call_enter Try.func42 rfl Try.ntmps42 (Nat.le_of_ble_eq_true rfl) (args := [.pointer (some ⟨g0, 0, none⟩), .int .i64 a1]) fun q0 F0 => ?_
  unfold wire_Reader_Take at H
  refine wp_seq ?_
  refine wp_reg ?_
  refine st_pr F0 (PR.op (ex_asg rfl) <| PR.op (ex_asg rfl) <| PR.nil) fun q3 F4 => ?_
  refine st_end ?_
  refine then_n ?_
  refine wp_seq ?_
  refine wp_reg ?_
  obtain ⟨x28, hx29, H⟩ := bind_ok H
  refine st_pr F4 (PR.op (ex_move rfl) <| PR.op (ex_move rfl) <| PR.nil) fun q30 F31 => ?_
  have s39 := s0.f1.f1
  obtain ⟨G44, hst40, hF41, hG42, hcl43⟩ := SL.open_ (ps := [Blk g0 81 [v0_0, .int .i64 a0.at_, .bool a0.made], Sl Ty.u8 v0_0 a0.b]) (rest := []) s39
  refine st_call (args := [.tmp 10, .tmp 11]) F31 Fx.fn53 rfl (wire_Reader_next_c (a0 := (⟨a0.b, a0.at_, a0.made⟩ : S_wire_Reader)) (a1 := a1) hst40  hx29) rfl fun v32 w33 q34 hS36 F35 => ?_
  obtain ⟨v45, v47, rfl, hv48, hq38⟩ := hS36
  have s37 := hcl43 _ _ hq38
  refine st_pr F35 (PR.op (ex_move rfl) <| PR.op (ex_extract (v := v47) rfl rfl) <| PR.op (ex_extract (v := .int .i64 x28.2.1) rfl rfl) <| PR.op (ex_asg rfl) <| PR.op (ex_asg rfl) <| PR.nil) fun q49 F50 => ?_
  refine st_end ?_
  refine then_n ?_
  refine wp_seq ?_
  refine wp_seq ?_
  refine wp_reg ?_
  refine st_pr F50 (PR.op (ex_move rfl) <| PR.op (ex_ne rfl rfl) <| PR.nil) fun q62 F63 => ?_
  refine st_end ?_
  refine then_n ?_
  refine wp_if F63 rfl (fun hb64 => ?_) (fun hb64 => ?_)
  · replace H := ite_t hb64 H
    refine wp_seq ?_
    refine wp_reg ?_
    refine st_pr F63 (PR.op (ex_move rfl) <| PR.op (ex_asg rfl) <| PR.op (ex_asg rfl) <| PR.nil) fun q67 F68 => ?_
    refine st_end ?_
    refine then_n ?_
    obtain rfl := some_ok H
    refine wp_ret ?_
    refine then_r ?_
    refine ret_gen (rs := [.tmp 4, .tmp 5]) (vs := [.slice none 0 0, .int .i64 x28.2.1]) F68 (by rfl) ⟨_, _, rfl, RV.tmp rfl, _, _, rfl, RV.tmp rfl, rfl⟩ ⟨_, rfl, ⟨v45, (.slice none 0 0), rfl, (SL.nilSl (T := Ty.u8) s37).f2.f2⟩⟩
  · replace H := ite_f hb64 H
    refine wp_skip ?_
    refine then_n ?_
    refine wp_seq ?_
    refine wp_reg ?_
    obtain ⟨x81, hx82, H⟩ := bind_ok H
    refine st_pr F63 (PR.op (ex_move rfl) <| PR.op (ex_len rfl Try.underlying22 (formL (hv48.L (s37.own_rd (.tail _ <| .head _))))) <| PR.nil) fun q83 F84 => ?_
    refine st_make Flat.u8 (0 : UInt8) F84 s37 Fx.sl22 rfl rfl Fx.zero5 rfl rfl rfl hx82 rfl fun v85 w86 q87 F88 s89 => ?_
    refine st_pr F88 (PR.op (ex_asg rfl) <| PR.nil) fun q91 F92 => ?_
    refine st_end ?_
    refine then_n ?_
    refine wp_seq ?_
    refine wp_reg ?_
    refine st_pr F92 (PR.op (ex_move rfl) <| PR.op (ex_move rfl) <| PR.nil) fun q100 F101 => ?_
    have s102 := s89
    obtain ⟨_, hr_⟩ := (hv48.L (s102.own_rd (.tail _ <| .tail _ <| .head _)))
    refine st_copy Flat.u8 F101 s102 Fx.sl22 rfl rfl rfl rfl hr_ rfl fun w103 q104 F105 s106 => ?_
    refine st_end ?_
    refine then_n ?_
    refine wp_seq ?_
    refine wp_reg ?_
    refine st_pr F105 (PR.op (ex_move rfl) <| PR.op (ex_asg rfl) <| PR.op (ex_asg rfl) <| PR.nil) fun q109 F110 => ?_
    refine st_end ?_
    refine then_n ?_
    obtain rfl := some_ok H
    refine wp_ret ?_
    refine ret_gen (rs := [.tmp 4, .tmp 5]) (vs := [v85, .int .i64 0]) F110 (by rfl) ⟨_, _, rfl, RV.tmp rfl, _, _, rfl, RV.tmp rfl, rfl⟩ ⟨_, rfl, ⟨v45, v85, rfl, s106.f2.f2⟩⟩
end Go.Proofs.Ytpcdphfneidalaa
