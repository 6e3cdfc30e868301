/- The walk of proviso/provisolaw24.awake. -/
import Derived.Test.YtpcdphfneidalaaFx
import Derived.Test.YtpcdphfneidalaaDf
import Derived.Test.YtpcdphfneidalaaC15
set_option linter.unusedVariables false
set_option linter.unusedSimpArgs false
namespace Go.Proofs.Ytpcdphfneidalaa
open Go Go.RowKit Go.Pv
theorem provisolaw24_awake_c {w : World} {r : Bool}  (H : provisolaw24_awake = some r) :
    Calls Try.prog 26 #[] w (Ret fun u_ w_ => u_ = .bool r ∧ SL w [] w_ []) := by
  have s0 : SL w [] w [] := SL.init0 w
  refine call_enter Try.func26 rfl Try.ntmps26 (Nat.le_of_ble_eq_true rfl) (args := []) fun q0 F0 => ?_
  unfold provisolaw24_awake at H
  refine wp_seq ?_
  refine wp_reg ?_
  refine st_pr F0 (PR.op (ex_asg rfl) <| PR.nil) fun q3 F4 => ?_
  refine st_end ?_
  refine then_n ?_
  refine wp_seq ?_
  refine wp_reg ?_
  obtain ⟨x20, hx21, H⟩ := bind_ok H
  refine st_pr F4 (PR.op (ex_build (vs := [.int .i64 1]) Fx.zero35 Fx.pl35 rfl (cs := [.int .i64 1, .int .i64 0, .slice none 0 0]) (rfl)) <| PR.nil) fun q22 F23 => ?_
  refine st_call (args := [.tmp 4]) F23 Fx.fn15 rfl (talk_Pack_c (a0 := (⟨1, 0, []⟩ : S_api_Request))  Rd.nil_ hx21) rfl fun v24 w25 q26 hS28 F27 => ?_
  obtain ⟨v31, rfl, hq30⟩ := hS28
  have s29 := s0.add hq30
  refine st_pr F27 (PR.op (ex_move rfl) <| PR.op (ex_extract (v := v31) rfl rfl) <| PR.op (ex_extract (v := .int .i64 x20.2) rfl rfl) <| PR.op (ex_asg rfl) <| PR.op (ex_asg rfl) <| PR.nil) fun q33 F34 => ?_
  refine st_end ?_
  refine then_n ?_
  refine wp_seq ?_
  refine wp_reg ?_
  refine st_pr F34 (PR.op (ex_move rfl) <| PR.op (ex_eq rfl rfl) <| PR.op (ex_move rfl) <| PR.nil) fun q136 F137 => ?_
  refine bool_split (x20.2 == 0) (fun hb138 => ?_) (fun hb138 => ?_)
  · replace H := ite_t hb138 H
    refine st_gop F137 rfl rfl (look_b rfl hb138) (ex_move rfl) rfl rfl fun q139 F140 => ?_
    refine st_gop F140 rfl rfl (look_b rfl hb138) (ex_len rfl Try.underlying22 (formL (s29.own_rd (.head _)))) rfl rfl fun q141 F142 => ?_
    refine st_gop F142 rfl rfl (look_b rfl hb138) (ex_eq rfl rfl) rfl rfl fun q143 F144 => ?_
    refine st_pr F144 (PR.op (ex_pick_t (ev_b rfl hb138) rfl) <| PR.op (ex_move rfl) <| PR.nil) fun q145 F146 => ?_
    refine bool_split ((x20.1.length : Int) == 9) (fun hb147 => ?_) (fun hb147 => ?_)
    · replace H := ite_t hb147 H
      refine st_gop F146 rfl rfl (look_b rfl hb147) (ex_move rfl) rfl rfl fun q148 F149 => ?_
      obtain ⟨x150, hx151, H⟩ := bind_ok H
      obtain ⟨ad152, hi153, he154⟩ := own_idx Flat.u8 s29 (.head _) Fx.sl22 rfl hx151
      refine st_gop F149 rfl rfl (look_b rfl hb147) (hi153 _ _ _ _ _ _ _ _ _ _ rfl rfl) rfl rfl fun q155 F156 => ?_
      refine st_gop F156 rfl rfl (look_b rfl hb147) (ex_ld Fx.nag5 rfl (Cells.at_ (SL.elcells Flat.u8 s29 (.head _) he154 hx151) (o := 0) rfl)) rfl rfl fun q157 F158 => ?_
      refine st_gop F158 rfl rfl (look_b rfl hb147) (ex_eq rfl rfl) rfl rfl fun q159 F160 => ?_
      refine st_pr F160 (PR.op (ex_pick_t (ev_b rfl hb147) rfl) <| PR.op (ex_move rfl) <| PR.nil) fun q161 F162 => ?_
      refine bool_split ((x150.toNat : Int) == 80) (fun hb163 => ?_) (fun hb163 => ?_)
      · replace H := ite_t hb163 H
        refine st_gop F162 rfl rfl (look_b rfl hb163) (ex_move rfl) rfl rfl fun q164 F165 => ?_
        obtain ⟨x166, hx167, H⟩ := bind_ok H
        obtain ⟨ad168, hi169, he170⟩ := own_idx Flat.u8 s29 (.head _) Fx.sl22 rfl hx167
        refine st_gop F165 rfl rfl (look_b rfl hb163) (hi169 _ _ _ _ _ _ _ _ _ _ rfl rfl) rfl rfl fun q171 F172 => ?_
        refine st_gop F172 rfl rfl (look_b rfl hb163) (ex_ld Fx.nag5 rfl (Cells.at_ (SL.elcells Flat.u8 s29 (.head _) he170 hx167) (o := 0) rfl)) rfl rfl fun q173 F174 => ?_
        refine st_gop F174 rfl rfl (look_b rfl hb163) (ex_eq rfl rfl) rfl rfl fun q175 F176 => ?_
        refine st_pr F176 (PR.op (ex_pick_t (ev_b rfl hb163) rfl) <| PR.op (ex_asg rfl) <| PR.nil) fun q177 F178 => ?_
        refine st_end ?_
        refine then_n ?_
        obtain rfl := some_ok H
        refine wp_ret ?_
        refine ret_gen (rs := [.tmp 0]) (vs := [.bool ((x166.toNat : Int) == 1)]) F178 (by rfl) ⟨_, _, rfl, RV.tmp rfl, rfl⟩ ⟨_, rfl, ⟨rfl, s29.drop⟩⟩
      · replace H := ite_f hb163 H
        refine st_gskip F162 rfl rfl (look_b rfl hb163) Bool.noConfusion rfl rfl fun q179 F180 => ?_
        refine st_gskip F180 rfl rfl (look_b rfl hb163) Bool.noConfusion rfl rfl fun q181 F182 => ?_
        refine st_gskip F182 rfl rfl (look_b rfl hb163) Bool.noConfusion rfl rfl fun q183 F184 => ?_
        refine st_gskip F184 rfl rfl (look_b rfl hb163) Bool.noConfusion rfl rfl fun q185 F186 => ?_
        refine st_pr F186 (PR.op (ex_pick_f (ev_b rfl hb163) rfl) <| PR.op (ex_asg rfl) <| PR.nil) fun q187 F188 => ?_
        refine st_end ?_
        refine then_n ?_
        obtain rfl := some_ok H
        refine wp_ret ?_
        refine ret_gen (rs := [.tmp 0]) (vs := [.bool false]) F188 (by rfl) ⟨_, _, rfl, RV.tmp rfl, rfl⟩ ⟨_, rfl, ⟨rfl, s29.drop⟩⟩
    · replace H := ite_f hb147 H
      refine st_gskip F146 rfl rfl (look_b rfl hb147) Bool.noConfusion rfl rfl fun q189 F190 => ?_
      refine st_gskip F190 rfl rfl (look_b rfl hb147) Bool.noConfusion rfl rfl fun q191 F192 => ?_
      refine st_gskip F192 rfl rfl (look_b rfl hb147) Bool.noConfusion rfl rfl fun q193 F194 => ?_
      refine st_gskip F194 rfl rfl (look_b rfl hb147) Bool.noConfusion rfl rfl fun q195 F196 => ?_
      refine st_pr F196 (PR.op (ex_pick_f (ev_b rfl hb147) rfl) <| PR.op (ex_move rfl) <| PR.nil) fun q197 F198 => ?_
      refine st_gskip F198 rfl rfl rfl Bool.noConfusion rfl rfl fun q199 F200 => ?_
      refine st_gskip F200 rfl rfl rfl Bool.noConfusion rfl rfl fun q201 F202 => ?_
      refine st_gskip F202 rfl rfl rfl Bool.noConfusion rfl rfl fun q203 F204 => ?_
      refine st_gskip F204 rfl rfl rfl Bool.noConfusion rfl rfl fun q205 F206 => ?_
      refine st_pr F206 (PR.op (ex_pick_f rfl rfl) <| PR.op (ex_asg rfl) <| PR.nil) fun q207 F208 => ?_
      refine st_end ?_
      refine then_n ?_
      obtain rfl := some_ok H
      refine wp_ret ?_
      refine ret_gen (rs := [.tmp 0]) (vs := [.bool false]) F208 (by rfl) ⟨_, _, rfl, RV.tmp rfl, rfl⟩ ⟨_, rfl, ⟨rfl, s29.drop⟩⟩
  · replace H := ite_f hb138 H
    refine st_gskip F137 rfl rfl (look_b rfl hb138) Bool.noConfusion rfl rfl fun q209 F210 => ?_
    refine st_gskip F210 rfl rfl (look_b rfl hb138) Bool.noConfusion rfl rfl fun q211 F212 => ?_
    refine st_gskip F212 rfl rfl (look_b rfl hb138) Bool.noConfusion rfl rfl fun q213 F214 => ?_
    refine st_pr F214 (PR.op (ex_pick_f (ev_b rfl hb138) rfl) <| PR.op (ex_move rfl) <| PR.nil) fun q215 F216 => ?_
    refine st_gskip F216 rfl rfl rfl Bool.noConfusion rfl rfl fun q217 F218 => ?_
    refine st_gskip F218 rfl rfl rfl Bool.noConfusion rfl rfl fun q219 F220 => ?_
    refine st_gskip F220 rfl rfl rfl Bool.noConfusion rfl rfl fun q221 F222 => ?_
    refine st_gskip F222 rfl rfl rfl Bool.noConfusion rfl rfl fun q223 F224 => ?_
    refine st_pr F224 (PR.op (ex_pick_f rfl rfl) <| PR.op (ex_move rfl) <| PR.nil) fun q225 F226 => ?_
    refine st_gskip F226 rfl rfl rfl Bool.noConfusion rfl rfl fun q227 F228 => ?_
    refine st_gskip F228 rfl rfl rfl Bool.noConfusion rfl rfl fun q229 F230 => ?_
    refine st_gskip F230 rfl rfl rfl Bool.noConfusion rfl rfl fun q231 F232 => ?_
    refine st_gskip F232 rfl rfl rfl Bool.noConfusion rfl rfl fun q233 F234 => ?_
    refine st_pr F234 (PR.op (ex_pick_f rfl rfl) <| PR.op (ex_asg rfl) <| PR.nil) fun q235 F236 => ?_
    refine st_end ?_
    refine then_n ?_
    obtain rfl := some_ok H
    refine wp_ret ?_
    refine ret_gen (rs := [.tmp 0]) (vs := [.bool false]) F236 (by rfl) ⟨_, _, rfl, RV.tmp rfl, rfl⟩ ⟨_, rfl, ⟨rfl, s29.drop⟩⟩
end Go.Proofs.Ytpcdphfneidalaa
