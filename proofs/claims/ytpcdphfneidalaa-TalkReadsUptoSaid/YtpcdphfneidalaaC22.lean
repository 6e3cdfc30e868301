/- The walk of proviso/talk.Heard. -/
import Derived.Test.YtpcdphfneidalaaFx
import Derived.Test.YtpcdphfneidalaaDf
import Derived.Test.YtpcdphfneidalaaC38
import Derived.Test.YtpcdphfneidalaaC39
import Derived.Test.YtpcdphfneidalaaC40
import Derived.Test.YtpcdphfneidalaaC41
import Derived.Test.YtpcdphfneidalaaC42
set_option linter.unusedVariables false
set_option linter.unusedSimpArgs false
namespace Go.Proofs.Ytpcdphfneidalaa
open Go Go.RowKit Go.Pv
theorem talk_Heard_c {w : World} {v0 : Value} {a0 : List UInt8} {r : S_api_Answer × Int} (hr0 : Rd Ty.u8 w [] v0 a0) (H : talk_Heard a0 = some r) :
    Calls Try.prog 22 #[v0] w (Ret fun u_ w_ => ∃ u0 : Value, u_ = .tuple ⟨[.agg ⟨[.int .i64 r.1.Status, u0]⟩, .int .i64 r.2]⟩ ∧ SL w [] w_ [Sl Ty.u8 u0 r.1.Data]) := by
  have s0 : SL w [] w [] := SL.init0 w
  refine call_enter Try.func22 rfl Try.ntmps22 (Nat.le_of_ble_eq_true rfl) (args := [v0]) fun q0 F0 => ?_
  unfold talk_Heard at H
  refine wp_seq ?_
  refine wp_reg ?_
  refine st_alloc F0 s0 Fx.zero41 rfl rfl fun g9 w10 q11 F12 s13 => ?_
  refine st_pr F12 (PR.op (ex_asg rfl) <| PR.nil) fun q15 F16 => ?_
  refine st_end ?_
  refine then_n ?_
  refine wp_seq ?_
  refine wp_seq ?_
  refine wp_reg ?_
  obtain ⟨x79, hx80, H⟩ := bind_ok H
  refine st_pr F16 (PR.op (ex_move rfl) <| PR.nil) fun q81 F82 => ?_
  refine st_call (args := [.tmp 9, .const (.int .u8 112), .const (.int .i64 4)]) F82 Fx.fn38 rfl (talk_fault_c (a0 := a0) (a1 := (112 : UInt8)) (a2 := 4)  (hr0.pass0 s13) hx80) rfl fun v83 w84 q85 hS87 F86 => ?_
  obtain ⟨rfl, hq89⟩ := hS87
  have s88 := s13.add hq89
  refine st_pr F86 (PR.op (ex_asg rfl) <| PR.nil) fun q90 F91 => ?_
  refine st_end ?_
  refine then_n ?_
  refine wp_seq ?_
  refine wp_reg ?_
  refine st_pr F91 (PR.op (ex_move rfl) <| PR.op (ex_ne rfl rfl) <| PR.nil) fun q94 F95 => ?_
  refine st_end ?_
  refine then_n ?_
  refine wp_if F95 rfl (fun hb96 => ?_) (fun hb96 => ?_)
  · replace H := ite_t hb96 H
    refine wp_seq ?_
    refine wp_reg ?_
    refine st_pr F95 (PR.op (ex_build (vs := []) Fx.zero41 Fx.pl41 rfl (cs := [.int .i64 0, .slice none 0 0]) (rfl)) <| PR.op (ex_move rfl) <| PR.nil) fun q106 F107 => ?_
    have s112 := s88
    refine st_storea F107 s112 rfl rfl Fx.sz41 (one_cons rfl (one_cons rfl one_nil)) (Nat.le_of_ble_eq_true rfl) fun w108 q109 F110 s111 => ?_
    replace s111 : SL w [] w108 [Blk g9 41 [.int .i64 0, .slice none 0 0]] := s111
    refine st_pr F110 (PR.op (ex_asg rfl) <| PR.nil) fun q113 F114 => ?_
    refine st_end ?_
    refine then_n ?_
    obtain rfl := some_ok H
    refine wp_ret ?_
    refine then_r ?_
    refine ret_gen (rs := [.cell 2 41, .tmp 3]) (vs := [.agg ⟨[.int .i64 0, .slice none 0 0]⟩, .int .i64 x79]) F114 (by rfl) ⟨_, _, rfl, RV.blk s111 (.head _) rfl Fx.agg41 rfl, _, _, rfl, RV.tmp rfl, rfl⟩ ⟨_, rfl, ⟨(.slice none 0 0), rfl, (SL.nilSl (T := Ty.u8) s111).f1.drop⟩⟩
  · replace H := ite_f hb96 H
    refine wp_skip ?_
    refine then_n ?_
    refine wp_seq ?_
    refine wp_reg ?_
    obtain ⟨x137, hx138, H⟩ := bind_ok H
    obtain ⟨v139, hsc140, hv141⟩ := Rd.cut hr0 Fx.sl22 rfl hx138 (some 1) none (.inl rfl) (.inr ⟨rfl, rfl⟩)
    obtain ⟨x142, hx143, H⟩ := bind_ok H
    refine st_pr F95 (PR.op (ex_move rfl) <| PR.op (hsc140 _ _ _ _ _ .i64 .i64 _ _ _ _ _ rfl rfl trivial) <| PR.nil) fun q144 F145 => ?_
    refine st_call (args := [.tmp 16]) F145 Fx.fn39 rfl (wire_Over_c (a0 := x137)  (hv141.pass0 s88) hx143) rfl fun v146 w147 q148 hS150 F149 => ?_
    obtain ⟨g153, v155, rfl, hq152⟩ := hS150
    have s151 := s88.add hq152
    refine st_pr F149 (PR.op (ex_asg rfl) <| PR.nil) fun q157 F158 => ?_
    refine st_end ?_
    refine then_n ?_
    refine wp_seq ?_
    refine wp_reg ?_
    refine st_alloc F158 s151 Fx.zero41 rfl rfl fun g165 w166 q167 F168 s169 => ?_
    refine st_end ?_
    refine then_n ?_
    refine wp_seq ?_
    refine wp_reg ?_
    obtain ⟨x197, hx198, H⟩ := bind_ok H
    refine st_pr F168 (PR.op (ex_move rfl) <| PR.nil) fun q199 F200 => ?_
    have s208 := s169.f2.f2
    obtain ⟨G213, hst209, hF210, hG211, hcl212⟩ := SL.open_ (ps := [Blk g153 81 [v155, .int .i64 x142.at_, .bool x142.made], Sl Ty.u8 v155 x142.b]) (rest := [Blk g165 41 [.int .i64 0, .slice none 0 0], Blk g9 41 [.int .i64 0, .slice none 0 0]]) s208
    refine st_call (args := [.tmp 19]) F200 Fx.fn41 rfl (wire_Reader_Word_c (a0 := (⟨x142.b, x142.at_, x142.made⟩ : S_wire_Reader)) hst209  hx198) rfl fun v201 w202 q203 hS205 F204 => ?_
    obtain ⟨v214, rfl, hq207⟩ := hS205
    have s206 := hcl212 _ _ hq207
    refine st_pr F204 (PR.op (ex_move rfl) <| PR.op (ex_extract (v := .int .i64 x197.1) rfl rfl) <| PR.op (ex_extract (v := .int .i64 x197.2.1) rfl rfl) <| PR.op (ex_fab Fx.fa41_0 rfl rfl) <| PR.nil) fun q216 F217 => ?_
    have s222 := s206.f2
    refine st_store F217 s222 rfl rfl Fx.sz3 rfl rfl rfl fun w218 q219 F220 s221 => ?_
    replace s221 : SL w [] w218 [Blk g165 41 [.int .i64 x197.1, .slice none 0 0], Blk g153 81 [v214, .int .i64 x197.2.2.at_, .bool x197.2.2.made], Sl Ty.u8 v214 x197.2.2.b, Blk g9 41 [.int .i64 0, .slice none 0 0]] := s221
    refine st_end ?_
    refine then_n ?_
    refine wp_seq ?_
    refine wp_reg ?_
    obtain ⟨x244, hx245, H⟩ := bind_ok H
    refine st_pr F220 (PR.op (ex_move rfl) <| PR.nil) fun q246 F247 => ?_
    have s255 := s221.f2.f2
    obtain ⟨G260, hst256, hF257, hG258, hcl259⟩ := SL.open_ (ps := [Blk g153 81 [v214, .int .i64 x197.2.2.at_, .bool x197.2.2.made], Sl Ty.u8 v214 x197.2.2.b]) (rest := [Blk g165 41 [.int .i64 x197.1, .slice none 0 0], Blk g9 41 [.int .i64 0, .slice none 0 0]]) s255
    refine st_call (args := [.tmp 25]) F247 Fx.fn40 rfl (wire_Reader_Byte_c (a0 := (⟨x197.2.2.b, x197.2.2.at_, x197.2.2.made⟩ : S_wire_Reader)) hst256  hx245) rfl fun v248 w249 q250 hS252 F251 => ?_
    obtain ⟨v261, rfl, hq254⟩ := hS252
    have s253 := hcl259 _ _ hq254
    refine st_pr F251 (PR.op (ex_move rfl) <| PR.op (ex_extract (v := .int .i64 x244.1) rfl rfl) <| PR.op (ex_extract (v := .int .i64 x244.2.1) rfl rfl) <| PR.op (ex_asg rfl) <| PR.op (ex_asg rfl) <| PR.nil) fun q263 F264 => ?_
    refine st_end ?_
    refine then_n ?_
    refine wp_seq ?_
    refine wp_reg ?_
    obtain ⟨x293, hx294, H⟩ := bind_ok H
    refine st_pr F264 (PR.op (ex_move rfl) <| PR.op (ex_move rfl) <| PR.nil) fun q295 F296 => ?_
    have s304 := s253.f1.f1
    obtain ⟨G309, hst305, hF306, hG307, hcl308⟩ := SL.open_ (ps := [Blk g153 81 [v261, .int .i64 x244.2.2.at_, .bool x244.2.2.made], Sl Ty.u8 v261 x244.2.2.b]) (rest := [Blk g165 41 [.int .i64 x197.1, .slice none 0 0], Blk g9 41 [.int .i64 0, .slice none 0 0]]) s304
    refine st_call (args := [.tmp 30, .tmp 31]) F296 Fx.fn42 rfl (wire_Reader_Take_c (a0 := (⟨x244.2.2.b, x244.2.2.at_, x244.2.2.made⟩ : S_wire_Reader)) (a1 := x244.1) hst305  hx294) rfl fun v297 w298 q299 hS301 F300 => ?_
    obtain ⟨v310, v312, rfl, hq303⟩ := hS301
    have s302 := hcl308 _ _ hq303
    refine st_pr F300 (PR.op (ex_move rfl) <| PR.op (ex_extract (v := v312) rfl rfl) <| PR.op (ex_extract (v := .int .i64 x293.2.1) rfl rfl) <| PR.op (ex_fab Fx.fa41_1 rfl rfl) <| PR.nil) fun q314 F315 => ?_
    have s320 := s302.f3
    refine st_store F315 s320 rfl rfl Fx.sz22 (form_cells (formL (s320.own_rd (.tail _ <| .tail _ <| .tail _ <| .head _)))) (form_one (formL (s320.own_rd (.tail _ <| .tail _ <| .tail _ <| .head _)))) rfl fun w316 q317 F318 s319 => ?_
    replace s319 : SL w [] w316 [Blk g165 41 [.int .i64 x197.1, v312], Blk g153 81 [v310, .int .i64 x293.2.2.at_, .bool x293.2.2.made], Sl Ty.u8 v310 x293.2.2.b, Sl Ty.u8 v312 x293.1, Blk g9 41 [.int .i64 0, .slice none 0 0]] := s319
    refine st_end ?_
    refine then_n ?_
    refine wp_seq ?_
    refine wp_reg ?_
    refine st_pr F318 (PR.op (ex_ldagg Fx.agg41 rfl (s319.blk_cells (.head _) (o := 0) (ds := [.int .i64 x197.1, v312]) (fun j u hu => by rw [Nat.zero_add]; exact hu)) rfl) <| PR.nil) fun q330 F331 => ?_
    have s336 := s319.f4
    refine st_storea F331 s336 rfl rfl Fx.sz41 (one_cons rfl (one_cons (form_one (formL (s336.own_rd (.tail _ <| .tail _ <| .tail _ <| .tail _ <| .head _)))) one_nil)) (Nat.le_of_ble_eq_true rfl) fun w332 q333 F334 s335 => ?_
    replace s335 : SL w [] w332 [Blk g9 41 [.int .i64 x197.1, v312], Blk g165 41 [.int .i64 x197.1, v312], Blk g153 81 [v310, .int .i64 x293.2.2.at_, .bool x293.2.2.made], Sl Ty.u8 v310 x293.2.2.b, Sl Ty.u8 v312 x293.1] := s335
    refine st_pr F334 (PR.op (ex_asg rfl) <| PR.nil) fun q337 F338 => ?_
    refine st_end ?_
    refine then_n ?_
    obtain rfl := some_ok H
    refine wp_ret ?_
    refine ret_gen (rs := [.cell 2 41, .tmp 3]) (vs := [.agg ⟨[.int .i64 x197.1, v312]⟩, .int .i64 0]) F338 (by rfl) ⟨_, _, rfl, RV.blk s335 (.head _) rfl Fx.agg41 rfl, _, _, rfl, RV.tmp rfl, rfl⟩ ⟨_, rfl, ⟨v312, rfl, s335.drop.drop.drop.drop⟩⟩
end Go.Proofs.Ytpcdphfneidalaa
