/- The walk of proviso/talk.Unpack. -/
import Derived.Test.YtpcdphfneidalaaFx
import Derived.Test.YtpcdphfneidalaaDf
import Derived.Test.YtpcdphfneidalaaC38
import Derived.Test.YtpcdphfneidalaaC39
import Derived.Test.YtpcdphfneidalaaC40
import Derived.Test.YtpcdphfneidalaaC41
import Derived.Test.YtpcdphfneidalaaC42
set_option linter.unusedVariables false
set_option linter.unusedSimpArgs false
namespace Go.Proofs.Ytpcdphfneidalaa
open Go Go.RowKit Go.Pv
theorem talk_Unpack_c {w : World} {v0 : Value} {a0 : List UInt8} {r : S_api_Request × Int} (hr0 : Rd Ty.u8 w [] v0 a0) (H : talk_Unpack a0 = some r) :
    Calls Try.prog 20 #[v0] w (Ret fun u_ w_ => ∃ u0 : Value, u_ = .tuple ⟨[.agg ⟨[.int .i64 r.1.Command, .int .i64 r.1.Number, u0]⟩, .int .i64 r.2]⟩ ∧ SL w [] w_ [Sl Ty.u8 u0 r.1.Data]) := by
  have s0 : SL w [] w [] := SL.init0 w
  refine call_enter Try.func20 rfl Try.ntmps20 (Nat.le_of_ble_eq_true rfl) (args := [v0]) fun q0 F0 => ?_
  unfold talk_Unpack at H
  refine wp_seq ?_
  refine wp_reg ?_
  refine st_alloc F0 s0 Fx.zero35 rfl rfl fun g9 w10 q11 F12 s13 => ?_
  refine st_pr F12 (PR.op (ex_asg rfl) <| PR.nil) fun q15 F16 => ?_
  refine st_end ?_
  refine then_n ?_
  refine wp_seq ?_
  refine wp_seq ?_
  refine wp_reg ?_
  obtain ⟨x79, hx80, H⟩ := bind_ok H
  refine st_pr F16 (PR.op (ex_move rfl) <| PR.nil) fun q81 F82 => ?_
  refine st_call (args := [.tmp 9, .const (.int .u8 80), .const (.int .i64 5)]) F82 Fx.fn38 rfl (talk_fault_c (a0 := a0) (a1 := (80 : UInt8)) (a2 := 5)  (hr0.pass0 s13) hx80) rfl fun v83 w84 q85 hS87 F86 => ?_
  obtain ⟨rfl, hq89⟩ := hS87
  have s88 := s13.add hq89
  refine st_pr F86 (PR.op (ex_asg rfl) <| PR.nil) fun q90 F91 => ?_
  refine st_end ?_
  refine then_n ?_
  refine wp_seq ?_
  refine wp_reg ?_
  refine st_pr F91 (PR.op (ex_move rfl) <| PR.op (ex_ne rfl rfl) <| PR.nil) fun q94 F95 => ?_
  refine st_end ?_
  refine then_n ?_
  refine wp_if F95 rfl (fun hb96 => ?_) (fun hb96 => ?_)
  · replace H := ite_t hb96 H
    refine wp_seq ?_
    refine wp_reg ?_
    refine st_pr F95 (PR.op (ex_build (vs := []) Fx.zero35 Fx.pl35 rfl (cs := [.int .i64 0, .int .i64 0, .slice none 0 0]) (rfl)) <| PR.op (ex_move rfl) <| PR.nil) fun q106 F107 => ?_
    have s112 := s88
    refine st_storea F107 s112 rfl rfl Fx.sz35 (one_cons rfl (one_cons rfl (one_cons rfl one_nil))) (Nat.le_of_ble_eq_true rfl) fun w108 q109 F110 s111 => ?_
    replace s111 : SL w [] w108 [Blk g9 35 [.int .i64 0, .int .i64 0, .slice none 0 0]] := s111
    refine st_pr F110 (PR.op (ex_asg rfl) <| PR.nil) fun q113 F114 => ?_
    refine st_end ?_
    refine then_n ?_
    obtain rfl := some_ok H
    refine wp_ret ?_
    refine then_r ?_
    refine ret_gen (rs := [.cell 2 35, .tmp 3]) (vs := [.agg ⟨[.int .i64 0, .int .i64 0, .slice none 0 0]⟩, .int .i64 x79]) F114 (by rfl) ⟨_, _, rfl, RV.blk s111 (.head _) rfl Fx.agg35 rfl, _, _, rfl, RV.tmp rfl, rfl⟩ ⟨_, rfl, ⟨(.slice none 0 0), rfl, (SL.nilSl (T := Ty.u8) s111).f1.drop⟩⟩
  · replace H := ite_f hb96 H
    refine wp_skip ?_
    refine then_n ?_
    refine wp_seq ?_
    refine wp_reg ?_
    obtain ⟨x137, hx138, H⟩ := bind_ok H
    obtain ⟨v139, hsc140, hv141⟩ := Rd.cut hr0 Fx.sl22 rfl hx138 (some 1) none (.inl rfl) (.inr ⟨rfl, rfl⟩)
    obtain ⟨x142, hx143, H⟩ := bind_ok H
    refine st_pr F95 (PR.op (ex_move rfl) <| PR.op (hsc140 _ _ _ _ _ .i64 .i64 _ _ _ _ _ rfl rfl trivial) <| PR.nil) fun q144 F145 => ?_
    refine st_call (args := [.tmp 16]) F145 Fx.fn39 rfl (wire_Over_c (a0 := x137)  (hv141.pass0 s88) hx143) rfl fun v146 w147 q148 hS150 F149 => ?_
    obtain ⟨g153, v155, rfl, hq152⟩ := hS150
    have s151 := s88.add hq152
    refine st_pr F149 (PR.op (ex_asg rfl) <| PR.nil) fun q157 F158 => ?_
    refine st_end ?_
    refine then_n ?_
    refine wp_seq ?_
    refine wp_reg ?_
    refine st_alloc F158 s151 Fx.zero35 rfl rfl fun g165 w166 q167 F168 s169 => ?_
    refine st_end ?_
    refine then_n ?_
    refine wp_seq ?_
    refine wp_reg ?_
    obtain ⟨x197, hx198, H⟩ := bind_ok H
    refine st_pr F168 (PR.op (ex_move rfl) <| PR.nil) fun q199 F200 => ?_
    have s208 := s169.f2.f2
    obtain ⟨G213, hst209, hF210, hG211, hcl212⟩ := SL.open_ (ps := [Blk g153 81 [v155, .int .i64 x142.at_, .bool x142.made], Sl Ty.u8 v155 x142.b]) (rest := [Blk g165 35 [.int .i64 0, .int .i64 0, .slice none 0 0], Blk g9 35 [.int .i64 0, .int .i64 0, .slice none 0 0]]) s208
    refine st_call (args := [.tmp 19]) F200 Fx.fn40 rfl (wire_Reader_Byte_c (a0 := (⟨x142.b, x142.at_, x142.made⟩ : S_wire_Reader)) hst209  hx198) rfl fun v201 w202 q203 hS205 F204 => ?_
    obtain ⟨v214, rfl, hq207⟩ := hS205
    have s206 := hcl212 _ _ hq207
    refine st_pr F204 (PR.op (ex_move rfl) <| PR.op (ex_extract (v := .int .i64 x197.1) rfl rfl) <| PR.op (ex_extract (v := .int .i64 x197.2.1) rfl rfl) <| PR.op (ex_fab Fx.fa35_0 rfl rfl) <| PR.nil) fun q216 F217 => ?_
    have s222 := s206.f2
    refine st_store F217 s222 rfl rfl Fx.sz3 rfl rfl rfl fun w218 q219 F220 s221 => ?_
    replace s221 : SL w [] w218 [Blk g165 35 [.int .i64 x197.1, .int .i64 0, .slice none 0 0], Blk g153 81 [v214, .int .i64 x197.2.2.at_, .bool x197.2.2.made], Sl Ty.u8 v214 x197.2.2.b, Blk g9 35 [.int .i64 0, .int .i64 0, .slice none 0 0]] := s221
    refine st_end ?_
    refine then_n ?_
    refine wp_seq ?_
    refine wp_reg ?_
    obtain ⟨x249, hx250, H⟩ := bind_ok H
    refine st_pr F220 (PR.op (ex_move rfl) <| PR.nil) fun q251 F252 => ?_
    have s260 := s221.f2.f2
    obtain ⟨G265, hst261, hF262, hG263, hcl264⟩ := SL.open_ (ps := [Blk g153 81 [v214, .int .i64 x197.2.2.at_, .bool x197.2.2.made], Sl Ty.u8 v214 x197.2.2.b]) (rest := [Blk g165 35 [.int .i64 x197.1, .int .i64 0, .slice none 0 0], Blk g9 35 [.int .i64 0, .int .i64 0, .slice none 0 0]]) s260
    refine st_call (args := [.tmp 25]) F252 Fx.fn41 rfl (wire_Reader_Word_c (a0 := (⟨x197.2.2.b, x197.2.2.at_, x197.2.2.made⟩ : S_wire_Reader)) hst261  hx250) rfl fun v253 w254 q255 hS257 F256 => ?_
    obtain ⟨v266, rfl, hq259⟩ := hS257
    have s258 := hcl264 _ _ hq259
    refine st_pr F256 (PR.op (ex_move rfl) <| PR.op (ex_extract (v := .int .i64 x249.1) rfl rfl) <| PR.op (ex_extract (v := .int .i64 x249.2.1) rfl rfl) <| PR.op (ex_fab Fx.fa35_1 rfl rfl) <| PR.nil) fun q268 F269 => ?_
    have s274 := s258.f2
    refine st_store F269 s274 rfl rfl Fx.sz3 rfl rfl rfl fun w270 q271 F272 s273 => ?_
    replace s273 : SL w [] w270 [Blk g165 35 [.int .i64 x197.1, .int .i64 x249.1, .slice none 0 0], Blk g153 81 [v266, .int .i64 x249.2.2.at_, .bool x249.2.2.made], Sl Ty.u8 v266 x249.2.2.b, Blk g9 35 [.int .i64 0, .int .i64 0, .slice none 0 0]] := s273
    refine st_end ?_
    refine then_n ?_
    refine wp_seq ?_
    refine wp_reg ?_
    obtain ⟨x296, hx297, H⟩ := bind_ok H
    refine st_pr F272 (PR.op (ex_move rfl) <| PR.nil) fun q298 F299 => ?_
    have s307 := s273.f2.f2
    obtain ⟨G312, hst308, hF309, hG310, hcl311⟩ := SL.open_ (ps := [Blk g153 81 [v266, .int .i64 x249.2.2.at_, .bool x249.2.2.made], Sl Ty.u8 v266 x249.2.2.b]) (rest := [Blk g165 35 [.int .i64 x197.1, .int .i64 x249.1, .slice none 0 0], Blk g9 35 [.int .i64 0, .int .i64 0, .slice none 0 0]]) s307
    refine st_call (args := [.tmp 31]) F299 Fx.fn40 rfl (wire_Reader_Byte_c (a0 := (⟨x249.2.2.b, x249.2.2.at_, x249.2.2.made⟩ : S_wire_Reader)) hst308  hx297) rfl fun v300 w301 q302 hS304 F303 => ?_
    obtain ⟨v313, rfl, hq306⟩ := hS304
    have s305 := hcl311 _ _ hq306
    refine st_pr F303 (PR.op (ex_move rfl) <| PR.op (ex_extract (v := .int .i64 x296.1) rfl rfl) <| PR.op (ex_extract (v := .int .i64 x296.2.1) rfl rfl) <| PR.op (ex_asg rfl) <| PR.op (ex_asg rfl) <| PR.nil) fun q315 F316 => ?_
    refine st_end ?_
    refine then_n ?_
    refine wp_seq ?_
    refine wp_reg ?_
    obtain ⟨x345, hx346, H⟩ := bind_ok H
    refine st_pr F316 (PR.op (ex_move rfl) <| PR.op (ex_move rfl) <| PR.nil) fun q347 F348 => ?_
    have s356 := s305.f1.f1
    obtain ⟨G361, hst357, hF358, hG359, hcl360⟩ := SL.open_ (ps := [Blk g153 81 [v313, .int .i64 x296.2.2.at_, .bool x296.2.2.made], Sl Ty.u8 v313 x296.2.2.b]) (rest := [Blk g165 35 [.int .i64 x197.1, .int .i64 x249.1, .slice none 0 0], Blk g9 35 [.int .i64 0, .int .i64 0, .slice none 0 0]]) s356
    refine st_call (args := [.tmp 36, .tmp 37]) F348 Fx.fn42 rfl (wire_Reader_Take_c (a0 := (⟨x296.2.2.b, x296.2.2.at_, x296.2.2.made⟩ : S_wire_Reader)) (a1 := x296.1) hst357  hx346) rfl fun v349 w350 q351 hS353 F352 => ?_
    obtain ⟨v362, v364, rfl, hq355⟩ := hS353
    have s354 := hcl360 _ _ hq355
    refine st_pr F352 (PR.op (ex_move rfl) <| PR.op (ex_extract (v := v364) rfl rfl) <| PR.op (ex_extract (v := .int .i64 x345.2.1) rfl rfl) <| PR.op (ex_fab Fx.fa35_2 rfl rfl) <| PR.nil) fun q366 F367 => ?_
    have s372 := s354.f3
    refine st_store F367 s372 rfl rfl Fx.sz22 (form_cells (formL (s372.own_rd (.tail _ <| .tail _ <| .tail _ <| .head _)))) (form_one (formL (s372.own_rd (.tail _ <| .tail _ <| .tail _ <| .head _)))) rfl fun w368 q369 F370 s371 => ?_
    replace s371 : SL w [] w368 [Blk g165 35 [.int .i64 x197.1, .int .i64 x249.1, v364], Blk g153 81 [v362, .int .i64 x345.2.2.at_, .bool x345.2.2.made], Sl Ty.u8 v362 x345.2.2.b, Sl Ty.u8 v364 x345.1, Blk g9 35 [.int .i64 0, .int .i64 0, .slice none 0 0]] := s371
    refine st_end ?_
    refine then_n ?_
    refine wp_seq ?_
    refine wp_reg ?_
    refine st_pr F370 (PR.op (ex_ldagg Fx.agg35 rfl (s371.blk_cells (.head _) (o := 0) (ds := [.int .i64 x197.1, .int .i64 x249.1, v364]) (fun j u hu => by rw [Nat.zero_add]; exact hu)) rfl) <| PR.nil) fun q382 F383 => ?_
    have s388 := s371.f4
    refine st_storea F383 s388 rfl rfl Fx.sz35 (one_cons rfl (one_cons rfl (one_cons (form_one (formL (s388.own_rd (.tail _ <| .tail _ <| .tail _ <| .tail _ <| .head _)))) one_nil))) (Nat.le_of_ble_eq_true rfl) fun w384 q385 F386 s387 => ?_
    replace s387 : SL w [] w384 [Blk g9 35 [.int .i64 x197.1, .int .i64 x249.1, v364], Blk g165 35 [.int .i64 x197.1, .int .i64 x249.1, v364], Blk g153 81 [v362, .int .i64 x345.2.2.at_, .bool x345.2.2.made], Sl Ty.u8 v362 x345.2.2.b, Sl Ty.u8 v364 x345.1] := s387
    refine st_pr F386 (PR.op (ex_asg rfl) <| PR.nil) fun q389 F390 => ?_
    refine st_end ?_
    refine then_n ?_
    obtain rfl := some_ok H
    refine wp_ret ?_
    refine ret_gen (rs := [.cell 2 35, .tmp 3]) (vs := [.agg ⟨[.int .i64 x197.1, .int .i64 x249.1, v364]⟩, .int .i64 0]) F390 (by rfl) ⟨_, _, rfl, RV.blk s387 (.head _) rfl Fx.agg35 rfl, _, _, rfl, RV.tmp rfl, rfl⟩ ⟨_, rfl, ⟨v364, rfl, s387.drop.drop.drop.drop⟩⟩
end Go.Proofs.Ytpcdphfneidalaa
