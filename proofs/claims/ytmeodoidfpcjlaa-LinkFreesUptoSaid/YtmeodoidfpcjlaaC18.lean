/- The walk of proviso/provisoplain.Module. -/
import Derived.Test.YtmeodoidfpcjlaaFx
import Derived.Test.YtmeodoidfpcjlaaDf
import Derived.Test.YtmeodoidfpcjlaaC24
import Derived.Test.YtmeodoidfpcjlaaC31
import Derived.Test.YtmeodoidfpcjlaaC38
set_option linter.unusedVariables false
set_option linter.unusedSimpArgs false
namespace Go.Proofs.Ytmeodoidfpcjlaa
open Go Go.RowKit Go.Pv
theorem provisoplain_Module_c {w : World} {v0_1 v0_2 v0_3 : Value} {a0 : S_api_Module} {r : S_api_Module} (hr0_1 : Rd T_api_Class w [] v0_1 a0.Classes) (hr0_2 : Rd T_api_Func w [] v0_2 a0.Funcs) (hr0_3 : Rd (Ty.slice Ty.u8) w [] v0_3 a0.Certs) (H : provisoplain_Module a0 = some r) :
    Calls Try.prog 18 #[.agg ⟨[.string ⟨⟨a0.Name⟩⟩, v0_1, v0_2, v0_3]⟩] w (Ret fun u_ w_ => ∃ u0 u1 u2 : Value, u_ = .agg ⟨[.string ⟨⟨r.Name⟩⟩, u0, u1, u2]⟩ ∧ SL w [] w_ [Sl T_api_Class u0 r.Classes, Sl T_api_Func u1 r.Funcs, Sl (Ty.slice Ty.u8) u2 r.Certs]) := by
  have s0 : SL w [] w [] := SL.init0 w
  refine call_enter Try.func18 rfl Try.ntmps18 (Nat.le_of_ble_eq_true rfl) (args := [.agg ⟨[.string ⟨⟨a0.Name⟩⟩, v0_1, v0_2, v0_3]⟩]) fun q0 F0 => ?_
  unfold provisoplain_Module at H
  refine wp_seq ?_
  refine wp_reg ?_
  refine st_box F0 s0 rfl rfl rfl fun g13 w14 q15 F16 s17 => ?_
  refine st_alloc F16 s17 Fx.zero43 rfl rfl fun g19 w20 q21 F22 s23 => ?_
  refine st_end ?_
  refine then_n ?_
  refine wp_seq ?_
  obtain ⟨o249, H250, R251⟩ := bind_ok H
  clear H
  refine wp_cutn (fun a w_ => ∃ g254 : Nat, ∃ v252 : Value, Fr a 45 [(1, .pointer (some ⟨g13, 0, none⟩)), (2, .pointer (some ⟨g19, 0, none⟩)), (3, .pointer (some ⟨g254, 0, none⟩))] ∧ SL w [] w_ [Blk g19 43 [.string ⟨⟨[]⟩⟩, .slice none 0 0, .slice none 0 0, .slice none 0 0], Blk g13 43 [.string ⟨⟨a0.Name⟩⟩, v0_1, v0_2, v0_3], Sl T_api_Class v252 o249, Blk g254 43 [.string ⟨⟨a0.Name⟩⟩, v252, .slice none 0 0, .slice none 0 0]]) ?_ ?_
  · have H := H250
    obtain ⟨x258, hx259, H⟩ := bind_ok H
    refine wp_regh Fx.mixed (fun w_ => SL w [] w_ [Blk g19 43 [.string ⟨⟨[]⟩⟩, .slice none 0 0, .slice none 0 0, .slice none 0 0], Blk g13 43 [.string ⟨⟨a0.Name⟩⟩, v0_1, v0_2, v0_3]]) ?_
    have s281 := s23.drew
    have s282 : SL w [] _ [Blk g19 43 [.string ⟨⟨[]⟩⟩, .slice none 0 0, .slice none 0 0, .slice none 0 0], Blk g13 43 [.string ⟨⟨a0.Name⟩⟩, v0_1, v0_2, v0_3]] := s281
    refine hd_take (i := 0) rfl (by kernel_rfl) (by kernel_rfl) (by kernel_rfl) (fun _ hC => ex_fab Fx.fa43_0 rfl rfl) rfl rfl rfl F22 s282 fun q283 F284 => ?_
    refine hd_take (i := 1) rfl (by kernel_rfl) (by kernel_rfl) (by kernel_rfl) (fun _ hC => ex_ld Fx.nag9 rfl (hC.blk_cell (.tail _ <| .head _) rfl)) rfl rfl rfl F284 s282 fun q285 F286 => ?_
    refine hd_take (i := 2) rfl (by kernel_rfl) (by kernel_rfl) (by kernel_rfl) (fun _ hC => ex_fab Fx.fa43_1 rfl rfl) rfl rfl rfl F286 s282 fun q287 F288 => ?_
    refine hd_take (i := 3) rfl (by kernel_rfl) (by kernel_rfl) (by kernel_rfl) (fun _ hC => ex_ld Fx.nag40 rfl (hC.blk_cell (.tail _ <| .head _) rfl)) rfl rfl rfl F288 s282 fun q289 F290 => ?_
    refine hd_many (rs := [4, 6]) (by kernel_rfl) (by decide) (hd_cons (wpOp_of rfl ?_) (hd_cons (wpOp_of rfl ?_) (hd_nil)))
    · refine st_call (args := [.tmp 11]) F290 Fx.fn38 rfl (provisoplain_Classes_c (a0 := a0.Classes)  (hr0_1.pass0 s281) hx259) rfl fun v295 w296 q297 hS299 F298 => ?_
      obtain ⟨_, rfl, hq301⟩ := hS299
      have s300 := s281.add hq301
      have s304 : SL w [] _ [Blk g19 43 [.string ⟨⟨[]⟩⟩, .slice none 0 0, .slice none 0 0, .slice none 0 0], Blk g13 43 [.string ⟨⟨a0.Name⟩⟩, v0_1, v0_2, v0_3]] := s300.drop
      refine kq_end ⟨s304, ?_⟩
      refine hd_many (rs := [5, 6]) (by kernel_rfl) (by decide) (hd_cons (wpOp_of rfl ?_) (hd_cons (wpOp_of rfl ?_) (hd_nil)))
      · have hv305 := (formL (s300.own_rd (.head _)))
        refine st_op F298 (ex_build (vs := [.string ⟨⟨a0.Name⟩⟩, v295]) Fx.zero43 Fx.pl43 rfl (cs := [.string ⟨⟨a0.Name⟩⟩, v295, .slice none 0 0, .slice none 0 0]) (by obtain ⟨_, _, e_0⟩ := hv305; rw [e_0] <;> rfl)) rfl rfl rfl fun q306 F307 => ?_
        have s308 : SL w [] _ [Blk g19 43 [.string ⟨⟨[]⟩⟩, .slice none 0 0, .slice none 0 0, .slice none 0 0], Blk g13 43 [.string ⟨⟨a0.Name⟩⟩, v0_1, v0_2, v0_3]] := s300.drop
        refine kq_end ⟨s308, ?_⟩
        refine hd_one (i := 6) rfl (by kernel_rfl) ?_
        refine st_alloc F307 s300 Fx.zero43 rfl rfl fun g309 w310 q311 F312 s313 => ?_
        have s315 : SL w [] _ [Blk g19 43 [.string ⟨⟨[]⟩⟩, .slice none 0 0, .slice none 0 0, .slice none 0 0], Blk g13 43 [.string ⟨⟨a0.Name⟩⟩, v0_1, v0_2, v0_3]] := s313.drop.drop
        refine kq_end ⟨s315, ?_⟩
        refine hd_one (i := 7) rfl (by kernel_rfl) ?_
        have s320 := s313
        refine st_storea F312 s320 rfl rfl Fx.sz43 (one_cons rfl (one_cons (form_one (formL (s320.own_rd (.tail _ <| .head _)))) (one_cons rfl (one_cons rfl one_nil)))) (Nat.le_of_ble_eq_true rfl) fun w316 q317 F318 s319 => ?_
        replace s319 : SL w [] w316 [Blk g309 43 [.string ⟨⟨a0.Name⟩⟩, v295, .slice none 0 0, .slice none 0 0], Sl T_api_Class v295 x258, Blk g19 43 [.string ⟨⟨[]⟩⟩, .slice none 0 0, .slice none 0 0, .slice none 0 0], Blk g13 43 [.string ⟨⟨a0.Name⟩⟩, v0_1, v0_2, v0_3]] := s319
        have s321 : SL w [] _ [Blk g19 43 [.string ⟨⟨[]⟩⟩, .slice none 0 0, .slice none 0 0, .slice none 0 0], Blk g13 43 [.string ⟨⟨a0.Name⟩⟩, v0_1, v0_2, v0_3]] := s319.drop.drop
        refine kq_end ⟨s321, ?_⟩
        refine hd_done (by kernel_rfl) ?_
        obtain rfl := some_ok H
        refine then_n ?_
        exact ⟨g309, v295, F318.sub ⟨rfl, rfl, rfl, trivial⟩, s319.f1.f3.f3⟩
      · refine st_alloc F298 s300 Fx.zero43 rfl rfl fun g322 w323 q324 F325 s326 => ?_
        have s328 : SL w [] _ [Blk g19 43 [.string ⟨⟨[]⟩⟩, .slice none 0 0, .slice none 0 0, .slice none 0 0], Blk g13 43 [.string ⟨⟨a0.Name⟩⟩, v0_1, v0_2, v0_3]] := s326.drop.drop
        refine kq_end ⟨s328, ?_⟩
        refine hd_one (i := 5) rfl (by kernel_rfl) ?_
        have hv329 := (formL (s326.own_rd (.tail _ <| .head _)))
        refine st_op F325 (ex_build (vs := [.string ⟨⟨a0.Name⟩⟩, v295]) Fx.zero43 Fx.pl43 rfl (cs := [.string ⟨⟨a0.Name⟩⟩, v295, .slice none 0 0, .slice none 0 0]) (by obtain ⟨_, _, e_0⟩ := hv329; rw [e_0] <;> rfl)) rfl rfl rfl fun q330 F331 => ?_
        have s332 : SL w [] _ [Blk g19 43 [.string ⟨⟨[]⟩⟩, .slice none 0 0, .slice none 0 0, .slice none 0 0], Blk g13 43 [.string ⟨⟨a0.Name⟩⟩, v0_1, v0_2, v0_3]] := s326.drop.drop
        refine kq_end ⟨s332, ?_⟩
        refine hd_one (i := 7) rfl (by kernel_rfl) ?_
        have s337 := s326
        refine st_storea F331 s337 rfl rfl Fx.sz43 (one_cons rfl (one_cons (form_one (formL (s337.own_rd (.tail _ <| .head _)))) (one_cons rfl (one_cons rfl one_nil)))) (Nat.le_of_ble_eq_true rfl) fun w333 q334 F335 s336 => ?_
        replace s336 : SL w [] w333 [Blk g322 43 [.string ⟨⟨a0.Name⟩⟩, v295, .slice none 0 0, .slice none 0 0], Sl T_api_Class v295 x258, Blk g19 43 [.string ⟨⟨[]⟩⟩, .slice none 0 0, .slice none 0 0, .slice none 0 0], Blk g13 43 [.string ⟨⟨a0.Name⟩⟩, v0_1, v0_2, v0_3]] := s336
        have s338 : SL w [] _ [Blk g19 43 [.string ⟨⟨[]⟩⟩, .slice none 0 0, .slice none 0 0, .slice none 0 0], Blk g13 43 [.string ⟨⟨a0.Name⟩⟩, v0_1, v0_2, v0_3]] := s336.drop.drop
        refine kq_end ⟨s338, ?_⟩
        refine hd_done (by kernel_rfl) ?_
        obtain rfl := some_ok H
        refine then_n ?_
        exact ⟨g322, v295, F335.sub ⟨rfl, rfl, rfl, trivial⟩, s336.f1.f3.f3⟩
    · refine st_alloc F290 s281 Fx.zero43 rfl rfl fun g339 w340 q341 F342 s343 => ?_
      have s345 : SL w [] _ [Blk g19 43 [.string ⟨⟨[]⟩⟩, .slice none 0 0, .slice none 0 0, .slice none 0 0], Blk g13 43 [.string ⟨⟨a0.Name⟩⟩, v0_1, v0_2, v0_3]] := s343.drop
      refine kq_end ⟨s345, ?_⟩
      refine hd_one (i := 4) rfl (by kernel_rfl) ?_
      refine st_call (args := [.tmp 11]) F342 Fx.fn38 rfl (provisoplain_Classes_c (a0 := a0.Classes)  (hr0_1.pass0 s343) hx259) rfl fun v348 w349 q350 hS352 F351 => ?_
      obtain ⟨_, rfl, hq354⟩ := hS352
      have s353 := s343.add hq354
      have s357 : SL w [] _ [Blk g19 43 [.string ⟨⟨[]⟩⟩, .slice none 0 0, .slice none 0 0, .slice none 0 0], Blk g13 43 [.string ⟨⟨a0.Name⟩⟩, v0_1, v0_2, v0_3]] := s353.drop.drop
      refine kq_end ⟨s357, ?_⟩
      refine hd_one (i := 5) rfl (by kernel_rfl) ?_
      have hv358 := (formL (s353.own_rd (.head _)))
      refine st_op F351 (ex_build (vs := [.string ⟨⟨a0.Name⟩⟩, v348]) Fx.zero43 Fx.pl43 rfl (cs := [.string ⟨⟨a0.Name⟩⟩, v348, .slice none 0 0, .slice none 0 0]) (by obtain ⟨_, _, e_0⟩ := hv358; rw [e_0] <;> rfl)) rfl rfl rfl fun q359 F360 => ?_
      have s361 : SL w [] _ [Blk g19 43 [.string ⟨⟨[]⟩⟩, .slice none 0 0, .slice none 0 0, .slice none 0 0], Blk g13 43 [.string ⟨⟨a0.Name⟩⟩, v0_1, v0_2, v0_3]] := s353.drop.drop
      refine kq_end ⟨s361, ?_⟩
      refine hd_one (i := 7) rfl (by kernel_rfl) ?_
      have s366 := s353.f1
      refine st_storea F360 s366 rfl rfl Fx.sz43 (one_cons rfl (one_cons (form_one (formL (s366.own_rd (.tail _ <| .head _)))) (one_cons rfl (one_cons rfl one_nil)))) (Nat.le_of_ble_eq_true rfl) fun w362 q363 F364 s365 => ?_
      replace s365 : SL w [] w362 [Blk g339 43 [.string ⟨⟨a0.Name⟩⟩, v348, .slice none 0 0, .slice none 0 0], Sl T_api_Class v348 x258, Blk g19 43 [.string ⟨⟨[]⟩⟩, .slice none 0 0, .slice none 0 0, .slice none 0 0], Blk g13 43 [.string ⟨⟨a0.Name⟩⟩, v0_1, v0_2, v0_3]] := s365
      have s367 : SL w [] _ [Blk g19 43 [.string ⟨⟨[]⟩⟩, .slice none 0 0, .slice none 0 0, .slice none 0 0], Blk g13 43 [.string ⟨⟨a0.Name⟩⟩, v0_1, v0_2, v0_3]] := s365.drop.drop
      refine kq_end ⟨s367, ?_⟩
      refine hd_done (by kernel_rfl) ?_
      obtain rfl := some_ok H
      refine then_n ?_
      exact ⟨g339, v348, F364.sub ⟨rfl, rfl, rfl, trivial⟩, s365.f1.f3.f3⟩
  · intro q370 w371 hJ
    obtain ⟨g254, v252, F368, s369⟩ := hJ
    have H := R251
    clear R251 H250
    refine then_n ?_
    refine wp_seq ?_
    refine wp_seq ?_
    refine wp_reg ?_
    refine st_pr F368 (PR.op (ex_fab Fx.fa43_2 rfl rfl) <| PR.op (ex_ld Fx.nag41 rfl (s369.blk_cell (.tail _ <| .head _) rfl)) <| PR.op (ex_len rfl Try.underlying41 (formL (rdL hr0_2 s369))) <| PR.op (ex_move rfl) <| PR.nil) fun q6089 F6090 => ?_
    refine st_end ?_
    refine then_n ?_
    obtain ⟨o8942, H8943, R8944⟩ := bind_ok H
    clear H
    refine wp_cutn (fun a w_ => ∃ v8945 : Value, Fr a 45 [(1, .pointer (some ⟨g13, 0, none⟩)), (2, .pointer (some ⟨g19, 0, none⟩)), (3, .pointer (some ⟨g254, 0, none⟩))] ∧ SL w [] w_ [Blk g19 43 [.string ⟨⟨[]⟩⟩, .slice none 0 0, .slice none 0 0, .slice none 0 0], Blk g13 43 [.string ⟨⟨a0.Name⟩⟩, v0_1, v0_2, v0_3], Sl T_api_Class v252 o249, Blk g254 43 [.string ⟨⟨a0.Name⟩⟩, v252, v8945, .slice none 0 0], Sl T_api_Func v8945 o8942]) ?_ ?_
    · have H := H8943
      refine wp_block ?_
      refine wp_lp (provisoplain_Module_b0 a0) (fun s8947 a w_ => ∃ v10304 : Value, Fr a 45 [(1, .pointer (some ⟨g13, 0, none⟩)), (2, .pointer (some ⟨g19, 0, none⟩)), (3, .pointer (some ⟨g254, 0, none⟩)), (15, v0_2), (16, .int .i64 (a0.Funcs.length : Int)), (17, .int .i64 s8947.2)] ∧ SL w [] w_ [Blk g19 43 [.string ⟨⟨[]⟩⟩, .slice none 0 0, .slice none 0 0, .slice none 0 0], Blk g13 43 [.string ⟨⟨a0.Name⟩⟩, v0_1, v0_2, v0_3], Sl T_api_Class v252 o249, Blk g254 43 [.string ⟨⟨a0.Name⟩⟩, v252, v10304, .slice none 0 0], Sl T_api_Func v10304 s8947.1]) H ?_ ?_
      · exact ⟨(.slice none 0 0), F6090.sub ⟨rfl, rfl, rfl, rfl, rfl, rfl, trivial⟩, (SL.nilSl (T := T_api_Func) s369).f4.f4.f4.f4⟩
      · intro s8947 q11053 w11054 hI11055 o11052 H hr
        obtain ⟨v10304, F11050, s11051⟩ := hI11055
        replace H : provisoplain_Module_b0 a0 s8947 = some o11052 := H
        unfold provisoplain_Module_b0 at H
        refine wp_seq ?_
        refine wp_reg ?_
        refine st_pr F11050 (PR.op (ex_lt rfl rfl) <| PR.nil) fun q11058 F11059 => ?_
        refine st_end ?_
        refine then_n ?_
        refine wp_seq ?_
        refine wp_if F11059 rfl (fun hb11061 => ?_) (fun hb11061 => ?_)
        · replace H := ite_t hb11061 H
          refine wp_skip ?_
          refine then_n ?_
          refine wp_seq ?_
          refine wp_block ?_
          refine wp_seq ?_
          refine wp_reg ?_
          obtain ⟨x11453, hx11454, H⟩ := bind_ok H
          obtain ⟨ad11455, cs11458, G11459, hi11456, hc11457, hr11460, hG11461⟩ := Rd.idx hr0_2 Fx.sl41 rfl hx11454
          obtain ⟨v11462, v11464, rfl, hr11463, hr11465⟩ := (R_api_Func hr11460 hG11461)
          replace hc11457 := hc11457 _ _ s11051
          refine st_pr F11059 (PR.op (hi11456 _ _ _ _ _ _ _ _ _ _ rfl rfl) <| PR.op (ex_ldagg Fx.agg56 rfl hc11457 rfl) <| PR.nil) fun q11466 F11467 => ?_
          refine st_alloc F11467 s11051 Fx.zero56 rfl rfl fun g11468 w11469 q11470 F11471 s11472 => ?_
          have s11478 := s11472
          refine st_storea F11471 s11478 rfl rfl Fx.sz56 (one_cons rfl (one_cons (form_one (formL (rdL hr11463 s11478))) (one_cons rfl (one_cons rfl (one_cons (form_one (formL (rdL hr11465 s11478))) one_nil))))) (Nat.le_of_ble_eq_true rfl) fun w11474 q11475 F11476 s11477 => ?_
          replace s11477 : SL w [] w11474 [Blk g11468 56 [.string ⟨⟨x11453.Name⟩⟩, v11462, .int .u8 (x11453.Sig.Result.toNat : Int), .int .i64 x11453.Locals, v11464], Blk g19 43 [.string ⟨⟨[]⟩⟩, .slice none 0 0, .slice none 0 0, .slice none 0 0], Blk g13 43 [.string ⟨⟨a0.Name⟩⟩, v0_1, v0_2, v0_3], Sl T_api_Class v252 o249, Blk g254 43 [.string ⟨⟨a0.Name⟩⟩, v252, v10304, .slice none 0 0], Sl T_api_Func v10304 s8947.1] := s11477
          refine st_end ?_
          refine then_n ?_
          obtain ⟨x11636, hx11637, H⟩ := bind_ok H
          obtain ⟨x11657, hx11658, H⟩ := bind_ok H
          refine wp_regh Fx.mixed (fun w_ => SL w [] w_ [Blk g11468 56 [.string ⟨⟨x11453.Name⟩⟩, v11462, .int .u8 (x11453.Sig.Result.toNat : Int), .int .i64 x11453.Locals, v11464], Blk g19 43 [.string ⟨⟨[]⟩⟩, .slice none 0 0, .slice none 0 0, .slice none 0 0], Blk g13 43 [.string ⟨⟨a0.Name⟩⟩, v0_1, v0_2, v0_3], Sl T_api_Class v252 o249]) ?_
          have s11669 := s11477.drew
          have s11670 : SL w [] _ [Blk g11468 56 [.string ⟨⟨x11453.Name⟩⟩, v11462, .int .u8 (x11453.Sig.Result.toNat : Int), .int .i64 x11453.Locals, v11464], Blk g19 43 [.string ⟨⟨[]⟩⟩, .slice none 0 0, .slice none 0 0, .slice none 0 0], Blk g13 43 [.string ⟨⟨a0.Name⟩⟩, v0_1, v0_2, v0_3], Sl T_api_Class v252 o249] := s11669.f4.drop.f4.drop
          refine hd_take (i := 0) rfl (by kernel_rfl) (by kernel_rfl) (by kernel_rfl) (fun _ hC => ex_fab Fx.fa43_2 rfl rfl) rfl rfl rfl F11476 s11670 fun q11671 F11672 => ?_
          refine hd_take (i := 2) rfl (by kernel_rfl) (by kernel_rfl) (by kernel_rfl) (fun _ hC => ex_ldagg Fx.agg56 rfl (hC.blk_cells (.head _) (o := 0) (ds := [.string ⟨⟨x11453.Name⟩⟩, v11462, .int .u8 (x11453.Sig.Result.toNat : Int), .int .i64 x11453.Locals, v11464]) (fun j u hu => by rw [Nat.zero_add]; exact hu)) rfl) rfl rfl rfl F11672 s11670 fun q11673 F11674 => ?_
          refine hd_many (rs := [1, 3]) (by kernel_rfl) (by decide) (hd_cons (wpOp_of rfl ?_) (hd_cons (wpOp_of rfl ?_) (hd_nil)))
          · refine st_op F11674 (ex_ld Fx.nag41 rfl (s11669.blk_cell (.tail _ <| .tail _ <| .tail _ <| .tail _ <| .head _) rfl)) rfl rfl rfl fun q11677 F11678 => ?_
            have s11679 : SL w [] _ [Blk g11468 56 [.string ⟨⟨x11453.Name⟩⟩, v11462, .int .u8 (x11453.Sig.Result.toNat : Int), .int .i64 x11453.Locals, v11464], Blk g19 43 [.string ⟨⟨[]⟩⟩, .slice none 0 0, .slice none 0 0, .slice none 0 0], Blk g13 43 [.string ⟨⟨a0.Name⟩⟩, v0_1, v0_2, v0_3], Sl T_api_Class v252 o249] := s11669.f4.drop.f4.drop
            refine kq_end ⟨s11679, ?_⟩
            refine hd_one (i := 3) rfl (by kernel_rfl) ?_
            refine st_call (args := [.tmp 23]) F11678 Fx.fn24 rfl (provisoplain_Func_c (a0 := (⟨x11453.Name, (⟨x11453.Sig.Params, x11453.Sig.Result⟩ : S_api_Sig), x11453.Locals, x11453.Code⟩ : S_api_Func))  (hr11463.pass0 s11669) (hr11465.pass0 s11669) hx11637) rfl fun v11682 w11683 q11684 hS11686 F11685 => ?_
            obtain ⟨v11689, v11691, rfl, hq11688⟩ := hS11686
            have s11687 := s11669.add hq11688
            have s11693 : SL w [] _ [Blk g11468 56 [.string ⟨⟨x11453.Name⟩⟩, v11462, .int .u8 (x11453.Sig.Result.toNat : Int), .int .i64 x11453.Locals, v11464], Blk g19 43 [.string ⟨⟨[]⟩⟩, .slice none 0 0, .slice none 0 0, .slice none 0 0], Blk g13 43 [.string ⟨⟨a0.Name⟩⟩, v0_1, v0_2, v0_3], Sl T_api_Class v252 o249] := s11687.drop.drop.f4.drop.f4.drop
            refine kq_end ⟨s11693, ?_⟩
            refine hd_one (i := 4) rfl (by kernel_rfl) ?_
            have s11701 : SL w [] _ (Dt T_api_Func (⟨x11636.Name, (⟨x11636.Sig.Params, x11636.Sig.Result⟩ : S_api_Sig), x11636.Locals, x11636.Code⟩ : S_api_Func) [.string ⟨⟨x11636.Name⟩⟩, v11689, .int .u8 (x11636.Sig.Result.toNat : Int), .int .i64 x11636.Locals, v11691] :: [Blk g11468 56 [.string ⟨⟨x11453.Name⟩⟩, v11462, .int .u8 (x11453.Sig.Result.toNat : Int), .int .i64 x11453.Locals, v11464], Blk g19 43 [.string ⟨⟨[]⟩⟩, .slice none 0 0, .slice none 0 0, .slice none 0 0], Blk g13 43 [.string ⟨⟨a0.Name⟩⟩, v0_1, v0_2, v0_3], Sl T_api_Class v252 o249, Blk g254 43 [.string ⟨⟨a0.Name⟩⟩, v252, v10304, .slice none 0 0], Sl T_api_Func v10304 s8947.1]) := (SL.diso (f := t_api_Func) (x := (⟨x11636.Name, (⟨x11636.Sig.Params, x11636.Sig.Result⟩ : S_api_Sig), x11636.Locals, x11636.Code⟩ : S_api_Func)) (SL.dpair (SL.dflat (SL.dpair (SL.diso (f := t_api_Sig) (x := (⟨x11636.Sig.Params, x11636.Sig.Result⟩ : S_api_Sig)) (SL.dpair (SL.dsl (SL.dflat (SL.dpair (SL.dflat (SL.dsl s11687.f1) (Flat.int .i64) x11636.Locals)) Flat.u8 x11636.Sig.Result).f2)))) Flat.str x11636.Name)))
            refine st_bslice1 F11685 s11701 Fx.sl41 rfl (by decide) rfl rfl rfl fun v11694 w11695 q11696 F11697 s11698 => ?_
            have s11702 : SL w [] _ [Blk g11468 56 [.string ⟨⟨x11453.Name⟩⟩, v11462, .int .u8 (x11453.Sig.Result.toNat : Int), .int .i64 x11453.Locals, v11464], Blk g19 43 [.string ⟨⟨[]⟩⟩, .slice none 0 0, .slice none 0 0, .slice none 0 0], Blk g13 43 [.string ⟨⟨a0.Name⟩⟩, v0_1, v0_2, v0_3], Sl T_api_Class v252 o249] := s11698.drop.f4.drop.f4.drop
            refine kq_end ⟨s11702, ?_⟩
            refine hd_one (i := 5) rfl (by kernel_rfl) ?_
            refine st_append_own F11697 s11698.f6 Fx.sl41 rfl rfl rfl rfl rfl rfl hx11658 rfl fun v11705 w11706 q11707 F11708 s11709 => ?_
            have s11710 : SL w [] _ [Blk g11468 56 [.string ⟨⟨x11453.Name⟩⟩, v11462, .int .u8 (x11453.Sig.Result.toNat : Int), .int .i64 x11453.Locals, v11464], Blk g19 43 [.string ⟨⟨[]⟩⟩, .slice none 0 0, .slice none 0 0, .slice none 0 0], Blk g13 43 [.string ⟨⟨a0.Name⟩⟩, v0_1, v0_2, v0_3], Sl T_api_Class v252 o249] := s11709.drop.f4.drop
            refine kq_end ⟨s11710, ?_⟩
            refine hd_one (i := 6) rfl (by kernel_rfl) ?_
            refine st_op F11708 (ex_fab Fx.fa43_2 rfl rfl) rfl rfl rfl fun q11711 F11712 => ?_
            have s11713 : SL w [] _ [Blk g11468 56 [.string ⟨⟨x11453.Name⟩⟩, v11462, .int .u8 (x11453.Sig.Result.toNat : Int), .int .i64 x11453.Locals, v11464], Blk g19 43 [.string ⟨⟨[]⟩⟩, .slice none 0 0, .slice none 0 0, .slice none 0 0], Blk g13 43 [.string ⟨⟨a0.Name⟩⟩, v0_1, v0_2, v0_3], Sl T_api_Class v252 o249] := s11709.drop.f4.drop
            refine kq_end ⟨s11713, ?_⟩
            refine hd_one (i := 7) rfl (by kernel_rfl) ?_
            have s11718 := s11709.f5
            refine st_store F11712 s11718 rfl rfl Fx.sz41 (form_cells (formL (s11718.own_rd (.tail _ <| .head _)))) (form_one (formL (s11718.own_rd (.tail _ <| .head _)))) rfl fun w11714 q11715 F11716 s11717 => ?_
            replace s11717 : SL w [] w11714 [Blk g254 43 [.string ⟨⟨a0.Name⟩⟩, v252, v11705, .slice none 0 0], Sl T_api_Func v11705 x11657, Blk g11468 56 [.string ⟨⟨x11453.Name⟩⟩, v11462, .int .u8 (x11453.Sig.Result.toNat : Int), .int .i64 x11453.Locals, v11464], Blk g19 43 [.string ⟨⟨[]⟩⟩, .slice none 0 0, .slice none 0 0, .slice none 0 0], Blk g13 43 [.string ⟨⟨a0.Name⟩⟩, v0_1, v0_2, v0_3], Sl T_api_Class v252 o249] := s11717
            have s11719 : SL w [] _ [Blk g11468 56 [.string ⟨⟨x11453.Name⟩⟩, v11462, .int .u8 (x11453.Sig.Result.toNat : Int), .int .i64 x11453.Locals, v11464], Blk g19 43 [.string ⟨⟨[]⟩⟩, .slice none 0 0, .slice none 0 0, .slice none 0 0], Blk g13 43 [.string ⟨⟨a0.Name⟩⟩, v0_1, v0_2, v0_3], Sl T_api_Class v252 o249] := s11717.drop.drop
            refine kq_end ⟨s11719, ?_⟩
            refine hd_done (by kernel_rfl) ?_
            refine blk_n ?_
            refine then_n ?_
            refine wp_reg ?_
            refine st_pr F11716 (PR.op (ex_add rfl rfl) <| PR.op (ex_move rfl) <| PR.nil) fun q11720 F11721 => ?_
            refine st_end ?_
            obtain rfl := some_ok H
            refine then_n ?_
            exact ⟨_, rfl, v11705, F11721.sub ⟨rfl, rfl, rfl, rfl, rfl, rfl, trivial⟩, s11717.f2.drop.f1.f1.f4.f4.f4⟩
          · refine st_call (args := [.tmp 23]) F11674 Fx.fn24 rfl (provisoplain_Func_c (a0 := (⟨x11453.Name, (⟨x11453.Sig.Params, x11453.Sig.Result⟩ : S_api_Sig), x11453.Locals, x11453.Code⟩ : S_api_Func))  (hr11463.pass0 s11669) (hr11465.pass0 s11669) hx11637) rfl fun v11724 w11725 q11726 hS11728 F11727 => ?_
            obtain ⟨v11731, v11733, rfl, hq11730⟩ := hS11728
            have s11729 := s11669.add hq11730
            have s11735 : SL w [] _ [Blk g11468 56 [.string ⟨⟨x11453.Name⟩⟩, v11462, .int .u8 (x11453.Sig.Result.toNat : Int), .int .i64 x11453.Locals, v11464], Blk g19 43 [.string ⟨⟨[]⟩⟩, .slice none 0 0, .slice none 0 0, .slice none 0 0], Blk g13 43 [.string ⟨⟨a0.Name⟩⟩, v0_1, v0_2, v0_3], Sl T_api_Class v252 o249] := s11729.drop.drop.f4.drop.f4.drop
            refine kq_end ⟨s11735, ?_⟩
            refine hd_many (rs := [1, 4]) (by kernel_rfl) (by decide) (hd_cons (wpOp_of rfl ?_) (hd_cons (wpOp_of rfl ?_) (hd_nil)))
            · refine st_op F11727 (ex_ld Fx.nag41 rfl (s11729.blk_cell (.tail _ <| .tail _ <| .tail _ <| .tail _ <| .tail _ <| .tail _ <| .head _) rfl)) rfl rfl rfl fun q11736 F11737 => ?_
              have s11738 : SL w [] _ [Blk g11468 56 [.string ⟨⟨x11453.Name⟩⟩, v11462, .int .u8 (x11453.Sig.Result.toNat : Int), .int .i64 x11453.Locals, v11464], Blk g19 43 [.string ⟨⟨[]⟩⟩, .slice none 0 0, .slice none 0 0, .slice none 0 0], Blk g13 43 [.string ⟨⟨a0.Name⟩⟩, v0_1, v0_2, v0_3], Sl T_api_Class v252 o249] := s11729.drop.drop.f4.drop.f4.drop
              refine kq_end ⟨s11738, ?_⟩
              refine hd_one (i := 4) rfl (by kernel_rfl) ?_
              have s11746 : SL w [] _ (Dt T_api_Func (⟨x11636.Name, (⟨x11636.Sig.Params, x11636.Sig.Result⟩ : S_api_Sig), x11636.Locals, x11636.Code⟩ : S_api_Func) [.string ⟨⟨x11636.Name⟩⟩, v11731, .int .u8 (x11636.Sig.Result.toNat : Int), .int .i64 x11636.Locals, v11733] :: [Blk g11468 56 [.string ⟨⟨x11453.Name⟩⟩, v11462, .int .u8 (x11453.Sig.Result.toNat : Int), .int .i64 x11453.Locals, v11464], Blk g19 43 [.string ⟨⟨[]⟩⟩, .slice none 0 0, .slice none 0 0, .slice none 0 0], Blk g13 43 [.string ⟨⟨a0.Name⟩⟩, v0_1, v0_2, v0_3], Sl T_api_Class v252 o249, Blk g254 43 [.string ⟨⟨a0.Name⟩⟩, v252, v10304, .slice none 0 0], Sl T_api_Func v10304 s8947.1]) := (SL.diso (f := t_api_Func) (x := (⟨x11636.Name, (⟨x11636.Sig.Params, x11636.Sig.Result⟩ : S_api_Sig), x11636.Locals, x11636.Code⟩ : S_api_Func)) (SL.dpair (SL.dflat (SL.dpair (SL.diso (f := t_api_Sig) (x := (⟨x11636.Sig.Params, x11636.Sig.Result⟩ : S_api_Sig)) (SL.dpair (SL.dsl (SL.dflat (SL.dpair (SL.dflat (SL.dsl s11729.f1) (Flat.int .i64) x11636.Locals)) Flat.u8 x11636.Sig.Result).f2)))) Flat.str x11636.Name)))
              refine st_bslice1 F11737 s11746 Fx.sl41 rfl (by decide) rfl rfl rfl fun v11739 w11740 q11741 F11742 s11743 => ?_
              have s11747 : SL w [] _ [Blk g11468 56 [.string ⟨⟨x11453.Name⟩⟩, v11462, .int .u8 (x11453.Sig.Result.toNat : Int), .int .i64 x11453.Locals, v11464], Blk g19 43 [.string ⟨⟨[]⟩⟩, .slice none 0 0, .slice none 0 0, .slice none 0 0], Blk g13 43 [.string ⟨⟨a0.Name⟩⟩, v0_1, v0_2, v0_3], Sl T_api_Class v252 o249] := s11743.drop.f4.drop.f4.drop
              refine kq_end ⟨s11747, ?_⟩
              refine hd_one (i := 5) rfl (by kernel_rfl) ?_
              refine st_append_own F11742 s11743.f6 Fx.sl41 rfl rfl rfl rfl rfl rfl hx11658 rfl fun v11750 w11751 q11752 F11753 s11754 => ?_
              have s11755 : SL w [] _ [Blk g11468 56 [.string ⟨⟨x11453.Name⟩⟩, v11462, .int .u8 (x11453.Sig.Result.toNat : Int), .int .i64 x11453.Locals, v11464], Blk g19 43 [.string ⟨⟨[]⟩⟩, .slice none 0 0, .slice none 0 0, .slice none 0 0], Blk g13 43 [.string ⟨⟨a0.Name⟩⟩, v0_1, v0_2, v0_3], Sl T_api_Class v252 o249] := s11754.drop.f4.drop
              refine kq_end ⟨s11755, ?_⟩
              refine hd_one (i := 6) rfl (by kernel_rfl) ?_
              refine st_op F11753 (ex_fab Fx.fa43_2 rfl rfl) rfl rfl rfl fun q11756 F11757 => ?_
              have s11758 : SL w [] _ [Blk g11468 56 [.string ⟨⟨x11453.Name⟩⟩, v11462, .int .u8 (x11453.Sig.Result.toNat : Int), .int .i64 x11453.Locals, v11464], Blk g19 43 [.string ⟨⟨[]⟩⟩, .slice none 0 0, .slice none 0 0, .slice none 0 0], Blk g13 43 [.string ⟨⟨a0.Name⟩⟩, v0_1, v0_2, v0_3], Sl T_api_Class v252 o249] := s11754.drop.f4.drop
              refine kq_end ⟨s11758, ?_⟩
              refine hd_one (i := 7) rfl (by kernel_rfl) ?_
              have s11763 := s11754.f5
              refine st_store F11757 s11763 rfl rfl Fx.sz41 (form_cells (formL (s11763.own_rd (.tail _ <| .head _)))) (form_one (formL (s11763.own_rd (.tail _ <| .head _)))) rfl fun w11759 q11760 F11761 s11762 => ?_
              replace s11762 : SL w [] w11759 [Blk g254 43 [.string ⟨⟨a0.Name⟩⟩, v252, v11750, .slice none 0 0], Sl T_api_Func v11750 x11657, Blk g11468 56 [.string ⟨⟨x11453.Name⟩⟩, v11462, .int .u8 (x11453.Sig.Result.toNat : Int), .int .i64 x11453.Locals, v11464], Blk g19 43 [.string ⟨⟨[]⟩⟩, .slice none 0 0, .slice none 0 0, .slice none 0 0], Blk g13 43 [.string ⟨⟨a0.Name⟩⟩, v0_1, v0_2, v0_3], Sl T_api_Class v252 o249] := s11762
              have s11764 : SL w [] _ [Blk g11468 56 [.string ⟨⟨x11453.Name⟩⟩, v11462, .int .u8 (x11453.Sig.Result.toNat : Int), .int .i64 x11453.Locals, v11464], Blk g19 43 [.string ⟨⟨[]⟩⟩, .slice none 0 0, .slice none 0 0, .slice none 0 0], Blk g13 43 [.string ⟨⟨a0.Name⟩⟩, v0_1, v0_2, v0_3], Sl T_api_Class v252 o249] := s11762.drop.drop
              refine kq_end ⟨s11764, ?_⟩
              refine hd_done (by kernel_rfl) ?_
              refine blk_n ?_
              refine then_n ?_
              refine wp_reg ?_
              refine st_pr F11761 (PR.op (ex_add rfl rfl) <| PR.op (ex_move rfl) <| PR.nil) fun q11765 F11766 => ?_
              refine st_end ?_
              obtain rfl := some_ok H
              refine then_n ?_
              exact ⟨_, rfl, v11750, F11766.sub ⟨rfl, rfl, rfl, rfl, rfl, rfl, trivial⟩, s11762.f2.drop.f1.f1.f4.f4.f4⟩
            · have s11774 : SL w [] _ (Dt T_api_Func (⟨x11636.Name, (⟨x11636.Sig.Params, x11636.Sig.Result⟩ : S_api_Sig), x11636.Locals, x11636.Code⟩ : S_api_Func) [.string ⟨⟨x11636.Name⟩⟩, v11731, .int .u8 (x11636.Sig.Result.toNat : Int), .int .i64 x11636.Locals, v11733] :: [Blk g11468 56 [.string ⟨⟨x11453.Name⟩⟩, v11462, .int .u8 (x11453.Sig.Result.toNat : Int), .int .i64 x11453.Locals, v11464], Blk g19 43 [.string ⟨⟨[]⟩⟩, .slice none 0 0, .slice none 0 0, .slice none 0 0], Blk g13 43 [.string ⟨⟨a0.Name⟩⟩, v0_1, v0_2, v0_3], Sl T_api_Class v252 o249, Blk g254 43 [.string ⟨⟨a0.Name⟩⟩, v252, v10304, .slice none 0 0], Sl T_api_Func v10304 s8947.1]) := (SL.diso (f := t_api_Func) (x := (⟨x11636.Name, (⟨x11636.Sig.Params, x11636.Sig.Result⟩ : S_api_Sig), x11636.Locals, x11636.Code⟩ : S_api_Func)) (SL.dpair (SL.dflat (SL.dpair (SL.diso (f := t_api_Sig) (x := (⟨x11636.Sig.Params, x11636.Sig.Result⟩ : S_api_Sig)) (SL.dpair (SL.dsl (SL.dflat (SL.dpair (SL.dflat (SL.dsl s11729.f1) (Flat.int .i64) x11636.Locals)) Flat.u8 x11636.Sig.Result).f2)))) Flat.str x11636.Name)))
              refine st_bslice1 F11727 s11774 Fx.sl41 rfl (by decide) rfl rfl rfl fun v11767 w11768 q11769 F11770 s11771 => ?_
              have s11775 : SL w [] _ [Blk g11468 56 [.string ⟨⟨x11453.Name⟩⟩, v11462, .int .u8 (x11453.Sig.Result.toNat : Int), .int .i64 x11453.Locals, v11464], Blk g19 43 [.string ⟨⟨[]⟩⟩, .slice none 0 0, .slice none 0 0, .slice none 0 0], Blk g13 43 [.string ⟨⟨a0.Name⟩⟩, v0_1, v0_2, v0_3], Sl T_api_Class v252 o249] := s11771.drop.f4.drop.f4.drop
              refine kq_end ⟨s11775, ?_⟩
              refine hd_one (i := 1) rfl (by kernel_rfl) ?_
              refine st_op F11770 (ex_ld Fx.nag41 rfl (s11771.blk_cell (.tail _ <| .tail _ <| .tail _ <| .tail _ <| .tail _ <| .head _) rfl)) rfl rfl rfl fun q11776 F11777 => ?_
              have s11778 : SL w [] _ [Blk g11468 56 [.string ⟨⟨x11453.Name⟩⟩, v11462, .int .u8 (x11453.Sig.Result.toNat : Int), .int .i64 x11453.Locals, v11464], Blk g19 43 [.string ⟨⟨[]⟩⟩, .slice none 0 0, .slice none 0 0, .slice none 0 0], Blk g13 43 [.string ⟨⟨a0.Name⟩⟩, v0_1, v0_2, v0_3], Sl T_api_Class v252 o249] := s11771.drop.f4.drop.f4.drop
              refine kq_end ⟨s11778, ?_⟩
              refine hd_one (i := 5) rfl (by kernel_rfl) ?_
              refine st_append_own F11777 s11771.f6 Fx.sl41 rfl rfl rfl rfl rfl rfl hx11658 rfl fun v11781 w11782 q11783 F11784 s11785 => ?_
              have s11786 : SL w [] _ [Blk g11468 56 [.string ⟨⟨x11453.Name⟩⟩, v11462, .int .u8 (x11453.Sig.Result.toNat : Int), .int .i64 x11453.Locals, v11464], Blk g19 43 [.string ⟨⟨[]⟩⟩, .slice none 0 0, .slice none 0 0, .slice none 0 0], Blk g13 43 [.string ⟨⟨a0.Name⟩⟩, v0_1, v0_2, v0_3], Sl T_api_Class v252 o249] := s11785.drop.f4.drop
              refine kq_end ⟨s11786, ?_⟩
              refine hd_one (i := 6) rfl (by kernel_rfl) ?_
              refine st_op F11784 (ex_fab Fx.fa43_2 rfl rfl) rfl rfl rfl fun q11787 F11788 => ?_
              have s11789 : SL w [] _ [Blk g11468 56 [.string ⟨⟨x11453.Name⟩⟩, v11462, .int .u8 (x11453.Sig.Result.toNat : Int), .int .i64 x11453.Locals, v11464], Blk g19 43 [.string ⟨⟨[]⟩⟩, .slice none 0 0, .slice none 0 0, .slice none 0 0], Blk g13 43 [.string ⟨⟨a0.Name⟩⟩, v0_1, v0_2, v0_3], Sl T_api_Class v252 o249] := s11785.drop.f4.drop
              refine kq_end ⟨s11789, ?_⟩
              refine hd_one (i := 7) rfl (by kernel_rfl) ?_
              have s11794 := s11785.f5
              refine st_store F11788 s11794 rfl rfl Fx.sz41 (form_cells (formL (s11794.own_rd (.tail _ <| .head _)))) (form_one (formL (s11794.own_rd (.tail _ <| .head _)))) rfl fun w11790 q11791 F11792 s11793 => ?_
              replace s11793 : SL w [] w11790 [Blk g254 43 [.string ⟨⟨a0.Name⟩⟩, v252, v11781, .slice none 0 0], Sl T_api_Func v11781 x11657, Blk g11468 56 [.string ⟨⟨x11453.Name⟩⟩, v11462, .int .u8 (x11453.Sig.Result.toNat : Int), .int .i64 x11453.Locals, v11464], Blk g19 43 [.string ⟨⟨[]⟩⟩, .slice none 0 0, .slice none 0 0, .slice none 0 0], Blk g13 43 [.string ⟨⟨a0.Name⟩⟩, v0_1, v0_2, v0_3], Sl T_api_Class v252 o249] := s11793
              have s11795 : SL w [] _ [Blk g11468 56 [.string ⟨⟨x11453.Name⟩⟩, v11462, .int .u8 (x11453.Sig.Result.toNat : Int), .int .i64 x11453.Locals, v11464], Blk g19 43 [.string ⟨⟨[]⟩⟩, .slice none 0 0, .slice none 0 0, .slice none 0 0], Blk g13 43 [.string ⟨⟨a0.Name⟩⟩, v0_1, v0_2, v0_3], Sl T_api_Class v252 o249] := s11793.drop.drop
              refine kq_end ⟨s11795, ?_⟩
              refine hd_done (by kernel_rfl) ?_
              refine blk_n ?_
              refine then_n ?_
              refine wp_reg ?_
              refine st_pr F11792 (PR.op (ex_add rfl rfl) <| PR.op (ex_move rfl) <| PR.nil) fun q11796 F11797 => ?_
              refine st_end ?_
              obtain rfl := some_ok H
              refine then_n ?_
              exact ⟨_, rfl, v11781, F11797.sub ⟨rfl, rfl, rfl, rfl, rfl, rfl, trivial⟩, s11793.f2.drop.f1.f1.f4.f4.f4⟩
        · replace H := ite_f hb11061 H
          refine wp_exit ?_
          refine then_x <| then_x <| blk_hit ?_
          obtain rfl := some_ok H
          obtain rfl := hr _ rfl
          refine then_n ?_
          exact ⟨v10304, F11059.sub ⟨rfl, rfl, rfl, trivial⟩, s11051⟩
    · intro q11800 w11801 hJ
      obtain ⟨v8945, F11798, s11799⟩ := hJ
      have H := R8944
      clear R8944 H8943
      refine then_n ?_
      refine wp_seq ?_
      refine wp_seq ?_
      refine wp_reg ?_
      refine st_pr F11798 (PR.op (ex_fab Fx.fa43_3 rfl rfl) <| PR.op (ex_ld Fx.nag29 rfl (s11799.blk_cell (.tail _ <| .head _) rfl)) <| PR.op (ex_len rfl Try.underlying29 (formL (rdL hr0_3 s11799))) <| PR.op (ex_move rfl) <| PR.nil) fun q16895 F16896 => ?_
      refine st_end ?_
      refine then_n ?_
      obtain ⟨o19436, H19437, R19438⟩ := bind_ok H
      clear H
      refine wp_cutn (fun a w_ => ∃ v19439 : Value, Fr a 45 [(2, .pointer (some ⟨g19, 0, none⟩)), (3, .pointer (some ⟨g254, 0, none⟩))] ∧ SL w [] w_ [Blk g19 43 [.string ⟨⟨[]⟩⟩, .slice none 0 0, .slice none 0 0, .slice none 0 0], Sl T_api_Class v252 o249, Blk g254 43 [.string ⟨⟨a0.Name⟩⟩, v252, v8945, v19439], Sl T_api_Func v8945 o8942, Sl (Ty.slice Ty.u8) v19439 o19436]) ?_ ?_
      · have H := H19437
        refine wp_block ?_
        refine wp_lp (provisoplain_Module_b1 a0) (fun s19441 a w_ => ∃ v20646 : Value, Fr a 45 [(2, .pointer (some ⟨g19, 0, none⟩)), (3, .pointer (some ⟨g254, 0, none⟩)), (30, v0_3), (31, .int .i64 (a0.Certs.length : Int)), (32, .int .i64 s19441.2)] ∧ SL w [] w_ [Blk g19 43 [.string ⟨⟨[]⟩⟩, .slice none 0 0, .slice none 0 0, .slice none 0 0], Sl T_api_Class v252 o249, Blk g254 43 [.string ⟨⟨a0.Name⟩⟩, v252, v8945, v20646], Sl T_api_Func v8945 o8942, Sl (Ty.slice Ty.u8) v20646 s19441.1]) H ?_ ?_
        · exact ⟨(.slice none 0 0), F16896.sub ⟨rfl, rfl, rfl, rfl, rfl, trivial⟩, (SL.nilSl (T := (Ty.slice Ty.u8)) s11799).f2.drop.f4.f4.f4.f4⟩
        · intro s19441 q21315 w21316 hI21317 o21314 H hr
          obtain ⟨v20646, F21312, s21313⟩ := hI21317
          replace H : provisoplain_Module_b1 a0 s19441 = some o21314 := H
          unfold provisoplain_Module_b1 at H
          refine wp_seq ?_
          refine wp_reg ?_
          refine st_pr F21312 (PR.op (ex_lt rfl rfl) <| PR.nil) fun q21320 F21321 => ?_
          refine st_end ?_
          refine then_n ?_
          refine wp_seq ?_
          refine wp_if F21321 rfl (fun hb21323 => ?_) (fun hb21323 => ?_)
          · replace H := ite_t hb21323 H
            refine wp_skip ?_
            refine then_n ?_
            refine wp_seq ?_
            refine wp_block ?_
            refine wp_seq ?_
            refine wp_reg ?_
            obtain ⟨x21662, hx21663, H⟩ := bind_ok H
            obtain ⟨ad21664, cs21667, G21668, hi21665, hc21666, hr21669, hG21670⟩ := Rd.idx hr0_3 Fx.sl29 rfl hx21663
            obtain ⟨v21671, rfl, hr21672⟩ := (rd_sl hr21669 hG21670)
            replace hc21666 := hc21666 _ _ s21313
            refine st_pr F21321 (PR.op (hi21665 _ _ _ _ _ _ _ _ _ _ rfl rfl) <| PR.op (ex_ld Fx.nag22 rfl (Cells.at_ hc21666 (o := 0) rfl)) <| PR.op (ex_asg rfl) <| PR.nil) fun q21673 F21674 => ?_
            refine st_end ?_
            refine then_n ?_
            obtain ⟨x21824, hx21825, H⟩ := bind_ok H
            obtain ⟨x21843, hx21844, H⟩ := bind_ok H
            refine wp_regh Fx.mixed (fun w_ => SL w [] w_ [Blk g19 43 [.string ⟨⟨[]⟩⟩, .slice none 0 0, .slice none 0 0, .slice none 0 0], Sl T_api_Class v252 o249, Sl T_api_Func v8945 o8942]) ?_
            have s21855 := s21313.drew
            have s21856 : SL w [] _ [Blk g19 43 [.string ⟨⟨[]⟩⟩, .slice none 0 0, .slice none 0 0, .slice none 0 0], Sl T_api_Class v252 o249, Sl T_api_Func v8945 o8942] := s21855.f2.drop.f3.drop
            refine hd_take (i := 0) rfl (by kernel_rfl) (by kernel_rfl) (by kernel_rfl) (fun _ hC => ex_fab Fx.fa43_3 rfl rfl) rfl rfl rfl F21674 s21856 fun q21857 F21858 => ?_
            refine hd_take (i := 2) rfl (by kernel_rfl) (by kernel_rfl) (by kernel_rfl) (fun _ hC => ex_move rfl) rfl rfl rfl F21858 s21856 fun q21859 F21860 => ?_
            refine hd_many (rs := [1, 3]) (by kernel_rfl) (by decide) (hd_cons (wpOp_of rfl ?_) (hd_cons (wpOp_of rfl ?_) (hd_nil)))
            · refine st_op F21860 (ex_ld Fx.nag29 rfl (s21855.blk_cell (.tail _ <| .tail _ <| .head _) rfl)) rfl rfl rfl fun q21863 F21864 => ?_
              have s21865 : SL w [] _ [Blk g19 43 [.string ⟨⟨[]⟩⟩, .slice none 0 0, .slice none 0 0, .slice none 0 0], Sl T_api_Class v252 o249, Sl T_api_Func v8945 o8942] := s21855.f2.drop.f3.drop
              refine kq_end ⟨s21865, ?_⟩
              refine hd_one (i := 3) rfl (by kernel_rfl) ?_
              refine st_call (args := [.tmp 38]) F21864 Fx.fn31 rfl (slices_Clone_byte_byte_c (a0 := x21662)  (hr21672.pass0 s21855) hx21825) rfl fun v21868 w21869 q21870 hS21872 F21871 => ?_
              obtain ⟨_, rfl, hq21874⟩ := hS21872
              have s21873 := s21855.add hq21874
              have s21877 : SL w [] _ [Blk g19 43 [.string ⟨⟨[]⟩⟩, .slice none 0 0, .slice none 0 0, .slice none 0 0], Sl T_api_Class v252 o249, Sl T_api_Func v8945 o8942] := s21873.drop.f2.drop.f3.drop
              refine kq_end ⟨s21877, ?_⟩
              refine hd_one (i := 4) rfl (by kernel_rfl) ?_
              have hv21884 := (formL (s21873.own_rd (.head _)))
              have s21885 : SL w [] _ (Dt (Ty.slice Ty.u8) x21824 [v21868] :: [Blk g19 43 [.string ⟨⟨[]⟩⟩, .slice none 0 0, .slice none 0 0, .slice none 0 0], Sl T_api_Class v252 o249, Blk g254 43 [.string ⟨⟨a0.Name⟩⟩, v252, v8945, v20646], Sl T_api_Func v8945 o8942, Sl (Ty.slice Ty.u8) v20646 s19441.1]) := (SL.dsl s21873)
              refine st_bslice1 F21871 s21885 Fx.sl29 rfl (by decide) rfl (form_cells hv21884) rfl fun v21878 w21879 q21880 F21881 s21882 => ?_
              have s21886 : SL w [] _ [Blk g19 43 [.string ⟨⟨[]⟩⟩, .slice none 0 0, .slice none 0 0, .slice none 0 0], Sl T_api_Class v252 o249, Sl T_api_Func v8945 o8942] := s21882.drop.f2.drop.f3.drop
              refine kq_end ⟨s21886, ?_⟩
              refine hd_one (i := 5) rfl (by kernel_rfl) ?_
              refine st_append_own F21881 s21882.f5 Fx.sl29 rfl rfl rfl rfl rfl rfl hx21844 rfl fun v21889 w21890 q21891 F21892 s21893 => ?_
              have s21894 : SL w [] _ [Blk g19 43 [.string ⟨⟨[]⟩⟩, .slice none 0 0, .slice none 0 0, .slice none 0 0], Sl T_api_Class v252 o249, Sl T_api_Func v8945 o8942] := s21893.drop.f2.drop
              refine kq_end ⟨s21894, ?_⟩
              refine hd_one (i := 6) rfl (by kernel_rfl) ?_
              refine st_op F21892 (ex_fab Fx.fa43_3 rfl rfl) rfl rfl rfl fun q21895 F21896 => ?_
              have s21897 : SL w [] _ [Blk g19 43 [.string ⟨⟨[]⟩⟩, .slice none 0 0, .slice none 0 0, .slice none 0 0], Sl T_api_Class v252 o249, Sl T_api_Func v8945 o8942] := s21893.drop.f2.drop
              refine kq_end ⟨s21897, ?_⟩
              refine hd_one (i := 7) rfl (by kernel_rfl) ?_
              have s21902 := s21893.f3
              refine st_store F21896 s21902 rfl rfl Fx.sz29 (form_cells (formL (s21902.own_rd (.tail _ <| .head _)))) (form_one (formL (s21902.own_rd (.tail _ <| .head _)))) rfl fun w21898 q21899 F21900 s21901 => ?_
              replace s21901 : SL w [] w21898 [Blk g254 43 [.string ⟨⟨a0.Name⟩⟩, v252, v8945, v21889], Sl (Ty.slice Ty.u8) v21889 x21843, Blk g19 43 [.string ⟨⟨[]⟩⟩, .slice none 0 0, .slice none 0 0, .slice none 0 0], Sl T_api_Class v252 o249, Sl T_api_Func v8945 o8942] := s21901
              have s21903 : SL w [] _ [Blk g19 43 [.string ⟨⟨[]⟩⟩, .slice none 0 0, .slice none 0 0, .slice none 0 0], Sl T_api_Class v252 o249, Sl T_api_Func v8945 o8942] := s21901.drop.drop
              refine kq_end ⟨s21903, ?_⟩
              refine hd_done (by kernel_rfl) ?_
              refine blk_n ?_
              refine then_n ?_
              refine wp_reg ?_
              refine st_pr F21900 (PR.op (ex_add rfl rfl) <| PR.op (ex_move rfl) <| PR.nil) fun q21904 F21905 => ?_
              refine st_end ?_
              obtain rfl := some_ok H
              refine then_n ?_
              exact ⟨_, rfl, v21889, F21905.sub ⟨rfl, rfl, rfl, rfl, rfl, trivial⟩, s21901.f1.f4.f2.f4.f4⟩
            · refine st_call (args := [.tmp 38]) F21860 Fx.fn31 rfl (slices_Clone_byte_byte_c (a0 := x21662)  (hr21672.pass0 s21855) hx21825) rfl fun v21908 w21909 q21910 hS21912 F21911 => ?_
              obtain ⟨_, rfl, hq21914⟩ := hS21912
              have s21913 := s21855.add hq21914
              have s21917 : SL w [] _ [Blk g19 43 [.string ⟨⟨[]⟩⟩, .slice none 0 0, .slice none 0 0, .slice none 0 0], Sl T_api_Class v252 o249, Sl T_api_Func v8945 o8942] := s21913.drop.f2.drop.f3.drop
              refine kq_end ⟨s21917, ?_⟩
              refine hd_many (rs := [1, 4]) (by kernel_rfl) (by decide) (hd_cons (wpOp_of rfl ?_) (hd_cons (wpOp_of rfl ?_) (hd_nil)))
              · refine st_op F21911 (ex_ld Fx.nag29 rfl (s21913.blk_cell (.tail _ <| .tail _ <| .tail _ <| .head _) rfl)) rfl rfl rfl fun q21918 F21919 => ?_
                have s21920 : SL w [] _ [Blk g19 43 [.string ⟨⟨[]⟩⟩, .slice none 0 0, .slice none 0 0, .slice none 0 0], Sl T_api_Class v252 o249, Sl T_api_Func v8945 o8942] := s21913.drop.f2.drop.f3.drop
                refine kq_end ⟨s21920, ?_⟩
                refine hd_one (i := 4) rfl (by kernel_rfl) ?_
                have hv21927 := (formL (s21913.own_rd (.head _)))
                have s21928 : SL w [] _ (Dt (Ty.slice Ty.u8) x21824 [v21908] :: [Blk g19 43 [.string ⟨⟨[]⟩⟩, .slice none 0 0, .slice none 0 0, .slice none 0 0], Sl T_api_Class v252 o249, Blk g254 43 [.string ⟨⟨a0.Name⟩⟩, v252, v8945, v20646], Sl T_api_Func v8945 o8942, Sl (Ty.slice Ty.u8) v20646 s19441.1]) := (SL.dsl s21913)
                refine st_bslice1 F21919 s21928 Fx.sl29 rfl (by decide) rfl (form_cells hv21927) rfl fun v21921 w21922 q21923 F21924 s21925 => ?_
                have s21929 : SL w [] _ [Blk g19 43 [.string ⟨⟨[]⟩⟩, .slice none 0 0, .slice none 0 0, .slice none 0 0], Sl T_api_Class v252 o249, Sl T_api_Func v8945 o8942] := s21925.drop.f2.drop.f3.drop
                refine kq_end ⟨s21929, ?_⟩
                refine hd_one (i := 5) rfl (by kernel_rfl) ?_
                refine st_append_own F21924 s21925.f5 Fx.sl29 rfl rfl rfl rfl rfl rfl hx21844 rfl fun v21932 w21933 q21934 F21935 s21936 => ?_
                have s21937 : SL w [] _ [Blk g19 43 [.string ⟨⟨[]⟩⟩, .slice none 0 0, .slice none 0 0, .slice none 0 0], Sl T_api_Class v252 o249, Sl T_api_Func v8945 o8942] := s21936.drop.f2.drop
                refine kq_end ⟨s21937, ?_⟩
                refine hd_one (i := 6) rfl (by kernel_rfl) ?_
                refine st_op F21935 (ex_fab Fx.fa43_3 rfl rfl) rfl rfl rfl fun q21938 F21939 => ?_
                have s21940 : SL w [] _ [Blk g19 43 [.string ⟨⟨[]⟩⟩, .slice none 0 0, .slice none 0 0, .slice none 0 0], Sl T_api_Class v252 o249, Sl T_api_Func v8945 o8942] := s21936.drop.f2.drop
                refine kq_end ⟨s21940, ?_⟩
                refine hd_one (i := 7) rfl (by kernel_rfl) ?_
                have s21945 := s21936.f3
                refine st_store F21939 s21945 rfl rfl Fx.sz29 (form_cells (formL (s21945.own_rd (.tail _ <| .head _)))) (form_one (formL (s21945.own_rd (.tail _ <| .head _)))) rfl fun w21941 q21942 F21943 s21944 => ?_
                replace s21944 : SL w [] w21941 [Blk g254 43 [.string ⟨⟨a0.Name⟩⟩, v252, v8945, v21932], Sl (Ty.slice Ty.u8) v21932 x21843, Blk g19 43 [.string ⟨⟨[]⟩⟩, .slice none 0 0, .slice none 0 0, .slice none 0 0], Sl T_api_Class v252 o249, Sl T_api_Func v8945 o8942] := s21944
                have s21946 : SL w [] _ [Blk g19 43 [.string ⟨⟨[]⟩⟩, .slice none 0 0, .slice none 0 0, .slice none 0 0], Sl T_api_Class v252 o249, Sl T_api_Func v8945 o8942] := s21944.drop.drop
                refine kq_end ⟨s21946, ?_⟩
                refine hd_done (by kernel_rfl) ?_
                refine blk_n ?_
                refine then_n ?_
                refine wp_reg ?_
                refine st_pr F21943 (PR.op (ex_add rfl rfl) <| PR.op (ex_move rfl) <| PR.nil) fun q21947 F21948 => ?_
                refine st_end ?_
                obtain rfl := some_ok H
                refine then_n ?_
                exact ⟨_, rfl, v21932, F21948.sub ⟨rfl, rfl, rfl, rfl, rfl, trivial⟩, s21944.f1.f4.f2.f4.f4⟩
              · have hv21955 := (formL (s21913.own_rd (.head _)))
                have s21956 : SL w [] _ (Dt (Ty.slice Ty.u8) x21824 [v21908] :: [Blk g19 43 [.string ⟨⟨[]⟩⟩, .slice none 0 0, .slice none 0 0, .slice none 0 0], Sl T_api_Class v252 o249, Blk g254 43 [.string ⟨⟨a0.Name⟩⟩, v252, v8945, v20646], Sl T_api_Func v8945 o8942, Sl (Ty.slice Ty.u8) v20646 s19441.1]) := (SL.dsl s21913)
                refine st_bslice1 F21911 s21956 Fx.sl29 rfl (by decide) rfl (form_cells hv21955) rfl fun v21949 w21950 q21951 F21952 s21953 => ?_
                have s21957 : SL w [] _ [Blk g19 43 [.string ⟨⟨[]⟩⟩, .slice none 0 0, .slice none 0 0, .slice none 0 0], Sl T_api_Class v252 o249, Sl T_api_Func v8945 o8942] := s21953.drop.f2.drop.f3.drop
                refine kq_end ⟨s21957, ?_⟩
                refine hd_one (i := 1) rfl (by kernel_rfl) ?_
                refine st_op F21952 (ex_ld Fx.nag29 rfl (s21953.blk_cell (.tail _ <| .tail _ <| .tail _ <| .head _) rfl)) rfl rfl rfl fun q21958 F21959 => ?_
                have s21960 : SL w [] _ [Blk g19 43 [.string ⟨⟨[]⟩⟩, .slice none 0 0, .slice none 0 0, .slice none 0 0], Sl T_api_Class v252 o249, Sl T_api_Func v8945 o8942] := s21953.drop.f2.drop.f3.drop
                refine kq_end ⟨s21960, ?_⟩
                refine hd_one (i := 5) rfl (by kernel_rfl) ?_
                refine st_append_own F21959 s21953.f5 Fx.sl29 rfl rfl rfl rfl rfl rfl hx21844 rfl fun v21963 w21964 q21965 F21966 s21967 => ?_
                have s21968 : SL w [] _ [Blk g19 43 [.string ⟨⟨[]⟩⟩, .slice none 0 0, .slice none 0 0, .slice none 0 0], Sl T_api_Class v252 o249, Sl T_api_Func v8945 o8942] := s21967.drop.f2.drop
                refine kq_end ⟨s21968, ?_⟩
                refine hd_one (i := 6) rfl (by kernel_rfl) ?_
                refine st_op F21966 (ex_fab Fx.fa43_3 rfl rfl) rfl rfl rfl fun q21969 F21970 => ?_
                have s21971 : SL w [] _ [Blk g19 43 [.string ⟨⟨[]⟩⟩, .slice none 0 0, .slice none 0 0, .slice none 0 0], Sl T_api_Class v252 o249, Sl T_api_Func v8945 o8942] := s21967.drop.f2.drop
                refine kq_end ⟨s21971, ?_⟩
                refine hd_one (i := 7) rfl (by kernel_rfl) ?_
                have s21976 := s21967.f3
                refine st_store F21970 s21976 rfl rfl Fx.sz29 (form_cells (formL (s21976.own_rd (.tail _ <| .head _)))) (form_one (formL (s21976.own_rd (.tail _ <| .head _)))) rfl fun w21972 q21973 F21974 s21975 => ?_
                replace s21975 : SL w [] w21972 [Blk g254 43 [.string ⟨⟨a0.Name⟩⟩, v252, v8945, v21963], Sl (Ty.slice Ty.u8) v21963 x21843, Blk g19 43 [.string ⟨⟨[]⟩⟩, .slice none 0 0, .slice none 0 0, .slice none 0 0], Sl T_api_Class v252 o249, Sl T_api_Func v8945 o8942] := s21975
                have s21977 : SL w [] _ [Blk g19 43 [.string ⟨⟨[]⟩⟩, .slice none 0 0, .slice none 0 0, .slice none 0 0], Sl T_api_Class v252 o249, Sl T_api_Func v8945 o8942] := s21975.drop.drop
                refine kq_end ⟨s21977, ?_⟩
                refine hd_done (by kernel_rfl) ?_
                refine blk_n ?_
                refine then_n ?_
                refine wp_reg ?_
                refine st_pr F21974 (PR.op (ex_add rfl rfl) <| PR.op (ex_move rfl) <| PR.nil) fun q21978 F21979 => ?_
                refine st_end ?_
                obtain rfl := some_ok H
                refine then_n ?_
                exact ⟨_, rfl, v21963, F21979.sub ⟨rfl, rfl, rfl, rfl, rfl, trivial⟩, s21975.f1.f4.f2.f4.f4⟩
          · replace H := ite_f hb21323 H
            refine wp_exit ?_
            refine then_x <| then_x <| blk_hit ?_
            obtain rfl := some_ok H
            obtain rfl := hr _ rfl
            refine then_n ?_
            exact ⟨v20646, F21321.sub ⟨rfl, rfl, trivial⟩, s21313⟩
      · intro q21982 w21983 hJ
        obtain ⟨v19439, F21980, s21981⟩ := hJ
        have H := R19438
        clear R19438 H19437
        refine then_n ?_
        refine wp_seq ?_
        refine wp_reg ?_
        refine st_pr F21980 (PR.op (ex_ldagg Fx.agg43 rfl (s21981.blk_cells (.tail _ <| .tail _ <| .head _) (o := 0) (ds := [.string ⟨⟨a0.Name⟩⟩, v252, v8945, v19439]) (fun j u hu => by rw [Nat.zero_add]; exact hu)) rfl) <| PR.nil) fun q21991 F21992 => ?_
        have s21997 := s21981
        refine st_storea F21992 s21997 rfl rfl Fx.sz43 (one_cons rfl (one_cons (form_one (formL (s21997.own_rd (.tail _ <| .head _)))) (one_cons (form_one (formL (s21997.own_rd (.tail _ <| .tail _ <| .tail _ <| .head _)))) (one_cons (form_one (formL (s21997.own_rd (.tail _ <| .tail _ <| .tail _ <| .tail _ <| .head _)))) one_nil)))) (Nat.le_of_ble_eq_true rfl) fun w21993 q21994 F21995 s21996 => ?_
        replace s21996 : SL w [] w21993 [Blk g19 43 [.string ⟨⟨a0.Name⟩⟩, v252, v8945, v19439], Sl T_api_Class v252 o249, Blk g254 43 [.string ⟨⟨a0.Name⟩⟩, v252, v8945, v19439], Sl T_api_Func v8945 o8942, Sl (Ty.slice Ty.u8) v19439 o19436] := s21996
        refine st_end ?_
        refine then_n ?_
        obtain rfl := some_ok H
        refine wp_ret ?_
        refine ret_gen (rs := [.cell 2 43]) (vs := [.agg ⟨[.string ⟨⟨a0.Name⟩⟩, v252, v8945, v19439]⟩]) F21995 (by rfl) ⟨_, _, rfl, RV.blk s21996 (.head _) rfl Fx.agg43 rfl, rfl⟩ ⟨_, rfl, ⟨v252, v8945, v19439, rfl, s21996.drop.f1.drop⟩⟩
end Go.Proofs.Ytmeodoidfpcjlaa
