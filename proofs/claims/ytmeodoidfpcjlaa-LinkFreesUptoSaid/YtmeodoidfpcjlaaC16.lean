/- The walk of proviso/provisolaw18.part. -/
import Derived.Test.YtmeodoidfpcjlaaFx
import Derived.Test.YtmeodoidfpcjlaaDf
import Derived.Test.YtmeodoidfpcjlaaC18
import Derived.Test.YtmeodoidfpcjlaaC35
set_option linter.unusedVariables false
set_option linter.unusedSimpArgs false
namespace Go.Proofs.Ytmeodoidfpcjlaa
open Go Go.RowKit Go.Pv
theorem provisolaw18_part_c {w : World} {v0_1 v0_2 v0_3 v0_4 : Value} {a0 : S_api_Part} {r : S_api_Part} (hr0_1 : Rd T_api_Class w [] v0_1 a0.Module.Classes) (hr0_2 : Rd T_api_Func w [] v0_2 a0.Module.Funcs) (hr0_3 : Rd (Ty.slice Ty.u8) w [] v0_3 a0.Module.Certs) (hr0_4 : Rd T_api_Import w [] v0_4 a0.Imports) (H : provisolaw18_part a0 = some r) :
    Calls Try.prog 16 #[.agg ⟨[.string ⟨⟨a0.Module.Name⟩⟩, v0_1, v0_2, v0_3, v0_4]⟩] w (Ret fun u_ w_ => ∃ u0 u1 u2 u3 : Value, u_ = .agg ⟨[.string ⟨⟨r.Module.Name⟩⟩, u0, u1, u2, u3]⟩ ∧ SL w [] w_ [Sl T_api_Class u0 r.Module.Classes, Sl T_api_Func u1 r.Module.Funcs, Sl (Ty.slice Ty.u8) u2 r.Module.Certs, Sl T_api_Import u3 r.Imports]) := by
  have s0 : SL w [] w [] := SL.init0 w
  refine call_enter Try.func16 rfl Try.ntmps16 (Nat.le_of_ble_eq_true rfl) (args := [.agg ⟨[.string ⟨⟨a0.Module.Name⟩⟩, v0_1, v0_2, v0_3, v0_4]⟩]) fun q0 F0 => ?_
  unfold provisolaw18_part at H
  refine wp_seq ?_
  refine wp_reg ?_
  refine st_box F0 s0 rfl rfl rfl fun g13 w14 q15 F16 s17 => ?_
  refine st_alloc F16 s17 Fx.zero46 rfl rfl fun g19 w20 q21 F22 s23 => ?_
  refine st_end ?_
  refine then_n ?_
  refine wp_seq ?_
  refine wp_reg ?_
  obtain ⟨x58, hx59, H⟩ := bind_ok H
  refine st_pr F22 (PR.op (ex_fab Fx.fa46_0 rfl rfl) <| PR.op (ex_ldagg Fx.agg43 rfl (s23.blk_cells (.tail _ <| .head _) (o := 0) (ds := [.string ⟨⟨a0.Module.Name⟩⟩, v0_1, v0_2, v0_3]) (subcells _ rfl)) rfl) <| PR.nil) fun q60 F61 => ?_
  refine st_call (args := [.tmp 7]) F61 Fx.fn18 rfl (provisoplain_Module_c (a0 := (⟨a0.Module.Name, a0.Module.Classes, a0.Module.Funcs, a0.Module.Certs⟩ : S_api_Module))  (hr0_1.pass0 s23) (hr0_2.pass0 s23) (hr0_3.pass0 s23) hx59) rfl fun v62 w63 q64 hS66 F65 => ?_
  obtain ⟨v69, v71, v73, rfl, hq68⟩ := hS66
  have s67 := s23.add hq68
  have hv75 := (formL (s67.own_rd (.head _)))
  have hv76 := (formL (s67.own_rd (.tail _ <| .head _)))
  have hv77 := (formL (s67.own_rd (.tail _ <| .tail _ <| .head _)))
  refine st_pr F65 (PR.op (ex_build (vs := [.agg ⟨[.string ⟨⟨x58.Name⟩⟩, v69, v71, v73]⟩]) Fx.zero46 Fx.pl46 rfl (cs := [.string ⟨⟨x58.Name⟩⟩, v69, v71, v73, .slice none 0 0]) (by obtain ⟨_, _, e_0⟩ := hv75; obtain ⟨_, _, e_1⟩ := hv76; obtain ⟨_, _, e_2⟩ := hv77; rw [e_0, e_1, e_2] <;> rfl)) <| PR.nil) fun q78 F79 => ?_
  refine st_alloc F79 s67 Fx.zero46 rfl rfl fun g80 w81 q82 F83 s84 => ?_
  have s90 := s84
  refine st_storea F83 s90 rfl rfl Fx.sz46 (one_cons rfl (one_cons (form_one (formL (s90.own_rd (.tail _ <| .head _)))) (one_cons (form_one (formL (s90.own_rd (.tail _ <| .tail _ <| .head _)))) (one_cons (form_one (formL (s90.own_rd (.tail _ <| .tail _ <| .tail _ <| .head _)))) (one_cons rfl one_nil))))) (Nat.le_of_ble_eq_true rfl) fun w86 q87 F88 s89 => ?_
  replace s89 : SL w [] w86 [Blk g80 46 [.string ⟨⟨x58.Name⟩⟩, v69, v71, v73, .slice none 0 0], Sl T_api_Class v69 x58.Classes, Sl T_api_Func v71 x58.Funcs, Sl (Ty.slice Ty.u8) v73 x58.Certs, Blk g19 46 [.string ⟨⟨[]⟩⟩, .slice none 0 0, .slice none 0 0, .slice none 0 0, .slice none 0 0], Blk g13 46 [.string ⟨⟨a0.Module.Name⟩⟩, v0_1, v0_2, v0_3, v0_4]] := s89
  refine st_end ?_
  refine then_n ?_
  refine wp_seq ?_
  refine wp_seq ?_
  refine wp_reg ?_
  refine st_pr F88 (PR.op (ex_fab Fx.fa46_1 rfl rfl) <| PR.op (ex_ld Fx.nag44 rfl (s89.blk_cell (.tail _ <| .tail _ <| .tail _ <| .tail _ <| .tail _ <| .head _) rfl)) <| PR.op (ex_len rfl Try.underlying44 (formL (rdL hr0_4 s89))) <| PR.op (ex_move rfl) <| PR.nil) fun q6632 F6633 => ?_
  refine st_end ?_
  refine then_n ?_
  obtain ⟨o9897, H9898, R9899⟩ := bind_ok H
  clear H
  refine wp_cutn (fun a w_ => ∃ v9900 : Value, Fr a 30 [(2, .pointer (some ⟨g19, 0, none⟩)), (3, .pointer (some ⟨g80, 0, none⟩))] ∧ SL w [] w_ [Blk g80 46 [.string ⟨⟨x58.Name⟩⟩, v69, v71, v73, v9900], Sl T_api_Class v69 x58.Classes, Sl T_api_Func v71 x58.Funcs, Sl (Ty.slice Ty.u8) v73 x58.Certs, Blk g19 46 [.string ⟨⟨[]⟩⟩, .slice none 0 0, .slice none 0 0, .slice none 0 0, .slice none 0 0], Sl T_api_Import v9900 o9897]) ?_ ?_
  · have H := H9898
    refine wp_block ?_
    refine wp_lp (provisolaw18_part_b0 a0) (fun s9902 a w_ => ∃ v11459 : Value, Fr a 30 [(2, .pointer (some ⟨g19, 0, none⟩)), (3, .pointer (some ⟨g80, 0, none⟩)), (11, v0_4), (12, .int .i64 (a0.Imports.length : Int)), (13, .int .i64 s9902.2)] ∧ SL w [] w_ [Blk g80 46 [.string ⟨⟨x58.Name⟩⟩, v69, v71, v73, v11459], Sl T_api_Class v69 x58.Classes, Sl T_api_Func v71 x58.Funcs, Sl (Ty.slice Ty.u8) v73 x58.Certs, Blk g19 46 [.string ⟨⟨[]⟩⟩, .slice none 0 0, .slice none 0 0, .slice none 0 0, .slice none 0 0], Sl T_api_Import v11459 s9902.1]) H ?_ ?_
    · exact ⟨(.slice none 0 0), F6633.sub ⟨rfl, rfl, rfl, rfl, rfl, trivial⟩, (SL.nilSl (T := T_api_Import) s89).f6.drop.f5.f5.f5.f5.f5⟩
    · intro s9902 q12314 w12315 hI12316 o12313 H hr
      obtain ⟨v11459, F12311, s12312⟩ := hI12316
      replace H : provisolaw18_part_b0 a0 s9902 = some o12313 := H
      unfold provisolaw18_part_b0 at H
      refine wp_seq ?_
      refine wp_reg ?_
      refine st_pr F12311 (PR.op (ex_lt rfl rfl) <| PR.nil) fun q12319 F12320 => ?_
      refine st_end ?_
      refine then_n ?_
      refine wp_seq ?_
      refine wp_if F12320 rfl (fun hb12322 => ?_) (fun hb12322 => ?_)
      · replace H := ite_t hb12322 H
        refine wp_skip ?_
        refine then_n ?_
        refine wp_seq ?_
        refine wp_block ?_
        refine wp_seq ?_
        refine wp_reg ?_
        obtain ⟨x12764, hx12765, H⟩ := bind_ok H
        obtain ⟨ad12766, cs12769, G12770, hi12767, hc12768, hr12771, hG12772⟩ := Rd.idx hr0_4 Fx.sl44 rfl hx12765
        obtain ⟨v12773, rfl, hr12774⟩ := (R_api_Import hr12771 hG12772)
        replace hc12768 := hc12768 _ _ s12312
        refine st_pr F12320 (PR.op (hi12767 _ _ _ _ _ _ _ _ _ _ rfl rfl) <| PR.op (ex_ldagg Fx.agg77 rfl hc12768 rfl) <| PR.nil) fun q12775 F12776 => ?_
        refine st_alloc F12776 s12312 Fx.zero77 rfl rfl fun g12777 w12778 q12779 F12780 s12781 => ?_
        have s12787 := s12781
        refine st_storea F12780 s12787 rfl rfl Fx.sz77 (one_cons rfl (one_cons (form_one (formL (rdL hr12774 s12787))) (one_cons rfl one_nil))) (Nat.le_of_ble_eq_true rfl) fun w12783 q12784 F12785 s12786 => ?_
        replace s12786 : SL w [] w12783 [Blk g12777 77 [.string ⟨⟨x12764.Name⟩⟩, v12773, .int .u8 (x12764.Sig.Result.toNat : Int)], Blk g80 46 [.string ⟨⟨x58.Name⟩⟩, v69, v71, v73, v11459], Sl T_api_Class v69 x58.Classes, Sl T_api_Func v71 x58.Funcs, Sl (Ty.slice Ty.u8) v73 x58.Certs, Blk g19 46 [.string ⟨⟨[]⟩⟩, .slice none 0 0, .slice none 0 0, .slice none 0 0, .slice none 0 0], Sl T_api_Import v11459 s9902.1] := s12786
        refine st_end ?_
        refine then_n ?_
        obtain ⟨x12959, hx12960, H⟩ := bind_ok H
        obtain ⟨x12979, hx12980, H⟩ := bind_ok H
        refine wp_regh Fx.mixed (fun w_ => SL w [] w_ [Blk g12777 77 [.string ⟨⟨x12764.Name⟩⟩, v12773, .int .u8 (x12764.Sig.Result.toNat : Int)], Sl T_api_Class v69 x58.Classes, Sl T_api_Func v71 x58.Funcs, Sl (Ty.slice Ty.u8) v73 x58.Certs, Blk g19 46 [.string ⟨⟨[]⟩⟩, .slice none 0 0, .slice none 0 0, .slice none 0 0, .slice none 0 0]]) ?_
        have s12991 := s12786.drew
        have s12992 : SL w [] _ [Blk g12777 77 [.string ⟨⟨x12764.Name⟩⟩, v12773, .int .u8 (x12764.Sig.Result.toNat : Int)], Sl T_api_Class v69 x58.Classes, Sl T_api_Func v71 x58.Funcs, Sl (Ty.slice Ty.u8) v73 x58.Certs, Blk g19 46 [.string ⟨⟨[]⟩⟩, .slice none 0 0, .slice none 0 0, .slice none 0 0, .slice none 0 0]] := s12991.f1.drop.f5.drop
        refine hd_take (i := 0) rfl (by kernel_rfl) (by kernel_rfl) (by kernel_rfl) (fun _ hC => ex_fab Fx.fa46_1 rfl rfl) rfl rfl rfl F12785 s12992 fun q12993 F12994 => ?_
        refine hd_take (i := 2) rfl (by kernel_rfl) (by kernel_rfl) (by kernel_rfl) (fun _ hC => ex_fab Fx.fa77_0 rfl rfl) rfl rfl rfl F12994 s12992 fun q12995 F12996 => ?_
        refine hd_take (i := 3) rfl (by kernel_rfl) (by kernel_rfl) (by kernel_rfl) (fun _ hC => ex_ld Fx.nag9 rfl (hC.blk_cell (.head _) rfl)) rfl rfl rfl F12996 s12992 fun q12997 F12998 => ?_
        refine hd_take (i := 4) rfl (by kernel_rfl) (by kernel_rfl) (by kernel_rfl) (fun _ hC => ex_fab Fx.fa77_1 rfl rfl) rfl rfl rfl F12998 s12992 fun q12999 F13000 => ?_
        refine hd_take (i := 5) rfl (by kernel_rfl) (by kernel_rfl) (by kernel_rfl) (fun _ hC => ex_ldagg Fx.agg54 rfl (hC.blk_cells (.head _) (o := 1) (ds := [v12773, .int .u8 (x12764.Sig.Result.toNat : Int)]) (subcells _ rfl)) rfl) rfl rfl rfl F13000 s12992 fun q13001 F13002 => ?_
        refine hd_many (rs := [1, 6]) (by kernel_rfl) (by decide) (hd_cons (wpOp_of rfl ?_) (hd_cons (wpOp_of rfl ?_) (hd_nil)))
        · refine st_op F13002 (ex_ld Fx.nag44 rfl (s12991.blk_cell (.tail _ <| .head _) rfl)) rfl rfl rfl fun q13005 F13006 => ?_
          have s13007 : SL w [] _ [Blk g12777 77 [.string ⟨⟨x12764.Name⟩⟩, v12773, .int .u8 (x12764.Sig.Result.toNat : Int)], Sl T_api_Class v69 x58.Classes, Sl T_api_Func v71 x58.Funcs, Sl (Ty.slice Ty.u8) v73 x58.Certs, Blk g19 46 [.string ⟨⟨[]⟩⟩, .slice none 0 0, .slice none 0 0, .slice none 0 0, .slice none 0 0]] := s12991.f1.drop.f5.drop
          refine kq_end ⟨s13007, ?_⟩
          refine hd_one (i := 6) rfl (by kernel_rfl) ?_
          refine st_call (args := [.tmp 22]) F13006 Fx.fn35 rfl (provisoplain_Sig_c (a0 := (⟨x12764.Sig.Params, x12764.Sig.Result⟩ : S_api_Sig))  (hr12774.pass0 s12991) hx12960) rfl fun v13010 w13011 q13012 hS13014 F13013 => ?_
          obtain ⟨v13017, rfl, hq13016⟩ := hS13014
          have s13015 := s12991.add hq13016
          have s13019 : SL w [] _ [Blk g12777 77 [.string ⟨⟨x12764.Name⟩⟩, v12773, .int .u8 (x12764.Sig.Result.toNat : Int)], Sl T_api_Class v69 x58.Classes, Sl T_api_Func v71 x58.Funcs, Sl (Ty.slice Ty.u8) v73 x58.Certs, Blk g19 46 [.string ⟨⟨[]⟩⟩, .slice none 0 0, .slice none 0 0, .slice none 0 0, .slice none 0 0]] := s13015.drop.f1.drop.f5.drop
          refine kq_end ⟨s13019, ?_⟩
          refine hd_one (i := 7) rfl (by kernel_rfl) ?_
          have hv13020 := (formL (s13015.own_rd (.head _)))
          refine st_op F13013 (ex_build (vs := [.string ⟨⟨x12764.Name⟩⟩, .agg ⟨[v13017, .int .u8 (x12959.Result.toNat : Int)]⟩]) Fx.zero77 Fx.pl77 rfl (cs := [.string ⟨⟨x12764.Name⟩⟩, v13017, .int .u8 (x12959.Result.toNat : Int)]) (by obtain ⟨_, _, e_0⟩ := hv13020; rw [e_0] <;> rfl)) rfl rfl rfl fun q13021 F13022 => ?_
          have s13023 : SL w [] _ [Blk g12777 77 [.string ⟨⟨x12764.Name⟩⟩, v12773, .int .u8 (x12764.Sig.Result.toNat : Int)], Sl T_api_Class v69 x58.Classes, Sl T_api_Func v71 x58.Funcs, Sl (Ty.slice Ty.u8) v73 x58.Certs, Blk g19 46 [.string ⟨⟨[]⟩⟩, .slice none 0 0, .slice none 0 0, .slice none 0 0, .slice none 0 0]] := s13015.drop.f1.drop.f5.drop
          refine kq_end ⟨s13023, ?_⟩
          refine hd_one (i := 8) rfl (by kernel_rfl) ?_
          have s13031 : SL w [] _ (Dt T_api_Import (⟨x12764.Name, (⟨x12959.Params, x12959.Result⟩ : S_api_Sig)⟩ : S_api_Import) [.string ⟨⟨x12764.Name⟩⟩, v13017, .int .u8 (x12959.Result.toNat : Int)] :: [Blk g12777 77 [.string ⟨⟨x12764.Name⟩⟩, v12773, .int .u8 (x12764.Sig.Result.toNat : Int)], Blk g80 46 [.string ⟨⟨x58.Name⟩⟩, v69, v71, v73, v11459], Sl T_api_Class v69 x58.Classes, Sl T_api_Func v71 x58.Funcs, Sl (Ty.slice Ty.u8) v73 x58.Certs, Blk g19 46 [.string ⟨⟨[]⟩⟩, .slice none 0 0, .slice none 0 0, .slice none 0 0, .slice none 0 0], Sl T_api_Import v11459 s9902.1]) := (SL.diso (f := t_api_Import) (x := (⟨x12764.Name, (⟨x12959.Params, x12959.Result⟩ : S_api_Sig)⟩ : S_api_Import)) (SL.dpair (SL.dflat (SL.diso (f := t_api_Sig) (x := (⟨x12959.Params, x12959.Result⟩ : S_api_Sig)) (SL.dpair (SL.dsl (SL.dflat s13015 Flat.u8 x12959.Result).f1))) Flat.str x12764.Name)))
          refine st_bslice1 F13022 s13031 Fx.sl44 rfl (by decide) rfl rfl rfl fun v13024 w13025 q13026 F13027 s13028 => ?_
          have s13032 : SL w [] _ [Blk g12777 77 [.string ⟨⟨x12764.Name⟩⟩, v12773, .int .u8 (x12764.Sig.Result.toNat : Int)], Sl T_api_Class v69 x58.Classes, Sl T_api_Func v71 x58.Funcs, Sl (Ty.slice Ty.u8) v73 x58.Certs, Blk g19 46 [.string ⟨⟨[]⟩⟩, .slice none 0 0, .slice none 0 0, .slice none 0 0, .slice none 0 0]] := s13028.drop.f1.drop.f5.drop
          refine kq_end ⟨s13032, ?_⟩
          refine hd_one (i := 9) rfl (by kernel_rfl) ?_
          refine st_append_own F13027 s13028.f7 Fx.sl44 rfl rfl rfl rfl rfl rfl hx12980 rfl fun v13035 w13036 q13037 F13038 s13039 => ?_
          have s13040 : SL w [] _ [Blk g12777 77 [.string ⟨⟨x12764.Name⟩⟩, v12773, .int .u8 (x12764.Sig.Result.toNat : Int)], Sl T_api_Class v69 x58.Classes, Sl T_api_Func v71 x58.Funcs, Sl (Ty.slice Ty.u8) v73 x58.Certs, Blk g19 46 [.string ⟨⟨[]⟩⟩, .slice none 0 0, .slice none 0 0, .slice none 0 0, .slice none 0 0]] := s13039.drop.f1.drop
          refine kq_end ⟨s13040, ?_⟩
          refine hd_one (i := 10) rfl (by kernel_rfl) ?_
          refine st_op F13038 (ex_fab Fx.fa46_1 rfl rfl) rfl rfl rfl fun q13041 F13042 => ?_
          have s13043 : SL w [] _ [Blk g12777 77 [.string ⟨⟨x12764.Name⟩⟩, v12773, .int .u8 (x12764.Sig.Result.toNat : Int)], Sl T_api_Class v69 x58.Classes, Sl T_api_Func v71 x58.Funcs, Sl (Ty.slice Ty.u8) v73 x58.Certs, Blk g19 46 [.string ⟨⟨[]⟩⟩, .slice none 0 0, .slice none 0 0, .slice none 0 0, .slice none 0 0]] := s13039.drop.f1.drop
          refine kq_end ⟨s13043, ?_⟩
          refine hd_one (i := 11) rfl (by kernel_rfl) ?_
          have s13048 := s13039.f2
          refine st_store F13042 s13048 rfl rfl Fx.sz44 (form_cells (formL (s13048.own_rd (.tail _ <| .head _)))) (form_one (formL (s13048.own_rd (.tail _ <| .head _)))) rfl fun w13044 q13045 F13046 s13047 => ?_
          replace s13047 : SL w [] w13044 [Blk g80 46 [.string ⟨⟨x58.Name⟩⟩, v69, v71, v73, v13035], Sl T_api_Import v13035 x12979, Blk g12777 77 [.string ⟨⟨x12764.Name⟩⟩, v12773, .int .u8 (x12764.Sig.Result.toNat : Int)], Sl T_api_Class v69 x58.Classes, Sl T_api_Func v71 x58.Funcs, Sl (Ty.slice Ty.u8) v73 x58.Certs, Blk g19 46 [.string ⟨⟨[]⟩⟩, .slice none 0 0, .slice none 0 0, .slice none 0 0, .slice none 0 0]] := s13047
          have s13049 : SL w [] _ [Blk g12777 77 [.string ⟨⟨x12764.Name⟩⟩, v12773, .int .u8 (x12764.Sig.Result.toNat : Int)], Sl T_api_Class v69 x58.Classes, Sl T_api_Func v71 x58.Funcs, Sl (Ty.slice Ty.u8) v73 x58.Certs, Blk g19 46 [.string ⟨⟨[]⟩⟩, .slice none 0 0, .slice none 0 0, .slice none 0 0, .slice none 0 0]] := s13047.drop.drop
          refine kq_end ⟨s13049, ?_⟩
          refine hd_done (by kernel_rfl) ?_
          refine blk_n ?_
          refine then_n ?_
          refine wp_reg ?_
          refine st_pr F13046 (PR.op (ex_add rfl rfl) <| PR.op (ex_move rfl) <| PR.nil) fun q13050 F13051 => ?_
          refine st_end ?_
          obtain rfl := some_ok H
          refine then_n ?_
          exact ⟨_, rfl, v13035, F13051.sub ⟨rfl, rfl, rfl, rfl, rfl, trivial⟩, s13047.f2.drop.f1.f5.f5.f5.f5.f5⟩
        · refine st_call (args := [.tmp 22]) F13002 Fx.fn35 rfl (provisoplain_Sig_c (a0 := (⟨x12764.Sig.Params, x12764.Sig.Result⟩ : S_api_Sig))  (hr12774.pass0 s12991) hx12960) rfl fun v13054 w13055 q13056 hS13058 F13057 => ?_
          obtain ⟨v13061, rfl, hq13060⟩ := hS13058
          have s13059 := s12991.add hq13060
          have s13063 : SL w [] _ [Blk g12777 77 [.string ⟨⟨x12764.Name⟩⟩, v12773, .int .u8 (x12764.Sig.Result.toNat : Int)], Sl T_api_Class v69 x58.Classes, Sl T_api_Func v71 x58.Funcs, Sl (Ty.slice Ty.u8) v73 x58.Certs, Blk g19 46 [.string ⟨⟨[]⟩⟩, .slice none 0 0, .slice none 0 0, .slice none 0 0, .slice none 0 0]] := s13059.drop.f1.drop.f5.drop
          refine kq_end ⟨s13063, ?_⟩
          refine hd_many (rs := [1, 7]) (by kernel_rfl) (by decide) (hd_cons (wpOp_of rfl ?_) (hd_cons (wpOp_of rfl ?_) (hd_nil)))
          · refine st_op F13057 (ex_ld Fx.nag44 rfl (s13059.blk_cell (.tail _ <| .tail _ <| .head _) rfl)) rfl rfl rfl fun q13064 F13065 => ?_
            have s13066 : SL w [] _ [Blk g12777 77 [.string ⟨⟨x12764.Name⟩⟩, v12773, .int .u8 (x12764.Sig.Result.toNat : Int)], Sl T_api_Class v69 x58.Classes, Sl T_api_Func v71 x58.Funcs, Sl (Ty.slice Ty.u8) v73 x58.Certs, Blk g19 46 [.string ⟨⟨[]⟩⟩, .slice none 0 0, .slice none 0 0, .slice none 0 0, .slice none 0 0]] := s13059.drop.f1.drop.f5.drop
            refine kq_end ⟨s13066, ?_⟩
            refine hd_one (i := 7) rfl (by kernel_rfl) ?_
            have hv13067 := (formL (s13059.own_rd (.head _)))
            refine st_op F13065 (ex_build (vs := [.string ⟨⟨x12764.Name⟩⟩, .agg ⟨[v13061, .int .u8 (x12959.Result.toNat : Int)]⟩]) Fx.zero77 Fx.pl77 rfl (cs := [.string ⟨⟨x12764.Name⟩⟩, v13061, .int .u8 (x12959.Result.toNat : Int)]) (by obtain ⟨_, _, e_0⟩ := hv13067; rw [e_0] <;> rfl)) rfl rfl rfl fun q13068 F13069 => ?_
            have s13070 : SL w [] _ [Blk g12777 77 [.string ⟨⟨x12764.Name⟩⟩, v12773, .int .u8 (x12764.Sig.Result.toNat : Int)], Sl T_api_Class v69 x58.Classes, Sl T_api_Func v71 x58.Funcs, Sl (Ty.slice Ty.u8) v73 x58.Certs, Blk g19 46 [.string ⟨⟨[]⟩⟩, .slice none 0 0, .slice none 0 0, .slice none 0 0, .slice none 0 0]] := s13059.drop.f1.drop.f5.drop
            refine kq_end ⟨s13070, ?_⟩
            refine hd_one (i := 8) rfl (by kernel_rfl) ?_
            have s13078 : SL w [] _ (Dt T_api_Import (⟨x12764.Name, (⟨x12959.Params, x12959.Result⟩ : S_api_Sig)⟩ : S_api_Import) [.string ⟨⟨x12764.Name⟩⟩, v13061, .int .u8 (x12959.Result.toNat : Int)] :: [Blk g12777 77 [.string ⟨⟨x12764.Name⟩⟩, v12773, .int .u8 (x12764.Sig.Result.toNat : Int)], Blk g80 46 [.string ⟨⟨x58.Name⟩⟩, v69, v71, v73, v11459], Sl T_api_Class v69 x58.Classes, Sl T_api_Func v71 x58.Funcs, Sl (Ty.slice Ty.u8) v73 x58.Certs, Blk g19 46 [.string ⟨⟨[]⟩⟩, .slice none 0 0, .slice none 0 0, .slice none 0 0, .slice none 0 0], Sl T_api_Import v11459 s9902.1]) := (SL.diso (f := t_api_Import) (x := (⟨x12764.Name, (⟨x12959.Params, x12959.Result⟩ : S_api_Sig)⟩ : S_api_Import)) (SL.dpair (SL.dflat (SL.diso (f := t_api_Sig) (x := (⟨x12959.Params, x12959.Result⟩ : S_api_Sig)) (SL.dpair (SL.dsl (SL.dflat s13059 Flat.u8 x12959.Result).f1))) Flat.str x12764.Name)))
            refine st_bslice1 F13069 s13078 Fx.sl44 rfl (by decide) rfl rfl rfl fun v13071 w13072 q13073 F13074 s13075 => ?_
            have s13079 : SL w [] _ [Blk g12777 77 [.string ⟨⟨x12764.Name⟩⟩, v12773, .int .u8 (x12764.Sig.Result.toNat : Int)], Sl T_api_Class v69 x58.Classes, Sl T_api_Func v71 x58.Funcs, Sl (Ty.slice Ty.u8) v73 x58.Certs, Blk g19 46 [.string ⟨⟨[]⟩⟩, .slice none 0 0, .slice none 0 0, .slice none 0 0, .slice none 0 0]] := s13075.drop.f1.drop.f5.drop
            refine kq_end ⟨s13079, ?_⟩
            refine hd_one (i := 9) rfl (by kernel_rfl) ?_
            refine st_append_own F13074 s13075.f7 Fx.sl44 rfl rfl rfl rfl rfl rfl hx12980 rfl fun v13082 w13083 q13084 F13085 s13086 => ?_
            have s13087 : SL w [] _ [Blk g12777 77 [.string ⟨⟨x12764.Name⟩⟩, v12773, .int .u8 (x12764.Sig.Result.toNat : Int)], Sl T_api_Class v69 x58.Classes, Sl T_api_Func v71 x58.Funcs, Sl (Ty.slice Ty.u8) v73 x58.Certs, Blk g19 46 [.string ⟨⟨[]⟩⟩, .slice none 0 0, .slice none 0 0, .slice none 0 0, .slice none 0 0]] := s13086.drop.f1.drop
            refine kq_end ⟨s13087, ?_⟩
            refine hd_one (i := 10) rfl (by kernel_rfl) ?_
            refine st_op F13085 (ex_fab Fx.fa46_1 rfl rfl) rfl rfl rfl fun q13088 F13089 => ?_
            have s13090 : SL w [] _ [Blk g12777 77 [.string ⟨⟨x12764.Name⟩⟩, v12773, .int .u8 (x12764.Sig.Result.toNat : Int)], Sl T_api_Class v69 x58.Classes, Sl T_api_Func v71 x58.Funcs, Sl (Ty.slice Ty.u8) v73 x58.Certs, Blk g19 46 [.string ⟨⟨[]⟩⟩, .slice none 0 0, .slice none 0 0, .slice none 0 0, .slice none 0 0]] := s13086.drop.f1.drop
            refine kq_end ⟨s13090, ?_⟩
            refine hd_one (i := 11) rfl (by kernel_rfl) ?_
            have s13095 := s13086.f2
            refine st_store F13089 s13095 rfl rfl Fx.sz44 (form_cells (formL (s13095.own_rd (.tail _ <| .head _)))) (form_one (formL (s13095.own_rd (.tail _ <| .head _)))) rfl fun w13091 q13092 F13093 s13094 => ?_
            replace s13094 : SL w [] w13091 [Blk g80 46 [.string ⟨⟨x58.Name⟩⟩, v69, v71, v73, v13082], Sl T_api_Import v13082 x12979, Blk g12777 77 [.string ⟨⟨x12764.Name⟩⟩, v12773, .int .u8 (x12764.Sig.Result.toNat : Int)], Sl T_api_Class v69 x58.Classes, Sl T_api_Func v71 x58.Funcs, Sl (Ty.slice Ty.u8) v73 x58.Certs, Blk g19 46 [.string ⟨⟨[]⟩⟩, .slice none 0 0, .slice none 0 0, .slice none 0 0, .slice none 0 0]] := s13094
            have s13096 : SL w [] _ [Blk g12777 77 [.string ⟨⟨x12764.Name⟩⟩, v12773, .int .u8 (x12764.Sig.Result.toNat : Int)], Sl T_api_Class v69 x58.Classes, Sl T_api_Func v71 x58.Funcs, Sl (Ty.slice Ty.u8) v73 x58.Certs, Blk g19 46 [.string ⟨⟨[]⟩⟩, .slice none 0 0, .slice none 0 0, .slice none 0 0, .slice none 0 0]] := s13094.drop.drop
            refine kq_end ⟨s13096, ?_⟩
            refine hd_done (by kernel_rfl) ?_
            refine blk_n ?_
            refine then_n ?_
            refine wp_reg ?_
            refine st_pr F13093 (PR.op (ex_add rfl rfl) <| PR.op (ex_move rfl) <| PR.nil) fun q13097 F13098 => ?_
            refine st_end ?_
            obtain rfl := some_ok H
            refine then_n ?_
            exact ⟨_, rfl, v13082, F13098.sub ⟨rfl, rfl, rfl, rfl, rfl, trivial⟩, s13094.f2.drop.f1.f5.f5.f5.f5.f5⟩
          · have hv13099 := (formL (s13059.own_rd (.head _)))
            refine st_op F13057 (ex_build (vs := [.string ⟨⟨x12764.Name⟩⟩, .agg ⟨[v13061, .int .u8 (x12959.Result.toNat : Int)]⟩]) Fx.zero77 Fx.pl77 rfl (cs := [.string ⟨⟨x12764.Name⟩⟩, v13061, .int .u8 (x12959.Result.toNat : Int)]) (by obtain ⟨_, _, e_0⟩ := hv13099; rw [e_0] <;> rfl)) rfl rfl rfl fun q13100 F13101 => ?_
            have s13102 : SL w [] _ [Blk g12777 77 [.string ⟨⟨x12764.Name⟩⟩, v12773, .int .u8 (x12764.Sig.Result.toNat : Int)], Sl T_api_Class v69 x58.Classes, Sl T_api_Func v71 x58.Funcs, Sl (Ty.slice Ty.u8) v73 x58.Certs, Blk g19 46 [.string ⟨⟨[]⟩⟩, .slice none 0 0, .slice none 0 0, .slice none 0 0, .slice none 0 0]] := s13059.drop.f1.drop.f5.drop
            refine kq_end ⟨s13102, ?_⟩
            refine hd_many (rs := [1, 8]) (by kernel_rfl) (by decide) (hd_cons (wpOp_of rfl ?_) (hd_cons (wpOp_of rfl ?_) (hd_nil)))
            · refine st_op F13101 (ex_ld Fx.nag44 rfl (s13059.blk_cell (.tail _ <| .tail _ <| .head _) rfl)) rfl rfl rfl fun q13103 F13104 => ?_
              have s13105 : SL w [] _ [Blk g12777 77 [.string ⟨⟨x12764.Name⟩⟩, v12773, .int .u8 (x12764.Sig.Result.toNat : Int)], Sl T_api_Class v69 x58.Classes, Sl T_api_Func v71 x58.Funcs, Sl (Ty.slice Ty.u8) v73 x58.Certs, Blk g19 46 [.string ⟨⟨[]⟩⟩, .slice none 0 0, .slice none 0 0, .slice none 0 0, .slice none 0 0]] := s13059.drop.f1.drop.f5.drop
              refine kq_end ⟨s13105, ?_⟩
              refine hd_one (i := 8) rfl (by kernel_rfl) ?_
              have s13113 : SL w [] _ (Dt T_api_Import (⟨x12764.Name, (⟨x12959.Params, x12959.Result⟩ : S_api_Sig)⟩ : S_api_Import) [.string ⟨⟨x12764.Name⟩⟩, v13061, .int .u8 (x12959.Result.toNat : Int)] :: [Blk g12777 77 [.string ⟨⟨x12764.Name⟩⟩, v12773, .int .u8 (x12764.Sig.Result.toNat : Int)], Blk g80 46 [.string ⟨⟨x58.Name⟩⟩, v69, v71, v73, v11459], Sl T_api_Class v69 x58.Classes, Sl T_api_Func v71 x58.Funcs, Sl (Ty.slice Ty.u8) v73 x58.Certs, Blk g19 46 [.string ⟨⟨[]⟩⟩, .slice none 0 0, .slice none 0 0, .slice none 0 0, .slice none 0 0], Sl T_api_Import v11459 s9902.1]) := (SL.diso (f := t_api_Import) (x := (⟨x12764.Name, (⟨x12959.Params, x12959.Result⟩ : S_api_Sig)⟩ : S_api_Import)) (SL.dpair (SL.dflat (SL.diso (f := t_api_Sig) (x := (⟨x12959.Params, x12959.Result⟩ : S_api_Sig)) (SL.dpair (SL.dsl (SL.dflat s13059 Flat.u8 x12959.Result).f1))) Flat.str x12764.Name)))
              refine st_bslice1 F13104 s13113 Fx.sl44 rfl (by decide) rfl rfl rfl fun v13106 w13107 q13108 F13109 s13110 => ?_
              have s13114 : SL w [] _ [Blk g12777 77 [.string ⟨⟨x12764.Name⟩⟩, v12773, .int .u8 (x12764.Sig.Result.toNat : Int)], Sl T_api_Class v69 x58.Classes, Sl T_api_Func v71 x58.Funcs, Sl (Ty.slice Ty.u8) v73 x58.Certs, Blk g19 46 [.string ⟨⟨[]⟩⟩, .slice none 0 0, .slice none 0 0, .slice none 0 0, .slice none 0 0]] := s13110.drop.f1.drop.f5.drop
              refine kq_end ⟨s13114, ?_⟩
              refine hd_one (i := 9) rfl (by kernel_rfl) ?_
              refine st_append_own F13109 s13110.f7 Fx.sl44 rfl rfl rfl rfl rfl rfl hx12980 rfl fun v13117 w13118 q13119 F13120 s13121 => ?_
              have s13122 : SL w [] _ [Blk g12777 77 [.string ⟨⟨x12764.Name⟩⟩, v12773, .int .u8 (x12764.Sig.Result.toNat : Int)], Sl T_api_Class v69 x58.Classes, Sl T_api_Func v71 x58.Funcs, Sl (Ty.slice Ty.u8) v73 x58.Certs, Blk g19 46 [.string ⟨⟨[]⟩⟩, .slice none 0 0, .slice none 0 0, .slice none 0 0, .slice none 0 0]] := s13121.drop.f1.drop
              refine kq_end ⟨s13122, ?_⟩
              refine hd_one (i := 10) rfl (by kernel_rfl) ?_
              refine st_op F13120 (ex_fab Fx.fa46_1 rfl rfl) rfl rfl rfl fun q13123 F13124 => ?_
              have s13125 : SL w [] _ [Blk g12777 77 [.string ⟨⟨x12764.Name⟩⟩, v12773, .int .u8 (x12764.Sig.Result.toNat : Int)], Sl T_api_Class v69 x58.Classes, Sl T_api_Func v71 x58.Funcs, Sl (Ty.slice Ty.u8) v73 x58.Certs, Blk g19 46 [.string ⟨⟨[]⟩⟩, .slice none 0 0, .slice none 0 0, .slice none 0 0, .slice none 0 0]] := s13121.drop.f1.drop
              refine kq_end ⟨s13125, ?_⟩
              refine hd_one (i := 11) rfl (by kernel_rfl) ?_
              have s13130 := s13121.f2
              refine st_store F13124 s13130 rfl rfl Fx.sz44 (form_cells (formL (s13130.own_rd (.tail _ <| .head _)))) (form_one (formL (s13130.own_rd (.tail _ <| .head _)))) rfl fun w13126 q13127 F13128 s13129 => ?_
              replace s13129 : SL w [] w13126 [Blk g80 46 [.string ⟨⟨x58.Name⟩⟩, v69, v71, v73, v13117], Sl T_api_Import v13117 x12979, Blk g12777 77 [.string ⟨⟨x12764.Name⟩⟩, v12773, .int .u8 (x12764.Sig.Result.toNat : Int)], Sl T_api_Class v69 x58.Classes, Sl T_api_Func v71 x58.Funcs, Sl (Ty.slice Ty.u8) v73 x58.Certs, Blk g19 46 [.string ⟨⟨[]⟩⟩, .slice none 0 0, .slice none 0 0, .slice none 0 0, .slice none 0 0]] := s13129
              have s13131 : SL w [] _ [Blk g12777 77 [.string ⟨⟨x12764.Name⟩⟩, v12773, .int .u8 (x12764.Sig.Result.toNat : Int)], Sl T_api_Class v69 x58.Classes, Sl T_api_Func v71 x58.Funcs, Sl (Ty.slice Ty.u8) v73 x58.Certs, Blk g19 46 [.string ⟨⟨[]⟩⟩, .slice none 0 0, .slice none 0 0, .slice none 0 0, .slice none 0 0]] := s13129.drop.drop
              refine kq_end ⟨s13131, ?_⟩
              refine hd_done (by kernel_rfl) ?_
              refine blk_n ?_
              refine then_n ?_
              refine wp_reg ?_
              refine st_pr F13128 (PR.op (ex_add rfl rfl) <| PR.op (ex_move rfl) <| PR.nil) fun q13132 F13133 => ?_
              refine st_end ?_
              obtain rfl := some_ok H
              refine then_n ?_
              exact ⟨_, rfl, v13117, F13133.sub ⟨rfl, rfl, rfl, rfl, rfl, trivial⟩, s13129.f2.drop.f1.f5.f5.f5.f5.f5⟩
            · have s13141 : SL w [] _ (Dt T_api_Import (⟨x12764.Name, (⟨x12959.Params, x12959.Result⟩ : S_api_Sig)⟩ : S_api_Import) [.string ⟨⟨x12764.Name⟩⟩, v13061, .int .u8 (x12959.Result.toNat : Int)] :: [Blk g12777 77 [.string ⟨⟨x12764.Name⟩⟩, v12773, .int .u8 (x12764.Sig.Result.toNat : Int)], Blk g80 46 [.string ⟨⟨x58.Name⟩⟩, v69, v71, v73, v11459], Sl T_api_Class v69 x58.Classes, Sl T_api_Func v71 x58.Funcs, Sl (Ty.slice Ty.u8) v73 x58.Certs, Blk g19 46 [.string ⟨⟨[]⟩⟩, .slice none 0 0, .slice none 0 0, .slice none 0 0, .slice none 0 0], Sl T_api_Import v11459 s9902.1]) := (SL.diso (f := t_api_Import) (x := (⟨x12764.Name, (⟨x12959.Params, x12959.Result⟩ : S_api_Sig)⟩ : S_api_Import)) (SL.dpair (SL.dflat (SL.diso (f := t_api_Sig) (x := (⟨x12959.Params, x12959.Result⟩ : S_api_Sig)) (SL.dpair (SL.dsl (SL.dflat s13059 Flat.u8 x12959.Result).f1))) Flat.str x12764.Name)))
              refine st_bslice1 F13101 s13141 Fx.sl44 rfl (by decide) rfl rfl rfl fun v13134 w13135 q13136 F13137 s13138 => ?_
              have s13142 : SL w [] _ [Blk g12777 77 [.string ⟨⟨x12764.Name⟩⟩, v12773, .int .u8 (x12764.Sig.Result.toNat : Int)], Sl T_api_Class v69 x58.Classes, Sl T_api_Func v71 x58.Funcs, Sl (Ty.slice Ty.u8) v73 x58.Certs, Blk g19 46 [.string ⟨⟨[]⟩⟩, .slice none 0 0, .slice none 0 0, .slice none 0 0, .slice none 0 0]] := s13138.drop.f1.drop.f5.drop
              refine kq_end ⟨s13142, ?_⟩
              refine hd_one (i := 1) rfl (by kernel_rfl) ?_
              refine st_op F13137 (ex_ld Fx.nag44 rfl (s13138.blk_cell (.tail _ <| .tail _ <| .head _) rfl)) rfl rfl rfl fun q13143 F13144 => ?_
              have s13145 : SL w [] _ [Blk g12777 77 [.string ⟨⟨x12764.Name⟩⟩, v12773, .int .u8 (x12764.Sig.Result.toNat : Int)], Sl T_api_Class v69 x58.Classes, Sl T_api_Func v71 x58.Funcs, Sl (Ty.slice Ty.u8) v73 x58.Certs, Blk g19 46 [.string ⟨⟨[]⟩⟩, .slice none 0 0, .slice none 0 0, .slice none 0 0, .slice none 0 0]] := s13138.drop.f1.drop.f5.drop
              refine kq_end ⟨s13145, ?_⟩
              refine hd_one (i := 9) rfl (by kernel_rfl) ?_
              refine st_append_own F13144 s13138.f7 Fx.sl44 rfl rfl rfl rfl rfl rfl hx12980 rfl fun v13148 w13149 q13150 F13151 s13152 => ?_
              have s13153 : SL w [] _ [Blk g12777 77 [.string ⟨⟨x12764.Name⟩⟩, v12773, .int .u8 (x12764.Sig.Result.toNat : Int)], Sl T_api_Class v69 x58.Classes, Sl T_api_Func v71 x58.Funcs, Sl (Ty.slice Ty.u8) v73 x58.Certs, Blk g19 46 [.string ⟨⟨[]⟩⟩, .slice none 0 0, .slice none 0 0, .slice none 0 0, .slice none 0 0]] := s13152.drop.f1.drop
              refine kq_end ⟨s13153, ?_⟩
              refine hd_one (i := 10) rfl (by kernel_rfl) ?_
              refine st_op F13151 (ex_fab Fx.fa46_1 rfl rfl) rfl rfl rfl fun q13154 F13155 => ?_
              have s13156 : SL w [] _ [Blk g12777 77 [.string ⟨⟨x12764.Name⟩⟩, v12773, .int .u8 (x12764.Sig.Result.toNat : Int)], Sl T_api_Class v69 x58.Classes, Sl T_api_Func v71 x58.Funcs, Sl (Ty.slice Ty.u8) v73 x58.Certs, Blk g19 46 [.string ⟨⟨[]⟩⟩, .slice none 0 0, .slice none 0 0, .slice none 0 0, .slice none 0 0]] := s13152.drop.f1.drop
              refine kq_end ⟨s13156, ?_⟩
              refine hd_one (i := 11) rfl (by kernel_rfl) ?_
              have s13161 := s13152.f2
              refine st_store F13155 s13161 rfl rfl Fx.sz44 (form_cells (formL (s13161.own_rd (.tail _ <| .head _)))) (form_one (formL (s13161.own_rd (.tail _ <| .head _)))) rfl fun w13157 q13158 F13159 s13160 => ?_
              replace s13160 : SL w [] w13157 [Blk g80 46 [.string ⟨⟨x58.Name⟩⟩, v69, v71, v73, v13148], Sl T_api_Import v13148 x12979, Blk g12777 77 [.string ⟨⟨x12764.Name⟩⟩, v12773, .int .u8 (x12764.Sig.Result.toNat : Int)], Sl T_api_Class v69 x58.Classes, Sl T_api_Func v71 x58.Funcs, Sl (Ty.slice Ty.u8) v73 x58.Certs, Blk g19 46 [.string ⟨⟨[]⟩⟩, .slice none 0 0, .slice none 0 0, .slice none 0 0, .slice none 0 0]] := s13160
              have s13162 : SL w [] _ [Blk g12777 77 [.string ⟨⟨x12764.Name⟩⟩, v12773, .int .u8 (x12764.Sig.Result.toNat : Int)], Sl T_api_Class v69 x58.Classes, Sl T_api_Func v71 x58.Funcs, Sl (Ty.slice Ty.u8) v73 x58.Certs, Blk g19 46 [.string ⟨⟨[]⟩⟩, .slice none 0 0, .slice none 0 0, .slice none 0 0, .slice none 0 0]] := s13160.drop.drop
              refine kq_end ⟨s13162, ?_⟩
              refine hd_done (by kernel_rfl) ?_
              refine blk_n ?_
              refine then_n ?_
              refine wp_reg ?_
              refine st_pr F13159 (PR.op (ex_add rfl rfl) <| PR.op (ex_move rfl) <| PR.nil) fun q13163 F13164 => ?_
              refine st_end ?_
              obtain rfl := some_ok H
              refine then_n ?_
              exact ⟨_, rfl, v13148, F13164.sub ⟨rfl, rfl, rfl, rfl, rfl, trivial⟩, s13160.f2.drop.f1.f5.f5.f5.f5.f5⟩
      · replace H := ite_f hb12322 H
        refine wp_exit ?_
        refine then_x <| then_x <| blk_hit ?_
        obtain rfl := some_ok H
        obtain rfl := hr _ rfl
        refine then_n ?_
        exact ⟨v11459, F12320.sub ⟨rfl, rfl, trivial⟩, s12312⟩
  · intro q13167 w13168 hJ
    obtain ⟨v9900, F13165, s13166⟩ := hJ
    have H := R9899
    clear R9899 H9898
    refine then_n ?_
    refine wp_seq ?_
    refine wp_reg ?_
    refine st_pr F13165 (PR.op (ex_ldagg Fx.agg46 rfl (s13166.blk_cells (.head _) (o := 0) (ds := [.string ⟨⟨x58.Name⟩⟩, v69, v71, v73, v9900]) (fun j u hu => by rw [Nat.zero_add]; exact hu)) rfl) <| PR.nil) fun q13176 F13177 => ?_
    have s13182 := s13166.f4
    refine st_storea F13177 s13182 rfl rfl Fx.sz46 (one_cons rfl (one_cons (form_one (formL (s13182.own_rd (.tail _ <| .tail _ <| .head _)))) (one_cons (form_one (formL (s13182.own_rd (.tail _ <| .tail _ <| .tail _ <| .head _)))) (one_cons (form_one (formL (s13182.own_rd (.tail _ <| .tail _ <| .tail _ <| .tail _ <| .head _)))) (one_cons (form_one (formL (s13182.own_rd (.tail _ <| .tail _ <| .tail _ <| .tail _ <| .tail _ <| .head _)))) one_nil))))) (Nat.le_of_ble_eq_true rfl) fun w13178 q13179 F13180 s13181 => ?_
    replace s13181 : SL w [] w13178 [Blk g19 46 [.string ⟨⟨x58.Name⟩⟩, v69, v71, v73, v9900], Blk g80 46 [.string ⟨⟨x58.Name⟩⟩, v69, v71, v73, v9900], Sl T_api_Class v69 x58.Classes, Sl T_api_Func v71 x58.Funcs, Sl (Ty.slice Ty.u8) v73 x58.Certs, Sl T_api_Import v9900 o9897] := s13181
    refine st_end ?_
    refine then_n ?_
    obtain rfl := some_ok H
    refine wp_ret ?_
    refine ret_gen (rs := [.cell 2 46]) (vs := [.agg ⟨[.string ⟨⟨x58.Name⟩⟩, v69, v71, v73, v9900]⟩]) F13180 (by rfl) ⟨_, _, rfl, RV.blk s13181 (.head _) rfl Fx.agg46 rfl, rfl⟩ ⟨_, rfl, ⟨v69, v71, v73, v9900, rfl, s13181.drop.drop⟩⟩
end Go.Proofs.Ytmeodoidfpcjlaa
