/- The walk of proviso/link.Alone. -/
import Derived.Test.YtmeodoidfpcjlaaFx
import Derived.Test.YtmeodoidfpcjlaaDf
import Derived.Test.YtmeodoidfpcjlaaC31
import Derived.Test.YtmeodoidfpcjlaaC36
import Derived.Test.YtmeodoidfpcjlaaC37
set_option linter.unusedVariables false
set_option linter.unusedSimpArgs false
namespace Go.Proofs.Ytmeodoidfpcjlaa
open Go Go.RowKit Go.Pv
theorem link_Alone_c {w : World} {v0_1 v0_2 v0_3 : Value} {a0 : S_api_Module} {r : S_api_Part} (hr0_1 : Rd T_api_Class w [] v0_1 a0.Classes) (hr0_2 : Rd T_api_Func w [] v0_2 a0.Funcs) (hr0_3 : Rd (Ty.slice Ty.u8) w [] v0_3 a0.Certs) (H : link_Alone a0 = some r) :
    Calls Try.prog 17 #[.agg ⟨[.string ⟨⟨a0.Name⟩⟩, v0_1, v0_2, v0_3]⟩] w (Ret fun u_ w_ => ∃ u0 u1 u2 u3 : Value, u_ = .agg ⟨[.string ⟨⟨r.Module.Name⟩⟩, u0, u1, u2, u3]⟩ ∧ SL w [] w_ [Sl T_api_Class u0 r.Module.Classes, Sl T_api_Func u1 r.Module.Funcs, Sl (Ty.slice Ty.u8) u2 r.Module.Certs, Sl T_api_Import u3 r.Imports]) := by
  have s0 : SL w [] w [] := SL.init0 w
  refine call_enter Try.func17 rfl Try.ntmps17 (Nat.le_of_ble_eq_true rfl) (args := [.agg ⟨[.string ⟨⟨a0.Name⟩⟩, v0_1, v0_2, v0_3]⟩]) fun q0 F0 => ?_
  unfold link_Alone at H
  refine wp_seq ?_
  refine wp_reg ?_
  refine st_box F0 s0 rfl rfl rfl fun g13 w14 q15 F16 s17 => ?_
  refine st_alloc F16 s17 Fx.zero46 rfl rfl fun g19 w20 q21 F22 s23 => ?_
  refine st_end ?_
  refine then_n ?_
  refine wp_seq ?_
  refine wp_reg ?_
  refine st_pr F22 (PR.op (ex_fab Fx.fa43_0 rfl rfl) <| PR.op (ex_ld Fx.nag9 rfl (s23.blk_cell (.tail _ <| .head _) rfl)) <| PR.op (ex_build (vs := [.string ⟨⟨a0.Name⟩⟩]) Fx.zero43 Fx.pl43 rfl (cs := [.string ⟨⟨a0.Name⟩⟩, .slice none 0 0, .slice none 0 0, .slice none 0 0]) (rfl)) <| PR.nil) fun q38 F39 => ?_
  refine st_alloc F39 s23 Fx.zero43 rfl rfl fun g40 w41 q42 F43 s44 => ?_
  have s50 := s44
  refine st_storea F43 s50 rfl rfl Fx.sz43 (one_cons rfl (one_cons rfl (one_cons rfl (one_cons rfl one_nil)))) (Nat.le_of_ble_eq_true rfl) fun w46 q47 F48 s49 => ?_
  replace s49 : SL w [] w46 [Blk g40 43 [.string ⟨⟨a0.Name⟩⟩, .slice none 0 0, .slice none 0 0, .slice none 0 0], Blk g19 46 [.string ⟨⟨[]⟩⟩, .slice none 0 0, .slice none 0 0, .slice none 0 0, .slice none 0 0], Blk g13 43 [.string ⟨⟨a0.Name⟩⟩, v0_1, v0_2, v0_3]] := s49
  refine st_end ?_
  refine then_n ?_
  refine wp_seq ?_
  refine wp_seq ?_
  refine wp_reg ?_
  refine st_pr F48 (PR.op (ex_fab Fx.fa43_1 rfl rfl) <| PR.op (ex_ld Fx.nag40 rfl (s49.blk_cell (.tail _ <| .tail _ <| .head _) rfl)) <| PR.op (ex_len rfl Try.underlying40 (formL (rdL hr0_1 s49))) <| PR.op (ex_move rfl) <| PR.nil) fun q1960 F1961 => ?_
  refine st_end ?_
  refine then_n ?_
  obtain ⟨o2909, H2910, R2911⟩ := bind_ok H
  clear H
  refine wp_cutn (fun a w_ => ∃ v2912 : Value, Fr a 55 [(1, .pointer (some ⟨g13, 0, none⟩)), (2, .pointer (some ⟨g19, 0, none⟩)), (3, .pointer (some ⟨g40, 0, none⟩))] ∧ SL w [] w_ [Blk g40 43 [.string ⟨⟨a0.Name⟩⟩, v2912, .slice none 0 0, .slice none 0 0], Blk g19 46 [.string ⟨⟨[]⟩⟩, .slice none 0 0, .slice none 0 0, .slice none 0 0, .slice none 0 0], Blk g13 43 [.string ⟨⟨a0.Name⟩⟩, v0_1, v0_2, v0_3], Sl T_api_Class v2912 o2909]) ?_ ?_
  · have H := H2910
    refine wp_block ?_
    refine wp_lp (link_Alone_b0 a0) (fun s2914 a w_ => ∃ v3387 : Value, Fr a 55 [(1, .pointer (some ⟨g13, 0, none⟩)), (2, .pointer (some ⟨g19, 0, none⟩)), (3, .pointer (some ⟨g40, 0, none⟩)), (12, v0_1), (13, .int .i64 (a0.Classes.length : Int)), (14, .int .i64 s2914.2)] ∧ SL w [] w_ [Blk g40 43 [.string ⟨⟨a0.Name⟩⟩, v3387, .slice none 0 0, .slice none 0 0], Blk g19 46 [.string ⟨⟨[]⟩⟩, .slice none 0 0, .slice none 0 0, .slice none 0 0, .slice none 0 0], Blk g13 43 [.string ⟨⟨a0.Name⟩⟩, v0_1, v0_2, v0_3], Sl T_api_Class v3387 s2914.1]) H ?_ ?_
    · exact ⟨(.slice none 0 0), F1961.sub ⟨rfl, rfl, rfl, rfl, rfl, rfl, trivial⟩, (SL.nilSl (T := T_api_Class) s49).f3.f3.f3⟩
    · intro s2914 q3626 w3627 hI3628 o3625 H hr
      obtain ⟨v3387, F3623, s3624⟩ := hI3628
      replace H : link_Alone_b0 a0 s2914 = some o3625 := H
      unfold link_Alone_b0 at H
      refine wp_seq ?_
      refine wp_reg ?_
      refine st_pr F3623 (PR.op (ex_lt rfl rfl) <| PR.nil) fun q3631 F3632 => ?_
      refine st_end ?_
      refine then_n ?_
      refine wp_seq ?_
      refine wp_if F3632 rfl (fun hb3634 => ?_) (fun hb3634 => ?_)
      · replace H := ite_t hb3634 H
        refine wp_skip ?_
        refine then_n ?_
        refine wp_seq ?_
        refine wp_block ?_
        refine wp_seq ?_
        refine wp_reg ?_
        obtain ⟨x3771, hx3772, H⟩ := bind_ok H
        obtain ⟨ad3773, cs3776, G3777, hi3774, hc3775, hr3778, hG3779⟩ := Rd.idx hr0_1 Fx.sl40 rfl hx3772
        obtain ⟨v3780, rfl, hr3781⟩ := (R_api_Class hr3778 hG3779)
        replace hc3775 := hc3775 _ _ s3624
        refine st_pr F3632 (PR.op (hi3774 _ _ _ _ _ _ _ _ _ _ rfl rfl) <| PR.op (ex_ldagg Fx.agg81 rfl hc3775 rfl) <| PR.nil) fun q3782 F3783 => ?_
        refine st_alloc F3783 s3624 Fx.zero81 rfl rfl fun g3784 w3785 q3786 F3787 s3788 => ?_
        have s3794 := s3788
        refine st_storea F3787 s3794 rfl rfl Fx.sz81 (one_cons rfl (one_cons rfl (one_cons (form_one (formL (rdL hr3781 s3794))) one_nil))) (Nat.le_of_ble_eq_true rfl) fun w3790 q3791 F3792 s3793 => ?_
        replace s3793 : SL w [] w3790 [Blk g3784 81 [.string ⟨⟨x3771.Name⟩⟩, .int .i64 x3771.Parent, v3780], Blk g40 43 [.string ⟨⟨a0.Name⟩⟩, v3387, .slice none 0 0, .slice none 0 0], Blk g19 46 [.string ⟨⟨[]⟩⟩, .slice none 0 0, .slice none 0 0, .slice none 0 0, .slice none 0 0], Blk g13 43 [.string ⟨⟨a0.Name⟩⟩, v0_1, v0_2, v0_3], Sl T_api_Class v3387 s2914.1] := s3793
        refine st_end ?_
        refine then_n ?_
        refine wp_seq ?_
        refine wp_reg ?_
        obtain ⟨x3815, hx3816, H⟩ := bind_ok H
        refine st_pr F3792 (PR.op (ex_fab Fx.fa81_2 rfl rfl) <| PR.op (ex_ld Fx.nag79 rfl (s3793.blk_cell (.head _) rfl)) <| PR.nil) fun q3817 F3818 => ?_
        refine st_call (args := [.tmp 19]) F3818 Fx.fn36 rfl (slices_Clone_api_Field_api_Field_c (a0 := x3771.Fields)  (hr3781.pass0 s3793) hx3816) rfl fun v3819 w3820 q3821 hS3823 F3822 => ?_
        obtain ⟨_, rfl, hq3825⟩ := hS3823
        have s3824 := s3793.add hq3825
        refine st_pr F3822 (PR.op (ex_fab Fx.fa81_2 rfl rfl) <| PR.nil) fun q3828 F3829 => ?_
        have s3834 := s3824.f1
        refine st_store F3829 s3834 rfl rfl Fx.sz79 (form_cells (formL (s3834.own_rd (.tail _ <| .head _)))) (form_one (formL (s3834.own_rd (.tail _ <| .head _)))) rfl fun w3830 q3831 F3832 s3833 => ?_
        replace s3833 : SL w [] w3830 [Blk g3784 81 [.string ⟨⟨x3771.Name⟩⟩, .int .i64 x3771.Parent, v3819], Sl T_api_Field v3819 x3815, Blk g40 43 [.string ⟨⟨a0.Name⟩⟩, v3387, .slice none 0 0, .slice none 0 0], Blk g19 46 [.string ⟨⟨[]⟩⟩, .slice none 0 0, .slice none 0 0, .slice none 0 0, .slice none 0 0], Blk g13 43 [.string ⟨⟨a0.Name⟩⟩, v0_1, v0_2, v0_3], Sl T_api_Class v3387 s2914.1] := s3833
        refine st_end ?_
        refine then_n ?_
        refine wp_reg ?_
        refine st_pr F3832 (PR.op (ex_fab Fx.fa43_1 rfl rfl) <| PR.op (ex_ld Fx.nag40 rfl (s3833.blk_cell (.tail _ <| .tail _ <| .head _) rfl)) <| PR.op (ex_ldagg Fx.agg81 rfl (s3833.blk_cells (.head _) (o := 0) (ds := [.string ⟨⟨x3771.Name⟩⟩, .int .i64 x3771.Parent, v3819]) (fun j u hu => by rw [Nat.zero_add]; exact hu)) rfl) <| PR.nil) fun q3835 F3836 => ?_
        have s3844 : SL w [] _ (Dt T_api_Class (⟨x3771.Name, x3771.Parent, x3815⟩ : S_api_Class) [.string ⟨⟨x3771.Name⟩⟩, .int .i64 x3771.Parent, v3819] :: [Blk g3784 81 [.string ⟨⟨x3771.Name⟩⟩, .int .i64 x3771.Parent, v3819], Blk g40 43 [.string ⟨⟨a0.Name⟩⟩, v3387, .slice none 0 0, .slice none 0 0], Blk g19 46 [.string ⟨⟨[]⟩⟩, .slice none 0 0, .slice none 0 0, .slice none 0 0, .slice none 0 0], Blk g13 43 [.string ⟨⟨a0.Name⟩⟩, v0_1, v0_2, v0_3], Sl T_api_Class v3387 s2914.1]) := (SL.diso (f := t_api_Class) (x := (⟨x3771.Name, x3771.Parent, x3815⟩ : S_api_Class)) (SL.dpair (SL.dflat (SL.dpair (SL.dflat (SL.dsl s3833.f1) (Flat.int .i64) x3771.Parent)) Flat.str x3771.Name)))
        refine st_bslice1 F3836 s3844 Fx.sl40 rfl (by decide) rfl rfl rfl fun v3837 w3838 q3839 F3840 s3841 => ?_
        obtain ⟨x3845, hx3846, H⟩ := bind_ok H
        refine st_append_own F3840 s3841.f5 Fx.sl40 rfl rfl rfl rfl rfl rfl hx3846 rfl fun v3847 w3848 q3849 F3850 s3851 => ?_
        refine st_pr F3850 (PR.op (ex_fab Fx.fa43_1 rfl rfl) <| PR.nil) fun q3852 F3853 => ?_
        have s3858 := s3851.f2
        refine st_store F3853 s3858 rfl rfl Fx.sz40 (form_cells (formL (s3858.own_rd (.tail _ <| .head _)))) (form_one (formL (s3858.own_rd (.tail _ <| .head _)))) rfl fun w3854 q3855 F3856 s3857 => ?_
        replace s3857 : SL w [] w3854 [Blk g40 43 [.string ⟨⟨a0.Name⟩⟩, v3847, .slice none 0 0, .slice none 0 0], Sl T_api_Class v3847 x3845, Blk g3784 81 [.string ⟨⟨x3771.Name⟩⟩, .int .i64 x3771.Parent, v3819], Blk g19 46 [.string ⟨⟨[]⟩⟩, .slice none 0 0, .slice none 0 0, .slice none 0 0, .slice none 0 0], Blk g13 43 [.string ⟨⟨a0.Name⟩⟩, v0_1, v0_2, v0_3]] := s3857
        refine st_end ?_
        refine blk_n ?_
        refine then_n ?_
        refine wp_reg ?_
        refine st_pr F3856 (PR.op (ex_add rfl rfl) <| PR.op (ex_move rfl) <| PR.nil) fun q3859 F3860 => ?_
        refine st_end ?_
        obtain rfl := some_ok H
        refine then_n ?_
        exact ⟨_, rfl, v3847, F3860.sub ⟨rfl, rfl, rfl, rfl, rfl, rfl, trivial⟩, s3857.f2.drop.f1.f3.f3.f3⟩
      · replace H := ite_f hb3634 H
        refine wp_exit ?_
        refine then_x <| then_x <| blk_hit ?_
        obtain rfl := some_ok H
        obtain rfl := hr _ rfl
        refine then_n ?_
        exact ⟨v3387, F3632.sub ⟨rfl, rfl, rfl, trivial⟩, s3624⟩
  · intro q3863 w3864 hJ
    obtain ⟨v2912, F3861, s3862⟩ := hJ
    have H := R2911
    clear R2911 H2910
    refine then_n ?_
    refine wp_seq ?_
    refine wp_seq ?_
    refine wp_reg ?_
    refine st_pr F3861 (PR.op (ex_fab Fx.fa43_2 rfl rfl) <| PR.op (ex_ld Fx.nag41 rfl (s3862.blk_cell (.tail _ <| .tail _ <| .head _) rfl)) <| PR.op (ex_len rfl Try.underlying41 (formL (rdL hr0_2 s3862))) <| PR.op (ex_move rfl) <| PR.nil) fun q27742 F27743 => ?_
    refine st_end ?_
    refine then_n ?_
    obtain ⟨o39675, H39676, R39677⟩ := bind_ok H
    clear H
    refine wp_cutn (fun a w_ => ∃ v39678 : Value, Fr a 55 [(2, .pointer (some ⟨g19, 0, none⟩)), (3, .pointer (some ⟨g40, 0, none⟩))] ∧ SL w [] w_ [Blk g40 43 [.string ⟨⟨a0.Name⟩⟩, v2912, v39678, .slice none 0 0], Blk g19 46 [.string ⟨⟨[]⟩⟩, .slice none 0 0, .slice none 0 0, .slice none 0 0, .slice none 0 0], Sl T_api_Class v2912 o2909, Sl T_api_Func v39678 o39675]) ?_ ?_
    · have H := H39676
      refine wp_block ?_
      refine wp_lp (link_Alone_b1 a0) (fun s39680 a w_ => ∃ v45645 : Value, Fr a 55 [(2, .pointer (some ⟨g19, 0, none⟩)), (3, .pointer (some ⟨g40, 0, none⟩)), (30, v0_2), (31, .int .i64 (a0.Funcs.length : Int)), (32, .int .i64 s39680.2)] ∧ SL w [] w_ [Blk g40 43 [.string ⟨⟨a0.Name⟩⟩, v2912, v45645, .slice none 0 0], Blk g19 46 [.string ⟨⟨[]⟩⟩, .slice none 0 0, .slice none 0 0, .slice none 0 0, .slice none 0 0], Sl T_api_Class v2912 o2909, Sl T_api_Func v45645 s39680.1]) H ?_ ?_
      · exact ⟨(.slice none 0 0), F27743.sub ⟨rfl, rfl, rfl, rfl, rfl, trivial⟩, (SL.nilSl (T := T_api_Func) s3862).f3.drop.f3.f3.f3⟩
      · intro s39680 q48630 w48631 hI48632 o48629 H hr
        obtain ⟨v45645, F48627, s48628⟩ := hI48632
        replace H : link_Alone_b1 a0 s39680 = some o48629 := H
        unfold link_Alone_b1 at H
        refine wp_seq ?_
        refine wp_reg ?_
        refine st_pr F48627 (PR.op (ex_lt rfl rfl) <| PR.nil) fun q48635 F48636 => ?_
        refine st_end ?_
        refine then_n ?_
        refine wp_seq ?_
        refine wp_if F48636 rfl (fun hb48638 => ?_) (fun hb48638 => ?_)
        · replace H := ite_t hb48638 H
          refine wp_skip ?_
          refine then_n ?_
          refine wp_seq ?_
          refine wp_block ?_
          refine wp_seq ?_
          refine wp_reg ?_
          obtain ⟨x50150, hx50151, H⟩ := bind_ok H
          obtain ⟨ad50152, cs50155, G50156, hi50153, hc50154, hr50157, hG50158⟩ := Rd.idx hr0_2 Fx.sl41 rfl hx50151
          obtain ⟨v50159, v50161, rfl, hr50160, hr50162⟩ := (R_api_Func hr50157 hG50158)
          replace hc50154 := hc50154 _ _ s48628
          refine st_pr F48636 (PR.op (hi50153 _ _ _ _ _ _ _ _ _ _ rfl rfl) <| PR.op (ex_ldagg Fx.agg56 rfl hc50154 rfl) <| PR.nil) fun q50163 F50164 => ?_
          refine st_alloc F50164 s48628 Fx.zero56 rfl rfl fun g50165 w50166 q50167 F50168 s50169 => ?_
          have s50175 := s50169
          refine st_storea F50168 s50175 rfl rfl Fx.sz56 (one_cons rfl (one_cons (form_one (formL (rdL hr50160 s50175))) (one_cons rfl (one_cons rfl (one_cons (form_one (formL (rdL hr50162 s50175))) one_nil))))) (Nat.le_of_ble_eq_true rfl) fun w50171 q50172 F50173 s50174 => ?_
          replace s50174 : SL w [] w50171 [Blk g50165 56 [.string ⟨⟨x50150.Name⟩⟩, v50159, .int .u8 (x50150.Sig.Result.toNat : Int), .int .i64 x50150.Locals, v50161], Blk g40 43 [.string ⟨⟨a0.Name⟩⟩, v2912, v45645, .slice none 0 0], Blk g19 46 [.string ⟨⟨[]⟩⟩, .slice none 0 0, .slice none 0 0, .slice none 0 0, .slice none 0 0], Sl T_api_Class v2912 o2909, Sl T_api_Func v45645 s39680.1] := s50174
          refine st_end ?_
          refine then_n ?_
          refine wp_seq ?_
          obtain ⟨o51108, H51109, R51110⟩ := bind_ok H
          clear H
          refine wp_cutn (fun a w_ => ∃ v51111 v51113 : Value, Fr a 55 [(2, .pointer (some ⟨g19, 0, none⟩)), (3, .pointer (some ⟨g40, 0, none⟩)), (7, .pointer (some ⟨g50165, 0, none⟩)), (30, v0_2), (31, .int .i64 (a0.Funcs.length : Int)), (32, .int .i64 s39680.2)] ∧ SL w [] w_ [Blk g50165 56 [.string ⟨⟨x50150.Name⟩⟩, v51111, .int .u8 (x50150.Sig.Result.toNat : Int), .int .i64 x50150.Locals, v51113], Blk g40 43 [.string ⟨⟨a0.Name⟩⟩, v2912, v45645, .slice none 0 0], Blk g19 46 [.string ⟨⟨[]⟩⟩, .slice none 0 0, .slice none 0 0, .slice none 0 0, .slice none 0 0], Sl T_api_Class v2912 o2909, Sl T_api_Func v45645 s39680.1, Sl Ty.u8 v51111 o51108.1, Sl Ty.u8 v51113 o51108.2]) ?_ ?_
          · have H := H51109
            obtain ⟨x51202, hx51203, H⟩ := bind_ok H
            obtain ⟨x51213, hx51214, H⟩ := bind_ok H
            refine wp_regh Fx.mixed (fun w_ => SL w [] w_ [Blk g40 43 [.string ⟨⟨a0.Name⟩⟩, v2912, v45645, .slice none 0 0], Blk g19 46 [.string ⟨⟨[]⟩⟩, .slice none 0 0, .slice none 0 0, .slice none 0 0, .slice none 0 0], Sl T_api_Class v2912 o2909, Sl T_api_Func v45645 s39680.1]) ?_
            have s51234 := s50174.drew
            have s51235 : SL w [] _ [Blk g40 43 [.string ⟨⟨a0.Name⟩⟩, v2912, v45645, .slice none 0 0], Blk g19 46 [.string ⟨⟨[]⟩⟩, .slice none 0 0, .slice none 0 0, .slice none 0 0, .slice none 0 0], Sl T_api_Class v2912 o2909, Sl T_api_Func v45645 s39680.1] := s51234.drop
            refine hd_take (i := 0) rfl (by kernel_rfl) (by kernel_rfl) (by kernel_rfl) (fun _ hC => ex_fab Fx.fa56_1 rfl rfl) rfl rfl rfl F50173 s51235 fun q51236 F51237 => ?_
            refine hd_take (i := 1) rfl (by kernel_rfl) (by kernel_rfl) (by kernel_rfl) (fun _ hC => ex_fab Fx.fa54_0 rfl rfl) rfl rfl rfl F51237 s51235 fun q51238 F51239 => ?_
            refine hd_take (i := 4) rfl (by kernel_rfl) (by kernel_rfl) (by kernel_rfl) (fun _ hC => ex_fab Fx.fa56_3 rfl rfl) rfl rfl rfl F51239 s51235 fun q51240 F51241 => ?_
            refine hd_many (rs := [2, 5]) (by kernel_rfl) (by decide) (hd_cons (wpOp_of rfl ?_) (hd_cons (wpOp_of rfl ?_) (hd_nil)))
            · refine st_op F51241 (ex_ld Fx.nag51 rfl (s51234.blk_cell (.head _) rfl)) rfl rfl rfl fun q51242 F51243 => ?_
              have s51244 : SL w [] _ [Blk g40 43 [.string ⟨⟨a0.Name⟩⟩, v2912, v45645, .slice none 0 0], Blk g19 46 [.string ⟨⟨[]⟩⟩, .slice none 0 0, .slice none 0 0, .slice none 0 0, .slice none 0 0], Sl T_api_Class v2912 o2909, Sl T_api_Func v45645 s39680.1] := s51234.drop
              refine kq_end ⟨s51244, ?_⟩
              refine hd_many (rs := [3, 5]) (by kernel_rfl) (by decide) (hd_cons (wpOp_of rfl ?_) (hd_cons (wpOp_of rfl ?_) (hd_nil)))
              · refine st_call (args := [.tmp 38]) F51243 Fx.fn37 rfl (slices_Clone_api_Type_api_Type_c (a0 := x50150.Sig.Params)  (hr50160.pass0 s51234) hx51203) rfl fun v51247 w51248 q51249 hS51251 F51250 => ?_
                obtain ⟨_, rfl, hq51253⟩ := hS51251
                have s51252 := s51234.add hq51253
                have s51256 : SL w [] _ [Blk g40 43 [.string ⟨⟨a0.Name⟩⟩, v2912, v45645, .slice none 0 0], Blk g19 46 [.string ⟨⟨[]⟩⟩, .slice none 0 0, .slice none 0 0, .slice none 0 0, .slice none 0 0], Sl T_api_Class v2912 o2909, Sl T_api_Func v45645 s39680.1] := s51252.drop.drop
                refine kq_end ⟨s51256, ?_⟩
                refine hd_one (i := 5) rfl (by kernel_rfl) ?_
                refine st_op F51250 (ex_ld Fx.nag22 rfl (s51252.blk_cell (.tail _ <| .head _) rfl)) rfl rfl rfl fun q51257 F51258 => ?_
                have s51259 : SL w [] _ [Blk g40 43 [.string ⟨⟨a0.Name⟩⟩, v2912, v45645, .slice none 0 0], Blk g19 46 [.string ⟨⟨[]⟩⟩, .slice none 0 0, .slice none 0 0, .slice none 0 0, .slice none 0 0], Sl T_api_Class v2912 o2909, Sl T_api_Func v45645 s39680.1] := s51252.drop.drop
                refine kq_end ⟨s51259, ?_⟩
                refine hd_many (rs := [6, 7]) (by kernel_rfl) (by decide) (hd_cons (wpOp_of rfl ?_) (hd_cons (wpOp_of rfl ?_) (hd_nil)))
                · refine st_call (args := [.tmp 41]) F51258 Fx.fn31 rfl (slices_Clone_byte_byte_c (a0 := x50150.Code)  (hr50162.pass0 s51252) hx51214) rfl fun v51262 w51263 q51264 hS51266 F51265 => ?_
                  obtain ⟨_, rfl, hq51268⟩ := hS51266
                  have s51267 := s51252.add hq51268
                  have s51271 : SL w [] _ [Blk g40 43 [.string ⟨⟨a0.Name⟩⟩, v2912, v45645, .slice none 0 0], Blk g19 46 [.string ⟨⟨[]⟩⟩, .slice none 0 0, .slice none 0 0, .slice none 0 0, .slice none 0 0], Sl T_api_Class v2912 o2909, Sl T_api_Func v45645 s39680.1] := s51267.drop.drop.drop
                  refine kq_end ⟨s51271, ?_⟩
                  refine hd_one (i := 7) rfl (by kernel_rfl) ?_
                  refine st_op F51265 (ex_fab Fx.fa56_1 rfl rfl) rfl rfl rfl fun q51272 F51273 => ?_
                  have s51274 : SL w [] _ [Blk g40 43 [.string ⟨⟨a0.Name⟩⟩, v2912, v45645, .slice none 0 0], Blk g19 46 [.string ⟨⟨[]⟩⟩, .slice none 0 0, .slice none 0 0, .slice none 0 0, .slice none 0 0], Sl T_api_Class v2912 o2909, Sl T_api_Func v45645 s39680.1] := s51267.drop.drop.drop
                  refine kq_end ⟨s51274, ?_⟩
                  refine hd_one (i := 8) rfl (by kernel_rfl) ?_
                  refine st_op F51273 (ex_fab Fx.fa54_0 rfl rfl) rfl rfl rfl fun q51275 F51276 => ?_
                  have s51277 : SL w [] _ [Blk g40 43 [.string ⟨⟨a0.Name⟩⟩, v2912, v45645, .slice none 0 0], Blk g19 46 [.string ⟨⟨[]⟩⟩, .slice none 0 0, .slice none 0 0, .slice none 0 0, .slice none 0 0], Sl T_api_Class v2912 o2909, Sl T_api_Func v45645 s39680.1] := s51267.drop.drop.drop
                  refine kq_end ⟨s51277, ?_⟩
                  refine hd_one (i := 9) rfl (by kernel_rfl) ?_
                  have s51282 := s51267.f2
                  refine st_store F51276 s51282 rfl rfl Fx.sz51 (form_cells (formL (s51282.own_rd (.tail _ <| .tail _ <| .head _)))) (form_one (formL (s51282.own_rd (.tail _ <| .tail _ <| .head _)))) rfl fun w51278 q51279 F51280 s51281 => ?_
                  replace s51281 : SL w [] w51278 [Blk g50165 56 [.string ⟨⟨x50150.Name⟩⟩, v51247, .int .u8 (x50150.Sig.Result.toNat : Int), .int .i64 x50150.Locals, v50161], Sl Ty.u8 v51262 x51213, Sl Ty.u8 v51247 x51202, Blk g40 43 [.string ⟨⟨a0.Name⟩⟩, v2912, v45645, .slice none 0 0], Blk g19 46 [.string ⟨⟨[]⟩⟩, .slice none 0 0, .slice none 0 0, .slice none 0 0, .slice none 0 0], Sl T_api_Class v2912 o2909, Sl T_api_Func v45645 s39680.1] := s51281
                  have s51283 : SL w [] _ [Blk g40 43 [.string ⟨⟨a0.Name⟩⟩, v2912, v45645, .slice none 0 0], Blk g19 46 [.string ⟨⟨[]⟩⟩, .slice none 0 0, .slice none 0 0, .slice none 0 0, .slice none 0 0], Sl T_api_Class v2912 o2909, Sl T_api_Func v45645 s39680.1] := s51281.drop.drop.drop
                  refine kq_end ⟨s51283, ?_⟩
                  refine hd_one (i := 10) rfl (by kernel_rfl) ?_
                  refine st_op F51280 (ex_fab Fx.fa56_3 rfl rfl) rfl rfl rfl fun q51284 F51285 => ?_
                  have s51286 : SL w [] _ [Blk g40 43 [.string ⟨⟨a0.Name⟩⟩, v2912, v45645, .slice none 0 0], Blk g19 46 [.string ⟨⟨[]⟩⟩, .slice none 0 0, .slice none 0 0, .slice none 0 0, .slice none 0 0], Sl T_api_Class v2912 o2909, Sl T_api_Func v45645 s39680.1] := s51281.drop.drop.drop
                  refine kq_end ⟨s51286, ?_⟩
                  refine hd_one (i := 11) rfl (by kernel_rfl) ?_
                  have s51291 := s51281
                  refine st_store F51285 s51291 rfl rfl Fx.sz22 (form_cells (formL (s51291.own_rd (.tail _ <| .head _)))) (form_one (formL (s51291.own_rd (.tail _ <| .head _)))) rfl fun w51287 q51288 F51289 s51290 => ?_
                  replace s51290 : SL w [] w51287 [Blk g50165 56 [.string ⟨⟨x50150.Name⟩⟩, v51247, .int .u8 (x50150.Sig.Result.toNat : Int), .int .i64 x50150.Locals, v51262], Sl Ty.u8 v51262 x51213, Sl Ty.u8 v51247 x51202, Blk g40 43 [.string ⟨⟨a0.Name⟩⟩, v2912, v45645, .slice none 0 0], Blk g19 46 [.string ⟨⟨[]⟩⟩, .slice none 0 0, .slice none 0 0, .slice none 0 0, .slice none 0 0], Sl T_api_Class v2912 o2909, Sl T_api_Func v45645 s39680.1] := s51290
                  have s51292 : SL w [] _ [Blk g40 43 [.string ⟨⟨a0.Name⟩⟩, v2912, v45645, .slice none 0 0], Blk g19 46 [.string ⟨⟨[]⟩⟩, .slice none 0 0, .slice none 0 0, .slice none 0 0, .slice none 0 0], Sl T_api_Class v2912 o2909, Sl T_api_Func v45645 s39680.1] := s51290.drop.drop.drop
                  refine kq_end ⟨s51292, ?_⟩
                  refine hd_done (by kernel_rfl) ?_
                  obtain rfl := some_ok H
                  refine then_n ?_
                  exact ⟨v51247, v51262, F51289.sub ⟨rfl, rfl, rfl, rfl, rfl, rfl, trivial⟩, s51290.f1.f2.f6.f6.f6.f6.f6⟩
                · refine st_op F51258 (ex_fab Fx.fa56_1 rfl rfl) rfl rfl rfl fun q51293 F51294 => ?_
                  have s51295 : SL w [] _ [Blk g40 43 [.string ⟨⟨a0.Name⟩⟩, v2912, v45645, .slice none 0 0], Blk g19 46 [.string ⟨⟨[]⟩⟩, .slice none 0 0, .slice none 0 0, .slice none 0 0, .slice none 0 0], Sl T_api_Class v2912 o2909, Sl T_api_Func v45645 s39680.1] := s51252.drop.drop
                  refine kq_end ⟨s51295, ?_⟩
                  refine hd_many (rs := [6, 8]) (by kernel_rfl) (by decide) (hd_cons (wpOp_of rfl ?_) (hd_cons (wpOp_of rfl ?_) (hd_nil)))
                  · refine st_call (args := [.tmp 41]) F51294 Fx.fn31 rfl (slices_Clone_byte_byte_c (a0 := x50150.Code)  (hr50162.pass0 s51252) hx51214) rfl fun v51298 w51299 q51300 hS51302 F51301 => ?_
                    obtain ⟨_, rfl, hq51304⟩ := hS51302
                    have s51303 := s51252.add hq51304
                    have s51307 : SL w [] _ [Blk g40 43 [.string ⟨⟨a0.Name⟩⟩, v2912, v45645, .slice none 0 0], Blk g19 46 [.string ⟨⟨[]⟩⟩, .slice none 0 0, .slice none 0 0, .slice none 0 0, .slice none 0 0], Sl T_api_Class v2912 o2909, Sl T_api_Func v45645 s39680.1] := s51303.drop.drop.drop
                    refine kq_end ⟨s51307, ?_⟩
                    refine hd_one (i := 8) rfl (by kernel_rfl) ?_
                    refine st_op F51301 (ex_fab Fx.fa54_0 rfl rfl) rfl rfl rfl fun q51308 F51309 => ?_
                    have s51310 : SL w [] _ [Blk g40 43 [.string ⟨⟨a0.Name⟩⟩, v2912, v45645, .slice none 0 0], Blk g19 46 [.string ⟨⟨[]⟩⟩, .slice none 0 0, .slice none 0 0, .slice none 0 0, .slice none 0 0], Sl T_api_Class v2912 o2909, Sl T_api_Func v45645 s39680.1] := s51303.drop.drop.drop
                    refine kq_end ⟨s51310, ?_⟩
                    refine hd_one (i := 9) rfl (by kernel_rfl) ?_
                    have s51315 := s51303.f2
                    refine st_store F51309 s51315 rfl rfl Fx.sz51 (form_cells (formL (s51315.own_rd (.tail _ <| .tail _ <| .head _)))) (form_one (formL (s51315.own_rd (.tail _ <| .tail _ <| .head _)))) rfl fun w51311 q51312 F51313 s51314 => ?_
                    replace s51314 : SL w [] w51311 [Blk g50165 56 [.string ⟨⟨x50150.Name⟩⟩, v51247, .int .u8 (x50150.Sig.Result.toNat : Int), .int .i64 x50150.Locals, v50161], Sl Ty.u8 v51298 x51213, Sl Ty.u8 v51247 x51202, Blk g40 43 [.string ⟨⟨a0.Name⟩⟩, v2912, v45645, .slice none 0 0], Blk g19 46 [.string ⟨⟨[]⟩⟩, .slice none 0 0, .slice none 0 0, .slice none 0 0, .slice none 0 0], Sl T_api_Class v2912 o2909, Sl T_api_Func v45645 s39680.1] := s51314
                    have s51316 : SL w [] _ [Blk g40 43 [.string ⟨⟨a0.Name⟩⟩, v2912, v45645, .slice none 0 0], Blk g19 46 [.string ⟨⟨[]⟩⟩, .slice none 0 0, .slice none 0 0, .slice none 0 0, .slice none 0 0], Sl T_api_Class v2912 o2909, Sl T_api_Func v45645 s39680.1] := s51314.drop.drop.drop
                    refine kq_end ⟨s51316, ?_⟩
                    refine hd_one (i := 10) rfl (by kernel_rfl) ?_
                    refine st_op F51313 (ex_fab Fx.fa56_3 rfl rfl) rfl rfl rfl fun q51317 F51318 => ?_
                    have s51319 : SL w [] _ [Blk g40 43 [.string ⟨⟨a0.Name⟩⟩, v2912, v45645, .slice none 0 0], Blk g19 46 [.string ⟨⟨[]⟩⟩, .slice none 0 0, .slice none 0 0, .slice none 0 0, .slice none 0 0], Sl T_api_Class v2912 o2909, Sl T_api_Func v45645 s39680.1] := s51314.drop.drop.drop
                    refine kq_end ⟨s51319, ?_⟩
                    refine hd_one (i := 11) rfl (by kernel_rfl) ?_
                    have s51324 := s51314
                    refine st_store F51318 s51324 rfl rfl Fx.sz22 (form_cells (formL (s51324.own_rd (.tail _ <| .head _)))) (form_one (formL (s51324.own_rd (.tail _ <| .head _)))) rfl fun w51320 q51321 F51322 s51323 => ?_
                    replace s51323 : SL w [] w51320 [Blk g50165 56 [.string ⟨⟨x50150.Name⟩⟩, v51247, .int .u8 (x50150.Sig.Result.toNat : Int), .int .i64 x50150.Locals, v51298], Sl Ty.u8 v51298 x51213, Sl Ty.u8 v51247 x51202, Blk g40 43 [.string ⟨⟨a0.Name⟩⟩, v2912, v45645, .slice none 0 0], Blk g19 46 [.string ⟨⟨[]⟩⟩, .slice none 0 0, .slice none 0 0, .slice none 0 0, .slice none 0 0], Sl T_api_Class v2912 o2909, Sl T_api_Func v45645 s39680.1] := s51323
                    have s51325 : SL w [] _ [Blk g40 43 [.string ⟨⟨a0.Name⟩⟩, v2912, v45645, .slice none 0 0], Blk g19 46 [.string ⟨⟨[]⟩⟩, .slice none 0 0, .slice none 0 0, .slice none 0 0, .slice none 0 0], Sl T_api_Class v2912 o2909, Sl T_api_Func v45645 s39680.1] := s51323.drop.drop.drop
                    refine kq_end ⟨s51325, ?_⟩
                    refine hd_done (by kernel_rfl) ?_
                    obtain rfl := some_ok H
                    refine then_n ?_
                    exact ⟨v51247, v51298, F51322.sub ⟨rfl, rfl, rfl, rfl, rfl, rfl, trivial⟩, s51323.f1.f2.f6.f6.f6.f6.f6⟩
                  · refine st_op F51294 (ex_fab Fx.fa54_0 rfl rfl) rfl rfl rfl fun q51326 F51327 => ?_
                    have s51328 : SL w [] _ [Blk g40 43 [.string ⟨⟨a0.Name⟩⟩, v2912, v45645, .slice none 0 0], Blk g19 46 [.string ⟨⟨[]⟩⟩, .slice none 0 0, .slice none 0 0, .slice none 0 0, .slice none 0 0], Sl T_api_Class v2912 o2909, Sl T_api_Func v45645 s39680.1] := s51252.drop.drop
                    refine kq_end ⟨s51328, ?_⟩
                    refine hd_one (i := 6) rfl (by kernel_rfl) ?_
                    refine st_call (args := [.tmp 41]) F51327 Fx.fn31 rfl (slices_Clone_byte_byte_c (a0 := x50150.Code)  (hr50162.pass0 s51252) hx51214) rfl fun v51331 w51332 q51333 hS51335 F51334 => ?_
                    obtain ⟨_, rfl, hq51337⟩ := hS51335
                    have s51336 := s51252.add hq51337
                    have s51340 : SL w [] _ [Blk g40 43 [.string ⟨⟨a0.Name⟩⟩, v2912, v45645, .slice none 0 0], Blk g19 46 [.string ⟨⟨[]⟩⟩, .slice none 0 0, .slice none 0 0, .slice none 0 0, .slice none 0 0], Sl T_api_Class v2912 o2909, Sl T_api_Func v45645 s39680.1] := s51336.drop.drop.drop
                    refine kq_end ⟨s51340, ?_⟩
                    refine hd_one (i := 9) rfl (by kernel_rfl) ?_
                    have s51345 := s51336.f2
                    refine st_store F51334 s51345 rfl rfl Fx.sz51 (form_cells (formL (s51345.own_rd (.tail _ <| .tail _ <| .head _)))) (form_one (formL (s51345.own_rd (.tail _ <| .tail _ <| .head _)))) rfl fun w51341 q51342 F51343 s51344 => ?_
                    replace s51344 : SL w [] w51341 [Blk g50165 56 [.string ⟨⟨x50150.Name⟩⟩, v51247, .int .u8 (x50150.Sig.Result.toNat : Int), .int .i64 x50150.Locals, v50161], Sl Ty.u8 v51331 x51213, Sl Ty.u8 v51247 x51202, Blk g40 43 [.string ⟨⟨a0.Name⟩⟩, v2912, v45645, .slice none 0 0], Blk g19 46 [.string ⟨⟨[]⟩⟩, .slice none 0 0, .slice none 0 0, .slice none 0 0, .slice none 0 0], Sl T_api_Class v2912 o2909, Sl T_api_Func v45645 s39680.1] := s51344
                    have s51346 : SL w [] _ [Blk g40 43 [.string ⟨⟨a0.Name⟩⟩, v2912, v45645, .slice none 0 0], Blk g19 46 [.string ⟨⟨[]⟩⟩, .slice none 0 0, .slice none 0 0, .slice none 0 0, .slice none 0 0], Sl T_api_Class v2912 o2909, Sl T_api_Func v45645 s39680.1] := s51344.drop.drop.drop
                    refine kq_end ⟨s51346, ?_⟩
                    refine hd_one (i := 10) rfl (by kernel_rfl) ?_
                    refine st_op F51343 (ex_fab Fx.fa56_3 rfl rfl) rfl rfl rfl fun q51347 F51348 => ?_
                    have s51349 : SL w [] _ [Blk g40 43 [.string ⟨⟨a0.Name⟩⟩, v2912, v45645, .slice none 0 0], Blk g19 46 [.string ⟨⟨[]⟩⟩, .slice none 0 0, .slice none 0 0, .slice none 0 0, .slice none 0 0], Sl T_api_Class v2912 o2909, Sl T_api_Func v45645 s39680.1] := s51344.drop.drop.drop
                    refine kq_end ⟨s51349, ?_⟩
                    refine hd_one (i := 11) rfl (by kernel_rfl) ?_
                    have s51354 := s51344
                    refine st_store F51348 s51354 rfl rfl Fx.sz22 (form_cells (formL (s51354.own_rd (.tail _ <| .head _)))) (form_one (formL (s51354.own_rd (.tail _ <| .head _)))) rfl fun w51350 q51351 F51352 s51353 => ?_
                    replace s51353 : SL w [] w51350 [Blk g50165 56 [.string ⟨⟨x50150.Name⟩⟩, v51247, .int .u8 (x50150.Sig.Result.toNat : Int), .int .i64 x50150.Locals, v51331], Sl Ty.u8 v51331 x51213, Sl Ty.u8 v51247 x51202, Blk g40 43 [.string ⟨⟨a0.Name⟩⟩, v2912, v45645, .slice none 0 0], Blk g19 46 [.string ⟨⟨[]⟩⟩, .slice none 0 0, .slice none 0 0, .slice none 0 0, .slice none 0 0], Sl T_api_Class v2912 o2909, Sl T_api_Func v45645 s39680.1] := s51353
                    have s51355 : SL w [] _ [Blk g40 43 [.string ⟨⟨a0.Name⟩⟩, v2912, v45645, .slice none 0 0], Blk g19 46 [.string ⟨⟨[]⟩⟩, .slice none 0 0, .slice none 0 0, .slice none 0 0, .slice none 0 0], Sl T_api_Class v2912 o2909, Sl T_api_Func v45645 s39680.1] := s51353.drop.drop.drop
                    refine kq_end ⟨s51355, ?_⟩
                    refine hd_done (by kernel_rfl) ?_
                    obtain rfl := some_ok H
                    refine then_n ?_
                    exact ⟨v51247, v51331, F51352.sub ⟨rfl, rfl, rfl, rfl, rfl, rfl, trivial⟩, s51353.f1.f2.f6.f6.f6.f6.f6⟩
              · refine st_op F51243 (ex_ld Fx.nag22 rfl (s51234.blk_cell (.head _) rfl)) rfl rfl rfl fun q51356 F51357 => ?_
                have s51358 : SL w [] _ [Blk g40 43 [.string ⟨⟨a0.Name⟩⟩, v2912, v45645, .slice none 0 0], Blk g19 46 [.string ⟨⟨[]⟩⟩, .slice none 0 0, .slice none 0 0, .slice none 0 0, .slice none 0 0], Sl T_api_Class v2912 o2909, Sl T_api_Func v45645 s39680.1] := s51234.drop
                refine kq_end ⟨s51358, ?_⟩
                refine hd_one (i := 3) rfl (by kernel_rfl) ?_
                refine st_call (args := [.tmp 38]) F51357 Fx.fn37 rfl (slices_Clone_api_Type_api_Type_c (a0 := x50150.Sig.Params)  (hr50160.pass0 s51234) hx51203) rfl fun v51361 w51362 q51363 hS51365 F51364 => ?_
                obtain ⟨_, rfl, hq51367⟩ := hS51365
                have s51366 := s51234.add hq51367
                have s51370 : SL w [] _ [Blk g40 43 [.string ⟨⟨a0.Name⟩⟩, v2912, v45645, .slice none 0 0], Blk g19 46 [.string ⟨⟨[]⟩⟩, .slice none 0 0, .slice none 0 0, .slice none 0 0, .slice none 0 0], Sl T_api_Class v2912 o2909, Sl T_api_Func v45645 s39680.1] := s51366.drop.drop
                refine kq_end ⟨s51370, ?_⟩
                refine hd_many (rs := [6, 7]) (by kernel_rfl) (by decide) (hd_cons (wpOp_of rfl ?_) (hd_cons (wpOp_of rfl ?_) (hd_nil)))
                · refine st_call (args := [.tmp 41]) F51364 Fx.fn31 rfl (slices_Clone_byte_byte_c (a0 := x50150.Code)  (hr50162.pass0 s51366) hx51214) rfl fun v51373 w51374 q51375 hS51377 F51376 => ?_
                  obtain ⟨_, rfl, hq51379⟩ := hS51377
                  have s51378 := s51366.add hq51379
                  have s51382 : SL w [] _ [Blk g40 43 [.string ⟨⟨a0.Name⟩⟩, v2912, v45645, .slice none 0 0], Blk g19 46 [.string ⟨⟨[]⟩⟩, .slice none 0 0, .slice none 0 0, .slice none 0 0, .slice none 0 0], Sl T_api_Class v2912 o2909, Sl T_api_Func v45645 s39680.1] := s51378.drop.drop.drop
                  refine kq_end ⟨s51382, ?_⟩
                  refine hd_one (i := 7) rfl (by kernel_rfl) ?_
                  refine st_op F51376 (ex_fab Fx.fa56_1 rfl rfl) rfl rfl rfl fun q51383 F51384 => ?_
                  have s51385 : SL w [] _ [Blk g40 43 [.string ⟨⟨a0.Name⟩⟩, v2912, v45645, .slice none 0 0], Blk g19 46 [.string ⟨⟨[]⟩⟩, .slice none 0 0, .slice none 0 0, .slice none 0 0, .slice none 0 0], Sl T_api_Class v2912 o2909, Sl T_api_Func v45645 s39680.1] := s51378.drop.drop.drop
                  refine kq_end ⟨s51385, ?_⟩
                  refine hd_one (i := 8) rfl (by kernel_rfl) ?_
                  refine st_op F51384 (ex_fab Fx.fa54_0 rfl rfl) rfl rfl rfl fun q51386 F51387 => ?_
                  have s51388 : SL w [] _ [Blk g40 43 [.string ⟨⟨a0.Name⟩⟩, v2912, v45645, .slice none 0 0], Blk g19 46 [.string ⟨⟨[]⟩⟩, .slice none 0 0, .slice none 0 0, .slice none 0 0, .slice none 0 0], Sl T_api_Class v2912 o2909, Sl T_api_Func v45645 s39680.1] := s51378.drop.drop.drop
                  refine kq_end ⟨s51388, ?_⟩
                  refine hd_one (i := 9) rfl (by kernel_rfl) ?_
                  have s51393 := s51378.f2
                  refine st_store F51387 s51393 rfl rfl Fx.sz51 (form_cells (formL (s51393.own_rd (.tail _ <| .tail _ <| .head _)))) (form_one (formL (s51393.own_rd (.tail _ <| .tail _ <| .head _)))) rfl fun w51389 q51390 F51391 s51392 => ?_
                  replace s51392 : SL w [] w51389 [Blk g50165 56 [.string ⟨⟨x50150.Name⟩⟩, v51361, .int .u8 (x50150.Sig.Result.toNat : Int), .int .i64 x50150.Locals, v50161], Sl Ty.u8 v51373 x51213, Sl Ty.u8 v51361 x51202, Blk g40 43 [.string ⟨⟨a0.Name⟩⟩, v2912, v45645, .slice none 0 0], Blk g19 46 [.string ⟨⟨[]⟩⟩, .slice none 0 0, .slice none 0 0, .slice none 0 0, .slice none 0 0], Sl T_api_Class v2912 o2909, Sl T_api_Func v45645 s39680.1] := s51392
                  have s51394 : SL w [] _ [Blk g40 43 [.string ⟨⟨a0.Name⟩⟩, v2912, v45645, .slice none 0 0], Blk g19 46 [.string ⟨⟨[]⟩⟩, .slice none 0 0, .slice none 0 0, .slice none 0 0, .slice none 0 0], Sl T_api_Class v2912 o2909, Sl T_api_Func v45645 s39680.1] := s51392.drop.drop.drop
                  refine kq_end ⟨s51394, ?_⟩
                  refine hd_one (i := 10) rfl (by kernel_rfl) ?_
                  refine st_op F51391 (ex_fab Fx.fa56_3 rfl rfl) rfl rfl rfl fun q51395 F51396 => ?_
                  have s51397 : SL w [] _ [Blk g40 43 [.string ⟨⟨a0.Name⟩⟩, v2912, v45645, .slice none 0 0], Blk g19 46 [.string ⟨⟨[]⟩⟩, .slice none 0 0, .slice none 0 0, .slice none 0 0, .slice none 0 0], Sl T_api_Class v2912 o2909, Sl T_api_Func v45645 s39680.1] := s51392.drop.drop.drop
                  refine kq_end ⟨s51397, ?_⟩
                  refine hd_one (i := 11) rfl (by kernel_rfl) ?_
                  have s51402 := s51392
                  refine st_store F51396 s51402 rfl rfl Fx.sz22 (form_cells (formL (s51402.own_rd (.tail _ <| .head _)))) (form_one (formL (s51402.own_rd (.tail _ <| .head _)))) rfl fun w51398 q51399 F51400 s51401 => ?_
                  replace s51401 : SL w [] w51398 [Blk g50165 56 [.string ⟨⟨x50150.Name⟩⟩, v51361, .int .u8 (x50150.Sig.Result.toNat : Int), .int .i64 x50150.Locals, v51373], Sl Ty.u8 v51373 x51213, Sl Ty.u8 v51361 x51202, Blk g40 43 [.string ⟨⟨a0.Name⟩⟩, v2912, v45645, .slice none 0 0], Blk g19 46 [.string ⟨⟨[]⟩⟩, .slice none 0 0, .slice none 0 0, .slice none 0 0, .slice none 0 0], Sl T_api_Class v2912 o2909, Sl T_api_Func v45645 s39680.1] := s51401
                  have s51403 : SL w [] _ [Blk g40 43 [.string ⟨⟨a0.Name⟩⟩, v2912, v45645, .slice none 0 0], Blk g19 46 [.string ⟨⟨[]⟩⟩, .slice none 0 0, .slice none 0 0, .slice none 0 0, .slice none 0 0], Sl T_api_Class v2912 o2909, Sl T_api_Func v45645 s39680.1] := s51401.drop.drop.drop
                  refine kq_end ⟨s51403, ?_⟩
                  refine hd_done (by kernel_rfl) ?_
                  obtain rfl := some_ok H
                  refine then_n ?_
                  exact ⟨v51361, v51373, F51400.sub ⟨rfl, rfl, rfl, rfl, rfl, rfl, trivial⟩, s51401.f1.f2.f6.f6.f6.f6.f6⟩
                · refine st_op F51364 (ex_fab Fx.fa56_1 rfl rfl) rfl rfl rfl fun q51404 F51405 => ?_
                  have s51406 : SL w [] _ [Blk g40 43 [.string ⟨⟨a0.Name⟩⟩, v2912, v45645, .slice none 0 0], Blk g19 46 [.string ⟨⟨[]⟩⟩, .slice none 0 0, .slice none 0 0, .slice none 0 0, .slice none 0 0], Sl T_api_Class v2912 o2909, Sl T_api_Func v45645 s39680.1] := s51366.drop.drop
                  refine kq_end ⟨s51406, ?_⟩
                  refine hd_many (rs := [6, 8]) (by kernel_rfl) (by decide) (hd_cons (wpOp_of rfl ?_) (hd_cons (wpOp_of rfl ?_) (hd_nil)))
                  · refine st_call (args := [.tmp 41]) F51405 Fx.fn31 rfl (slices_Clone_byte_byte_c (a0 := x50150.Code)  (hr50162.pass0 s51366) hx51214) rfl fun v51409 w51410 q51411 hS51413 F51412 => ?_
                    obtain ⟨_, rfl, hq51415⟩ := hS51413
                    have s51414 := s51366.add hq51415
                    have s51418 : SL w [] _ [Blk g40 43 [.string ⟨⟨a0.Name⟩⟩, v2912, v45645, .slice none 0 0], Blk g19 46 [.string ⟨⟨[]⟩⟩, .slice none 0 0, .slice none 0 0, .slice none 0 0, .slice none 0 0], Sl T_api_Class v2912 o2909, Sl T_api_Func v45645 s39680.1] := s51414.drop.drop.drop
                    refine kq_end ⟨s51418, ?_⟩
                    refine hd_one (i := 8) rfl (by kernel_rfl) ?_
                    refine st_op F51412 (ex_fab Fx.fa54_0 rfl rfl) rfl rfl rfl fun q51419 F51420 => ?_
                    have s51421 : SL w [] _ [Blk g40 43 [.string ⟨⟨a0.Name⟩⟩, v2912, v45645, .slice none 0 0], Blk g19 46 [.string ⟨⟨[]⟩⟩, .slice none 0 0, .slice none 0 0, .slice none 0 0, .slice none 0 0], Sl T_api_Class v2912 o2909, Sl T_api_Func v45645 s39680.1] := s51414.drop.drop.drop
                    refine kq_end ⟨s51421, ?_⟩
                    refine hd_one (i := 9) rfl (by kernel_rfl) ?_
                    have s51426 := s51414.f2
                    refine st_store F51420 s51426 rfl rfl Fx.sz51 (form_cells (formL (s51426.own_rd (.tail _ <| .tail _ <| .head _)))) (form_one (formL (s51426.own_rd (.tail _ <| .tail _ <| .head _)))) rfl fun w51422 q51423 F51424 s51425 => ?_
                    replace s51425 : SL w [] w51422 [Blk g50165 56 [.string ⟨⟨x50150.Name⟩⟩, v51361, .int .u8 (x50150.Sig.Result.toNat : Int), .int .i64 x50150.Locals, v50161], Sl Ty.u8 v51409 x51213, Sl Ty.u8 v51361 x51202, Blk g40 43 [.string ⟨⟨a0.Name⟩⟩, v2912, v45645, .slice none 0 0], Blk g19 46 [.string ⟨⟨[]⟩⟩, .slice none 0 0, .slice none 0 0, .slice none 0 0, .slice none 0 0], Sl T_api_Class v2912 o2909, Sl T_api_Func v45645 s39680.1] := s51425
                    have s51427 : SL w [] _ [Blk g40 43 [.string ⟨⟨a0.Name⟩⟩, v2912, v45645, .slice none 0 0], Blk g19 46 [.string ⟨⟨[]⟩⟩, .slice none 0 0, .slice none 0 0, .slice none 0 0, .slice none 0 0], Sl T_api_Class v2912 o2909, Sl T_api_Func v45645 s39680.1] := s51425.drop.drop.drop
                    refine kq_end ⟨s51427, ?_⟩
                    refine hd_one (i := 10) rfl (by kernel_rfl) ?_
                    refine st_op F51424 (ex_fab Fx.fa56_3 rfl rfl) rfl rfl rfl fun q51428 F51429 => ?_
                    have s51430 : SL w [] _ [Blk g40 43 [.string ⟨⟨a0.Name⟩⟩, v2912, v45645, .slice none 0 0], Blk g19 46 [.string ⟨⟨[]⟩⟩, .slice none 0 0, .slice none 0 0, .slice none 0 0, .slice none 0 0], Sl T_api_Class v2912 o2909, Sl T_api_Func v45645 s39680.1] := s51425.drop.drop.drop
                    refine kq_end ⟨s51430, ?_⟩
                    refine hd_one (i := 11) rfl (by kernel_rfl) ?_
                    have s51435 := s51425
                    refine st_store F51429 s51435 rfl rfl Fx.sz22 (form_cells (formL (s51435.own_rd (.tail _ <| .head _)))) (form_one (formL (s51435.own_rd (.tail _ <| .head _)))) rfl fun w51431 q51432 F51433 s51434 => ?_
                    replace s51434 : SL w [] w51431 [Blk g50165 56 [.string ⟨⟨x50150.Name⟩⟩, v51361, .int .u8 (x50150.Sig.Result.toNat : Int), .int .i64 x50150.Locals, v51409], Sl Ty.u8 v51409 x51213, Sl Ty.u8 v51361 x51202, Blk g40 43 [.string ⟨⟨a0.Name⟩⟩, v2912, v45645, .slice none 0 0], Blk g19 46 [.string ⟨⟨[]⟩⟩, .slice none 0 0, .slice none 0 0, .slice none 0 0, .slice none 0 0], Sl T_api_Class v2912 o2909, Sl T_api_Func v45645 s39680.1] := s51434
                    have s51436 : SL w [] _ [Blk g40 43 [.string ⟨⟨a0.Name⟩⟩, v2912, v45645, .slice none 0 0], Blk g19 46 [.string ⟨⟨[]⟩⟩, .slice none 0 0, .slice none 0 0, .slice none 0 0, .slice none 0 0], Sl T_api_Class v2912 o2909, Sl T_api_Func v45645 s39680.1] := s51434.drop.drop.drop
                    refine kq_end ⟨s51436, ?_⟩
                    refine hd_done (by kernel_rfl) ?_
                    obtain rfl := some_ok H
                    refine then_n ?_
                    exact ⟨v51361, v51409, F51433.sub ⟨rfl, rfl, rfl, rfl, rfl, rfl, trivial⟩, s51434.f1.f2.f6.f6.f6.f6.f6⟩
                  · refine st_op F51405 (ex_fab Fx.fa54_0 rfl rfl) rfl rfl rfl fun q51437 F51438 => ?_
                    have s51439 : SL w [] _ [Blk g40 43 [.string ⟨⟨a0.Name⟩⟩, v2912, v45645, .slice none 0 0], Blk g19 46 [.string ⟨⟨[]⟩⟩, .slice none 0 0, .slice none 0 0, .slice none 0 0, .slice none 0 0], Sl T_api_Class v2912 o2909, Sl T_api_Func v45645 s39680.1] := s51366.drop.drop
                    refine kq_end ⟨s51439, ?_⟩
                    refine hd_one (i := 6) rfl (by kernel_rfl) ?_
                    refine st_call (args := [.tmp 41]) F51438 Fx.fn31 rfl (slices_Clone_byte_byte_c (a0 := x50150.Code)  (hr50162.pass0 s51366) hx51214) rfl fun v51442 w51443 q51444 hS51446 F51445 => ?_
                    obtain ⟨_, rfl, hq51448⟩ := hS51446
                    have s51447 := s51366.add hq51448
                    have s51451 : SL w [] _ [Blk g40 43 [.string ⟨⟨a0.Name⟩⟩, v2912, v45645, .slice none 0 0], Blk g19 46 [.string ⟨⟨[]⟩⟩, .slice none 0 0, .slice none 0 0, .slice none 0 0, .slice none 0 0], Sl T_api_Class v2912 o2909, Sl T_api_Func v45645 s39680.1] := s51447.drop.drop.drop
                    refine kq_end ⟨s51451, ?_⟩
                    refine hd_one (i := 9) rfl (by kernel_rfl) ?_
                    have s51456 := s51447.f2
                    refine st_store F51445 s51456 rfl rfl Fx.sz51 (form_cells (formL (s51456.own_rd (.tail _ <| .tail _ <| .head _)))) (form_one (formL (s51456.own_rd (.tail _ <| .tail _ <| .head _)))) rfl fun w51452 q51453 F51454 s51455 => ?_
                    replace s51455 : SL w [] w51452 [Blk g50165 56 [.string ⟨⟨x50150.Name⟩⟩, v51361, .int .u8 (x50150.Sig.Result.toNat : Int), .int .i64 x50150.Locals, v50161], Sl Ty.u8 v51442 x51213, Sl Ty.u8 v51361 x51202, Blk g40 43 [.string ⟨⟨a0.Name⟩⟩, v2912, v45645, .slice none 0 0], Blk g19 46 [.string ⟨⟨[]⟩⟩, .slice none 0 0, .slice none 0 0, .slice none 0 0, .slice none 0 0], Sl T_api_Class v2912 o2909, Sl T_api_Func v45645 s39680.1] := s51455
                    have s51457 : SL w [] _ [Blk g40 43 [.string ⟨⟨a0.Name⟩⟩, v2912, v45645, .slice none 0 0], Blk g19 46 [.string ⟨⟨[]⟩⟩, .slice none 0 0, .slice none 0 0, .slice none 0 0, .slice none 0 0], Sl T_api_Class v2912 o2909, Sl T_api_Func v45645 s39680.1] := s51455.drop.drop.drop
                    refine kq_end ⟨s51457, ?_⟩
                    refine hd_one (i := 10) rfl (by kernel_rfl) ?_
                    refine st_op F51454 (ex_fab Fx.fa56_3 rfl rfl) rfl rfl rfl fun q51458 F51459 => ?_
                    have s51460 : SL w [] _ [Blk g40 43 [.string ⟨⟨a0.Name⟩⟩, v2912, v45645, .slice none 0 0], Blk g19 46 [.string ⟨⟨[]⟩⟩, .slice none 0 0, .slice none 0 0, .slice none 0 0, .slice none 0 0], Sl T_api_Class v2912 o2909, Sl T_api_Func v45645 s39680.1] := s51455.drop.drop.drop
                    refine kq_end ⟨s51460, ?_⟩
                    refine hd_one (i := 11) rfl (by kernel_rfl) ?_
                    have s51465 := s51455
                    refine st_store F51459 s51465 rfl rfl Fx.sz22 (form_cells (formL (s51465.own_rd (.tail _ <| .head _)))) (form_one (formL (s51465.own_rd (.tail _ <| .head _)))) rfl fun w51461 q51462 F51463 s51464 => ?_
                    replace s51464 : SL w [] w51461 [Blk g50165 56 [.string ⟨⟨x50150.Name⟩⟩, v51361, .int .u8 (x50150.Sig.Result.toNat : Int), .int .i64 x50150.Locals, v51442], Sl Ty.u8 v51442 x51213, Sl Ty.u8 v51361 x51202, Blk g40 43 [.string ⟨⟨a0.Name⟩⟩, v2912, v45645, .slice none 0 0], Blk g19 46 [.string ⟨⟨[]⟩⟩, .slice none 0 0, .slice none 0 0, .slice none 0 0, .slice none 0 0], Sl T_api_Class v2912 o2909, Sl T_api_Func v45645 s39680.1] := s51464
                    have s51466 : SL w [] _ [Blk g40 43 [.string ⟨⟨a0.Name⟩⟩, v2912, v45645, .slice none 0 0], Blk g19 46 [.string ⟨⟨[]⟩⟩, .slice none 0 0, .slice none 0 0, .slice none 0 0, .slice none 0 0], Sl T_api_Class v2912 o2909, Sl T_api_Func v45645 s39680.1] := s51464.drop.drop.drop
                    refine kq_end ⟨s51466, ?_⟩
                    refine hd_done (by kernel_rfl) ?_
                    obtain rfl := some_ok H
                    refine then_n ?_
                    exact ⟨v51361, v51442, F51463.sub ⟨rfl, rfl, rfl, rfl, rfl, rfl, trivial⟩, s51464.f1.f2.f6.f6.f6.f6.f6⟩
            · refine st_op F51241 (ex_ld Fx.nag22 rfl (s51234.blk_cell (.head _) rfl)) rfl rfl rfl fun q51467 F51468 => ?_
              have s51469 : SL w [] _ [Blk g40 43 [.string ⟨⟨a0.Name⟩⟩, v2912, v45645, .slice none 0 0], Blk g19 46 [.string ⟨⟨[]⟩⟩, .slice none 0 0, .slice none 0 0, .slice none 0 0, .slice none 0 0], Sl T_api_Class v2912 o2909, Sl T_api_Func v45645 s39680.1] := s51234.drop
              refine kq_end ⟨s51469, ?_⟩
              refine hd_one (i := 2) rfl (by kernel_rfl) ?_
              refine st_op F51468 (ex_ld Fx.nag51 rfl (s51234.blk_cell (.head _) rfl)) rfl rfl rfl fun q51470 F51471 => ?_
              have s51472 : SL w [] _ [Blk g40 43 [.string ⟨⟨a0.Name⟩⟩, v2912, v45645, .slice none 0 0], Blk g19 46 [.string ⟨⟨[]⟩⟩, .slice none 0 0, .slice none 0 0, .slice none 0 0, .slice none 0 0], Sl T_api_Class v2912 o2909, Sl T_api_Func v45645 s39680.1] := s51234.drop
              refine kq_end ⟨s51472, ?_⟩
              refine hd_one (i := 3) rfl (by kernel_rfl) ?_
              refine st_call (args := [.tmp 38]) F51471 Fx.fn37 rfl (slices_Clone_api_Type_api_Type_c (a0 := x50150.Sig.Params)  (hr50160.pass0 s51234) hx51203) rfl fun v51475 w51476 q51477 hS51479 F51478 => ?_
              obtain ⟨_, rfl, hq51481⟩ := hS51479
              have s51480 := s51234.add hq51481
              have s51484 : SL w [] _ [Blk g40 43 [.string ⟨⟨a0.Name⟩⟩, v2912, v45645, .slice none 0 0], Blk g19 46 [.string ⟨⟨[]⟩⟩, .slice none 0 0, .slice none 0 0, .slice none 0 0, .slice none 0 0], Sl T_api_Class v2912 o2909, Sl T_api_Func v45645 s39680.1] := s51480.drop.drop
              refine kq_end ⟨s51484, ?_⟩
              refine hd_many (rs := [6, 7]) (by kernel_rfl) (by decide) (hd_cons (wpOp_of rfl ?_) (hd_cons (wpOp_of rfl ?_) (hd_nil)))
              · refine st_call (args := [.tmp 41]) F51478 Fx.fn31 rfl (slices_Clone_byte_byte_c (a0 := x50150.Code)  (hr50162.pass0 s51480) hx51214) rfl fun v51487 w51488 q51489 hS51491 F51490 => ?_
                obtain ⟨_, rfl, hq51493⟩ := hS51491
                have s51492 := s51480.add hq51493
                have s51496 : SL w [] _ [Blk g40 43 [.string ⟨⟨a0.Name⟩⟩, v2912, v45645, .slice none 0 0], Blk g19 46 [.string ⟨⟨[]⟩⟩, .slice none 0 0, .slice none 0 0, .slice none 0 0, .slice none 0 0], Sl T_api_Class v2912 o2909, Sl T_api_Func v45645 s39680.1] := s51492.drop.drop.drop
                refine kq_end ⟨s51496, ?_⟩
                refine hd_one (i := 7) rfl (by kernel_rfl) ?_
                refine st_op F51490 (ex_fab Fx.fa56_1 rfl rfl) rfl rfl rfl fun q51497 F51498 => ?_
                have s51499 : SL w [] _ [Blk g40 43 [.string ⟨⟨a0.Name⟩⟩, v2912, v45645, .slice none 0 0], Blk g19 46 [.string ⟨⟨[]⟩⟩, .slice none 0 0, .slice none 0 0, .slice none 0 0, .slice none 0 0], Sl T_api_Class v2912 o2909, Sl T_api_Func v45645 s39680.1] := s51492.drop.drop.drop
                refine kq_end ⟨s51499, ?_⟩
                refine hd_one (i := 8) rfl (by kernel_rfl) ?_
                refine st_op F51498 (ex_fab Fx.fa54_0 rfl rfl) rfl rfl rfl fun q51500 F51501 => ?_
                have s51502 : SL w [] _ [Blk g40 43 [.string ⟨⟨a0.Name⟩⟩, v2912, v45645, .slice none 0 0], Blk g19 46 [.string ⟨⟨[]⟩⟩, .slice none 0 0, .slice none 0 0, .slice none 0 0, .slice none 0 0], Sl T_api_Class v2912 o2909, Sl T_api_Func v45645 s39680.1] := s51492.drop.drop.drop
                refine kq_end ⟨s51502, ?_⟩
                refine hd_one (i := 9) rfl (by kernel_rfl) ?_
                have s51507 := s51492.f2
                refine st_store F51501 s51507 rfl rfl Fx.sz51 (form_cells (formL (s51507.own_rd (.tail _ <| .tail _ <| .head _)))) (form_one (formL (s51507.own_rd (.tail _ <| .tail _ <| .head _)))) rfl fun w51503 q51504 F51505 s51506 => ?_
                replace s51506 : SL w [] w51503 [Blk g50165 56 [.string ⟨⟨x50150.Name⟩⟩, v51475, .int .u8 (x50150.Sig.Result.toNat : Int), .int .i64 x50150.Locals, v50161], Sl Ty.u8 v51487 x51213, Sl Ty.u8 v51475 x51202, Blk g40 43 [.string ⟨⟨a0.Name⟩⟩, v2912, v45645, .slice none 0 0], Blk g19 46 [.string ⟨⟨[]⟩⟩, .slice none 0 0, .slice none 0 0, .slice none 0 0, .slice none 0 0], Sl T_api_Class v2912 o2909, Sl T_api_Func v45645 s39680.1] := s51506
                have s51508 : SL w [] _ [Blk g40 43 [.string ⟨⟨a0.Name⟩⟩, v2912, v45645, .slice none 0 0], Blk g19 46 [.string ⟨⟨[]⟩⟩, .slice none 0 0, .slice none 0 0, .slice none 0 0, .slice none 0 0], Sl T_api_Class v2912 o2909, Sl T_api_Func v45645 s39680.1] := s51506.drop.drop.drop
                refine kq_end ⟨s51508, ?_⟩
                refine hd_one (i := 10) rfl (by kernel_rfl) ?_
                refine st_op F51505 (ex_fab Fx.fa56_3 rfl rfl) rfl rfl rfl fun q51509 F51510 => ?_
                have s51511 : SL w [] _ [Blk g40 43 [.string ⟨⟨a0.Name⟩⟩, v2912, v45645, .slice none 0 0], Blk g19 46 [.string ⟨⟨[]⟩⟩, .slice none 0 0, .slice none 0 0, .slice none 0 0, .slice none 0 0], Sl T_api_Class v2912 o2909, Sl T_api_Func v45645 s39680.1] := s51506.drop.drop.drop
                refine kq_end ⟨s51511, ?_⟩
                refine hd_one (i := 11) rfl (by kernel_rfl) ?_
                have s51516 := s51506
                refine st_store F51510 s51516 rfl rfl Fx.sz22 (form_cells (formL (s51516.own_rd (.tail _ <| .head _)))) (form_one (formL (s51516.own_rd (.tail _ <| .head _)))) rfl fun w51512 q51513 F51514 s51515 => ?_
                replace s51515 : SL w [] w51512 [Blk g50165 56 [.string ⟨⟨x50150.Name⟩⟩, v51475, .int .u8 (x50150.Sig.Result.toNat : Int), .int .i64 x50150.Locals, v51487], Sl Ty.u8 v51487 x51213, Sl Ty.u8 v51475 x51202, Blk g40 43 [.string ⟨⟨a0.Name⟩⟩, v2912, v45645, .slice none 0 0], Blk g19 46 [.string ⟨⟨[]⟩⟩, .slice none 0 0, .slice none 0 0, .slice none 0 0, .slice none 0 0], Sl T_api_Class v2912 o2909, Sl T_api_Func v45645 s39680.1] := s51515
                have s51517 : SL w [] _ [Blk g40 43 [.string ⟨⟨a0.Name⟩⟩, v2912, v45645, .slice none 0 0], Blk g19 46 [.string ⟨⟨[]⟩⟩, .slice none 0 0, .slice none 0 0, .slice none 0 0, .slice none 0 0], Sl T_api_Class v2912 o2909, Sl T_api_Func v45645 s39680.1] := s51515.drop.drop.drop
                refine kq_end ⟨s51517, ?_⟩
                refine hd_done (by kernel_rfl) ?_
                obtain rfl := some_ok H
                refine then_n ?_
                exact ⟨v51475, v51487, F51514.sub ⟨rfl, rfl, rfl, rfl, rfl, rfl, trivial⟩, s51515.f1.f2.f6.f6.f6.f6.f6⟩
              · refine st_op F51478 (ex_fab Fx.fa56_1 rfl rfl) rfl rfl rfl fun q51518 F51519 => ?_
                have s51520 : SL w [] _ [Blk g40 43 [.string ⟨⟨a0.Name⟩⟩, v2912, v45645, .slice none 0 0], Blk g19 46 [.string ⟨⟨[]⟩⟩, .slice none 0 0, .slice none 0 0, .slice none 0 0, .slice none 0 0], Sl T_api_Class v2912 o2909, Sl T_api_Func v45645 s39680.1] := s51480.drop.drop
                refine kq_end ⟨s51520, ?_⟩
                refine hd_many (rs := [6, 8]) (by kernel_rfl) (by decide) (hd_cons (wpOp_of rfl ?_) (hd_cons (wpOp_of rfl ?_) (hd_nil)))
                · refine st_call (args := [.tmp 41]) F51519 Fx.fn31 rfl (slices_Clone_byte_byte_c (a0 := x50150.Code)  (hr50162.pass0 s51480) hx51214) rfl fun v51523 w51524 q51525 hS51527 F51526 => ?_
                  obtain ⟨_, rfl, hq51529⟩ := hS51527
                  have s51528 := s51480.add hq51529
                  have s51532 : SL w [] _ [Blk g40 43 [.string ⟨⟨a0.Name⟩⟩, v2912, v45645, .slice none 0 0], Blk g19 46 [.string ⟨⟨[]⟩⟩, .slice none 0 0, .slice none 0 0, .slice none 0 0, .slice none 0 0], Sl T_api_Class v2912 o2909, Sl T_api_Func v45645 s39680.1] := s51528.drop.drop.drop
                  refine kq_end ⟨s51532, ?_⟩
                  refine hd_one (i := 8) rfl (by kernel_rfl) ?_
                  refine st_op F51526 (ex_fab Fx.fa54_0 rfl rfl) rfl rfl rfl fun q51533 F51534 => ?_
                  have s51535 : SL w [] _ [Blk g40 43 [.string ⟨⟨a0.Name⟩⟩, v2912, v45645, .slice none 0 0], Blk g19 46 [.string ⟨⟨[]⟩⟩, .slice none 0 0, .slice none 0 0, .slice none 0 0, .slice none 0 0], Sl T_api_Class v2912 o2909, Sl T_api_Func v45645 s39680.1] := s51528.drop.drop.drop
                  refine kq_end ⟨s51535, ?_⟩
                  refine hd_one (i := 9) rfl (by kernel_rfl) ?_
                  have s51540 := s51528.f2
                  refine st_store F51534 s51540 rfl rfl Fx.sz51 (form_cells (formL (s51540.own_rd (.tail _ <| .tail _ <| .head _)))) (form_one (formL (s51540.own_rd (.tail _ <| .tail _ <| .head _)))) rfl fun w51536 q51537 F51538 s51539 => ?_
                  replace s51539 : SL w [] w51536 [Blk g50165 56 [.string ⟨⟨x50150.Name⟩⟩, v51475, .int .u8 (x50150.Sig.Result.toNat : Int), .int .i64 x50150.Locals, v50161], Sl Ty.u8 v51523 x51213, Sl Ty.u8 v51475 x51202, Blk g40 43 [.string ⟨⟨a0.Name⟩⟩, v2912, v45645, .slice none 0 0], Blk g19 46 [.string ⟨⟨[]⟩⟩, .slice none 0 0, .slice none 0 0, .slice none 0 0, .slice none 0 0], Sl T_api_Class v2912 o2909, Sl T_api_Func v45645 s39680.1] := s51539
                  have s51541 : SL w [] _ [Blk g40 43 [.string ⟨⟨a0.Name⟩⟩, v2912, v45645, .slice none 0 0], Blk g19 46 [.string ⟨⟨[]⟩⟩, .slice none 0 0, .slice none 0 0, .slice none 0 0, .slice none 0 0], Sl T_api_Class v2912 o2909, Sl T_api_Func v45645 s39680.1] := s51539.drop.drop.drop
                  refine kq_end ⟨s51541, ?_⟩
                  refine hd_one (i := 10) rfl (by kernel_rfl) ?_
                  refine st_op F51538 (ex_fab Fx.fa56_3 rfl rfl) rfl rfl rfl fun q51542 F51543 => ?_
                  have s51544 : SL w [] _ [Blk g40 43 [.string ⟨⟨a0.Name⟩⟩, v2912, v45645, .slice none 0 0], Blk g19 46 [.string ⟨⟨[]⟩⟩, .slice none 0 0, .slice none 0 0, .slice none 0 0, .slice none 0 0], Sl T_api_Class v2912 o2909, Sl T_api_Func v45645 s39680.1] := s51539.drop.drop.drop
                  refine kq_end ⟨s51544, ?_⟩
                  refine hd_one (i := 11) rfl (by kernel_rfl) ?_
                  have s51549 := s51539
                  refine st_store F51543 s51549 rfl rfl Fx.sz22 (form_cells (formL (s51549.own_rd (.tail _ <| .head _)))) (form_one (formL (s51549.own_rd (.tail _ <| .head _)))) rfl fun w51545 q51546 F51547 s51548 => ?_
                  replace s51548 : SL w [] w51545 [Blk g50165 56 [.string ⟨⟨x50150.Name⟩⟩, v51475, .int .u8 (x50150.Sig.Result.toNat : Int), .int .i64 x50150.Locals, v51523], Sl Ty.u8 v51523 x51213, Sl Ty.u8 v51475 x51202, Blk g40 43 [.string ⟨⟨a0.Name⟩⟩, v2912, v45645, .slice none 0 0], Blk g19 46 [.string ⟨⟨[]⟩⟩, .slice none 0 0, .slice none 0 0, .slice none 0 0, .slice none 0 0], Sl T_api_Class v2912 o2909, Sl T_api_Func v45645 s39680.1] := s51548
                  have s51550 : SL w [] _ [Blk g40 43 [.string ⟨⟨a0.Name⟩⟩, v2912, v45645, .slice none 0 0], Blk g19 46 [.string ⟨⟨[]⟩⟩, .slice none 0 0, .slice none 0 0, .slice none 0 0, .slice none 0 0], Sl T_api_Class v2912 o2909, Sl T_api_Func v45645 s39680.1] := s51548.drop.drop.drop
                  refine kq_end ⟨s51550, ?_⟩
                  refine hd_done (by kernel_rfl) ?_
                  obtain rfl := some_ok H
                  refine then_n ?_
                  exact ⟨v51475, v51523, F51547.sub ⟨rfl, rfl, rfl, rfl, rfl, rfl, trivial⟩, s51548.f1.f2.f6.f6.f6.f6.f6⟩
                · refine st_op F51519 (ex_fab Fx.fa54_0 rfl rfl) rfl rfl rfl fun q51551 F51552 => ?_
                  have s51553 : SL w [] _ [Blk g40 43 [.string ⟨⟨a0.Name⟩⟩, v2912, v45645, .slice none 0 0], Blk g19 46 [.string ⟨⟨[]⟩⟩, .slice none 0 0, .slice none 0 0, .slice none 0 0, .slice none 0 0], Sl T_api_Class v2912 o2909, Sl T_api_Func v45645 s39680.1] := s51480.drop.drop
                  refine kq_end ⟨s51553, ?_⟩
                  refine hd_one (i := 6) rfl (by kernel_rfl) ?_
                  refine st_call (args := [.tmp 41]) F51552 Fx.fn31 rfl (slices_Clone_byte_byte_c (a0 := x50150.Code)  (hr50162.pass0 s51480) hx51214) rfl fun v51556 w51557 q51558 hS51560 F51559 => ?_
                  obtain ⟨_, rfl, hq51562⟩ := hS51560
                  have s51561 := s51480.add hq51562
                  have s51565 : SL w [] _ [Blk g40 43 [.string ⟨⟨a0.Name⟩⟩, v2912, v45645, .slice none 0 0], Blk g19 46 [.string ⟨⟨[]⟩⟩, .slice none 0 0, .slice none 0 0, .slice none 0 0, .slice none 0 0], Sl T_api_Class v2912 o2909, Sl T_api_Func v45645 s39680.1] := s51561.drop.drop.drop
                  refine kq_end ⟨s51565, ?_⟩
                  refine hd_one (i := 9) rfl (by kernel_rfl) ?_
                  have s51570 := s51561.f2
                  refine st_store F51559 s51570 rfl rfl Fx.sz51 (form_cells (formL (s51570.own_rd (.tail _ <| .tail _ <| .head _)))) (form_one (formL (s51570.own_rd (.tail _ <| .tail _ <| .head _)))) rfl fun w51566 q51567 F51568 s51569 => ?_
                  replace s51569 : SL w [] w51566 [Blk g50165 56 [.string ⟨⟨x50150.Name⟩⟩, v51475, .int .u8 (x50150.Sig.Result.toNat : Int), .int .i64 x50150.Locals, v50161], Sl Ty.u8 v51556 x51213, Sl Ty.u8 v51475 x51202, Blk g40 43 [.string ⟨⟨a0.Name⟩⟩, v2912, v45645, .slice none 0 0], Blk g19 46 [.string ⟨⟨[]⟩⟩, .slice none 0 0, .slice none 0 0, .slice none 0 0, .slice none 0 0], Sl T_api_Class v2912 o2909, Sl T_api_Func v45645 s39680.1] := s51569
                  have s51571 : SL w [] _ [Blk g40 43 [.string ⟨⟨a0.Name⟩⟩, v2912, v45645, .slice none 0 0], Blk g19 46 [.string ⟨⟨[]⟩⟩, .slice none 0 0, .slice none 0 0, .slice none 0 0, .slice none 0 0], Sl T_api_Class v2912 o2909, Sl T_api_Func v45645 s39680.1] := s51569.drop.drop.drop
                  refine kq_end ⟨s51571, ?_⟩
                  refine hd_one (i := 10) rfl (by kernel_rfl) ?_
                  refine st_op F51568 (ex_fab Fx.fa56_3 rfl rfl) rfl rfl rfl fun q51572 F51573 => ?_
                  have s51574 : SL w [] _ [Blk g40 43 [.string ⟨⟨a0.Name⟩⟩, v2912, v45645, .slice none 0 0], Blk g19 46 [.string ⟨⟨[]⟩⟩, .slice none 0 0, .slice none 0 0, .slice none 0 0, .slice none 0 0], Sl T_api_Class v2912 o2909, Sl T_api_Func v45645 s39680.1] := s51569.drop.drop.drop
                  refine kq_end ⟨s51574, ?_⟩
                  refine hd_one (i := 11) rfl (by kernel_rfl) ?_
                  have s51579 := s51569
                  refine st_store F51573 s51579 rfl rfl Fx.sz22 (form_cells (formL (s51579.own_rd (.tail _ <| .head _)))) (form_one (formL (s51579.own_rd (.tail _ <| .head _)))) rfl fun w51575 q51576 F51577 s51578 => ?_
                  replace s51578 : SL w [] w51575 [Blk g50165 56 [.string ⟨⟨x50150.Name⟩⟩, v51475, .int .u8 (x50150.Sig.Result.toNat : Int), .int .i64 x50150.Locals, v51556], Sl Ty.u8 v51556 x51213, Sl Ty.u8 v51475 x51202, Blk g40 43 [.string ⟨⟨a0.Name⟩⟩, v2912, v45645, .slice none 0 0], Blk g19 46 [.string ⟨⟨[]⟩⟩, .slice none 0 0, .slice none 0 0, .slice none 0 0, .slice none 0 0], Sl T_api_Class v2912 o2909, Sl T_api_Func v45645 s39680.1] := s51578
                  have s51580 : SL w [] _ [Blk g40 43 [.string ⟨⟨a0.Name⟩⟩, v2912, v45645, .slice none 0 0], Blk g19 46 [.string ⟨⟨[]⟩⟩, .slice none 0 0, .slice none 0 0, .slice none 0 0, .slice none 0 0], Sl T_api_Class v2912 o2909, Sl T_api_Func v45645 s39680.1] := s51578.drop.drop.drop
                  refine kq_end ⟨s51580, ?_⟩
                  refine hd_done (by kernel_rfl) ?_
                  obtain rfl := some_ok H
                  refine then_n ?_
                  exact ⟨v51475, v51556, F51577.sub ⟨rfl, rfl, rfl, rfl, rfl, rfl, trivial⟩, s51578.f1.f2.f6.f6.f6.f6.f6⟩
          · intro q51583 w51584 hJ
            obtain ⟨v51111, v51113, F51581, s51582⟩ := hJ
            have H := R51110
            clear R51110 H51109
            refine then_n ?_
            refine wp_reg ?_
            refine st_pr F51581 (PR.op (ex_fab Fx.fa43_2 rfl rfl) <| PR.op (ex_ld Fx.nag41 rfl (s51582.blk_cell (.tail _ <| .head _) rfl)) <| PR.op (ex_ldagg Fx.agg56 rfl (s51582.blk_cells (.head _) (o := 0) (ds := [.string ⟨⟨x50150.Name⟩⟩, v51111, .int .u8 (x50150.Sig.Result.toNat : Int), .int .i64 x50150.Locals, v51113]) (fun j u hu => by rw [Nat.zero_add]; exact hu)) rfl) <| PR.nil) fun q51585 F51586 => ?_
            have s51594 : SL w [] _ (Dt T_api_Func (⟨x50150.Name, (⟨o51108.1, x50150.Sig.Result⟩ : S_api_Sig), x50150.Locals, o51108.2⟩ : S_api_Func) [.string ⟨⟨x50150.Name⟩⟩, v51111, .int .u8 (x50150.Sig.Result.toNat : Int), .int .i64 x50150.Locals, v51113] :: [Blk g50165 56 [.string ⟨⟨x50150.Name⟩⟩, v51111, .int .u8 (x50150.Sig.Result.toNat : Int), .int .i64 x50150.Locals, v51113], Blk g40 43 [.string ⟨⟨a0.Name⟩⟩, v2912, v45645, .slice none 0 0], Blk g19 46 [.string ⟨⟨[]⟩⟩, .slice none 0 0, .slice none 0 0, .slice none 0 0, .slice none 0 0], Sl T_api_Class v2912 o2909, Sl T_api_Func v45645 s39680.1]) := (SL.diso (f := t_api_Func) (x := (⟨x50150.Name, (⟨o51108.1, x50150.Sig.Result⟩ : S_api_Sig), x50150.Locals, o51108.2⟩ : S_api_Func)) (SL.dpair (SL.dflat (SL.dpair (SL.diso (f := t_api_Sig) (x := (⟨o51108.1, x50150.Sig.Result⟩ : S_api_Sig)) (SL.dpair (SL.dsl (SL.dflat (SL.dpair (SL.dflat (SL.dsl s51582.f6) (Flat.int .i64) x50150.Locals)) Flat.u8 x50150.Sig.Result).f7)))) Flat.str x50150.Name)))
            refine st_bslice1 F51586 s51594 Fx.sl41 rfl (by decide) rfl rfl rfl fun v51587 w51588 q51589 F51590 s51591 => ?_
            obtain ⟨x51595, hx51596, H⟩ := bind_ok H
            refine st_append_own F51590 s51591.f5 Fx.sl41 rfl rfl rfl rfl rfl rfl hx51596 rfl fun v51597 w51598 q51599 F51600 s51601 => ?_
            refine st_pr F51600 (PR.op (ex_fab Fx.fa43_2 rfl rfl) <| PR.nil) fun q51602 F51603 => ?_
            have s51608 := s51601.f2
            refine st_store F51603 s51608 rfl rfl Fx.sz41 (form_cells (formL (s51608.own_rd (.tail _ <| .head _)))) (form_one (formL (s51608.own_rd (.tail _ <| .head _)))) rfl fun w51604 q51605 F51606 s51607 => ?_
            replace s51607 : SL w [] w51604 [Blk g40 43 [.string ⟨⟨a0.Name⟩⟩, v2912, v51597, .slice none 0 0], Sl T_api_Func v51597 x51595, Blk g50165 56 [.string ⟨⟨x50150.Name⟩⟩, v51111, .int .u8 (x50150.Sig.Result.toNat : Int), .int .i64 x50150.Locals, v51113], Blk g19 46 [.string ⟨⟨[]⟩⟩, .slice none 0 0, .slice none 0 0, .slice none 0 0, .slice none 0 0], Sl T_api_Class v2912 o2909] := s51607
            refine st_end ?_
            refine blk_n ?_
            refine then_n ?_
            refine wp_reg ?_
            refine st_pr F51606 (PR.op (ex_add rfl rfl) <| PR.op (ex_move rfl) <| PR.nil) fun q51609 F51610 => ?_
            refine st_end ?_
            obtain rfl := some_ok H
            refine then_n ?_
            exact ⟨_, rfl, v51597, F51610.sub ⟨rfl, rfl, rfl, rfl, rfl, trivial⟩, s51607.f2.drop.f1.f3.f3.f3⟩
        · replace H := ite_f hb48638 H
          refine wp_exit ?_
          refine then_x <| then_x <| blk_hit ?_
          obtain rfl := some_ok H
          obtain rfl := hr _ rfl
          refine then_n ?_
          exact ⟨v45645, F48636.sub ⟨rfl, rfl, trivial⟩, s48628⟩
    · intro q51613 w51614 hJ
      obtain ⟨v39678, F51611, s51612⟩ := hJ
      have H := R39677
      clear R39677 H39676
      refine then_n ?_
      refine wp_seq ?_
      refine wp_reg ?_
      have hv51624 := (formL (s51612.own_rd (.tail _ <| .tail _ <| .head _)))
      have hv51625 := (formL (s51612.own_rd (.tail _ <| .tail _ <| .tail _ <| .head _)))
      refine st_pr F51611 (PR.op (ex_ldagg Fx.agg43 rfl (s51612.blk_cells (.head _) (o := 0) (ds := [.string ⟨⟨a0.Name⟩⟩, v2912, v39678, .slice none 0 0]) (fun j u hu => by rw [Nat.zero_add]; exact hu)) rfl) <| PR.op (ex_build (vs := [.agg ⟨[.string ⟨⟨a0.Name⟩⟩, v2912, v39678, .slice none 0 0]⟩]) Fx.zero46 Fx.pl46 rfl (cs := [.string ⟨⟨a0.Name⟩⟩, v2912, v39678, .slice none 0 0, .slice none 0 0]) (by obtain ⟨_, _, e_0⟩ := hv51624; obtain ⟨_, _, e_1⟩ := hv51625; rw [e_0, e_1] <;> rfl)) <| PR.nil) fun q51626 F51627 => ?_
      have s51632 := s51612.f1
      refine st_storea F51627 s51632 rfl rfl Fx.sz46 (one_cons rfl (one_cons (form_one (formL (s51632.own_rd (.tail _ <| .tail _ <| .head _)))) (one_cons (form_one (formL (s51632.own_rd (.tail _ <| .tail _ <| .tail _ <| .head _)))) (one_cons rfl (one_cons rfl one_nil))))) (Nat.le_of_ble_eq_true rfl) fun w51628 q51629 F51630 s51631 => ?_
      replace s51631 : SL w [] w51628 [Blk g19 46 [.string ⟨⟨a0.Name⟩⟩, v2912, v39678, .slice none 0 0, .slice none 0 0], Blk g40 43 [.string ⟨⟨a0.Name⟩⟩, v2912, v39678, .slice none 0 0], Sl T_api_Class v2912 o2909, Sl T_api_Func v39678 o39675] := s51631
      refine st_end ?_
      refine then_n ?_
      obtain rfl := some_ok H
      refine wp_ret ?_
      refine ret_gen (rs := [.cell 2 46]) (vs := [.agg ⟨[.string ⟨⟨a0.Name⟩⟩, v2912, v39678, .slice none 0 0, .slice none 0 0]⟩]) F51630 (by rfl) ⟨_, _, rfl, RV.blk s51631 (.head _) rfl Fx.agg46 rfl, rfl⟩ ⟨_, rfl, ⟨v2912, v39678, (.slice none 0 0), (.slice none 0 0), rfl, (SL.nilSl (T := T_api_Import) (SL.nilSl (T := (Ty.slice Ty.u8)) s51631)).f2.drop.f2.drop.f1.f3.f3⟩⟩
end Go.Proofs.Ytmeodoidfpcjlaa
