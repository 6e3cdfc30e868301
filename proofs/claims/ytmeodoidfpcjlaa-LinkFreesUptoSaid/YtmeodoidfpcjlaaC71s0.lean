/- The walk of proviso/code.Decode$1. -/
import Derived.Test.YtmeodoidfpcjlaaFx
import Derived.Test.YtmeodoidfpcjlaaDf
set_option linter.unusedVariables false
set_option linter.unusedSimpArgs false
namespace Go.Proofs.Ytmeodoidfpcjlaa
open Go Go.RowKit Go.Pv
theorem code_Decode_1_s0_c {w : World} {FF : List Nat} {g1 : Nat} {v1_0 : Value} {a0 : Int} {a1 : List UInt8} {r : Int × (List UInt8)} (hst : Star [Blk g1 22 [v1_0]] w FF) (hr1_0 : Rd Ty.u8 w FF v1_0 a1) (H : code_Decode_1_s0 a0 a1 = some r) :
    Calls Try.prog 71 #[.int .i64 a0, .pointer (some ⟨g1, 0, none⟩)] w (Ret fun u_ w_ => ∃ u0 : Value, u_ = .int .i64 r.1 ∧ View Ty.u8 v1_0 a1 u0 r.2 ∧ SL w FF w_ [Blk g1 22 [u0]]) := by
  have s0 : SL w FF w [Blk g1 22 [v1_0]] := SL.init w FF hst
  refine call_enter Try.func71 rfl Try.ntmps71 (Nat.le_of_ble_eq_true rfl) (args := [.int .i64 a0, .pointer (some ⟨g1, 0, none⟩)]) fun q0 F0 => ?_
  unfold code_Decode_1_s0 at H
  refine wp_seq ?_
  refine wp_reg ?_
  refine st_pr F0 (PR.op (ex_asg rfl) <| PR.nil) fun q3 F4 => ?_
  refine st_end ?_
  refine then_n ?_
  refine wp_seq ?_
  refine wp_reg ?_
  refine st_pr F4 (PR.op (ex_asg rfl) <| PR.nil) fun q7 F8 => ?_
  refine st_end ?_
  refine then_n ?_
  refine wp_seq ?_
  refine wp_seq ?_
  refine wp_reg ?_
  obtain ⟨x389, hx390, H⟩ := bind_ok H
  obtain ⟨v391, hsc392, hv393⟩ := cut_view (rdL hr1_0 s0) Fx.sl22 rfl hx390 none (some a0) (.inr ⟨rfl, rfl⟩) (.inl rfl)
  have hv394 := View.refl.trans hv393
  have hr395 := View.rd hv393 hr1_0
  refine st_pr F8 (PR.op (ex_ld Fx.nag22 rfl (s0.blk_cell (.head _) rfl)) <| PR.op (ex_move rfl) <| PR.op (hsc392 _ _ _ _ _ .i64 .i64 _ _ _ _ _ rfl trivial rfl) <| PR.op (ex_len rfl Try.underlying22 (formL (rdL hr395 s0))) <| PR.op (ex_move rfl) <| PR.nil) fun q396 F397 => ?_
  refine st_end ?_
  refine then_n ?_
  obtain ⟨o571, H572, R573⟩ := bind_ok H
  clear H
  refine wp_cutn (fun a w_ => Fr a 30 [(0, .int .i64 a0), (1, .pointer (some ⟨g1, 0, none⟩)), (4, .int .i64 o571)] ∧ SL w FF w_ [Blk g1 22 [v1_0]]) ?_ ?_
  · have H := H572
    refine wp_block ?_
    refine wp_lp (code_Decode_1_s0_b0 x389) (fun s574 a w_ => Fr a 30 [(0, .int .i64 a0), (1, .pointer (some ⟨g1, 0, none⟩)), (4, .int .i64 s574.1), (9, v391), (10, .int .i64 (x389.length : Int)), (11, .int .i64 s574.2)] ∧ SL w FF w_ [Blk g1 22 [v1_0]]) H ?_ ?_
    · exact ⟨F397.sub ⟨rfl, rfl, rfl, rfl, rfl, rfl, trivial⟩, s0⟩
    · intro s574 q704 w705 hI706 o703 H hr
      obtain ⟨F701, s702⟩ := hI706
      replace H : code_Decode_1_s0_b0 x389 s574 = some o703 := H
      unfold code_Decode_1_s0_b0 at H
      refine wp_seq ?_
      refine wp_reg ?_
      refine st_pr F701 (PR.op (ex_lt rfl rfl) <| PR.nil) fun q709 F710 => ?_
      refine st_end ?_
      refine then_n ?_
      refine wp_seq ?_
      refine wp_if F710 rfl (fun hb712 => ?_) (fun hb712 => ?_)
      · replace H := ite_t hb712 H
        refine wp_skip ?_
        refine then_n ?_
        refine wp_seq ?_
        refine wp_block ?_
        refine wp_seq ?_
        refine wp_reg ?_
        obtain ⟨x736, hx737, H⟩ := bind_ok H
        obtain ⟨ad738, hi739, hc740⟩ := idxL Flat.u8 (rdL hr395 s702) Fx.sl22 rfl hx737
        refine st_pr F710 (PR.op (hi739 _ _ _ _ _ _ _ _ _ _ rfl rfl) <| PR.op (ex_ld Fx.nag5 rfl (Cells.at_ hc740 (o := 0) rfl)) <| PR.op (ex_asg rfl) <| PR.nil) fun q741 F742 => ?_
        refine st_end ?_
        refine then_n ?_
        refine wp_reg ?_
        refine st_pr F742 (PR.op (ex_move rfl) <| PR.op (ex_shl rfl rfl rfl) <| PR.op (ex_move rfl) <| PR.op (ex_cv864 rfl Try.underlying5 Try.underlying3) <| PR.op (ex_or rfl rfl) <| PR.op (ex_asg rfl) <| PR.nil) fun q743 F744 => ?_
        refine st_end ?_
        refine blk_n ?_
        refine then_n ?_
        refine wp_reg ?_
        refine st_pr F744 (PR.op (ex_add rfl rfl) <| PR.op (ex_move rfl) <| PR.nil) fun q745 F746 => ?_
        refine st_end ?_
        obtain rfl := some_ok H
        refine then_n ?_
        exact ⟨_, rfl, F746.sub ⟨rfl, rfl, rfl, rfl, rfl, rfl, trivial⟩, s702⟩
      · replace H := ite_f hb712 H
        refine wp_exit ?_
        refine then_x <| then_x <| blk_hit ?_
        obtain rfl := some_ok H
        obtain rfl := hr _ rfl
        refine then_n ?_
        exact ⟨F710.sub ⟨rfl, rfl, rfl, trivial⟩, s702⟩
  · intro q749 w750 hJ
    obtain ⟨F747, s748⟩ := hJ
    have H := R573
    clear R573 H572
    refine then_n ?_
    refine wp_seq ?_
    refine wp_reg ?_
    obtain ⟨x765, hx766, H⟩ := bind_ok H
    obtain ⟨v767, hsc768, hv769⟩ := cut_view (rdL hr1_0 s748) Fx.sl22 rfl hx766 (some a0) none (.inl rfl) (.inr ⟨rfl, rfl⟩)
    have hv770 := View.refl.trans hv769
    have hr771 := View.rd hv769 hr1_0
    refine st_pr F747 (PR.op (ex_ld Fx.nag22 rfl (s748.blk_cell (.head _) rfl)) <| PR.op (ex_move rfl) <| PR.op (hsc768 _ _ _ _ _ .i64 .i64 _ _ _ _ _ rfl rfl trivial) <| PR.nil) fun q772 F773 => ?_
    have s778 := s748
    refine st_store F773 s778 rfl rfl Fx.sz22 (form_cells (formL (rdL hr771 s778))) (form_one (formL (rdL hr771 s778))) rfl fun w774 q775 F776 s777 => ?_
    replace s777 : SL w FF w774 [Blk g1 22 [v767]] := s777
    refine st_end ?_
    refine then_n ?_
    refine wp_seq ?_
    refine wp_seq ?_
    refine wp_reg ?_
    refine st_pr F776 (PR.op (ex_move rfl) <| PR.op (ex_eq rfl rfl) <| PR.nil) fun q790 F791 => ?_
    refine st_end ?_
    refine then_n ?_
    refine wp_if F791 rfl (fun hb792 => ?_) (fun hb792 => ?_)
    · replace H := ite_t hb792 H
      refine wp_seq ?_
      refine wp_reg ?_
      refine st_pr F791 (PR.op (ex_move rfl) <| PR.op (ex_conv rfl Try.underlying3 Try.underlying21) <| PR.op (ex_conv rfl Try.underlying21 Try.underlying3) <| PR.op (ex_asg rfl) <| PR.nil) fun q795 F796 => ?_
      refine st_end ?_
      refine then_n ?_
      obtain rfl := some_ok H
      refine wp_ret ?_
      refine then_r ?_
      refine ret_gen (rs := [.tmp 3]) (vs := [.int .i64 (wr (IntKind.i32.wrap o571))]) F796 (by rfl) ⟨_, _, rfl, RV.tmp rfl, rfl⟩ ⟨_, rfl, ⟨v767, rfl, hv770, s777⟩⟩
    · replace H := ite_f hb792 H
      refine wp_skip ?_
      refine then_n ?_
      refine wp_seq ?_
      refine wp_reg ?_
      refine st_pr F791 (PR.op (ex_move rfl) <| PR.op (ex_asg rfl) <| PR.nil) fun q799 F800 => ?_
      refine st_end ?_
      refine then_n ?_
      obtain rfl := some_ok H
      refine wp_ret ?_
      refine ret_gen (rs := [.tmp 3]) (vs := [.int .i64 o571]) F800 (by rfl) ⟨_, _, rfl, RV.tmp rfl, rfl⟩ ⟨_, rfl, ⟨v767, rfl, hv770, s777⟩⟩
end Go.Proofs.Ytmeodoidfpcjlaa
