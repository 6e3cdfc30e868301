/- The walk of proviso/provisoplain.Classes. -/
import Derived.Test.YtmeodoidfpcjlaaFx
import Derived.Test.YtmeodoidfpcjlaaDf
import Derived.Test.YtmeodoidfpcjlaaC36
set_option linter.unusedVariables false
set_option linter.unusedSimpArgs false
namespace Go.Proofs.Ytmeodoidfpcjlaa
open Go Go.RowKit Go.Pv
theorem provisoplain_Classes_c {w : World} {v0 : Value} {a0 : List S_api_Class} {r : (List S_api_Class)} (hr0 : Rd T_api_Class w [] v0 a0) (H : provisoplain_Classes a0 = some r) :
    Calls Try.prog 38 #[v0] w (Ret fun u_ w_ => ∃ u0 : Value, u_ = u0 ∧ SL w [] w_ [Sl T_api_Class u0 r]) := by
  have s0 : SL w [] w [] := SL.init0 w
  refine call_enter Try.func38 rfl Try.ntmps38 (Nat.le_of_ble_eq_true rfl) (args := [v0]) fun q0 F0 => ?_
  unfold provisoplain_Classes at H
  refine wp_seq ?_
  refine wp_reg ?_
  refine st_pr F0 (PR.op (ex_asg rfl) <| PR.nil) fun q3 F4 => ?_
  refine st_end ?_
  refine then_n ?_
  refine wp_seq ?_
  refine wp_reg ?_
  refine st_pr F4 (PR.op (ex_asg rfl) <| PR.nil) fun q7 F8 => ?_
  refine st_end ?_
  refine then_n ?_
  refine wp_seq ?_
  refine wp_seq ?_
  refine wp_reg ?_
  refine st_pr F8 (PR.op (ex_move rfl) <| PR.op (ex_len rfl Try.underlying40 (formL (rdL hr0 s0))) <| PR.op (ex_move rfl) <| PR.nil) fun q1838 F1839 => ?_
  refine st_end ?_
  refine then_n ?_
  obtain ⟨o2747, H2748, R2749⟩ := bind_ok H
  clear H
  refine wp_cutn (fun a w_ => ∃ v2750 : Value, Fr a 22 [(3, v2750)] ∧ SL w [] w_ [Sl T_api_Class v2750 o2747]) ?_ ?_
  · have H := H2748
    refine wp_block ?_
    refine wp_lp (provisoplain_Classes_b0 a0) (fun s2752 a w_ => ∃ v3205 : Value, Fr a 22 [(3, v3205), (6, v0), (7, .int .i64 (a0.length : Int)), (8, .int .i64 s2752.2)] ∧ SL w [] w_ [Sl T_api_Class v3205 s2752.1]) H ?_ ?_
    · exact ⟨(.slice none 0 0), F1839.sub ⟨rfl, rfl, rfl, rfl, trivial⟩, (SL.nilSl (T := T_api_Class) s0)⟩
    · intro s2752 q3434 w3435 hI3436 o3433 H hr
      obtain ⟨v3205, F3431, s3432⟩ := hI3436
      replace H : provisoplain_Classes_b0 a0 s2752 = some o3433 := H
      unfold provisoplain_Classes_b0 at H
      refine wp_seq ?_
      refine wp_reg ?_
      refine st_pr F3431 (PR.op (ex_lt rfl rfl) <| PR.nil) fun q3439 F3440 => ?_
      refine st_end ?_
      refine then_n ?_
      refine wp_seq ?_
      refine wp_if F3440 rfl (fun hb3442 => ?_) (fun hb3442 => ?_)
      · replace H := ite_t hb3442 H
        refine wp_skip ?_
        refine then_n ?_
        refine wp_seq ?_
        refine wp_block ?_
        refine wp_seq ?_
        refine wp_reg ?_
        obtain ⟨x3574, hx3575, H⟩ := bind_ok H
        obtain ⟨ad3576, cs3579, G3580, hi3577, hc3578, hr3581, hG3582⟩ := Rd.idx hr0 Fx.sl40 rfl hx3575
        obtain ⟨v3583, rfl, hr3584⟩ := (R_api_Class hr3581 hG3582)
        replace hc3578 := hc3578 _ _ s3432
        refine st_pr F3440 (PR.op (hi3577 _ _ _ _ _ _ _ _ _ _ rfl rfl) <| PR.op (ex_ldagg Fx.agg81 rfl hc3578 rfl) <| PR.nil) fun q3585 F3586 => ?_
        refine st_alloc F3586 s3432 Fx.zero81 rfl rfl fun g3587 w3588 q3589 F3590 s3591 => ?_
        have s3597 := s3591
        refine st_storea F3590 s3597 rfl rfl Fx.sz81 (one_cons rfl (one_cons rfl (one_cons (form_one (formL (rdL hr3584 s3597))) one_nil))) (Nat.le_of_ble_eq_true rfl) fun w3593 q3594 F3595 s3596 => ?_
        replace s3596 : SL w [] w3593 [Blk g3587 81 [.string ⟨⟨x3574.Name⟩⟩, .int .i64 x3574.Parent, v3583], Sl T_api_Class v3205 s2752.1] := s3596
        refine st_end ?_
        refine then_n ?_
        refine wp_seq ?_
        refine wp_reg ?_
        obtain ⟨x3618, hx3619, H⟩ := bind_ok H
        refine st_pr F3595 (PR.op (ex_fab Fx.fa81_2 rfl rfl) <| PR.op (ex_ld Fx.nag79 rfl (s3596.blk_cell (.head _) rfl)) <| PR.nil) fun q3620 F3621 => ?_
        refine st_call (args := [.tmp 13]) F3621 Fx.fn36 rfl (slices_Clone_api_Field_api_Field_c (a0 := x3574.Fields)  (hr3584.pass0 s3596) hx3619) rfl fun v3622 w3623 q3624 hS3626 F3625 => ?_
        obtain ⟨_, rfl, hq3628⟩ := hS3626
        have s3627 := s3596.add hq3628
        refine st_pr F3625 (PR.op (ex_fab Fx.fa81_2 rfl rfl) <| PR.nil) fun q3631 F3632 => ?_
        have s3637 := s3627.f1
        refine st_store F3632 s3637 rfl rfl Fx.sz79 (form_cells (formL (s3637.own_rd (.tail _ <| .head _)))) (form_one (formL (s3637.own_rd (.tail _ <| .head _)))) rfl fun w3633 q3634 F3635 s3636 => ?_
        replace s3636 : SL w [] w3633 [Blk g3587 81 [.string ⟨⟨x3574.Name⟩⟩, .int .i64 x3574.Parent, v3622], Sl T_api_Field v3622 x3618, Sl T_api_Class v3205 s2752.1] := s3636
        refine st_end ?_
        refine then_n ?_
        refine wp_reg ?_
        refine st_pr F3635 (PR.op (ex_move rfl) <| PR.op (ex_ldagg Fx.agg81 rfl (s3636.blk_cells (.head _) (o := 0) (ds := [.string ⟨⟨x3574.Name⟩⟩, .int .i64 x3574.Parent, v3622]) (fun j u hu => by rw [Nat.zero_add]; exact hu)) rfl) <| PR.nil) fun q3638 F3639 => ?_
        have s3647 : SL w [] _ (Dt T_api_Class (⟨x3574.Name, x3574.Parent, x3618⟩ : S_api_Class) [.string ⟨⟨x3574.Name⟩⟩, .int .i64 x3574.Parent, v3622] :: [Blk g3587 81 [.string ⟨⟨x3574.Name⟩⟩, .int .i64 x3574.Parent, v3622], Sl T_api_Class v3205 s2752.1]) := (SL.diso (f := t_api_Class) (x := (⟨x3574.Name, x3574.Parent, x3618⟩ : S_api_Class)) (SL.dpair (SL.dflat (SL.dpair (SL.dflat (SL.dsl s3636.f1) (Flat.int .i64) x3574.Parent)) Flat.str x3574.Name)))
        refine st_bslice1 F3639 s3647 Fx.sl40 rfl (by decide) rfl rfl rfl fun v3640 w3641 q3642 F3643 s3644 => ?_
        obtain ⟨x3648, hx3649, H⟩ := bind_ok H
        refine st_append_own F3643 s3644.f2 Fx.sl40 rfl rfl rfl rfl rfl rfl hx3649 rfl fun v3650 w3651 q3652 F3653 s3654 => ?_
        refine st_pr F3653 (PR.op (ex_asg rfl) <| PR.nil) fun q3655 F3656 => ?_
        refine st_end ?_
        refine blk_n ?_
        refine then_n ?_
        refine wp_reg ?_
        refine st_pr F3656 (PR.op (ex_add rfl rfl) <| PR.op (ex_move rfl) <| PR.nil) fun q3657 F3658 => ?_
        refine st_end ?_
        obtain rfl := some_ok H
        refine then_n ?_
        exact ⟨_, rfl, v3650, F3658.sub ⟨rfl, rfl, rfl, rfl, trivial⟩, s3654.f1.drop⟩
      · replace H := ite_f hb3442 H
        refine wp_exit ?_
        refine then_x <| then_x <| blk_hit ?_
        obtain rfl := some_ok H
        obtain rfl := hr _ rfl
        refine then_n ?_
        exact ⟨v3205, F3440.sub ⟨rfl, trivial⟩, s3432⟩
  · intro q3661 w3662 hJ
    obtain ⟨v2750, F3659, s3660⟩ := hJ
    have H := R2749
    clear R2749 H2748
    refine then_n ?_
    refine wp_seq ?_
    refine wp_reg ?_
    refine st_pr F3659 (PR.op (ex_move rfl) <| PR.op (ex_asg rfl) <| PR.nil) fun q3665 F3666 => ?_
    refine st_end ?_
    refine then_n ?_
    obtain rfl := some_ok H
    refine wp_ret ?_
    refine ret_gen (rs := [.tmp 2]) (vs := [v2750]) F3666 (by rfl) ⟨_, _, rfl, RV.tmp rfl, rfl⟩ ⟨_, rfl, ⟨v2750, rfl, s3660⟩⟩
end Go.Proofs.Ytmeodoidfpcjlaa
