/- Walks, merged. -/
import Derived.Test.YtmeodoidfpcjlaaGreatW3a
set_option linter.unusedVariables false
set_option linter.unusedSimpArgs false
namespace Go.Proofs.YtmeodoidfpcjlaaGreat
open Go Go.RowKit Go.Pv
open Go.Pv.PR renaming op → Aa, nil → Ad
open Bool renaming noConfusion → Ab
open Go.Pv renaming then_n → Ac, one_cons → Ae, ex_move → Af, st_end → Ai, st_pr → Aj, wp_reg → Ak, ex_asg → Al, look_b → Am, some_ok → An, st_gskip → Ao, bind_ok → Ap, st_gop → Aq, kq_end → Ar, st_storea → As, ex_extract → Au, ret_gen → Av, ex_fab → Ax, ex_ld → Az, one_nil → Ba, ite_t → Bb, ite_f → Bc, hd_one → Be, ex_pick_t → Bf, then_r → Bg, ex_pick_f → Bi, ex_ldagg → Bj, st_call → Bk, bool_split → Bl, wp_if → Bm, call_enter → Bn, st_alloc → Bo, then_x → Bp, ex_add → Bq, wpOp_of → Br, hd_cons → Bs, st_op → Bt, formL → Bu, hd_take → Bv, ex_eq → Bw, wp_cutn → Bx, ev_b → By, blk_n → Bz, blk_hit → Cb, ex_len → Cc, form_one → Cd, hd_done → Ce, st_gskip' → Cf, own_idx → Ch, st_append_rd → Ci, hd_many → Cl, wp_if_f → Cm, ex_build → Cn, hd_nil → Co, st_store → Cq, ex_lt → Cr, st_bslice → Cs, form_cells → Ct, wp_lp → Cu, rdL → Cv, ex_fa → Cw, st_setel → Cx, wp_if_t → Cz, ex_not → Da, st_box → Db, st_append_own → Dc, blk_miss → Dd, ex_ne → De, idxL → Dg, st_bslice1 → Dh, st_setfld → Di, wp_regh → Dj
open Nat renaming le_of_ble_eq_true → Ag
open Go renaming wp_seq → Ah, wp_skip → Aw, wp_ret → Bd, wp_block → Bh, wp_exit → Ca
open Go.Pv.RV renaming tmp → Ay, blk → Cj
open Go.Pv.QR renaming op → Cg, gskip → Cp, gop → Cy
-- proviso/opt.constants
theorem opt_constants_c {w : World} {FF : List Nat} {v0 : Value} {a0 : List S_opt_item} {r : (List S_opt_item) × Bool} (hst : Star [Sl T_opt_item v0 a0] w FF)  (H : opt_constants a0 = some r) :
    Calls Tryz.prog 35 #[v0] w (Ret fun u_ w_ => ∃ u0 : Value, u_ = .tuple ⟨[u0, .bool r.2]⟩ ∧ SL w FF w_ [Sl T_opt_item u0 r.1]) := by
 have s0 : SL w FF w [Sl T_opt_item v0 a0] := SL.init w FF hst
 refine Bn Tryz.func35 rfl Tryz.ntmps35 (Ag rfl) (args := [v0]) fun q0 F0 => ?_
 unfold opt_constants at H
 refine Ah <| Ak <| Db F0 s0 rfl (Ct (Bu (s0.own_rd (.head _)))) rfl fun g9 w0 _ F s1 => Aj F (Aa (Al rfl) <| Aa (Al rfl) <| Ad) fun _ F => Ai <| Ac <| Ah <| Ak ?_
 obtain ⟨x0, h0, H⟩ := Ap H
 refine Aj F (Aa (Az Fx.nag58 rfl (s1.blk_cell (.head _) rfl)) <| Ad) fun _ F => Bk (args := [.tmp 12]) F Fx.fn53 rfl (opt_led_c (a0 := a0)   (s1.rd0 (.tail _ <| .head _)) h0) rfl fun v1 w1 _ h1 F => ?_
 obtain ⟨_, rfl, h2⟩ := h1
 have s2 := s1.add h2
 refine Bo F s2 Fx.zero99 rfl rfl fun g0 w2 _ F s3 => ?_
 have s4 := s3
 refine Cq F s4 rfl rfl Fx.sz99 (Ct (Bu (s4.own_rd (.tail _ <| .head _)))) (Cd (Bu (s4.own_rd (.tail _ <| .head _)))) rfl fun w3 _ F s5 => ?_
 replace s5 : SL w FF w3 [Blk g0 99 [v1], Sl Ty.bool v1 x0, Blk g9 58 [v0], Sl T_opt_item v0 a0] := s5
 refine Ai <| Ac <| Ah <| Ak <| Aj F (Aa (Al rfl) <| Ad) fun _ F => Ai <| Ac <| Ah <| Ak <| Aj F (Aa (ex_mkfunc (cs := [.tmp 1, .tmp 4]) (vs := [.pointer (some ⟨g9, 0, none⟩), .pointer (some ⟨g0, 0, none⟩)]) rfl) <| Aa (Al rfl) <| Ad) fun _ F => Ai <| Ac <| Ah <| Ah <| Ak <| Aj F (Aa (Al rfl) <| Ad) fun _ F => Ai <| Ac ?_
 obtain ⟨o0, H0, R0⟩ := Ap H
 clear H
 refine Bx (fun a w_ => ∃ v2 : Value, Fr a 98 [(1, .pointer (some ⟨g9, 0, none⟩)), (5, .bool o0.2)] ∧ SL w FF w_ [Sl Ty.bool v1 x0, Blk g9 58 [v2], Sl T_opt_item v2 o0.1]) ?_ ?_
 ·have H := H0
  refine Bh <| Cu (opt_constants_b0 x0) (fun s6 a w_ => ∃ v3 : Value, Fr a 98 [(1, .pointer (some ⟨g9, 0, none⟩)), (5, .bool s6.2.1), (6, clo 54 [.pointer (some ⟨g9, 0, none⟩), .pointer (some ⟨g0, 0, none⟩)]), (7, .int .i64 s6.2.2)] ∧ SL w FF w_ [Blk g0 99 [v1], Sl Ty.bool v1 x0, Blk g9 58 [v3], Sl T_opt_item v3 s6.1]) H ?_ ?_
  ·exact ⟨v0, F.sub ⟨rfl, rfl, rfl, rfl, trivial⟩, s5⟩
  intro s6 _ w4 h3 o1 H hr
  obtain ⟨v3, F, s7⟩ := h3
  replace H : opt_constants_b0 x0 s6 = some o1 := H
  unfold opt_constants_b0 at H
  refine Ah <| Ah <| Ak <| Aj F (Aa (Af rfl) <| Aa (Az Fx.nag58 rfl (s7.blk_cell (.tail _ <| .tail _ <| .head _) rfl)) <| Aa (Cc rfl Tryz.underlying58 (Bu (s7.own_rd (.tail _ <| .tail _ <| .tail _ <| .head _)))) <| Aa (Cr rfl rfl) <| Ad) fun _ F => Ai <| Ac <| Bm F rfl (fun h4 => ?_) (fun h4 => ?_)
  ·replace H := Bb h4 H
   refine Aw <| Ac <| Ah ?_
   obtain ⟨o2, H1, R1⟩ := Ap H
   clear H
   refine Bx (fun a w_ => ∃ v4 : Value, Fr a 98 [(1, .pointer (some ⟨g9, 0, none⟩)), (5, .bool o2.2.1), (6, clo 54 [.pointer (some ⟨g9, 0, none⟩), .pointer (some ⟨g0, 0, none⟩)]), (7, .int .i64 o2.2.2)] ∧ SL w FF w_ [Blk g9 58 [v4], Blk g0 99 [v1], Sl Ty.bool v1 x0, Sl T_opt_item v4 o2.1]) ?_ ?_
   ·have H := H1
    refine Bh <| Ah <| Ah <| Ak ?_
    obtain ⟨x1, h5, H⟩ := Ap H
    refine Aj F (Aa (Af rfl) <| Aa (Af rfl) <| Aa (Bq rfl rfl) <| Ad) fun _ F => ?_
    have s8 := s7.f1.f1.f3.f3
    obtain ⟨G0, h6, h7, h8, h9⟩ := SL.open_ (ps := [Blk g9 58 [v3], Sl T_opt_item v3 s6.1, Blk g0 99 [v1], Sl Ty.bool v1 x0]) (rest := []) s8
    refine st_callf (args := [.tmp 23]) F Fx.fn54 rfl rfl (opt_constants_1_s2_c (a0 := wr (s6.2.2 + 1)) (a1 := s6.1) (a2 := x0) h6   h5) rfl fun v5 w5 _ ha F => ?_
    obtain ⟨rfl, hb⟩ := ha
    have s9 := h9 _ _ hb
    refine Aj F (Aa (Da rfl) <| Ad) fun _ F => Ai <| Ac <| Bm F rfl (fun hc => ?_) (fun hc => ?_)
    ·replace H := Bb hc H
     refine Ca <| Bp <| Cb ?_
     obtain rfl := An H
     refine Ac ?_
     exact ⟨v3, F.sub ⟨rfl, rfl, rfl, rfl, trivial⟩, s9.f1.f3.f3.f3⟩
    replace H := Bc hc H
    refine Aw <| Ac <| Ah ?_
    obtain ⟨o3, H2, R2⟩ := Ap H
    clear H
    refine Bx (fun a w_ => ∃ p0 : Unit, o3 = .inr (p0) ∧ Fr a 98 [(1, .pointer (some ⟨g9, 0, none⟩)), (5, .bool s6.2.1), (6, clo 54 [.pointer (some ⟨g9, 0, none⟩), .pointer (some ⟨g0, 0, none⟩)]), (7, .int .i64 s6.2.2)] ∧ SL w FF w_ [Blk g9 58 [v3], Sl T_opt_item v3 s6.1, Blk g0 99 [v1], Sl Ty.bool v1 x0]) ?_ ?_
    ·have H := H2
     refine Ah <| Ak ?_
     obtain ⟨x2, hd, H⟩ := Ap H
     refine Aj F (Aa (Af rfl) <| Aa (Af rfl) <| Aa (Bq rfl rfl) <| Ad) fun _ F => ?_
     have sa := s9.f3.f3.f3.f3
     obtain ⟨G1, he, hf, hg, hh⟩ := SL.open_ (ps := [Blk g9 58 [v3], Sl T_opt_item v3 s6.1, Blk g0 99 [v1], Sl Ty.bool v1 x0]) (rest := []) sa
     refine st_callf (args := [.tmp 28]) F Fx.fn54 rfl rfl (opt_constants_1_s2_c (a0 := wr (s6.2.2 + 2)) (a1 := s6.1) (a2 := x0) he   hd) rfl fun v6 w6 _ hi F => ?_
     obtain ⟨rfl, hj⟩ := hi
     have sb := hh _ _ hj
     refine Ai <| Ac <| Bm F rfl (fun hk => ?_) (fun hk => ?_)
     ·replace H := Bb hk H
      refine Ah ?_
      obtain ⟨o4, H3, R3⟩ := Ap H
      clear H
      refine Bx (fun a w_ => ∃ g1 : Nat, Fr a 98 [(1, .pointer (some ⟨g9, 0, none⟩)), (5, .bool s6.2.1), (6, clo 54 [.pointer (some ⟨g9, 0, none⟩), .pointer (some ⟨g0, 0, none⟩)]), (7, .int .i64 s6.2.2), (8, .pointer (some ⟨g1, 0, none⟩)), (9, .bool o4.2.2.2.2.2.2)] ∧ SL w FF w_ [Blk g9 58 [v3], Sl T_opt_item v3 s6.1, Blk g0 99 [v1], Sl Ty.bool v1 x0, Blk g1 83 [.int .i64 o4.1, .int .u8 (o4.2.1.toNat : Int), .int .i64 o4.2.2.1, .int .i64 o4.2.2.2.1, .int .i64 o4.2.2.2.2.1, .bool o4.2.2.2.2.2.1]]) ?_ ?_
      ·have H := H3
       obtain ⟨x3, hl, H⟩ := Ap H
       obtain ⟨x4, hm, H⟩ := Ap H
       obtain ⟨x5, hn, H⟩ := Ap H
       obtain ⟨x6, ho, H⟩ := Ap H
       refine Dj Fx.mixed (fun w_ => SL w FF w_ [Blk g9 58 [v3], Sl T_opt_item v3 s6.1, Blk g0 99 [v1], Sl Ty.bool v1 x0]) ?_
       have sc := sb.drew
       have sd : SL w FF _ [Blk g9 58 [v3], Sl T_opt_item v3 s6.1, Blk g0 99 [v1], Sl Ty.bool v1 x0] := sc
       refine Bv (i := 0) rfl (by kernel_rfl) (by kernel_rfl) (by kernel_rfl) (fun _ hC => Az Fx.nag58 rfl (hC.blk_cell (.head _) rfl)) rfl rfl rfl F sd fun _ F => ?_
       refine Bv (i := 1) rfl (by kernel_rfl) (by kernel_rfl) (by kernel_rfl) (fun _ hC => Af rfl) rfl rfl rfl F sd fun _ F => ?_
       obtain ⟨a3, hp, hq⟩ := idxC (C := fun w_ => SL w FF w_ [Blk g9 58 [v3], Sl T_opt_item v3 s6.1, Blk g0 99 [v1], Sl Ty.bool v1 x0]) F_opt_item (fun _ hC => (hC.own_rd (.tail _ <| .head _))) sd Fx.sl58 rfl hl
       refine Bv (i := 2) rfl (by kernel_rfl) (by kernel_rfl) (by kernel_rfl) (fun _ hC => hp _ _ _ _ _ _ _ _ _ _ rfl rfl) rfl rfl rfl F sd fun _ F => ?_
       refine Bv (i := 3) rfl (by kernel_rfl) (by kernel_rfl) (by kernel_rfl) (fun _ hC => Cw Fx.fa83_0 rfl) rfl rfl rfl F sd fun _ F => ?_
       refine Bv (i := 4) rfl (by kernel_rfl) (by kernel_rfl) (by kernel_rfl) (fun _ hC => Bj Fx.agg79 rfl (Cells.sub (hq _ hC) 0 (ds := [.int .i64 x3.in_.At, .int .u8 (x3.in_.Op.toNat : Int), .int .i64 x3.in_.A, .int .i64 x3.in_.B]) (subcells _ rfl)) rfl) rfl rfl rfl F sd fun _ F => ?_
       refine Bv (i := 5) rfl (by kernel_rfl) (by kernel_rfl) (by kernel_rfl) (fun _ hC => Az Fx.nag58 rfl (hC.blk_cell (.head _) rfl)) rfl rfl rfl F sd fun _ F => ?_
       refine Bv (i := 6) rfl (by kernel_rfl) (by kernel_rfl) (by kernel_rfl) (fun _ hC => Af rfl) rfl rfl rfl F sd fun _ F => ?_
       refine Bv (i := 7) rfl (by kernel_rfl) (by kernel_rfl) (by kernel_rfl) (fun _ hC => Bq rfl rfl) rfl rfl rfl F sd fun _ F => ?_
       obtain ⟨a4, hs, ht⟩ := idxC (C := fun w_ => SL w FF w_ [Blk g9 58 [v3], Sl T_opt_item v3 s6.1, Blk g0 99 [v1], Sl Ty.bool v1 x0]) F_opt_item (fun _ hC => (hC.own_rd (.tail _ <| .head _))) sd Fx.sl58 rfl hm
       refine Bv (i := 8) rfl (by kernel_rfl) (by kernel_rfl) (by kernel_rfl) (fun _ hC => hs _ _ _ _ _ _ _ _ _ _ rfl rfl) rfl rfl rfl F sd fun _ F => ?_
       refine Bv (i := 9) rfl (by kernel_rfl) (by kernel_rfl) (by kernel_rfl) (fun _ hC => Cw Fx.fa83_0 rfl) rfl rfl rfl F sd fun _ F => ?_
       refine Bv (i := 10) rfl (by kernel_rfl) (by kernel_rfl) (by kernel_rfl) (fun _ hC => Bj Fx.agg79 rfl (Cells.sub (ht _ hC) 0 (ds := [.int .i64 x4.in_.At, .int .u8 (x4.in_.Op.toNat : Int), .int .i64 x4.in_.A, .int .i64 x4.in_.B]) (subcells _ rfl)) rfl) rfl rfl rfl F sd fun _ F => ?_
       refine Bv (i := 11) rfl (by kernel_rfl) (by kernel_rfl) (by kernel_rfl) (fun _ hC => Az Fx.nag58 rfl (hC.blk_cell (.head _) rfl)) rfl rfl rfl F sd fun _ F => ?_
       refine Bv (i := 12) rfl (by kernel_rfl) (by kernel_rfl) (by kernel_rfl) (fun _ hC => Af rfl) rfl rfl rfl F sd fun _ F => ?_
       refine Bv (i := 13) rfl (by kernel_rfl) (by kernel_rfl) (by kernel_rfl) (fun _ hC => Bq rfl rfl) rfl rfl rfl F sd fun _ F => ?_
       obtain ⟨a5, hv, hw⟩ := idxC (C := fun w_ => SL w FF w_ [Blk g9 58 [v3], Sl T_opt_item v3 s6.1, Blk g0 99 [v1], Sl Ty.bool v1 x0]) F_opt_item (fun _ hC => (hC.own_rd (.tail _ <| .head _))) sd Fx.sl58 rfl hn
       refine Bv (i := 14) rfl (by kernel_rfl) (by kernel_rfl) (by kernel_rfl) (fun _ hC => hv _ _ _ _ _ _ _ _ _ _ rfl rfl) rfl rfl rfl F sd fun _ F => ?_
       refine Bv (i := 15) rfl (by kernel_rfl) (by kernel_rfl) (by kernel_rfl) (fun _ hC => Cw Fx.fa83_0 rfl) rfl rfl rfl F sd fun _ F => ?_
       refine Bv (i := 16) rfl (by kernel_rfl) (by kernel_rfl) (by kernel_rfl) (fun _ hC => Bj Fx.agg79 rfl (Cells.sub (hw _ hC) 0 (ds := [.int .i64 x5.in_.At, .int .u8 (x5.in_.Op.toNat : Int), .int .i64 x5.in_.A, .int .i64 x5.in_.B]) (subcells _ rfl)) rfl) rfl rfl rfl F sd fun _ F => ?_
       refine Cl (rs := [17, 21]) (by kernel_rfl) (by decide) (Bs (Br rfl ?_) (Bs (Br rfl ?_) (Co)))
       ·refine Bk (args := [.tmp 35, .tmp 41, .tmp 47]) F Fx.fn55 rfl (opt_three_c (a0 := (⟨x3.in_.At, x3.in_.Op, x3.in_.A, x3.in_.B⟩ : S_api_Instr)) (a1 := (⟨x4.in_.At, x4.in_.Op, x4.in_.A, x4.in_.B⟩ : S_api_Instr)) (a2 := (⟨x5.in_.At, x5.in_.Op, x5.in_.A, x5.in_.B⟩ : S_api_Instr))    ho) rfl fun v7 w7 _ hx F => ?_
        obtain ⟨rfl, hy⟩ := hx
        have se := sc.add hy
        have sf : SL w FF _ [Blk g9 58 [v3], Sl T_opt_item v3 s6.1, Blk g0 99 [v1], Sl Ty.bool v1 x0] := se
        refine Ar ⟨sf, ?_⟩
        refine Cl (rs := [18, 21]) (by kernel_rfl) (by decide) (Bs (Br rfl ?_) (Bs (Br rfl ?_) (Co)))
        ·refine Bt F (Af rfl) rfl rfl rfl fun _ F => ?_
         have sg : SL w FF _ [Blk g9 58 [v3], Sl T_opt_item v3 s6.1, Blk g0 99 [v1], Sl Ty.bool v1 x0] := se
         refine Ar ⟨sg, ?_⟩
         refine Cl (rs := [19, 20, 21]) (by kernel_rfl) (by decide) (Bs (Br rfl ?_) (Bs (Br rfl ?_) (Bs (Br rfl ?_) (Co))))
         ·refine Bt F (Au (v := .agg ⟨[.int .i64 x6.1.in_.At, .int .u8 (x6.1.in_.Op.toNat : Int), .int .i64 x6.1.in_.A, .int .i64 x6.1.in_.B, .int .i64 x6.1.to, .bool x6.1.gone]⟩) rfl rfl) rfl rfl rfl fun _ F => ?_
          have sh : SL w FF _ [Blk g9 58 [v3], Sl T_opt_item v3 s6.1, Blk g0 99 [v1], Sl Ty.bool v1 x0] := se
          refine Ar ⟨sh, ?_⟩
          refine Cl (rs := [20, 21]) (by kernel_rfl) (by decide) (Bs (Br rfl ?_) (Bs (Br rfl ?_) (Co)))
          ·refine Bt F (Au (v := .bool x6.2) rfl rfl) rfl rfl rfl fun _ F => ?_
           have si : SL w FF _ [Blk g9 58 [v3], Sl T_opt_item v3 s6.1, Blk g0 99 [v1], Sl Ty.bool v1 x0] := se
           refine Ar ⟨si, ?_⟩
           refine Be (i := 21) rfl (by kernel_rfl) ?_
           refine Bo F se Fx.zero83 rfl rfl fun g2 w8 _ F sj => ?_
           have sk : SL w FF _ [Blk g9 58 [v3], Sl T_opt_item v3 s6.1, Blk g0 99 [v1], Sl Ty.bool v1 x0] := sj.drop
           refine Ar ⟨sk, ?_⟩
           refine Be (i := 22) rfl (by kernel_rfl) ?_
           have sl := sj
           refine As F sl rfl rfl Fx.sz83 (Ae rfl (Ae rfl (Ae rfl (Ae rfl (Ae rfl (Ae rfl Ba)))))) (Ag rfl) fun w9 _ F sm => ?_
           replace sm : SL w FF w9 [Blk g2 83 [.int .i64 x6.1.in_.At, .int .u8 (x6.1.in_.Op.toNat : Int), .int .i64 x6.1.in_.A, .int .i64 x6.1.in_.B, .int .i64 x6.1.to, .bool x6.1.gone], Blk g9 58 [v3], Sl T_opt_item v3 s6.1, Blk g0 99 [v1], Sl Ty.bool v1 x0] := sm
           have sn : SL w FF _ [Blk g9 58 [v3], Sl T_opt_item v3 s6.1, Blk g0 99 [v1], Sl Ty.bool v1 x0] := sm.drop
           refine Ar ⟨sn, ?_⟩
           refine Be (i := 23) rfl (by kernel_rfl) ?_
           refine Bt F (Al rfl) rfl rfl rfl fun _ F => ?_
           have so : SL w FF _ [Blk g9 58 [v3], Sl T_opt_item v3 s6.1, Blk g0 99 [v1], Sl Ty.bool v1 x0] := sm.drop
           refine Ar ⟨so, ?_⟩
           refine Ce (by kernel_rfl) ?_
           obtain rfl := An H
           refine Ac ?_
           exact ⟨g2, F.sub ⟨rfl, rfl, rfl, rfl, rfl, rfl, trivial⟩, sm.f4.f4.f4.f4⟩
          refine Bo F se Fx.zero83 rfl rfl fun g3 wa _ F sp => ?_
          have sq : SL w FF _ [Blk g9 58 [v3], Sl T_opt_item v3 s6.1, Blk g0 99 [v1], Sl Ty.bool v1 x0] := sp.drop
          refine Ar ⟨sq, ?_⟩
          refine Cl (rs := [20, 22]) (by kernel_rfl) (by decide) (Bs (Br rfl ?_) (Bs (Br rfl ?_) (Co)))
          ·refine Bt F (Au (v := .bool x6.2) rfl rfl) rfl rfl rfl fun _ F => ?_
           have sr : SL w FF _ [Blk g9 58 [v3], Sl T_opt_item v3 s6.1, Blk g0 99 [v1], Sl Ty.bool v1 x0] := sp.drop
           refine Ar ⟨sr, ?_⟩
           refine Be (i := 22) rfl (by kernel_rfl) ?_
           have ss := sp
           refine As F ss rfl rfl Fx.sz83 (Ae rfl (Ae rfl (Ae rfl (Ae rfl (Ae rfl (Ae rfl Ba)))))) (Ag rfl) fun wb _ F st => ?_
           replace st : SL w FF wb [Blk g3 83 [.int .i64 x6.1.in_.At, .int .u8 (x6.1.in_.Op.toNat : Int), .int .i64 x6.1.in_.A, .int .i64 x6.1.in_.B, .int .i64 x6.1.to, .bool x6.1.gone], Blk g9 58 [v3], Sl T_opt_item v3 s6.1, Blk g0 99 [v1], Sl Ty.bool v1 x0] := st
           have su : SL w FF _ [Blk g9 58 [v3], Sl T_opt_item v3 s6.1, Blk g0 99 [v1], Sl Ty.bool v1 x0] := st.drop
           refine Ar ⟨su, ?_⟩
           refine Be (i := 23) rfl (by kernel_rfl) ?_
           refine Bt F (Al rfl) rfl rfl rfl fun _ F => ?_
           have sv : SL w FF _ [Blk g9 58 [v3], Sl T_opt_item v3 s6.1, Blk g0 99 [v1], Sl Ty.bool v1 x0] := st.drop
           refine Ar ⟨sv, ?_⟩
           refine Ce (by kernel_rfl) ?_
           obtain rfl := An H
           refine Ac ?_
           exact ⟨g3, F.sub ⟨rfl, rfl, rfl, rfl, rfl, rfl, trivial⟩, st.f4.f4.f4.f4⟩
          have sw := sp
          refine As F sw rfl rfl Fx.sz83 (Ae rfl (Ae rfl (Ae rfl (Ae rfl (Ae rfl (Ae rfl Ba)))))) (Ag rfl) fun wc _ F sx => ?_
          replace sx : SL w FF wc [Blk g3 83 [.int .i64 x6.1.in_.At, .int .u8 (x6.1.in_.Op.toNat : Int), .int .i64 x6.1.in_.A, .int .i64 x6.1.in_.B, .int .i64 x6.1.to, .bool x6.1.gone], Blk g9 58 [v3], Sl T_opt_item v3 s6.1, Blk g0 99 [v1], Sl Ty.bool v1 x0] := sx
          have sy : SL w FF _ [Blk g9 58 [v3], Sl T_opt_item v3 s6.1, Blk g0 99 [v1], Sl Ty.bool v1 x0] := sx.drop
          refine Ar ⟨sy, ?_⟩
          refine Be (i := 20) rfl (by kernel_rfl) ?_
          refine Bt F (Au (v := .bool x6.2) rfl rfl) rfl rfl rfl fun _ F => ?_
          have sz : SL w FF _ [Blk g9 58 [v3], Sl T_opt_item v3 s6.1, Blk g0 99 [v1], Sl Ty.bool v1 x0] := sx.drop
          refine Ar ⟨sz, ?_⟩
          refine Be (i := 23) rfl (by kernel_rfl) ?_
          refine Bt F (Al rfl) rfl rfl rfl fun _ F => ?_
          have s10 : SL w FF _ [Blk g9 58 [v3], Sl T_opt_item v3 s6.1, Blk g0 99 [v1], Sl Ty.bool v1 x0] := sx.drop
          refine Ar ⟨s10, ?_⟩
          refine Ce (by kernel_rfl) ?_
          obtain rfl := An H
          refine Ac ?_
          exact ⟨g3, F.sub ⟨rfl, rfl, rfl, rfl, rfl, rfl, trivial⟩, sx.f4.f4.f4.f4⟩
         ·refine Bt F (Au (v := .bool x6.2) rfl rfl) rfl rfl rfl fun _ F => ?_
          have s11 : SL w FF _ [Blk g9 58 [v3], Sl T_opt_item v3 s6.1, Blk g0 99 [v1], Sl Ty.bool v1 x0] := se
          refine Ar ⟨s11, ?_⟩
          refine Cl (rs := [19, 21]) (by kernel_rfl) (by decide) (Bs (Br rfl ?_) (Bs (Br rfl ?_) (Co)))
          ·refine Bt F (Au (v := .agg ⟨[.int .i64 x6.1.in_.At, .int .u8 (x6.1.in_.Op.toNat : Int), .int .i64 x6.1.in_.A, .int .i64 x6.1.in_.B, .int .i64 x6.1.to, .bool x6.1.gone]⟩) rfl rfl) rfl rfl rfl fun _ F => ?_
           have s12 : SL w FF _ [Blk g9 58 [v3], Sl T_opt_item v3 s6.1, Blk g0 99 [v1], Sl Ty.bool v1 x0] := se
           refine Ar ⟨s12, ?_⟩
           refine Be (i := 21) rfl (by kernel_rfl) ?_
           refine Bo F se Fx.zero83 rfl rfl fun g4 wd _ F s14 => ?_
           have s15 : SL w FF _ [Blk g9 58 [v3], Sl T_opt_item v3 s6.1, Blk g0 99 [v1], Sl Ty.bool v1 x0] := s14.drop
           refine Ar ⟨s15, ?_⟩
           refine Be (i := 22) rfl (by kernel_rfl) ?_
           have s16 := s14
           refine As F s16 rfl rfl Fx.sz83 (Ae rfl (Ae rfl (Ae rfl (Ae rfl (Ae rfl (Ae rfl Ba)))))) (Ag rfl) fun we _ F s17 => ?_
           replace s17 : SL w FF we [Blk g4 83 [.int .i64 x6.1.in_.At, .int .u8 (x6.1.in_.Op.toNat : Int), .int .i64 x6.1.in_.A, .int .i64 x6.1.in_.B, .int .i64 x6.1.to, .bool x6.1.gone], Blk g9 58 [v3], Sl T_opt_item v3 s6.1, Blk g0 99 [v1], Sl Ty.bool v1 x0] := s17
           have s18 : SL w FF _ [Blk g9 58 [v3], Sl T_opt_item v3 s6.1, Blk g0 99 [v1], Sl Ty.bool v1 x0] := s17.drop
           refine Ar ⟨s18, ?_⟩
           refine Be (i := 23) rfl (by kernel_rfl) ?_
           refine Bt F (Al rfl) rfl rfl rfl fun _ F => ?_
           have s19 : SL w FF _ [Blk g9 58 [v3], Sl T_opt_item v3 s6.1, Blk g0 99 [v1], Sl Ty.bool v1 x0] := s17.drop
           refine Ar ⟨s19, ?_⟩
           refine Ce (by kernel_rfl) ?_
           obtain rfl := An H
           refine Ac ?_
           exact ⟨g4, F.sub ⟨rfl, rfl, rfl, rfl, rfl, rfl, trivial⟩, s17.f4.f4.f4.f4⟩
          refine Bo F se Fx.zero83 rfl rfl fun g5 wf _ F s1a => ?_
          have s1b : SL w FF _ [Blk g9 58 [v3], Sl T_opt_item v3 s6.1, Blk g0 99 [v1], Sl Ty.bool v1 x0] := s1a.drop
          refine Ar ⟨s1b, ?_⟩
          refine Be (i := 19) rfl (by kernel_rfl) ?_
          refine Bt F (Au (v := .agg ⟨[.int .i64 x6.1.in_.At, .int .u8 (x6.1.in_.Op.toNat : Int), .int .i64 x6.1.in_.A, .int .i64 x6.1.in_.B, .int .i64 x6.1.to, .bool x6.1.gone]⟩) rfl rfl) rfl rfl rfl fun _ F => ?_
          have s1c : SL w FF _ [Blk g9 58 [v3], Sl T_opt_item v3 s6.1, Blk g0 99 [v1], Sl Ty.bool v1 x0] := s1a.drop
          refine Ar ⟨s1c, ?_⟩
          refine Be (i := 22) rfl (by kernel_rfl) ?_
          have s1d := s1a
          refine As F s1d rfl rfl Fx.sz83 (Ae rfl (Ae rfl (Ae rfl (Ae rfl (Ae rfl (Ae rfl Ba)))))) (Ag rfl) fun wg _ F s1e => ?_
          replace s1e : SL w FF wg [Blk g5 83 [.int .i64 x6.1.in_.At, .int .u8 (x6.1.in_.Op.toNat : Int), .int .i64 x6.1.in_.A, .int .i64 x6.1.in_.B, .int .i64 x6.1.to, .bool x6.1.gone], Blk g9 58 [v3], Sl T_opt_item v3 s6.1, Blk g0 99 [v1], Sl Ty.bool v1 x0] := s1e
          have s1f : SL w FF _ [Blk g9 58 [v3], Sl T_opt_item v3 s6.1, Blk g0 99 [v1], Sl Ty.bool v1 x0] := s1e.drop
          refine Ar ⟨s1f, ?_⟩
          refine Be (i := 23) rfl (by kernel_rfl) ?_
          refine Bt F (Al rfl) rfl rfl rfl fun _ F => ?_
          have s1g : SL w FF _ [Blk g9 58 [v3], Sl T_opt_item v3 s6.1, Blk g0 99 [v1], Sl Ty.bool v1 x0] := s1e.drop
          refine Ar ⟨s1g, ?_⟩
          refine Ce (by kernel_rfl) ?_
          obtain rfl := An H
          refine Ac ?_
          exact ⟨g5, F.sub ⟨rfl, rfl, rfl, rfl, rfl, rfl, trivial⟩, s1e.f4.f4.f4.f4⟩
         refine Bo F se Fx.zero83 rfl rfl fun g6 wh _ F s1h => ?_
         have s1i : SL w FF _ [Blk g9 58 [v3], Sl T_opt_item v3 s6.1, Blk g0 99 [v1], Sl Ty.bool v1 x0] := s1h.drop
         refine Ar ⟨s1i, ?_⟩
         refine Cl (rs := [19, 20]) (by kernel_rfl) (by decide) (Bs (Br rfl ?_) (Bs (Br rfl ?_) (Co)))
         ·refine Bt F (Au (v := .agg ⟨[.int .i64 x6.1.in_.At, .int .u8 (x6.1.in_.Op.toNat : Int), .int .i64 x6.1.in_.A, .int .i64 x6.1.in_.B, .int .i64 x6.1.to, .bool x6.1.gone]⟩) rfl rfl) rfl rfl rfl fun _ F => ?_
          have s1j : SL w FF _ [Blk g9 58 [v3], Sl T_opt_item v3 s6.1, Blk g0 99 [v1], Sl Ty.bool v1 x0] := s1h.drop
          refine Ar ⟨s1j, ?_⟩
          refine Cl (rs := [20, 22]) (by kernel_rfl) (by decide) (Bs (Br rfl ?_) (Bs (Br rfl ?_) (Co)))
          ·refine Bt F (Au (v := .bool x6.2) rfl rfl) rfl rfl rfl fun _ F => ?_
           have s1k : SL w FF _ [Blk g9 58 [v3], Sl T_opt_item v3 s6.1, Blk g0 99 [v1], Sl Ty.bool v1 x0] := s1h.drop
           refine Ar ⟨s1k, ?_⟩
           refine Be (i := 22) rfl (by kernel_rfl) ?_
           have s1l := s1h
           refine As F s1l rfl rfl Fx.sz83 (Ae rfl (Ae rfl (Ae rfl (Ae rfl (Ae rfl (Ae rfl Ba)))))) (Ag rfl) fun wi _ F s1m => ?_
           replace s1m : SL w FF wi [Blk g6 83 [.int .i64 x6.1.in_.At, .int .u8 (x6.1.in_.Op.toNat : Int), .int .i64 x6.1.in_.A, .int .i64 x6.1.in_.B, .int .i64 x6.1.to, .bool x6.1.gone], Blk g9 58 [v3], Sl T_opt_item v3 s6.1, Blk g0 99 [v1], Sl Ty.bool v1 x0] := s1m
           have s1n : SL w FF _ [Blk g9 58 [v3], Sl T_opt_item v3 s6.1, Blk g0 99 [v1], Sl Ty.bool v1 x0] := s1m.drop
           refine Ar ⟨s1n, ?_⟩
           refine Be (i := 23) rfl (by kernel_rfl) ?_
           refine Bt F (Al rfl) rfl rfl rfl fun _ F => ?_
           have s1o : SL w FF _ [Blk g9 58 [v3], Sl T_opt_item v3 s6.1, Blk g0 99 [v1], Sl Ty.bool v1 x0] := s1m.drop
           refine Ar ⟨s1o, ?_⟩
           refine Ce (by kernel_rfl) ?_
           obtain rfl := An H
           refine Ac ?_
           exact ⟨g6, F.sub ⟨rfl, rfl, rfl, rfl, rfl, rfl, trivial⟩, s1m.f4.f4.f4.f4⟩
          have s1p := s1h
          refine As F s1p rfl rfl Fx.sz83 (Ae rfl (Ae rfl (Ae rfl (Ae rfl (Ae rfl (Ae rfl Ba)))))) (Ag rfl) fun wj _ F s1q => ?_
          replace s1q : SL w FF wj [Blk g6 83 [.int .i64 x6.1.in_.At, .int .u8 (x6.1.in_.Op.toNat : Int), .int .i64 x6.1.in_.A, .int .i64 x6.1.in_.B, .int .i64 x6.1.to, .bool x6.1.gone], Blk g9 58 [v3], Sl T_opt_item v3 s6.1, Blk g0 99 [v1], Sl Ty.bool v1 x0] := s1q
          have s1r : SL w FF _ [Blk g9 58 [v3], Sl T_opt_item v3 s6.1, Blk g0 99 [v1], Sl Ty.bool v1 x0] := s1q.drop
          refine Ar ⟨s1r, ?_⟩
          refine Be (i := 20) rfl (by kernel_rfl) ?_
          refine Bt F (Au (v := .bool x6.2) rfl rfl) rfl rfl rfl fun _ F => ?_
          have s1s : SL w FF _ [Blk g9 58 [v3], Sl T_opt_item v3 s6.1, Blk g0 99 [v1], Sl Ty.bool v1 x0] := s1q.drop
          refine Ar ⟨s1s, ?_⟩
          refine Be (i := 23) rfl (by kernel_rfl) ?_
          refine Bt F (Al rfl) rfl rfl rfl fun _ F => ?_
          have s1t : SL w FF _ [Blk g9 58 [v3], Sl T_opt_item v3 s6.1, Blk g0 99 [v1], Sl Ty.bool v1 x0] := s1q.drop
          refine Ar ⟨s1t, ?_⟩
          refine Ce (by kernel_rfl) ?_
          obtain rfl := An H
          refine Ac ?_
          exact ⟨g6, F.sub ⟨rfl, rfl, rfl, rfl, rfl, rfl, trivial⟩, s1q.f4.f4.f4.f4⟩
         refine Bt F (Au (v := .bool x6.2) rfl rfl) rfl rfl rfl fun _ F => ?_
         have s1u : SL w FF _ [Blk g9 58 [v3], Sl T_opt_item v3 s6.1, Blk g0 99 [v1], Sl Ty.bool v1 x0] := s1h.drop
         refine Ar ⟨s1u, ?_⟩
         refine Be (i := 19) rfl (by kernel_rfl) ?_
         refine Bt F (Au (v := .agg ⟨[.int .i64 x6.1.in_.At, .int .u8 (x6.1.in_.Op.toNat : Int), .int .i64 x6.1.in_.A, .int .i64 x6.1.in_.B, .int .i64 x6.1.to, .bool x6.1.gone]⟩) rfl rfl) rfl rfl rfl fun _ F => ?_
         have s1v : SL w FF _ [Blk g9 58 [v3], Sl T_opt_item v3 s6.1, Blk g0 99 [v1], Sl Ty.bool v1 x0] := s1h.drop
         refine Ar ⟨s1v, ?_⟩
         refine Be (i := 22) rfl (by kernel_rfl) ?_
         have s1w := s1h
         refine As F s1w rfl rfl Fx.sz83 (Ae rfl (Ae rfl (Ae rfl (Ae rfl (Ae rfl (Ae rfl Ba)))))) (Ag rfl) fun wk _ F s1x => ?_
         replace s1x : SL w FF wk [Blk g6 83 [.int .i64 x6.1.in_.At, .int .u8 (x6.1.in_.Op.toNat : Int), .int .i64 x6.1.in_.A, .int .i64 x6.1.in_.B, .int .i64 x6.1.to, .bool x6.1.gone], Blk g9 58 [v3], Sl T_opt_item v3 s6.1, Blk g0 99 [v1], Sl Ty.bool v1 x0] := s1x
         have s1y : SL w FF _ [Blk g9 58 [v3], Sl T_opt_item v3 s6.1, Blk g0 99 [v1], Sl Ty.bool v1 x0] := s1x.drop
         refine Ar ⟨s1y, ?_⟩
         refine Be (i := 23) rfl (by kernel_rfl) ?_
         refine Bt F (Al rfl) rfl rfl rfl fun _ F => ?_
         have s1z : SL w FF _ [Blk g9 58 [v3], Sl T_opt_item v3 s6.1, Blk g0 99 [v1], Sl Ty.bool v1 x0] := s1x.drop
         refine Ar ⟨s1z, ?_⟩
         refine Ce (by kernel_rfl) ?_
         obtain rfl := An H
         refine Ac ?_
         exact ⟨g6, F.sub ⟨rfl, rfl, rfl, rfl, rfl, rfl, trivial⟩, s1x.f4.f4.f4.f4⟩
        refine Bo F se Fx.zero83 rfl rfl fun g7 wl _ F s20 => ?_
        have s21 : SL w FF _ [Blk g9 58 [v3], Sl T_opt_item v3 s6.1, Blk g0 99 [v1], Sl Ty.bool v1 x0] := s20.drop
        refine Ar ⟨s21, ?_⟩
        refine Be (i := 18) rfl (by kernel_rfl) ?_
        refine Bt F (Af rfl) rfl rfl rfl fun _ F => ?_
        have s22 : SL w FF _ [Blk g9 58 [v3], Sl T_opt_item v3 s6.1, Blk g0 99 [v1], Sl Ty.bool v1 x0] := s20.drop
        refine Ar ⟨s22, ?_⟩
        refine Cl (rs := [19, 20]) (by kernel_rfl) (by decide) (Bs (Br rfl ?_) (Bs (Br rfl ?_) (Co)))
        ·refine Bt F (Au (v := .agg ⟨[.int .i64 x6.1.in_.At, .int .u8 (x6.1.in_.Op.toNat : Int), .int .i64 x6.1.in_.A, .int .i64 x6.1.in_.B, .int .i64 x6.1.to, .bool x6.1.gone]⟩) rfl rfl) rfl rfl rfl fun _ F => ?_
         have s23 : SL w FF _ [Blk g9 58 [v3], Sl T_opt_item v3 s6.1, Blk g0 99 [v1], Sl Ty.bool v1 x0] := s20.drop
         refine Ar ⟨s23, ?_⟩
         refine Cl (rs := [20, 22]) (by kernel_rfl) (by decide) (Bs (Br rfl ?_) (Bs (Br rfl ?_) (Co)))
         ·refine Bt F (Au (v := .bool x6.2) rfl rfl) rfl rfl rfl fun _ F => ?_
          have s24 : SL w FF _ [Blk g9 58 [v3], Sl T_opt_item v3 s6.1, Blk g0 99 [v1], Sl Ty.bool v1 x0] := s20.drop
          refine Ar ⟨s24, ?_⟩
          refine Be (i := 22) rfl (by kernel_rfl) ?_
          have s25 := s20
          refine As F s25 rfl rfl Fx.sz83 (Ae rfl (Ae rfl (Ae rfl (Ae rfl (Ae rfl (Ae rfl Ba)))))) (Ag rfl) fun wm _ F s26 => ?_
          replace s26 : SL w FF wm [Blk g7 83 [.int .i64 x6.1.in_.At, .int .u8 (x6.1.in_.Op.toNat : Int), .int .i64 x6.1.in_.A, .int .i64 x6.1.in_.B, .int .i64 x6.1.to, .bool x6.1.gone], Blk g9 58 [v3], Sl T_opt_item v3 s6.1, Blk g0 99 [v1], Sl Ty.bool v1 x0] := s26
          have s27 : SL w FF _ [Blk g9 58 [v3], Sl T_opt_item v3 s6.1, Blk g0 99 [v1], Sl Ty.bool v1 x0] := s26.drop
          refine Ar ⟨s27, ?_⟩
          refine Be (i := 23) rfl (by kernel_rfl) ?_
          refine Bt F (Al rfl) rfl rfl rfl fun _ F => ?_
          have s28 : SL w FF _ [Blk g9 58 [v3], Sl T_opt_item v3 s6.1, Blk g0 99 [v1], Sl Ty.bool v1 x0] := s26.drop
          refine Ar ⟨s28, ?_⟩
          refine Ce (by kernel_rfl) ?_
          obtain rfl := An H
          refine Ac ?_
          exact ⟨g7, F.sub ⟨rfl, rfl, rfl, rfl, rfl, rfl, trivial⟩, s26.f4.f4.f4.f4⟩
         have s29 := s20
         refine As F s29 rfl rfl Fx.sz83 (Ae rfl (Ae rfl (Ae rfl (Ae rfl (Ae rfl (Ae rfl Ba)))))) (Ag rfl) fun wn _ F s2a => ?_
         replace s2a : SL w FF wn [Blk g7 83 [.int .i64 x6.1.in_.At, .int .u8 (x6.1.in_.Op.toNat : Int), .int .i64 x6.1.in_.A, .int .i64 x6.1.in_.B, .int .i64 x6.1.to, .bool x6.1.gone], Blk g9 58 [v3], Sl T_opt_item v3 s6.1, Blk g0 99 [v1], Sl Ty.bool v1 x0] := s2a
         have s2b : SL w FF _ [Blk g9 58 [v3], Sl T_opt_item v3 s6.1, Blk g0 99 [v1], Sl Ty.bool v1 x0] := s2a.drop
         refine Ar ⟨s2b, ?_⟩
         refine Be (i := 20) rfl (by kernel_rfl) ?_
         refine Bt F (Au (v := .bool x6.2) rfl rfl) rfl rfl rfl fun _ F => ?_
         have s2c : SL w FF _ [Blk g9 58 [v3], Sl T_opt_item v3 s6.1, Blk g0 99 [v1], Sl Ty.bool v1 x0] := s2a.drop
         refine Ar ⟨s2c, ?_⟩
         refine Be (i := 23) rfl (by kernel_rfl) ?_
         refine Bt F (Al rfl) rfl rfl rfl fun _ F => ?_
         have s2d : SL w FF _ [Blk g9 58 [v3], Sl T_opt_item v3 s6.1, Blk g0 99 [v1], Sl Ty.bool v1 x0] := s2a.drop
         refine Ar ⟨s2d, ?_⟩
         refine Ce (by kernel_rfl) ?_
         obtain rfl := An H
         refine Ac ?_
         exact ⟨g7, F.sub ⟨rfl, rfl, rfl, rfl, rfl, rfl, trivial⟩, s2a.f4.f4.f4.f4⟩
        refine Bt F (Au (v := .bool x6.2) rfl rfl) rfl rfl rfl fun _ F => ?_
        have s2e : SL w FF _ [Blk g9 58 [v3], Sl T_opt_item v3 s6.1, Blk g0 99 [v1], Sl Ty.bool v1 x0] := s20.drop
        refine Ar ⟨s2e, ?_⟩
        refine Be (i := 19) rfl (by kernel_rfl) ?_
        refine Bt F (Au (v := .agg ⟨[.int .i64 x6.1.in_.At, .int .u8 (x6.1.in_.Op.toNat : Int), .int .i64 x6.1.in_.A, .int .i64 x6.1.in_.B, .int .i64 x6.1.to, .bool x6.1.gone]⟩) rfl rfl) rfl rfl rfl fun _ F => ?_
        have s2f : SL w FF _ [Blk g9 58 [v3], Sl T_opt_item v3 s6.1, Blk g0 99 [v1], Sl Ty.bool v1 x0] := s20.drop
        refine Ar ⟨s2f, ?_⟩
        refine Be (i := 22) rfl (by kernel_rfl) ?_
        have s2g := s20
        refine As F s2g rfl rfl Fx.sz83 (Ae rfl (Ae rfl (Ae rfl (Ae rfl (Ae rfl (Ae rfl Ba)))))) (Ag rfl) fun wo _ F s2h => ?_
        replace s2h : SL w FF wo [Blk g7 83 [.int .i64 x6.1.in_.At, .int .u8 (x6.1.in_.Op.toNat : Int), .int .i64 x6.1.in_.A, .int .i64 x6.1.in_.B, .int .i64 x6.1.to, .bool x6.1.gone], Blk g9 58 [v3], Sl T_opt_item v3 s6.1, Blk g0 99 [v1], Sl Ty.bool v1 x0] := s2h
        have s2i : SL w FF _ [Blk g9 58 [v3], Sl T_opt_item v3 s6.1, Blk g0 99 [v1], Sl Ty.bool v1 x0] := s2h.drop
        refine Ar ⟨s2i, ?_⟩
        refine Be (i := 23) rfl (by kernel_rfl) ?_
        refine Bt F (Al rfl) rfl rfl rfl fun _ F => ?_
        have s2j : SL w FF _ [Blk g9 58 [v3], Sl T_opt_item v3 s6.1, Blk g0 99 [v1], Sl Ty.bool v1 x0] := s2h.drop
        refine Ar ⟨s2j, ?_⟩
        refine Ce (by kernel_rfl) ?_
        obtain rfl := An H
        refine Ac ?_
        exact ⟨g7, F.sub ⟨rfl, rfl, rfl, rfl, rfl, rfl, trivial⟩, s2h.f4.f4.f4.f4⟩
       refine Bo F sc Fx.zero83 rfl rfl fun g8 wp _ F s2k => ?_
       have s2l : SL w FF _ [Blk g9 58 [v3], Sl T_opt_item v3 s6.1, Blk g0 99 [v1], Sl Ty.bool v1 x0] := s2k.drop
       refine Ar ⟨s2l, ?_⟩
       refine Be (i := 17) rfl (by kernel_rfl) ?_
       refine Bk (args := [.tmp 35, .tmp 41, .tmp 47]) F Fx.fn55 rfl (opt_three_c (a0 := (⟨x3.in_.At, x3.in_.Op, x3.in_.A, x3.in_.B⟩ : S_api_Instr)) (a1 := (⟨x4.in_.At, x4.in_.Op, x4.in_.A, x4.in_.B⟩ : S_api_Instr)) (a2 := (⟨x5.in_.At, x5.in_.Op, x5.in_.A, x5.in_.B⟩ : S_api_Instr))    ho) rfl fun v8 wq _ hz F => ?_
       obtain ⟨rfl, h10⟩ := hz
       have s2m := s2k.add h10
       have s2n : SL w FF _ [Blk g9 58 [v3], Sl T_opt_item v3 s6.1, Blk g0 99 [v1], Sl Ty.bool v1 x0] := s2m.drop
       refine Ar ⟨s2n, ?_⟩
       refine Be (i := 18) rfl (by kernel_rfl) ?_
       refine Bt F (Af rfl) rfl rfl rfl fun _ F => ?_
       have s2o : SL w FF _ [Blk g9 58 [v3], Sl T_opt_item v3 s6.1, Blk g0 99 [v1], Sl Ty.bool v1 x0] := s2m.drop
       refine Ar ⟨s2o, ?_⟩
       refine Cl (rs := [19, 20]) (by kernel_rfl) (by decide) (Bs (Br rfl ?_) (Bs (Br rfl ?_) (Co)))
       ·refine Bt F (Au (v := .agg ⟨[.int .i64 x6.1.in_.At, .int .u8 (x6.1.in_.Op.toNat : Int), .int .i64 x6.1.in_.A, .int .i64 x6.1.in_.B, .int .i64 x6.1.to, .bool x6.1.gone]⟩) rfl rfl) rfl rfl rfl fun _ F => ?_
        have s2p : SL w FF _ [Blk g9 58 [v3], Sl T_opt_item v3 s6.1, Blk g0 99 [v1], Sl Ty.bool v1 x0] := s2m.drop
        refine Ar ⟨s2p, ?_⟩
        refine Cl (rs := [20, 22]) (by kernel_rfl) (by decide) (Bs (Br rfl ?_) (Bs (Br rfl ?_) (Co)))
        ·refine Bt F (Au (v := .bool x6.2) rfl rfl) rfl rfl rfl fun _ F => ?_
         have s2q : SL w FF _ [Blk g9 58 [v3], Sl T_opt_item v3 s6.1, Blk g0 99 [v1], Sl Ty.bool v1 x0] := s2m.drop
         refine Ar ⟨s2q, ?_⟩
         refine Be (i := 22) rfl (by kernel_rfl) ?_
         have s2r := s2m
         refine As F s2r rfl rfl Fx.sz83 (Ae rfl (Ae rfl (Ae rfl (Ae rfl (Ae rfl (Ae rfl Ba)))))) (Ag rfl) fun ws _ F s2s => ?_
         replace s2s : SL w FF ws [Blk g8 83 [.int .i64 x6.1.in_.At, .int .u8 (x6.1.in_.Op.toNat : Int), .int .i64 x6.1.in_.A, .int .i64 x6.1.in_.B, .int .i64 x6.1.to, .bool x6.1.gone], Blk g9 58 [v3], Sl T_opt_item v3 s6.1, Blk g0 99 [v1], Sl Ty.bool v1 x0] := s2s
         have s2t : SL w FF _ [Blk g9 58 [v3], Sl T_opt_item v3 s6.1, Blk g0 99 [v1], Sl Ty.bool v1 x0] := s2s.drop
         refine Ar ⟨s2t, ?_⟩
         refine Be (i := 23) rfl (by kernel_rfl) ?_
         refine Bt F (Al rfl) rfl rfl rfl fun _ F => ?_
         have s2u : SL w FF _ [Blk g9 58 [v3], Sl T_opt_item v3 s6.1, Blk g0 99 [v1], Sl Ty.bool v1 x0] := s2s.drop
         refine Ar ⟨s2u, ?_⟩
         refine Ce (by kernel_rfl) ?_
         obtain rfl := An H
         refine Ac ?_
         exact ⟨g8, F.sub ⟨rfl, rfl, rfl, rfl, rfl, rfl, trivial⟩, s2s.f4.f4.f4.f4⟩
        have s2v := s2m
        refine As F s2v rfl rfl Fx.sz83 (Ae rfl (Ae rfl (Ae rfl (Ae rfl (Ae rfl (Ae rfl Ba)))))) (Ag rfl) fun wt _ F s2w => ?_
        replace s2w : SL w FF wt [Blk g8 83 [.int .i64 x6.1.in_.At, .int .u8 (x6.1.in_.Op.toNat : Int), .int .i64 x6.1.in_.A, .int .i64 x6.1.in_.B, .int .i64 x6.1.to, .bool x6.1.gone], Blk g9 58 [v3], Sl T_opt_item v3 s6.1, Blk g0 99 [v1], Sl Ty.bool v1 x0] := s2w
        have s2x : SL w FF _ [Blk g9 58 [v3], Sl T_opt_item v3 s6.1, Blk g0 99 [v1], Sl Ty.bool v1 x0] := s2w.drop
        refine Ar ⟨s2x, ?_⟩
        refine Be (i := 20) rfl (by kernel_rfl) ?_
        refine Bt F (Au (v := .bool x6.2) rfl rfl) rfl rfl rfl fun _ F => ?_
        have s2y : SL w FF _ [Blk g9 58 [v3], Sl T_opt_item v3 s6.1, Blk g0 99 [v1], Sl Ty.bool v1 x0] := s2w.drop
        refine Ar ⟨s2y, ?_⟩
        refine Be (i := 23) rfl (by kernel_rfl) ?_
        refine Bt F (Al rfl) rfl rfl rfl fun _ F => ?_
        have s2z : SL w FF _ [Blk g9 58 [v3], Sl T_opt_item v3 s6.1, Blk g0 99 [v1], Sl Ty.bool v1 x0] := s2w.drop
        refine Ar ⟨s2z, ?_⟩
        refine Ce (by kernel_rfl) ?_
        obtain rfl := An H
        refine Ac ?_
        exact ⟨g8, F.sub ⟨rfl, rfl, rfl, rfl, rfl, rfl, trivial⟩, s2w.f4.f4.f4.f4⟩
       refine Bt F (Au (v := .bool x6.2) rfl rfl) rfl rfl rfl fun _ F => ?_
       have s30 : SL w FF _ [Blk g9 58 [v3], Sl T_opt_item v3 s6.1, Blk g0 99 [v1], Sl Ty.bool v1 x0] := s2m.drop
       refine Ar ⟨s30, ?_⟩
       refine Be (i := 19) rfl (by kernel_rfl) ?_
       refine Bt F (Au (v := .agg ⟨[.int .i64 x6.1.in_.At, .int .u8 (x6.1.in_.Op.toNat : Int), .int .i64 x6.1.in_.A, .int .i64 x6.1.in_.B, .int .i64 x6.1.to, .bool x6.1.gone]⟩) rfl rfl) rfl rfl rfl fun _ F => ?_
       have s31 : SL w FF _ [Blk g9 58 [v3], Sl T_opt_item v3 s6.1, Blk g0 99 [v1], Sl Ty.bool v1 x0] := s2m.drop
       refine Ar ⟨s31, ?_⟩
       refine Be (i := 22) rfl (by kernel_rfl) ?_
       have s32 := s2m
       refine As F s32 rfl rfl Fx.sz83 (Ae rfl (Ae rfl (Ae rfl (Ae rfl (Ae rfl (Ae rfl Ba)))))) (Ag rfl) fun wu _ F s33 => ?_
       replace s33 : SL w FF wu [Blk g8 83 [.int .i64 x6.1.in_.At, .int .u8 (x6.1.in_.Op.toNat : Int), .int .i64 x6.1.in_.A, .int .i64 x6.1.in_.B, .int .i64 x6.1.to, .bool x6.1.gone], Blk g9 58 [v3], Sl T_opt_item v3 s6.1, Blk g0 99 [v1], Sl Ty.bool v1 x0] := s33
       have s34 : SL w FF _ [Blk g9 58 [v3], Sl T_opt_item v3 s6.1, Blk g0 99 [v1], Sl Ty.bool v1 x0] := s33.drop
       refine Ar ⟨s34, ?_⟩
       refine Be (i := 23) rfl (by kernel_rfl) ?_
       refine Bt F (Al rfl) rfl rfl rfl fun _ F => ?_
       have s35 : SL w FF _ [Blk g9 58 [v3], Sl T_opt_item v3 s6.1, Blk g0 99 [v1], Sl Ty.bool v1 x0] := s33.drop
       refine Ar ⟨s35, ?_⟩
       refine Ce (by kernel_rfl) ?_
       obtain rfl := An H
       refine Ac ?_
       exact ⟨g8, F.sub ⟨rfl, rfl, rfl, rfl, rfl, rfl, trivial⟩, s33.f4.f4.f4.f4⟩
      intro _ wv hJ
      obtain ⟨g1, F, s36⟩ := hJ
      have H := R3
      clear R3 H3
      refine Ac <| Ah <| Ak <| Aj F (Aa (Af rfl) <| Ad) fun _ F => Ai <| Ac <| Bm F rfl (fun h11 => ?_) (fun h11 => ?_)
      ·replace H := Bb h11 H
       refine Ah ?_
       obtain ⟨x7, h12, H⟩ := Ap H
       obtain ⟨x8, h13, H⟩ := Ap H
       obtain ⟨x9, h14, H⟩ := Ap H
       refine Dj Fx.mixed (fun w_ => SL w FF w_ [Blk g9 58 [v3], Blk g0 99 [v1], Sl Ty.bool v1 x0, Blk g1 83 [.int .i64 o4.1, .int .u8 (o4.2.1.toNat : Int), .int .i64 o4.2.2.1, .int .i64 o4.2.2.2.1, .int .i64 o4.2.2.2.2.1, .bool o4.2.2.2.2.2.1]]) ?_
       have s37 := s36.drew
       have s38 : SL w FF _ [Blk g9 58 [v3], Blk g0 99 [v1], Sl Ty.bool v1 x0, Blk g1 83 [.int .i64 o4.1, .int .u8 (o4.2.1.toNat : Int), .int .i64 o4.2.2.1, .int .i64 o4.2.2.2.1, .int .i64 o4.2.2.2.2.1, .bool o4.2.2.2.2.2.1]] := s37.f1.drop
       refine Bv (i := 0) rfl (by kernel_rfl) (by kernel_rfl) (by kernel_rfl) (fun _ hC => Az Fx.nag58 rfl (hC.blk_cell (.head _) rfl)) rfl rfl rfl F s38 fun _ F => ?_
       refine Bv (i := 1) rfl (by kernel_rfl) (by kernel_rfl) (by kernel_rfl) (fun _ hC => Af rfl) rfl rfl rfl F s38 fun _ F => ?_
       refine Bv (i := 2) rfl (by kernel_rfl) (by kernel_rfl) (by kernel_rfl) (fun _ hC => Az Fx.nag58 rfl (hC.blk_cell (.head _) rfl)) rfl rfl rfl F s38 fun _ F => ?_
       refine Bv (i := 3) rfl (by kernel_rfl) (by kernel_rfl) (by kernel_rfl) (fun _ hC => Af rfl) rfl rfl rfl F s38 fun _ F => ?_
       refine Bv (i := 4) rfl (by kernel_rfl) (by kernel_rfl) (by kernel_rfl) (fun _ hC => Bq rfl rfl) rfl rfl rfl F s38 fun _ F => ?_
       refine Bv (i := 5) rfl (by kernel_rfl) (by kernel_rfl) (by kernel_rfl) (fun _ hC => Az Fx.nag58 rfl (hC.blk_cell (.head _) rfl)) rfl rfl rfl F s38 fun _ F => ?_
       refine Bv (i := 6) rfl (by kernel_rfl) (by kernel_rfl) (by kernel_rfl) (fun _ hC => Af rfl) rfl rfl rfl F s38 fun _ F => ?_
       refine Bv (i := 7) rfl (by kernel_rfl) (by kernel_rfl) (by kernel_rfl) (fun _ hC => Bq rfl rfl) rfl rfl rfl F s38 fun _ F => ?_
       refine Bv (i := 8) rfl (by kernel_rfl) (by kernel_rfl) (by kernel_rfl) (fun _ hC => Bj Fx.agg83 rfl (hC.blk_cells (.tail _ <| .tail _ <| .tail _ <| .head _) (o := 0) (ds := [.int .i64 o4.1, .int .u8 (o4.2.1.toNat : Int), .int .i64 o4.2.2.1, .int .i64 o4.2.2.2.1, .int .i64 o4.2.2.2.2.1, .bool o4.2.2.2.2.2.1]) (fun j u hu => by rw [Nat.zero_add]; exact hu)) rfl) rfl rfl rfl F s38 fun _ F => ?_
       refine Be (i := 9) rfl (by kernel_rfl) ?_
       obtain ⟨a6, h15, h16⟩ := Ch F_opt_item s37 (.tail _ <| .head _) Fx.sl58 rfl h12
       refine Bt F (h15 _ _ _ _ _ _ _ _ _ _ rfl rfl) rfl rfl rfl fun _ F => ?_
       have s39 : SL w FF _ [Blk g9 58 [v3], Blk g0 99 [v1], Sl Ty.bool v1 x0, Blk g1 83 [.int .i64 o4.1, .int .u8 (o4.2.1.toNat : Int), .int .i64 o4.2.2.1, .int .i64 o4.2.2.2.1, .int .i64 o4.2.2.2.2.1, .bool o4.2.2.2.2.2.1]] := s37.f1.drop
       refine Ar ⟨s39, ?_⟩
       refine Be (i := 10) rfl (by kernel_rfl) ?_
       refine Cx (y' := (⟨(⟨o4.1, o4.2.1, o4.2.2.1, o4.2.2.2.1⟩ : S_api_Instr), o4.2.2.2.2.1, o4.2.2.2.2.2.1⟩ : S_opt_item)) F_opt_item F s37.f1 h16 h12 rfl rfl (by rfl) Fx.sz83 fun ww _ F s3a => ?_
       have s3b : SL w FF _ [Blk g9 58 [v3], Blk g0 99 [v1], Sl Ty.bool v1 x0, Blk g1 83 [.int .i64 o4.1, .int .u8 (o4.2.1.toNat : Int), .int .i64 o4.2.2.1, .int .i64 o4.2.2.2.1, .int .i64 o4.2.2.2.2.1, .bool o4.2.2.2.2.2.1]] := s3a.drop
       refine Ar ⟨s3b, ?_⟩
       refine Be (i := 11) rfl (by kernel_rfl) ?_
       obtain ⟨a7, h17, h18⟩ := Ch F_opt_item s3a (.head _) Fx.sl58 rfl h13
       refine Bt F (h17 _ _ _ _ _ _ _ _ _ _ rfl rfl) rfl rfl rfl fun _ F => ?_
       have s3c : SL w FF _ [Blk g9 58 [v3], Blk g0 99 [v1], Sl Ty.bool v1 x0, Blk g1 83 [.int .i64 o4.1, .int .u8 (o4.2.1.toNat : Int), .int .i64 o4.2.2.1, .int .i64 o4.2.2.2.1, .int .i64 o4.2.2.2.2.1, .bool o4.2.2.2.2.2.1]] := s3a.drop
       refine Ar ⟨s3c, ?_⟩
       refine Be (i := 12) rfl (by kernel_rfl) ?_
       refine Bt F (Cw Fx.fa83_2 rfl) rfl rfl rfl fun _ F => ?_
       have s3d : SL w FF _ [Blk g9 58 [v3], Blk g0 99 [v1], Sl Ty.bool v1 x0, Blk g1 83 [.int .i64 o4.1, .int .u8 (o4.2.1.toNat : Int), .int .i64 o4.2.2.1, .int .i64 o4.2.2.2.1, .int .i64 o4.2.2.2.2.1, .bool o4.2.2.2.2.2.1]] := s3a.drop
       refine Ar ⟨s3d, ?_⟩
       refine Be (i := 13) rfl (by kernel_rfl) ?_
       refine Di (y' := (⟨(⟨x8.in_.At, x8.in_.Op, x8.in_.A, x8.in_.B⟩ : S_api_Instr), x8.to, true⟩ : S_opt_item)) (o := 5) (ds := [.bool true]) F_opt_item F s3a h18 h13 rfl rfl (by rfl) Fx.sz4 (by rfl) (Ae rfl Ba) (by rfl) fun wx _ F s3e => ?_
       have s3f : SL w FF _ [Blk g9 58 [v3], Blk g0 99 [v1], Sl Ty.bool v1 x0, Blk g1 83 [.int .i64 o4.1, .int .u8 (o4.2.1.toNat : Int), .int .i64 o4.2.2.1, .int .i64 o4.2.2.2.1, .int .i64 o4.2.2.2.2.1, .bool o4.2.2.2.2.2.1]] := s3e.drop
       refine Ar ⟨s3f, ?_⟩
       refine Be (i := 14) rfl (by kernel_rfl) ?_
       obtain ⟨a8, h19, h1a⟩ := Ch F_opt_item s3e (.head _) Fx.sl58 rfl h14
       refine Bt F (h19 _ _ _ _ _ _ _ _ _ _ rfl rfl) rfl rfl rfl fun _ F => ?_
       have s3g : SL w FF _ [Blk g9 58 [v3], Blk g0 99 [v1], Sl Ty.bool v1 x0, Blk g1 83 [.int .i64 o4.1, .int .u8 (o4.2.1.toNat : Int), .int .i64 o4.2.2.1, .int .i64 o4.2.2.2.1, .int .i64 o4.2.2.2.2.1, .bool o4.2.2.2.2.2.1]] := s3e.drop
       refine Ar ⟨s3g, ?_⟩
       refine Be (i := 15) rfl (by kernel_rfl) ?_
       refine Bt F (Cw Fx.fa83_2 rfl) rfl rfl rfl fun _ F => ?_
       have s3h : SL w FF _ [Blk g9 58 [v3], Blk g0 99 [v1], Sl Ty.bool v1 x0, Blk g1 83 [.int .i64 o4.1, .int .u8 (o4.2.1.toNat : Int), .int .i64 o4.2.2.1, .int .i64 o4.2.2.2.1, .int .i64 o4.2.2.2.2.1, .bool o4.2.2.2.2.2.1]] := s3e.drop
       refine Ar ⟨s3h, ?_⟩
       refine Be (i := 16) rfl (by kernel_rfl) ?_
       refine Di (y' := (⟨(⟨x9.in_.At, x9.in_.Op, x9.in_.A, x9.in_.B⟩ : S_api_Instr), x9.to, true⟩ : S_opt_item)) (o := 5) (ds := [.bool true]) F_opt_item F s3e h1a h14 rfl rfl (by rfl) Fx.sz4 (by rfl) (Ae rfl Ba) (by rfl) fun wy _ F s3i => ?_
       have s3j : SL w FF _ [Blk g9 58 [v3], Blk g0 99 [v1], Sl Ty.bool v1 x0, Blk g1 83 [.int .i64 o4.1, .int .u8 (o4.2.1.toNat : Int), .int .i64 o4.2.2.1, .int .i64 o4.2.2.2.1, .int .i64 o4.2.2.2.2.1, .bool o4.2.2.2.2.2.1]] := s3i.drop
       refine Ar ⟨s3j, ?_⟩
       refine Be (i := 17) rfl (by kernel_rfl) ?_
       refine Bt F (Al rfl) rfl rfl rfl fun _ F => ?_
       have s3k : SL w FF _ [Blk g9 58 [v3], Blk g0 99 [v1], Sl Ty.bool v1 x0, Blk g1 83 [.int .i64 o4.1, .int .u8 (o4.2.1.toNat : Int), .int .i64 o4.2.2.1, .int .i64 o4.2.2.2.1, .int .i64 o4.2.2.2.2.1, .bool o4.2.2.2.2.2.1]] := s3i.drop
       refine Ar ⟨s3k, ?_⟩
       refine Ce (by kernel_rfl) ?_
       refine Ac <| Ah <| Ak <| Aj F (Aa (Af rfl) <| Aa (Bq rfl rfl) <| Aa (Al rfl) <| Ad) fun _ F => Ai <| Ac <| Ca <| Bp <| Bp <| Cb ?_
       obtain rfl := An H
       replace H := R2
       try dsimp only at H
       obtain rfl := An H
       refine Ac ?_
       exact ⟨v3, F.sub ⟨rfl, rfl, rfl, rfl, trivial⟩, s3i.f4.drop.f3.f3.f3⟩
      replace H := Bc h11 H
      refine Aw ?_
      obtain rfl := An H
      refine Ac ?_
      exact ⟨_, rfl, F.sub ⟨rfl, rfl, rfl, rfl, trivial⟩, s36.f4.drop⟩
     replace H := Bc hk H
     refine Aw ?_
     obtain rfl := An H
     refine Ac ?_
     exact ⟨_, rfl, F.sub ⟨rfl, rfl, rfl, rfl, trivial⟩, sb⟩
    intro _ wz hJ
    obtain ⟨p0, rfl, F, s3l⟩ := hJ
    have H := R2
    clear R2 H2
    try dsimp only at H
    refine Ac <| Ah ?_
    obtain ⟨o5, H4, R4⟩ := Ap H
    clear H
    refine Bx (fun a w_ => ∃ ga : Nat, Fr a 98 [(1, .pointer (some ⟨g9, 0, none⟩)), (5, .bool s6.2.1), (6, clo 54 [.pointer (some ⟨g9, 0, none⟩), .pointer (some ⟨g0, 0, none⟩)]), (7, .int .i64 s6.2.2), (10, .pointer (some ⟨ga, 0, none⟩)), (11, .bool o5.2.2.2.2.2.2)] ∧ SL w FF w_ [Blk g9 58 [v3], Sl T_opt_item v3 s6.1, Blk g0 99 [v1], Sl Ty.bool v1 x0, Blk ga 83 [.int .i64 o5.1, .int .u8 (o5.2.1.toNat : Int), .int .i64 o5.2.2.1, .int .i64 o5.2.2.2.1, .int .i64 o5.2.2.2.2.1, .bool o5.2.2.2.2.2.1]]) ?_ ?_
    ·have H := H4
     obtain ⟨xa, h1b, H⟩ := Ap H
     obtain ⟨xb, h1c, H⟩ := Ap H
     obtain ⟨xc, h1d, H⟩ := Ap H
     refine Dj Fx.mixed (fun w_ => SL w FF w_ [Blk g9 58 [v3], Sl T_opt_item v3 s6.1, Blk g0 99 [v1], Sl Ty.bool v1 x0]) ?_
     have s3m := s3l.drew
     have s3n : SL w FF _ [Blk g9 58 [v3], Sl T_opt_item v3 s6.1, Blk g0 99 [v1], Sl Ty.bool v1 x0] := s3m
     refine Bv (i := 0) rfl (by kernel_rfl) (by kernel_rfl) (by kernel_rfl) (fun _ hC => Az Fx.nag58 rfl (hC.blk_cell (.head _) rfl)) rfl rfl rfl F s3n fun _ F => ?_
     refine Bv (i := 1) rfl (by kernel_rfl) (by kernel_rfl) (by kernel_rfl) (fun _ hC => Af rfl) rfl rfl rfl F s3n fun _ F => ?_
     obtain ⟨a9, h1e, h1f⟩ := idxC (C := fun w_ => SL w FF w_ [Blk g9 58 [v3], Sl T_opt_item v3 s6.1, Blk g0 99 [v1], Sl Ty.bool v1 x0]) F_opt_item (fun _ hC => (hC.own_rd (.tail _ <| .head _))) s3n Fx.sl58 rfl h1b
     refine Bv (i := 2) rfl (by kernel_rfl) (by kernel_rfl) (by kernel_rfl) (fun _ hC => h1e _ _ _ _ _ _ _ _ _ _ rfl rfl) rfl rfl rfl F s3n fun _ F => ?_
     refine Bv (i := 3) rfl (by kernel_rfl) (by kernel_rfl) (by kernel_rfl) (fun _ hC => Cw Fx.fa83_0 rfl) rfl rfl rfl F s3n fun _ F => ?_
     refine Bv (i := 4) rfl (by kernel_rfl) (by kernel_rfl) (by kernel_rfl) (fun _ hC => Bj Fx.agg79 rfl (Cells.sub (h1f _ hC) 0 (ds := [.int .i64 xa.in_.At, .int .u8 (xa.in_.Op.toNat : Int), .int .i64 xa.in_.A, .int .i64 xa.in_.B]) (subcells _ rfl)) rfl) rfl rfl rfl F s3n fun _ F => ?_
     refine Bv (i := 5) rfl (by kernel_rfl) (by kernel_rfl) (by kernel_rfl) (fun _ hC => Az Fx.nag58 rfl (hC.blk_cell (.head _) rfl)) rfl rfl rfl F s3n fun _ F => ?_
     refine Bv (i := 6) rfl (by kernel_rfl) (by kernel_rfl) (by kernel_rfl) (fun _ hC => Af rfl) rfl rfl rfl F s3n fun _ F => ?_
     refine Bv (i := 7) rfl (by kernel_rfl) (by kernel_rfl) (by kernel_rfl) (fun _ hC => Bq rfl rfl) rfl rfl rfl F s3n fun _ F => ?_
     obtain ⟨aa, h1g, h1h⟩ := idxC (C := fun w_ => SL w FF w_ [Blk g9 58 [v3], Sl T_opt_item v3 s6.1, Blk g0 99 [v1], Sl Ty.bool v1 x0]) F_opt_item (fun _ hC => (hC.own_rd (.tail _ <| .head _))) s3n Fx.sl58 rfl h1c
     refine Bv (i := 8) rfl (by kernel_rfl) (by kernel_rfl) (by kernel_rfl) (fun _ hC => h1g _ _ _ _ _ _ _ _ _ _ rfl rfl) rfl rfl rfl F s3n fun _ F => ?_
     refine Bv (i := 9) rfl (by kernel_rfl) (by kernel_rfl) (by kernel_rfl) (fun _ hC => Cw Fx.fa83_0 rfl) rfl rfl rfl F s3n fun _ F => ?_
     refine Bv (i := 10) rfl (by kernel_rfl) (by kernel_rfl) (by kernel_rfl) (fun _ hC => Bj Fx.agg79 rfl (Cells.sub (h1h _ hC) 0 (ds := [.int .i64 xb.in_.At, .int .u8 (xb.in_.Op.toNat : Int), .int .i64 xb.in_.A, .int .i64 xb.in_.B]) (subcells _ rfl)) rfl) rfl rfl rfl F s3n fun _ F => ?_
     refine Cl (rs := [11, 15]) (by kernel_rfl) (by decide) (Bs (Br rfl ?_) (Bs (Br rfl ?_) (Co)))
     ·refine Bk (args := [.tmp 73, .tmp 79]) F Fx.fn56 rfl (opt_two_c (a0 := (⟨xa.in_.At, xa.in_.Op, xa.in_.A, xa.in_.B⟩ : S_api_Instr)) (a1 := (⟨xb.in_.At, xb.in_.Op, xb.in_.A, xb.in_.B⟩ : S_api_Instr))    h1d) rfl fun v9 w11 _ h1i F => ?_
      obtain ⟨rfl, h1j⟩ := h1i
      have s3o := s3m.add h1j
      have s3p : SL w FF _ [Blk g9 58 [v3], Sl T_opt_item v3 s6.1, Blk g0 99 [v1], Sl Ty.bool v1 x0] := s3o
      refine Ar ⟨s3p, ?_⟩
      refine Cl (rs := [12, 15]) (by kernel_rfl) (by decide) (Bs (Br rfl ?_) (Bs (Br rfl ?_) (Co)))
      ·refine Bt F (Af rfl) rfl rfl rfl fun _ F => ?_
       have s3q : SL w FF _ [Blk g9 58 [v3], Sl T_opt_item v3 s6.1, Blk g0 99 [v1], Sl Ty.bool v1 x0] := s3o
       refine Ar ⟨s3q, ?_⟩
       refine Cl (rs := [13, 14, 15]) (by kernel_rfl) (by decide) (Bs (Br rfl ?_) (Bs (Br rfl ?_) (Bs (Br rfl ?_) (Co))))
       ·refine Bt F (Au (v := .agg ⟨[.int .i64 xc.1.in_.At, .int .u8 (xc.1.in_.Op.toNat : Int), .int .i64 xc.1.in_.A, .int .i64 xc.1.in_.B, .int .i64 xc.1.to, .bool xc.1.gone]⟩) rfl rfl) rfl rfl rfl fun _ F => ?_
        have s3r : SL w FF _ [Blk g9 58 [v3], Sl T_opt_item v3 s6.1, Blk g0 99 [v1], Sl Ty.bool v1 x0] := s3o
        refine Ar ⟨s3r, ?_⟩
        refine Cl (rs := [14, 15]) (by kernel_rfl) (by decide) (Bs (Br rfl ?_) (Bs (Br rfl ?_) (Co)))
        ·refine Bt F (Au (v := .bool xc.2) rfl rfl) rfl rfl rfl fun _ F => ?_
         have s3s : SL w FF _ [Blk g9 58 [v3], Sl T_opt_item v3 s6.1, Blk g0 99 [v1], Sl Ty.bool v1 x0] := s3o
         refine Ar ⟨s3s, ?_⟩
         refine Be (i := 15) rfl (by kernel_rfl) ?_
         refine Bo F s3o Fx.zero83 rfl rfl fun gb w12 _ F s3t => ?_
         have s3u : SL w FF _ [Blk g9 58 [v3], Sl T_opt_item v3 s6.1, Blk g0 99 [v1], Sl Ty.bool v1 x0] := s3t.drop
         refine Ar ⟨s3u, ?_⟩
         refine Be (i := 16) rfl (by kernel_rfl) ?_
         have s3v := s3t
         refine As F s3v rfl rfl Fx.sz83 (Ae rfl (Ae rfl (Ae rfl (Ae rfl (Ae rfl (Ae rfl Ba)))))) (Ag rfl) fun w13 _ F s3w => ?_
         replace s3w : SL w FF w13 [Blk gb 83 [.int .i64 xc.1.in_.At, .int .u8 (xc.1.in_.Op.toNat : Int), .int .i64 xc.1.in_.A, .int .i64 xc.1.in_.B, .int .i64 xc.1.to, .bool xc.1.gone], Blk g9 58 [v3], Sl T_opt_item v3 s6.1, Blk g0 99 [v1], Sl Ty.bool v1 x0] := s3w
         have s3x : SL w FF _ [Blk g9 58 [v3], Sl T_opt_item v3 s6.1, Blk g0 99 [v1], Sl Ty.bool v1 x0] := s3w.drop
         refine Ar ⟨s3x, ?_⟩
         refine Be (i := 17) rfl (by kernel_rfl) ?_
         refine Bt F (Al rfl) rfl rfl rfl fun _ F => ?_
         have s3y : SL w FF _ [Blk g9 58 [v3], Sl T_opt_item v3 s6.1, Blk g0 99 [v1], Sl Ty.bool v1 x0] := s3w.drop
         refine Ar ⟨s3y, ?_⟩
         refine Ce (by kernel_rfl) ?_
         obtain rfl := An H
         refine Ac ?_
         exact ⟨gb, F.sub ⟨rfl, rfl, rfl, rfl, rfl, rfl, trivial⟩, s3w.f4.f4.f4.f4⟩
        refine Bo F s3o Fx.zero83 rfl rfl fun gc w14 _ F s3z => ?_
        have s40 : SL w FF _ [Blk g9 58 [v3], Sl T_opt_item v3 s6.1, Blk g0 99 [v1], Sl Ty.bool v1 x0] := s3z.drop
        refine Ar ⟨s40, ?_⟩
        refine Cl (rs := [14, 16]) (by kernel_rfl) (by decide) (Bs (Br rfl ?_) (Bs (Br rfl ?_) (Co)))
        ·refine Bt F (Au (v := .bool xc.2) rfl rfl) rfl rfl rfl fun _ F => ?_
         have s41 : SL w FF _ [Blk g9 58 [v3], Sl T_opt_item v3 s6.1, Blk g0 99 [v1], Sl Ty.bool v1 x0] := s3z.drop
         refine Ar ⟨s41, ?_⟩
         refine Be (i := 16) rfl (by kernel_rfl) ?_
         have s42 := s3z
         refine As F s42 rfl rfl Fx.sz83 (Ae rfl (Ae rfl (Ae rfl (Ae rfl (Ae rfl (Ae rfl Ba)))))) (Ag rfl) fun w15 _ F s43 => ?_
         replace s43 : SL w FF w15 [Blk gc 83 [.int .i64 xc.1.in_.At, .int .u8 (xc.1.in_.Op.toNat : Int), .int .i64 xc.1.in_.A, .int .i64 xc.1.in_.B, .int .i64 xc.1.to, .bool xc.1.gone], Blk g9 58 [v3], Sl T_opt_item v3 s6.1, Blk g0 99 [v1], Sl Ty.bool v1 x0] := s43
         have s44 : SL w FF _ [Blk g9 58 [v3], Sl T_opt_item v3 s6.1, Blk g0 99 [v1], Sl Ty.bool v1 x0] := s43.drop
         refine Ar ⟨s44, ?_⟩
         refine Be (i := 17) rfl (by kernel_rfl) ?_
         refine Bt F (Al rfl) rfl rfl rfl fun _ F => ?_
         have s45 : SL w FF _ [Blk g9 58 [v3], Sl T_opt_item v3 s6.1, Blk g0 99 [v1], Sl Ty.bool v1 x0] := s43.drop
         refine Ar ⟨s45, ?_⟩
         refine Ce (by kernel_rfl) ?_
         obtain rfl := An H
         refine Ac ?_
         exact ⟨gc, F.sub ⟨rfl, rfl, rfl, rfl, rfl, rfl, trivial⟩, s43.f4.f4.f4.f4⟩
        have s46 := s3z
        refine As F s46 rfl rfl Fx.sz83 (Ae rfl (Ae rfl (Ae rfl (Ae rfl (Ae rfl (Ae rfl Ba)))))) (Ag rfl) fun w16 _ F s47 => ?_
        replace s47 : SL w FF w16 [Blk gc 83 [.int .i64 xc.1.in_.At, .int .u8 (xc.1.in_.Op.toNat : Int), .int .i64 xc.1.in_.A, .int .i64 xc.1.in_.B, .int .i64 xc.1.to, .bool xc.1.gone], Blk g9 58 [v3], Sl T_opt_item v3 s6.1, Blk g0 99 [v1], Sl Ty.bool v1 x0] := s47
        have s48 : SL w FF _ [Blk g9 58 [v3], Sl T_opt_item v3 s6.1, Blk g0 99 [v1], Sl Ty.bool v1 x0] := s47.drop
        refine Ar ⟨s48, ?_⟩
        refine Be (i := 14) rfl (by kernel_rfl) ?_
        refine Bt F (Au (v := .bool xc.2) rfl rfl) rfl rfl rfl fun _ F => ?_
        have s49 : SL w FF _ [Blk g9 58 [v3], Sl T_opt_item v3 s6.1, Blk g0 99 [v1], Sl Ty.bool v1 x0] := s47.drop
        refine Ar ⟨s49, ?_⟩
        refine Be (i := 17) rfl (by kernel_rfl) ?_
        refine Bt F (Al rfl) rfl rfl rfl fun _ F => ?_
        have s4a : SL w FF _ [Blk g9 58 [v3], Sl T_opt_item v3 s6.1, Blk g0 99 [v1], Sl Ty.bool v1 x0] := s47.drop
        refine Ar ⟨s4a, ?_⟩
        refine Ce (by kernel_rfl) ?_
        obtain rfl := An H
        refine Ac ?_
        exact ⟨gc, F.sub ⟨rfl, rfl, rfl, rfl, rfl, rfl, trivial⟩, s47.f4.f4.f4.f4⟩
       ·refine Bt F (Au (v := .bool xc.2) rfl rfl) rfl rfl rfl fun _ F => ?_
        have s4b : SL w FF _ [Blk g9 58 [v3], Sl T_opt_item v3 s6.1, Blk g0 99 [v1], Sl Ty.bool v1 x0] := s3o
        refine Ar ⟨s4b, ?_⟩
        refine Cl (rs := [13, 15]) (by kernel_rfl) (by decide) (Bs (Br rfl ?_) (Bs (Br rfl ?_) (Co)))
        ·refine Bt F (Au (v := .agg ⟨[.int .i64 xc.1.in_.At, .int .u8 (xc.1.in_.Op.toNat : Int), .int .i64 xc.1.in_.A, .int .i64 xc.1.in_.B, .int .i64 xc.1.to, .bool xc.1.gone]⟩) rfl rfl) rfl rfl rfl fun _ F => ?_
         have s4c : SL w FF _ [Blk g9 58 [v3], Sl T_opt_item v3 s6.1, Blk g0 99 [v1], Sl Ty.bool v1 x0] := s3o
         refine Ar ⟨s4c, ?_⟩
         refine Be (i := 15) rfl (by kernel_rfl) ?_
         refine Bo F s3o Fx.zero83 rfl rfl fun gd w17 _ F s4d => ?_
         have s4e : SL w FF _ [Blk g9 58 [v3], Sl T_opt_item v3 s6.1, Blk g0 99 [v1], Sl Ty.bool v1 x0] := s4d.drop
         refine Ar ⟨s4e, ?_⟩
         refine Be (i := 16) rfl (by kernel_rfl) ?_
         have s4f := s4d
         refine As F s4f rfl rfl Fx.sz83 (Ae rfl (Ae rfl (Ae rfl (Ae rfl (Ae rfl (Ae rfl Ba)))))) (Ag rfl) fun w18 _ F s4g => ?_
         replace s4g : SL w FF w18 [Blk gd 83 [.int .i64 xc.1.in_.At, .int .u8 (xc.1.in_.Op.toNat : Int), .int .i64 xc.1.in_.A, .int .i64 xc.1.in_.B, .int .i64 xc.1.to, .bool xc.1.gone], Blk g9 58 [v3], Sl T_opt_item v3 s6.1, Blk g0 99 [v1], Sl Ty.bool v1 x0] := s4g
         have s4h : SL w FF _ [Blk g9 58 [v3], Sl T_opt_item v3 s6.1, Blk g0 99 [v1], Sl Ty.bool v1 x0] := s4g.drop
         refine Ar ⟨s4h, ?_⟩
         refine Be (i := 17) rfl (by kernel_rfl) ?_
         refine Bt F (Al rfl) rfl rfl rfl fun _ F => ?_
         have s4i : SL w FF _ [Blk g9 58 [v3], Sl T_opt_item v3 s6.1, Blk g0 99 [v1], Sl Ty.bool v1 x0] := s4g.drop
         refine Ar ⟨s4i, ?_⟩
         refine Ce (by kernel_rfl) ?_
         obtain rfl := An H
         refine Ac ?_
         exact ⟨gd, F.sub ⟨rfl, rfl, rfl, rfl, rfl, rfl, trivial⟩, s4g.f4.f4.f4.f4⟩
        refine Bo F s3o Fx.zero83 rfl rfl fun ge w19 _ F s4j => ?_
        have s4k : SL w FF _ [Blk g9 58 [v3], Sl T_opt_item v3 s6.1, Blk g0 99 [v1], Sl Ty.bool v1 x0] := s4j.drop
        refine Ar ⟨s4k, ?_⟩
        refine Be (i := 13) rfl (by kernel_rfl) ?_
        refine Bt F (Au (v := .agg ⟨[.int .i64 xc.1.in_.At, .int .u8 (xc.1.in_.Op.toNat : Int), .int .i64 xc.1.in_.A, .int .i64 xc.1.in_.B, .int .i64 xc.1.to, .bool xc.1.gone]⟩) rfl rfl) rfl rfl rfl fun _ F => ?_
        have s4l : SL w FF _ [Blk g9 58 [v3], Sl T_opt_item v3 s6.1, Blk g0 99 [v1], Sl Ty.bool v1 x0] := s4j.drop
        refine Ar ⟨s4l, ?_⟩
        refine Be (i := 16) rfl (by kernel_rfl) ?_
        have s4m := s4j
        refine As F s4m rfl rfl Fx.sz83 (Ae rfl (Ae rfl (Ae rfl (Ae rfl (Ae rfl (Ae rfl Ba)))))) (Ag rfl) fun w1a _ F s4n => ?_
        replace s4n : SL w FF w1a [Blk ge 83 [.int .i64 xc.1.in_.At, .int .u8 (xc.1.in_.Op.toNat : Int), .int .i64 xc.1.in_.A, .int .i64 xc.1.in_.B, .int .i64 xc.1.to, .bool xc.1.gone], Blk g9 58 [v3], Sl T_opt_item v3 s6.1, Blk g0 99 [v1], Sl Ty.bool v1 x0] := s4n
        have s4o : SL w FF _ [Blk g9 58 [v3], Sl T_opt_item v3 s6.1, Blk g0 99 [v1], Sl Ty.bool v1 x0] := s4n.drop
        refine Ar ⟨s4o, ?_⟩
        refine Be (i := 17) rfl (by kernel_rfl) ?_
        refine Bt F (Al rfl) rfl rfl rfl fun _ F => ?_
        have s4p : SL w FF _ [Blk g9 58 [v3], Sl T_opt_item v3 s6.1, Blk g0 99 [v1], Sl Ty.bool v1 x0] := s4n.drop
        refine Ar ⟨s4p, ?_⟩
        refine Ce (by kernel_rfl) ?_
        obtain rfl := An H
        refine Ac ?_
        exact ⟨ge, F.sub ⟨rfl, rfl, rfl, rfl, rfl, rfl, trivial⟩, s4n.f4.f4.f4.f4⟩
       refine Bo F s3o Fx.zero83 rfl rfl fun gf w1b _ F s4q => ?_
       have s4r : SL w FF _ [Blk g9 58 [v3], Sl T_opt_item v3 s6.1, Blk g0 99 [v1], Sl Ty.bool v1 x0] := s4q.drop
       refine Ar ⟨s4r, ?_⟩
       refine Cl (rs := [13, 14]) (by kernel_rfl) (by decide) (Bs (Br rfl ?_) (Bs (Br rfl ?_) (Co)))
       ·refine Bt F (Au (v := .agg ⟨[.int .i64 xc.1.in_.At, .int .u8 (xc.1.in_.Op.toNat : Int), .int .i64 xc.1.in_.A, .int .i64 xc.1.in_.B, .int .i64 xc.1.to, .bool xc.1.gone]⟩) rfl rfl) rfl rfl rfl fun _ F => ?_
        have s4s : SL w FF _ [Blk g9 58 [v3], Sl T_opt_item v3 s6.1, Blk g0 99 [v1], Sl Ty.bool v1 x0] := s4q.drop
        refine Ar ⟨s4s, ?_⟩
        refine Cl (rs := [14, 16]) (by kernel_rfl) (by decide) (Bs (Br rfl ?_) (Bs (Br rfl ?_) (Co)))
        ·refine Bt F (Au (v := .bool xc.2) rfl rfl) rfl rfl rfl fun _ F => ?_
         have s4t : SL w FF _ [Blk g9 58 [v3], Sl T_opt_item v3 s6.1, Blk g0 99 [v1], Sl Ty.bool v1 x0] := s4q.drop
         refine Ar ⟨s4t, ?_⟩
         refine Be (i := 16) rfl (by kernel_rfl) ?_
         have s4u := s4q
         refine As F s4u rfl rfl Fx.sz83 (Ae rfl (Ae rfl (Ae rfl (Ae rfl (Ae rfl (Ae rfl Ba)))))) (Ag rfl) fun w1c _ F s4v => ?_
         replace s4v : SL w FF w1c [Blk gf 83 [.int .i64 xc.1.in_.At, .int .u8 (xc.1.in_.Op.toNat : Int), .int .i64 xc.1.in_.A, .int .i64 xc.1.in_.B, .int .i64 xc.1.to, .bool xc.1.gone], Blk g9 58 [v3], Sl T_opt_item v3 s6.1, Blk g0 99 [v1], Sl Ty.bool v1 x0] := s4v
         have s4w : SL w FF _ [Blk g9 58 [v3], Sl T_opt_item v3 s6.1, Blk g0 99 [v1], Sl Ty.bool v1 x0] := s4v.drop
         refine Ar ⟨s4w, ?_⟩
         refine Be (i := 17) rfl (by kernel_rfl) ?_
         refine Bt F (Al rfl) rfl rfl rfl fun _ F => ?_
         have s4x : SL w FF _ [Blk g9 58 [v3], Sl T_opt_item v3 s6.1, Blk g0 99 [v1], Sl Ty.bool v1 x0] := s4v.drop
         refine Ar ⟨s4x, ?_⟩
         refine Ce (by kernel_rfl) ?_
         obtain rfl := An H
         refine Ac ?_
         exact ⟨gf, F.sub ⟨rfl, rfl, rfl, rfl, rfl, rfl, trivial⟩, s4v.f4.f4.f4.f4⟩
        have s4y := s4q
        refine As F s4y rfl rfl Fx.sz83 (Ae rfl (Ae rfl (Ae rfl (Ae rfl (Ae rfl (Ae rfl Ba)))))) (Ag rfl) fun w1d _ F s4z => ?_
        replace s4z : SL w FF w1d [Blk gf 83 [.int .i64 xc.1.in_.At, .int .u8 (xc.1.in_.Op.toNat : Int), .int .i64 xc.1.in_.A, .int .i64 xc.1.in_.B, .int .i64 xc.1.to, .bool xc.1.gone], Blk g9 58 [v3], Sl T_opt_item v3 s6.1, Blk g0 99 [v1], Sl Ty.bool v1 x0] := s4z
        have s51 : SL w FF _ [Blk g9 58 [v3], Sl T_opt_item v3 s6.1, Blk g0 99 [v1], Sl Ty.bool v1 x0] := s4z.drop
        refine Ar ⟨s51, ?_⟩
        refine Be (i := 14) rfl (by kernel_rfl) ?_
        refine Bt F (Au (v := .bool xc.2) rfl rfl) rfl rfl rfl fun _ F => ?_
        have s52 : SL w FF _ [Blk g9 58 [v3], Sl T_opt_item v3 s6.1, Blk g0 99 [v1], Sl Ty.bool v1 x0] := s4z.drop
        refine Ar ⟨s52, ?_⟩
        refine Be (i := 17) rfl (by kernel_rfl) ?_
        refine Bt F (Al rfl) rfl rfl rfl fun _ F => ?_
        have s53 : SL w FF _ [Blk g9 58 [v3], Sl T_opt_item v3 s6.1, Blk g0 99 [v1], Sl Ty.bool v1 x0] := s4z.drop
        refine Ar ⟨s53, ?_⟩
        refine Ce (by kernel_rfl) ?_
        obtain rfl := An H
        refine Ac ?_
        exact ⟨gf, F.sub ⟨rfl, rfl, rfl, rfl, rfl, rfl, trivial⟩, s4z.f4.f4.f4.f4⟩
       refine Bt F (Au (v := .bool xc.2) rfl rfl) rfl rfl rfl fun _ F => ?_
       have s54 : SL w FF _ [Blk g9 58 [v3], Sl T_opt_item v3 s6.1, Blk g0 99 [v1], Sl Ty.bool v1 x0] := s4q.drop
       refine Ar ⟨s54, ?_⟩
       refine Be (i := 13) rfl (by kernel_rfl) ?_
       refine Bt F (Au (v := .agg ⟨[.int .i64 xc.1.in_.At, .int .u8 (xc.1.in_.Op.toNat : Int), .int .i64 xc.1.in_.A, .int .i64 xc.1.in_.B, .int .i64 xc.1.to, .bool xc.1.gone]⟩) rfl rfl) rfl rfl rfl fun _ F => ?_
       have s55 : SL w FF _ [Blk g9 58 [v3], Sl T_opt_item v3 s6.1, Blk g0 99 [v1], Sl Ty.bool v1 x0] := s4q.drop
       refine Ar ⟨s55, ?_⟩
       refine Be (i := 16) rfl (by kernel_rfl) ?_
       have s56 := s4q
       refine As F s56 rfl rfl Fx.sz83 (Ae rfl (Ae rfl (Ae rfl (Ae rfl (Ae rfl (Ae rfl Ba)))))) (Ag rfl) fun w1e _ F s57 => ?_
       replace s57 : SL w FF w1e [Blk gf 83 [.int .i64 xc.1.in_.At, .int .u8 (xc.1.in_.Op.toNat : Int), .int .i64 xc.1.in_.A, .int .i64 xc.1.in_.B, .int .i64 xc.1.to, .bool xc.1.gone], Blk g9 58 [v3], Sl T_opt_item v3 s6.1, Blk g0 99 [v1], Sl Ty.bool v1 x0] := s57
       have s59 : SL w FF _ [Blk g9 58 [v3], Sl T_opt_item v3 s6.1, Blk g0 99 [v1], Sl Ty.bool v1 x0] := s57.drop
       refine Ar ⟨s59, ?_⟩
       refine Be (i := 17) rfl (by kernel_rfl) ?_
       refine Bt F (Al rfl) rfl rfl rfl fun _ F => ?_
       have s5a : SL w FF _ [Blk g9 58 [v3], Sl T_opt_item v3 s6.1, Blk g0 99 [v1], Sl Ty.bool v1 x0] := s57.drop
       refine Ar ⟨s5a, ?_⟩
       refine Ce (by kernel_rfl) ?_
       obtain rfl := An H
       refine Ac ?_
       exact ⟨gf, F.sub ⟨rfl, rfl, rfl, rfl, rfl, rfl, trivial⟩, s57.f4.f4.f4.f4⟩
      refine Bo F s3o Fx.zero83 rfl rfl fun gg w1f _ F s5b => ?_
      have s5c : SL w FF _ [Blk g9 58 [v3], Sl T_opt_item v3 s6.1, Blk g0 99 [v1], Sl Ty.bool v1 x0] := s5b.drop
      refine Ar ⟨s5c, ?_⟩
      refine Be (i := 12) rfl (by kernel_rfl) ?_
      refine Bt F (Af rfl) rfl rfl rfl fun _ F => ?_
      have s5d : SL w FF _ [Blk g9 58 [v3], Sl T_opt_item v3 s6.1, Blk g0 99 [v1], Sl Ty.bool v1 x0] := s5b.drop
      refine Ar ⟨s5d, ?_⟩
      refine Cl (rs := [13, 14]) (by kernel_rfl) (by decide) (Bs (Br rfl ?_) (Bs (Br rfl ?_) (Co)))
      ·refine Bt F (Au (v := .agg ⟨[.int .i64 xc.1.in_.At, .int .u8 (xc.1.in_.Op.toNat : Int), .int .i64 xc.1.in_.A, .int .i64 xc.1.in_.B, .int .i64 xc.1.to, .bool xc.1.gone]⟩) rfl rfl) rfl rfl rfl fun _ F => ?_
       have s5e : SL w FF _ [Blk g9 58 [v3], Sl T_opt_item v3 s6.1, Blk g0 99 [v1], Sl Ty.bool v1 x0] := s5b.drop
       refine Ar ⟨s5e, ?_⟩
       refine Cl (rs := [14, 16]) (by kernel_rfl) (by decide) (Bs (Br rfl ?_) (Bs (Br rfl ?_) (Co)))
       ·refine Bt F (Au (v := .bool xc.2) rfl rfl) rfl rfl rfl fun _ F => ?_
        have s5f : SL w FF _ [Blk g9 58 [v3], Sl T_opt_item v3 s6.1, Blk g0 99 [v1], Sl Ty.bool v1 x0] := s5b.drop
        refine Ar ⟨s5f, ?_⟩
        refine Be (i := 16) rfl (by kernel_rfl) ?_
        have s5g := s5b
        refine As F s5g rfl rfl Fx.sz83 (Ae rfl (Ae rfl (Ae rfl (Ae rfl (Ae rfl (Ae rfl Ba)))))) (Ag rfl) fun w1g _ F s5h => ?_
        replace s5h : SL w FF w1g [Blk gg 83 [.int .i64 xc.1.in_.At, .int .u8 (xc.1.in_.Op.toNat : Int), .int .i64 xc.1.in_.A, .int .i64 xc.1.in_.B, .int .i64 xc.1.to, .bool xc.1.gone], Blk g9 58 [v3], Sl T_opt_item v3 s6.1, Blk g0 99 [v1], Sl Ty.bool v1 x0] := s5h
        have s5i : SL w FF _ [Blk g9 58 [v3], Sl T_opt_item v3 s6.1, Blk g0 99 [v1], Sl Ty.bool v1 x0] := s5h.drop
        refine Ar ⟨s5i, ?_⟩
        refine Be (i := 17) rfl (by kernel_rfl) ?_
        refine Bt F (Al rfl) rfl rfl rfl fun _ F => ?_
        have s5j : SL w FF _ [Blk g9 58 [v3], Sl T_opt_item v3 s6.1, Blk g0 99 [v1], Sl Ty.bool v1 x0] := s5h.drop
        refine Ar ⟨s5j, ?_⟩
        refine Ce (by kernel_rfl) ?_
        obtain rfl := An H
        refine Ac ?_
        exact ⟨gg, F.sub ⟨rfl, rfl, rfl, rfl, rfl, rfl, trivial⟩, s5h.f4.f4.f4.f4⟩
       have s5k := s5b
       refine As F s5k rfl rfl Fx.sz83 (Ae rfl (Ae rfl (Ae rfl (Ae rfl (Ae rfl (Ae rfl Ba)))))) (Ag rfl) fun w1h _ F s5l => ?_
       replace s5l : SL w FF w1h [Blk gg 83 [.int .i64 xc.1.in_.At, .int .u8 (xc.1.in_.Op.toNat : Int), .int .i64 xc.1.in_.A, .int .i64 xc.1.in_.B, .int .i64 xc.1.to, .bool xc.1.gone], Blk g9 58 [v3], Sl T_opt_item v3 s6.1, Blk g0 99 [v1], Sl Ty.bool v1 x0] := s5l
       have s5m : SL w FF _ [Blk g9 58 [v3], Sl T_opt_item v3 s6.1, Blk g0 99 [v1], Sl Ty.bool v1 x0] := s5l.drop
       refine Ar ⟨s5m, ?_⟩
       refine Be (i := 14) rfl (by kernel_rfl) ?_
       refine Bt F (Au (v := .bool xc.2) rfl rfl) rfl rfl rfl fun _ F => ?_
       have s5n : SL w FF _ [Blk g9 58 [v3], Sl T_opt_item v3 s6.1, Blk g0 99 [v1], Sl Ty.bool v1 x0] := s5l.drop
       refine Ar ⟨s5n, ?_⟩
       refine Be (i := 17) rfl (by kernel_rfl) ?_
       refine Bt F (Al rfl) rfl rfl rfl fun _ F => ?_
       have s5o : SL w FF _ [Blk g9 58 [v3], Sl T_opt_item v3 s6.1, Blk g0 99 [v1], Sl Ty.bool v1 x0] := s5l.drop
       refine Ar ⟨s5o, ?_⟩
       refine Ce (by kernel_rfl) ?_
       obtain rfl := An H
       refine Ac ?_
       exact ⟨gg, F.sub ⟨rfl, rfl, rfl, rfl, rfl, rfl, trivial⟩, s5l.f4.f4.f4.f4⟩
      refine Bt F (Au (v := .bool xc.2) rfl rfl) rfl rfl rfl fun _ F => ?_
      have s5p : SL w FF _ [Blk g9 58 [v3], Sl T_opt_item v3 s6.1, Blk g0 99 [v1], Sl Ty.bool v1 x0] := s5b.drop
      refine Ar ⟨s5p, ?_⟩
      refine Be (i := 13) rfl (by kernel_rfl) ?_
      refine Bt F (Au (v := .agg ⟨[.int .i64 xc.1.in_.At, .int .u8 (xc.1.in_.Op.toNat : Int), .int .i64 xc.1.in_.A, .int .i64 xc.1.in_.B, .int .i64 xc.1.to, .bool xc.1.gone]⟩) rfl rfl) rfl rfl rfl fun _ F => ?_
      have s5q : SL w FF _ [Blk g9 58 [v3], Sl T_opt_item v3 s6.1, Blk g0 99 [v1], Sl Ty.bool v1 x0] := s5b.drop
      refine Ar ⟨s5q, ?_⟩
      refine Be (i := 16) rfl (by kernel_rfl) ?_
      have s5r := s5b
      refine As F s5r rfl rfl Fx.sz83 (Ae rfl (Ae rfl (Ae rfl (Ae rfl (Ae rfl (Ae rfl Ba)))))) (Ag rfl) fun w1i _ F s5s => ?_
      replace s5s : SL w FF w1i [Blk gg 83 [.int .i64 xc.1.in_.At, .int .u8 (xc.1.in_.Op.toNat : Int), .int .i64 xc.1.in_.A, .int .i64 xc.1.in_.B, .int .i64 xc.1.to, .bool xc.1.gone], Blk g9 58 [v3], Sl T_opt_item v3 s6.1, Blk g0 99 [v1], Sl Ty.bool v1 x0] := s5s
      have s5t : SL w FF _ [Blk g9 58 [v3], Sl T_opt_item v3 s6.1, Blk g0 99 [v1], Sl Ty.bool v1 x0] := s5s.drop
      refine Ar ⟨s5t, ?_⟩
      refine Be (i := 17) rfl (by kernel_rfl) ?_
      refine Bt F (Al rfl) rfl rfl rfl fun _ F => ?_
      have s5u : SL w FF _ [Blk g9 58 [v3], Sl T_opt_item v3 s6.1, Blk g0 99 [v1], Sl Ty.bool v1 x0] := s5s.drop
      refine Ar ⟨s5u, ?_⟩
      refine Ce (by kernel_rfl) ?_
      obtain rfl := An H
      refine Ac ?_
      exact ⟨gg, F.sub ⟨rfl, rfl, rfl, rfl, rfl, rfl, trivial⟩, s5s.f4.f4.f4.f4⟩
     refine Bo F s3m Fx.zero83 rfl rfl fun gh w1j _ F s5v => ?_
     have s5w : SL w FF _ [Blk g9 58 [v3], Sl T_opt_item v3 s6.1, Blk g0 99 [v1], Sl Ty.bool v1 x0] := s5v.drop
     refine Ar ⟨s5w, ?_⟩
     refine Be (i := 11) rfl (by kernel_rfl) ?_
     refine Bk (args := [.tmp 73, .tmp 79]) F Fx.fn56 rfl (opt_two_c (a0 := (⟨xa.in_.At, xa.in_.Op, xa.in_.A, xa.in_.B⟩ : S_api_Instr)) (a1 := (⟨xb.in_.At, xb.in_.Op, xb.in_.A, xb.in_.B⟩ : S_api_Instr))    h1d) rfl fun va w1k _ h1k F => ?_
     obtain ⟨rfl, h1l⟩ := h1k
     have s5x := s5v.add h1l
     have s5y : SL w FF _ [Blk g9 58 [v3], Sl T_opt_item v3 s6.1, Blk g0 99 [v1], Sl Ty.bool v1 x0] := s5x.drop
     refine Ar ⟨s5y, ?_⟩
     refine Be (i := 12) rfl (by kernel_rfl) ?_
     refine Bt F (Af rfl) rfl rfl rfl fun _ F => ?_
     have s5z : SL w FF _ [Blk g9 58 [v3], Sl T_opt_item v3 s6.1, Blk g0 99 [v1], Sl Ty.bool v1 x0] := s5x.drop
     refine Ar ⟨s5z, ?_⟩
     refine Cl (rs := [13, 14]) (by kernel_rfl) (by decide) (Bs (Br rfl ?_) (Bs (Br rfl ?_) (Co)))
     ·refine Bt F (Au (v := .agg ⟨[.int .i64 xc.1.in_.At, .int .u8 (xc.1.in_.Op.toNat : Int), .int .i64 xc.1.in_.A, .int .i64 xc.1.in_.B, .int .i64 xc.1.to, .bool xc.1.gone]⟩) rfl rfl) rfl rfl rfl fun _ F => ?_
      have s60 : SL w FF _ [Blk g9 58 [v3], Sl T_opt_item v3 s6.1, Blk g0 99 [v1], Sl Ty.bool v1 x0] := s5x.drop
      refine Ar ⟨s60, ?_⟩
      refine Cl (rs := [14, 16]) (by kernel_rfl) (by decide) (Bs (Br rfl ?_) (Bs (Br rfl ?_) (Co)))
      ·refine Bt F (Au (v := .bool xc.2) rfl rfl) rfl rfl rfl fun _ F => ?_
       have s61 : SL w FF _ [Blk g9 58 [v3], Sl T_opt_item v3 s6.1, Blk g0 99 [v1], Sl Ty.bool v1 x0] := s5x.drop
       refine Ar ⟨s61, ?_⟩
       refine Be (i := 16) rfl (by kernel_rfl) ?_
       have s62 := s5x
       refine As F s62 rfl rfl Fx.sz83 (Ae rfl (Ae rfl (Ae rfl (Ae rfl (Ae rfl (Ae rfl Ba)))))) (Ag rfl) fun w1l _ F s65 => ?_
       replace s65 : SL w FF w1l [Blk gh 83 [.int .i64 xc.1.in_.At, .int .u8 (xc.1.in_.Op.toNat : Int), .int .i64 xc.1.in_.A, .int .i64 xc.1.in_.B, .int .i64 xc.1.to, .bool xc.1.gone], Blk g9 58 [v3], Sl T_opt_item v3 s6.1, Blk g0 99 [v1], Sl Ty.bool v1 x0] := s65
       have s66 : SL w FF _ [Blk g9 58 [v3], Sl T_opt_item v3 s6.1, Blk g0 99 [v1], Sl Ty.bool v1 x0] := s65.drop
       refine Ar ⟨s66, ?_⟩
       refine Be (i := 17) rfl (by kernel_rfl) ?_
       refine Bt F (Al rfl) rfl rfl rfl fun _ F => ?_
       have s67 : SL w FF _ [Blk g9 58 [v3], Sl T_opt_item v3 s6.1, Blk g0 99 [v1], Sl Ty.bool v1 x0] := s65.drop
       refine Ar ⟨s67, ?_⟩
       refine Ce (by kernel_rfl) ?_
       obtain rfl := An H
       refine Ac ?_
       exact ⟨gh, F.sub ⟨rfl, rfl, rfl, rfl, rfl, rfl, trivial⟩, s65.f4.f4.f4.f4⟩
      have s68 := s5x
      refine As F s68 rfl rfl Fx.sz83 (Ae rfl (Ae rfl (Ae rfl (Ae rfl (Ae rfl (Ae rfl Ba)))))) (Ag rfl) fun w1m _ F s69 => ?_
      replace s69 : SL w FF w1m [Blk gh 83 [.int .i64 xc.1.in_.At, .int .u8 (xc.1.in_.Op.toNat : Int), .int .i64 xc.1.in_.A, .int .i64 xc.1.in_.B, .int .i64 xc.1.to, .bool xc.1.gone], Blk g9 58 [v3], Sl T_opt_item v3 s6.1, Blk g0 99 [v1], Sl Ty.bool v1 x0] := s69
      have s6a : SL w FF _ [Blk g9 58 [v3], Sl T_opt_item v3 s6.1, Blk g0 99 [v1], Sl Ty.bool v1 x0] := s69.drop
      refine Ar ⟨s6a, ?_⟩
      refine Be (i := 14) rfl (by kernel_rfl) ?_
      refine Bt F (Au (v := .bool xc.2) rfl rfl) rfl rfl rfl fun _ F => ?_
      have s6b : SL w FF _ [Blk g9 58 [v3], Sl T_opt_item v3 s6.1, Blk g0 99 [v1], Sl Ty.bool v1 x0] := s69.drop
      refine Ar ⟨s6b, ?_⟩
      refine Be (i := 17) rfl (by kernel_rfl) ?_
      refine Bt F (Al rfl) rfl rfl rfl fun _ F => ?_
      have s6c : SL w FF _ [Blk g9 58 [v3], Sl T_opt_item v3 s6.1, Blk g0 99 [v1], Sl Ty.bool v1 x0] := s69.drop
      refine Ar ⟨s6c, ?_⟩
      refine Ce (by kernel_rfl) ?_
      obtain rfl := An H
      refine Ac ?_
      exact ⟨gh, F.sub ⟨rfl, rfl, rfl, rfl, rfl, rfl, trivial⟩, s69.f4.f4.f4.f4⟩
     refine Bt F (Au (v := .bool xc.2) rfl rfl) rfl rfl rfl fun _ F => ?_
     have s6d : SL w FF _ [Blk g9 58 [v3], Sl T_opt_item v3 s6.1, Blk g0 99 [v1], Sl Ty.bool v1 x0] := s5x.drop
     refine Ar ⟨s6d, ?_⟩
     refine Be (i := 13) rfl (by kernel_rfl) ?_
     refine Bt F (Au (v := .agg ⟨[.int .i64 xc.1.in_.At, .int .u8 (xc.1.in_.Op.toNat : Int), .int .i64 xc.1.in_.A, .int .i64 xc.1.in_.B, .int .i64 xc.1.to, .bool xc.1.gone]⟩) rfl rfl) rfl rfl rfl fun _ F => ?_
     have s6e : SL w FF _ [Blk g9 58 [v3], Sl T_opt_item v3 s6.1, Blk g0 99 [v1], Sl Ty.bool v1 x0] := s5x.drop
     refine Ar ⟨s6e, ?_⟩
     refine Be (i := 16) rfl (by kernel_rfl) ?_
     have s6f := s5x
     refine As F s6f rfl rfl Fx.sz83 (Ae rfl (Ae rfl (Ae rfl (Ae rfl (Ae rfl (Ae rfl Ba)))))) (Ag rfl) fun w1n _ F s6g => ?_
     replace s6g : SL w FF w1n [Blk gh 83 [.int .i64 xc.1.in_.At, .int .u8 (xc.1.in_.Op.toNat : Int), .int .i64 xc.1.in_.A, .int .i64 xc.1.in_.B, .int .i64 xc.1.to, .bool xc.1.gone], Blk g9 58 [v3], Sl T_opt_item v3 s6.1, Blk g0 99 [v1], Sl Ty.bool v1 x0] := s6g
     have s6h : SL w FF _ [Blk g9 58 [v3], Sl T_opt_item v3 s6.1, Blk g0 99 [v1], Sl Ty.bool v1 x0] := s6g.drop
     refine Ar ⟨s6h, ?_⟩
     refine Be (i := 17) rfl (by kernel_rfl) ?_
     refine Bt F (Al rfl) rfl rfl rfl fun _ F => ?_
     have s6i : SL w FF _ [Blk g9 58 [v3], Sl T_opt_item v3 s6.1, Blk g0 99 [v1], Sl Ty.bool v1 x0] := s6g.drop
     refine Ar ⟨s6i, ?_⟩
     refine Ce (by kernel_rfl) ?_
     obtain rfl := An H
     refine Ac ?_
     exact ⟨gh, F.sub ⟨rfl, rfl, rfl, rfl, rfl, rfl, trivial⟩, s6g.f4.f4.f4.f4⟩
    intro _ w1o hJ
    obtain ⟨ga, F, s6j⟩ := hJ
    have H := R4
    clear R4 H4
    refine Ac <| Ah <| Ak <| Aj F (Aa (Af rfl) <| Ad) fun _ F => Ai <| Ac <| Bm F rfl (fun h1m => ?_) (fun h1m => ?_)
    ·replace H := Bb h1m H
     refine Ah ?_
     obtain ⟨xd, h1n, H⟩ := Ap H
     obtain ⟨xe, h1o, H⟩ := Ap H
     refine Dj Fx.mixed (fun w_ => SL w FF w_ [Blk g9 58 [v3], Blk g0 99 [v1], Sl Ty.bool v1 x0, Blk ga 83 [.int .i64 o5.1, .int .u8 (o5.2.1.toNat : Int), .int .i64 o5.2.2.1, .int .i64 o5.2.2.2.1, .int .i64 o5.2.2.2.2.1, .bool o5.2.2.2.2.2.1]]) ?_
     have s6k := s6j.drew
     have s6l : SL w FF _ [Blk g9 58 [v3], Blk g0 99 [v1], Sl Ty.bool v1 x0, Blk ga 83 [.int .i64 o5.1, .int .u8 (o5.2.1.toNat : Int), .int .i64 o5.2.2.1, .int .i64 o5.2.2.2.1, .int .i64 o5.2.2.2.2.1, .bool o5.2.2.2.2.2.1]] := s6k.f1.drop
     refine Bv (i := 0) rfl (by kernel_rfl) (by kernel_rfl) (by kernel_rfl) (fun _ hC => Az Fx.nag58 rfl (hC.blk_cell (.head _) rfl)) rfl rfl rfl F s6l fun _ F => ?_
     refine Bv (i := 1) rfl (by kernel_rfl) (by kernel_rfl) (by kernel_rfl) (fun _ hC => Af rfl) rfl rfl rfl F s6l fun _ F => ?_
     refine Bv (i := 2) rfl (by kernel_rfl) (by kernel_rfl) (by kernel_rfl) (fun _ hC => Az Fx.nag58 rfl (hC.blk_cell (.head _) rfl)) rfl rfl rfl F s6l fun _ F => ?_
     refine Bv (i := 3) rfl (by kernel_rfl) (by kernel_rfl) (by kernel_rfl) (fun _ hC => Af rfl) rfl rfl rfl F s6l fun _ F => ?_
     refine Bv (i := 4) rfl (by kernel_rfl) (by kernel_rfl) (by kernel_rfl) (fun _ hC => Bq rfl rfl) rfl rfl rfl F s6l fun _ F => ?_
     refine Bv (i := 5) rfl (by kernel_rfl) (by kernel_rfl) (by kernel_rfl) (fun _ hC => Bj Fx.agg83 rfl (hC.blk_cells (.tail _ <| .tail _ <| .tail _ <| .head _) (o := 0) (ds := [.int .i64 o5.1, .int .u8 (o5.2.1.toNat : Int), .int .i64 o5.2.2.1, .int .i64 o5.2.2.2.1, .int .i64 o5.2.2.2.2.1, .bool o5.2.2.2.2.2.1]) (fun j u hu => by rw [Nat.zero_add]; exact hu)) rfl) rfl rfl rfl F s6l fun _ F => ?_
     refine Be (i := 6) rfl (by kernel_rfl) ?_
     obtain ⟨ab, h1p, h1q⟩ := Ch F_opt_item s6k (.tail _ <| .head _) Fx.sl58 rfl h1n
     refine Bt F (h1p _ _ _ _ _ _ _ _ _ _ rfl rfl) rfl rfl rfl fun _ F => ?_
     have s6m : SL w FF _ [Blk g9 58 [v3], Blk g0 99 [v1], Sl Ty.bool v1 x0, Blk ga 83 [.int .i64 o5.1, .int .u8 (o5.2.1.toNat : Int), .int .i64 o5.2.2.1, .int .i64 o5.2.2.2.1, .int .i64 o5.2.2.2.2.1, .bool o5.2.2.2.2.2.1]] := s6k.f1.drop
     refine Ar ⟨s6m, ?_⟩
     refine Be (i := 7) rfl (by kernel_rfl) ?_
     refine Cx (y' := (⟨(⟨o5.1, o5.2.1, o5.2.2.1, o5.2.2.2.1⟩ : S_api_Instr), o5.2.2.2.2.1, o5.2.2.2.2.2.1⟩ : S_opt_item)) F_opt_item F s6k.f1 h1q h1n rfl rfl (by rfl) Fx.sz83 fun w1p _ F s6n => ?_
     have s6o : SL w FF _ [Blk g9 58 [v3], Blk g0 99 [v1], Sl Ty.bool v1 x0, Blk ga 83 [.int .i64 o5.1, .int .u8 (o5.2.1.toNat : Int), .int .i64 o5.2.2.1, .int .i64 o5.2.2.2.1, .int .i64 o5.2.2.2.2.1, .bool o5.2.2.2.2.2.1]] := s6n.drop
     refine Ar ⟨s6o, ?_⟩
     refine Be (i := 8) rfl (by kernel_rfl) ?_
     obtain ⟨ac, h1r, h1s⟩ := Ch F_opt_item s6n (.head _) Fx.sl58 rfl h1o
     refine Bt F (h1r _ _ _ _ _ _ _ _ _ _ rfl rfl) rfl rfl rfl fun _ F => ?_
     have s6p : SL w FF _ [Blk g9 58 [v3], Blk g0 99 [v1], Sl Ty.bool v1 x0, Blk ga 83 [.int .i64 o5.1, .int .u8 (o5.2.1.toNat : Int), .int .i64 o5.2.2.1, .int .i64 o5.2.2.2.1, .int .i64 o5.2.2.2.2.1, .bool o5.2.2.2.2.2.1]] := s6n.drop
     refine Ar ⟨s6p, ?_⟩
     refine Be (i := 9) rfl (by kernel_rfl) ?_
     refine Bt F (Cw Fx.fa83_2 rfl) rfl rfl rfl fun _ F => ?_
     have s6q : SL w FF _ [Blk g9 58 [v3], Blk g0 99 [v1], Sl Ty.bool v1 x0, Blk ga 83 [.int .i64 o5.1, .int .u8 (o5.2.1.toNat : Int), .int .i64 o5.2.2.1, .int .i64 o5.2.2.2.1, .int .i64 o5.2.2.2.2.1, .bool o5.2.2.2.2.2.1]] := s6n.drop
     refine Ar ⟨s6q, ?_⟩
     refine Be (i := 10) rfl (by kernel_rfl) ?_
     refine Di (y' := (⟨(⟨xe.in_.At, xe.in_.Op, xe.in_.A, xe.in_.B⟩ : S_api_Instr), xe.to, true⟩ : S_opt_item)) (o := 5) (ds := [.bool true]) F_opt_item F s6n h1s h1o rfl rfl (by rfl) Fx.sz4 (by rfl) (Ae rfl Ba) (by rfl) fun w1q _ F s6r => ?_
     have s6s : SL w FF _ [Blk g9 58 [v3], Blk g0 99 [v1], Sl Ty.bool v1 x0, Blk ga 83 [.int .i64 o5.1, .int .u8 (o5.2.1.toNat : Int), .int .i64 o5.2.2.1, .int .i64 o5.2.2.2.1, .int .i64 o5.2.2.2.2.1, .bool o5.2.2.2.2.2.1]] := s6r.drop
     refine Ar ⟨s6s, ?_⟩
     refine Be (i := 11) rfl (by kernel_rfl) ?_
     refine Bt F (Al rfl) rfl rfl rfl fun _ F => ?_
     have s6t : SL w FF _ [Blk g9 58 [v3], Blk g0 99 [v1], Sl Ty.bool v1 x0, Blk ga 83 [.int .i64 o5.1, .int .u8 (o5.2.1.toNat : Int), .int .i64 o5.2.2.1, .int .i64 o5.2.2.2.1, .int .i64 o5.2.2.2.2.1, .bool o5.2.2.2.2.2.1]] := s6r.drop
     refine Ar ⟨s6t, ?_⟩
     refine Ce (by kernel_rfl) ?_
     refine Ac <| Ak <| Aj F (Aa (Af rfl) <| Aa (Bq rfl rfl) <| Aa (Al rfl) <| Ad) fun _ F => Ai <| Bz ?_
     obtain rfl := An H
     refine Ac ?_
     exact ⟨v3, F.sub ⟨rfl, rfl, rfl, rfl, trivial⟩, s6r.f4.drop.f3.f3.f3⟩
    replace H := Bc h1m H
    refine Aw <| Bz ?_
    obtain rfl := An H
    refine Ac ?_
    exact ⟨v3, F.sub ⟨rfl, rfl, rfl, rfl, trivial⟩, s6j.f4.drop.f1.f3.f3.f3⟩
   intro _ w1r hJ
   obtain ⟨v4, F, s6u⟩ := hJ
   have H := R1
   clear R1 H1
   refine Ac <| Ak <| Aj F (Aa (Af rfl) <| Aa (Bq rfl rfl) <| Aa (Al rfl) <| Ad) fun _ F => Ai ?_
   obtain rfl := An H
   refine Ac ?_
   exact ⟨_, rfl, v4, F.sub ⟨rfl, rfl, rfl, rfl, trivial⟩, s6u.f3.f1.f3.f3⟩
  replace H := Bc h4 H
  refine Ca <| Bp <| Bp <| Cb ?_
  obtain rfl := An H
  obtain rfl := hr _ rfl
  refine Ac ?_
  exact ⟨v3, F.sub ⟨rfl, rfl, trivial⟩, s7.drop⟩
 intro _ w1s hJ
 obtain ⟨v2, F, s6v⟩ := hJ
 have H := R0
 clear R0 H0
 refine Ac <| Ah <| Ak ?_
 obtain ⟨xf, h1t, H⟩ := Ap H
 refine Aj F (Aa (Az Fx.nag58 rfl (s6v.blk_cell (.tail _ <| .head _) rfl)) <| Ad) fun _ F => Bk (args := [.tmp 95]) F Fx.fn52 rfl (opt_left_c (a0 := o0.1)   (s6v.rd0 (.tail _ <| .tail _ <| .head _)) h1t) rfl fun vb w1t _ h1u F => ?_
 obtain ⟨_, rfl, h1v⟩ := h1u
 have s6w := s6v.add h1v
 refine Aj F (Aa (Af rfl) <| Aa (Al rfl) <| Aa (Al rfl) <| Ad) fun _ F => Ai <| Ac ?_
 obtain rfl := An H
 refine Bd ?_
 refine Av (rs := [.tmp 2, .tmp 3]) (vs := [vb, .bool o0.2]) F (by rfl) ⟨_, _, rfl, Ay rfl, _, _, rfl, Ay rfl, rfl⟩ ⟨_, rfl, ⟨vb, rfl, s6w.f1.drop.f1.drop.f1.drop⟩⟩
-- proviso/opt.sure
theorem opt_sure_c {w : World} {FF : List Nat} {v0 : Value} {a0 : List S_opt_item} {r : (List S_opt_item) × Bool} (hst : Star [Sl T_opt_item v0 a0] w FF)  (H : opt_sure a0 = some r) :
    Calls Tryz.prog 36 #[v0] w (Ret fun u_ w_ => ∃ u0 : Value, u_ = .tuple ⟨[u0, .bool r.2]⟩ ∧ SL w FF w_ [Sl T_opt_item u0 r.1]) := by
 have s0 : SL w FF w [Sl T_opt_item v0 a0] := SL.init w FF hst
 refine Bn Tryz.func36 rfl Tryz.ntmps36 (Ag rfl) (args := [v0]) fun q0 F0 => ?_
 unfold opt_sure at H
 refine Ah <| Ak <| Aj F0 (Aa (Al rfl) <| Aa (Al rfl) <| Ad) fun q3 F4 => Ai <| Ac <| Ah <| Ak ?_
 obtain ⟨x0, h0, H⟩ := Ap H
 refine Aj F4 (Aa (Af rfl) <| Ad) fun _ F => Bk (args := [.tmp 8]) F Fx.fn53 rfl (opt_led_c (a0 := a0)   (s0.rd0 (.head _)) h0) rfl fun v1 w0 _ h1 F => ?_
 obtain ⟨_, rfl, h2⟩ := h1
 have s1 := s0.add h2
 refine Aj F (Aa (Al rfl) <| Ad) fun _ F => Ai <| Ac <| Ah <| Ak <| Aj F (Aa (Al rfl) <| Ad) fun _ F => Ai <| Ac <| Ah <| Ah <| Ak <| Aj F (Aa (Al rfl) <| Ad) fun _ F => Ai <| Ac ?_
 obtain ⟨o0, H0, R0⟩ := Ap H
 clear H
 refine Bx (fun a w_ => ∃ v2 : Value, Fr a 70 [(0, v2), (5, .bool o0.2)] ∧ SL w FF w_ [Sl T_opt_item v2 o0.1]) ?_ ?_
 ·have H := H0
  refine Bh <| Cu (opt_sure_b0 x0) (fun s2 a w_ => ∃ v3 : Value, Fr a 70 [(0, v3), (4, v1), (5, .bool s2.2.1), (6, .int .i64 s2.2.2)] ∧ SL w FF w_ [Sl Ty.bool v1 x0, Sl T_opt_item v3 s2.1]) H ?_ ?_
  ·exact ⟨v0, F.sub ⟨rfl, rfl, rfl, rfl, trivial⟩, s1⟩
  intro s2 _ w1 h3 o1 H hr
  obtain ⟨v3, F, s3⟩ := h3
  replace H : opt_sure_b0 x0 s2 = some o1 := H
  unfold opt_sure_b0 at H
  refine Ah <| Ah <| Ak <| Aj F (Aa (Af rfl) <| Aa (Bq rfl rfl) <| Aa (Af rfl) <| Aa (Cc rfl Tryz.underlying58 (Bu (s3.own_rd (.tail _ <| .head _)))) <| Aa (Cr rfl rfl) <| Ad) fun _ F => Ai <| Ac <| Bm F rfl (fun h4 => ?_) (fun h4 => ?_)
  ·replace H := Bb h4 H
   refine Aw <| Ac <| Ah <| Bh <| Ah <| Ak ?_
   obtain ⟨x1, h5, H⟩ := Ap H
   obtain ⟨a1, h6, h7⟩ := Ch F_opt_item s3 (.tail _ <| .head _) Fx.sl58 rfl h5
   refine Aj F (Aa (Af rfl) <| Aa (Af rfl) <| Aa (Bq rfl rfl) <| Aa (h6 _ _ _ _ _ _ _ _ _ _ rfl rfl) <| Aa (Bj Fx.agg83 rfl (SL.elcells F_opt_item s3 (.tail _ <| .head _) h7 h5) rfl) <| Ad) fun _ F => Bo F s3 Fx.zero83 rfl rfl fun g0 w2 _ F s4 => ?_
   have s5 := s4
   refine As F s5 rfl rfl Fx.sz83 (Ae rfl (Ae rfl (Ae rfl (Ae rfl (Ae rfl (Ae rfl Ba)))))) (Ag rfl) fun w3 _ F s6 => ?_
   replace s6 : SL w FF w3 [Blk g0 83 [.int .i64 x1.in_.At, .int .u8 (x1.in_.Op.toNat : Int), .int .i64 x1.in_.A, .int .i64 x1.in_.B, .int .i64 x1.to, .bool x1.gone], Sl Ty.bool v1 x0, Sl T_opt_item v3 s2.1] := s6
   refine Ai <| Ac <| Ah <| Ah <| Ak ?_
   obtain ⟨x2, h8, H⟩ := Ap H
   obtain ⟨a2, h9, ha⟩ := Ch F_opt_item s6 (.tail _ <| .tail _ <| .head _) Fx.sl58 rfl h8
   refine Aj F (Aa (Af rfl) <| Aa (Af rfl) <| Aa (h9 _ _ _ _ _ _ _ _ _ _ rfl rfl) <| Aa (Cw Fx.fa83_0 rfl) <| Aa (ex_fae Fx.fa79_1 rfl rfl) <| Aa (Az Fx.nag5 rfl (Cells.at_ (SL.elcells F_opt_item s6 (.tail _ <| .tail _ <| .head _) ha h8) (o := 1) rfl)) <| Aa (De rfl rfl) <| Aa (Af rfl) <| Ad) fun _ F => Bl ((x2.in_.Op.toNat : Int) != 2) (fun hb => ?_) (fun hb => ?_)
   ·replace H := Bb hb H
    refine Ao F rfl rfl (Am rfl hb) Ab rfl rfl fun _ F => Ao F rfl rfl (Am rfl hb) Ab rfl rfl fun _ F => Ao F rfl rfl (Am rfl hb) Ab rfl rfl fun _ F => Ao F rfl rfl (Am rfl hb) Ab rfl rfl fun _ F => Aj F (Aa (Bf (By rfl hb) rfl) <| Aa (Af rfl) <| Ad) fun _ F => Ao F rfl rfl rfl Ab rfl rfl fun _ F => Ao F rfl rfl rfl Ab rfl rfl fun _ F => Ao F rfl rfl rfl Ab rfl rfl fun _ F => Ao F rfl rfl rfl Ab rfl rfl fun _ F => Ao F rfl rfl rfl Ab rfl rfl fun _ F => Aj F (Aa (Bf rfl rfl) <| Ad) fun _ F => Ai <| Ac <| Cz F rfl <| Ca <| Bp <| Cb <| Ac <| Ak <| Aj F (Aa (Af rfl) <| Aa (Bq rfl rfl) <| Aa (Al rfl) <| Ad) fun _ F => Ai ?_
    obtain rfl := An H
    refine Ac ?_
    exact ⟨_, rfl, v3, F.sub ⟨rfl, rfl, rfl, rfl, trivial⟩, s6.drop⟩
   replace H := Bc hb H
   refine Aq F rfl rfl (Am rfl hb) (Ax Fx.fa83_0 rfl rfl) rfl rfl fun _ F => Aq F rfl rfl (Am rfl hb) (Ax Fx.fa79_1 rfl rfl) rfl rfl fun _ F => Aq F rfl rfl (Am rfl hb) (Az Fx.nag5 rfl (s6.blk_cell (.head _) rfl)) rfl rfl fun _ F => Aq F rfl rfl (Am rfl hb) (De rfl rfl) rfl rfl fun _ F => Aj F (Aa (Bi (By rfl hb) rfl) <| Aa (Af rfl) <| Ad) fun _ F => Bl ((x1.in_.Op.toNat : Int) != 20) (fun hc => ?_) (fun hc => ?_)
   ·replace H := Bb hc H
    refine Ao F rfl rfl (Am rfl hc) Ab rfl rfl fun _ F => Ao F rfl rfl (Am rfl hc) Ab rfl rfl fun _ F => Ao F rfl rfl (Am rfl hc) Ab rfl rfl fun _ F => Ao F rfl rfl (Am rfl hc) Ab rfl rfl fun _ F => Ao F rfl rfl (Am rfl hc) Ab rfl rfl fun _ F => Aj F (Aa (Bf (By rfl hc) rfl) <| Ad) fun _ F => Ai <| Ac <| Cz F rfl <| Ca <| Bp <| Cb <| Ac <| Ak <| Aj F (Aa (Af rfl) <| Aa (Bq rfl rfl) <| Aa (Al rfl) <| Ad) fun _ F => Ai ?_
    obtain rfl := An H
    refine Ac ?_
    exact ⟨_, rfl, v3, F.sub ⟨rfl, rfl, rfl, rfl, trivial⟩, s6.drop⟩
   replace H := Bc hc H
   refine Aq F rfl rfl (Am rfl hc) (Af rfl) rfl rfl fun _ F => Aq F rfl rfl (Am rfl hc) (Af rfl) rfl rfl fun _ F => Aq F rfl rfl (Am rfl hc) (Bq rfl rfl) rfl rfl fun _ F => ?_
   obtain ⟨x3, hd, H⟩ := Ap H
   obtain ⟨a3, he, hf⟩ := Ch Flat.bool s6 (.tail _ <| .head _) Fx.sl99 rfl hd
   refine Aq F rfl rfl (Am rfl hc) (he _ _ _ _ _ _ _ _ _ _ rfl rfl) rfl rfl fun _ F => Aq F rfl rfl (Am rfl hc) (Az Fx.nag4 rfl (Cells.at_ (SL.elcells Flat.bool s6 (.tail _ <| .head _) hf hd) (o := 0) rfl)) rfl rfl fun _ F => Aj F (Aa (Bi (By rfl hc) rfl) <| Ad) fun _ F => Ai <| Ac <| Bm F rfl (fun hg => ?_) (fun hg => ?_)
   ·replace H := Bb hg H
    refine Ca <| Bp <| Cb <| Ac <| Ak <| Aj F (Aa (Af rfl) <| Aa (Bq rfl rfl) <| Aa (Al rfl) <| Ad) fun _ F => Ai ?_
    obtain rfl := An H
    refine Ac ?_
    exact ⟨_, rfl, v3, F.sub ⟨rfl, rfl, rfl, rfl, trivial⟩, s6.drop⟩
   replace H := Bc hg H
   refine Aw <| Ac <| Ah <| Ah <| Ak ?_
   obtain ⟨x4, hh, H⟩ := Ap H
   obtain ⟨a4, hi, hj⟩ := Ch F_opt_item s6 (.tail _ <| .tail _ <| .head _) Fx.sl58 rfl hh
   refine Aj F (Aa (Af rfl) <| Aa (Af rfl) <| Aa (hi _ _ _ _ _ _ _ _ _ _ rfl rfl) <| Aa (Cw Fx.fa83_0 rfl) <| Aa (ex_fae Fx.fa79_2 rfl rfl) <| Aa (Az Fx.nag3 rfl (Cells.at_ (SL.elcells F_opt_item s6 (.tail _ <| .tail _ <| .head _) hj hh) (o := 2) rfl)) <| Aa (Bw rfl rfl) <| Ad) fun _ F => Ai <| Ac <| Bm F rfl (fun hk => ?_) (fun hk => ?_)
   ·replace H := Bb hk H
    refine Ak ?_
    obtain ⟨x5, hl, H⟩ := Ap H
    obtain ⟨a5, hm, hn⟩ := Ch F_opt_item s6 (.tail _ <| .tail _ <| .head _) Fx.sl58 rfl hl
    refine Aj F (Aa (Af rfl) <| Aa (Af rfl) <| Aa (Cn (vs := [.int .u8 19]) Fx.zero79 Fx.pl79 rfl (cs := [.int .i64 0, .int .u8 19, .int .i64 0, .int .i64 0]) (rfl)) <| Aa (Ax Fx.fa83_1 rfl rfl) <| Aa (Az Fx.nag3 rfl (s6.blk_cell (.head _) rfl)) <| Aa (Cn (vs := [.agg ⟨[.int .i64 0, .int .u8 19, .int .i64 0, .int .i64 0]⟩, .int .i64 x1.to]) Fx.zero83 Fx.pl83 rfl (cs := [.int .i64 0, .int .u8 19, .int .i64 0, .int .i64 0, .int .i64 x1.to, .bool false]) (rfl)) <| Aa (hm _ _ _ _ _ _ _ _ _ _ rfl rfl) <| Ad) fun _ F => ?_
    refine Cx (y' := (⟨(⟨0, 19, 0, 0⟩ : S_api_Instr), x1.to, false⟩ : S_opt_item)) F_opt_item F s6.f2 hn hl rfl rfl (by rfl) Fx.sz83 fun w4 _ F s7 => ?_
    refine Ai <| Ac <| Ah <| Ak ?_
    obtain ⟨x6, ho, H⟩ := Ap H
    obtain ⟨a6, hp, hq⟩ := Ch F_opt_item s7 (.head _) Fx.sl58 rfl ho
    refine Aj F (Aa (Af rfl) <| Aa (Af rfl) <| Aa (Bq rfl rfl) <| Aa (hp _ _ _ _ _ _ _ _ _ _ rfl rfl) <| Aa (Cw Fx.fa83_2 rfl) <| Ad) fun _ F => ?_
    refine Di (y' := (⟨(⟨x6.in_.At, x6.in_.Op, x6.in_.A, x6.in_.B⟩ : S_api_Instr), x6.to, true⟩ : S_opt_item)) (o := 5) (ds := [.bool true]) F_opt_item F s7 hq ho rfl rfl (by rfl) Fx.sz4 (by rfl) (Ae rfl Ba) (by rfl) fun w5 _ F s8 => ?_
    refine Aj F (Aa (Al rfl) <| Ad) fun _ F => Ai <| Ac <| Ak <| Aj F (Aa (Af rfl) <| Aa (Bq rfl rfl) <| Aa (Al rfl) <| Ad) fun _ F => Ai <| Bz <| Ac <| Ak <| Aj F (Aa (Af rfl) <| Aa (Bq rfl rfl) <| Aa (Al rfl) <| Ad) fun _ F => Ai ?_
    obtain rfl := An H
    refine Ac ?_
    exact ⟨_, rfl, v3, F.sub ⟨rfl, rfl, rfl, rfl, trivial⟩, s8.f1.drop.f1⟩
   replace H := Bc hk H
   refine Ak ?_
   obtain ⟨x7, hs, H⟩ := Ap H
   obtain ⟨a7, ht, hu⟩ := Ch F_opt_item s6 (.tail _ <| .tail _ <| .head _) Fx.sl58 rfl hs
   refine Aj F (Aa (Af rfl) <| Aa (Af rfl) <| Aa (ht _ _ _ _ _ _ _ _ _ _ rfl rfl) <| Aa (Cw Fx.fa83_2 rfl) <| Ad) fun _ F => ?_
   refine Di (y' := (⟨(⟨x7.in_.At, x7.in_.Op, x7.in_.A, x7.in_.B⟩ : S_api_Instr), x7.to, true⟩ : S_opt_item)) (o := 5) (ds := [.bool true]) F_opt_item F s6.f2 hu hs rfl rfl (by rfl) Fx.sz4 (by rfl) (Ae rfl Ba) (by rfl) fun w6 _ F s9 => ?_
   refine Ai <| Ac <| Ah <| Ak ?_
   obtain ⟨x8, hv, H⟩ := Ap H
   obtain ⟨a8, hw, hx⟩ := Ch F_opt_item s9 (.head _) Fx.sl58 rfl hv
   refine Aj F (Aa (Af rfl) <| Aa (Af rfl) <| Aa (Bq rfl rfl) <| Aa (hw _ _ _ _ _ _ _ _ _ _ rfl rfl) <| Aa (Cw Fx.fa83_2 rfl) <| Ad) fun _ F => ?_
   refine Di (y' := (⟨(⟨x8.in_.At, x8.in_.Op, x8.in_.A, x8.in_.B⟩ : S_api_Instr), x8.to, true⟩ : S_opt_item)) (o := 5) (ds := [.bool true]) F_opt_item F s9 hx hv rfl rfl (by rfl) Fx.sz4 (by rfl) (Ae rfl Ba) (by rfl) fun w7 _ F sa => ?_
   refine Aj F (Aa (Al rfl) <| Ad) fun _ F => Ai <| Ac <| Ak <| Aj F (Aa (Af rfl) <| Aa (Bq rfl rfl) <| Aa (Al rfl) <| Ad) fun _ F => Ai <| Bz <| Ac <| Ak <| Aj F (Aa (Af rfl) <| Aa (Bq rfl rfl) <| Aa (Al rfl) <| Ad) fun _ F => Ai ?_
   obtain rfl := An H
   refine Ac ?_
   exact ⟨_, rfl, v3, F.sub ⟨rfl, rfl, rfl, rfl, trivial⟩, sa.f1.drop.f1⟩
  replace H := Bc h4 H
  refine Ca <| Bp <| Bp <| Cb ?_
  obtain rfl := An H
  obtain rfl := hr _ rfl
  refine Ac ?_
  exact ⟨v3, F.sub ⟨rfl, rfl, trivial⟩, s3.drop⟩
 intro _ w8 hJ
 obtain ⟨v2, F, sb⟩ := hJ
 have H := R0
 clear R0 H0
 refine Ac <| Ah <| Ak ?_
 obtain ⟨x9, hy, H⟩ := Ap H
 refine Aj F (Aa (Af rfl) <| Ad) fun _ F => Bk (args := [.tmp 67]) F Fx.fn52 rfl (opt_left_c (a0 := o0.1)   (sb.rd0 (.head _)) hy) rfl fun v4 w9 _ hz F => ?_
 obtain ⟨_, rfl, h10⟩ := hz
 have sc := sb.add h10
 refine Aj F (Aa (Af rfl) <| Aa (Al rfl) <| Aa (Al rfl) <| Ad) fun _ F => Ai <| Ac ?_
 obtain rfl := An H
 refine Bd ?_
 refine Av (rs := [.tmp 2, .tmp 3]) (vs := [v4, .bool o0.2]) F (by rfl) ⟨_, _, rfl, Ay rfl, _, _, rfl, Ay rfl, rfl⟩ ⟨_, rfl, ⟨v4, rfl, sc.f1.drop⟩⟩
-- proviso/opt.Func
theorem opt_Func_c {w : World} {v0_1 v0_4 : Value} {a0 : S_api_Func} {r : S_api_Func × Int} (hr0_1 : Rd Ty.u8 w [] v0_1 a0.Sig.Params) (hr0_4 : Rd Ty.u8 w [] v0_4 a0.Code) (H : opt_Func a0 = some r) :
    Calls Tryz.prog 12 #[.agg ⟨[.string ⟨⟨a0.Name⟩⟩, v0_1, .int .u8 (a0.Sig.Result.toNat : Int), .int .i64 a0.Locals, v0_4]⟩] w (Ret fun u_ w_ => ∃ u0 u1 : Value, u_ = .tuple ⟨[.agg ⟨[.string ⟨⟨r.1.Name⟩⟩, u0, .int .u8 (r.1.Sig.Result.toNat : Int), .int .i64 r.1.Locals, u1]⟩, .int .i64 r.2]⟩ ∧ SL w [] w_ [Sl Ty.u8 u0 r.1.Sig.Params, Sl Ty.u8 u1 r.1.Code]) := by
 have s0 : SL w [] w [] := SL.init0 w
 refine Bn Tryz.func12 rfl Tryz.ntmps12 (Ag rfl) (args := [.agg ⟨[.string ⟨⟨a0.Name⟩⟩, v0_1, .int .u8 (a0.Sig.Result.toNat : Int), .int .i64 a0.Locals, v0_4]⟩]) fun q0 F0 => ?_
 unfold opt_Func at H
 refine Ah <| Ak <| Db F0 s0 rfl rfl rfl fun g0 w0 _ F s1 => Bo F s1 Fx.zero40 rfl rfl fun g1 w1 _ F s2 => Aj F (Aa (Al rfl) <| Ad) fun _ F => Ai <| Ac <| wp_scope_fwd 0 rfl <| Ah <| Ak ?_
 obtain ⟨x0, h0, H⟩ := Ap H
 refine Aj F (Aa (Ax Fx.fa40_3 rfl rfl) <| Aa (Az Fx.nag38 rfl (s2.blk_cell (.tail _ <| .head _) rfl)) <| Ad) fun _ F => Bk (args := [.tmp 16]) F Fx.fn19 rfl (flow_Check_c (a0 := a0.Code)   (hr0_4.pass0 s2) h0) rfl fun v0 w2 _ h1 F => ?_
 obtain ⟨rfl, h2⟩ := h1
 have s3 := s2.add h2
 refine Aj F (Aa (Af rfl) <| Aa (Au (v := .int .i64 x0.1) rfl rfl) <| Aa (Au (v := .int .i64 x0.2) rfl rfl) <| Aa (Al rfl) <| Aa (Al rfl) <| Ad) fun _ F => Ai <| Ac <| Ah <| Ah <| Ak <| Aj F (Aa (Af rfl) <| Aa (De rfl rfl) <| Ad) fun _ F => Ai <| Ac <| Bm F rfl (fun h3 => ?_) (fun h3 => ?_)
 ·replace H := Bb h3 H
  refine Ah <| Ak <| Aj F (Aa (Cn (vs := []) Fx.zero40 Fx.pl40 rfl (cs := [.string ⟨⟨[]⟩⟩, .slice none 0 0, .int .u8 0, .int .i64 0, .slice none 0 0]) (rfl)) <| Aa (Af rfl) <| Ad) fun _ F => ?_
  have s4 := s3
  refine As F s4 rfl rfl Fx.sz40 (Ae rfl (Ae rfl (Ae rfl (Ae rfl (Ae rfl Ba))))) (Ag rfl) fun w3 _ F s5 => ?_
  replace s5 : SL w [] w3 [Blk g1 40 [.string ⟨⟨[]⟩⟩, .slice none 0 0, .int .u8 0, .int .i64 0, .slice none 0 0], Blk g0 40 [.string ⟨⟨a0.Name⟩⟩, v0_1, .int .u8 (a0.Sig.Result.toNat : Int), .int .i64 a0.Locals, v0_4]] := s5
  refine Aj F (Aa (Al rfl) <| Ad) fun _ F => Ai <| Ac ?_
  obtain rfl := An H
  refine Bd <| Bg <| jmp_r ?_
  refine Av (rs := [.cell 2 40, .tmp 3]) (vs := [.agg ⟨[.string ⟨⟨[]⟩⟩, .slice none 0 0, .int .u8 0, .int .i64 0, .slice none 0 0]⟩, .int .i64 x0.2]) F (by rfl) ⟨_, _, rfl, Cj s5 (.head _) rfl Fx.agg40 rfl, _, _, rfl, Ay rfl, rfl⟩ ⟨_, rfl, ⟨(.slice none 0 0), (.slice none 0 0), rfl, (SL.nilSl (T := Ty.u8) (SL.nilSl (T := Ty.u8) s5)).f2.drop.f2.drop.f1⟩⟩
 replace H := Bc h3 H
 refine Aw <| Ac <| Ah <| Ak ?_
 obtain ⟨x1, h4, H⟩ := Ap H
 refine Aj F (Aa (Ax Fx.fa40_3 rfl rfl) <| Aa (Az Fx.nag38 rfl (s3.blk_cell (.tail _ <| .head _) rfl)) <| Ad) fun _ F => Bk (args := [.tmp 25]) F Fx.fn20 rfl (opt_items_c (a0 := a0.Code)   (hr0_4.pass0 s3) h4) rfl fun v1 w4 _ h5 F => ?_
 obtain ⟨_, rfl, h6⟩ := h5
 have s6 := s3.add h6
 refine Aj F (Aa (Al rfl) <| Ad) fun _ F => Ai <| Ac <| Ah <| wp_label <| Ac <| Ah ?_
 obtain ⟨o0, H0, R0⟩ := Ap H
 clear H
 refine Bx (fun a w_ => ∃ v2 : Value, Fr a 67 [(1, .pointer (some ⟨g0, 0, none⟩)), (2, .pointer (some ⟨g1, 0, none⟩)), (6, v2)] ∧ SL w [] w_ [Blk g1 40 [.string ⟨⟨[]⟩⟩, .slice none 0 0, .int .u8 0, .int .i64 0, .slice none 0 0], Blk g0 40 [.string ⟨⟨a0.Name⟩⟩, v0_1, .int .u8 (a0.Sig.Result.toNat : Int), .int .i64 a0.Locals, v0_4], Sl T_opt_item v2 o0]) ?_ ?_
 ·have H := H0
  refine Bh <| Cu (opt_Func_b0) (fun s7 a w_ => ∃ v3 : Value, Fr a 67 [(1, .pointer (some ⟨g0, 0, none⟩)), (2, .pointer (some ⟨g1, 0, none⟩)), (6, v3)] ∧ SL w [] w_ [Blk g1 40 [.string ⟨⟨[]⟩⟩, .slice none 0 0, .int .u8 0, .int .i64 0, .slice none 0 0], Blk g0 40 [.string ⟨⟨a0.Name⟩⟩, v0_1, .int .u8 (a0.Sig.Result.toNat : Int), .int .i64 a0.Locals, v0_4], Sl T_opt_item v3 s7]) H ?_ ?_
  ·exact ⟨v1, F.sub ⟨rfl, rfl, rfl, trivial⟩, s6.f2.f2⟩
  intro s7 _ w5 h7 o1 H hr
  obtain ⟨v3, F, s8⟩ := h7
  replace H : opt_Func_b0 s7 = some o1 := H
  unfold opt_Func_b0 at H
  refine Bh <| Ah <| Ak <| Aj F (Aa (Al rfl) <| Ad) fun _ F => Ai <| Ac <| Ah <| Ah <| Ak ?_
  obtain ⟨x2, h8, H⟩ := Ap H
  refine Bk (args := []) F Fx.fn21 rfl (opt_rules_c     h8) rfl fun v4 w6 _ h9 F => ?_
  obtain ⟨g2, rfl, ha⟩ := h9
  have s9 := s8.add ha
  refine Aj F (Aa (Cc rfl Tryz.underlying60 ⟨_, _, rfl⟩) <| Aa (Af rfl) <| Ad) fun _ F => Ai <| Ac <| Bh <| wp_loop_rounds 6 <| rounds_step <| Ah <| Ak <| Aj F (Aa (Cr rfl rfl) <| Ad) fun _ F => Ai <| Ac <| Ah <| Cz F rfl <| Aw <| Ac <| Ah <| Bh <| Ah <| Ak ?_
  refine Aj F (Aa (ex_ixlit Fx.sl60 rfl rfl (by decide)) <| Aa (Az Fx.nag63 rfl (s9.blk_cell (.head _) rfl)) <| Aa (Al rfl) <| Ad) fun _ F => ?_
  refine Ai <| Ac <| Ah <| Ak ?_
  obtain ⟨x3, hb, H⟩ := Ap H
  refine Aj F (Aa (Af rfl) <| Aa (Af rfl) <| Ad) fun _ F => ?_
  refine st_callf (args := [.tmp 35]) F Fx.fn32 rfl rfl (opt_threads_c (a0 := s7)   (s9.rd0 (.tail _ <| .tail _ <| .tail _ <| .head _)) hb) rfl fun v5 w7 _ hc F => ?_
  obtain ⟨v6, rfl, hd⟩ := hc
  have sa := s9.add hd
  refine Aj F (Aa (Af rfl) <| Aa (Au (v := v6) rfl rfl) <| Aa (Au (v := .bool x3.2) rfl rfl) <| Aa (Al rfl) <| Aa (Al rfl) <| Ad) fun _ F => Ai <| Ac <| Ak <| Aj F (Aa (Af rfl) <| Aa (Af rfl) <| Aa (Af rfl) <| Ad) fun _ F => Aq F rfl rfl rfl (Af rfl) rfl rfl fun _ F => Aj F (Aa (Bi rfl rfl) <| Aa (Al rfl) <| Aa (Al rfl) <| Ad) fun _ F => Ai <| Bz <| Ac <| Ak <| Aj F (Aa (Bq rfl rfl) <| Aa (Af rfl) <| Ad) fun _ F => Ai <| Ac <| rounds_step <| Ah <| Ak <| Aj F (Aa (Cr rfl rfl) <| Ad) fun _ F => Ai <| Ac <| Ah <| Cz F rfl <| Aw <| Ac <| Ah ?_
  obtain ⟨o2, H1, R1⟩ := Ap H
  clear H
  refine Bx (fun a w_ => ∃ v7 : Value, Fr a 67 [(1, .pointer (some ⟨g0, 0, none⟩)), (2, .pointer (some ⟨g1, 0, none⟩)), (6, v7), (7, .bool o2.2), (27, .slice (some ⟨g2, 0, none⟩) 5 5), (28, .int .i64 ((5 : Nat) : Int)), (29, .int .i64 1)] ∧ SL w [] w_ [Blk g2 63 [clo 32 [], clo 33 [], clo 34 [], clo 35 [], clo 36 []], Blk g1 40 [.string ⟨⟨[]⟩⟩, .slice none 0 0, .int .u8 0, .int .i64 0, .slice none 0 0], Blk g0 40 [.string ⟨⟨a0.Name⟩⟩, v0_1, .int .u8 (a0.Sig.Result.toNat : Int), .int .i64 a0.Locals, v0_4], Sl T_opt_item v7 o2.1]) ?_ ?_
  ·have H := H1
   refine Bh <| Ah <| Ak ?_
   refine Aj F (Aa (ex_ixlit Fx.sl60 rfl rfl (by decide)) <| Aa (Az Fx.nag63 rfl (sa.blk_cell (.tail _ <| .head _) rfl)) <| Aa (Al rfl) <| Ad) fun _ F => ?_
   refine Ai <| Ac <| Ah <| Ak ?_
   obtain ⟨x4, he, H⟩ := Ap H
   refine Aj F (Aa (Af rfl) <| Aa (Af rfl) <| Ad) fun _ F => ?_
   have sb := sa
   obtain ⟨G0, hf, hg, hh, hi⟩ := SL.open_ (ps := [Sl T_opt_item v6 x3.1]) (rest := [Blk g2 63 [clo 32 [], clo 33 [], clo 34 [], clo 35 [], clo 36 []], Blk g1 40 [.string ⟨⟨[]⟩⟩, .slice none 0 0, .int .u8 0, .int .i64 0, .slice none 0 0], Blk g0 40 [.string ⟨⟨a0.Name⟩⟩, v0_1, .int .u8 (a0.Sig.Result.toNat : Int), .int .i64 a0.Locals, v0_4], Sl T_opt_item v3 s7]) sb
   refine st_callf (args := [.tmp 35]) F Fx.fn33 rfl rfl (opt_dead_c (a0 := x3.1) hf   he) rfl fun v8 w8 _ hj F => ?_
   obtain ⟨v9, rfl, hk⟩ := hj
   have sc := hi _ _ hk
   refine Aj F (Aa (Af rfl) <| Aa (Au (v := v9) rfl rfl) <| Aa (Au (v := .bool x4.2) rfl rfl) <| Aa (Al rfl) <| Aa (Al rfl) <| Ad) fun _ F => Ai <| Ac <| Ak <| Aj F (Aa (Af rfl) <| Aa (Af rfl) <| Aa (Af rfl) <| Ad) fun _ F => Bl x3.2 (fun hl => ?_) (fun hl => ?_)
   ·replace H := Bb hl H
    refine Ao F rfl rfl (Am rfl hl) Ab rfl rfl fun _ F => Aj F (Aa (Bf (By rfl hl) rfl) <| Aa (Al rfl) <| Aa (Al rfl) <| Ad) fun _ F => Ai <| Bz ?_
    obtain rfl := An H
    refine Ac ?_
    exact ⟨v9, F.sub ⟨rfl, rfl, rfl, rfl, rfl, rfl, rfl, trivial⟩, sc.f4.drop.f3.f3.f3⟩
   replace H := Bc hl H
   refine Aq F rfl rfl (Am rfl hl) (Af rfl) rfl rfl fun _ F => Aj F (Aa (Bi (By rfl hl) rfl) <| Aa (Al rfl) <| Aa (Al rfl) <| Ad) fun _ F => Ai <| Bz ?_
   obtain rfl := An H
   refine Ac ?_
   exact ⟨v9, F.sub ⟨rfl, rfl, rfl, rfl, rfl, rfl, rfl, trivial⟩, sc.f4.drop.f3.f3.f3⟩
  intro _ w9 hJ
  obtain ⟨v7, F, sd⟩ := hJ
  have H := R1
  clear R1 H1
  refine Ac <| Ak <| Aj F (Aa (Bq rfl rfl) <| Aa (Af rfl) <| Ad) fun _ F => Ai <| Ac <| rounds_step <| Ah <| Ak <| Aj F (Aa (Cr rfl rfl) <| Ad) fun _ F => Ai <| Ac <| Ah <| Cz F rfl <| Aw <| Ac <| Ah ?_
  obtain ⟨o3, H2, R2⟩ := Ap H
  clear H
  refine Bx (fun a w_ => ∃ va : Value, Fr a 67 [(1, .pointer (some ⟨g0, 0, none⟩)), (2, .pointer (some ⟨g1, 0, none⟩)), (6, va), (7, .bool o3.2), (27, .slice (some ⟨g2, 0, none⟩) 5 5), (28, .int .i64 ((5 : Nat) : Int)), (29, .int .i64 2)] ∧ SL w [] w_ [Blk g2 63 [clo 32 [], clo 33 [], clo 34 [], clo 35 [], clo 36 []], Blk g1 40 [.string ⟨⟨[]⟩⟩, .slice none 0 0, .int .u8 0, .int .i64 0, .slice none 0 0], Blk g0 40 [.string ⟨⟨a0.Name⟩⟩, v0_1, .int .u8 (a0.Sig.Result.toNat : Int), .int .i64 a0.Locals, v0_4], Sl T_opt_item va o3.1]) ?_ ?_
  ·have H := H2
   refine Bh <| Ah <| Ak ?_
   refine Aj F (Aa (ex_ixlit Fx.sl60 rfl rfl (by decide)) <| Aa (Az Fx.nag63 rfl (sd.blk_cell (.head _) rfl)) <| Aa (Al rfl) <| Ad) fun _ F => ?_
   refine Ai <| Ac <| Ah <| Ak ?_
   obtain ⟨x5, hm, H⟩ := Ap H
   refine Aj F (Aa (Af rfl) <| Aa (Af rfl) <| Ad) fun _ F => ?_
   have se := sd.f3
   obtain ⟨G1, hn, ho, hp, hq⟩ := SL.open_ (ps := [Sl T_opt_item v7 o2.1]) (rest := [Blk g2 63 [clo 32 [], clo 33 [], clo 34 [], clo 35 [], clo 36 []], Blk g1 40 [.string ⟨⟨[]⟩⟩, .slice none 0 0, .int .u8 0, .int .i64 0, .slice none 0 0], Blk g0 40 [.string ⟨⟨a0.Name⟩⟩, v0_1, .int .u8 (a0.Sig.Result.toNat : Int), .int .i64 a0.Locals, v0_4]]) se
   refine st_callf (args := [.tmp 35]) F Fx.fn34 rfl rfl (opt_empty_c (a0 := o2.1) hn   hm) rfl fun vb wa _ hs F => ?_
   obtain ⟨vc, rfl, ht⟩ := hs
   have sf := hq _ _ ht
   refine Aj F (Aa (Af rfl) <| Aa (Au (v := vc) rfl rfl) <| Aa (Au (v := .bool x5.2) rfl rfl) <| Aa (Al rfl) <| Aa (Al rfl) <| Ad) fun _ F => Ai <| Ac <| Ak <| Aj F (Aa (Af rfl) <| Aa (Af rfl) <| Aa (Af rfl) <| Ad) fun _ F => Bl o2.2 (fun hv => ?_) (fun hv => ?_)
   ·replace H := Bb hv H
    refine Ao F rfl rfl (Am rfl hv) Ab rfl rfl fun _ F => Aj F (Aa (Bf (By rfl hv) rfl) <| Aa (Al rfl) <| Aa (Al rfl) <| Ad) fun _ F => Ai <| Bz ?_
    obtain rfl := An H
    refine Ac ?_
    exact ⟨vc, F.sub ⟨rfl, rfl, rfl, rfl, rfl, rfl, rfl, trivial⟩, sf.f3.f3.f3⟩
   replace H := Bc hv H
   refine Aq F rfl rfl (Am rfl hv) (Af rfl) rfl rfl fun _ F => Aj F (Aa (Bi (By rfl hv) rfl) <| Aa (Al rfl) <| Aa (Al rfl) <| Ad) fun _ F => Ai <| Bz ?_
   obtain rfl := An H
   refine Ac ?_
   exact ⟨vc, F.sub ⟨rfl, rfl, rfl, rfl, rfl, rfl, rfl, trivial⟩, sf.f3.f3.f3⟩
  intro _ wb hJ
  obtain ⟨va, F, sg⟩ := hJ
  have H := R2
  clear R2 H2
  refine Ac <| Ak <| Aj F (Aa (Bq rfl rfl) <| Aa (Af rfl) <| Ad) fun _ F => Ai <| Ac <| rounds_step <| Ah <| Ak <| Aj F (Aa (Cr rfl rfl) <| Ad) fun _ F => Ai <| Ac <| Ah <| Cz F rfl <| Aw <| Ac <| Ah ?_
  obtain ⟨o4, H3, R3⟩ := Ap H
  clear H
  refine Bx (fun a w_ => ∃ vd : Value, Fr a 67 [(1, .pointer (some ⟨g0, 0, none⟩)), (2, .pointer (some ⟨g1, 0, none⟩)), (6, vd), (7, .bool o4.2), (27, .slice (some ⟨g2, 0, none⟩) 5 5), (28, .int .i64 ((5 : Nat) : Int)), (29, .int .i64 3)] ∧ SL w [] w_ [Blk g2 63 [clo 32 [], clo 33 [], clo 34 [], clo 35 [], clo 36 []], Blk g1 40 [.string ⟨⟨[]⟩⟩, .slice none 0 0, .int .u8 0, .int .i64 0, .slice none 0 0], Blk g0 40 [.string ⟨⟨a0.Name⟩⟩, v0_1, .int .u8 (a0.Sig.Result.toNat : Int), .int .i64 a0.Locals, v0_4], Sl T_opt_item vd o4.1]) ?_ ?_
  ·have H := H3
   refine Bh <| Ah <| Ak ?_
   refine Aj F (Aa (ex_ixlit Fx.sl60 rfl rfl (by decide)) <| Aa (Az Fx.nag63 rfl (sg.blk_cell (.head _) rfl)) <| Aa (Al rfl) <| Ad) fun _ F => ?_
   refine Ai <| Ac <| Ah <| Ak ?_
   obtain ⟨x6, hw, H⟩ := Ap H
   refine Aj F (Aa (Af rfl) <| Aa (Af rfl) <| Ad) fun _ F => ?_
   have sh := sg.f3
   obtain ⟨G2, hx, hy, hz, h10⟩ := SL.open_ (ps := [Sl T_opt_item va o3.1]) (rest := [Blk g2 63 [clo 32 [], clo 33 [], clo 34 [], clo 35 [], clo 36 []], Blk g1 40 [.string ⟨⟨[]⟩⟩, .slice none 0 0, .int .u8 0, .int .i64 0, .slice none 0 0], Blk g0 40 [.string ⟨⟨a0.Name⟩⟩, v0_1, .int .u8 (a0.Sig.Result.toNat : Int), .int .i64 a0.Locals, v0_4]]) sh
   refine st_callf (args := [.tmp 35]) F Fx.fn35 rfl rfl (opt_constants_c (a0 := o3.1) hx   hw) rfl fun ve wc _ h11 F => ?_
   obtain ⟨vf, rfl, h12⟩ := h11
   have si := h10 _ _ h12
   refine Aj F (Aa (Af rfl) <| Aa (Au (v := vf) rfl rfl) <| Aa (Au (v := .bool x6.2) rfl rfl) <| Aa (Al rfl) <| Aa (Al rfl) <| Ad) fun _ F => Ai <| Ac <| Ak <| Aj F (Aa (Af rfl) <| Aa (Af rfl) <| Aa (Af rfl) <| Ad) fun _ F => Bl o3.2 (fun h13 => ?_) (fun h13 => ?_)
   ·replace H := Bb h13 H
    refine Ao F rfl rfl (Am rfl h13) Ab rfl rfl fun _ F => Aj F (Aa (Bf (By rfl h13) rfl) <| Aa (Al rfl) <| Aa (Al rfl) <| Ad) fun _ F => Ai <| Bz ?_
    obtain rfl := An H
    refine Ac ?_
    exact ⟨vf, F.sub ⟨rfl, rfl, rfl, rfl, rfl, rfl, rfl, trivial⟩, si.f3.f3.f3⟩
   replace H := Bc h13 H
   refine Aq F rfl rfl (Am rfl h13) (Af rfl) rfl rfl fun _ F => Aj F (Aa (Bi (By rfl h13) rfl) <| Aa (Al rfl) <| Aa (Al rfl) <| Ad) fun _ F => Ai <| Bz ?_
   obtain rfl := An H
   refine Ac ?_
   exact ⟨vf, F.sub ⟨rfl, rfl, rfl, rfl, rfl, rfl, rfl, trivial⟩, si.f3.f3.f3⟩
  intro _ wd hJ
  obtain ⟨vd, F, sj⟩ := hJ
  have H := R3
  clear R3 H3
  refine Ac <| Ak <| Aj F (Aa (Bq rfl rfl) <| Aa (Af rfl) <| Ad) fun _ F => Ai <| Ac <| rounds_step <| Ah <| Ak <| Aj F (Aa (Cr rfl rfl) <| Ad) fun _ F => Ai <| Ac <| Ah <| Cz F rfl <| Aw <| Ac <| Ah ?_
  obtain ⟨o5, H4, R4⟩ := Ap H
  clear H
  refine Bx (fun a w_ => ∃ vg : Value, Fr a 67 [(1, .pointer (some ⟨g0, 0, none⟩)), (2, .pointer (some ⟨g1, 0, none⟩)), (6, vg), (7, .bool o5.2), (27, .slice (some ⟨g2, 0, none⟩) 5 5), (28, .int .i64 ((5 : Nat) : Int)), (29, .int .i64 4)] ∧ SL w [] w_ [Blk g2 63 [clo 32 [], clo 33 [], clo 34 [], clo 35 [], clo 36 []], Blk g1 40 [.string ⟨⟨[]⟩⟩, .slice none 0 0, .int .u8 0, .int .i64 0, .slice none 0 0], Blk g0 40 [.string ⟨⟨a0.Name⟩⟩, v0_1, .int .u8 (a0.Sig.Result.toNat : Int), .int .i64 a0.Locals, v0_4], Sl T_opt_item vg o5.1]) ?_ ?_
  ·have H := H4
   refine Bh <| Ah <| Ak ?_
   refine Aj F (Aa (ex_ixlit Fx.sl60 rfl rfl (by decide)) <| Aa (Az Fx.nag63 rfl (sj.blk_cell (.head _) rfl)) <| Aa (Al rfl) <| Ad) fun _ F => ?_
   refine Ai <| Ac <| Ah <| Ak ?_
   obtain ⟨x7, h14, H⟩ := Ap H
   refine Aj F (Aa (Af rfl) <| Aa (Af rfl) <| Ad) fun _ F => ?_
   have sk := sj.f3
   obtain ⟨G3, h15, h16, h17, h18⟩ := SL.open_ (ps := [Sl T_opt_item vd o4.1]) (rest := [Blk g2 63 [clo 32 [], clo 33 [], clo 34 [], clo 35 [], clo 36 []], Blk g1 40 [.string ⟨⟨[]⟩⟩, .slice none 0 0, .int .u8 0, .int .i64 0, .slice none 0 0], Blk g0 40 [.string ⟨⟨a0.Name⟩⟩, v0_1, .int .u8 (a0.Sig.Result.toNat : Int), .int .i64 a0.Locals, v0_4]]) sk
   refine st_callf (args := [.tmp 35]) F Fx.fn36 rfl rfl (opt_sure_c (a0 := o4.1) h15   h14) rfl fun vh we _ h19 F => ?_
   obtain ⟨vi, rfl, h1a⟩ := h19
   have sl := h18 _ _ h1a
   refine Aj F (Aa (Af rfl) <| Aa (Au (v := vi) rfl rfl) <| Aa (Au (v := .bool x7.2) rfl rfl) <| Aa (Al rfl) <| Aa (Al rfl) <| Ad) fun _ F => Ai <| Ac <| Ak <| Aj F (Aa (Af rfl) <| Aa (Af rfl) <| Aa (Af rfl) <| Ad) fun _ F => Bl o4.2 (fun h1b => ?_) (fun h1b => ?_)
   ·replace H := Bb h1b H
    refine Ao F rfl rfl (Am rfl h1b) Ab rfl rfl fun _ F => Aj F (Aa (Bf (By rfl h1b) rfl) <| Aa (Al rfl) <| Aa (Al rfl) <| Ad) fun _ F => Ai <| Bz ?_
    obtain rfl := An H
    refine Ac ?_
    exact ⟨vi, F.sub ⟨rfl, rfl, rfl, rfl, rfl, rfl, rfl, trivial⟩, sl.f3.f3.f3⟩
   replace H := Bc h1b H
   refine Aq F rfl rfl (Am rfl h1b) (Af rfl) rfl rfl fun _ F => Aj F (Aa (Bi (By rfl h1b) rfl) <| Aa (Al rfl) <| Aa (Al rfl) <| Ad) fun _ F => Ai <| Bz ?_
   obtain rfl := An H
   refine Ac ?_
   exact ⟨vi, F.sub ⟨rfl, rfl, rfl, rfl, rfl, rfl, rfl, trivial⟩, sl.f3.f3.f3⟩
  intro _ wf hJ
  obtain ⟨vg, F, sm⟩ := hJ
  have H := R4
  clear R4 H4
  refine Ac <| Ak <| Aj F (Aa (Bq rfl rfl) <| Aa (Af rfl) <| Ad) fun _ F => Ai <| Ac <| rounds_step <| Ah <| Ak <| Aj F (Aa (Cr rfl rfl) <| Ad) fun _ F => Ai <| Ac <| Ah <| Cm F rfl <| Ca <| Bp <| Bp <| Cb <| Ac <| Ah <| Ak <| Aj F (Aa (Af rfl) <| Aa (Da rfl) <| Ad) fun _ F => Ai <| Ac <| Bm F rfl (fun h1c => ?_) (fun h1c => ?_)
  ·replace H := Bb h1c H
   refine Ca <| Dd rfl <| Bp <| Cb ?_
   obtain rfl := An H
   obtain rfl := hr _ rfl
   refine Ac ?_
   exact ⟨vg, F.sub ⟨rfl, rfl, rfl, trivial⟩, sm.drop⟩
  replace H := Bc h1c H
  refine Aw <| Bz ?_
  obtain rfl := An H
  refine Ac ?_
  exact ⟨_, rfl, vg, F.sub ⟨rfl, rfl, rfl, trivial⟩, sm.drop⟩
 intro _ wg hJ
 obtain ⟨v2, F, sn⟩ := hJ
 have H := R0
 clear R0 H0
 refine Ac <| Ah <| Ak ?_
 obtain ⟨x8, h1d, H⟩ := Ap H
 refine Aj F (Aa (Af rfl) <| Ad) fun _ F => Bk (args := [.tmp 48]) F Fx.fn23 rfl (opt_laid_c (a0 := o0)   (sn.rd0 (.tail _ <| .tail _ <| .head _)) h1d) rfl fun vj wh _ h1e F => ?_
 obtain ⟨_, rfl, h1f⟩ := h1e
 have so := sn.add h1f
 obtain ⟨x9, h1g, H⟩ := Ap H
 refine Bk (args := [.tmp 49]) F Fx.fn22 rfl (code_All_c (a0 := x8)   (so.rd0 (.head _)) h1g) rfl fun vk wi _ h1h F => ?_
 obtain ⟨vl, rfl, h1i⟩ := h1h
 have sp := so.add h1i
 refine Aj F (Aa (Af rfl) <| Aa (Au (v := vl) rfl rfl) <| Aa (Au (v := .int .i64 x9.2.1) rfl rfl) <| Aa (Au (v := .int .i64 x9.2.2) rfl rfl) <| Aa (Al rfl) <| Aa (Al rfl) <| Aa (Al rfl) <| Ad) fun _ F => Ai <| Ac <| Ah <| Ah <| Ak <| Aj F (Aa (Af rfl) <| Aa (De rfl rfl) <| Ad) fun _ F => Ai <| Ac <| Bm F rfl (fun h1j => ?_) (fun h1j => ?_)
 ·replace H := Bb h1j H
  refine Ah <| Ak <| Aj F (Aa (Cn (vs := []) Fx.zero40 Fx.pl40 rfl (cs := [.string ⟨⟨[]⟩⟩, .slice none 0 0, .int .u8 0, .int .i64 0, .slice none 0 0]) (rfl)) <| Aa (Af rfl) <| Ad) fun _ F => ?_
  have sq := sp.f2
  refine As F sq rfl rfl Fx.sz40 (Ae rfl (Ae rfl (Ae rfl (Ae rfl (Ae rfl Ba))))) (Ag rfl) fun wj _ F sr => ?_
  replace sr : SL w [] wj [Blk g1 40 [.string ⟨⟨[]⟩⟩, .slice none 0 0, .int .u8 0, .int .i64 0, .slice none 0 0], Sl Ty.u8 vl x9.1, Sl T_api_Instr vj x8, Blk g0 40 [.string ⟨⟨a0.Name⟩⟩, v0_1, .int .u8 (a0.Sig.Result.toNat : Int), .int .i64 a0.Locals, v0_4], Sl T_opt_item v2 o0] := sr
  refine Aj F (Aa (Al rfl) <| Ad) fun _ F => Ai <| Ac ?_
  obtain rfl := An H
  refine Bd <| Bg <| jmp_r ?_
  refine Av (rs := [.cell 2 40, .tmp 3]) (vs := [.agg ⟨[.string ⟨⟨[]⟩⟩, .slice none 0 0, .int .u8 0, .int .i64 0, .slice none 0 0]⟩, .int .i64 x9.2.2]) F (by rfl) ⟨_, _, rfl, Cj sr (.head _) rfl Fx.agg40 rfl, _, _, rfl, Ay rfl, rfl⟩ ⟨_, rfl, ⟨(.slice none 0 0), (.slice none 0 0), rfl, (SL.nilSl (T := Ty.u8) (SL.nilSl (T := Ty.u8) sr)).f2.drop.f2.drop.f2.drop.f2.drop.f2.drop.f1⟩⟩
 replace H := Bc h1j H
 refine Aw <| Ac <| Ah <| Ak ?_
 obtain ⟨xa, h1k, H⟩ := Ap H
 refine Aj F (Aa (Ax Fx.fa40_1 rfl rfl) <| Aa (Ax Fx.fa37_0 rfl rfl) <| Aa (Az Fx.nag34 rfl (sp.blk_cell (.tail _ <| .tail _ <| .tail _ <| .head _) rfl)) <| Ad) fun _ F => ?_
 have ss := (SL.nilSl (T := Ty.u8) sp)
 obtain ⟨_, hr_⟩ := (Cv hr0_1 ss)
 refine Ci Flat.u8 F ss Fx.sl34 rfl rfl rfl rfl hr_ rfl rfl h1k rfl fun vm wk _ F st => Aj F (Aa (Ax Fx.fa40_1 rfl rfl) <| Aa (Ax Fx.fa37_0 rfl rfl) <| Ad) fun _ F => ?_
 have su := st.f4
 refine Cq F su rfl rfl Fx.sz34 (Ct (Bu (su.own_rd (.tail _ <| .head _)))) (Cd (Bu (su.own_rd (.tail _ <| .head _)))) rfl fun wl _ F sv => ?_
 replace sv : SL w [] wl [Blk g0 40 [.string ⟨⟨a0.Name⟩⟩, vm, .int .u8 (a0.Sig.Result.toNat : Int), .int .i64 a0.Locals, v0_4], Sl Ty.u8 vm xa, Sl Ty.u8 vl x9.1, Sl T_api_Instr vj x8, Blk g1 40 [.string ⟨⟨[]⟩⟩, .slice none 0 0, .int .u8 0, .int .i64 0, .slice none 0 0], Sl T_opt_item v2 o0] := sv
 refine Ai <| Ac <| Ah <| Ak <| Aj F (Aa (Af rfl) <| Aa (Ax Fx.fa40_3 rfl rfl) <| Ad) fun _ F => ?_
 have sw := sv
 refine Cq F sw rfl rfl Fx.sz38 (Ct (Bu (sw.own_rd (.tail _ <| .tail _ <| .head _)))) (Cd (Bu (sw.own_rd (.tail _ <| .tail _ <| .head _)))) rfl fun wm _ F sx => ?_
 replace sx : SL w [] wm [Blk g0 40 [.string ⟨⟨a0.Name⟩⟩, vm, .int .u8 (a0.Sig.Result.toNat : Int), .int .i64 a0.Locals, vl], Sl Ty.u8 vm xa, Sl Ty.u8 vl x9.1, Sl T_api_Instr vj x8, Blk g1 40 [.string ⟨⟨[]⟩⟩, .slice none 0 0, .int .u8 0, .int .i64 0, .slice none 0 0], Sl T_opt_item v2 o0] := sx
 refine Ai <| Ac <| Ah <| Ak <| Aj F (Aa (Bj Fx.agg40 rfl (sx.blk_cells (.head _) (o := 0) (ds := [.string ⟨⟨a0.Name⟩⟩, vm, .int .u8 (a0.Sig.Result.toNat : Int), .int .i64 a0.Locals, vl]) (fun j u hu => by rw [Nat.zero_add]; exact hu)) rfl) <| Ad) fun _ F => ?_
 have sy := sx.f4
 refine As F sy rfl rfl Fx.sz40 (Ae rfl (Ae (Cd (Bu (sy.own_rd (.tail _ <| .tail _ <| .head _)))) (Ae rfl (Ae rfl (Ae (Cd (Bu (sy.own_rd (.tail _ <| .tail _ <| .tail _ <| .head _)))) Ba))))) (Ag rfl) fun wn _ F sz => ?_
 replace sz : SL w [] wn [Blk g1 40 [.string ⟨⟨a0.Name⟩⟩, vm, .int .u8 (a0.Sig.Result.toNat : Int), .int .i64 a0.Locals, vl], Blk g0 40 [.string ⟨⟨a0.Name⟩⟩, vm, .int .u8 (a0.Sig.Result.toNat : Int), .int .i64 a0.Locals, vl], Sl Ty.u8 vm xa, Sl Ty.u8 vl x9.1, Sl T_api_Instr vj x8, Sl T_opt_item v2 o0] := sz
 refine Aj F (Aa (Al rfl) <| Ad) fun _ F => Ai <| Ac ?_
 obtain rfl := An H
 refine Bd <| jmp_r ?_
 refine Av (rs := [.cell 2 40, .tmp 3]) (vs := [.agg ⟨[.string ⟨⟨a0.Name⟩⟩, vm, .int .u8 (a0.Sig.Result.toNat : Int), .int .i64 a0.Locals, vl]⟩, .int .i64 0]) F (by rfl) ⟨_, _, rfl, Cj sz (.head _) rfl Fx.agg40 rfl, _, _, rfl, Ay rfl, rfl⟩ ⟨_, rfl, ⟨vm, vl, rfl, sz.drop.drop.f2.drop.f2.drop⟩⟩
-- proviso/opt.Module
theorem opt_Module_c {w : World} {v0_1 v0_2 v0_3 : Value} {a0 : S_api_Module} {r : S_api_Module × Int} (hr0_1 : Rd T_api_Class w [] v0_1 a0.Classes) (hr0_2 : Rd T_api_Func w [] v0_2 a0.Funcs) (hr0_3 : Rd (Ty.slice Ty.u8) w [] v0_3 a0.Certs) (H : opt_Module a0 = some r) :
    Calls Tryz.prog 6 #[.agg ⟨[.string ⟨⟨a0.Name⟩⟩, v0_1, v0_2, v0_3]⟩] w (Ret fun u_ w_ => ∃ u0 u1 u2 : Value, u_ = .tuple ⟨[.agg ⟨[.string ⟨⟨r.1.Name⟩⟩, u0, u1, u2]⟩, .int .i64 r.2]⟩ ∧ SL w [] w_ [Sl T_api_Class u0 r.1.Classes, Sl T_api_Func u1 r.1.Funcs, Sl (Ty.slice Ty.u8) u2 r.1.Certs]) := by
 have s0 : SL w [] w [] := SL.init0 w
 refine Bn Tryz.func6 rfl Tryz.ntmps6 (Ag rfl) (args := [.agg ⟨[.string ⟨⟨a0.Name⟩⟩, v0_1, v0_2, v0_3]⟩]) fun q0 F0 => ?_
 unfold opt_Module at H
 refine Ah <| Ak <| Db F0 s0 rfl rfl rfl fun g0 w0 _ F s1 => Bo F s1 Fx.zero26 rfl rfl fun g1 w1 _ F s2 => Aj F (Aa (Al rfl) <| Ad) fun _ F => Ai <| Ac <| Ah <| Ak <| Aj F (Aa (Ax Fx.fa26_0 rfl rfl) <| Aa (Az Fx.nag9 rfl (s2.blk_cell (.tail _ <| .head _) rfl)) <| Aa (Cn (vs := [.string ⟨⟨a0.Name⟩⟩]) Fx.zero26 Fx.pl26 rfl (cs := [.string ⟨⟨a0.Name⟩⟩, .slice none 0 0, .slice none 0 0, .slice none 0 0]) (rfl)) <| Ad) fun _ F => Bo F s2 Fx.zero26 rfl rfl fun g2 w2 _ F s3 => ?_
 have s4 := s3
 refine As F s4 rfl rfl Fx.sz26 (Ae rfl (Ae rfl (Ae rfl (Ae rfl Ba)))) (Ag rfl) fun w3 _ F s5 => ?_
 replace s5 : SL w [] w3 [Blk g2 26 [.string ⟨⟨a0.Name⟩⟩, .slice none 0 0, .slice none 0 0, .slice none 0 0], Blk g1 26 [.string ⟨⟨[]⟩⟩, .slice none 0 0, .slice none 0 0, .slice none 0 0], Blk g0 26 [.string ⟨⟨a0.Name⟩⟩, v0_1, v0_2, v0_3]] := s5
 refine Ai <| Ac <| Ah <| Ah <| Ak <| Aj F (Aa (Ax Fx.fa26_1 rfl rfl) <| Aa (Az Fx.nag22 rfl (s5.blk_cell (.tail _ <| .tail _ <| .head _) rfl)) <| Aa (Cc rfl Tryz.underlying22 (Bu (Cv hr0_1 s5))) <| Aa (Af rfl) <| Ad) fun _ F => Ai <| Ac ?_
 obtain ⟨o0, H0, R0⟩ := Ap H
 clear H
 refine Bx (fun a w_ => ∃ v0 : Value, Fr a 56 [(1, .pointer (some ⟨g0, 0, none⟩)), (2, .pointer (some ⟨g1, 0, none⟩)), (4, .pointer (some ⟨g2, 0, none⟩))] ∧ SL w [] w_ [Blk g2 26 [.string ⟨⟨a0.Name⟩⟩, v0, .slice none 0 0, .slice none 0 0], Blk g1 26 [.string ⟨⟨[]⟩⟩, .slice none 0 0, .slice none 0 0, .slice none 0 0], Blk g0 26 [.string ⟨⟨a0.Name⟩⟩, v0_1, v0_2, v0_3], Sl T_api_Class v0 o0]) ?_ ?_
 ·have H := H0
  refine Bh <| Cu (opt_Module_b0 a0) (fun s6 a w_ => ∃ v1 : Value, Fr a 56 [(1, .pointer (some ⟨g0, 0, none⟩)), (2, .pointer (some ⟨g1, 0, none⟩)), (4, .pointer (some ⟨g2, 0, none⟩)), (15, v0_1), (16, .int .i64 (a0.Classes.length : Int)), (17, .int .i64 s6.2)] ∧ SL w [] w_ [Blk g2 26 [.string ⟨⟨a0.Name⟩⟩, v1, .slice none 0 0, .slice none 0 0], Blk g1 26 [.string ⟨⟨[]⟩⟩, .slice none 0 0, .slice none 0 0, .slice none 0 0], Blk g0 26 [.string ⟨⟨a0.Name⟩⟩, v0_1, v0_2, v0_3], Sl T_api_Class v1 s6.1]) H ?_ ?_
  ·exact ⟨(.slice none 0 0), F.sub ⟨rfl, rfl, rfl, rfl, rfl, rfl, trivial⟩, (SL.nilSl (T := T_api_Class) s5).f3.f3.f3⟩
  intro s6 _ w4 h0 o1 H hr
  obtain ⟨v1, F, s7⟩ := h0
  replace H : opt_Module_b0 a0 s6 = some o1 := H
  unfold opt_Module_b0 at H
  refine Ah <| Ak <| Aj F (Aa (Cr rfl rfl) <| Ad) fun _ F => Ai <| Ac <| Ah <| Bm F rfl (fun h1 => ?_) (fun h1 => ?_)
  ·replace H := Bb h1 H
   refine Aw <| Ac <| Ah <| Bh <| Ah <| Ak ?_
   obtain ⟨x0, h2, H⟩ := Ap H
   obtain ⟨a1, c0, G0, h3, h4, h5, h6⟩ := Rd.idx hr0_1 Fx.sl22 rfl h2
   obtain ⟨v2, rfl, h7⟩ := (R_api_Class h5 h6)
   replace h4 := h4 _ _ s7
   refine Aj F (Aa (h3 _ _ _ _ _ _ _ _ _ _ rfl rfl) <| Aa (Bj Fx.agg46 rfl h4 rfl) <| Ad) fun _ F => Bo F s7 Fx.zero46 rfl rfl fun g3 w5 _ F s8 => ?_
   have s9 := s8
   refine As F s9 rfl rfl Fx.sz46 (Ae rfl (Ae rfl (Ae (Cd (Bu (Cv h7 s9))) Ba))) (Ag rfl) fun w6 _ F sa => ?_
   replace sa : SL w [] w6 [Blk g3 46 [.string ⟨⟨x0.Name⟩⟩, .int .i64 x0.Parent, v2], Blk g2 26 [.string ⟨⟨a0.Name⟩⟩, v1, .slice none 0 0, .slice none 0 0], Blk g1 26 [.string ⟨⟨[]⟩⟩, .slice none 0 0, .slice none 0 0, .slice none 0 0], Blk g0 26 [.string ⟨⟨a0.Name⟩⟩, v0_1, v0_2, v0_3], Sl T_api_Class v1 s6.1] := sa
   refine Ai <| Ac <| Ah <| Ak ?_
   obtain ⟨x1, h8, H⟩ := Ap H
   refine Aj F (Aa (Ax Fx.fa46_2 rfl rfl) <| Aa (Az Fx.nag44 rfl (sa.blk_cell (.head _) rfl)) <| Ad) fun _ F => ?_
   have sb := (SL.nilSl (T := T_api_Field) sa)
   obtain ⟨_, hr_⟩ := (Cv h7 sb)
   refine Ci F_api_Field F sb Fx.sl44 rfl rfl rfl rfl hr_ rfl rfl h8 rfl fun v3 w7 _ F sc => Aj F (Aa (Ax Fx.fa46_2 rfl rfl) <| Ad) fun _ F => ?_
   have sd := sc.f1
   refine Cq F sd rfl rfl Fx.sz44 (Ct (Bu (sd.own_rd (.tail _ <| .head _)))) (Cd (Bu (sd.own_rd (.tail _ <| .head _)))) rfl fun w8 _ F se => ?_
   replace se : SL w [] w8 [Blk g3 46 [.string ⟨⟨x0.Name⟩⟩, .int .i64 x0.Parent, v3], Sl T_api_Field v3 x1, Blk g2 26 [.string ⟨⟨a0.Name⟩⟩, v1, .slice none 0 0, .slice none 0 0], Blk g1 26 [.string ⟨⟨[]⟩⟩, .slice none 0 0, .slice none 0 0, .slice none 0 0], Blk g0 26 [.string ⟨⟨a0.Name⟩⟩, v0_1, v0_2, v0_3], Sl T_api_Class v1 s6.1] := se
   refine Ai <| Ac <| Ak <| Aj F (Aa (Ax Fx.fa26_1 rfl rfl) <| Aa (Az Fx.nag22 rfl (se.blk_cell (.tail _ <| .tail _ <| .head _) rfl)) <| Aa (Bj Fx.agg46 rfl (se.blk_cells (.head _) (o := 0) (ds := [.string ⟨⟨x0.Name⟩⟩, .int .i64 x0.Parent, v3]) (fun j u hu => by rw [Nat.zero_add]; exact hu)) rfl) <| Ad) fun _ F => ?_
   have sf : SL w [] _ (Dt T_api_Class (⟨x0.Name, x0.Parent, x1⟩ : S_api_Class) [.string ⟨⟨x0.Name⟩⟩, .int .i64 x0.Parent, v3] :: [Blk g3 46 [.string ⟨⟨x0.Name⟩⟩, .int .i64 x0.Parent, v3], Blk g2 26 [.string ⟨⟨a0.Name⟩⟩, v1, .slice none 0 0, .slice none 0 0], Blk g1 26 [.string ⟨⟨[]⟩⟩, .slice none 0 0, .slice none 0 0, .slice none 0 0], Blk g0 26 [.string ⟨⟨a0.Name⟩⟩, v0_1, v0_2, v0_3], Sl T_api_Class v1 s6.1]) := (SL.diso (f := t_api_Class) (x := (⟨x0.Name, x0.Parent, x1⟩ : S_api_Class)) (SL.dpair (SL.dflat (SL.dpair (SL.dflat (SL.dsl se.f1) (Flat.int .i64) x0.Parent)) Flat.str x0.Name)))
   refine Dh F sf Fx.sl22 rfl (by decide) rfl rfl rfl fun v4 w9 _ F sg => ?_
   obtain ⟨x2, h9, H⟩ := Ap H
   refine Dc F sg.f5 Fx.sl22 rfl rfl rfl rfl rfl rfl h9 rfl fun v5 wa _ F sh => Aj F (Aa (Ax Fx.fa26_1 rfl rfl) <| Ad) fun _ F => ?_
   have si := sh.f2
   refine Cq F si rfl rfl Fx.sz22 (Ct (Bu (si.own_rd (.tail _ <| .head _)))) (Cd (Bu (si.own_rd (.tail _ <| .head _)))) rfl fun wb _ F sj => ?_
   replace sj : SL w [] wb [Blk g2 26 [.string ⟨⟨a0.Name⟩⟩, v5, .slice none 0 0, .slice none 0 0], Sl T_api_Class v5 x2, Blk g3 46 [.string ⟨⟨x0.Name⟩⟩, .int .i64 x0.Parent, v3], Blk g1 26 [.string ⟨⟨[]⟩⟩, .slice none 0 0, .slice none 0 0, .slice none 0 0], Blk g0 26 [.string ⟨⟨a0.Name⟩⟩, v0_1, v0_2, v0_3]] := sj
   refine Ai <| Bz <| Ac <| Ak <| Aj F (Aa (Bq rfl rfl) <| Aa (Af rfl) <| Ad) fun _ F => Ai ?_
   obtain rfl := An H
   refine Ac ?_
   exact ⟨_, rfl, v5, F.sub ⟨rfl, rfl, rfl, rfl, rfl, rfl, trivial⟩, sj.f2.drop.f1.f3.f3.f3⟩
  replace H := Bc h1 H
  refine Ca <| Bp <| Bp <| Cb ?_
  obtain rfl := An H
  obtain rfl := hr _ rfl
  refine Ac ?_
  exact ⟨v1, F.sub ⟨rfl, rfl, rfl, trivial⟩, s7⟩
 intro _ wc hJ
 obtain ⟨v0, F, sk⟩ := hJ
 have H := R0
 clear R0 H0
 refine Ac <| Ah <| Ah <| Ak <| Aj F (Aa (Ax Fx.fa26_2 rfl rfl) <| Aa (Az Fx.nag23 rfl (sk.blk_cell (.tail _ <| .tail _ <| .head _) rfl)) <| Aa (Cc rfl Tryz.underlying23 (Bu (Cv hr0_2 sk))) <| Aa (Af rfl) <| Ad) fun _ F => Ai <| Ac ?_
 obtain ⟨o2, H1, R1⟩ := Ap H
 clear H
 refine Bx (fun a w_ => ∃ p0 : (List S_api_Func), o2 = .inr (p0) ∧ ∃ v6 : Value, Fr a 56 [(2, .pointer (some ⟨g1, 0, none⟩)), (4, .pointer (some ⟨g2, 0, none⟩))] ∧ SL w [] w_ [Blk g2 26 [.string ⟨⟨a0.Name⟩⟩, v0, v6, .slice none 0 0], Blk g1 26 [.string ⟨⟨[]⟩⟩, .slice none 0 0, .slice none 0 0, .slice none 0 0], Sl T_api_Class v0 o0, Sl T_api_Func v6 p0]) ?_ ?_
 ·have H := H1
  refine Bh <| Cu (opt_Module_b1 a0) (fun sl a w_ => ∃ v7 : Value, Fr a 56 [(2, .pointer (some ⟨g1, 0, none⟩)), (4, .pointer (some ⟨g2, 0, none⟩)), (33, v0_2), (34, .int .i64 (a0.Funcs.length : Int)), (35, .int .i64 sl.2)] ∧ SL w [] w_ [Blk g2 26 [.string ⟨⟨a0.Name⟩⟩, v0, v7, .slice none 0 0], Blk g1 26 [.string ⟨⟨[]⟩⟩, .slice none 0 0, .slice none 0 0, .slice none 0 0], Sl T_api_Class v0 o0, Sl T_api_Func v7 sl.1]) H ?_ ?_
  ·exact ⟨(.slice none 0 0), F.sub ⟨rfl, rfl, rfl, rfl, rfl, trivial⟩, (SL.nilSl (T := T_api_Func) sk).f3.drop.f3.f3.f3⟩
  intro sl _ wd ha o3 H hr
  obtain ⟨v7, F, sm⟩ := ha
  replace H : opt_Module_b1 a0 sl = some o3 := H
  unfold opt_Module_b1 at H
  refine Ah <| Ak <| Aj F (Aa (Cr rfl rfl) <| Ad) fun _ F => Ai <| Ac <| Ah <| Bm F rfl (fun hb => ?_) (fun hb => ?_)
  ·replace H := Bb hb H
   refine Aw <| Ac <| Ah <| Bh <| Ah <| Ak ?_
   obtain ⟨x3, hc, H⟩ := Ap H
   obtain ⟨a2, c1, G1, hd, he, hf, hg⟩ := Rd.idx hr0_2 Fx.sl23 rfl hc
   obtain ⟨v8, v9, rfl, hh, hi⟩ := (R_api_Func hf hg)
   replace he := he _ _ sm
   refine Aj F (Aa (hd _ _ _ _ _ _ _ _ _ _ rfl rfl) <| Aa (Bj Fx.agg40 rfl he rfl) <| Ad) fun _ F => Bo F sm Fx.zero40 rfl rfl fun g4 we _ F sn => ?_
   have so := sn
   refine As F so rfl rfl Fx.sz40 (Ae rfl (Ae (Cd (Bu (Cv hh so))) (Ae rfl (Ae rfl (Ae (Cd (Bu (Cv hi so))) Ba))))) (Ag rfl) fun wf _ F sp => ?_
   replace sp : SL w [] wf [Blk g4 40 [.string ⟨⟨x3.Name⟩⟩, v8, .int .u8 (x3.Sig.Result.toNat : Int), .int .i64 x3.Locals, v9], Blk g2 26 [.string ⟨⟨a0.Name⟩⟩, v0, v7, .slice none 0 0], Blk g1 26 [.string ⟨⟨[]⟩⟩, .slice none 0 0, .slice none 0 0, .slice none 0 0], Sl T_api_Class v0 o0, Sl T_api_Func v7 sl.1] := sp
   refine Ai <| Ac <| Ah <| Ak ?_
   obtain ⟨x4, hj, H⟩ := Ap H
   refine Aj F (Aa (Bj Fx.agg40 rfl (sp.blk_cells (.head _) (o := 0) (ds := [.string ⟨⟨x3.Name⟩⟩, v8, .int .u8 (x3.Sig.Result.toNat : Int), .int .i64 x3.Locals, v9]) (fun j u hu => by rw [Nat.zero_add]; exact hu)) rfl) <| Ad) fun _ F => Bk (args := [.tmp 40]) F Fx.fn12 rfl (opt_Func_c (a0 := (⟨x3.Name, (⟨x3.Sig.Params, x3.Sig.Result⟩ : S_api_Sig), x3.Locals, x3.Code⟩ : S_api_Func))   (hh.pass0 sp) (hi.pass0 sp) hj) rfl fun va wg _ hk F => ?_
   obtain ⟨vb, vc, rfl, hl⟩ := hk
   have sq := sp.add hl
   refine Aj F (Aa (Af rfl) <| Aa (Au (v := .agg ⟨[.string ⟨⟨x4.1.Name⟩⟩, vb, .int .u8 (x4.1.Sig.Result.toNat : Int), .int .i64 x4.1.Locals, vc]⟩) rfl rfl) <| Aa (Au (v := .int .i64 x4.2) rfl rfl) <| Ad) fun _ F => Bo F sq Fx.zero40 rfl rfl fun g5 wh _ F sr => ?_
   have ss := sr
   refine As F ss rfl rfl Fx.sz40 (Ae rfl (Ae (Cd (Bu (ss.own_rd (.tail _ <| .head _)))) (Ae rfl (Ae rfl (Ae (Cd (Bu (ss.own_rd (.tail _ <| .tail _ <| .head _)))) Ba))))) (Ag rfl) fun wi _ F st => ?_
   replace st : SL w [] wi [Blk g5 40 [.string ⟨⟨x4.1.Name⟩⟩, vb, .int .u8 (x4.1.Sig.Result.toNat : Int), .int .i64 x4.1.Locals, vc], Sl Ty.u8 vb x4.1.Sig.Params, Sl Ty.u8 vc x4.1.Code, Blk g4 40 [.string ⟨⟨x3.Name⟩⟩, v8, .int .u8 (x3.Sig.Result.toNat : Int), .int .i64 x3.Locals, v9], Blk g2 26 [.string ⟨⟨a0.Name⟩⟩, v0, v7, .slice none 0 0], Blk g1 26 [.string ⟨⟨[]⟩⟩, .slice none 0 0, .slice none 0 0, .slice none 0 0], Sl T_api_Class v0 o0, Sl T_api_Func v7 sl.1] := st
   refine Aj F (Aa (Al rfl) <| Ad) fun _ F => Ai <| Ac <| Ah <| Ah <| Ak <| Aj F (Aa (Af rfl) <| Aa (De rfl rfl) <| Ad) fun _ F => Ai <| Ac <| Bm F rfl (fun hm => ?_) (fun hm => ?_)
   ·replace H := Bb hm H
    refine Ah <| Ak <| Aj F (Aa (Cn (vs := []) Fx.zero26 Fx.pl26 rfl (cs := [.string ⟨⟨[]⟩⟩, .slice none 0 0, .slice none 0 0, .slice none 0 0]) (rfl)) <| Aa (Af rfl) <| Ad) fun _ F => ?_
    have su := st.f5
    refine As F su rfl rfl Fx.sz26 (Ae rfl (Ae rfl (Ae rfl (Ae rfl Ba)))) (Ag rfl) fun wj _ F sv => ?_
    replace sv : SL w [] wj [Blk g1 26 [.string ⟨⟨[]⟩⟩, .slice none 0 0, .slice none 0 0, .slice none 0 0], Blk g5 40 [.string ⟨⟨x4.1.Name⟩⟩, vb, .int .u8 (x4.1.Sig.Result.toNat : Int), .int .i64 x4.1.Locals, vc], Sl Ty.u8 vb x4.1.Sig.Params, Sl Ty.u8 vc x4.1.Code, Blk g4 40 [.string ⟨⟨x3.Name⟩⟩, v8, .int .u8 (x3.Sig.Result.toNat : Int), .int .i64 x3.Locals, v9], Blk g2 26 [.string ⟨⟨a0.Name⟩⟩, v0, v7, .slice none 0 0], Sl T_api_Class v0 o0, Sl T_api_Func v7 sl.1] := sv
    refine Aj F (Aa (Al rfl) <| Ad) fun _ F => Ai <| Ac ?_
    obtain rfl := An H
    obtain rfl := hr _ rfl
    replace H := R1
    try dsimp only at H
    obtain rfl := An H
    refine Bd <| Bg <| blk_r <| Bg <| Bg <| blk_r <| Bg <| Bg ?_
    refine Av (rs := [.cell 2 26, .tmp 3]) (vs := [.agg ⟨[.string ⟨⟨[]⟩⟩, .slice none 0 0, .slice none 0 0, .slice none 0 0]⟩, .int .i64 x4.2]) F (by rfl) ⟨_, _, rfl, Cj sv (.head _) rfl Fx.agg26 rfl, _, _, rfl, Ay rfl, rfl⟩ ⟨_, rfl, ⟨(.slice none 0 0), (.slice none 0 0), (.slice none 0 0), rfl, (SL.nilSl (T := (Ty.slice Ty.u8)) (SL.nilSl (T := T_api_Func) (SL.nilSl (T := T_api_Class) sv))).f3.drop.f3.drop.f3.drop.f3.drop.f3.drop.f3.drop.f3.drop.f3.drop.f1.f2⟩⟩
   replace H := Bc hm H
   refine Aw <| Ac <| Ak <| Aj F (Aa (Ax Fx.fa26_2 rfl rfl) <| Aa (Az Fx.nag23 rfl (st.blk_cell (.tail _ <| .tail _ <| .tail _ <| .tail _ <| .head _) rfl)) <| Aa (Bj Fx.agg40 rfl (st.blk_cells (.head _) (o := 0) (ds := [.string ⟨⟨x4.1.Name⟩⟩, vb, .int .u8 (x4.1.Sig.Result.toNat : Int), .int .i64 x4.1.Locals, vc]) (fun j u hu => by rw [Nat.zero_add]; exact hu)) rfl) <| Ad) fun _ F => ?_
   have sw : SL w [] _ (Dt T_api_Func (⟨x4.1.Name, (⟨x4.1.Sig.Params, x4.1.Sig.Result⟩ : S_api_Sig), x4.1.Locals, x4.1.Code⟩ : S_api_Func) [.string ⟨⟨x4.1.Name⟩⟩, vb, .int .u8 (x4.1.Sig.Result.toNat : Int), .int .i64 x4.1.Locals, vc] :: [Blk g5 40 [.string ⟨⟨x4.1.Name⟩⟩, vb, .int .u8 (x4.1.Sig.Result.toNat : Int), .int .i64 x4.1.Locals, vc], Blk g4 40 [.string ⟨⟨x3.Name⟩⟩, v8, .int .u8 (x3.Sig.Result.toNat : Int), .int .i64 x3.Locals, v9], Blk g2 26 [.string ⟨⟨a0.Name⟩⟩, v0, v7, .slice none 0 0], Blk g1 26 [.string ⟨⟨[]⟩⟩, .slice none 0 0, .slice none 0 0, .slice none 0 0], Sl T_api_Class v0 o0, Sl T_api_Func v7 sl.1]) := (SL.diso (f := t_api_Func) (x := (⟨x4.1.Name, (⟨x4.1.Sig.Params, x4.1.Sig.Result⟩ : S_api_Sig), x4.1.Locals, x4.1.Code⟩ : S_api_Func)) (SL.dpair (SL.dflat (SL.dpair (SL.diso (f := t_api_Sig) (x := (⟨x4.1.Sig.Params, x4.1.Sig.Result⟩ : S_api_Sig)) (SL.dpair (SL.dsl (SL.dflat (SL.dpair (SL.dflat (SL.dsl st.f2) (Flat.int .i64) x4.1.Locals)) Flat.u8 x4.1.Sig.Result).f3)))) Flat.str x4.1.Name)))
   refine Dh F sw Fx.sl23 rfl (by decide) rfl rfl rfl fun vd wk _ F sx => ?_
   obtain ⟨x5, hn, H⟩ := Ap H
   refine Dc F sx.f6 Fx.sl23 rfl rfl rfl rfl rfl rfl hn rfl fun ve wl _ F sy => Aj F (Aa (Ax Fx.fa26_2 rfl rfl) <| Ad) fun _ F => ?_
   have sz := sy.f3
   refine Cq F sz rfl rfl Fx.sz23 (Ct (Bu (sz.own_rd (.tail _ <| .head _)))) (Cd (Bu (sz.own_rd (.tail _ <| .head _)))) rfl fun wm _ F s10 => ?_
   replace s10 : SL w [] wm [Blk g2 26 [.string ⟨⟨a0.Name⟩⟩, v0, ve, .slice none 0 0], Sl T_api_Func ve x5, Blk g5 40 [.string ⟨⟨x4.1.Name⟩⟩, vb, .int .u8 (x4.1.Sig.Result.toNat : Int), .int .i64 x4.1.Locals, vc], Blk g4 40 [.string ⟨⟨x3.Name⟩⟩, v8, .int .u8 (x3.Sig.Result.toNat : Int), .int .i64 x3.Locals, v9], Blk g1 26 [.string ⟨⟨[]⟩⟩, .slice none 0 0, .slice none 0 0, .slice none 0 0], Sl T_api_Class v0 o0] := s10
   refine Ai <| Bz <| Ac <| Ak <| Aj F (Aa (Bq rfl rfl) <| Aa (Af rfl) <| Ad) fun _ F => Ai ?_
   obtain rfl := An H
   refine Ac ?_
   exact ⟨_, rfl, ve, F.sub ⟨rfl, rfl, rfl, rfl, rfl, trivial⟩, s10.f2.drop.f2.drop.f1.f3.f3.f3⟩
  replace H := Bc hb H
  refine Ca <| Bp <| Bp <| Cb ?_
  obtain rfl := An H
  obtain rfl := hr _ rfl
  refine Ac ?_
  exact ⟨_, rfl, v7, F.sub ⟨rfl, rfl, trivial⟩, sm⟩
 intro _ wn hJ
 obtain ⟨p0, rfl, v6, F, s11⟩ := hJ
 have H := R1
 clear R1 H1
 try dsimp only at H
 refine Ac <| Ah <| Ak <| Aj F (Aa (Bj Fx.agg26 rfl (s11.blk_cells (.head _) (o := 0) (ds := [.string ⟨⟨a0.Name⟩⟩, v0, v6, .slice none 0 0]) (fun j u hu => by rw [Nat.zero_add]; exact hu)) rfl) <| Ad) fun _ F => ?_
 have s12 := s11.f1
 refine As F s12 rfl rfl Fx.sz26 (Ae rfl (Ae (Cd (Bu (s12.own_rd (.tail _ <| .tail _ <| .head _)))) (Ae (Cd (Bu (s12.own_rd (.tail _ <| .tail _ <| .tail _ <| .head _)))) (Ae rfl Ba)))) (Ag rfl) fun wo _ F s13 => ?_
 replace s13 : SL w [] wo [Blk g1 26 [.string ⟨⟨a0.Name⟩⟩, v0, v6, .slice none 0 0], Blk g2 26 [.string ⟨⟨a0.Name⟩⟩, v0, v6, .slice none 0 0], Sl T_api_Class v0 o0, Sl T_api_Func v6 p0] := s13
 refine Aj F (Aa (Al rfl) <| Ad) fun _ F => Ai <| Ac ?_
 obtain rfl := An H
 refine Bd ?_
 refine Av (rs := [.cell 2 26, .tmp 3]) (vs := [.agg ⟨[.string ⟨⟨a0.Name⟩⟩, v0, v6, .slice none 0 0]⟩, .int .i64 0]) F (by rfl) ⟨_, _, rfl, Cj s13 (.head _) rfl Fx.agg26 rfl, _, _, rfl, Ay rfl, rfl⟩ ⟨_, rfl, ⟨v0, v6, (.slice none 0 0), rfl, (SL.nilSl (T := (Ty.slice Ty.u8)) s13).f1.drop.f1.drop.f2.f2⟩⟩
-- proviso/provisoref04.wide
theorem provisoref04_wide_c {w : World} {a0 : UInt8} {r : Int × Int}  (H : provisoref04_wide a0 = some r) :
    Calls Tryz.prog 78 #[.int .u8 (a0.toNat : Int)] w (Ret fun u_ w_ => u_ = .tuple ⟨[.int .i64 r.1, .int .i64 r.2]⟩ ∧ SL w [] w_ []) := by
 have s0 : SL w [] w [] := SL.init0 w
 refine Bn Tryz.func78 rfl Tryz.ntmps78 (Ag rfl) (args := [.int .u8 (a0.toNat : Int)]) fun q0 F0 => ?_
 unfold provisoref04_wide at H
 refine Ah <| Ak <| Aj F0 (Aa (Al rfl) <| Aa (Al rfl) <| Ad) fun q3 F4 => Ai <| Ac <| Ah <| Ah <| Ak <| Aj F4 (Aa (Af rfl) <| Ad) fun _ F => Ai <| Ac <| Bh <| Ah <| Ak <| Aj F (Aa (Bw rfl rfl) <| Aa (Al rfl) <| Ad) fun _ F => Ai <| Ac <| Bm F rfl (fun h0 => ?_) (fun h0 => ?_)
 ·replace H := Bb h0 H
  refine Ah <| Ak <| Aj F (Aa (Al rfl) <| Aa (Al rfl) <| Ad) fun _ F => Ai <| Ac ?_
  obtain rfl := An H
  refine Bd <| blk_r <| Bg ?_
  refine Av (rs := [.tmp 2, .tmp 3]) (vs := [.int .i64 4, .int .i64 0]) F (by rfl) ⟨_, _, rfl, Ay rfl, _, _, rfl, Ay rfl, rfl⟩ ⟨_, rfl, ⟨rfl, s0⟩⟩
 replace H := Bc h0 H
 refine Ah ?_
 obtain ⟨o0, H0, R0⟩ := Ap H
 clear H
 refine Bx (fun a w_ => Fr a 22 [(4, .int .u8 (a0.toNat : Int)), (7, .bool o0)] ∧ SL w [] w_ []) ?_ ?_
 ·have H := H0
  refine Ah <| Ak <| Aj F (Aa (Bw rfl rfl) <| Aa (Al rfl) <| Ad) fun _ F => Ai <| Ac <| Bm F rfl (fun h1 => ?_) (fun h1 => ?_)
  ·replace H := Bb h1 H
   refine Aw ?_
   obtain rfl := An H
   refine Ac ?_
   exact ⟨F.sub ⟨rfl, rfl, trivial⟩, s0⟩
  replace H := Bc h1 H
  refine Ak <| Aj F (Aa (Bw rfl rfl) <| Aa (Al rfl) <| Ad) fun _ F => Ai ?_
  obtain rfl := An H
  refine Ac ?_
  exact ⟨F.sub ⟨rfl, rfl, trivial⟩, s0⟩
 intro _ w0 hJ
 obtain ⟨F, s1⟩ := hJ
 have H := R0
 clear R0 H0
 refine Ac <| Bm F rfl (fun h2 => ?_) (fun h2 => ?_)
 ·replace H := Bb h2 H
  refine Ah <| Ak <| Aj F (Aa (Al rfl) <| Aa (Al rfl) <| Ad) fun _ F => Ai <| Ac ?_
  obtain rfl := An H
  refine Bd <| blk_r <| Bg ?_
  refine Av (rs := [.tmp 2, .tmp 3]) (vs := [.int .i64 2, .int .i64 0]) F (by rfl) ⟨_, _, rfl, Ay rfl, _, _, rfl, Ay rfl, rfl⟩ ⟨_, rfl, ⟨rfl, s1⟩⟩
 replace H := Bc h2 H
 refine Ah ?_
 obtain ⟨o1, H1, R1⟩ := Ap H
 clear H
 refine Bx (fun a w_ => Fr a 22 [(4, .int .u8 (a0.toNat : Int)), (10, .bool o1)] ∧ SL w [] w_ []) ?_ ?_
 ·have H := H1
  refine Ah <| Ak <| Aj F (Aa (Bw rfl rfl) <| Aa (Al rfl) <| Ad) fun _ F => Ai <| Ac <| Bm F rfl (fun h3 => ?_) (fun h3 => ?_)
  ·replace H := Bb h3 H
   refine Aw ?_
   obtain rfl := An H
   refine Ac ?_
   exact ⟨F.sub ⟨rfl, rfl, trivial⟩, s1⟩
  replace H := Bc h3 H
  refine Ak <| Aj F (Aa (Bw rfl rfl) <| Aa (Al rfl) <| Ad) fun _ F => Ai ?_
  obtain rfl := An H
  refine Ac ?_
  exact ⟨F.sub ⟨rfl, rfl, trivial⟩, s1⟩
 intro _ w1 hJ
 obtain ⟨F, s2⟩ := hJ
 have H := R1
 clear R1 H1
 refine Ac <| Bm F rfl (fun h4 => ?_) (fun h4 => ?_)
 ·replace H := Bb h4 H
  refine Ah <| Ak <| Aj F (Aa (Al rfl) <| Aa (Al rfl) <| Ad) fun _ F => Ai <| Ac ?_
  obtain rfl := An H
  refine Bd <| blk_r <| Bg ?_
  refine Av (rs := [.tmp 2, .tmp 3]) (vs := [.int .i64 1, .int .i64 1]) F (by rfl) ⟨_, _, rfl, Ay rfl, _, _, rfl, Ay rfl, rfl⟩ ⟨_, rfl, ⟨rfl, s2⟩⟩
 replace H := Bc h4 H
 refine Ah ?_
 obtain ⟨o2, H2, R2⟩ := Ap H
 clear H
 refine Bx (fun a w_ => Fr a 22 [(13, .bool o2)] ∧ SL w [] w_ []) ?_ ?_
 ·have H := H2
  refine Ah <| Ak <| Aj F (Aa (Bw rfl rfl) <| Aa (Al rfl) <| Ad) fun _ F => Ai <| Ac <| Bm F rfl (fun h5 => ?_) (fun h5 => ?_)
  ·replace H := Bb h5 H
   refine Aw ?_
   obtain rfl := An H
   refine Ac ?_
   exact ⟨F.sub ⟨rfl, trivial⟩, s2⟩
  replace H := Bc h5 H
  refine Ah <| Ak <| Aj F (Aa (Bw rfl rfl) <| Aa (Al rfl) <| Ad) fun _ F => Ai <| Ac <| Bm F rfl (fun h6 => ?_) (fun h6 => ?_)
  ·replace H := Bb h6 H
   refine Aw ?_
   obtain rfl := An H
   refine Ac ?_
   exact ⟨F.sub ⟨rfl, trivial⟩, s2⟩
  replace H := Bc h6 H
  refine Ah <| Ak <| Aj F (Aa (Bw rfl rfl) <| Aa (Al rfl) <| Ad) fun _ F => Ai <| Ac <| Bm F rfl (fun h7 => ?_) (fun h7 => ?_)
  ·replace H := Bb h7 H
   refine Aw ?_
   obtain rfl := An H
   refine Ac ?_
   exact ⟨F.sub ⟨rfl, trivial⟩, s2⟩
  replace H := Bc h7 H
  refine Ah <| Ak <| Aj F (Aa (Bw rfl rfl) <| Aa (Al rfl) <| Ad) fun _ F => Ai <| Ac <| Bm F rfl (fun h8 => ?_) (fun h8 => ?_)
  ·replace H := Bb h8 H
   refine Aw ?_
   obtain rfl := An H
   refine Ac ?_
   exact ⟨F.sub ⟨rfl, trivial⟩, s2⟩
  replace H := Bc h8 H
  refine Ah <| Ak <| Aj F (Aa (Bw rfl rfl) <| Aa (Al rfl) <| Ad) fun _ F => Ai <| Ac <| Bm F rfl (fun h9 => ?_) (fun h9 => ?_)
  ·replace H := Bb h9 H
   refine Aw ?_
   obtain rfl := An H
   refine Ac ?_
   exact ⟨F.sub ⟨rfl, trivial⟩, s2⟩
  replace H := Bc h9 H
  refine Ah <| Ak <| Aj F (Aa (Bw rfl rfl) <| Aa (Al rfl) <| Ad) fun _ F => Ai <| Ac <| Bm F rfl (fun ha => ?_) (fun ha => ?_)
  ·replace H := Bb ha H
   refine Aw ?_
   obtain rfl := An H
   refine Ac ?_
   exact ⟨F.sub ⟨rfl, trivial⟩, s2⟩
  replace H := Bc ha H
  refine Ah <| Ak <| Aj F (Aa (Bw rfl rfl) <| Aa (Al rfl) <| Ad) fun _ F => Ai <| Ac <| Bm F rfl (fun hb => ?_) (fun hb => ?_)
  ·replace H := Bb hb H
   refine Aw ?_
   obtain rfl := An H
   refine Ac ?_
   exact ⟨F.sub ⟨rfl, trivial⟩, s2⟩
  replace H := Bc hb H
  refine Ak <| Aj F (Aa (Bw rfl rfl) <| Aa (Al rfl) <| Ad) fun _ F => Ai ?_
  obtain rfl := An H
  refine Ac ?_
  exact ⟨F.sub ⟨rfl, trivial⟩, s2⟩
 intro _ w2 hJ
 obtain ⟨F, s3⟩ := hJ
 have H := R2
 clear R2 H2
 refine Ac <| Bm F rfl (fun hc => ?_) (fun hc => ?_)
 ·replace H := Bb hc H
  refine Ah <| Ak <| Aj F (Aa (Al rfl) <| Aa (Al rfl) <| Ad) fun _ F => Ai <| Ac ?_
  obtain rfl := An H
  refine Bd <| blk_r <| Bg ?_
  refine Av (rs := [.tmp 2, .tmp 3]) (vs := [.int .i64 1, .int .i64 0]) F (by rfl) ⟨_, _, rfl, Ay rfl, _, _, rfl, Ay rfl, rfl⟩ ⟨_, rfl, ⟨rfl, s3⟩⟩
 replace H := Bc hc H
 refine Aw <| Bz <| Ac <| Ah <| Ak <| Aj F (Aa (Al rfl) <| Aa (Al rfl) <| Ad) fun _ F => Ai <| Ac ?_
 obtain rfl := An H
 refine Bd ?_
 refine Av (rs := [.tmp 2, .tmp 3]) (vs := [.int .i64 0, .int .i64 0]) F (by rfl) ⟨_, _, rfl, Ay rfl, _, _, rfl, Ay rfl, rfl⟩ ⟨_, rfl, ⟨rfl, s3⟩⟩
-- proviso/provisoref04.Size
theorem provisoref04_Size_c {w : World} {a0 : UInt8} {r : Int}  (H : provisoref04_Size a0 = some r) :
    Calls Tryz.prog 68 #[.int .u8 (a0.toNat : Int)] w (Ret fun u_ w_ => u_ = .int .i64 r ∧ SL w [] w_ []) := by
 have s0 : SL w [] w [] := SL.init0 w
 refine Bn Tryz.func68 rfl Tryz.ntmps68 (Ag rfl) (args := [.int .u8 (a0.toNat : Int)]) fun q0 F0 => ?_
 unfold provisoref04_Size at H
 refine Ah <| Ak <| Aj F0 (Aa (Al rfl) <| Ad) fun q3 F4 => Ai <| Ac <| Ah <| Ah <| Ak <| Aj F4 (Aa (Af rfl) <| Aa (ex_ge rfl rfl) <| Ad) fun _ F => Ai <| Ac <| Bm F rfl (fun h0 => ?_) (fun h0 => ?_)
 ·replace H := Bb h0 H
  refine Ah <| Ak <| Aj F (Aa (Al rfl) <| Ad) fun _ F => Ai <| Ac ?_
  obtain rfl := An H
  refine Bd <| Bg ?_
  refine Av (rs := [.tmp 2]) (vs := [.int .i64 0]) F (by rfl) ⟨_, _, rfl, Ay rfl, rfl⟩ ⟨_, rfl, ⟨rfl, s0⟩⟩
 replace H := Bc h0 H
 refine Aw <| Ac <| Ah <| Ak ?_
 obtain ⟨x0, h1, H⟩ := Ap H
 refine Aj F (Aa (Af rfl) <| Ad) fun _ F => Bk (args := [.tmp 8]) F Fx.fn78 rfl (provisoref04_wide_c (a0 := a0)    h1) rfl fun v0 w0 _ h2 F => ?_
 obtain ⟨rfl, h3⟩ := h2
 have s1 := s0.add h3
 refine Aj F (Aa (Af rfl) <| Aa (Au (v := .int .i64 x0.1) rfl rfl) <| Aa (Au (v := .int .i64 x0.2) rfl rfl) <| Aa (Al rfl) <| Aa (Al rfl) <| Ad) fun _ F => Ai <| Ac <| Ah <| Ak <| Aj F (Aa (Af rfl) <| Aa (Bq rfl rfl) <| Aa (Af rfl) <| Aa (Bq rfl rfl) <| Aa (Al rfl) <| Ad) fun _ F => Ai <| Ac ?_
 obtain rfl := An H
 refine Bd ?_
 refine Av (rs := [.tmp 2]) (vs := [.int .i64 (wr ((wr (1 + x0.1)) + x0.2))]) F (by rfl) ⟨_, _, rfl, Ay rfl, rfl⟩ ⟨_, rfl, ⟨rfl, s1⟩⟩
-- proviso/provisoref04.take
theorem provisoref04_take_c {w : World} {v0 : Value} {a0 : List UInt8} {a1 : Int} {r : Int} (hr0 : Rd Ty.u8 w [] v0 a0) (H : provisoref04_take a0 a1 = some r) :
    Calls Tryz.prog 83 #[v0, .int .i64 a1] w (Ret fun u_ w_ => u_ = .int .i64 r ∧ SL w [] w_ []) := by
 have s0 : SL w [] w [] := SL.init0 w
 refine Bn Tryz.func83 rfl Tryz.ntmps83 (Ag rfl) (args := [v0, .int .i64 a1]) fun q0 F0 => ?_
 unfold provisoref04_take at H
 refine Ah <| Ak <| Aj F0 (Aa (Al rfl) <| Ad) fun q3 F4 => Ai <| Ac <| Ah <| Ak <| Aj F4 (Aa (Al rfl) <| Ad) fun q7 F8 => Ai <| Ac <| Ah <| Ah <| Ak <| Aj F8 (Aa (Al rfl) <| Ad) fun _ F => Ai <| Ac ?_
 obtain ⟨o0, H0, R0⟩ := Ap H
 clear H
 refine Bx (fun a w_ => Fr a 29 [(1, .int .i64 a1), (5, .int .i64 o0)] ∧ SL w [] w_ []) ?_ ?_
 ·have H := H0
  refine Bh <| Cu (provisoref04_take_b0 a0 a1) (fun s1 a w_ => Fr a 29 [(0, v0), (1, .int .i64 a1), (5, .int .i64 s1.1), (6, .int .i64 s1.2)] ∧ SL w [] w_ []) H ?_ ?_
  ·exact ⟨F.sub ⟨rfl, rfl, rfl, rfl, trivial⟩, s0⟩
  intro s1 _ w0 h0 o1 H hr
  obtain ⟨F, s2⟩ := h0
  replace H : provisoref04_take_b0 a0 a1 s1 = some o1 := H
  unfold provisoref04_take_b0 at H
  refine Ah <| Ah <| Ak <| Aj F (Aa (Af rfl) <| Aa (Af rfl) <| Aa (Cr rfl rfl) <| Ad) fun _ F => Ai <| Ac <| Bm F rfl (fun h1 => ?_) (fun h1 => ?_)
  ·replace H := Bb h1 H
   refine Aw <| Ac <| Ah <| Bh <| Ak ?_
   obtain ⟨x0, h2, H⟩ := Ap H
   obtain ⟨a2, h3, h4⟩ := Dg Flat.u8 (Cv hr0 s2) Fx.sl38 rfl h2
   refine Aj F (Aa (Af rfl) <| Aa (ex_mul rfl rfl) <| Aa (Af rfl) <| Aa (Af rfl) <| Aa (h3 _ _ _ _ _ _ _ _ _ _ rfl rfl) <| Aa (Az Fx.nag5 rfl (Cells.at_ h4 (o := 0) rfl)) <| Aa (ex_cv864 rfl Tryz.underlying5 Tryz.underlying3) <| Aa (Bq rfl rfl) <| Aa (Al rfl) <| Ad) fun _ F => Ai <| Bz <| Ac <| Ak <| Aj F (Aa (Af rfl) <| Aa (Bq rfl rfl) <| Aa (Al rfl) <| Ad) fun _ F => Ai ?_
   obtain rfl := An H
   refine Ac ?_
   exact ⟨_, rfl, F.sub ⟨rfl, rfl, rfl, rfl, trivial⟩, s2⟩
  replace H := Bc h1 H
  refine Ca <| Bp <| Bp <| Cb ?_
  obtain rfl := An H
  obtain rfl := hr _ rfl
  refine Ac ?_
  exact ⟨F.sub ⟨rfl, rfl, trivial⟩, s2⟩
 intro _ w1 hJ
 obtain ⟨F, s3⟩ := hJ
 have H := R0
 clear R0 H0
 refine Ac <| Ah <| Ah <| Ak <| Aj F (Aa (Af rfl) <| Aa (Bw rfl rfl) <| Aa (Af rfl) <| Ad) fun _ F => Bl (a1 == 4) (fun h5 => ?_) (fun h5 => ?_)
 ·replace H := Bb h5 H
  refine Aq F rfl rfl (Am rfl h5) (Af rfl) rfl rfl fun _ F => Aq F rfl rfl (Am rfl h5) (ex_gt rfl rfl) rfl rfl fun _ F => Aj F (Aa (Bf (By rfl h5) rfl) <| Ad) fun _ F => Ai <| Ac <| Bm F rfl (fun h6 => ?_) (fun h6 => ?_)
  ·replace H := Bb h6 H
   refine Ak <| Aj F (Aa (Af rfl) <| Aa (ex_sub rfl rfl) <| Aa (Al rfl) <| Ad) fun _ F => Ai <| Ac <| Ah <| Ak <| Aj F (Aa (Af rfl) <| Aa (Al rfl) <| Ad) fun _ F => Ai <| Ac ?_
   obtain rfl := An H
   refine Bd ?_
   refine Av (rs := [.tmp 4]) (vs := [.int .i64 (wr (o0 - 4294967296))]) F (by rfl) ⟨_, _, rfl, Ay rfl, rfl⟩ ⟨_, rfl, ⟨rfl, s3⟩⟩
  replace H := Bc h6 H
  refine Aw <| Ac <| Ah <| Ak <| Aj F (Aa (Af rfl) <| Aa (Al rfl) <| Ad) fun _ F => Ai <| Ac ?_
  obtain rfl := An H
  refine Bd ?_
  refine Av (rs := [.tmp 4]) (vs := [.int .i64 o0]) F (by rfl) ⟨_, _, rfl, Ay rfl, rfl⟩ ⟨_, rfl, ⟨rfl, s3⟩⟩
 replace H := Bc h5 H
 refine Ao F rfl rfl (Am rfl h5) Ab rfl rfl fun _ F => Ao F rfl rfl (Am rfl h5) Ab rfl rfl fun _ F => Aj F (Aa (Bi (By rfl h5) rfl) <| Ad) fun _ F => Ai <| Ac <| Cm F rfl <| Aw <| Ac <| Ah <| Ak <| Aj F (Aa (Af rfl) <| Aa (Al rfl) <| Ad) fun _ F => Ai <| Ac ?_
 obtain rfl := An H
 refine Bd ?_
 refine Av (rs := [.tmp 4]) (vs := [.int .i64 o0]) F (by rfl) ⟨_, _, rfl, Ay rfl, rfl⟩ ⟨_, rfl, ⟨rfl, s3⟩⟩
-- proviso/provisoref04.Decode
theorem provisoref04_Decode_c {w : World} {v0 : Value} {a0 : List UInt8} {a1 : Int} {r : S_api_Instr × Int} (hr0 : Rd Ty.u8 w [] v0 a0) (H : provisoref04_Decode a0 a1 = some r) :
    Calls Tryz.prog 75 #[v0, .int .i64 a1] w (Ret fun u_ w_ => u_ = .tuple ⟨[.agg ⟨[.int .i64 r.1.At, .int .u8 (r.1.Op.toNat : Int), .int .i64 r.1.A, .int .i64 r.1.B]⟩, .int .i64 r.2]⟩ ∧ SL w [] w_ []) := by
 have s0 : SL w [] w [] := SL.init0 w
 refine Bn Tryz.func75 rfl Tryz.ntmps75 (Ag rfl) (args := [v0, .int .i64 a1]) fun q0 F0 => ?_
 unfold provisoref04_Decode at H
 refine Ah <| Ak <| Bo F0 s0 Fx.zero79 rfl rfl fun g9 w0 _ F s1 => Aj F (Aa (Al rfl) <| Ad) fun _ F => Ai <| Ac <| Ah <| Ak <| Bo F s1 Fx.zero79 rfl rfl fun g0 w1 _ F s2 => Ai <| Ac <| Ah <| Ah <| Ak <| Aj F (Aa (Af rfl) <| Aa (Cr rfl rfl) <| Aa (Af rfl) <| Ad) fun _ F => Bl (decide (a1 < 0)) (fun h0 => ?_) (fun h0 => ?_)
 ·replace H := Bb h0 H
  refine Ao F rfl rfl (Am rfl h0) Ab rfl rfl fun _ F => Ao F rfl rfl (Am rfl h0) Ab rfl rfl fun _ F => Ao F rfl rfl (Am rfl h0) Ab rfl rfl fun _ F => Ao F rfl rfl (Am rfl h0) Ab rfl rfl fun _ F => Aj F (Aa (Bf (By rfl h0) rfl) <| Ad) fun _ F => Ai <| Ac <| Cz F rfl <| Ah <| Ak <| Aj F (Aa (Bj Fx.agg79 rfl (s2.blk_cells (.head _) (o := 0) (ds := [.int .i64 0, .int .u8 0, .int .i64 0, .int .i64 0]) (fun j u hu => by rw [Nat.zero_add]; exact hu)) rfl) <| Ad) fun _ F => ?_
  have s3 := s2.f1
  refine As F s3 rfl rfl Fx.sz79 (Ae rfl (Ae rfl (Ae rfl (Ae rfl Ba)))) (Ag rfl) fun w2 _ F s4 => ?_
  replace s4 : SL w [] w2 [Blk g9 79 [.int .i64 0, .int .u8 0, .int .i64 0, .int .i64 0], Blk g0 79 [.int .i64 0, .int .u8 0, .int .i64 0, .int .i64 0]] := s4
  refine Aj F (Aa (Al rfl) <| Ad) fun _ F => Ai <| Ac ?_
  obtain rfl := An H
  refine Bd <| Bg ?_
  refine Av (rs := [.cell 4 79, .tmp 5]) (vs := [.agg ⟨[.int .i64 0, .int .u8 0, .int .i64 0, .int .i64 0]⟩, .int .i64 1]) F (by rfl) ⟨_, _, rfl, Cj s4 (.head _) rfl Fx.agg79 rfl, _, _, rfl, Ay rfl, rfl⟩ ⟨_, rfl, ⟨rfl, s4.drop.drop⟩⟩
 replace H := Bc h0 H
 refine Aq F rfl rfl (Am rfl h0) (Af rfl) rfl rfl fun _ F => Aq F rfl rfl (Am rfl h0) (Af rfl) rfl rfl fun _ F => Aq F rfl rfl (Am rfl h0) (Cc rfl Tryz.underlying38 (Bu (Cv hr0 s2))) rfl rfl fun _ F => Aq F rfl rfl (Am rfl h0) (ex_gt rfl rfl) rfl rfl fun _ F => Aj F (Aa (Bi (By rfl h0) rfl) <| Ad) fun _ F => Ai <| Ac <| Bm F rfl (fun h1 => ?_) (fun h1 => ?_)
 ·replace H := Bb h1 H
  refine Ah <| Ak <| Aj F (Aa (Bj Fx.agg79 rfl (s2.blk_cells (.head _) (o := 0) (ds := [.int .i64 0, .int .u8 0, .int .i64 0, .int .i64 0]) (fun j u hu => by rw [Nat.zero_add]; exact hu)) rfl) <| Ad) fun _ F => ?_
  have s5 := s2.f1
  refine As F s5 rfl rfl Fx.sz79 (Ae rfl (Ae rfl (Ae rfl (Ae rfl Ba)))) (Ag rfl) fun w3 _ F s6 => ?_
  replace s6 : SL w [] w3 [Blk g9 79 [.int .i64 0, .int .u8 0, .int .i64 0, .int .i64 0], Blk g0 79 [.int .i64 0, .int .u8 0, .int .i64 0, .int .i64 0]] := s6
  refine Aj F (Aa (Al rfl) <| Ad) fun _ F => Ai <| Ac ?_
  obtain rfl := An H
  refine Bd <| Bg ?_
  refine Av (rs := [.cell 4 79, .tmp 5]) (vs := [.agg ⟨[.int .i64 0, .int .u8 0, .int .i64 0, .int .i64 0]⟩, .int .i64 1]) F (by rfl) ⟨_, _, rfl, Cj s6 (.head _) rfl Fx.agg79 rfl, _, _, rfl, Ay rfl, rfl⟩ ⟨_, rfl, ⟨rfl, s6.drop.drop⟩⟩
 replace H := Bc h1 H
 refine Aw <| Ac <| Ah <| Ah <| Ak <| Aj F (Aa (Af rfl) <| Aa (Af rfl) <| Aa (Cc rfl Tryz.underlying38 (Bu (Cv hr0 s2))) <| Aa (Bw rfl rfl) <| Ad) fun _ F => Ai <| Ac <| Bm F rfl (fun h2 => ?_) (fun h2 => ?_)
 ·replace H := Bb h2 H
  refine Ah <| Ak <| Aj F (Aa (Bj Fx.agg79 rfl (s2.blk_cells (.head _) (o := 0) (ds := [.int .i64 0, .int .u8 0, .int .i64 0, .int .i64 0]) (fun j u hu => by rw [Nat.zero_add]; exact hu)) rfl) <| Ad) fun _ F => ?_
  have s7 := s2.f1
  refine As F s7 rfl rfl Fx.sz79 (Ae rfl (Ae rfl (Ae rfl (Ae rfl Ba)))) (Ag rfl) fun w4 _ F s8 => ?_
  replace s8 : SL w [] w4 [Blk g9 79 [.int .i64 0, .int .u8 0, .int .i64 0, .int .i64 0], Blk g0 79 [.int .i64 0, .int .u8 0, .int .i64 0, .int .i64 0]] := s8
  refine Aj F (Aa (Al rfl) <| Ad) fun _ F => Ai <| Ac ?_
  obtain rfl := An H
  refine Bd <| Bg ?_
  refine Av (rs := [.cell 4 79, .tmp 5]) (vs := [.agg ⟨[.int .i64 0, .int .u8 0, .int .i64 0, .int .i64 0]⟩, .int .i64 2]) F (by rfl) ⟨_, _, rfl, Cj s8 (.head _) rfl Fx.agg79 rfl, _, _, rfl, Ay rfl, rfl⟩ ⟨_, rfl, ⟨rfl, s8.drop.drop⟩⟩
 replace H := Bc h2 H
 refine Aw <| Ac <| Ah <| Ak ?_
 obtain ⟨x0, h3, H⟩ := Ap H
 obtain ⟨a2, h4, h5⟩ := Dg Flat.u8 (Cv hr0 s2) Fx.sl38 rfl h3
 refine Aj F (Aa (Af rfl) <| Aa (Af rfl) <| Aa (h4 _ _ _ _ _ _ _ _ _ _ rfl rfl) <| Aa (Az Fx.nag5 rfl (Cells.at_ h5 (o := 0) rfl)) <| Aa (Al rfl) <| Ad) fun _ F => Ai <| Ac <| Ah <| Ak ?_
 obtain ⟨x1, h6, H⟩ := Ap H
 refine Aj F (Aa (Af rfl) <| Ad) fun _ F => Bk (args := [.tmp 30]) F Fx.fn68 rfl (provisoref04_Size_c (a0 := x0)    h6) rfl fun v1 w5 _ h7 F => ?_
 obtain ⟨rfl, h8⟩ := h7
 have s9 := s2.add h8
 refine Aj F (Aa (Al rfl) <| Ad) fun _ F => Ai <| Ac <| Ah <| Ah <| Ak <| Aj F (Aa (Af rfl) <| Aa (Bw rfl rfl) <| Ad) fun _ F => Ai <| Ac <| Bm F rfl (fun h9 => ?_) (fun h9 => ?_)
 ·replace H := Bb h9 H
  refine Ah <| Ak <| Aj F (Aa (Bj Fx.agg79 rfl (s9.blk_cells (.head _) (o := 0) (ds := [.int .i64 0, .int .u8 0, .int .i64 0, .int .i64 0]) (fun j u hu => by rw [Nat.zero_add]; exact hu)) rfl) <| Ad) fun _ F => ?_
  have sa := s9.f1
  refine As F sa rfl rfl Fx.sz79 (Ae rfl (Ae rfl (Ae rfl (Ae rfl Ba)))) (Ag rfl) fun w6 _ F sb => ?_
  replace sb : SL w [] w6 [Blk g9 79 [.int .i64 0, .int .u8 0, .int .i64 0, .int .i64 0], Blk g0 79 [.int .i64 0, .int .u8 0, .int .i64 0, .int .i64 0]] := sb
  refine Aj F (Aa (Al rfl) <| Ad) fun _ F => Ai <| Ac ?_
  obtain rfl := An H
  refine Bd <| Bg ?_
  refine Av (rs := [.cell 4 79, .tmp 5]) (vs := [.agg ⟨[.int .i64 0, .int .u8 0, .int .i64 0, .int .i64 0]⟩, .int .i64 40]) F (by rfl) ⟨_, _, rfl, Cj sb (.head _) rfl Fx.agg79 rfl, _, _, rfl, Ay rfl, rfl⟩ ⟨_, rfl, ⟨rfl, sb.drop.drop⟩⟩
 replace H := Bc h9 H
 refine Aw <| Ac <| Ah <| Ah <| Ak <| Aj F (Aa (Af rfl) <| Aa (Cc rfl Tryz.underlying38 (Bu (Cv hr0 s9))) <| Aa (Af rfl) <| Aa (ex_sub rfl rfl) <| Aa (Af rfl) <| Aa (Cr rfl rfl) <| Ad) fun _ F => Ai <| Ac <| Bm F rfl (fun ha => ?_) (fun ha => ?_)
 ·replace H := Bb ha H
  refine Ah <| Ak <| Aj F (Aa (Bj Fx.agg79 rfl (s9.blk_cells (.head _) (o := 0) (ds := [.int .i64 0, .int .u8 0, .int .i64 0, .int .i64 0]) (fun j u hu => by rw [Nat.zero_add]; exact hu)) rfl) <| Ad) fun _ F => ?_
  have sc := s9.f1
  refine As F sc rfl rfl Fx.sz79 (Ae rfl (Ae rfl (Ae rfl (Ae rfl Ba)))) (Ag rfl) fun w7 _ F sd => ?_
  replace sd : SL w [] w7 [Blk g9 79 [.int .i64 0, .int .u8 0, .int .i64 0, .int .i64 0], Blk g0 79 [.int .i64 0, .int .u8 0, .int .i64 0, .int .i64 0]] := sd
  refine Aj F (Aa (Al rfl) <| Ad) fun _ F => Ai <| Ac ?_
  obtain rfl := An H
  refine Bd <| Bg ?_
  refine Av (rs := [.cell 4 79, .tmp 5]) (vs := [.agg ⟨[.int .i64 0, .int .u8 0, .int .i64 0, .int .i64 0]⟩, .int .i64 2]) F (by rfl) ⟨_, _, rfl, Cj sd (.head _) rfl Fx.agg79 rfl, _, _, rfl, Ay rfl, rfl⟩ ⟨_, rfl, ⟨rfl, sd.drop.drop⟩⟩
 replace H := Bc ha H
 refine Aw <| Ac <| Ah <| Ak ?_
 obtain ⟨x2, hb, H⟩ := Ap H
 refine Aj F (Aa (Af rfl) <| Ad) fun _ F => Bk (args := [.tmp 43]) F Fx.fn78 rfl (provisoref04_wide_c (a0 := x0)    hb) rfl fun v2 w8 _ hc F => ?_
 obtain ⟨rfl, hd⟩ := hc
 have se := s9.add hd
 refine Aj F (Aa (Af rfl) <| Aa (Au (v := .int .i64 x2.1) rfl rfl) <| Aa (Au (v := .int .i64 x2.2) rfl rfl) <| Aa (Al rfl) <| Aa (Al rfl) <| Ad) fun _ F => Ai <| Ac <| Ah ?_
 obtain ⟨o0, H0, R0⟩ := Ap H
 clear H
 refine Bx (fun a w_ => ∃ g1 : Nat, Fr a 73 [(4, .pointer (some ⟨g9, 0, none⟩)), (6, .pointer (some ⟨g0, 0, none⟩)), (7, .int .u8 (x0.toNat : Int)), (11, .pointer (some ⟨g1, 0, none⟩))] ∧ SL w [] w_ [Blk g0 79 [.int .i64 0, .int .u8 0, .int .i64 0, .int .i64 0], Blk g9 79 [.int .i64 0, .int .u8 0, .int .i64 0, .int .i64 0], Blk g1 79 [.int .i64 a1, .int .u8 (x0.toNat : Int), .int .i64 o0.1, .int .i64 o0.2]]) ?_ ?_
 ·have H := H0
  obtain ⟨x3, he, H⟩ := Ap H
  obtain ⟨x4, hf, H⟩ := Ap H
  obtain ⟨x5, hg, H⟩ := Ap H
  obtain ⟨x6, hh, H⟩ := Ap H
  refine Dj Fx.mixed (fun w_ => SL w [] w_ [Blk g0 79 [.int .i64 0, .int .u8 0, .int .i64 0, .int .i64 0], Blk g9 79 [.int .i64 0, .int .u8 0, .int .i64 0, .int .i64 0]]) ?_
  have sf := se.drew
  have sg : SL w [] _ [Blk g0 79 [.int .i64 0, .int .u8 0, .int .i64 0, .int .i64 0], Blk g9 79 [.int .i64 0, .int .u8 0, .int .i64 0, .int .i64 0]] := sf
  refine Bv (i := 0) rfl (by kernel_rfl) (by kernel_rfl) (by kernel_rfl) (fun _ hC => Af rfl) rfl rfl rfl F sg fun _ F => ?_
  refine Bv (i := 1) rfl (by kernel_rfl) (by kernel_rfl) (by kernel_rfl) (fun _ hC => Af rfl) rfl rfl rfl F sg fun _ F => ?_
  refine Bv (i := 2) rfl (by kernel_rfl) (by kernel_rfl) (by kernel_rfl) (fun _ hC => Af rfl) rfl rfl rfl F sg fun _ F => ?_
  refine Bv (i := 3) rfl (by kernel_rfl) (by kernel_rfl) (by kernel_rfl) (fun _ hC => Af rfl) rfl rfl rfl F sg fun _ F => ?_
  refine Bv (i := 4) rfl (by kernel_rfl) (by kernel_rfl) (by kernel_rfl) (fun _ hC => Bq rfl rfl) rfl rfl rfl F sg fun _ F => ?_
  obtain ⟨v3, hi, hj⟩ := Rd.cut hr0 Fx.sl38 rfl he (some (wr (a1 + 1))) none (.inl rfl) (.inr ⟨rfl, rfl⟩)
  refine Bv (i := 5) rfl (by kernel_rfl) (by kernel_rfl) (by kernel_rfl) (fun _ hC => hi _ _ _ _ _ .i64 .i64 _ _ _ _ _ rfl rfl trivial) rfl rfl rfl F sg fun _ F => ?_
  refine Bv (i := 6) rfl (by kernel_rfl) (by kernel_rfl) (by kernel_rfl) (fun _ hC => Af rfl) rfl rfl rfl F sg fun _ F => ?_
  refine Bv (i := 8) rfl (by kernel_rfl) (by kernel_rfl) (by kernel_rfl) (fun _ hC => Af rfl) rfl rfl rfl F sg fun _ F => ?_
  refine Bv (i := 9) rfl (by kernel_rfl) (by kernel_rfl) (by kernel_rfl) (fun _ hC => Af rfl) rfl rfl rfl F sg fun _ F => ?_
  refine Bv (i := 10) rfl (by kernel_rfl) (by kernel_rfl) (by kernel_rfl) (fun _ hC => Bq rfl rfl) rfl rfl rfl F sg fun _ F => ?_
  refine Bv (i := 11) rfl (by kernel_rfl) (by kernel_rfl) (by kernel_rfl) (fun _ hC => Af rfl) rfl rfl rfl F sg fun _ F => ?_
  refine Bv (i := 12) rfl (by kernel_rfl) (by kernel_rfl) (by kernel_rfl) (fun _ hC => Bq rfl rfl) rfl rfl rfl F sg fun _ F => ?_
  obtain ⟨v4, hk, hl⟩ := Rd.cut hr0 Fx.sl38 rfl hg (some (wr ((wr (a1 + 1)) + x2.1))) none (.inl rfl) (.inr ⟨rfl, rfl⟩)
  refine Bv (i := 13) rfl (by kernel_rfl) (by kernel_rfl) (by kernel_rfl) (fun _ hC => hk _ _ _ _ _ .i64 .i64 _ _ _ _ _ rfl rfl trivial) rfl rfl rfl F sg fun _ F => ?_
  refine Bv (i := 14) rfl (by kernel_rfl) (by kernel_rfl) (by kernel_rfl) (fun _ hC => Af rfl) rfl rfl rfl F sg fun _ F => ?_
  refine Cl (rs := [7, 17]) (by kernel_rfl) (by decide) (Bs (Br rfl ?_) (Bs (Br rfl ?_) (Co)))
  ·refine Bk (args := [.tmp 52, .tmp 53]) F Fx.fn83 rfl (provisoref04_take_c (a0 := x3) (a1 := x2.1)   (hj.pass0 sf) hf) rfl fun v5 w9 _ hm F => ?_
   obtain ⟨rfl, hn⟩ := hm
   have sh := sf.add hn
   have si : SL w [] _ [Blk g0 79 [.int .i64 0, .int .u8 0, .int .i64 0, .int .i64 0], Blk g9 79 [.int .i64 0, .int .u8 0, .int .i64 0, .int .i64 0]] := sh
   refine Ar ⟨si, ?_⟩
   refine Cl (rs := [15, 17]) (by kernel_rfl) (by decide) (Bs (Br rfl ?_) (Bs (Br rfl ?_) (Co)))
   ·refine Bk (args := [.tmp 60, .tmp 61]) F Fx.fn83 rfl (provisoref04_take_c (a0 := x5) (a1 := x2.2)   (hl.pass0 sh) hh) rfl fun v6 wa _ ho F => ?_
    obtain ⟨rfl, hp⟩ := ho
    have sj := sh.add hp
    have sk : SL w [] _ [Blk g0 79 [.int .i64 0, .int .u8 0, .int .i64 0, .int .i64 0], Blk g9 79 [.int .i64 0, .int .u8 0, .int .i64 0, .int .i64 0]] := sj
    refine Ar ⟨sk, ?_⟩
    refine Cl (rs := [16, 17]) (by kernel_rfl) (by decide) (Bs (Br rfl ?_) (Bs (Br rfl ?_) (Co)))
    ·refine Bt F (Cn (vs := [.int .i64 a1, .int .u8 (x0.toNat : Int), .int .i64 x4, .int .i64 x6]) Fx.zero79 Fx.pl79 rfl (cs := [.int .i64 a1, .int .u8 (x0.toNat : Int), .int .i64 x4, .int .i64 x6]) (rfl)) rfl rfl rfl fun _ F => ?_
     have sl : SL w [] _ [Blk g0 79 [.int .i64 0, .int .u8 0, .int .i64 0, .int .i64 0], Blk g9 79 [.int .i64 0, .int .u8 0, .int .i64 0, .int .i64 0]] := sj
     refine Ar ⟨sl, ?_⟩
     refine Be (i := 17) rfl (by kernel_rfl) ?_
     refine Bo F sj Fx.zero79 rfl rfl fun g2 wb _ F sm => ?_
     have sn : SL w [] _ [Blk g0 79 [.int .i64 0, .int .u8 0, .int .i64 0, .int .i64 0], Blk g9 79 [.int .i64 0, .int .u8 0, .int .i64 0, .int .i64 0]] := sm.drop
     refine Ar ⟨sn, ?_⟩
     refine Be (i := 18) rfl (by kernel_rfl) ?_
     have so := sm
     refine As F so rfl rfl Fx.sz79 (Ae rfl (Ae rfl (Ae rfl (Ae rfl Ba)))) (Ag rfl) fun wc _ F sp => ?_
     replace sp : SL w [] wc [Blk g2 79 [.int .i64 a1, .int .u8 (x0.toNat : Int), .int .i64 x4, .int .i64 x6], Blk g0 79 [.int .i64 0, .int .u8 0, .int .i64 0, .int .i64 0], Blk g9 79 [.int .i64 0, .int .u8 0, .int .i64 0, .int .i64 0]] := sp
     have sq : SL w [] _ [Blk g0 79 [.int .i64 0, .int .u8 0, .int .i64 0, .int .i64 0], Blk g9 79 [.int .i64 0, .int .u8 0, .int .i64 0, .int .i64 0]] := sp.drop
     refine Ar ⟨sq, ?_⟩
     refine Ce (by kernel_rfl) ?_
     obtain rfl := An H
     refine Ac ?_
     exact ⟨g2, F.sub ⟨rfl, rfl, rfl, rfl, trivial⟩, sp.f2.f2⟩
    refine Bo F sj Fx.zero79 rfl rfl fun g3 wd _ F sr => ?_
    have ss : SL w [] _ [Blk g0 79 [.int .i64 0, .int .u8 0, .int .i64 0, .int .i64 0], Blk g9 79 [.int .i64 0, .int .u8 0, .int .i64 0, .int .i64 0]] := sr.drop
    refine Ar ⟨ss, ?_⟩
    refine Be (i := 16) rfl (by kernel_rfl) ?_
    refine Bt F (Cn (vs := [.int .i64 a1, .int .u8 (x0.toNat : Int), .int .i64 x4, .int .i64 x6]) Fx.zero79 Fx.pl79 rfl (cs := [.int .i64 a1, .int .u8 (x0.toNat : Int), .int .i64 x4, .int .i64 x6]) (rfl)) rfl rfl rfl fun _ F => ?_
    have st : SL w [] _ [Blk g0 79 [.int .i64 0, .int .u8 0, .int .i64 0, .int .i64 0], Blk g9 79 [.int .i64 0, .int .u8 0, .int .i64 0, .int .i64 0]] := sr.drop
    refine Ar ⟨st, ?_⟩
    refine Be (i := 18) rfl (by kernel_rfl) ?_
    have su := sr
    refine As F su rfl rfl Fx.sz79 (Ae rfl (Ae rfl (Ae rfl (Ae rfl Ba)))) (Ag rfl) fun we _ F sv => ?_
    replace sv : SL w [] we [Blk g3 79 [.int .i64 a1, .int .u8 (x0.toNat : Int), .int .i64 x4, .int .i64 x6], Blk g0 79 [.int .i64 0, .int .u8 0, .int .i64 0, .int .i64 0], Blk g9 79 [.int .i64 0, .int .u8 0, .int .i64 0, .int .i64 0]] := sv
    have sw : SL w [] _ [Blk g0 79 [.int .i64 0, .int .u8 0, .int .i64 0, .int .i64 0], Blk g9 79 [.int .i64 0, .int .u8 0, .int .i64 0, .int .i64 0]] := sv.drop
    refine Ar ⟨sw, ?_⟩
    refine Ce (by kernel_rfl) ?_
    obtain rfl := An H
    refine Ac ?_
    exact ⟨g3, F.sub ⟨rfl, rfl, rfl, rfl, trivial⟩, sv.f2.f2⟩
   refine Bo F sh Fx.zero79 rfl rfl fun g4 wf _ F sx => ?_
   have sy : SL w [] _ [Blk g0 79 [.int .i64 0, .int .u8 0, .int .i64 0, .int .i64 0], Blk g9 79 [.int .i64 0, .int .u8 0, .int .i64 0, .int .i64 0]] := sx.drop
   refine Ar ⟨sy, ?_⟩
   refine Be (i := 15) rfl (by kernel_rfl) ?_
   refine Bk (args := [.tmp 60, .tmp 61]) F Fx.fn83 rfl (provisoref04_take_c (a0 := x5) (a1 := x2.2)   (hl.pass0 sx) hh) rfl fun v7 wg _ hq F => ?_
   obtain ⟨rfl, hr⟩ := hq
   have sz := sx.add hr
   have s10 : SL w [] _ [Blk g0 79 [.int .i64 0, .int .u8 0, .int .i64 0, .int .i64 0], Blk g9 79 [.int .i64 0, .int .u8 0, .int .i64 0, .int .i64 0]] := sz.drop
   refine Ar ⟨s10, ?_⟩
   refine Be (i := 16) rfl (by kernel_rfl) ?_
   refine Bt F (Cn (vs := [.int .i64 a1, .int .u8 (x0.toNat : Int), .int .i64 x4, .int .i64 x6]) Fx.zero79 Fx.pl79 rfl (cs := [.int .i64 a1, .int .u8 (x0.toNat : Int), .int .i64 x4, .int .i64 x6]) (rfl)) rfl rfl rfl fun _ F => ?_
   have s11 : SL w [] _ [Blk g0 79 [.int .i64 0, .int .u8 0, .int .i64 0, .int .i64 0], Blk g9 79 [.int .i64 0, .int .u8 0, .int .i64 0, .int .i64 0]] := sz.drop
   refine Ar ⟨s11, ?_⟩
   refine Be (i := 18) rfl (by kernel_rfl) ?_
   have s12 := sz
   refine As F s12 rfl rfl Fx.sz79 (Ae rfl (Ae rfl (Ae rfl (Ae rfl Ba)))) (Ag rfl) fun wh _ F s14 => ?_
   replace s14 : SL w [] wh [Blk g4 79 [.int .i64 a1, .int .u8 (x0.toNat : Int), .int .i64 x4, .int .i64 x6], Blk g0 79 [.int .i64 0, .int .u8 0, .int .i64 0, .int .i64 0], Blk g9 79 [.int .i64 0, .int .u8 0, .int .i64 0, .int .i64 0]] := s14
   have s15 : SL w [] _ [Blk g0 79 [.int .i64 0, .int .u8 0, .int .i64 0, .int .i64 0], Blk g9 79 [.int .i64 0, .int .u8 0, .int .i64 0, .int .i64 0]] := s14.drop
   refine Ar ⟨s15, ?_⟩
   refine Ce (by kernel_rfl) ?_
   obtain rfl := An H
   refine Ac ?_
   exact ⟨g4, F.sub ⟨rfl, rfl, rfl, rfl, trivial⟩, s14.f2.f2⟩
  refine Bo F sf Fx.zero79 rfl rfl fun g5 wi _ F s16 => ?_
  have s17 : SL w [] _ [Blk g0 79 [.int .i64 0, .int .u8 0, .int .i64 0, .int .i64 0], Blk g9 79 [.int .i64 0, .int .u8 0, .int .i64 0, .int .i64 0]] := s16.drop
  refine Ar ⟨s17, ?_⟩
  refine Be (i := 7) rfl (by kernel_rfl) ?_
  refine Bk (args := [.tmp 52, .tmp 53]) F Fx.fn83 rfl (provisoref04_take_c (a0 := x3) (a1 := x2.1)   (hj.pass0 s16) hf) rfl fun v8 wj _ hs F => ?_
  obtain ⟨rfl, ht⟩ := hs
  have s18 := s16.add ht
  have s19 : SL w [] _ [Blk g0 79 [.int .i64 0, .int .u8 0, .int .i64 0, .int .i64 0], Blk g9 79 [.int .i64 0, .int .u8 0, .int .i64 0, .int .i64 0]] := s18.drop
  refine Ar ⟨s19, ?_⟩
  refine Be (i := 15) rfl (by kernel_rfl) ?_
  refine Bk (args := [.tmp 60, .tmp 61]) F Fx.fn83 rfl (provisoref04_take_c (a0 := x5) (a1 := x2.2)   (hl.pass0 s18) hh) rfl fun v9 wk _ hv F => ?_
  obtain ⟨rfl, hw⟩ := hv
  have s1a := s18.add hw
  have s1b : SL w [] _ [Blk g0 79 [.int .i64 0, .int .u8 0, .int .i64 0, .int .i64 0], Blk g9 79 [.int .i64 0, .int .u8 0, .int .i64 0, .int .i64 0]] := s1a.drop
  refine Ar ⟨s1b, ?_⟩
  refine Be (i := 16) rfl (by kernel_rfl) ?_
  refine Bt F (Cn (vs := [.int .i64 a1, .int .u8 (x0.toNat : Int), .int .i64 x4, .int .i64 x6]) Fx.zero79 Fx.pl79 rfl (cs := [.int .i64 a1, .int .u8 (x0.toNat : Int), .int .i64 x4, .int .i64 x6]) (rfl)) rfl rfl rfl fun _ F => ?_
  have s1c : SL w [] _ [Blk g0 79 [.int .i64 0, .int .u8 0, .int .i64 0, .int .i64 0], Blk g9 79 [.int .i64 0, .int .u8 0, .int .i64 0, .int .i64 0]] := s1a.drop
  refine Ar ⟨s1c, ?_⟩
  refine Be (i := 18) rfl (by kernel_rfl) ?_
  have s1d := s1a
  refine As F s1d rfl rfl Fx.sz79 (Ae rfl (Ae rfl (Ae rfl (Ae rfl Ba)))) (Ag rfl) fun wl _ F s1e => ?_
  replace s1e : SL w [] wl [Blk g5 79 [.int .i64 a1, .int .u8 (x0.toNat : Int), .int .i64 x4, .int .i64 x6], Blk g0 79 [.int .i64 0, .int .u8 0, .int .i64 0, .int .i64 0], Blk g9 79 [.int .i64 0, .int .u8 0, .int .i64 0, .int .i64 0]] := s1e
  have s1f : SL w [] _ [Blk g0 79 [.int .i64 0, .int .u8 0, .int .i64 0, .int .i64 0], Blk g9 79 [.int .i64 0, .int .u8 0, .int .i64 0, .int .i64 0]] := s1e.drop
  refine Ar ⟨s1f, ?_⟩
  refine Ce (by kernel_rfl) ?_
  obtain rfl := An H
  refine Ac ?_
  exact ⟨g5, F.sub ⟨rfl, rfl, rfl, rfl, trivial⟩, s1e.f2.f2⟩
 intro _ wm hJ
 obtain ⟨g1, F, s1g⟩ := hJ
 have H := R0
 clear R0 H0
 refine Ac <| Ah <| Ah <| Ak <| Aj F (Aa (Af rfl) <| Aa (Bw rfl rfl) <| Aa (Af rfl) <| Ad) fun _ F => Bl ((x0.toNat : Int) == 2) (fun hx => ?_) (fun hx => ?_)
 ·replace H := Bb hx H
  refine Aq F rfl rfl (Am rfl hx) (Ax Fx.fa79_2 rfl rfl) rfl rfl fun _ F => Aq F rfl rfl (Am rfl hx) (Az Fx.nag3 rfl (s1g.blk_cell (.tail _ <| .tail _ <| .head _) rfl)) rfl rfl fun _ F => Aq F rfl rfl (Am rfl hx) (ex_gt rfl rfl) rfl rfl fun _ F => Aj F (Aa (Bf (By rfl hx) rfl) <| Ad) fun _ F => Ai <| Ac <| Bm F rfl (fun hy => ?_) (fun hy => ?_)
  ·replace H := Bb hy H
   refine Ah <| Ak <| Aj F (Aa (Bj Fx.agg79 rfl (s1g.blk_cells (.head _) (o := 0) (ds := [.int .i64 0, .int .u8 0, .int .i64 0, .int .i64 0]) (fun j u hu => by rw [Nat.zero_add]; exact hu)) rfl) <| Ad) fun _ F => ?_
   have s1h := s1g.f1
   refine As F s1h rfl rfl Fx.sz79 (Ae rfl (Ae rfl (Ae rfl (Ae rfl Ba)))) (Ag rfl) fun wn _ F s1i => ?_
   replace s1i : SL w [] wn [Blk g9 79 [.int .i64 0, .int .u8 0, .int .i64 0, .int .i64 0], Blk g0 79 [.int .i64 0, .int .u8 0, .int .i64 0, .int .i64 0], Blk g1 79 [.int .i64 a1, .int .u8 (x0.toNat : Int), .int .i64 o0.1, .int .i64 o0.2]] := s1i
   refine Aj F (Aa (Al rfl) <| Ad) fun _ F => Ai <| Ac ?_
   obtain rfl := An H
   refine Bd <| Bg ?_
   refine Av (rs := [.cell 4 79, .tmp 5]) (vs := [.agg ⟨[.int .i64 0, .int .u8 0, .int .i64 0, .int .i64 0]⟩, .int .i64 5]) F (by rfl) ⟨_, _, rfl, Cj s1i (.head _) rfl Fx.agg79 rfl, _, _, rfl, Ay rfl, rfl⟩ ⟨_, rfl, ⟨rfl, s1i.drop.drop.drop⟩⟩
  replace H := Bc hy H
  refine Aw <| Ac <| Ah <| Ak <| Aj F (Aa (Bj Fx.agg79 rfl (s1g.blk_cells (.tail _ <| .tail _ <| .head _) (o := 0) (ds := [.int .i64 a1, .int .u8 (x0.toNat : Int), .int .i64 o0.1, .int .i64 o0.2]) (fun j u hu => by rw [Nat.zero_add]; exact hu)) rfl) <| Ad) fun _ F => ?_
  have s1j := s1g.f1
  refine As F s1j rfl rfl Fx.sz79 (Ae rfl (Ae rfl (Ae rfl (Ae rfl Ba)))) (Ag rfl) fun wo _ F s1k => ?_
  replace s1k : SL w [] wo [Blk g9 79 [.int .i64 a1, .int .u8 (x0.toNat : Int), .int .i64 o0.1, .int .i64 o0.2], Blk g0 79 [.int .i64 0, .int .u8 0, .int .i64 0, .int .i64 0], Blk g1 79 [.int .i64 a1, .int .u8 (x0.toNat : Int), .int .i64 o0.1, .int .i64 o0.2]] := s1k
  refine Aj F (Aa (Al rfl) <| Ad) fun _ F => Ai <| Ac ?_
  obtain rfl := An H
  refine Bd ?_
  refine Av (rs := [.cell 4 79, .tmp 5]) (vs := [.agg ⟨[.int .i64 a1, .int .u8 (x0.toNat : Int), .int .i64 o0.1, .int .i64 o0.2]⟩, .int .i64 0]) F (by rfl) ⟨_, _, rfl, Cj s1k (.head _) rfl Fx.agg79 rfl, _, _, rfl, Ay rfl, rfl⟩ ⟨_, rfl, ⟨rfl, s1k.drop.drop.drop⟩⟩
 replace H := Bc hx H
 refine Ao F rfl rfl (Am rfl hx) Ab rfl rfl fun _ F => Ao F rfl rfl (Am rfl hx) Ab rfl rfl fun _ F => Ao F rfl rfl (Am rfl hx) Ab rfl rfl fun _ F => Aj F (Aa (Bi (By rfl hx) rfl) <| Ad) fun _ F => Ai <| Ac <| Cm F rfl <| Aw <| Ac <| Ah <| Ak <| Aj F (Aa (Bj Fx.agg79 rfl (s1g.blk_cells (.tail _ <| .tail _ <| .head _) (o := 0) (ds := [.int .i64 a1, .int .u8 (x0.toNat : Int), .int .i64 o0.1, .int .i64 o0.2]) (fun j u hu => by rw [Nat.zero_add]; exact hu)) rfl) <| Ad) fun _ F => ?_
 have s1l := s1g.f1
 refine As F s1l rfl rfl Fx.sz79 (Ae rfl (Ae rfl (Ae rfl (Ae rfl Ba)))) (Ag rfl) fun wp _ F s1m => ?_
 replace s1m : SL w [] wp [Blk g9 79 [.int .i64 a1, .int .u8 (x0.toNat : Int), .int .i64 o0.1, .int .i64 o0.2], Blk g0 79 [.int .i64 0, .int .u8 0, .int .i64 0, .int .i64 0], Blk g1 79 [.int .i64 a1, .int .u8 (x0.toNat : Int), .int .i64 o0.1, .int .i64 o0.2]] := s1m
 refine Aj F (Aa (Al rfl) <| Ad) fun _ F => Ai <| Ac ?_
 obtain rfl := An H
 refine Bd ?_
 refine Av (rs := [.cell 4 79, .tmp 5]) (vs := [.agg ⟨[.int .i64 a1, .int .u8 (x0.toNat : Int), .int .i64 o0.1, .int .i64 o0.2]⟩, .int .i64 0]) F (by rfl) ⟨_, _, rfl, Cj s1m (.head _) rfl Fx.agg79 rfl, _, _, rfl, Ay rfl, rfl⟩ ⟨_, rfl, ⟨rfl, s1m.drop.drop.drop⟩⟩
-- proviso/provisoref05.Scan
theorem provisoref05_Scan_c {w : World} {v0 : Value} {a0 : List UInt8} {r : (List S_api_Instr) × Int × Int} (hr0 : Rd Ty.u8 w [] v0 a0) (H : provisoref05_Scan a0 = some r) :
    Calls Tryz.prog 60 #[v0] w (Ret fun u_ w_ => ∃ u0 : Value, u_ = .tuple ⟨[u0, .int .i64 r.2.1, .int .i64 r.2.2]⟩ ∧ SL w [] w_ [Sl T_api_Instr u0 r.1]) := by
 have s0 : SL w [] w [] := SL.init0 w
 refine Bn Tryz.func60 rfl Tryz.ntmps60 (Ag rfl) (args := [v0]) fun q0 F0 => ?_
 unfold provisoref05_Scan at H
 refine Ah <| Ak <| Aj F0 (Aa (Al rfl) <| Aa (Al rfl) <| Aa (Al rfl) <| Ad) fun q3 F4 => Ai <| Ac <| Ah <| Ah <| Ak <| Aj F4 (Aa (Af rfl) <| Aa (Cc rfl Tryz.underlying38 (Bu (Cv hr0 s0))) <| Aa (ex_gt rfl rfl) <| Ad) fun _ F => Ai <| Ac <| Bm F rfl (fun h0 => ?_) (fun h0 => ?_)
 ·replace H := Bb h0 H
  refine Ah <| Ak <| Aj F (Aa (Al rfl) <| Aa (Al rfl) <| Aa (Al rfl) <| Ad) fun _ F => Ai <| Ac ?_
  obtain rfl := An H
  refine Bd <| Bg ?_
  refine Av (rs := [.tmp 2, .tmp 3, .tmp 4]) (vs := [.slice none 0 0, .int .i64 0, .int .i64 4]) F (by rfl) ⟨_, _, rfl, Ay rfl, _, _, rfl, Ay rfl, _, _, rfl, Ay rfl, rfl⟩ ⟨_, rfl, ⟨(.slice none 0 0), rfl, (SL.nilSl (T := T_api_Instr) s0)⟩⟩
 replace H := Bc h0 H
 refine Aw <| Ac <| Ah <| Ak <| Aj F (Aa (Al rfl) <| Ad) fun _ F => Ai <| Ac <| Ah <| Ah <| Ak <| Aj F (Aa (Al rfl) <| Ad) fun _ F => Ai <| Ac ?_
 obtain ⟨o0, H0, R0⟩ := Ap H
 clear H
 refine Bx (fun a w_ => ∃ p0 : (List S_api_Instr), o0 = .inr (p0) ∧ ∃ v1 : Value, Fr a 36 [(5, v1)] ∧ SL w [] w_ [Sl T_api_Instr v1 p0]) ?_ ?_
 ·have H := H0
  refine Bh <| Cu (provisoref05_Scan_b0 a0) (fun s1 a w_ => ∃ v2 : Value, Fr a 36 [(0, v0), (5, v2), (6, .int .i64 s1.2)] ∧ SL w [] w_ [Sl T_api_Instr v2 s1.1]) H ?_ ?_
  ·exact ⟨(.slice none 0 0), F.sub ⟨rfl, rfl, rfl, trivial⟩, (SL.nilSl (T := T_api_Instr) s0)⟩
  intro s1 _ w0 h1 o1 H hr
  obtain ⟨v2, F, s2⟩ := h1
  replace H : provisoref05_Scan_b0 a0 s1 = some o1 := H
  unfold provisoref05_Scan_b0 at H
  refine Ah <| Ah <| Ak <| Aj F (Aa (Af rfl) <| Aa (Af rfl) <| Aa (Cc rfl Tryz.underlying38 (Bu (Cv hr0 s2))) <| Aa (Cr rfl rfl) <| Ad) fun _ F => Ai <| Ac <| Bm F rfl (fun h2 => ?_) (fun h2 => ?_)
  ·replace H := Bb h2 H
   refine Aw <| Ac <| Bh <| Ah <| Ak ?_
   obtain ⟨x0, h3, H⟩ := Ap H
   refine Aj F (Aa (Af rfl) <| Aa (Af rfl) <| Ad) fun _ F => Bk (args := [.tmp 17, .tmp 18]) F Fx.fn75 rfl (provisoref04_Decode_c (a0 := a0) (a1 := s1.2)   (hr0.pass0 s2) h3) rfl fun v3 w1 _ h4 F => ?_
   obtain ⟨rfl, h5⟩ := h4
   have s3 := s2.add h5
   refine Aj F (Aa (Af rfl) <| Aa (Au (v := .agg ⟨[.int .i64 x0.1.At, .int .u8 (x0.1.Op.toNat : Int), .int .i64 x0.1.A, .int .i64 x0.1.B]⟩) rfl rfl) <| Aa (Au (v := .int .i64 x0.2) rfl rfl) <| Ad) fun _ F => Bo F s3 Fx.zero79 rfl rfl fun g0 w2 _ F s4 => ?_
   have s5 := s4
   refine As F s5 rfl rfl Fx.sz79 (Ae rfl (Ae rfl (Ae rfl (Ae rfl Ba)))) (Ag rfl) fun w3 _ F s6 => ?_
   replace s6 : SL w [] w3 [Blk g0 79 [.int .i64 x0.1.At, .int .u8 (x0.1.Op.toNat : Int), .int .i64 x0.1.A, .int .i64 x0.1.B], Sl T_api_Instr v2 s1.1] := s6
   refine Aj F (Aa (Al rfl) <| Ad) fun _ F => Ai <| Ac <| Ah <| Ah <| Ak <| Aj F (Aa (Af rfl) <| Aa (De rfl rfl) <| Ad) fun _ F => Ai <| Ac <| Bm F rfl (fun h6 => ?_) (fun h6 => ?_)
   ·replace H := Bb h6 H
    refine Ah <| Ak <| Aj F (Aa (Af rfl) <| Aa (Af rfl) <| Aa (Al rfl) <| Aa (Al rfl) <| Aa (Al rfl) <| Ad) fun _ F => Ai <| Ac ?_
    obtain rfl := An H
    obtain rfl := hr _ rfl
    replace H := R0
    try dsimp only at H
    obtain rfl := An H
    refine Bd <| Bg <| blk_r <| Bg <| blk_r <| Bg <| Bg ?_
    refine Av (rs := [.tmp 2, .tmp 3, .tmp 4]) (vs := [.slice none 0 0, .int .i64 s1.2, .int .i64 x0.2]) F (by rfl) ⟨_, _, rfl, Ay rfl, _, _, rfl, Ay rfl, _, _, rfl, Ay rfl, rfl⟩ ⟨_, rfl, ⟨(.slice none 0 0), rfl, (SL.nilSl (T := T_api_Instr) s6).f1.drop.f1.drop⟩⟩
   replace H := Bc h6 H
   refine Aw <| Ac <| Ah <| Ak <| Aj F (Aa (Af rfl) <| Aa (Bj Fx.agg79 rfl (s6.blk_cells (.head _) (o := 0) (ds := [.int .i64 x0.1.At, .int .u8 (x0.1.Op.toNat : Int), .int .i64 x0.1.A, .int .i64 x0.1.B]) (fun j u hu => by rw [Nat.zero_add]; exact hu)) rfl) <| Ad) fun _ F => ?_
   refine Cs (parts := [(0, .tmp 27)]) F_api_Instr ([(⟨x0.1.At, x0.1.Op, x0.1.A, x0.1.B⟩ : S_api_Instr)] : List S_api_Instr) F s6 Fx.sl67 rfl (by decide) rfl rfl rfl (by simp [Value.cells]) rfl rfl rfl fun v4 w4 _ F s7 => ?_
   obtain ⟨x1, h7, H⟩ := Ap H
   have s8 := s7.f2
   obtain ⟨_, hr_⟩ := (s8.own_rd (.tail _ <| .head _))
   refine Ci F_api_Instr F s8 Fx.sl67 rfl rfl rfl rfl hr_ rfl rfl h7 rfl fun v5 w5 _ F s9 => ?_
   have s3245' := s9.f1.drop
   refine Aj F (Aa (Al rfl) <| Ad) fun _ F => Ai <| Ac <| Ak ?_
   obtain ⟨x2, h8, H⟩ := Ap H
   refine Aj F (Aa (Af rfl) <| Aa (Ax Fx.fa79_1 rfl rfl) <| Aa (Az Fx.nag5 rfl (s3245'.blk_cell (.tail _ <| .head _) rfl)) <| Ad) fun _ F => Bk (args := [.tmp 32]) F Fx.fn68 rfl (provisoref04_Size_c (a0 := x0.1.Op)    h8) rfl fun v6 w6 _ h9 F => ?_
   obtain ⟨rfl, ha⟩ := h9
   have sa := s3245'.add ha
   refine Aj F (Aa (Bq rfl rfl) <| Aa (Al rfl) <| Ad) fun _ F => Ai <| Bz ?_
   obtain rfl := An H
   refine Ac ?_
   exact ⟨_, rfl, v5, F.sub ⟨rfl, rfl, rfl, trivial⟩, sa.f1.drop⟩
  replace H := Bc h2 H
  refine Ca <| Bp <| Bp <| Cb ?_
  obtain rfl := An H
  obtain rfl := hr _ rfl
  refine Ac ?_
  exact ⟨_, rfl, v2, F.sub ⟨rfl, trivial⟩, s2⟩
 intro _ w7 hJ
 obtain ⟨p0, rfl, v1, F, sb⟩ := hJ
 have H := R0
 clear R0 H0
 try dsimp only at H
 refine Ac <| Ah <| Ak <| Aj F (Aa (Af rfl) <| Aa (Al rfl) <| Aa (Al rfl) <| Aa (Al rfl) <| Ad) fun _ F => Ai <| Ac ?_
 obtain rfl := An H
 refine Bd ?_
 refine Av (rs := [.tmp 2, .tmp 3, .tmp 4]) (vs := [v1, .int .i64 0, .int .i64 0]) F (by rfl) ⟨_, _, rfl, Ay rfl, _, _, rfl, Ay rfl, _, _, rfl, Ay rfl, rfl⟩ ⟨_, rfl, ⟨v1, rfl, sb⟩⟩
-- proviso/provisoref04.Jumps
theorem provisoref04_Jumps_c {w : World} {a0 : UInt8} {r : Bool}  (H : provisoref04_Jumps a0 = some r) :
    Calls Tryz.prog 61 #[.int .u8 (a0.toNat : Int)] w (Ret fun u_ w_ => u_ = .bool r ∧ SL w [] w_ []) := by
 have s0 : SL w [] w [] := SL.init0 w
 refine Bn Tryz.func61 rfl Tryz.ntmps61 (Ag rfl) (args := [.int .u8 (a0.toNat : Int)]) fun q0 F0 => ?_
 unfold provisoref04_Jumps at H
 refine Ah <| Ak <| Aj F0 (Aa (Al rfl) <| Ad) fun q3 F4 => Ai <| Ac <| Ah <| Ak <| Aj F4 (Aa (Af rfl) <| Aa (Bw rfl rfl) <| Aa (Af rfl) <| Ad) fun _ F => Bl ((a0.toNat : Int) == 19) (fun h0 => ?_) (fun h0 => ?_)
 ·replace H := Bb h0 H
  refine Ao F rfl rfl (Am rfl h0) Ab rfl rfl fun _ F => Ao F rfl rfl (Am rfl h0) Ab rfl rfl fun _ F => Aj F (Aa (Bf (By rfl h0) rfl) <| Aa (Al rfl) <| Ad) fun _ F => Ai <| Ac ?_
  obtain rfl := An H
  refine Bd ?_
  refine Av (rs := [.tmp 2]) (vs := [.bool true]) F (by rfl) ⟨_, _, rfl, Ay rfl, rfl⟩ ⟨_, rfl, ⟨rfl, s0⟩⟩
 replace H := Bc h0 H
 refine Aq F rfl rfl (Am rfl h0) (Af rfl) rfl rfl fun _ F => Aq F rfl rfl (Am rfl h0) (Bw rfl rfl) rfl rfl fun _ F => Aj F (Aa (Bi (By rfl h0) rfl) <| Aa (Al rfl) <| Ad) fun _ F => Ai <| Ac ?_
 obtain rfl := An H
 refine Bd ?_
 refine Av (rs := [.tmp 2]) (vs := [.bool ((a0.toNat : Int) == 20)]) F (by rfl) ⟨_, _, rfl, Ay rfl, rfl⟩ ⟨_, rfl, ⟨rfl, s0⟩⟩
-- proviso/provisoref05.Place
theorem provisoref05_Place_c {w : World} {v0 : Value} {a0 : List S_api_Instr} {a1 : Int} {r : Int} (hr0 : Rd T_api_Instr w [] v0 a0) (H : provisoref05_Place a0 a1 = some r) :
    Calls Tryz.prog 62 #[v0, .int .i64 a1] w (Ret fun u_ w_ => u_ = .int .i64 r ∧ SL w [] w_ []) := by
 have s0 : SL w [] w [] := SL.init0 w
 refine Bn Tryz.func62 rfl Tryz.ntmps62 (Ag rfl) (args := [v0, .int .i64 a1]) fun q0 F0 => ?_
 unfold provisoref05_Place at H
 refine Ah <| Ak <| Aj F0 (Aa (Al rfl) <| Ad) fun q3 F4 => Ai <| Ac <| Ah <| Ah <| Ak <| Aj F4 (Aa (Af rfl) <| Aa (Cc rfl Tryz.underlying67 (Bu (Cv hr0 s0))) <| Aa (Af rfl) <| Ad) fun _ F => Ai <| Ac ?_
 obtain ⟨o0, H0, R0⟩ := Ap H
 clear H
 refine Bx (fun a w_ => ∃ p0 : Unit, o0 = .inr (p0) ∧ Fr a 20 [] ∧ SL w [] w_ []) ?_ ?_
 ·have H := H0
  refine Bh <| Cu (provisoref05_Place_b0 a0 a1) (fun s1 a w_ => Fr a 20 [(1, .int .i64 a1), (7, v0), (8, .int .i64 (a0.length : Int)), (9, .int .i64 s1)] ∧ SL w [] w_ []) H ?_ ?_
  ·exact ⟨F.sub ⟨rfl, rfl, rfl, rfl, trivial⟩, s0⟩
  intro s1 _ w0 h0 o1 H hr
  obtain ⟨F, s2⟩ := h0
  replace H : provisoref05_Place_b0 a0 a1 s1 = some o1 := H
  unfold provisoref05_Place_b0 at H
  refine Ah <| Ak <| Aj F (Aa (Cr rfl rfl) <| Ad) fun _ F => Ai <| Ac <| Ah <| Bm F rfl (fun h1 => ?_) (fun h1 => ?_)
  ·replace H := Bb h1 H
   refine Aw <| Ac <| Ah <| Bh <| Ah <| Ak ?_
   obtain ⟨x0, h2, H⟩ := Ap H
   obtain ⟨a2, h3, h4⟩ := Dg F_api_Instr (Cv hr0 s2) Fx.sl67 rfl h2
   refine Aj F (Aa (Af rfl) <| Aa (h3 _ _ _ _ _ _ _ _ _ _ rfl rfl) <| Aa (Bj Fx.agg79 rfl h4 rfl) <| Ad) fun _ F => Bo F s2 Fx.zero79 rfl rfl fun g0 w1 _ F s3 => Aj F (Aa (Al rfl) <| Ad) fun _ F => ?_
   have s4 := s3
   refine As F s4 rfl rfl Fx.sz79 (Ae rfl (Ae rfl (Ae rfl (Ae rfl Ba)))) (Ag rfl) fun w2 _ F s5 => ?_
   replace s5 : SL w [] w2 [Blk g0 79 [.int .i64 x0.At, .int .u8 (x0.Op.toNat : Int), .int .i64 x0.A, .int .i64 x0.B]] := s5
   refine Ai <| Ac <| Ah <| Ak <| Aj F (Aa (Ax Fx.fa79_0 rfl rfl) <| Aa (Az Fx.nag3 rfl (s5.blk_cell (.head _) rfl)) <| Aa (Af rfl) <| Aa (Bw rfl rfl) <| Ad) fun _ F => Ai <| Ac <| Bm F rfl (fun h5 => ?_) (fun h5 => ?_)
   ·replace H := Bb h5 H
    refine Ah <| Ak <| Aj F (Aa (Af rfl) <| Aa (Al rfl) <| Ad) fun _ F => Ai <| Ac ?_
    obtain rfl := An H
    obtain rfl := hr _ rfl
    replace H := R0
    try dsimp only at H
    obtain rfl := An H
    refine Bd <| blk_r <| Bg <| Bg <| blk_r <| Bg <| Bg ?_
    refine Av (rs := [.tmp 4]) (vs := [.int .i64 s1]) F (by rfl) ⟨_, _, rfl, Ay rfl, rfl⟩ ⟨_, rfl, ⟨rfl, s5.drop⟩⟩
   replace H := Bc h5 H
   refine Aw <| Bz <| Ac <| Ak <| Aj F (Aa (Bq rfl rfl) <| Aa (Af rfl) <| Ad) fun _ F => Ai ?_
   obtain rfl := An H
   refine Ac ?_
   exact ⟨_, rfl, F.sub ⟨rfl, rfl, rfl, rfl, trivial⟩, s5.drop⟩
  replace H := Bc h1 H
  refine Ca <| Bp <| Bp <| Cb ?_
  obtain rfl := An H
  obtain rfl := hr _ rfl
  refine Ac ?_
  exact ⟨_, rfl, F.sub trivial, s2⟩
 intro _ w3 hJ
 obtain ⟨p0, rfl, F, s6⟩ := hJ
 have H := R0
 clear R0 H0
 try dsimp only at H
 refine Ac <| Ah <| Ak <| Aj F (Aa (Al rfl) <| Ad) fun _ F => Ai <| Ac ?_
 obtain rfl := An H
 refine Bd ?_
 refine Av (rs := [.tmp 4]) (vs := [.int .i64 (-1)]) F (by rfl) ⟨_, _, rfl, Ay rfl, rfl⟩ ⟨_, rfl, ⟨rfl, s6⟩⟩
-- proviso/provisoref04.Ends
theorem provisoref04_Ends_c {w : World} {a0 : UInt8} {r : Bool}  (H : provisoref04_Ends a0 = some r) :
    Calls Tryz.prog 63 #[.int .u8 (a0.toNat : Int)] w (Ret fun u_ w_ => u_ = .bool r ∧ SL w [] w_ []) := by
 have s0 : SL w [] w [] := SL.init0 w
 refine Bn Tryz.func63 rfl Tryz.ntmps63 (Ag rfl) (args := [.int .u8 (a0.toNat : Int)]) fun q0 F0 => ?_
 unfold provisoref04_Ends at H
 refine Ah <| Ak <| Aj F0 (Aa (Al rfl) <| Ad) fun q3 F4 => Ai <| Ac <| Ah <| Ak <| Aj F4 (Aa (Af rfl) <| Aa (Bw rfl rfl) <| Aa (Af rfl) <| Ad) fun _ F => Bl ((a0.toNat : Int) == 19) (fun h0 => ?_) (fun h0 => ?_)
 ·replace H := Bb h0 H
  refine Ao F rfl rfl (Am rfl h0) Ab rfl rfl fun _ F => Ao F rfl rfl (Am rfl h0) Ab rfl rfl fun _ F => Aj F (Aa (Bf (By rfl h0) rfl) <| Aa (Af rfl) <| Ad) fun _ F => Ao F rfl rfl rfl Ab rfl rfl fun _ F => Ao F rfl rfl rfl Ab rfl rfl fun _ F => Aj F (Aa (Bf rfl rfl) <| Aa (Al rfl) <| Ad) fun _ F => Ai <| Ac ?_
  obtain rfl := An H
  refine Bd ?_
  refine Av (rs := [.tmp 2]) (vs := [.bool true]) F (by rfl) ⟨_, _, rfl, Ay rfl, rfl⟩ ⟨_, rfl, ⟨rfl, s0⟩⟩
 replace H := Bc h0 H
 refine Aq F rfl rfl (Am rfl h0) (Af rfl) rfl rfl fun _ F => Aq F rfl rfl (Am rfl h0) (Bw rfl rfl) rfl rfl fun _ F => Aj F (Aa (Bi (By rfl h0) rfl) <| Aa (Af rfl) <| Ad) fun _ F => Bl ((a0.toNat : Int) == 22) (fun h1 => ?_) (fun h1 => ?_)
 ·replace H := Bb h1 H
  refine Ao F rfl rfl (Am rfl h1) Ab rfl rfl fun _ F => Ao F rfl rfl (Am rfl h1) Ab rfl rfl fun _ F => Aj F (Aa (Bf (By rfl h1) rfl) <| Aa (Al rfl) <| Ad) fun _ F => Ai <| Ac ?_
  obtain rfl := An H
  refine Bd ?_
  refine Av (rs := [.tmp 2]) (vs := [.bool true]) F (by rfl) ⟨_, _, rfl, Ay rfl, rfl⟩ ⟨_, rfl, ⟨rfl, s0⟩⟩
 replace H := Bc h1 H
 refine Aq F rfl rfl (Am rfl h1) (Af rfl) rfl rfl fun _ F => Aq F rfl rfl (Am rfl h1) (Bw rfl rfl) rfl rfl fun _ F => Aj F (Aa (Bi (By rfl h1) rfl) <| Aa (Al rfl) <| Ad) fun _ F => Ai <| Ac ?_
 obtain rfl := An H
 refine Bd ?_
 refine Av (rs := [.tmp 2]) (vs := [.bool ((a0.toNat : Int) == 32)]) F (by rfl) ⟨_, _, rfl, Ay rfl, rfl⟩ ⟨_, rfl, ⟨rfl, s0⟩⟩
-- proviso/provisoref05.Check
theorem provisoref05_Check_c {w : World} {v0 : Value} {a0 : List UInt8} {r : Int × Int} (hr0 : Rd Ty.u8 w [] v0 a0) (H : provisoref05_Check a0 = some r) :
    Calls Tryz.prog 39 #[v0] w (Ret fun u_ w_ => u_ = .tuple ⟨[.int .i64 r.1, .int .i64 r.2]⟩ ∧ SL w [] w_ []) := by
 have s0 : SL w [] w [] := SL.init0 w
 refine Bn Tryz.func39 rfl Tryz.ntmps39 (Ag rfl) (args := [v0]) fun q0 F0 => ?_
 unfold provisoref05_Check at H
 refine Ah <| Ak <| Aj F0 (Aa (Al rfl) <| Aa (Al rfl) <| Ad) fun q3 F4 => Ai <| Ac <| Ah <| Ak ?_
 obtain ⟨x0, h0, H⟩ := Ap H
 refine Aj F4 (Aa (Af rfl) <| Ad) fun _ F => Bk (args := [.tmp 11]) F Fx.fn60 rfl (provisoref05_Scan_c (a0 := a0)   (hr0.pass0 s0) h0) rfl fun v1 w0 _ h1 F => ?_
 obtain ⟨v2, rfl, h2⟩ := h1
 have s1 := s0.add h2
 refine Aj F (Aa (Af rfl) <| Aa (Au (v := v2) rfl rfl) <| Aa (Au (v := .int .i64 x0.2.1) rfl rfl) <| Aa (Au (v := .int .i64 x0.2.2) rfl rfl) <| Aa (Al rfl) <| Aa (Al rfl) <| Aa (Al rfl) <| Ad) fun _ F => Ai <| Ac <| Ah <| Ah <| Ak <| Aj F (Aa (Af rfl) <| Aa (De rfl rfl) <| Ad) fun _ F => Ai <| Ac <| Bm F rfl (fun h3 => ?_) (fun h3 => ?_)
 ·replace H := Bb h3 H
  refine Ah <| Ak <| Aj F (Aa (Af rfl) <| Aa (Af rfl) <| Aa (Al rfl) <| Aa (Al rfl) <| Ad) fun _ F => Ai <| Ac ?_
  obtain rfl := An H
  refine Bd <| Bg ?_
  refine Av (rs := [.tmp 2, .tmp 3]) (vs := [.int .i64 x0.2.1, .int .i64 x0.2.2]) F (by rfl) ⟨_, _, rfl, Ay rfl, _, _, rfl, Ay rfl, rfl⟩ ⟨_, rfl, ⟨rfl, s1.drop⟩⟩
 replace H := Bc h3 H
 refine Aw <| Ac <| Ah <| Ah <| Ak <| Aj F (Aa (Af rfl) <| Aa (Cc rfl Tryz.underlying67 (Bu (s1.own_rd (.head _)))) <| Aa (Af rfl) <| Ad) fun _ F => Ai <| Ac ?_
 obtain ⟨o0, H0, R0⟩ := Ap H
 clear H
 refine Bx (fun a w_ => ∃ p0 : Unit, o0 = .inr (p0) ∧ Fr a 54 [(4, v2)] ∧ SL w [] w_ [Sl T_api_Instr v2 x0.1]) ?_ ?_
 ·have H := H0
  refine Bh <| Cu (provisoref05_Check_b0 x0) (fun s2 a w_ => Fr a 54 [(4, v2), (20, v2), (21, .int .i64 (x0.1.length : Int)), (22, .int .i64 s2)] ∧ SL w [] w_ [Sl T_api_Instr v2 x0.1]) H ?_ ?_
  ·exact ⟨F.sub ⟨rfl, rfl, rfl, rfl, trivial⟩, s1⟩
  intro s2 _ w1 h4 o1 H hr
  obtain ⟨F, s3⟩ := h4
  replace H : provisoref05_Check_b0 x0 s2 = some o1 := H
  unfold provisoref05_Check_b0 at H
  refine Ah <| Ak <| Aj F (Aa (Cr rfl rfl) <| Ad) fun _ F => Ai <| Ac <| Ah <| Bm F rfl (fun h5 => ?_) (fun h5 => ?_)
  ·replace H := Bb h5 H
   refine Aw <| Ac <| Ah <| Bh <| Ah <| Ak ?_
   obtain ⟨x1, h6, H⟩ := Ap H
   obtain ⟨a2, h7, h8⟩ := Ch F_api_Instr s3 (.head _) Fx.sl67 rfl h6
   refine Aj F (Aa (h7 _ _ _ _ _ _ _ _ _ _ rfl rfl) <| Aa (Bj Fx.agg79 rfl (SL.elcells F_api_Instr s3 (.head _) h8 h6) rfl) <| Ad) fun _ F => Bo F s3 Fx.zero79 rfl rfl fun g0 w2 _ F s4 => ?_
   have s5 := s4
   refine As F s5 rfl rfl Fx.sz79 (Ae rfl (Ae rfl (Ae rfl (Ae rfl Ba)))) (Ag rfl) fun w3 _ F s6 => ?_
   replace s6 : SL w [] w3 [Blk g0 79 [.int .i64 x1.At, .int .u8 (x1.Op.toNat : Int), .int .i64 x1.A, .int .i64 x1.B], Sl T_api_Instr v2 x0.1] := s6
   refine Ai <| Ac <| Ah <| Ak ?_
   obtain ⟨x2, h9, H⟩ := Ap H
   refine Aj F (Aa (Ax Fx.fa79_1 rfl rfl) <| Aa (Az Fx.nag5 rfl (s6.blk_cell (.head _) rfl)) <| Ad) fun _ F => Bk (args := [.tmp 27]) F Fx.fn61 rfl (provisoref04_Jumps_c (a0 := x1.Op)    h9) rfl fun v3 w4 _ ha F => ?_
   obtain ⟨rfl, hb⟩ := ha
   have s7 := s6.add hb
   refine Aj F (Aa (Af rfl) <| Ad) fun _ F => Bl x2 (fun hc => ?_) (fun hc => ?_)
   ·replace H := Bb hc H
    refine Aq F rfl rfl (Am rfl hc) (Af rfl) rfl rfl fun _ F => Aq F rfl rfl (Am rfl hc) (Ax Fx.fa79_2 rfl rfl) rfl rfl fun _ F => Aq F rfl rfl (Am rfl hc) (Az Fx.nag3 rfl (s7.blk_cell (.head _) rfl)) rfl rfl fun _ F => ?_
    obtain ⟨x3, hd, H⟩ := Ap H
    refine st_ungd F rfl (Am rfl hc) <| Bk (args := [.tmp 30, .tmp 32]) F Fx.fn62 rfl (provisoref05_Place_c (a0 := x0.1) (a1 := x1.A)   (s7.rd0 (.tail _ <| .head _)) hd) rfl fun v4 w5 _ he F => ?_
    obtain ⟨rfl, hf⟩ := he
    have s8 := s7.add hf
    refine Aq F rfl rfl (Am rfl hc) (Cr rfl rfl) rfl rfl fun _ F => Aj F (Aa (Bf (By rfl hc) rfl) <| Ad) fun _ F => Ai <| Ac <| Bm F rfl (fun hg => ?_) (fun hg => ?_)
    ·replace H := Bb hg H
     refine Ah <| Ak <| Aj F (Aa (Ax Fx.fa79_0 rfl rfl) <| Aa (Az Fx.nag3 rfl (s8.blk_cell (.head _) rfl)) <| Aa (Al rfl) <| Aa (Al rfl) <| Ad) fun _ F => Ai <| Ac ?_
     obtain rfl := An H
     obtain rfl := hr _ rfl
     replace H := R0
     try dsimp only at H
     obtain rfl := An H
     refine Bd <| blk_r <| Bg <| Bg <| blk_r <| Bg <| Bg ?_
     refine Av (rs := [.tmp 2, .tmp 3]) (vs := [.int .i64 x1.At, .int .i64 50]) F (by rfl) ⟨_, _, rfl, Ay rfl, _, _, rfl, Ay rfl, rfl⟩ ⟨_, rfl, ⟨rfl, s8.drop.drop⟩⟩
    replace H := Bc hg H
    refine Aw <| Bz <| Ac <| Ak <| Aj F (Aa (Bq rfl rfl) <| Aa (Af rfl) <| Ad) fun _ F => Ai ?_
    obtain rfl := An H
    refine Ac ?_
    exact ⟨_, rfl, F.sub ⟨rfl, rfl, rfl, rfl, trivial⟩, s8.drop⟩
   replace H := Bc hc H
   refine Ao F rfl rfl (Am rfl hc) Ab rfl rfl fun _ F => Ao F rfl rfl (Am rfl hc) Ab rfl rfl fun _ F => Ao F rfl rfl (Am rfl hc) Ab rfl rfl fun _ F => Ao F rfl rfl (Am rfl hc) Ab rfl rfl fun _ F => Ao F rfl rfl (Am rfl hc) Ab rfl rfl fun _ F => Aj F (Aa (Bi (By rfl hc) rfl) <| Ad) fun _ F => Ai <| Ac <| Cm F rfl <| Aw <| Bz <| Ac <| Ak <| Aj F (Aa (Bq rfl rfl) <| Aa (Af rfl) <| Ad) fun _ F => Ai ?_
   obtain rfl := An H
   refine Ac ?_
   exact ⟨_, rfl, F.sub ⟨rfl, rfl, rfl, rfl, trivial⟩, s7.drop⟩
  replace H := Bc h5 H
  refine Ca <| Bp <| Bp <| Cb ?_
  obtain rfl := An H
  obtain rfl := hr _ rfl
  refine Ac ?_
  exact ⟨_, rfl, F.sub ⟨rfl, trivial⟩, s3⟩
 intro _ w6 hJ
 obtain ⟨p0, rfl, F, s9⟩ := hJ
 have H := R0
 clear R0 H0
 try dsimp only at H
 refine Ac <| Ah <| Ah <| Ak <| Aj F (Aa (Af rfl) <| Aa (Cc rfl Tryz.underlying67 (Bu (s9.own_rd (.head _)))) <| Aa (Bw rfl rfl) <| Ad) fun _ F => Ai <| Ac <| Bm F rfl (fun hh => ?_) (fun hh => ?_)
 ·replace H := Bb hh H
  refine Ah <| Ak <| Aj F (Aa (Al rfl) <| Aa (Al rfl) <| Ad) fun _ F => Ai <| Ac ?_
  obtain rfl := An H
  refine Bd <| Bg ?_
  refine Av (rs := [.tmp 2, .tmp 3]) (vs := [.int .i64 0, .int .i64 51]) F (by rfl) ⟨_, _, rfl, Ay rfl, _, _, rfl, Ay rfl, rfl⟩ ⟨_, rfl, ⟨rfl, s9.drop⟩⟩
 replace H := Bc hh H
 refine Aw <| Ac <| Ah <| Ah <| Ak ?_
 obtain ⟨x4, hi, H⟩ := Ap H
 obtain ⟨a3, hj, hk⟩ := Ch F_api_Instr s9 (.head _) Fx.sl67 rfl hi
 refine Aj F (Aa (Af rfl) <| Aa (Af rfl) <| Aa (Cc rfl Tryz.underlying67 (Bu (s9.own_rd (.head _)))) <| Aa (ex_sub rfl rfl) <| Aa (hj _ _ _ _ _ _ _ _ _ _ rfl rfl) <| Aa (Bj Fx.agg79 rfl (SL.elcells F_api_Instr s9 (.head _) hk hi) rfl) <| Ad) fun _ F => Bo F s9 Fx.zero79 rfl rfl fun g1 w7 _ F sa => ?_
 have sb := sa
 refine As F sb rfl rfl Fx.sz79 (Ae rfl (Ae rfl (Ae rfl (Ae rfl Ba)))) (Ag rfl) fun w8 _ F sc => ?_
 replace sc : SL w [] w8 [Blk g1 79 [.int .i64 x4.At, .int .u8 (x4.Op.toNat : Int), .int .i64 x4.A, .int .i64 x4.B], Sl T_api_Instr v2 x0.1] := sc
 refine Ai <| Ac <| Ah <| Ak ?_
 obtain ⟨x5, hl, H⟩ := Ap H
 refine Aj F (Aa (Ax Fx.fa79_1 rfl rfl) <| Aa (Az Fx.nag5 rfl (sc.blk_cell (.head _) rfl)) <| Ad) fun _ F => Bk (args := [.tmp 49]) F Fx.fn63 rfl (provisoref04_Ends_c (a0 := x4.Op)    hl) rfl fun v5 w9 _ hm F => ?_
 obtain ⟨rfl, hn⟩ := hm
 have sd := sc.add hn
 refine Aj F (Aa (Da rfl) <| Ad) fun _ F => Ai <| Ac <| Bm F rfl (fun ho => ?_) (fun ho => ?_)
 ·replace H := Bb ho H
  refine Ah <| Ak <| Aj F (Aa (Ax Fx.fa79_0 rfl rfl) <| Aa (Az Fx.nag3 rfl (sd.blk_cell (.head _) rfl)) <| Aa (Al rfl) <| Aa (Al rfl) <| Ad) fun _ F => Ai <| Ac ?_
  obtain rfl := An H
  refine Bd <| Bg ?_
  refine Av (rs := [.tmp 2, .tmp 3]) (vs := [.int .i64 x4.At, .int .i64 51]) F (by rfl) ⟨_, _, rfl, Ay rfl, _, _, rfl, Ay rfl, rfl⟩ ⟨_, rfl, ⟨rfl, sd.drop.drop⟩⟩
 replace H := Bc ho H
 refine Aw <| Ac <| Ah <| Ak <| Aj F (Aa (Al rfl) <| Aa (Al rfl) <| Ad) fun _ F => Ai <| Ac ?_
 obtain rfl := An H
 refine Bd ?_
 refine Av (rs := [.tmp 2, .tmp 3]) (vs := [.int .i64 0, .int .i64 0]) F (by rfl) ⟨_, _, rfl, Ay rfl, _, _, rfl, Ay rfl, rfl⟩ ⟨_, rfl, ⟨rfl, sd.drop.drop⟩⟩
-- proviso/provisoref19.read
theorem provisoref19_read_c {w : World} {v0 : Value} {a0 : List UInt8} {r : (List S_provisoref19_ins)} (hr0 : Rd Ty.u8 w [] v0 a0) (H : provisoref19_read a0 = some r) :
    Calls Tryz.prog 40 #[v0] w (Ret fun u_ w_ => ∃ u0 : Value, u_ = u0 ∧ SL w [] w_ [Sl T_provisoref19_ins u0 r]) := by
 have s0 : SL w [] w [] := SL.init0 w
 refine Bn Tryz.func40 rfl Tryz.ntmps40 (Ag rfl) (args := [v0]) fun q0 F0 => ?_
 unfold provisoref19_read at H
 refine Ah <| Ak <| Aj F0 (Aa (Al rfl) <| Ad) fun q3 F4 => Ai <| Ac <| Ah <| Ak ?_
 obtain ⟨x0, h0, H⟩ := Ap H
 refine Aj F4 (Aa (Af rfl) <| Ad) fun _ F => Bk (args := [.tmp 11]) F Fx.fn60 rfl (provisoref05_Scan_c (a0 := a0)   (hr0.pass0 s0) h0) rfl fun v1 w0 _ h1 F => ?_
 obtain ⟨v2, rfl, h2⟩ := h1
 have s1 := s0.add h2
 refine Aj F (Aa (Af rfl) <| Aa (Au (v := v2) rfl rfl) <| Aa (Au (v := .int .i64 x0.2.1) rfl rfl) <| Aa (Au (v := .int .i64 x0.2.2) rfl rfl) <| Aa (Al rfl) <| Aa (Al rfl) <| Aa (Al rfl) <| Ad) fun _ F => Ai <| Ac <| Ah <| Ak <| Aj F (Aa (Al rfl) <| Ad) fun _ F => Ai <| Ac <| Ah <| Ah <| Ak <| Aj F (Aa (Af rfl) <| Aa (Cc rfl Tryz.underlying67 (Bu (s1.own_rd (.head _)))) <| Aa (Af rfl) <| Ad) fun _ F => Ai <| Ac ?_
 obtain ⟨o0, H0, R0⟩ := Ap H
 clear H
 refine Bx (fun a w_ => ∃ v3 : Value, Fr a 44 [(6, v3)] ∧ SL w [] w_ [Sl T_provisoref19_ins v3 o0]) ?_ ?_
 ·have H := H0
  refine Bh <| Cu (provisoref19_read_b0 x0) (fun s2 a w_ => ∃ v4 : Value, Fr a 44 [(3, v2), (6, v4), (16, v2), (17, .int .i64 (x0.1.length : Int)), (18, .int .i64 s2.2)] ∧ SL w [] w_ [Sl T_api_Instr v2 x0.1, Sl T_provisoref19_ins v4 s2.1]) H ?_ ?_
  ·exact ⟨(.slice none 0 0), F.sub ⟨rfl, rfl, rfl, rfl, rfl, trivial⟩, (SL.nilSl (T := T_provisoref19_ins) s1).f1⟩
  intro s2 _ w1 h3 o1 H hr
  obtain ⟨v4, F, s3⟩ := h3
  replace H : provisoref19_read_b0 x0 s2 = some o1 := H
  unfold provisoref19_read_b0 at H
  refine Ah <| Ak <| Aj F (Aa (Cr rfl rfl) <| Ad) fun _ F => Ai <| Ac <| Ah <| Bm F rfl (fun h4 => ?_) (fun h4 => ?_)
  ·replace H := Bb h4 H
   refine Aw <| Ac <| Ah <| Bh <| Ah <| Ak ?_
   obtain ⟨x1, h5, H⟩ := Ap H
   obtain ⟨a2, h6, h7⟩ := Ch F_api_Instr s3 (.head _) Fx.sl67 rfl h5
   refine Aj F (Aa (h6 _ _ _ _ _ _ _ _ _ _ rfl rfl) <| Aa (Bj Fx.agg79 rfl (SL.elcells F_api_Instr s3 (.head _) h7 h5) rfl) <| Ad) fun _ F => Bo F s3 Fx.zero79 rfl rfl fun g0 w2 _ F s4 => ?_
   have s5 := s4
   refine As F s5 rfl rfl Fx.sz79 (Ae rfl (Ae rfl (Ae rfl (Ae rfl Ba)))) (Ag rfl) fun w3 _ F s6 => ?_
   replace s6 : SL w [] w3 [Blk g0 79 [.int .i64 x1.At, .int .u8 (x1.Op.toNat : Int), .int .i64 x1.A, .int .i64 x1.B], Sl T_api_Instr v2 x0.1, Sl T_provisoref19_ins v4 s2.1] := s6
   refine Ai <| Ac <| Ah <| Ak <| Aj F (Aa (Ax Fx.fa79_1 rfl rfl) <| Aa (Az Fx.nag5 rfl (s6.blk_cell (.head _) rfl)) <| Aa (Ax Fx.fa79_2 rfl rfl) <| Aa (Az Fx.nag3 rfl (s6.blk_cell (.head _) rfl)) <| Aa (Ax Fx.fa79_3 rfl rfl) <| Aa (Az Fx.nag3 rfl (s6.blk_cell (.head _) rfl)) <| Aa (Cn (vs := [.int .u8 (x1.Op.toNat : Int), .int .i64 x1.A, .int .i64 x1.B, .int .i64 (-1)]) Fx.zero111 Fx.pl111 rfl (cs := [.int .u8 (x1.Op.toNat : Int), .int .i64 x1.A, .int .i64 x1.B, .int .i64 (-1)]) (rfl)) <| Ad) fun _ F => Bo F s6 Fx.zero111 rfl rfl fun g1 w4 _ F s7 => ?_
   have s8 := s7
   refine As F s8 rfl rfl Fx.sz111 (Ae rfl (Ae rfl (Ae rfl (Ae rfl Ba)))) (Ag rfl) fun w5 _ F s9 => ?_
   replace s9 : SL w [] w5 [Blk g1 111 [.int .u8 (x1.Op.toNat : Int), .int .i64 x1.A, .int .i64 x1.B, .int .i64 (-1)], Blk g0 79 [.int .i64 x1.At, .int .u8 (x1.Op.toNat : Int), .int .i64 x1.A, .int .i64 x1.B], Sl T_api_Instr v2 x0.1, Sl T_provisoref19_ins v4 s2.1] := s9
   refine Ai <| Ac <| Ah <| Ah <| Ak ?_
   obtain ⟨x2, h8, H⟩ := Ap H
   refine Aj F (Aa (Ax Fx.fa79_1 rfl rfl) <| Aa (Az Fx.nag5 rfl (s9.blk_cell (.tail _ <| .head _) rfl)) <| Ad) fun _ F => Bk (args := [.tmp 30]) F Fx.fn61 rfl (provisoref04_Jumps_c (a0 := x1.Op)    h8) rfl fun v5 w6 _ h9 F => ?_
   obtain ⟨rfl, ha⟩ := h9
   have sa := s9.add ha
   refine Ai <| Ac <| Bm F rfl (fun hb => ?_) (fun hb => ?_)
   ·replace H := Bb hb H
    refine Ah <| Ak ?_
    obtain ⟨x3, hc, H⟩ := Ap H
    refine Aj F (Aa (Af rfl) <| Aa (Ax Fx.fa79_2 rfl rfl) <| Aa (Az Fx.nag3 rfl (sa.blk_cell (.tail _ <| .head _) rfl)) <| Ad) fun _ F => Bk (args := [.tmp 32, .tmp 34]) F Fx.fn62 rfl (provisoref05_Place_c (a0 := x0.1) (a1 := x1.A)   (sa.rd0 (.tail _ <| .tail _ <| .head _)) hc) rfl fun v6 w7 _ hd F => ?_
    obtain ⟨rfl, he⟩ := hd
    have sb := sa.add he
    refine Aj F (Aa (Ax Fx.fa111_3 rfl rfl) <| Ad) fun _ F => ?_
    have sc := sb
    refine Cq F sc rfl rfl Fx.sz3 rfl rfl rfl fun w8 _ F sd => ?_
    replace sd : SL w [] w8 [Blk g1 111 [.int .u8 (x1.Op.toNat : Int), .int .i64 x1.A, .int .i64 x1.B, .int .i64 x3], Blk g0 79 [.int .i64 x1.At, .int .u8 (x1.Op.toNat : Int), .int .i64 x1.A, .int .i64 x1.B], Sl T_api_Instr v2 x0.1, Sl T_provisoref19_ins v4 s2.1] := sd
    refine Ai <| Ac <| Ak <| Aj F (Aa (Ax Fx.fa111_1 rfl rfl) <| Ad) fun _ F => ?_
    have se := sd
    refine Cq F se rfl rfl Fx.sz3 rfl rfl rfl fun w9 _ F sf => ?_
    replace sf : SL w [] w9 [Blk g1 111 [.int .u8 (x1.Op.toNat : Int), .int .i64 0, .int .i64 x1.B, .int .i64 x3], Blk g0 79 [.int .i64 x1.At, .int .u8 (x1.Op.toNat : Int), .int .i64 x1.A, .int .i64 x1.B], Sl T_api_Instr v2 x0.1, Sl T_provisoref19_ins v4 s2.1] := sf
    refine Ai <| Ac <| Ak <| Aj F (Aa (Af rfl) <| Aa (Bj Fx.agg111 rfl (sf.blk_cells (.head _) (o := 0) (ds := [.int .u8 (x1.Op.toNat : Int), .int .i64 0, .int .i64 x1.B, .int .i64 x3]) (fun j u hu => by rw [Nat.zero_add]; exact hu)) rfl) <| Ad) fun _ F => ?_
    refine Cs (parts := [(0, .tmp 39)]) F_provisoref19_ins ([(⟨x1.Op, 0, x1.B, x3⟩ : S_provisoref19_ins)] : List S_provisoref19_ins) F sf Fx.sl86 rfl (by decide) rfl rfl rfl (by simp [Value.cells]) rfl rfl rfl fun v7 wa _ F sg => ?_
    obtain ⟨x4, hf, H⟩ := Ap H
    have sh := sg.f4
    obtain ⟨_, hr_⟩ := (sh.own_rd (.tail _ <| .head _))
    refine Ci F_provisoref19_ins F sh Fx.sl86 rfl rfl rfl rfl hr_ rfl rfl hf rfl fun v8 wb _ F si => ?_
    have s11441' := si.f1.drop
    refine Aj F (Aa (Al rfl) <| Ad) fun _ F => Ai <| Bz <| Ac <| Ak <| Aj F (Aa (Bq rfl rfl) <| Aa (Af rfl) <| Ad) fun _ F => Ai ?_
    obtain rfl := An H
    refine Ac ?_
    exact ⟨_, rfl, v8, F.sub ⟨rfl, rfl, rfl, rfl, rfl, trivial⟩, s11441'.f1.drop.f1.drop.f1⟩
   replace H := Bc hb H
   refine Aw <| Ac <| Ak <| Aj F (Aa (Af rfl) <| Aa (Bj Fx.agg111 rfl (sa.blk_cells (.head _) (o := 0) (ds := [.int .u8 (x1.Op.toNat : Int), .int .i64 x1.A, .int .i64 x1.B, .int .i64 (-1)]) (fun j u hu => by rw [Nat.zero_add]; exact hu)) rfl) <| Ad) fun _ F => ?_
   refine Cs (parts := [(0, .tmp 39)]) F_provisoref19_ins ([(⟨x1.Op, x1.A, x1.B, (-1)⟩ : S_provisoref19_ins)] : List S_provisoref19_ins) F sa Fx.sl86 rfl (by decide) rfl rfl rfl (by simp [Value.cells]) rfl rfl rfl fun v9 wc _ F sj => ?_
   obtain ⟨x5, hg, H⟩ := Ap H
   have sk := sj.f4
   obtain ⟨_, hr_⟩ := (sk.own_rd (.tail _ <| .head _))
   refine Ci F_provisoref19_ins F sk Fx.sl86 rfl rfl rfl rfl hr_ rfl rfl hg rfl fun va wd _ F sl => ?_
   have s11461' := sl.f1.drop
   refine Aj F (Aa (Al rfl) <| Ad) fun _ F => Ai <| Bz <| Ac <| Ak <| Aj F (Aa (Bq rfl rfl) <| Aa (Af rfl) <| Ad) fun _ F => Ai ?_
   obtain rfl := An H
   refine Ac ?_
   exact ⟨_, rfl, va, F.sub ⟨rfl, rfl, rfl, rfl, rfl, trivial⟩, s11461'.f1.drop.f1.drop.f1⟩
  replace H := Bc h4 H
  refine Ca <| Bp <| Bp <| Cb ?_
  obtain rfl := An H
  obtain rfl := hr _ rfl
  refine Ac ?_
  exact ⟨v4, F.sub ⟨rfl, trivial⟩, s3.drop⟩
 intro _ we hJ
 obtain ⟨v3, F, sm⟩ := hJ
 have H := R0
 clear R0 H0
 refine Ac <| Ah <| Ak <| Aj F (Aa (Af rfl) <| Aa (Al rfl) <| Ad) fun _ F => Ai <| Ac ?_
 obtain rfl := An H
 refine Bd ?_
 refine Av (rs := [.tmp 2]) (vs := [v3]) F (by rfl) ⟨_, _, rfl, Ay rfl, rfl⟩ ⟨_, rfl, ⟨v3, rfl, sm⟩⟩
-- proviso/provisoref19.led
theorem provisoref19_led_c {w : World} {v0 : Value} {a0 : List S_provisoref19_ins} {r : (List Bool)} (hr0 : Rd T_provisoref19_ins w [] v0 a0) (H : provisoref19_led a0 = some r) :
    Calls Tryz.prog 64 #[v0] w (Ret fun u_ w_ => ∃ u0 : Value, u_ = u0 ∧ SL w [] w_ [Sl Ty.bool u0 r]) := by
 have s0 : SL w [] w [] := SL.init0 w
 refine Bn Tryz.func64 rfl Tryz.ntmps64 (Ag rfl) (args := [v0]) fun q0 F0 => ?_
 unfold provisoref19_led at H
 refine Ah <| Ak <| Aj F0 (Aa (Al rfl) <| Ad) fun q3 F4 => Ai <| Ac <| Ah <| Ak ?_
 obtain ⟨x0, h0, H⟩ := Ap H
 refine Aj F4 (Aa (Af rfl) <| Aa (Cc rfl Tryz.underlying86 (Bu (Cv hr0 s0))) <| Ad) fun _ F => st_make Flat.bool false F s0 Fx.sl99 rfl rfl Fx.zero4 rfl rfl rfl h0 rfl fun v1 w0 _ F s1 => Aj F (Aa (Al rfl) <| Ad) fun _ F => Ai <| Ac <| Ah <| Ah <| Ak <| Aj F (Aa (Af rfl) <| Aa (Cc rfl Tryz.underlying86 (Bu (Cv hr0 s1))) <| Aa (Af rfl) <| Ad) fun _ F => Ai <| Ac ?_
 obtain ⟨o0, H0, R0⟩ := Ap H
 clear H
 refine Bx (fun a w_ => ∃ v2 : Value, Fr a 24 [(3, v2)] ∧ SL w [] w_ [Sl Ty.bool v2 o0]) ?_ ?_
 ·have H := H0
  refine Bh <| Cu (provisoref19_led_b0 a0) (fun s2 a w_ => ∃ v3 : Value, Fr a 24 [(3, v3), (9, v0), (10, .int .i64 (a0.length : Int)), (11, .int .i64 s2.2)] ∧ SL w [] w_ [Sl Ty.bool v3 s2.1]) H ?_ ?_
  ·exact ⟨v1, F.sub ⟨rfl, rfl, rfl, rfl, trivial⟩, s1⟩
  intro s2 _ w1 h1 o1 H hr
  obtain ⟨v3, F, s3⟩ := h1
  replace H : provisoref19_led_b0 a0 s2 = some o1 := H
  unfold provisoref19_led_b0 at H
  refine Ah <| Ak <| Aj F (Aa (Cr rfl rfl) <| Ad) fun _ F => Ai <| Ac <| Ah <| Bm F rfl (fun h2 => ?_) (fun h2 => ?_)
  ·replace H := Bb h2 H
   refine Aw <| Ac <| Ah <| Bh <| Ah <| Ak ?_
   obtain ⟨x1, h3, H⟩ := Ap H
   obtain ⟨a1, h4, h5⟩ := Dg F_provisoref19_ins (Cv hr0 s3) Fx.sl86 rfl h3
   refine Aj F (Aa (h4 _ _ _ _ _ _ _ _ _ _ rfl rfl) <| Aa (Bj Fx.agg111 rfl h5 rfl) <| Ad) fun _ F => Bo F s3 Fx.zero111 rfl rfl fun g0 w2 _ F s4 => ?_
   have s5 := s4
   refine As F s5 rfl rfl Fx.sz111 (Ae rfl (Ae rfl (Ae rfl (Ae rfl Ba)))) (Ag rfl) fun w3 _ F s6 => ?_
   replace s6 : SL w [] w3 [Blk g0 111 [.int .u8 (x1.op.toNat : Int), .int .i64 x1.a, .int .i64 x1.b, .int .i64 x1.to], Sl Ty.bool v3 s2.1] := s6
   refine Ai <| Ac <| Ah <| Ak <| Aj F (Aa (Ax Fx.fa111_3 rfl rfl) <| Aa (Az Fx.nag3 rfl (s6.blk_cell (.head _) rfl)) <| Aa (ex_ge rfl rfl) <| Ad) fun _ F => Ai <| Ac <| Bm F rfl (fun h6 => ?_) (fun h6 => ?_)
   ·replace H := Bb h6 H
    refine Ak ?_
    obtain ⟨x2, h7, H⟩ := Ap H
    obtain ⟨a2, h8, h9⟩ := Ch Flat.bool s6 (.tail _ <| .head _) Fx.sl99 rfl h7
    refine Aj F (Aa (Af rfl) <| Aa (Ax Fx.fa111_3 rfl rfl) <| Aa (Az Fx.nag3 rfl (s6.blk_cell (.head _) rfl)) <| Aa (h8 _ _ _ _ _ _ _ _ _ _ rfl rfl) <| Ad) fun _ F => ?_
    refine Cx (y' := true) Flat.bool F s6.f1 h9 h7 rfl rfl (by rfl) Fx.sz4 fun w4 _ F s7 => ?_
    refine Ai <| Bz <| Ac <| Ak <| Aj F (Aa (Bq rfl rfl) <| Aa (Af rfl) <| Ad) fun _ F => Ai ?_
    obtain rfl := An H
    refine Ac ?_
    exact ⟨_, rfl, v3, F.sub ⟨rfl, rfl, rfl, rfl, trivial⟩, s7.f1.drop⟩
   replace H := Bc h6 H
   refine Aw <| Bz <| Ac <| Ak <| Aj F (Aa (Bq rfl rfl) <| Aa (Af rfl) <| Ad) fun _ F => Ai ?_
   obtain rfl := An H
   refine Ac ?_
   exact ⟨_, rfl, v3, F.sub ⟨rfl, rfl, rfl, rfl, trivial⟩, s6.drop⟩
  replace H := Bc h2 H
  refine Ca <| Bp <| Bp <| Cb ?_
  obtain rfl := An H
  obtain rfl := hr _ rfl
  refine Ac ?_
  exact ⟨v3, F.sub ⟨rfl, trivial⟩, s3⟩
 intro _ w5 hJ
 obtain ⟨v2, F, s8⟩ := hJ
 have H := R0
 clear R0 H0
 refine Ac <| Ah <| Ak <| Aj F (Aa (Af rfl) <| Aa (Al rfl) <| Ad) fun _ F => Ai <| Ac ?_
 obtain rfl := An H
 refine Bd ?_
 refine Av (rs := [.tmp 2]) (vs := [v2]) F (by rfl) ⟨_, _, rfl, Ay rfl, rfl⟩ ⟨_, rfl, ⟨v2, rfl, s8⟩⟩
-- proviso/provisoref19.left
theorem provisoref19_left_c {w : World} {v0 v1 : Value} {a0 : List S_provisoref19_ins} {a1 : List Bool} {r : (List S_provisoref19_ins)} (hr0 : Rd T_provisoref19_ins w [] v0 a0) (hr1 : Rd Ty.bool w [] v1 a1) (H : provisoref19_left a0 a1 = some r) :
    Calls Tryz.prog 65 #[v0, v1] w (Ret fun u_ w_ => ∃ u0 : Value, u_ = u0 ∧ SL w [] w_ [Sl T_provisoref19_ins u0 r]) := by
 have s0 : SL w [] w [] := SL.init0 w
 refine Bn Tryz.func65 rfl Tryz.ntmps65 (Ag rfl) (args := [v0, v1]) fun q0 F0 => ?_
 unfold provisoref19_left at H
 refine Ah <| Ak <| Aj F0 (Aa (Al rfl) <| Ad) fun q3 F4 => Ai <| Ac <| Ah <| Ak ?_
 obtain ⟨x0, h0, H⟩ := Ap H
 refine Aj F4 (Aa (Af rfl) <| Aa (Cc rfl Tryz.underlying86 (Bu (Cv hr0 s0))) <| Ad) fun _ F => st_make (Flat.int .i64) (0 : Int) F s0 Fx.sl95 rfl rfl Fx.zero3 rfl rfl rfl h0 rfl fun v2 w0 _ F s1 => Aj F (Aa (Al rfl) <| Ad) fun _ F => Ai <| Ac <| Ah <| Ak <| Aj F (Aa (Al rfl) <| Ad) fun _ F => Ai <| Ac <| Ah <| Ah <| Ak <| Aj F (Aa (Af rfl) <| Aa (Cc rfl Tryz.underlying86 (Bu (Cv hr0 s1))) <| Aa (Af rfl) <| Ad) fun _ F => Ai <| Ac ?_
 obtain ⟨o0, H0, R0⟩ := Ap H
 clear H
 refine Bx (fun a w_ => ∃ v3 : Value, Fr a 58 [(0, v0), (1, v1), (5, v3)] ∧ SL w [] w_ [Sl (Ty.int .i64) v3 o0]) ?_ ?_
 ·have H := H0
  refine Bh <| Cu (provisoref19_left_b0 a0 a1) (fun s2 a w_ => ∃ v4 : Value, Fr a 58 [(0, v0), (1, v1), (5, v4), (6, .int .i64 s2.2.1), (15, .int .i64 (a0.length : Int)), (16, .int .i64 s2.2.2)] ∧ SL w [] w_ [Sl (Ty.int .i64) v4 s2.1]) H ?_ ?_
  ·exact ⟨v2, F.sub ⟨rfl, rfl, rfl, rfl, rfl, rfl, trivial⟩, s1⟩
  intro s2 _ w1 h1 o1 H hr
  obtain ⟨v4, F, s3⟩ := h1
  replace H : provisoref19_left_b0 a0 a1 s2 = some o1 := H
  unfold provisoref19_left_b0 at H
  refine Ah <| Ak <| Aj F (Aa (Cr rfl rfl) <| Ad) fun _ F => Ai <| Ac <| Ah <| Bm F rfl (fun h2 => ?_) (fun h2 => ?_)
  ·replace H := Bb h2 H
   refine Aw <| Ac <| Ah <| Bh <| Ah <| Ak <| Aj F (Aa (Af rfl) <| Aa (Al rfl) <| Ad) fun _ F => Ai <| Ac <| Ah <| Ak ?_
   obtain ⟨x1, h3, H⟩ := Ap H
   obtain ⟨a2, h4, h5⟩ := Ch (Flat.int .i64) s3 (.head _) Fx.sl95 rfl h3
   refine Aj F (Aa (Af rfl) <| Aa (Af rfl) <| Aa (Af rfl) <| Aa (h4 _ _ _ _ _ _ _ _ _ _ rfl rfl) <| Ad) fun _ F => ?_
   refine Cx (y' := s2.2.1) (Flat.int .i64) F s3 h5 h3 rfl rfl (by rfl) Fx.sz3 fun w2 _ F s4 => ?_
   refine Ai <| Ac <| Ah <| Ak ?_
   obtain ⟨x2, h6, H⟩ := Ap H
   obtain ⟨a3, h7, h8⟩ := Dg Flat.bool (Cv hr1 s4) Fx.sl99 rfl h6
   refine Aj F (Aa (Af rfl) <| Aa (Af rfl) <| Aa (h7 _ _ _ _ _ _ _ _ _ _ rfl rfl) <| Aa (Az Fx.nag4 rfl (Cells.at_ h8 (o := 0) rfl)) <| Aa (Da rfl) <| Ad) fun _ F => Ai <| Ac <| Bm F rfl (fun h9 => ?_) (fun h9 => ?_)
   ·replace H := Bb h9 H
    refine Ak <| Aj F (Aa (Af rfl) <| Aa (Bq rfl rfl) <| Aa (Al rfl) <| Ad) fun _ F => Ai <| Bz <| Ac <| Ak <| Aj F (Aa (Bq rfl rfl) <| Aa (Af rfl) <| Ad) fun _ F => Ai ?_
    obtain rfl := An H
    refine Ac ?_
    exact ⟨_, rfl, v4, F.sub ⟨rfl, rfl, rfl, rfl, rfl, rfl, trivial⟩, s4⟩
   replace H := Bc h9 H
   refine Aw <| Bz <| Ac <| Ak <| Aj F (Aa (Bq rfl rfl) <| Aa (Af rfl) <| Ad) fun _ F => Ai ?_
   obtain rfl := An H
   refine Ac ?_
   exact ⟨_, rfl, v4, F.sub ⟨rfl, rfl, rfl, rfl, rfl, rfl, trivial⟩, s4⟩
  replace H := Bc h2 H
  refine Ca <| Bp <| Bp <| Cb ?_
  obtain rfl := An H
  obtain rfl := hr _ rfl
  refine Ac ?_
  exact ⟨v4, F.sub ⟨rfl, rfl, rfl, trivial⟩, s3⟩
 intro _ w3 hJ
 obtain ⟨v3, F, s5⟩ := hJ
 have H := R0
 clear R0 H0
 refine Ac <| Ah <| Ak <| Aj F (Aa (Al rfl) <| Ad) fun _ F => Ai <| Ac <| Ah <| Ah <| Ak <| Aj F (Aa (Af rfl) <| Aa (Cc rfl Tryz.underlying86 (Bu (Cv hr0 s5))) <| Aa (Af rfl) <| Ad) fun _ F => Ai <| Ac ?_
 obtain ⟨o2, H1, R1⟩ := Ap H
 clear H
 refine Bx (fun a w_ => ∃ v5 : Value, Fr a 58 [(8, v5)] ∧ SL w [] w_ [Sl T_provisoref19_ins v5 o2]) ?_ ?_
 ·have H := H1
  refine Bh <| Cu (provisoref19_left_b1 a0 a1 o0) (fun s6 a w_ => ∃ v6 : Value, Fr a 58 [(1, v1), (5, v3), (8, v6), (31, v0), (32, .int .i64 (a0.length : Int)), (33, .int .i64 s6.2)] ∧ SL w [] w_ [Sl (Ty.int .i64) v3 o0, Sl T_provisoref19_ins v6 s6.1]) H ?_ ?_
  ·exact ⟨(.slice none 0 0), F.sub ⟨rfl, rfl, rfl, rfl, rfl, rfl, trivial⟩, (SL.nilSl (T := T_provisoref19_ins) s5).f1⟩
  intro s6 _ w4 ha o3 H hr
  obtain ⟨v6, F, s7⟩ := ha
  replace H : provisoref19_left_b1 a0 a1 o0 s6 = some o3 := H
  unfold provisoref19_left_b1 at H
  refine Ah <| Ak <| Aj F (Aa (Cr rfl rfl) <| Ad) fun _ F => Ai <| Ac <| Ah <| Bm F rfl (fun hb => ?_) (fun hb => ?_)
  ·replace H := Bb hb H
   refine Aw <| Ac <| Ah <| Bh <| Ah <| Ak ?_
   obtain ⟨x3, hc, H⟩ := Ap H
   obtain ⟨a4, hd, he⟩ := Dg F_provisoref19_ins (Cv hr0 s7) Fx.sl86 rfl hc
   refine Aj F (Aa (Af rfl) <| Aa (hd _ _ _ _ _ _ _ _ _ _ rfl rfl) <| Aa (Bj Fx.agg111 rfl he rfl) <| Ad) fun _ F => Bo F s7 Fx.zero111 rfl rfl fun g0 w5 _ F s8 => Aj F (Aa (Al rfl) <| Ad) fun _ F => ?_
   have s9 := s8
   refine As F s9 rfl rfl Fx.sz111 (Ae rfl (Ae rfl (Ae rfl (Ae rfl Ba)))) (Ag rfl) fun w6 _ F sa => ?_
   replace sa : SL w [] w6 [Blk g0 111 [.int .u8 (x3.op.toNat : Int), .int .i64 x3.a, .int .i64 x3.b, .int .i64 x3.to], Sl (Ty.int .i64) v3 o0, Sl T_provisoref19_ins v6 s6.1] := sa
   refine Ai <| Ac <| Ah <| Ah <| Ak <| Aj F (Aa (Ax Fx.fa111_3 rfl rfl) <| Aa (Az Fx.nag3 rfl (sa.blk_cell (.head _) rfl)) <| Aa (ex_ge rfl rfl) <| Ad) fun _ F => Ai <| Ac <| Bm F rfl (fun hf => ?_) (fun hf => ?_)
   ·replace H := Bb hf H
    refine Ak ?_
    obtain ⟨x4, hg, H⟩ := Ap H
    obtain ⟨a5, hh, hi⟩ := Ch (Flat.int .i64) sa (.tail _ <| .head _) Fx.sl95 rfl hg
    refine Aj F (Aa (Af rfl) <| Aa (Ax Fx.fa111_3 rfl rfl) <| Aa (Az Fx.nag3 rfl (sa.blk_cell (.head _) rfl)) <| Aa (hh _ _ _ _ _ _ _ _ _ _ rfl rfl) <| Aa (Az Fx.nag3 rfl (Cells.at_ (SL.elcells (Flat.int .i64) sa (.tail _ <| .head _) hi hg) (o := 0) rfl)) <| Aa (Ax Fx.fa111_3 rfl rfl) <| Ad) fun _ F => ?_
    have sb := sa
    refine Cq F sb rfl rfl Fx.sz3 rfl rfl rfl fun w7 _ F sc => ?_
    replace sc : SL w [] w7 [Blk g0 111 [.int .u8 (x3.op.toNat : Int), .int .i64 x3.a, .int .i64 x3.b, .int .i64 x4], Sl (Ty.int .i64) v3 o0, Sl T_provisoref19_ins v6 s6.1] := sc
    refine Ai <| Ac <| Ah <| Ak ?_
    obtain ⟨x5, hj, H⟩ := Ap H
    obtain ⟨a6, hk, hl⟩ := Dg Flat.bool (Cv hr1 sc) Fx.sl99 rfl hj
    refine Aj F (Aa (Af rfl) <| Aa (Af rfl) <| Aa (hk _ _ _ _ _ _ _ _ _ _ rfl rfl) <| Aa (Az Fx.nag4 rfl (Cells.at_ hl (o := 0) rfl)) <| Aa (Da rfl) <| Ad) fun _ F => Ai <| Ac <| Bm F rfl (fun hm => ?_) (fun hm => ?_)
    ·replace H := Bb hm H
     refine Ak <| Aj F (Aa (Af rfl) <| Aa (Bj Fx.agg111 rfl (sc.blk_cells (.head _) (o := 0) (ds := [.int .u8 (x3.op.toNat : Int), .int .i64 x3.a, .int .i64 x3.b, .int .i64 x4]) (fun j u hu => by rw [Nat.zero_add]; exact hu)) rfl) <| Ad) fun _ F => ?_
     refine Cs (parts := [(0, .tmp 53)]) F_provisoref19_ins ([(⟨x3.op, x3.a, x3.b, x4⟩ : S_provisoref19_ins)] : List S_provisoref19_ins) F sc Fx.sl86 rfl (by decide) rfl rfl rfl (by simp [Value.cells]) rfl rfl rfl fun v7 w8 _ F sd => ?_
     obtain ⟨x6, hn, H⟩ := Ap H
     have se := sd.f3
     obtain ⟨_, hr_⟩ := (se.own_rd (.tail _ <| .head _))
     refine Ci F_provisoref19_ins F se Fx.sl86 rfl rfl rfl rfl hr_ rfl rfl hn rfl fun v8 w9 _ F sf => ?_
     have s9628' := sf.f1.drop
     refine Aj F (Aa (Al rfl) <| Ad) fun _ F => Ai <| Bz <| Ac <| Ak <| Aj F (Aa (Bq rfl rfl) <| Aa (Af rfl) <| Ad) fun _ F => Ai ?_
     obtain rfl := An H
     refine Ac ?_
     exact ⟨_, rfl, v8, F.sub ⟨rfl, rfl, rfl, rfl, rfl, rfl, trivial⟩, s9628'.f1.drop.f1⟩
    replace H := Bc hm H
    refine Aw <| Bz <| Ac <| Ak <| Aj F (Aa (Bq rfl rfl) <| Aa (Af rfl) <| Ad) fun _ F => Ai ?_
    obtain rfl := An H
    refine Ac ?_
    exact ⟨_, rfl, v6, F.sub ⟨rfl, rfl, rfl, rfl, rfl, rfl, trivial⟩, sc.drop⟩
   replace H := Bc hf H
   refine Aw <| Ac <| Ah <| Ak ?_
   obtain ⟨x7, ho, H⟩ := Ap H
   obtain ⟨a7, hp, hq⟩ := Dg Flat.bool (Cv hr1 sa) Fx.sl99 rfl ho
   refine Aj F (Aa (Af rfl) <| Aa (Af rfl) <| Aa (hp _ _ _ _ _ _ _ _ _ _ rfl rfl) <| Aa (Az Fx.nag4 rfl (Cells.at_ hq (o := 0) rfl)) <| Aa (Da rfl) <| Ad) fun _ F => Ai <| Ac <| Bm F rfl (fun hs => ?_) (fun hs => ?_)
   ·replace H := Bb hs H
    refine Ak <| Aj F (Aa (Af rfl) <| Aa (Bj Fx.agg111 rfl (sa.blk_cells (.head _) (o := 0) (ds := [.int .u8 (x3.op.toNat : Int), .int .i64 x3.a, .int .i64 x3.b, .int .i64 x3.to]) (fun j u hu => by rw [Nat.zero_add]; exact hu)) rfl) <| Ad) fun _ F => ?_
    refine Cs (parts := [(0, .tmp 53)]) F_provisoref19_ins ([(⟨x3.op, x3.a, x3.b, x3.to⟩ : S_provisoref19_ins)] : List S_provisoref19_ins) F sa Fx.sl86 rfl (by decide) rfl rfl rfl (by simp [Value.cells]) rfl rfl rfl fun v9 wa _ F sg => ?_
    obtain ⟨x8, ht, H⟩ := Ap H
    have sh := sg.f3
    obtain ⟨_, hr_⟩ := (sh.own_rd (.tail _ <| .head _))
    refine Ci F_provisoref19_ins F sh Fx.sl86 rfl rfl rfl rfl hr_ rfl rfl ht rfl fun va wb _ F si => ?_
    have s9665' := si.f1.drop
    refine Aj F (Aa (Al rfl) <| Ad) fun _ F => Ai <| Bz <| Ac <| Ak <| Aj F (Aa (Bq rfl rfl) <| Aa (Af rfl) <| Ad) fun _ F => Ai ?_
    obtain rfl := An H
    refine Ac ?_
    exact ⟨_, rfl, va, F.sub ⟨rfl, rfl, rfl, rfl, rfl, rfl, trivial⟩, s9665'.f1.drop.f1⟩
   replace H := Bc hs H
   refine Aw <| Bz <| Ac <| Ak <| Aj F (Aa (Bq rfl rfl) <| Aa (Af rfl) <| Ad) fun _ F => Ai ?_
   obtain rfl := An H
   refine Ac ?_
   exact ⟨_, rfl, v6, F.sub ⟨rfl, rfl, rfl, rfl, rfl, rfl, trivial⟩, sa.drop⟩
  replace H := Bc hb H
  refine Ca <| Bp <| Bp <| Cb ?_
  obtain rfl := An H
  obtain rfl := hr _ rfl
  refine Ac ?_
  exact ⟨v6, F.sub ⟨rfl, trivial⟩, s7.drop⟩
 intro _ wc hJ
 obtain ⟨v5, F, sj⟩ := hJ
 have H := R1
 clear R1 H1
 refine Ac <| Ah <| Ak <| Aj F (Aa (Af rfl) <| Aa (Al rfl) <| Ad) fun _ F => Ai <| Ac ?_
 obtain rfl := An H
 refine Bd ?_
 refine Av (rs := [.tmp 4]) (vs := [v5]) F (by rfl) ⟨_, _, rfl, Ay rfl, rfl⟩ ⟨_, rfl, ⟨v5, rfl, sj⟩⟩
-- proviso/provisoref19.sure
theorem provisoref19_sure_c {w : World} {v0 : Value} {a0 : List S_provisoref19_ins} {r : (List S_provisoref19_ins)} (hr0 : Rd T_provisoref19_ins w [] v0 a0) (H : provisoref19_sure a0 = some r) :
    Calls Tryz.prog 41 #[v0] w (Ret fun u_ w_ => ∃ u0 : Value, u_ = u0 ∧ SL w [] w_ [Sl T_provisoref19_ins u0 r]) := by
 have s0 : SL w [] w [] := SL.init0 w
 refine Bn Tryz.func41 rfl Tryz.ntmps41 (Ag rfl) (args := [v0]) fun q0 F0 => ?_
 unfold provisoref19_sure at H
 refine Ah <| Ak <| Aj F0 (Aa (Al rfl) <| Ad) fun q3 F4 => Ai <| Ac <| Ah <| Ak ?_
 obtain ⟨x0, h0, H⟩ := Ap H
 refine Aj F4 (Aa (Af rfl) <| Ad) fun _ F => Bk (args := [.tmp 7]) F Fx.fn64 rfl (provisoref19_led_c (a0 := a0)   (hr0.pass0 s0) h0) rfl fun v1 w0 _ h1 F => ?_
 obtain ⟨_, rfl, h2⟩ := h1
 have s1 := s0.add h2
 refine Aj F (Aa (Al rfl) <| Ad) fun _ F => Ai <| Ac <| Ah <| Ak ?_
 obtain ⟨x1, h3, H⟩ := Ap H
 refine Aj F (Aa (Af rfl) <| Aa (Cc rfl Tryz.underlying86 (Bu (Cv hr0 s1))) <| Ad) fun _ F => st_make Flat.bool false F s1 Fx.sl99 rfl rfl Fx.zero4 rfl rfl rfl h3 rfl fun v2 w1 _ F s2 => Aj F (Aa (Al rfl) <| Ad) fun _ F => Ai <| Ac <| Ah <| Ak ?_
 refine Cs (parts := []) F_provisoref19_ins ([] : List S_provisoref19_ins) F s2 Fx.sl86 rfl (by decide) rfl rfl rfl (by simp [Value.cells]) rfl rfl rfl fun v3 w2 _ F s3 => ?_
 obtain ⟨x2, h4, H⟩ := Ap H
 refine Aj F (Aa (Af rfl) <| Ad) fun _ F => ?_
 have s4 := s3
 obtain ⟨_, hr_⟩ := (Cv hr0 s4)
 refine Ci F_provisoref19_ins F s4 Fx.sl86 rfl rfl rfl rfl hr_ rfl rfl h4 rfl fun v4 w3 _ F s5 => Aj F (Aa (Al rfl) <| Ad) fun _ F => Ai <| Ac <| Ah <| Ah <| Ak <| Aj F (Aa (Al rfl) <| Ad) fun _ F => Ai <| Ac ?_
 obtain ⟨o0, H0, R0⟩ := Ap H
 clear H
 refine Bx (fun a w_ => ∃ v5 v6 : Value, Fr a 72 [(4, v5), (5, v6)] ∧ SL w [] w_ [Sl Ty.bool v5 o0.1, Sl T_provisoref19_ins v6 o0.2]) ?_ ?_
 ·have H := H0
  refine Bh <| Cu (provisoref19_sure_b0 a0 x0) (fun s6 a w_ => ∃ v7 v8 : Value, Fr a 72 [(0, v0), (3, v1), (4, v7), (5, v8), (6, .int .i64 s6.2.2)] ∧ SL w [] w_ [Sl Ty.bool v1 x0, Sl Ty.bool v7 s6.1, Sl T_provisoref19_ins v8 s6.2.1]) H ?_ ?_
  ·exact ⟨v2, v4, F.sub ⟨rfl, rfl, rfl, rfl, rfl, trivial⟩, s5.f1.f2⟩
  intro s6 _ w4 h5 o1 H hr
  obtain ⟨v7, v8, F, s7⟩ := h5
  replace H : provisoref19_sure_b0 a0 x0 s6 = some o1 := H
  unfold provisoref19_sure_b0 at H
  refine Ah <| Ah <| Ak <| Aj F (Aa (Af rfl) <| Aa (Bq rfl rfl) <| Aa (Af rfl) <| Aa (Cc rfl Tryz.underlying86 (Bu (Cv hr0 s7))) <| Aa (Cr rfl rfl) <| Ad) fun _ F => Ai <| Ac <| Bm F rfl (fun h6 => ?_) (fun h6 => ?_)
  ·replace H := Bb h6 H
   refine Aw <| Ac <| Ah <| Bh <| Ah <| Ah <| Ak ?_
   obtain ⟨x3, h7, H⟩ := Ap H
   obtain ⟨a2, h8, h9⟩ := Dg F_provisoref19_ins (Cv hr0 s7) Fx.sl86 rfl h7
   refine Aj F (Aa (Af rfl) <| Aa (Af rfl) <| Aa (h8 _ _ _ _ _ _ _ _ _ _ rfl rfl) <| Aa (Cw Fx.fa111_0 rfl) <| Aa (Az Fx.nag5 rfl (Cells.at_ h9 (o := 0) rfl)) <| Aa (De rfl rfl) <| Aa (Af rfl) <| Ad) fun _ F => Bl ((x3.op.toNat : Int) != 2) (fun ha => ?_) (fun ha => ?_)
   ·replace H := Bb ha H
    refine Ao F rfl rfl (Am rfl ha) Ab rfl rfl fun _ F => Ao F rfl rfl (Am rfl ha) Ab rfl rfl fun _ F => Ao F rfl rfl (Am rfl ha) Ab rfl rfl fun _ F => Ao F rfl rfl (Am rfl ha) Ab rfl rfl fun _ F => Ao F rfl rfl (Am rfl ha) Ab rfl rfl fun _ F => Ao F rfl rfl (Am rfl ha) Ab rfl rfl fun _ F => Ao F rfl rfl (Am rfl ha) Ab rfl rfl fun _ F => Aj F (Aa (Bf (By rfl ha) rfl) <| Aa (Af rfl) <| Ad) fun _ F => Ao F rfl rfl rfl Ab rfl rfl fun _ F => Ao F rfl rfl rfl Ab rfl rfl fun _ F => Ao F rfl rfl rfl Ab rfl rfl fun _ F => Ao F rfl rfl rfl Ab rfl rfl fun _ F => Ao F rfl rfl rfl Ab rfl rfl fun _ F => Aj F (Aa (Bf rfl rfl) <| Ad) fun _ F => Ai <| Ac <| Cz F rfl <| Ca <| Bp <| Cb <| Ac <| Ak <| Aj F (Aa (Af rfl) <| Aa (Bq rfl rfl) <| Aa (Al rfl) <| Ad) fun _ F => ?_
    refine Ai ?_
    obtain rfl := An H
    refine Ac ?_
    exact ⟨_, rfl, v7, v8, F.sub ⟨rfl, rfl, rfl, rfl, rfl, trivial⟩, s7⟩
   replace H := Bc ha H
   refine Aq F rfl rfl (Am rfl ha) (Af rfl) rfl rfl fun _ F => Aq F rfl rfl (Am rfl ha) (Af rfl) rfl rfl fun _ F => Aq F rfl rfl (Am rfl ha) (Bq rfl rfl) rfl rfl fun _ F => ?_
   obtain ⟨x4, hb, H⟩ := Ap H
   obtain ⟨a3, hc, hd⟩ := Dg F_provisoref19_ins (Cv hr0 s7) Fx.sl86 rfl hb
   refine Aq F rfl rfl (Am rfl ha) (hc _ _ _ _ _ _ _ _ _ _ rfl rfl) rfl rfl fun _ F => Aq F rfl rfl (Am rfl ha) (Cw Fx.fa111_0 rfl) rfl rfl fun _ F => Aq F rfl rfl (Am rfl ha) (Az Fx.nag5 rfl (Cells.at_ hd (o := 0) rfl)) rfl rfl fun _ F => Aq F rfl rfl (Am rfl ha) (De rfl rfl) rfl rfl fun _ F => Aj F (Aa (Bi (By rfl ha) rfl) <| Aa (Af rfl) <| Ad) fun _ F => Bl ((x4.op.toNat : Int) != 20) (fun he => ?_) (fun he => ?_)
   ·replace H := Bb he H
    refine Ao F rfl rfl (Am rfl he) Ab rfl rfl fun _ F => Ao F rfl rfl (Am rfl he) Ab rfl rfl fun _ F => Ao F rfl rfl (Am rfl he) Ab rfl rfl fun _ F => Ao F rfl rfl (Am rfl he) Ab rfl rfl fun _ F => Ao F rfl rfl (Am rfl he) Ab rfl rfl fun _ F => Aj F (Aa (Bf (By rfl he) rfl) <| Ad) fun _ F => Ai <| Ac <| Cz F rfl <| Ca <| Bp <| Cb <| Ac <| Ak <| Aj F (Aa (Af rfl) <| Aa (Bq rfl rfl) <| Aa (Al rfl) <| Ad) fun _ F => Ai ?_
    obtain rfl := An H
    refine Ac ?_
    exact ⟨_, rfl, v7, v8, F.sub ⟨rfl, rfl, rfl, rfl, rfl, trivial⟩, s7⟩
   replace H := Bc he H
   refine Aq F rfl rfl (Am rfl he) (Af rfl) rfl rfl fun _ F => Aq F rfl rfl (Am rfl he) (Af rfl) rfl rfl fun _ F => Aq F rfl rfl (Am rfl he) (Bq rfl rfl) rfl rfl fun _ F => ?_
   obtain ⟨x5, hf, H⟩ := Ap H
   obtain ⟨a4, hg, hh⟩ := Ch Flat.bool s7 (.head _) Fx.sl99 rfl hf
   refine Aq F rfl rfl (Am rfl he) (hg _ _ _ _ _ _ _ _ _ _ rfl rfl) rfl rfl fun _ F => Aq F rfl rfl (Am rfl he) (Az Fx.nag4 rfl (Cells.at_ (SL.elcells Flat.bool s7 (.head _) hh hf) (o := 0) rfl)) rfl rfl fun _ F => Aj F (Aa (Bi (By rfl he) rfl) <| Ad) fun _ F => Ai <| Ac <| Bm F rfl (fun hi => ?_) (fun hi => ?_)
   ·replace H := Bb hi H
    refine Ca <| Bp <| Cb <| Ac <| Ak <| Aj F (Aa (Af rfl) <| Aa (Bq rfl rfl) <| Aa (Al rfl) <| Ad) fun _ F => Ai ?_
    obtain rfl := An H
    refine Ac ?_
    exact ⟨_, rfl, v7, v8, F.sub ⟨rfl, rfl, rfl, rfl, rfl, trivial⟩, s7⟩
   replace H := Bc hi H
   refine Aw <| Ac <| Ah <| Ak ?_
   obtain ⟨x6, hj, H⟩ := Ap H
   obtain ⟨a5, hk, hl⟩ := Ch Flat.bool s7 (.tail _ <| .head _) Fx.sl99 rfl hj
   refine Aj F (Aa (Af rfl) <| Aa (Af rfl) <| Aa (Bq rfl rfl) <| Aa (hk _ _ _ _ _ _ _ _ _ _ rfl rfl) <| Ad) fun _ F => ?_
   refine Cx (y' := true) Flat.bool F s7.f1 hl hj rfl rfl (by rfl) Fx.sz4 fun w5 _ F s8 => ?_
   refine Ai <| Ac <| Ah <| Ah <| Ak ?_
   obtain ⟨x7, hm, H⟩ := Ap H
   obtain ⟨a6, hn, ho⟩ := Dg F_provisoref19_ins (Cv hr0 s8) Fx.sl86 rfl hm
   refine Aj F (Aa (Af rfl) <| Aa (Af rfl) <| Aa (hn _ _ _ _ _ _ _ _ _ _ rfl rfl) <| Aa (Cw Fx.fa111_1 rfl) <| Aa (Az Fx.nag3 rfl (Cells.at_ ho (o := 1) rfl)) <| Aa (Bw rfl rfl) <| Ad) fun _ F => Ai <| Ac <| Bm F rfl (fun hp => ?_) (fun hp => ?_)
   ·replace H := Bb hp H
    refine Ak ?_
    obtain ⟨x8, hq, H⟩ := Ap H
    obtain ⟨a7, hs, ht⟩ := Ch Flat.bool s8 (.head _) Fx.sl99 rfl hq
    refine Aj F (Aa (Af rfl) <| Aa (Af rfl) <| Aa (hs _ _ _ _ _ _ _ _ _ _ rfl rfl) <| Ad) fun _ F => ?_
    refine Cx (y' := true) Flat.bool F s8 ht hq rfl rfl (by rfl) Fx.sz4 fun w6 _ F s9 => ?_
    refine Ai <| Ac <| Ak <| Aj F (Aa (Af rfl) <| Aa (Bq rfl rfl) <| Aa (Al rfl) <| Ad) fun _ F => Ai <| Bz <| Ac <| Ak <| Aj F (Aa (Af rfl) <| Aa (Bq rfl rfl) <| Aa (Al rfl) <| Ad) fun _ F => Ai ?_
    obtain rfl := An H
    refine Ac ?_
    exact ⟨_, rfl, v7, v8, F.sub ⟨rfl, rfl, rfl, rfl, rfl, trivial⟩, s9.f2.f1.f2⟩
   replace H := Bc hp H
   refine Ak ?_
   obtain ⟨x9, hu, H⟩ := Ap H
   obtain ⟨a8, hv, hw⟩ := Dg F_provisoref19_ins (Cv hr0 s8) Fx.sl86 rfl hu
   obtain ⟨xa, hx, H⟩ := Ap H
   obtain ⟨a9, hy, hz⟩ := Ch F_provisoref19_ins s8 (.tail _ <| .tail _ <| .head _) Fx.sl86 rfl hx
   refine Aj F (Aa (Af rfl) <| Aa (Af rfl) <| Aa (Af rfl) <| Aa (Af rfl) <| Aa (Bq rfl rfl) <| Aa (hv _ _ _ _ _ _ _ _ _ _ rfl rfl) <| Aa (Cw Fx.fa111_3 rfl) <| Aa (Az Fx.nag3 rfl (Cells.at_ hw (o := 3) rfl)) <| Aa (Cn (vs := [.int .u8 19, .int .i64 x9.to]) Fx.zero111 Fx.pl111 rfl (cs := [.int .u8 19, .int .i64 0, .int .i64 0, .int .i64 x9.to]) (rfl)) <| Aa (hy _ _ _ _ _ _ _ _ _ _ rfl rfl) <| Ad) fun _ F => ?_
   refine Cx (y' := (⟨19, 0, 0, x9.to⟩ : S_provisoref19_ins)) F_provisoref19_ins F s8.f2 hz hx rfl rfl (by rfl) Fx.sz111 fun w7 _ F sa => ?_
   refine Ai <| Ac <| Ak <| Aj F (Aa (Af rfl) <| Aa (Bq rfl rfl) <| Aa (Al rfl) <| Ad) fun _ F => Ai <| Bz <| Ac <| Ak <| Aj F (Aa (Af rfl) <| Aa (Bq rfl rfl) <| Aa (Al rfl) <| Ad) fun _ F => Ai ?_
   obtain rfl := An H
   refine Ac ?_
   exact ⟨_, rfl, v7, v8, F.sub ⟨rfl, rfl, rfl, rfl, rfl, trivial⟩, sa.f1.f2⟩
  replace H := Bc h6 H
  refine Ca <| Bp <| Bp <| Cb ?_
  obtain rfl := An H
  obtain rfl := hr _ rfl
  refine Ac ?_
  exact ⟨v7, v8, F.sub ⟨rfl, rfl, trivial⟩, s7.drop⟩
 intro _ w8 hJ
 obtain ⟨v5, v6, F, sb⟩ := hJ
 have H := R0
 clear R0 H0
 refine Ac <| Ah <| Ak ?_
 obtain ⟨xb, h10, H⟩ := Ap H
 refine Aj F (Aa (Af rfl) <| Aa (Af rfl) <| Ad) fun _ F => Bk (args := [.tmp 69, .tmp 70]) F Fx.fn65 rfl (provisoref19_left_c (a0 := o0.2) (a1 := o0.1)   (sb.rd0 (.tail _ <| .head _)) (sb.rd0 (.head _)) h10) rfl fun v9 w9 _ h11 F => ?_
 obtain ⟨_, rfl, h12⟩ := h11
 have sc := sb.add h12
 refine Aj F (Aa (Al rfl) <| Ad) fun _ F => Ai <| Ac ?_
 obtain rfl := An H
 refine Bd ?_
 refine Av (rs := [.tmp 2]) (vs := [v9]) F (by rfl) ⟨_, _, rfl, Ay rfl, rfl⟩ ⟨_, rfl, ⟨v9, rfl, sc.f1.drop.f1.drop⟩⟩
-- proviso/provisoref15.Wrap
theorem provisoref15_Wrap_c {w : World} {a0 : Int} {r : Int}  (H : provisoref15_Wrap a0 = some r) :
    Calls Tryz.prog 76 #[.int .i64 a0] w (Ret fun u_ w_ => u_ = .int .i64 r ∧ SL w [] w_ []) := by
 have s0 : SL w [] w [] := SL.init0 w
 refine Bn Tryz.func76 rfl Tryz.ntmps76 (Ag rfl) (args := [.int .i64 a0]) fun q0 F0 => ?_
 unfold provisoref15_Wrap at H
 refine Ah <| Ak <| Aj F0 (Aa (Al rfl) <| Ad) fun q3 F4 => Ai <| Ac <| Ah <| Ak <| Aj F4 (Aa (Af rfl) <| Aa (ex_conv rfl Tryz.underlying3 Tryz.underlying21) <| Aa (ex_conv rfl Tryz.underlying21 Tryz.underlying3) <| Aa (Al rfl) <| Ad) fun q7 F8 => Ai <| Ac ?_
 obtain rfl := An H
 refine Bd ?_
 refine Av (rs := [.tmp 2]) (vs := [.int .i64 (wr (IntKind.i32.wrap a0))]) F8 (by rfl) ⟨_, _, rfl, Ay rfl, rfl⟩ ⟨_, rfl, ⟨rfl, s0⟩⟩
-- proviso/provisoref19.truth
theorem provisoref19_truth_c {w : World} {a0 : Bool} {r : S_provisoref19_ins}  (H : provisoref19_truth a0 = some r) :
    Calls Tryz.prog 77 #[.bool a0] w (Ret fun u_ w_ => u_ = .agg ⟨[.int .u8 (r.op.toNat : Int), .int .i64 r.a, .int .i64 r.b, .int .i64 r.to]⟩ ∧ SL w [] w_ []) := by
 have s0 : SL w [] w [] := SL.init0 w
 refine Bn Tryz.func77 rfl Tryz.ntmps77 (Ag rfl) (args := [.bool a0]) fun q0 F0 => ?_
 unfold provisoref19_truth at H
 refine Ah <| Ak <| Bo F0 s0 Fx.zero111 rfl rfl fun g7 w8 q9 F s1 => Ai <| Ac <| Ah <| Ak <| Aj F (Aa (Cn (vs := [.int .u8 2, .int .i64 (-1)]) Fx.zero111 Fx.pl111 rfl (cs := [.int .u8 2, .int .i64 0, .int .i64 0, .int .i64 (-1)]) (rfl)) <| Ad) fun _ F => Bo F s1 Fx.zero111 rfl rfl fun g0 w0 _ F s2 => ?_
 have s3 := s2
 refine As F s3 rfl rfl Fx.sz111 (Ae rfl (Ae rfl (Ae rfl (Ae rfl Ba)))) (Ag rfl) fun w1 _ F s4 => ?_
 replace s4 : SL w [] w1 [Blk g0 111 [.int .u8 2, .int .i64 0, .int .i64 0, .int .i64 (-1)], Blk g7 111 [.int .u8 0, .int .i64 0, .int .i64 0, .int .i64 0]] := s4
 refine Ai <| Ac <| Ah <| Ah <| Ak <| Aj F (Aa (Af rfl) <| Ad) fun _ F => Ai <| Ac <| Bm F rfl (fun h0 => ?_) (fun h0 => ?_)
 ·replace H := Bb h0 H
  refine Ak <| Aj F (Aa (Ax Fx.fa111_1 rfl rfl) <| Ad) fun _ F => ?_
  have s5 := s4
  refine Cq F s5 rfl rfl Fx.sz3 rfl rfl rfl fun w2 _ F s6 => ?_
  replace s6 : SL w [] w2 [Blk g0 111 [.int .u8 2, .int .i64 1, .int .i64 0, .int .i64 (-1)], Blk g7 111 [.int .u8 0, .int .i64 0, .int .i64 0, .int .i64 0]] := s6
  refine Ai <| Ac <| Ah <| Ak <| Aj F (Aa (Bj Fx.agg111 rfl (s6.blk_cells (.head _) (o := 0) (ds := [.int .u8 2, .int .i64 1, .int .i64 0, .int .i64 (-1)]) (fun j u hu => by rw [Nat.zero_add]; exact hu)) rfl) <| Ad) fun _ F => ?_
  have s7 := s6.f1
  refine As F s7 rfl rfl Fx.sz111 (Ae rfl (Ae rfl (Ae rfl (Ae rfl Ba)))) (Ag rfl) fun w3 _ F s8 => ?_
  replace s8 : SL w [] w3 [Blk g7 111 [.int .u8 2, .int .i64 1, .int .i64 0, .int .i64 (-1)], Blk g0 111 [.int .u8 2, .int .i64 1, .int .i64 0, .int .i64 (-1)]] := s8
  refine Ai <| Ac ?_
  obtain rfl := An H
  refine Bd ?_
  refine Av (rs := [.cell 2 111]) (vs := [.agg ⟨[.int .u8 2, .int .i64 1, .int .i64 0, .int .i64 (-1)]⟩]) F (by rfl) ⟨_, _, rfl, Cj s8 (.head _) rfl Fx.agg111 rfl, rfl⟩ ⟨_, rfl, ⟨rfl, s8.drop.drop⟩⟩
 replace H := Bc h0 H
 refine Aw <| Ac <| Ah <| Ak <| Aj F (Aa (Bj Fx.agg111 rfl (s4.blk_cells (.head _) (o := 0) (ds := [.int .u8 2, .int .i64 0, .int .i64 0, .int .i64 (-1)]) (fun j u hu => by rw [Nat.zero_add]; exact hu)) rfl) <| Ad) fun _ F => ?_
 have s9 := s4.f1
 refine As F s9 rfl rfl Fx.sz111 (Ae rfl (Ae rfl (Ae rfl (Ae rfl Ba)))) (Ag rfl) fun w4 _ F sa => ?_
 replace sa : SL w [] w4 [Blk g7 111 [.int .u8 2, .int .i64 0, .int .i64 0, .int .i64 (-1)], Blk g0 111 [.int .u8 2, .int .i64 0, .int .i64 0, .int .i64 (-1)]] := sa
 refine Ai <| Ac ?_
 obtain rfl := An H
 refine Bd ?_
 refine Av (rs := [.cell 2 111]) (vs := [.agg ⟨[.int .u8 2, .int .i64 0, .int .i64 0, .int .i64 (-1)]⟩]) F (by rfl) ⟨_, _, rfl, Cj sa (.head _) rfl Fx.agg111 rfl, rfl⟩ ⟨_, rfl, ⟨rfl, sa.drop.drop⟩⟩
-- proviso/provisoref19.three
theorem provisoref19_three_c {w : World} {a0 : S_provisoref19_ins} {a1 : S_provisoref19_ins} {a2 : S_provisoref19_ins} {r : S_provisoref19_ins × Bool}  (H : provisoref19_three a0 a1 a2 = some r) :
    Calls Tryz.prog 66 #[.agg ⟨[.int .u8 (a0.op.toNat : Int), .int .i64 a0.a, .int .i64 a0.b, .int .i64 a0.to]⟩, .agg ⟨[.int .u8 (a1.op.toNat : Int), .int .i64 a1.a, .int .i64 a1.b, .int .i64 a1.to]⟩, .agg ⟨[.int .u8 (a2.op.toNat : Int), .int .i64 a2.a, .int .i64 a2.b, .int .i64 a2.to]⟩] w (Ret fun u_ w_ => u_ = .tuple ⟨[.agg ⟨[.int .u8 (r.1.op.toNat : Int), .int .i64 r.1.a, .int .i64 r.1.b, .int .i64 r.1.to]⟩, .bool r.2]⟩ ∧ SL w [] w_ []) := by
 have s0 : SL w [] w [] := SL.init0 w
 refine Bn Tryz.func66 rfl Tryz.ntmps66 (Ag rfl) (args := [.agg ⟨[.int .u8 (a0.op.toNat : Int), .int .i64 a0.a, .int .i64 a0.b, .int .i64 a0.to]⟩, .agg ⟨[.int .u8 (a1.op.toNat : Int), .int .i64 a1.a, .int .i64 a1.b, .int .i64 a1.to]⟩, .agg ⟨[.int .u8 (a2.op.toNat : Int), .int .i64 a2.a, .int .i64 a2.b, .int .i64 a2.to]⟩]) fun q0 F0 => ?_
 unfold provisoref19_three at H
 refine Ah <| Ak <| Db F0 s0 rfl rfl rfl fun g0 w0 _ F s1 => Db F s1 rfl rfl rfl fun g1 w1 _ F s2 => Db F s2 rfl rfl rfl fun g2 w2 _ F s3 => Bo F s3 Fx.zero111 rfl rfl fun g3 w3 _ F s4 => Aj F (Aa (Al rfl) <| Ad) fun _ F => Ai <| Ac <| Ah ?_
 obtain ⟨o0, H0, R0⟩ := Ap H
 clear H
 refine Bx (fun a w_ => Fr a 99 [(3, .pointer (some ⟨g0, 0, none⟩)), (4, .pointer (some ⟨g1, 0, none⟩)), (5, .pointer (some ⟨g2, 0, none⟩)), (6, .pointer (some ⟨g3, 0, none⟩)), (8, .bool o0)] ∧ SL w [] w_ [Blk g3 111 [.int .u8 0, .int .i64 0, .int .i64 0, .int .i64 0], Blk g2 111 [.int .u8 (a2.op.toNat : Int), .int .i64 a2.a, .int .i64 a2.b, .int .i64 a2.to], Blk g1 111 [.int .u8 (a1.op.toNat : Int), .int .i64 a1.a, .int .i64 a1.b, .int .i64 a1.to], Blk g0 111 [.int .u8 (a0.op.toNat : Int), .int .i64 a0.a, .int .i64 a0.b, .int .i64 a0.to]]) ?_ ?_
 ·have H := H0
  refine Ak <| Aj F (Aa (Ax Fx.fa111_0 rfl rfl) <| Aa (Az Fx.nag5 rfl (s4.blk_cell (.tail _ <| .tail _ <| .tail _ <| .head _) rfl)) <| Aa (Bw rfl rfl) <| Aa (Af rfl) <| Ad) fun _ F => Bl ((a0.op.toNat : Int) == 1) (fun h0 => ?_) (fun h0 => ?_)
  ·replace H := Bb h0 H
   refine Aq F rfl rfl (Am rfl h0) (Ax Fx.fa111_0 rfl rfl) rfl rfl fun _ F => Aq F rfl rfl (Am rfl h0) (Az Fx.nag5 rfl (s4.blk_cell (.tail _ <| .tail _ <| .head _) rfl)) rfl rfl fun _ F => Aq F rfl rfl (Am rfl h0) (Bw rfl rfl) rfl rfl fun _ F => Aj F (Aa (Bf (By rfl h0) rfl) <| Aa (Al rfl) <| Ad) fun _ F => Ai ?_
   obtain rfl := An H
   refine Ac ?_
   exact ⟨F.sub ⟨rfl, rfl, rfl, rfl, rfl, trivial⟩, s4⟩
  replace H := Bc h0 H
  refine Ao F rfl rfl (Am rfl h0) Ab rfl rfl fun _ F => Ao F rfl rfl (Am rfl h0) Ab rfl rfl fun _ F => Ao F rfl rfl (Am rfl h0) Ab rfl rfl fun _ F => Aj F (Aa (Bi (By rfl h0) rfl) <| Aa (Al rfl) <| Ad) fun _ F => Ai ?_
  obtain rfl := An H
  refine Ac ?_
  exact ⟨F.sub ⟨rfl, rfl, rfl, rfl, rfl, trivial⟩, s4⟩
 intro _ w4 hJ
 obtain ⟨F, s5⟩ := hJ
 have H := R0
 clear R0 H0
 refine Ac <| Ah <| Ak <| Aj F (Aa (Cn (vs := [.int .u8 1, .int .i64 (-1)]) Fx.zero111 Fx.pl111 rfl (cs := [.int .u8 1, .int .i64 0, .int .i64 0, .int .i64 (-1)]) (rfl)) <| Ad) fun _ F => Bo F s5 Fx.zero111 rfl rfl fun g4 w5 _ F s6 => ?_
 have s7 := s6
 refine As F s7 rfl rfl Fx.sz111 (Ae rfl (Ae rfl (Ae rfl (Ae rfl Ba)))) (Ag rfl) fun w6 _ F s8 => ?_
 replace s8 : SL w [] w6 [Blk g4 111 [.int .u8 1, .int .i64 0, .int .i64 0, .int .i64 (-1)], Blk g3 111 [.int .u8 0, .int .i64 0, .int .i64 0, .int .i64 0], Blk g2 111 [.int .u8 (a2.op.toNat : Int), .int .i64 a2.a, .int .i64 a2.b, .int .i64 a2.to], Blk g1 111 [.int .u8 (a1.op.toNat : Int), .int .i64 a1.a, .int .i64 a1.b, .int .i64 a1.to], Blk g0 111 [.int .u8 (a0.op.toNat : Int), .int .i64 a0.a, .int .i64 a0.b, .int .i64 a0.to]] := s8
 refine Ai <| Ac <| Ah <| Bh <| Ah <| Ak <| Aj F (Aa (Af rfl) <| Aa (Af rfl) <| Ad) fun _ F => Bl o0 (fun h1 => ?_) (fun h1 => ?_)
 ·replace H := Bb h1 H
  refine Aq F rfl rfl (Am rfl h1) (Ax Fx.fa111_0 rfl rfl) rfl rfl fun _ F => Aq F rfl rfl (Am rfl h1) (Az Fx.nag5 rfl (s8.blk_cell (.tail _ <| .tail _ <| .head _) rfl)) rfl rfl fun _ F => Aq F rfl rfl (Am rfl h1) (Bw rfl rfl) rfl rfl fun _ F => Aj F (Aa (Bf (By rfl h1) rfl) <| Aa (Al rfl) <| Ad) fun _ F => Ai <| Ac <| Bm F rfl (fun h2 => ?_) (fun h2 => ?_)
  ·replace H := Bb h2 H
   refine Ak ?_
   obtain ⟨x0, h3, H⟩ := Ap H
   refine Aj F (Aa (Ax Fx.fa111_1 rfl rfl) <| Aa (Az Fx.nag3 rfl (s8.blk_cell (.tail _ <| .tail _ <| .tail _ <| .tail _ <| .head _) rfl)) <| Aa (Ax Fx.fa111_1 rfl rfl) <| Aa (Az Fx.nag3 rfl (s8.blk_cell (.tail _ <| .tail _ <| .tail _ <| .head _) rfl)) <| Aa (Bq rfl rfl) <| Ad) fun _ F => Bk (args := [.tmp 31]) F Fx.fn76 rfl (provisoref15_Wrap_c (a0 := wr (a0.a + a1.a))    h3) rfl fun v0 w7 _ h4 F => ?_
   obtain ⟨rfl, h5⟩ := h4
   have s9 := s8.add h5
   refine Aj F (Aa (Ax Fx.fa111_1 rfl rfl) <| Ad) fun _ F => ?_
   have sa := s9
   refine Cq F sa rfl rfl Fx.sz3 rfl rfl rfl fun w8 _ F sb => ?_
   replace sb : SL w [] w8 [Blk g4 111 [.int .u8 1, .int .i64 x0, .int .i64 0, .int .i64 (-1)], Blk g3 111 [.int .u8 0, .int .i64 0, .int .i64 0, .int .i64 0], Blk g2 111 [.int .u8 (a2.op.toNat : Int), .int .i64 a2.a, .int .i64 a2.b, .int .i64 a2.to], Blk g1 111 [.int .u8 (a1.op.toNat : Int), .int .i64 a1.a, .int .i64 a1.b, .int .i64 a1.to], Blk g0 111 [.int .u8 (a0.op.toNat : Int), .int .i64 a0.a, .int .i64 a0.b, .int .i64 a0.to]] := sb
   refine Ai <| Bz <| Ac <| Ah <| Ak <| Aj F (Aa (Bj Fx.agg111 rfl (sb.blk_cells (.head _) (o := 0) (ds := [.int .u8 1, .int .i64 x0, .int .i64 0, .int .i64 (-1)]) (fun j u hu => by rw [Nat.zero_add]; exact hu)) rfl) <| Ad) fun _ F => ?_
   have sc := sb.f1
   refine As F sc rfl rfl Fx.sz111 (Ae rfl (Ae rfl (Ae rfl (Ae rfl Ba)))) (Ag rfl) fun w9 _ F sd => ?_
   replace sd : SL w [] w9 [Blk g3 111 [.int .u8 1, .int .i64 x0, .int .i64 0, .int .i64 (-1)], Blk g4 111 [.int .u8 1, .int .i64 x0, .int .i64 0, .int .i64 (-1)], Blk g2 111 [.int .u8 (a2.op.toNat : Int), .int .i64 a2.a, .int .i64 a2.b, .int .i64 a2.to], Blk g1 111 [.int .u8 (a1.op.toNat : Int), .int .i64 a1.a, .int .i64 a1.b, .int .i64 a1.to], Blk g0 111 [.int .u8 (a0.op.toNat : Int), .int .i64 a0.a, .int .i64 a0.b, .int .i64 a0.to]] := sd
   refine Aj F (Aa (Al rfl) <| Ad) fun _ F => Ai <| Ac ?_
   obtain rfl := An H
   refine Bd ?_
   refine Av (rs := [.cell 6 111, .tmp 7]) (vs := [.agg ⟨[.int .u8 1, .int .i64 x0, .int .i64 0, .int .i64 (-1)]⟩, .bool true]) F (by rfl) ⟨_, _, rfl, Cj sd (.head _) rfl Fx.agg111 rfl, _, _, rfl, Ay rfl, rfl⟩ ⟨_, rfl, ⟨rfl, sd.drop.drop.drop.drop.drop⟩⟩
  replace H := Bc h2 H
  refine Ah <| Ak <| Aj F (Aa (Af rfl) <| Aa (Af rfl) <| Ad) fun _ F => Aq F rfl rfl (Am rfl h1) (Ax Fx.fa111_0 rfl rfl) rfl rfl fun _ F => Aq F rfl rfl (Am rfl h1) (Az Fx.nag5 rfl (s8.blk_cell (.tail _ <| .tail _ <| .head _) rfl)) rfl rfl fun _ F => Aq F rfl rfl (Am rfl h1) (Bw rfl rfl) rfl rfl fun _ F => Aj F (Aa (Bf (By rfl h1) rfl) <| Aa (Al rfl) <| Ad) fun _ F => Ai <| Ac <| Bm F rfl (fun h6 => ?_) (fun h6 => ?_)
  ·replace H := Bb h6 H
   refine Ak ?_
   obtain ⟨x1, h7, H⟩ := Ap H
   refine Aj F (Aa (Ax Fx.fa111_1 rfl rfl) <| Aa (Az Fx.nag3 rfl (s8.blk_cell (.tail _ <| .tail _ <| .tail _ <| .tail _ <| .head _) rfl)) <| Aa (Ax Fx.fa111_1 rfl rfl) <| Aa (Az Fx.nag3 rfl (s8.blk_cell (.tail _ <| .tail _ <| .tail _ <| .head _) rfl)) <| Aa (ex_sub rfl rfl) <| Ad) fun _ F => Bk (args := [.tmp 45]) F Fx.fn76 rfl (provisoref15_Wrap_c (a0 := wr (a0.a - a1.a))    h7) rfl fun v1 wa _ h8 F => ?_
   obtain ⟨rfl, h9⟩ := h8
   have se := s8.add h9
   refine Aj F (Aa (Ax Fx.fa111_1 rfl rfl) <| Ad) fun _ F => ?_
   have sf := se
   refine Cq F sf rfl rfl Fx.sz3 rfl rfl rfl fun wb _ F sg => ?_
   replace sg : SL w [] wb [Blk g4 111 [.int .u8 1, .int .i64 x1, .int .i64 0, .int .i64 (-1)], Blk g3 111 [.int .u8 0, .int .i64 0, .int .i64 0, .int .i64 0], Blk g2 111 [.int .u8 (a2.op.toNat : Int), .int .i64 a2.a, .int .i64 a2.b, .int .i64 a2.to], Blk g1 111 [.int .u8 (a1.op.toNat : Int), .int .i64 a1.a, .int .i64 a1.b, .int .i64 a1.to], Blk g0 111 [.int .u8 (a0.op.toNat : Int), .int .i64 a0.a, .int .i64 a0.b, .int .i64 a0.to]] := sg
   refine Ai <| Bz <| Ac <| Ah <| Ak <| Aj F (Aa (Bj Fx.agg111 rfl (sg.blk_cells (.head _) (o := 0) (ds := [.int .u8 1, .int .i64 x1, .int .i64 0, .int .i64 (-1)]) (fun j u hu => by rw [Nat.zero_add]; exact hu)) rfl) <| Ad) fun _ F => ?_
   have sh := sg.f1
   refine As F sh rfl rfl Fx.sz111 (Ae rfl (Ae rfl (Ae rfl (Ae rfl Ba)))) (Ag rfl) fun wc _ F si => ?_
   replace si : SL w [] wc [Blk g3 111 [.int .u8 1, .int .i64 x1, .int .i64 0, .int .i64 (-1)], Blk g4 111 [.int .u8 1, .int .i64 x1, .int .i64 0, .int .i64 (-1)], Blk g2 111 [.int .u8 (a2.op.toNat : Int), .int .i64 a2.a, .int .i64 a2.b, .int .i64 a2.to], Blk g1 111 [.int .u8 (a1.op.toNat : Int), .int .i64 a1.a, .int .i64 a1.b, .int .i64 a1.to], Blk g0 111 [.int .u8 (a0.op.toNat : Int), .int .i64 a0.a, .int .i64 a0.b, .int .i64 a0.to]] := si
   refine Aj F (Aa (Al rfl) <| Ad) fun _ F => Ai <| Ac ?_
   obtain rfl := An H
   refine Bd ?_
   refine Av (rs := [.cell 6 111, .tmp 7]) (vs := [.agg ⟨[.int .u8 1, .int .i64 x1, .int .i64 0, .int .i64 (-1)]⟩, .bool true]) F (by rfl) ⟨_, _, rfl, Cj si (.head _) rfl Fx.agg111 rfl, _, _, rfl, Ay rfl, rfl⟩ ⟨_, rfl, ⟨rfl, si.drop.drop.drop.drop.drop⟩⟩
  replace H := Bc h6 H
  refine Ah <| Ak <| Aj F (Aa (Af rfl) <| Aa (Af rfl) <| Ad) fun _ F => Aq F rfl rfl (Am rfl h1) (Ax Fx.fa111_0 rfl rfl) rfl rfl fun _ F => Aq F rfl rfl (Am rfl h1) (Az Fx.nag5 rfl (s8.blk_cell (.tail _ <| .tail _ <| .head _) rfl)) rfl rfl fun _ F => Aq F rfl rfl (Am rfl h1) (Bw rfl rfl) rfl rfl fun _ F => Aj F (Aa (Bf (By rfl h1) rfl) <| Aa (Al rfl) <| Ad) fun _ F => Ai <| Ac <| Bm F rfl (fun ha => ?_) (fun ha => ?_)
  ·replace H := Bb ha H
   refine Ak ?_
   obtain ⟨x2, hb, H⟩ := Ap H
   refine Aj F (Aa (Ax Fx.fa111_1 rfl rfl) <| Aa (Az Fx.nag3 rfl (s8.blk_cell (.tail _ <| .tail _ <| .tail _ <| .tail _ <| .head _) rfl)) <| Aa (Ax Fx.fa111_1 rfl rfl) <| Aa (Az Fx.nag3 rfl (s8.blk_cell (.tail _ <| .tail _ <| .tail _ <| .head _) rfl)) <| Aa (ex_mul rfl rfl) <| Ad) fun _ F => Bk (args := [.tmp 59]) F Fx.fn76 rfl (provisoref15_Wrap_c (a0 := wr (a0.a * a1.a))    hb) rfl fun v2 wd _ hc F => ?_
   obtain ⟨rfl, hd⟩ := hc
   have sj := s8.add hd
   refine Aj F (Aa (Ax Fx.fa111_1 rfl rfl) <| Ad) fun _ F => ?_
   have sk := sj
   refine Cq F sk rfl rfl Fx.sz3 rfl rfl rfl fun we _ F sl => ?_
   replace sl : SL w [] we [Blk g4 111 [.int .u8 1, .int .i64 x2, .int .i64 0, .int .i64 (-1)], Blk g3 111 [.int .u8 0, .int .i64 0, .int .i64 0, .int .i64 0], Blk g2 111 [.int .u8 (a2.op.toNat : Int), .int .i64 a2.a, .int .i64 a2.b, .int .i64 a2.to], Blk g1 111 [.int .u8 (a1.op.toNat : Int), .int .i64 a1.a, .int .i64 a1.b, .int .i64 a1.to], Blk g0 111 [.int .u8 (a0.op.toNat : Int), .int .i64 a0.a, .int .i64 a0.b, .int .i64 a0.to]] := sl
   refine Ai <| Bz <| Ac <| Ah <| Ak <| Aj F (Aa (Bj Fx.agg111 rfl (sl.blk_cells (.head _) (o := 0) (ds := [.int .u8 1, .int .i64 x2, .int .i64 0, .int .i64 (-1)]) (fun j u hu => by rw [Nat.zero_add]; exact hu)) rfl) <| Ad) fun _ F => ?_
   have sm := sl.f1
   refine As F sm rfl rfl Fx.sz111 (Ae rfl (Ae rfl (Ae rfl (Ae rfl Ba)))) (Ag rfl) fun wf _ F sn => ?_
   replace sn : SL w [] wf [Blk g3 111 [.int .u8 1, .int .i64 x2, .int .i64 0, .int .i64 (-1)], Blk g4 111 [.int .u8 1, .int .i64 x2, .int .i64 0, .int .i64 (-1)], Blk g2 111 [.int .u8 (a2.op.toNat : Int), .int .i64 a2.a, .int .i64 a2.b, .int .i64 a2.to], Blk g1 111 [.int .u8 (a1.op.toNat : Int), .int .i64 a1.a, .int .i64 a1.b, .int .i64 a1.to], Blk g0 111 [.int .u8 (a0.op.toNat : Int), .int .i64 a0.a, .int .i64 a0.b, .int .i64 a0.to]] := sn
   refine Aj F (Aa (Al rfl) <| Ad) fun _ F => Ai <| Ac ?_
   obtain rfl := An H
   refine Bd ?_
   refine Av (rs := [.cell 6 111, .tmp 7]) (vs := [.agg ⟨[.int .u8 1, .int .i64 x2, .int .i64 0, .int .i64 (-1)]⟩, .bool true]) F (by rfl) ⟨_, _, rfl, Cj sn (.head _) rfl Fx.agg111 rfl, _, _, rfl, Ay rfl, rfl⟩ ⟨_, rfl, ⟨rfl, sn.drop.drop.drop.drop.drop⟩⟩
  replace H := Bc ha H
  refine Ah <| Ak <| Aj F (Aa (Af rfl) <| Aa (Af rfl) <| Ad) fun _ F => Aq F rfl rfl (Am rfl h1) (Ax Fx.fa111_0 rfl rfl) rfl rfl fun _ F => Aq F rfl rfl (Am rfl h1) (Az Fx.nag5 rfl (s8.blk_cell (.tail _ <| .tail _ <| .head _) rfl)) rfl rfl fun _ F => Aq F rfl rfl (Am rfl h1) (Bw rfl rfl) rfl rfl fun _ F => Aj F (Aa (Bf (By rfl h1) rfl) <| Aa (Al rfl) <| Ad) fun _ F => Ai <| Ac <| Bm F rfl (fun he => ?_) (fun he => ?_)
  ·replace H := Bb he H
   refine Ah <| Ak ?_
   obtain ⟨x3, hf, H⟩ := Ap H
   refine Aj F (Aa (Ax Fx.fa111_1 rfl rfl) <| Aa (Az Fx.nag3 rfl (s8.blk_cell (.tail _ <| .tail _ <| .tail _ <| .tail _ <| .head _) rfl)) <| Aa (Ax Fx.fa111_1 rfl rfl) <| Aa (Az Fx.nag3 rfl (s8.blk_cell (.tail _ <| .tail _ <| .tail _ <| .head _) rfl)) <| Aa (Cr rfl rfl) <| Ad) fun _ F => Bk (args := [.tmp 73]) F Fx.fn77 rfl (provisoref19_truth_c (a0 := decide (a0.a < a1.a))    hf) rfl fun v3 wg _ hg F => ?_
   obtain ⟨rfl, hh⟩ := hg
   have so := s8.add hh
   have sp := so.f1
   refine As F sp rfl rfl Fx.sz111 (Ae rfl (Ae rfl (Ae rfl (Ae rfl Ba)))) (Ag rfl) fun wh _ F sq => ?_
   replace sq : SL w [] wh [Blk g3 111 [.int .u8 (x3.op.toNat : Int), .int .i64 x3.a, .int .i64 x3.b, .int .i64 x3.to], Blk g4 111 [.int .u8 1, .int .i64 0, .int .i64 0, .int .i64 (-1)], Blk g2 111 [.int .u8 (a2.op.toNat : Int), .int .i64 a2.a, .int .i64 a2.b, .int .i64 a2.to], Blk g1 111 [.int .u8 (a1.op.toNat : Int), .int .i64 a1.a, .int .i64 a1.b, .int .i64 a1.to], Blk g0 111 [.int .u8 (a0.op.toNat : Int), .int .i64 a0.a, .int .i64 a0.b, .int .i64 a0.to]] := sq
   refine Aj F (Aa (Al rfl) <| Ad) fun _ F => Ai <| Ac ?_
   obtain rfl := An H
   refine Bd <| blk_r <| Bg ?_
   refine Av (rs := [.cell 6 111, .tmp 7]) (vs := [.agg ⟨[.int .u8 (x3.op.toNat : Int), .int .i64 x3.a, .int .i64 x3.b, .int .i64 x3.to]⟩, .bool true]) F (by rfl) ⟨_, _, rfl, Cj sq (.head _) rfl Fx.agg111 rfl, _, _, rfl, Ay rfl, rfl⟩ ⟨_, rfl, ⟨rfl, sq.drop.drop.drop.drop.drop⟩⟩
  replace H := Bc he H
  refine Ah <| Ak <| Aj F (Aa (Af rfl) <| Aa (Af rfl) <| Ad) fun _ F => Ao F rfl rfl (Am rfl h1) Ab rfl rfl fun _ F => Ao F rfl rfl (Am rfl h1) Ab rfl rfl fun _ F => Ao F rfl rfl (Am rfl h1) Ab rfl rfl fun _ F => Ao F rfl rfl (Am rfl h1) Ab rfl rfl fun _ F => Cf F rfl rfl rfl rfl rfl fun _ F => Cf F rfl rfl rfl rfl rfl fun _ F => Cf F rfl rfl rfl rfl rfl fun _ F => Ao F rfl rfl (Am rfl h1) Ab rfl rfl fun _ F => Aj F (Aa (Bf (By rfl h1) rfl) <| Aa (Af rfl) <| Ad) fun _ F => Aq F rfl rfl rfl (Ax Fx.fa111_0 rfl rfl) rfl rfl fun _ F => Aq F rfl rfl rfl (Az Fx.nag5 rfl (s8.blk_cell (.tail _ <| .tail _ <| .head _) rfl)) rfl rfl fun _ F => Aq F rfl rfl rfl (Bw rfl rfl) rfl rfl fun _ F => Aj F (Aa (Bf rfl rfl) <| Aa (Al rfl) <| Ad) fun _ F => Ai <| Ac <| Bm F rfl (fun hi => ?_) (fun hi => ?_)
  ·replace H := Bb hi H
   refine Ah <| Ak ?_
   obtain ⟨x4, hj, H⟩ := Ap H
   refine Aj F (Aa (Ax Fx.fa111_1 rfl rfl) <| Aa (Az Fx.nag3 rfl (s8.blk_cell (.tail _ <| .tail _ <| .tail _ <| .tail _ <| .head _) rfl)) <| Aa (Ax Fx.fa111_1 rfl rfl) <| Aa (Az Fx.nag3 rfl (s8.blk_cell (.tail _ <| .tail _ <| .tail _ <| .head _) rfl)) <| Aa (Bw rfl rfl) <| Ad) fun _ F => Bk (args := [.tmp 96]) F Fx.fn77 rfl (provisoref19_truth_c (a0 := (a0.a == a1.a))    hj) rfl fun v4 wi _ hk F => ?_
   obtain ⟨rfl, hl⟩ := hk
   have sr := s8.add hl
   have ss := sr.f1
   refine As F ss rfl rfl Fx.sz111 (Ae rfl (Ae rfl (Ae rfl (Ae rfl Ba)))) (Ag rfl) fun wj _ F st => ?_
   replace st : SL w [] wj [Blk g3 111 [.int .u8 (x4.op.toNat : Int), .int .i64 x4.a, .int .i64 x4.b, .int .i64 x4.to], Blk g4 111 [.int .u8 1, .int .i64 0, .int .i64 0, .int .i64 (-1)], Blk g2 111 [.int .u8 (a2.op.toNat : Int), .int .i64 a2.a, .int .i64 a2.b, .int .i64 a2.to], Blk g1 111 [.int .u8 (a1.op.toNat : Int), .int .i64 a1.a, .int .i64 a1.b, .int .i64 a1.to], Blk g0 111 [.int .u8 (a0.op.toNat : Int), .int .i64 a0.a, .int .i64 a0.b, .int .i64 a0.to]] := st
   refine Aj F (Aa (Al rfl) <| Ad) fun _ F => Ai <| Ac ?_
   obtain rfl := An H
   refine Bd <| blk_r <| Bg ?_
   refine Av (rs := [.cell 6 111, .tmp 7]) (vs := [.agg ⟨[.int .u8 (x4.op.toNat : Int), .int .i64 x4.a, .int .i64 x4.b, .int .i64 x4.to]⟩, .bool true]) F (by rfl) ⟨_, _, rfl, Cj st (.head _) rfl Fx.agg111 rfl, _, _, rfl, Ay rfl, rfl⟩ ⟨_, rfl, ⟨rfl, st.drop.drop.drop.drop.drop⟩⟩
  replace H := Bc hi H
  refine Ah <| Ak <| Aj F (Aa (Bj Fx.agg111 rfl (s8.blk_cells (.head _) (o := 0) (ds := [.int .u8 1, .int .i64 0, .int .i64 0, .int .i64 (-1)]) (fun j u hu => by rw [Nat.zero_add]; exact hu)) rfl) <| Ad) fun _ F => ?_
  have su := s8.f1
  refine As F su rfl rfl Fx.sz111 (Ae rfl (Ae rfl (Ae rfl (Ae rfl Ba)))) (Ag rfl) fun wk _ F sv => ?_
  replace sv : SL w [] wk [Blk g3 111 [.int .u8 1, .int .i64 0, .int .i64 0, .int .i64 (-1)], Blk g4 111 [.int .u8 1, .int .i64 0, .int .i64 0, .int .i64 (-1)], Blk g2 111 [.int .u8 (a2.op.toNat : Int), .int .i64 a2.a, .int .i64 a2.b, .int .i64 a2.to], Blk g1 111 [.int .u8 (a1.op.toNat : Int), .int .i64 a1.a, .int .i64 a1.b, .int .i64 a1.to], Blk g0 111 [.int .u8 (a0.op.toNat : Int), .int .i64 a0.a, .int .i64 a0.b, .int .i64 a0.to]] := sv
  refine Aj F (Aa (Al rfl) <| Ad) fun _ F => Ai <| Ac ?_
  obtain rfl := An H
  refine Bd <| blk_r <| Bg ?_
  refine Av (rs := [.cell 6 111, .tmp 7]) (vs := [.agg ⟨[.int .u8 1, .int .i64 0, .int .i64 0, .int .i64 (-1)]⟩, .bool false]) F (by rfl) ⟨_, _, rfl, Cj sv (.head _) rfl Fx.agg111 rfl, _, _, rfl, Ay rfl, rfl⟩ ⟨_, rfl, ⟨rfl, sv.drop.drop.drop.drop.drop⟩⟩
 replace H := Bc h1 H
 refine Ao F rfl rfl (Am rfl h1) Ab rfl rfl fun _ F => Ao F rfl rfl (Am rfl h1) Ab rfl rfl fun _ F => Ao F rfl rfl (Am rfl h1) Ab rfl rfl fun _ F => Aj F (Aa (Bi (By rfl h1) rfl) <| Aa (Al rfl) <| Ad) fun _ F => Ai <| Ac <| Cm F rfl <| Ah <| Ak <| Aj F (Aa (Af rfl) <| Aa (Af rfl) <| Ad) fun _ F => Ao F rfl rfl (Am rfl h1) Ab rfl rfl fun _ F => Ao F rfl rfl (Am rfl h1) Ab rfl rfl fun _ F => Ao F rfl rfl (Am rfl h1) Ab rfl rfl fun _ F => Aj F (Aa (Bi (By rfl h1) rfl) <| Aa (Al rfl) <| Ad) fun _ F => Ai <| Ac <| Cm F rfl <| Ah <| Ak <| Aj F (Aa (Af rfl) <| Aa (Af rfl) <| Ad) fun _ F => Ao F rfl rfl (Am rfl h1) Ab rfl rfl fun _ F => Ao F rfl rfl (Am rfl h1) Ab rfl rfl fun _ F => Ao F rfl rfl (Am rfl h1) Ab rfl rfl fun _ F => Aj F (Aa (Bi (By rfl h1) rfl) <| Aa (Al rfl) <| Ad) fun _ F => ?_
 refine Ai <| Ac <| Cm F rfl <| Ah <| Ak <| Aj F (Aa (Af rfl) <| Aa (Af rfl) <| Ad) fun _ F => Ao F rfl rfl (Am rfl h1) Ab rfl rfl fun _ F => Ao F rfl rfl (Am rfl h1) Ab rfl rfl fun _ F => Ao F rfl rfl (Am rfl h1) Ab rfl rfl fun _ F => Aj F (Aa (Bi (By rfl h1) rfl) <| Aa (Al rfl) <| Ad) fun _ F => Ai <| Ac <| Cm F rfl <| Ah <| Ak <| Aj F (Aa (Af rfl) <| Aa (Af rfl) <| Ad) fun _ F => Aq F rfl rfl (Am rfl h1) (Ax Fx.fa111_0 rfl rfl) rfl rfl fun _ F => Aq F rfl rfl (Am rfl h1) (Az Fx.nag5 rfl (s8.blk_cell (.tail _ <| .tail _ <| .tail _ <| .tail _ <| .head _) rfl)) rfl rfl fun _ F => Aq F rfl rfl (Am rfl h1) (Bw rfl rfl) rfl rfl fun _ F => Aq F rfl rfl (Am rfl h1) (Af rfl) rfl rfl fun _ F => Bl ((a0.op.toNat : Int) == 2) (fun hm => ?_) (fun hm => ?_)
 ·replace H := Bb hm H
  refine Aq F rfl rfl (Am rfl hm) (Ax Fx.fa111_0 rfl rfl) rfl rfl fun _ F => Aq F rfl rfl (Am rfl hm) (Az Fx.nag5 rfl (s8.blk_cell (.tail _ <| .tail _ <| .tail _ <| .head _) rfl)) rfl rfl fun _ F => Aq F rfl rfl (Am rfl hm) (Bw rfl rfl) rfl rfl fun _ F => Aq F rfl rfl (Am rfl h1) (Bf (By rfl hm) rfl) rfl rfl fun _ F => Aj F (Aa (Bi (By rfl h1) rfl) <| Aa (Af rfl) <| Ad) fun _ F => Bl ((a1.op.toNat : Int) == 2) (fun hn => ?_) (fun hn => ?_)
  ·replace H := Bb hn H
   refine Aq F rfl rfl (Am rfl hn) (Ax Fx.fa111_0 rfl rfl) rfl rfl fun _ F => Aq F rfl rfl (Am rfl hn) (Az Fx.nag5 rfl (s8.blk_cell (.tail _ <| .tail _ <| .head _) rfl)) rfl rfl fun _ F => Aq F rfl rfl (Am rfl hn) (Bw rfl rfl) rfl rfl fun _ F => Aj F (Aa (Bf (By rfl hn) rfl) <| Aa (Al rfl) <| Ad) fun _ F => Ai <| Ac <| Bm F rfl (fun ho => ?_) (fun ho => ?_)
   ·replace H := Bb ho H
    refine Ah <| Ak ?_
    obtain ⟨x5, hp, H⟩ := Ap H
    refine Aj F (Aa (Ax Fx.fa111_1 rfl rfl) <| Aa (Az Fx.nag3 rfl (s8.blk_cell (.tail _ <| .tail _ <| .tail _ <| .tail _ <| .head _) rfl)) <| Aa (Ax Fx.fa111_1 rfl rfl) <| Aa (Az Fx.nag3 rfl (s8.blk_cell (.tail _ <| .tail _ <| .tail _ <| .head _) rfl)) <| Aa (Bw rfl rfl) <| Ad) fun _ F => Bk (args := [.tmp 96]) F Fx.fn77 rfl (provisoref19_truth_c (a0 := (a0.a == a1.a))    hp) rfl fun v5 wl _ hq F => ?_
    obtain ⟨rfl, hr⟩ := hq
    have sw := s8.add hr
    have sx := sw.f1
    refine As F sx rfl rfl Fx.sz111 (Ae rfl (Ae rfl (Ae rfl (Ae rfl Ba)))) (Ag rfl) fun wm _ F sy => ?_
    replace sy : SL w [] wm [Blk g3 111 [.int .u8 (x5.op.toNat : Int), .int .i64 x5.a, .int .i64 x5.b, .int .i64 x5.to], Blk g4 111 [.int .u8 1, .int .i64 0, .int .i64 0, .int .i64 (-1)], Blk g2 111 [.int .u8 (a2.op.toNat : Int), .int .i64 a2.a, .int .i64 a2.b, .int .i64 a2.to], Blk g1 111 [.int .u8 (a1.op.toNat : Int), .int .i64 a1.a, .int .i64 a1.b, .int .i64 a1.to], Blk g0 111 [.int .u8 (a0.op.toNat : Int), .int .i64 a0.a, .int .i64 a0.b, .int .i64 a0.to]] := sy
    refine Aj F (Aa (Al rfl) <| Ad) fun _ F => Ai <| Ac ?_
    obtain rfl := An H
    refine Bd <| blk_r <| Bg ?_
    refine Av (rs := [.cell 6 111, .tmp 7]) (vs := [.agg ⟨[.int .u8 (x5.op.toNat : Int), .int .i64 x5.a, .int .i64 x5.b, .int .i64 x5.to]⟩, .bool true]) F (by rfl) ⟨_, _, rfl, Cj sy (.head _) rfl Fx.agg111 rfl, _, _, rfl, Ay rfl, rfl⟩ ⟨_, rfl, ⟨rfl, sy.drop.drop.drop.drop.drop⟩⟩
   replace H := Bc ho H
   refine Ah <| Ak <| Aj F (Aa (Bj Fx.agg111 rfl (s8.blk_cells (.head _) (o := 0) (ds := [.int .u8 1, .int .i64 0, .int .i64 0, .int .i64 (-1)]) (fun j u hu => by rw [Nat.zero_add]; exact hu)) rfl) <| Ad) fun _ F => ?_
   have sz := s8.f1
   refine As F sz rfl rfl Fx.sz111 (Ae rfl (Ae rfl (Ae rfl (Ae rfl Ba)))) (Ag rfl) fun wn _ F s10 => ?_
   replace s10 : SL w [] wn [Blk g3 111 [.int .u8 1, .int .i64 0, .int .i64 0, .int .i64 (-1)], Blk g4 111 [.int .u8 1, .int .i64 0, .int .i64 0, .int .i64 (-1)], Blk g2 111 [.int .u8 (a2.op.toNat : Int), .int .i64 a2.a, .int .i64 a2.b, .int .i64 a2.to], Blk g1 111 [.int .u8 (a1.op.toNat : Int), .int .i64 a1.a, .int .i64 a1.b, .int .i64 a1.to], Blk g0 111 [.int .u8 (a0.op.toNat : Int), .int .i64 a0.a, .int .i64 a0.b, .int .i64 a0.to]] := s10
   refine Aj F (Aa (Al rfl) <| Ad) fun _ F => Ai <| Ac ?_
   obtain rfl := An H
   refine Bd <| blk_r <| Bg ?_
   refine Av (rs := [.cell 6 111, .tmp 7]) (vs := [.agg ⟨[.int .u8 1, .int .i64 0, .int .i64 0, .int .i64 (-1)]⟩, .bool false]) F (by rfl) ⟨_, _, rfl, Cj s10 (.head _) rfl Fx.agg111 rfl, _, _, rfl, Ay rfl, rfl⟩ ⟨_, rfl, ⟨rfl, s10.drop.drop.drop.drop.drop⟩⟩
  replace H := Bc hn H
  refine Ao F rfl rfl (Am rfl hn) Ab rfl rfl fun _ F => Ao F rfl rfl (Am rfl hn) Ab rfl rfl fun _ F => Ao F rfl rfl (Am rfl hn) Ab rfl rfl fun _ F => Aj F (Aa (Bi (By rfl hn) rfl) <| Aa (Al rfl) <| Ad) fun _ F => Ai <| Ac <| Cm F rfl <| Ah <| Ak <| Aj F (Aa (Bj Fx.agg111 rfl (s8.blk_cells (.head _) (o := 0) (ds := [.int .u8 1, .int .i64 0, .int .i64 0, .int .i64 (-1)]) (fun j u hu => by rw [Nat.zero_add]; exact hu)) rfl) <| Ad) fun _ F => ?_
  have s11 := s8.f1
  refine As F s11 rfl rfl Fx.sz111 (Ae rfl (Ae rfl (Ae rfl (Ae rfl Ba)))) (Ag rfl) fun wo _ F s12 => ?_
  replace s12 : SL w [] wo [Blk g3 111 [.int .u8 1, .int .i64 0, .int .i64 0, .int .i64 (-1)], Blk g4 111 [.int .u8 1, .int .i64 0, .int .i64 0, .int .i64 (-1)], Blk g2 111 [.int .u8 (a2.op.toNat : Int), .int .i64 a2.a, .int .i64 a2.b, .int .i64 a2.to], Blk g1 111 [.int .u8 (a1.op.toNat : Int), .int .i64 a1.a, .int .i64 a1.b, .int .i64 a1.to], Blk g0 111 [.int .u8 (a0.op.toNat : Int), .int .i64 a0.a, .int .i64 a0.b, .int .i64 a0.to]] := s12
  refine Aj F (Aa (Al rfl) <| Ad) fun _ F => Ai <| Ac ?_
  obtain rfl := An H
  refine Bd <| blk_r <| Bg ?_
  refine Av (rs := [.cell 6 111, .tmp 7]) (vs := [.agg ⟨[.int .u8 1, .int .i64 0, .int .i64 0, .int .i64 (-1)]⟩, .bool false]) F (by rfl) ⟨_, _, rfl, Cj s12 (.head _) rfl Fx.agg111 rfl, _, _, rfl, Ay rfl, rfl⟩ ⟨_, rfl, ⟨rfl, s12.drop.drop.drop.drop.drop⟩⟩
 replace H := Bc hm H
 refine Ao F rfl rfl (Am rfl hm) Ab rfl rfl fun _ F => Ao F rfl rfl (Am rfl hm) Ab rfl rfl fun _ F => Ao F rfl rfl (Am rfl hm) Ab rfl rfl fun _ F => Aq F rfl rfl (Am rfl h1) (Bi (By rfl hm) rfl) rfl rfl fun _ F => Aj F (Aa (Bi (By rfl h1) rfl) <| Aa (Af rfl) <| Ad) fun _ F => Ao F rfl rfl rfl Ab rfl rfl fun _ F => Ao F rfl rfl rfl Ab rfl rfl fun _ F => Ao F rfl rfl rfl Ab rfl rfl fun _ F => Aj F (Aa (Bi rfl rfl) <| Aa (Al rfl) <| Ad) fun _ F => Ai <| Ac <| Cm F rfl <| Ah <| Ak <| Aj F (Aa (Bj Fx.agg111 rfl (s8.blk_cells (.head _) (o := 0) (ds := [.int .u8 1, .int .i64 0, .int .i64 0, .int .i64 (-1)]) (fun j u hu => by rw [Nat.zero_add]; exact hu)) rfl) <| Ad) fun _ F => ?_
 have s13 := s8.f1
 refine As F s13 rfl rfl Fx.sz111 (Ae rfl (Ae rfl (Ae rfl (Ae rfl Ba)))) (Ag rfl) fun wp _ F s14 => ?_
 replace s14 : SL w [] wp [Blk g3 111 [.int .u8 1, .int .i64 0, .int .i64 0, .int .i64 (-1)], Blk g4 111 [.int .u8 1, .int .i64 0, .int .i64 0, .int .i64 (-1)], Blk g2 111 [.int .u8 (a2.op.toNat : Int), .int .i64 a2.a, .int .i64 a2.b, .int .i64 a2.to], Blk g1 111 [.int .u8 (a1.op.toNat : Int), .int .i64 a1.a, .int .i64 a1.b, .int .i64 a1.to], Blk g0 111 [.int .u8 (a0.op.toNat : Int), .int .i64 a0.a, .int .i64 a0.b, .int .i64 a0.to]] := s14
 refine Aj F (Aa (Al rfl) <| Ad) fun _ F => Ai <| Ac ?_
 obtain rfl := An H
 refine Bd <| blk_r <| Bg ?_
 refine Av (rs := [.cell 6 111, .tmp 7]) (vs := [.agg ⟨[.int .u8 1, .int .i64 0, .int .i64 0, .int .i64 (-1)]⟩, .bool false]) F (by rfl) ⟨_, _, rfl, Cj s14 (.head _) rfl Fx.agg111 rfl, _, _, rfl, Ay rfl, rfl⟩ ⟨_, rfl, ⟨rfl, s14.drop.drop.drop.drop.drop⟩⟩
-- proviso/provisoref19.two
theorem provisoref19_two_c {w : World} {a0 : S_provisoref19_ins} {a1 : S_provisoref19_ins} {r : S_provisoref19_ins × Bool}  (H : provisoref19_two a0 a1 = some r) :
    Calls Tryz.prog 67 #[.agg ⟨[.int .u8 (a0.op.toNat : Int), .int .i64 a0.a, .int .i64 a0.b, .int .i64 a0.to]⟩, .agg ⟨[.int .u8 (a1.op.toNat : Int), .int .i64 a1.a, .int .i64 a1.b, .int .i64 a1.to]⟩] w (Ret fun u_ w_ => u_ = .tuple ⟨[.agg ⟨[.int .u8 (r.1.op.toNat : Int), .int .i64 r.1.a, .int .i64 r.1.b, .int .i64 r.1.to]⟩, .bool r.2]⟩ ∧ SL w [] w_ []) := by
 have s0 : SL w [] w [] := SL.init0 w
 refine Bn Tryz.func67 rfl Tryz.ntmps67 (Ag rfl) (args := [.agg ⟨[.int .u8 (a0.op.toNat : Int), .int .i64 a0.a, .int .i64 a0.b, .int .i64 a0.to]⟩, .agg ⟨[.int .u8 (a1.op.toNat : Int), .int .i64 a1.a, .int .i64 a1.b, .int .i64 a1.to]⟩]) fun q0 F0 => ?_
 unfold provisoref19_two at H
 refine Ah <| Ak <| Db F0 s0 rfl rfl rfl fun g0 w0 _ F s1 => Db F s1 rfl rfl rfl fun g1 w1 _ F s2 => Bo F s2 Fx.zero111 rfl rfl fun g2 w2 _ F s3 => Aj F (Aa (Al rfl) <| Ad) fun _ F => Ai <| Ac <| Ah <| Ak <| Aj F (Aa (Cn (vs := [.int .u8 0, .int .i64 (-1)]) Fx.zero111 Fx.pl111 rfl (cs := [.int .u8 0, .int .i64 0, .int .i64 0, .int .i64 (-1)]) (rfl)) <| Ad) fun _ F => Bo F s3 Fx.zero111 rfl rfl fun g3 w3 _ F s4 => ?_
 have s5 := s4
 refine As F s5 rfl rfl Fx.sz111 (Ae rfl (Ae rfl (Ae rfl (Ae rfl Ba)))) (Ag rfl) fun w4 _ F s6 => ?_
 replace s6 : SL w [] w4 [Blk g3 111 [.int .u8 0, .int .i64 0, .int .i64 0, .int .i64 (-1)], Blk g2 111 [.int .u8 0, .int .i64 0, .int .i64 0, .int .i64 0], Blk g1 111 [.int .u8 (a1.op.toNat : Int), .int .i64 a1.a, .int .i64 a1.b, .int .i64 a1.to], Blk g0 111 [.int .u8 (a0.op.toNat : Int), .int .i64 a0.a, .int .i64 a0.b, .int .i64 a0.to]] := s6
 refine Ai <| Ac <| Ah ?_
 obtain ⟨o0, H0, R0⟩ := Ap H
 clear H
 refine Bx (fun a w_ => ∃ p0 : Unit, o0 = .inr (p0) ∧ Fr a 71 [(4, .pointer (some ⟨g2, 0, none⟩)), (6, .pointer (some ⟨g3, 0, none⟩))] ∧ SL w [] w_ [Blk g3 111 [.int .u8 0, .int .i64 0, .int .i64 0, .int .i64 (-1)], Blk g2 111 [.int .u8 0, .int .i64 0, .int .i64 0, .int .i64 0]]) ?_ ?_
 ·have H := H0
  refine Bh <| Ah <| Ak <| Aj F (Aa (Ax Fx.fa111_0 rfl rfl) <| Aa (Az Fx.nag5 rfl (s6.blk_cell (.tail _ <| .tail _ <| .tail _ <| .head _) rfl)) <| Aa (Bw rfl rfl) <| Aa (Af rfl) <| Ad) fun _ F => Bl ((a0.op.toNat : Int) == 1) (fun h0 => ?_) (fun h0 => ?_)
  ·replace H := Bb h0 H
   refine Aq F rfl rfl (Am rfl h0) (Ax Fx.fa111_0 rfl rfl) rfl rfl fun _ F => Aq F rfl rfl (Am rfl h0) (Az Fx.nag5 rfl (s6.blk_cell (.tail _ <| .tail _ <| .head _) rfl)) rfl rfl fun _ F => Aq F rfl rfl (Am rfl h0) (Bw rfl rfl) rfl rfl fun _ F => Aj F (Aa (Bf (By rfl h0) rfl) <| Aa (Al rfl) <| Ad) fun _ F => Ai <| Ac <| Bm F rfl (fun h1 => ?_) (fun h1 => ?_)
   ·replace H := Bb h1 H
    refine Ah <| Ak ?_
    obtain ⟨x0, h2, H⟩ := Ap H
    refine Aj F (Aa (Ax Fx.fa111_1 rfl rfl) <| Aa (Az Fx.nag3 rfl (s6.blk_cell (.tail _ <| .tail _ <| .tail _ <| .head _) rfl)) <| Aa (ex_neg rfl) <| Ad) fun _ F => Bk (args := [.tmp 19]) F Fx.fn76 rfl (provisoref15_Wrap_c (a0 := wr (0 - a0.a))    h2) rfl fun v0 w5 _ h3 F => ?_
    obtain ⟨rfl, h4⟩ := h3
    have s7 := s6.add h4
    refine Aj F (Aa (Cn (vs := [.int .u8 1, .int .i64 x0, .int .i64 (-1)]) Fx.zero111 Fx.pl111 rfl (cs := [.int .u8 1, .int .i64 x0, .int .i64 0, .int .i64 (-1)]) (rfl)) <| Ad) fun _ F => ?_
    have s8 := s7.f1
    refine As F s8 rfl rfl Fx.sz111 (Ae rfl (Ae rfl (Ae rfl (Ae rfl Ba)))) (Ag rfl) fun w6 _ F s9 => ?_
    replace s9 : SL w [] w6 [Blk g2 111 [.int .u8 1, .int .i64 x0, .int .i64 0, .int .i64 (-1)], Blk g3 111 [.int .u8 0, .int .i64 0, .int .i64 0, .int .i64 (-1)], Blk g1 111 [.int .u8 (a1.op.toNat : Int), .int .i64 a1.a, .int .i64 a1.b, .int .i64 a1.to], Blk g0 111 [.int .u8 (a0.op.toNat : Int), .int .i64 a0.a, .int .i64 a0.b, .int .i64 a0.to]] := s9
    refine Aj F (Aa (Al rfl) <| Ad) fun _ F => Ai <| Ac ?_
    obtain rfl := An H
    replace H := R0
    try dsimp only at H
    obtain rfl := An H
    refine Bd <| blk_r <| Bg <| Bg ?_
    refine Av (rs := [.cell 4 111, .tmp 5]) (vs := [.agg ⟨[.int .u8 1, .int .i64 x0, .int .i64 0, .int .i64 (-1)]⟩, .bool true]) F (by rfl) ⟨_, _, rfl, Cj s9 (.head _) rfl Fx.agg111 rfl, _, _, rfl, Ay rfl, rfl⟩ ⟨_, rfl, ⟨rfl, s9.drop.drop.drop.drop⟩⟩
   replace H := Bc h1 H
   refine Ah <| Ak <| Aj F (Aa (Ax Fx.fa111_0 rfl rfl) <| Aa (Az Fx.nag5 rfl (s6.blk_cell (.tail _ <| .tail _ <| .tail _ <| .head _) rfl)) <| Aa (Bw rfl rfl) <| Aa (Af rfl) <| Ad) fun _ F => Bl ((a0.op.toNat : Int) == 2) (fun h5 => ?_) (fun h5 => ?_)
   ·replace H := Bb h5 H
    refine Aq F rfl rfl (Am rfl h5) (Ax Fx.fa111_0 rfl rfl) rfl rfl fun _ F => Aq F rfl rfl (Am rfl h5) (Az Fx.nag5 rfl (s6.blk_cell (.tail _ <| .tail _ <| .head _) rfl)) rfl rfl fun _ F => Aq F rfl rfl (Am rfl h5) (Bw rfl rfl) rfl rfl fun _ F => Aj F (Aa (Bf (By rfl h5) rfl) <| Aa (Al rfl) <| Ad) fun _ F => Ai <| Ac <| Bm F rfl (fun h6 => ?_) (fun h6 => ?_)
    ·replace H := Bb h6 H
     refine Ah <| Ak ?_
     obtain ⟨x1, h7, H⟩ := Ap H
     refine Aj F (Aa (Ax Fx.fa111_1 rfl rfl) <| Aa (Az Fx.nag3 rfl (s6.blk_cell (.tail _ <| .tail _ <| .tail _ <| .head _) rfl)) <| Aa (Bw rfl rfl) <| Ad) fun _ F => Bk (args := [.tmp 33]) F Fx.fn77 rfl (provisoref19_truth_c (a0 := (a0.a == 0))    h7) rfl fun v1 w7 _ h8 F => ?_
     obtain ⟨rfl, h9⟩ := h8
     have sa := s6.add h9
     have sb := sa.f1
     refine As F sb rfl rfl Fx.sz111 (Ae rfl (Ae rfl (Ae rfl (Ae rfl Ba)))) (Ag rfl) fun w8 _ F sc => ?_
     replace sc : SL w [] w8 [Blk g2 111 [.int .u8 (x1.op.toNat : Int), .int .i64 x1.a, .int .i64 x1.b, .int .i64 x1.to], Blk g3 111 [.int .u8 0, .int .i64 0, .int .i64 0, .int .i64 (-1)], Blk g1 111 [.int .u8 (a1.op.toNat : Int), .int .i64 a1.a, .int .i64 a1.b, .int .i64 a1.to], Blk g0 111 [.int .u8 (a0.op.toNat : Int), .int .i64 a0.a, .int .i64 a0.b, .int .i64 a0.to]] := sc
     refine Aj F (Aa (Al rfl) <| Ad) fun _ F => Ai <| Ac ?_
     obtain rfl := An H
     replace H := R0
     try dsimp only at H
     obtain rfl := An H
     refine Bd <| blk_r <| Bg <| Bg ?_
     refine Av (rs := [.cell 4 111, .tmp 5]) (vs := [.agg ⟨[.int .u8 (x1.op.toNat : Int), .int .i64 x1.a, .int .i64 x1.b, .int .i64 x1.to]⟩, .bool true]) F (by rfl) ⟨_, _, rfl, Cj sc (.head _) rfl Fx.agg111 rfl, _, _, rfl, Ay rfl, rfl⟩ ⟨_, rfl, ⟨rfl, sc.drop.drop.drop.drop⟩⟩
    replace H := Bc h6 H
    refine Ah <| Ak <| Aj F (Aa (Ax Fx.fa111_0 rfl rfl) <| Aa (Az Fx.nag5 rfl (s6.blk_cell (.tail _ <| .tail _ <| .head _) rfl)) <| Aa (Bw rfl rfl) <| Aa (Af rfl) <| Ad) fun _ F => Bl ((a1.op.toNat : Int) == 6) (fun ha => ?_) (fun ha => ?_)
    ·replace H := Bb ha H
     refine Aq F rfl rfl (Am rfl ha) (Ax Fx.fa111_0 rfl rfl) rfl rfl fun _ F => Aq F rfl rfl (Am rfl ha) (Az Fx.nag5 rfl (s6.blk_cell (.tail _ <| .tail _ <| .tail _ <| .head _) rfl)) rfl rfl fun _ F => Aq F rfl rfl (Am rfl ha) (Bw rfl rfl) rfl rfl fun _ F => Aq F rfl rfl (Am rfl ha) (Af rfl) rfl rfl fun _ F => Ao F rfl rfl (Am rfl h0) Ab rfl rfl fun _ F => Ao F rfl rfl (Am rfl h0) Ab rfl rfl fun _ F => Ao F rfl rfl (Am rfl h0) Ab rfl rfl fun _ F => Aq F rfl rfl (Am rfl ha) (Bf (By rfl h0) rfl) rfl rfl fun _ F => Aq F rfl rfl (Am rfl ha) (Af rfl) rfl rfl fun _ F => Ao F rfl rfl rfl Ab rfl rfl fun _ F => Ao F rfl rfl rfl Ab rfl rfl fun _ F => Ao F rfl rfl rfl Ab rfl rfl fun _ F => Aq F rfl rfl (Am rfl ha) (Bf rfl rfl) rfl rfl fun _ F => Aq F rfl rfl (Am rfl ha) (Af rfl) rfl rfl fun _ F => Ao F rfl rfl rfl Ab rfl rfl fun _ F => Ao F rfl rfl rfl Ab rfl rfl fun _ F => ?_
     refine Ao F rfl rfl rfl Ab rfl rfl fun _ F => Aq F rfl rfl (Am rfl ha) (Bf rfl rfl) rfl rfl fun _ F => Aj F (Aa (Bf (By rfl ha) rfl) <| Aa (Al rfl) <| Ad) fun _ F => Ai <| Ac <| Cz F rfl <| Ah <| Ak <| Aj F (Aa (Bj Fx.agg111 rfl (s6.blk_cells (.head _) (o := 0) (ds := [.int .u8 0, .int .i64 0, .int .i64 0, .int .i64 (-1)]) (fun j u hu => by rw [Nat.zero_add]; exact hu)) rfl) <| Ad) fun _ F => ?_
     have sd := s6.f1
     refine As F sd rfl rfl Fx.sz111 (Ae rfl (Ae rfl (Ae rfl (Ae rfl Ba)))) (Ag rfl) fun w9 _ F se => ?_
     replace se : SL w [] w9 [Blk g2 111 [.int .u8 0, .int .i64 0, .int .i64 0, .int .i64 (-1)], Blk g3 111 [.int .u8 0, .int .i64 0, .int .i64 0, .int .i64 (-1)], Blk g1 111 [.int .u8 (a1.op.toNat : Int), .int .i64 a1.a, .int .i64 a1.b, .int .i64 a1.to], Blk g0 111 [.int .u8 (a0.op.toNat : Int), .int .i64 a0.a, .int .i64 a0.b, .int .i64 a0.to]] := se
     refine Aj F (Aa (Al rfl) <| Ad) fun _ F => Ai <| Ac ?_
     obtain rfl := An H
     replace H := R0
     try dsimp only at H
     obtain rfl := An H
     refine Bd <| blk_r <| Bg <| Bg ?_
     refine Av (rs := [.cell 4 111, .tmp 5]) (vs := [.agg ⟨[.int .u8 0, .int .i64 0, .int .i64 0, .int .i64 (-1)]⟩, .bool true]) F (by rfl) ⟨_, _, rfl, Cj se (.head _) rfl Fx.agg111 rfl, _, _, rfl, Ay rfl, rfl⟩ ⟨_, rfl, ⟨rfl, se.drop.drop.drop.drop⟩⟩
    replace H := Bc ha H
    refine Ao F rfl rfl (Am rfl ha) Ab rfl rfl fun _ F => Ao F rfl rfl (Am rfl ha) Ab rfl rfl fun _ F => Ao F rfl rfl (Am rfl ha) Ab rfl rfl fun _ F => Ao F rfl rfl (Am rfl ha) Ab rfl rfl fun _ F => Cf F rfl rfl rfl rfl rfl fun _ F => Cf F rfl rfl rfl rfl rfl fun _ F => Cf F rfl rfl rfl rfl rfl fun _ F => Ao F rfl rfl (Am rfl ha) Ab rfl rfl fun _ F => Ao F rfl rfl (Am rfl ha) Ab rfl rfl fun _ F => Cf F rfl rfl rfl rfl rfl fun _ F => Cf F rfl rfl rfl rfl rfl fun _ F => Cf F rfl rfl rfl rfl rfl fun _ F => Ao F rfl rfl (Am rfl ha) Ab rfl rfl fun _ F => Ao F rfl rfl (Am rfl ha) Ab rfl rfl fun _ F => Cf F rfl rfl rfl rfl rfl fun _ F => Cf F rfl rfl rfl rfl rfl fun _ F => Cf F rfl rfl rfl rfl rfl fun _ F => Ao F rfl rfl (Am rfl ha) Ab rfl rfl fun _ F => Aj F (Aa (Bi (By rfl ha) rfl) <| Aa (Al rfl) <| Ad) fun _ F => ?_
    refine Ai <| Ac <| Cm F rfl <| Ah <| Ak <| Aj F (Aa (Ax Fx.fa111_0 rfl rfl) <| Aa (Az Fx.nag5 rfl (s6.blk_cell (.tail _ <| .tail _ <| .tail _ <| .head _) rfl)) <| Aa (Bw rfl rfl) <| Aa (Af rfl) <| Ad) fun _ F => Bl ((a0.op.toNat : Int) == 17) (fun hb => ?_) (fun hb => ?_)
    ·replace H := Bb hb H
     refine Aq F rfl rfl (Am rfl hb) (Ax Fx.fa111_0 rfl rfl) rfl rfl fun _ F => Aq F rfl rfl (Am rfl hb) (Az Fx.nag5 rfl (s6.blk_cell (.tail _ <| .tail _ <| .head _) rfl)) rfl rfl fun _ F => Aq F rfl rfl (Am rfl hb) (Bw rfl rfl) rfl rfl fun _ F => Aj F (Aa (Bf (By rfl hb) rfl) <| Aa (Al rfl) <| Ad) fun _ F => Ai <| Ac <| Cm F (Am rfl h6) <| Aw <| Bz ?_
     obtain rfl := An H
     refine Ac ?_
     exact ⟨_, rfl, F.sub ⟨rfl, rfl, trivial⟩, s6.f2.drop.f2.drop⟩
    replace H := Bc hb H
    refine Ao F rfl rfl (Am rfl hb) Ab rfl rfl fun _ F => Ao F rfl rfl (Am rfl hb) Ab rfl rfl fun _ F => Ao F rfl rfl (Am rfl hb) Ab rfl rfl fun _ F => Aj F (Aa (Bi (By rfl hb) rfl) <| Aa (Al rfl) <| Ad) fun _ F => Ai <| Ac <| Cm F rfl <| Aw <| Bz ?_
    obtain rfl := An H
    refine Ac ?_
    exact ⟨_, rfl, F.sub ⟨rfl, rfl, trivial⟩, s6.f2.drop.f2.drop⟩
   replace H := Bc h5 H
   refine Ao F rfl rfl (Am rfl h5) Ab rfl rfl fun _ F => Ao F rfl rfl (Am rfl h5) Ab rfl rfl fun _ F => Ao F rfl rfl (Am rfl h5) Ab rfl rfl fun _ F => Aj F (Aa (Bi (By rfl h5) rfl) <| Aa (Al rfl) <| Ad) fun _ F => Ai <| Ac <| Cm F rfl <| Ah <| Ak <| Aj F (Aa (Ax Fx.fa111_0 rfl rfl) <| Aa (Az Fx.nag5 rfl (s6.blk_cell (.tail _ <| .tail _ <| .head _) rfl)) <| Aa (Bw rfl rfl) <| Aa (Af rfl) <| Ad) fun _ F => Bl ((a1.op.toNat : Int) == 6) (fun hc => ?_) (fun hc => ?_)
   ·replace H := Bb hc H
    refine Aq F rfl rfl (Am rfl hc) (Ax Fx.fa111_0 rfl rfl) rfl rfl fun _ F => Aq F rfl rfl (Am rfl hc) (Az Fx.nag5 rfl (s6.blk_cell (.tail _ <| .tail _ <| .tail _ <| .head _) rfl)) rfl rfl fun _ F => Aq F rfl rfl (Am rfl hc) (Bw rfl rfl) rfl rfl fun _ F => Aq F rfl rfl (Am rfl hc) (Af rfl) rfl rfl fun _ F => Ao F rfl rfl (Am rfl h0) Ab rfl rfl fun _ F => Ao F rfl rfl (Am rfl h0) Ab rfl rfl fun _ F => Ao F rfl rfl (Am rfl h0) Ab rfl rfl fun _ F => Aq F rfl rfl (Am rfl hc) (Bf (By rfl h0) rfl) rfl rfl fun _ F => Aq F rfl rfl (Am rfl hc) (Af rfl) rfl rfl fun _ F => Ao F rfl rfl rfl Ab rfl rfl fun _ F => Ao F rfl rfl rfl Ab rfl rfl fun _ F => Ao F rfl rfl rfl Ab rfl rfl fun _ F => Aq F rfl rfl (Am rfl hc) (Bf rfl rfl) rfl rfl fun _ F => Aq F rfl rfl (Am rfl hc) (Af rfl) rfl rfl fun _ F => Ao F rfl rfl rfl Ab rfl rfl fun _ F => Ao F rfl rfl rfl Ab rfl rfl fun _ F => ?_
    refine Ao F rfl rfl rfl Ab rfl rfl fun _ F => Aq F rfl rfl (Am rfl hc) (Bf rfl rfl) rfl rfl fun _ F => Aj F (Aa (Bf (By rfl hc) rfl) <| Aa (Al rfl) <| Ad) fun _ F => Ai <| Ac <| Cz F rfl <| Ah <| Ak <| Aj F (Aa (Bj Fx.agg111 rfl (s6.blk_cells (.head _) (o := 0) (ds := [.int .u8 0, .int .i64 0, .int .i64 0, .int .i64 (-1)]) (fun j u hu => by rw [Nat.zero_add]; exact hu)) rfl) <| Ad) fun _ F => ?_
    have sf := s6.f1
    refine As F sf rfl rfl Fx.sz111 (Ae rfl (Ae rfl (Ae rfl (Ae rfl Ba)))) (Ag rfl) fun wa _ F sg => ?_
    replace sg : SL w [] wa [Blk g2 111 [.int .u8 0, .int .i64 0, .int .i64 0, .int .i64 (-1)], Blk g3 111 [.int .u8 0, .int .i64 0, .int .i64 0, .int .i64 (-1)], Blk g1 111 [.int .u8 (a1.op.toNat : Int), .int .i64 a1.a, .int .i64 a1.b, .int .i64 a1.to], Blk g0 111 [.int .u8 (a0.op.toNat : Int), .int .i64 a0.a, .int .i64 a0.b, .int .i64 a0.to]] := sg
    refine Aj F (Aa (Al rfl) <| Ad) fun _ F => Ai <| Ac ?_
    obtain rfl := An H
    replace H := R0
    try dsimp only at H
    obtain rfl := An H
    refine Bd <| blk_r <| Bg <| Bg ?_
    refine Av (rs := [.cell 4 111, .tmp 5]) (vs := [.agg ⟨[.int .u8 0, .int .i64 0, .int .i64 0, .int .i64 (-1)]⟩, .bool true]) F (by rfl) ⟨_, _, rfl, Cj sg (.head _) rfl Fx.agg111 rfl, _, _, rfl, Ay rfl, rfl⟩ ⟨_, rfl, ⟨rfl, sg.drop.drop.drop.drop⟩⟩
   replace H := Bc hc H
   refine Ao F rfl rfl (Am rfl hc) Ab rfl rfl fun _ F => Ao F rfl rfl (Am rfl hc) Ab rfl rfl fun _ F => Ao F rfl rfl (Am rfl hc) Ab rfl rfl fun _ F => Ao F rfl rfl (Am rfl hc) Ab rfl rfl fun _ F => Cf F rfl rfl rfl rfl rfl fun _ F => Cf F rfl rfl rfl rfl rfl fun _ F => Cf F rfl rfl rfl rfl rfl fun _ F => Ao F rfl rfl (Am rfl hc) Ab rfl rfl fun _ F => Ao F rfl rfl (Am rfl hc) Ab rfl rfl fun _ F => Cf F rfl rfl rfl rfl rfl fun _ F => Cf F rfl rfl rfl rfl rfl fun _ F => Cf F rfl rfl rfl rfl rfl fun _ F => Ao F rfl rfl (Am rfl hc) Ab rfl rfl fun _ F => Ao F rfl rfl (Am rfl hc) Ab rfl rfl fun _ F => Cf F rfl rfl rfl rfl rfl fun _ F => Cf F rfl rfl rfl rfl rfl fun _ F => Cf F rfl rfl rfl rfl rfl fun _ F => Ao F rfl rfl (Am rfl hc) Ab rfl rfl fun _ F => Aj F (Aa (Bi (By rfl hc) rfl) <| Aa (Al rfl) <| Ad) fun _ F => ?_
   refine Ai <| Ac <| Cm F rfl <| Ah <| Ak <| Aj F (Aa (Ax Fx.fa111_0 rfl rfl) <| Aa (Az Fx.nag5 rfl (s6.blk_cell (.tail _ <| .tail _ <| .tail _ <| .head _) rfl)) <| Aa (Bw rfl rfl) <| Aa (Af rfl) <| Ad) fun _ F => Bl ((a0.op.toNat : Int) == 17) (fun hd => ?_) (fun hd => ?_)
   ·replace H := Bb hd H
    refine Aq F rfl rfl (Am rfl hd) (Ax Fx.fa111_0 rfl rfl) rfl rfl fun _ F => Aq F rfl rfl (Am rfl hd) (Az Fx.nag5 rfl (s6.blk_cell (.tail _ <| .tail _ <| .head _) rfl)) rfl rfl fun _ F => Aq F rfl rfl (Am rfl hd) (Bw rfl rfl) rfl rfl fun _ F => Aj F (Aa (Bf (By rfl hd) rfl) <| Aa (Al rfl) <| Ad) fun _ F => Ai <| Ac <| Bm F rfl (fun he => ?_) (fun he => ?_)
    ·replace H := Bb he H
     refine Ah <| Ak <| Aj F (Aa (Bj Fx.agg111 rfl (s6.blk_cells (.head _) (o := 0) (ds := [.int .u8 0, .int .i64 0, .int .i64 0, .int .i64 (-1)]) (fun j u hu => by rw [Nat.zero_add]; exact hu)) rfl) <| Ad) fun _ F => ?_
     have sh := s6.f1
     refine As F sh rfl rfl Fx.sz111 (Ae rfl (Ae rfl (Ae rfl (Ae rfl Ba)))) (Ag rfl) fun wb _ F si => ?_
     replace si : SL w [] wb [Blk g2 111 [.int .u8 0, .int .i64 0, .int .i64 0, .int .i64 (-1)], Blk g3 111 [.int .u8 0, .int .i64 0, .int .i64 0, .int .i64 (-1)], Blk g1 111 [.int .u8 (a1.op.toNat : Int), .int .i64 a1.a, .int .i64 a1.b, .int .i64 a1.to], Blk g0 111 [.int .u8 (a0.op.toNat : Int), .int .i64 a0.a, .int .i64 a0.b, .int .i64 a0.to]] := si
     refine Aj F (Aa (Al rfl) <| Ad) fun _ F => Ai <| Ac ?_
     obtain rfl := An H
     replace H := R0
     try dsimp only at H
     obtain rfl := An H
     refine Bd <| blk_r <| Bg <| Bg ?_
     refine Av (rs := [.cell 4 111, .tmp 5]) (vs := [.agg ⟨[.int .u8 0, .int .i64 0, .int .i64 0, .int .i64 (-1)]⟩, .bool true]) F (by rfl) ⟨_, _, rfl, Cj si (.head _) rfl Fx.agg111 rfl, _, _, rfl, Ay rfl, rfl⟩ ⟨_, rfl, ⟨rfl, si.drop.drop.drop.drop⟩⟩
    replace H := Bc he H
    refine Aw <| Bz ?_
    obtain rfl := An H
    refine Ac ?_
    exact ⟨_, rfl, F.sub ⟨rfl, rfl, trivial⟩, s6.f2.drop.f2.drop⟩
   replace H := Bc hd H
   refine Ao F rfl rfl (Am rfl hd) Ab rfl rfl fun _ F => Ao F rfl rfl (Am rfl hd) Ab rfl rfl fun _ F => Ao F rfl rfl (Am rfl hd) Ab rfl rfl fun _ F => Aj F (Aa (Bi (By rfl hd) rfl) <| Aa (Al rfl) <| Ad) fun _ F => Ai <| Ac <| Cm F rfl <| Aw <| Bz ?_
   obtain rfl := An H
   refine Ac ?_
   exact ⟨_, rfl, F.sub ⟨rfl, rfl, trivial⟩, s6.f2.drop.f2.drop⟩
  replace H := Bc h0 H
  refine Ao F rfl rfl (Am rfl h0) Ab rfl rfl fun _ F => Ao F rfl rfl (Am rfl h0) Ab rfl rfl fun _ F => Ao F rfl rfl (Am rfl h0) Ab rfl rfl fun _ F => Aj F (Aa (Bi (By rfl h0) rfl) <| Aa (Al rfl) <| Ad) fun _ F => Ai <| Ac <| Cm F rfl <| Ah <| Ak <| Aj F (Aa (Ax Fx.fa111_0 rfl rfl) <| Aa (Az Fx.nag5 rfl (s6.blk_cell (.tail _ <| .tail _ <| .tail _ <| .head _) rfl)) <| Aa (Bw rfl rfl) <| Aa (Af rfl) <| Ad) fun _ F => Bl ((a0.op.toNat : Int) == 2) (fun hf => ?_) (fun hf => ?_)
  ·replace H := Bb hf H
   refine Aq F rfl rfl (Am rfl hf) (Ax Fx.fa111_0 rfl rfl) rfl rfl fun _ F => Aq F rfl rfl (Am rfl hf) (Az Fx.nag5 rfl (s6.blk_cell (.tail _ <| .tail _ <| .head _) rfl)) rfl rfl fun _ F => Aq F rfl rfl (Am rfl hf) (Bw rfl rfl) rfl rfl fun _ F => Aj F (Aa (Bf (By rfl hf) rfl) <| Aa (Al rfl) <| Ad) fun _ F => Ai <| Ac <| Bm F rfl (fun hg => ?_) (fun hg => ?_)
   ·replace H := Bb hg H
    refine Ah <| Ak ?_
    obtain ⟨x2, hh, H⟩ := Ap H
    refine Aj F (Aa (Ax Fx.fa111_1 rfl rfl) <| Aa (Az Fx.nag3 rfl (s6.blk_cell (.tail _ <| .tail _ <| .tail _ <| .head _) rfl)) <| Aa (Bw rfl rfl) <| Ad) fun _ F => Bk (args := [.tmp 33]) F Fx.fn77 rfl (provisoref19_truth_c (a0 := (a0.a == 0))    hh) rfl fun v2 wc _ hi F => ?_
    obtain ⟨rfl, hj⟩ := hi
    have sj := s6.add hj
    have sk := sj.f1
    refine As F sk rfl rfl Fx.sz111 (Ae rfl (Ae rfl (Ae rfl (Ae rfl Ba)))) (Ag rfl) fun wd _ F sl => ?_
    replace sl : SL w [] wd [Blk g2 111 [.int .u8 (x2.op.toNat : Int), .int .i64 x2.a, .int .i64 x2.b, .int .i64 x2.to], Blk g3 111 [.int .u8 0, .int .i64 0, .int .i64 0, .int .i64 (-1)], Blk g1 111 [.int .u8 (a1.op.toNat : Int), .int .i64 a1.a, .int .i64 a1.b, .int .i64 a1.to], Blk g0 111 [.int .u8 (a0.op.toNat : Int), .int .i64 a0.a, .int .i64 a0.b, .int .i64 a0.to]] := sl
    refine Aj F (Aa (Al rfl) <| Ad) fun _ F => Ai <| Ac ?_
    obtain rfl := An H
    replace H := R0
    try dsimp only at H
    obtain rfl := An H
    refine Bd <| blk_r <| Bg <| Bg ?_
    refine Av (rs := [.cell 4 111, .tmp 5]) (vs := [.agg ⟨[.int .u8 (x2.op.toNat : Int), .int .i64 x2.a, .int .i64 x2.b, .int .i64 x2.to]⟩, .bool true]) F (by rfl) ⟨_, _, rfl, Cj sl (.head _) rfl Fx.agg111 rfl, _, _, rfl, Ay rfl, rfl⟩ ⟨_, rfl, ⟨rfl, sl.drop.drop.drop.drop⟩⟩
   replace H := Bc hg H
   refine Ah <| Ak <| Aj F (Aa (Ax Fx.fa111_0 rfl rfl) <| Aa (Az Fx.nag5 rfl (s6.blk_cell (.tail _ <| .tail _ <| .head _) rfl)) <| Aa (Bw rfl rfl) <| Aa (Af rfl) <| Ad) fun _ F => Bl ((a1.op.toNat : Int) == 6) (fun hk => ?_) (fun hk => ?_)
   ·replace H := Bb hk H
    refine Aq F rfl rfl (Am rfl hk) (Ax Fx.fa111_0 rfl rfl) rfl rfl fun _ F => Aq F rfl rfl (Am rfl hk) (Az Fx.nag5 rfl (s6.blk_cell (.tail _ <| .tail _ <| .tail _ <| .head _) rfl)) rfl rfl fun _ F => Aq F rfl rfl (Am rfl hk) (Bw rfl rfl) rfl rfl fun _ F => Aq F rfl rfl (Am rfl hk) (Af rfl) rfl rfl fun _ F => Aq F rfl rfl (Am rfl h0) (Ax Fx.fa111_0 rfl rfl) rfl rfl fun _ F => Aq F rfl rfl (Am rfl h0) (Az Fx.nag5 rfl (s6.blk_cell (.tail _ <| .tail _ <| .tail _ <| .head _) rfl)) rfl rfl fun _ F => Aq F rfl rfl (Am rfl h0) (Bw rfl rfl) rfl rfl fun _ F => Aq F rfl rfl (Am rfl hk) (Bi (By rfl h0) rfl) rfl rfl fun _ F => Aq F rfl rfl (Am rfl hk) (Af rfl) rfl rfl fun _ F => Ao F rfl rfl (Am rfl hf) Ab rfl rfl fun _ F => Ao F rfl rfl (Am rfl hf) Ab rfl rfl fun _ F => Ao F rfl rfl (Am rfl hf) Ab rfl rfl fun _ F => Aq F rfl rfl (Am rfl hk) (Bf (By rfl hf) rfl) rfl rfl fun _ F => Aq F rfl rfl (Am rfl hk) (Af rfl) rfl rfl fun _ F => ?_
    refine Ao F rfl rfl rfl Ab rfl rfl fun _ F => Ao F rfl rfl rfl Ab rfl rfl fun _ F => Ao F rfl rfl rfl Ab rfl rfl fun _ F => Aq F rfl rfl (Am rfl hk) (Bf rfl rfl) rfl rfl fun _ F => Aj F (Aa (Bf (By rfl hk) rfl) <| Aa (Al rfl) <| Ad) fun _ F => Ai <| Ac <| Cz F rfl <| Ah <| Ak <| Aj F (Aa (Bj Fx.agg111 rfl (s6.blk_cells (.head _) (o := 0) (ds := [.int .u8 0, .int .i64 0, .int .i64 0, .int .i64 (-1)]) (fun j u hu => by rw [Nat.zero_add]; exact hu)) rfl) <| Ad) fun _ F => ?_
    have sm := s6.f1
    refine As F sm rfl rfl Fx.sz111 (Ae rfl (Ae rfl (Ae rfl (Ae rfl Ba)))) (Ag rfl) fun we _ F sn => ?_
    replace sn : SL w [] we [Blk g2 111 [.int .u8 0, .int .i64 0, .int .i64 0, .int .i64 (-1)], Blk g3 111 [.int .u8 0, .int .i64 0, .int .i64 0, .int .i64 (-1)], Blk g1 111 [.int .u8 (a1.op.toNat : Int), .int .i64 a1.a, .int .i64 a1.b, .int .i64 a1.to], Blk g0 111 [.int .u8 (a0.op.toNat : Int), .int .i64 a0.a, .int .i64 a0.b, .int .i64 a0.to]] := sn
    refine Aj F (Aa (Al rfl) <| Ad) fun _ F => Ai <| Ac ?_
    obtain rfl := An H
    replace H := R0
    try dsimp only at H
    obtain rfl := An H
    refine Bd <| blk_r <| Bg <| Bg ?_
    refine Av (rs := [.cell 4 111, .tmp 5]) (vs := [.agg ⟨[.int .u8 0, .int .i64 0, .int .i64 0, .int .i64 (-1)]⟩, .bool true]) F (by rfl) ⟨_, _, rfl, Cj sn (.head _) rfl Fx.agg111 rfl, _, _, rfl, Ay rfl, rfl⟩ ⟨_, rfl, ⟨rfl, sn.drop.drop.drop.drop⟩⟩
   replace H := Bc hk H
   refine Ao F rfl rfl (Am rfl hk) Ab rfl rfl fun _ F => Ao F rfl rfl (Am rfl hk) Ab rfl rfl fun _ F => Ao F rfl rfl (Am rfl hk) Ab rfl rfl fun _ F => Ao F rfl rfl (Am rfl hk) Ab rfl rfl fun _ F => Cf F rfl rfl rfl rfl rfl fun _ F => Cf F rfl rfl rfl rfl rfl fun _ F => Cf F rfl rfl rfl rfl rfl fun _ F => Ao F rfl rfl (Am rfl hk) Ab rfl rfl fun _ F => Ao F rfl rfl (Am rfl hk) Ab rfl rfl fun _ F => Cf F rfl rfl rfl rfl rfl fun _ F => Cf F rfl rfl rfl rfl rfl fun _ F => Cf F rfl rfl rfl rfl rfl fun _ F => Ao F rfl rfl (Am rfl hk) Ab rfl rfl fun _ F => Ao F rfl rfl (Am rfl hk) Ab rfl rfl fun _ F => Cf F rfl rfl rfl rfl rfl fun _ F => Cf F rfl rfl rfl rfl rfl fun _ F => Cf F rfl rfl rfl rfl rfl fun _ F => Ao F rfl rfl (Am rfl hk) Ab rfl rfl fun _ F => Aj F (Aa (Bi (By rfl hk) rfl) <| Aa (Al rfl) <| Ad) fun _ F => ?_
   refine Ai <| Ac <| Cm F rfl <| Ah <| Ak <| Aj F (Aa (Ax Fx.fa111_0 rfl rfl) <| Aa (Az Fx.nag5 rfl (s6.blk_cell (.tail _ <| .tail _ <| .tail _ <| .head _) rfl)) <| Aa (Bw rfl rfl) <| Aa (Af rfl) <| Ad) fun _ F => Bl ((a0.op.toNat : Int) == 17) (fun hl => ?_) (fun hl => ?_)
   ·replace H := Bb hl H
    refine Aq F rfl rfl (Am rfl hl) (Ax Fx.fa111_0 rfl rfl) rfl rfl fun _ F => Aq F rfl rfl (Am rfl hl) (Az Fx.nag5 rfl (s6.blk_cell (.tail _ <| .tail _ <| .head _) rfl)) rfl rfl fun _ F => Aq F rfl rfl (Am rfl hl) (Bw rfl rfl) rfl rfl fun _ F => Aj F (Aa (Bf (By rfl hl) rfl) <| Aa (Al rfl) <| Ad) fun _ F => Ai <| Ac <| Cm F (Am rfl hg) <| Aw <| Bz ?_
    obtain rfl := An H
    refine Ac ?_
    exact ⟨_, rfl, F.sub ⟨rfl, rfl, trivial⟩, s6.f2.drop.f2.drop⟩
   replace H := Bc hl H
   refine Ao F rfl rfl (Am rfl hl) Ab rfl rfl fun _ F => Ao F rfl rfl (Am rfl hl) Ab rfl rfl fun _ F => Ao F rfl rfl (Am rfl hl) Ab rfl rfl fun _ F => Aj F (Aa (Bi (By rfl hl) rfl) <| Aa (Al rfl) <| Ad) fun _ F => Ai <| Ac <| Cm F rfl <| Aw <| Bz ?_
   obtain rfl := An H
   refine Ac ?_
   exact ⟨_, rfl, F.sub ⟨rfl, rfl, trivial⟩, s6.f2.drop.f2.drop⟩
  replace H := Bc hf H
  refine Ao F rfl rfl (Am rfl hf) Ab rfl rfl fun _ F => Ao F rfl rfl (Am rfl hf) Ab rfl rfl fun _ F => Ao F rfl rfl (Am rfl hf) Ab rfl rfl fun _ F => Aj F (Aa (Bi (By rfl hf) rfl) <| Aa (Al rfl) <| Ad) fun _ F => Ai <| Ac <| Cm F rfl <| Ah <| Ak <| Aj F (Aa (Ax Fx.fa111_0 rfl rfl) <| Aa (Az Fx.nag5 rfl (s6.blk_cell (.tail _ <| .tail _ <| .head _) rfl)) <| Aa (Bw rfl rfl) <| Aa (Af rfl) <| Ad) fun _ F => Bl ((a1.op.toNat : Int) == 6) (fun hm => ?_) (fun hm => ?_)
  ·replace H := Bb hm H
   refine Aq F rfl rfl (Am rfl hm) (Ax Fx.fa111_0 rfl rfl) rfl rfl fun _ F => Aq F rfl rfl (Am rfl hm) (Az Fx.nag5 rfl (s6.blk_cell (.tail _ <| .tail _ <| .tail _ <| .head _) rfl)) rfl rfl fun _ F => Aq F rfl rfl (Am rfl hm) (Bw rfl rfl) rfl rfl fun _ F => Aq F rfl rfl (Am rfl hm) (Af rfl) rfl rfl fun _ F => Aq F rfl rfl (Am rfl h0) (Ax Fx.fa111_0 rfl rfl) rfl rfl fun _ F => Aq F rfl rfl (Am rfl h0) (Az Fx.nag5 rfl (s6.blk_cell (.tail _ <| .tail _ <| .tail _ <| .head _) rfl)) rfl rfl fun _ F => Aq F rfl rfl (Am rfl h0) (Bw rfl rfl) rfl rfl fun _ F => Aq F rfl rfl (Am rfl hm) (Bi (By rfl h0) rfl) rfl rfl fun _ F => Aq F rfl rfl (Am rfl hm) (Af rfl) rfl rfl fun _ F => Aq F rfl rfl (Am rfl hf) (Ax Fx.fa111_0 rfl rfl) rfl rfl fun _ F => Aq F rfl rfl (Am rfl hf) (Az Fx.nag5 rfl (s6.blk_cell (.tail _ <| .tail _ <| .tail _ <| .head _) rfl)) rfl rfl fun _ F => Aq F rfl rfl (Am rfl hf) (Bw rfl rfl) rfl rfl fun _ F => Aq F rfl rfl (Am rfl hm) (Bi (By rfl hf) rfl) rfl rfl fun _ F => ?_
   refine Aq F rfl rfl (Am rfl hm) (Af rfl) rfl rfl fun _ F => Bl ((a0.op.toNat : Int) == 3) (fun hn => ?_) (fun hn => ?_)
   ·replace H := Bb hn H
    refine Ao F rfl rfl (Am rfl hn) Ab rfl rfl fun _ F => Ao F rfl rfl (Am rfl hn) Ab rfl rfl fun _ F => Ao F rfl rfl (Am rfl hn) Ab rfl rfl fun _ F => Aq F rfl rfl (Am rfl hm) (Bf (By rfl hn) rfl) rfl rfl fun _ F => Aj F (Aa (Bf (By rfl hm) rfl) <| Aa (Al rfl) <| Ad) fun _ F => Ai <| Ac <| Cz F rfl <| Ah <| Ak <| Aj F (Aa (Bj Fx.agg111 rfl (s6.blk_cells (.head _) (o := 0) (ds := [.int .u8 0, .int .i64 0, .int .i64 0, .int .i64 (-1)]) (fun j u hu => by rw [Nat.zero_add]; exact hu)) rfl) <| Ad) fun _ F => ?_
    have so := s6.f1
    refine As F so rfl rfl Fx.sz111 (Ae rfl (Ae rfl (Ae rfl (Ae rfl Ba)))) (Ag rfl) fun wf _ F sp => ?_
    replace sp : SL w [] wf [Blk g2 111 [.int .u8 0, .int .i64 0, .int .i64 0, .int .i64 (-1)], Blk g3 111 [.int .u8 0, .int .i64 0, .int .i64 0, .int .i64 (-1)], Blk g1 111 [.int .u8 (a1.op.toNat : Int), .int .i64 a1.a, .int .i64 a1.b, .int .i64 a1.to], Blk g0 111 [.int .u8 (a0.op.toNat : Int), .int .i64 a0.a, .int .i64 a0.b, .int .i64 a0.to]] := sp
    refine Aj F (Aa (Al rfl) <| Ad) fun _ F => Ai <| Ac ?_
    obtain rfl := An H
    replace H := R0
    try dsimp only at H
    obtain rfl := An H
    refine Bd <| blk_r <| Bg <| Bg ?_
    refine Av (rs := [.cell 4 111, .tmp 5]) (vs := [.agg ⟨[.int .u8 0, .int .i64 0, .int .i64 0, .int .i64 (-1)]⟩, .bool true]) F (by rfl) ⟨_, _, rfl, Cj sp (.head _) rfl Fx.agg111 rfl, _, _, rfl, Ay rfl, rfl⟩ ⟨_, rfl, ⟨rfl, sp.drop.drop.drop.drop⟩⟩
   replace H := Bc hn H
   refine Aq F rfl rfl (Am rfl hn) (Ax Fx.fa111_0 rfl rfl) rfl rfl fun _ F => Aq F rfl rfl (Am rfl hn) (Az Fx.nag5 rfl (s6.blk_cell (.tail _ <| .tail _ <| .tail _ <| .head _) rfl)) rfl rfl fun _ F => Aq F rfl rfl (Am rfl hn) (Bw rfl rfl) rfl rfl fun _ F => Aq F rfl rfl (Am rfl hm) (Bi (By rfl hn) rfl) rfl rfl fun _ F => Aj F (Aa (Bf (By rfl hm) rfl) <| Aa (Al rfl) <| Ad) fun _ F => Ai <| Ac <| Bm F rfl (fun ho => ?_) (fun ho => ?_)
   ·replace H := Bb ho H
    refine Ah <| Ak <| Aj F (Aa (Bj Fx.agg111 rfl (s6.blk_cells (.head _) (o := 0) (ds := [.int .u8 0, .int .i64 0, .int .i64 0, .int .i64 (-1)]) (fun j u hu => by rw [Nat.zero_add]; exact hu)) rfl) <| Ad) fun _ F => ?_
    have sq := s6.f1
    refine As F sq rfl rfl Fx.sz111 (Ae rfl (Ae rfl (Ae rfl (Ae rfl Ba)))) (Ag rfl) fun wg _ F sr => ?_
    replace sr : SL w [] wg [Blk g2 111 [.int .u8 0, .int .i64 0, .int .i64 0, .int .i64 (-1)], Blk g3 111 [.int .u8 0, .int .i64 0, .int .i64 0, .int .i64 (-1)], Blk g1 111 [.int .u8 (a1.op.toNat : Int), .int .i64 a1.a, .int .i64 a1.b, .int .i64 a1.to], Blk g0 111 [.int .u8 (a0.op.toNat : Int), .int .i64 a0.a, .int .i64 a0.b, .int .i64 a0.to]] := sr
    refine Aj F (Aa (Al rfl) <| Ad) fun _ F => Ai <| Ac ?_
    obtain rfl := An H
    replace H := R0
    try dsimp only at H
    obtain rfl := An H
    refine Bd <| blk_r <| Bg <| Bg ?_
    refine Av (rs := [.cell 4 111, .tmp 5]) (vs := [.agg ⟨[.int .u8 0, .int .i64 0, .int .i64 0, .int .i64 (-1)]⟩, .bool true]) F (by rfl) ⟨_, _, rfl, Cj sr (.head _) rfl Fx.agg111 rfl, _, _, rfl, Ay rfl, rfl⟩ ⟨_, rfl, ⟨rfl, sr.drop.drop.drop.drop⟩⟩
   replace H := Bc ho H
   refine Ah <| Ak <| Aj F (Aa (Ax Fx.fa111_0 rfl rfl) <| Aa (Az Fx.nag5 rfl (s6.blk_cell (.tail _ <| .tail _ <| .tail _ <| .head _) rfl)) <| Aa (Bw rfl rfl) <| Aa (Af rfl) <| Ad) fun _ F => Bl ((a0.op.toNat : Int) == 17) (fun hp => ?_) (fun hp => ?_)
   ·replace H := Bb hp H
    refine Aq F rfl rfl (Am rfl hp) (Ax Fx.fa111_0 rfl rfl) rfl rfl fun _ F => Aq F rfl rfl (Am rfl hp) (Az Fx.nag5 rfl (s6.blk_cell (.tail _ <| .tail _ <| .head _) rfl)) rfl rfl fun _ F => Aq F rfl rfl (Am rfl hp) (Bw rfl rfl) rfl rfl fun _ F => Aj F (Aa (Bf (By rfl hp) rfl) <| Aa (Al rfl) <| Ad) fun _ F => Ai <| Ac <| Bm F rfl (fun hq => ?_) (fun hq => ?_)
    ·replace H := Bb hq H
     refine Ah <| Ak <| Aj F (Aa (Bj Fx.agg111 rfl (s6.blk_cells (.head _) (o := 0) (ds := [.int .u8 0, .int .i64 0, .int .i64 0, .int .i64 (-1)]) (fun j u hu => by rw [Nat.zero_add]; exact hu)) rfl) <| Ad) fun _ F => ?_
     have ss := s6.f1
     refine As F ss rfl rfl Fx.sz111 (Ae rfl (Ae rfl (Ae rfl (Ae rfl Ba)))) (Ag rfl) fun wh _ F st => ?_
     replace st : SL w [] wh [Blk g2 111 [.int .u8 0, .int .i64 0, .int .i64 0, .int .i64 (-1)], Blk g3 111 [.int .u8 0, .int .i64 0, .int .i64 0, .int .i64 (-1)], Blk g1 111 [.int .u8 (a1.op.toNat : Int), .int .i64 a1.a, .int .i64 a1.b, .int .i64 a1.to], Blk g0 111 [.int .u8 (a0.op.toNat : Int), .int .i64 a0.a, .int .i64 a0.b, .int .i64 a0.to]] := st
     refine Aj F (Aa (Al rfl) <| Ad) fun _ F => Ai <| Ac ?_
     obtain rfl := An H
     replace H := R0
     try dsimp only at H
     obtain rfl := An H
     refine Bd <| blk_r <| Bg <| Bg ?_
     refine Av (rs := [.cell 4 111, .tmp 5]) (vs := [.agg ⟨[.int .u8 0, .int .i64 0, .int .i64 0, .int .i64 (-1)]⟩, .bool true]) F (by rfl) ⟨_, _, rfl, Cj st (.head _) rfl Fx.agg111 rfl, _, _, rfl, Ay rfl, rfl⟩ ⟨_, rfl, ⟨rfl, st.drop.drop.drop.drop⟩⟩
    replace H := Bc hq H
    refine Aw <| Bz ?_
    obtain rfl := An H
    refine Ac ?_
    exact ⟨_, rfl, F.sub ⟨rfl, rfl, trivial⟩, s6.f2.drop.f2.drop⟩
   replace H := Bc hp H
   refine Ao F rfl rfl (Am rfl hp) Ab rfl rfl fun _ F => Ao F rfl rfl (Am rfl hp) Ab rfl rfl fun _ F => Ao F rfl rfl (Am rfl hp) Ab rfl rfl fun _ F => Aj F (Aa (Bi (By rfl hp) rfl) <| Aa (Al rfl) <| Ad) fun _ F => Ai <| Ac <| Cm F rfl <| Aw <| Bz ?_
   obtain rfl := An H
   refine Ac ?_
   exact ⟨_, rfl, F.sub ⟨rfl, rfl, trivial⟩, s6.f2.drop.f2.drop⟩
  replace H := Bc hm H
  refine Ao F rfl rfl (Am rfl hm) Ab rfl rfl fun _ F => Ao F rfl rfl (Am rfl hm) Ab rfl rfl fun _ F => Ao F rfl rfl (Am rfl hm) Ab rfl rfl fun _ F => Ao F rfl rfl (Am rfl hm) Ab rfl rfl fun _ F => Cf F rfl rfl rfl rfl rfl fun _ F => Cf F rfl rfl rfl rfl rfl fun _ F => Cf F rfl rfl rfl rfl rfl fun _ F => Ao F rfl rfl (Am rfl hm) Ab rfl rfl fun _ F => Ao F rfl rfl (Am rfl hm) Ab rfl rfl fun _ F => Cf F rfl rfl rfl rfl rfl fun _ F => Cf F rfl rfl rfl rfl rfl fun _ F => Cf F rfl rfl rfl rfl rfl fun _ F => Ao F rfl rfl (Am rfl hm) Ab rfl rfl fun _ F => Ao F rfl rfl (Am rfl hm) Ab rfl rfl fun _ F => Cf F rfl rfl rfl rfl rfl fun _ F => Cf F rfl rfl rfl rfl rfl fun _ F => Cf F rfl rfl rfl rfl rfl fun _ F => Ao F rfl rfl (Am rfl hm) Ab rfl rfl fun _ F => Aj F (Aa (Bi (By rfl hm) rfl) <| Aa (Al rfl) <| Ad) fun _ F => ?_
  refine Ai <| Ac <| Cm F rfl <| Ah <| Ak <| Aj F (Aa (Ax Fx.fa111_0 rfl rfl) <| Aa (Az Fx.nag5 rfl (s6.blk_cell (.tail _ <| .tail _ <| .tail _ <| .head _) rfl)) <| Aa (Bw rfl rfl) <| Aa (Af rfl) <| Ad) fun _ F => Bl ((a0.op.toNat : Int) == 17) (fun hr => ?_) (fun hr => ?_)
  ·replace H := Bb hr H
   refine Aq F rfl rfl (Am rfl hr) (Ax Fx.fa111_0 rfl rfl) rfl rfl fun _ F => Aq F rfl rfl (Am rfl hr) (Az Fx.nag5 rfl (s6.blk_cell (.tail _ <| .tail _ <| .head _) rfl)) rfl rfl fun _ F => Aq F rfl rfl (Am rfl hr) (Bw rfl rfl) rfl rfl fun _ F => Aj F (Aa (Bf (By rfl hr) rfl) <| Aa (Al rfl) <| Ad) fun _ F => Ai <| Ac <| Bm F rfl (fun hs => ?_) (fun hs => ?_)
   ·replace H := Bb hs H
    refine Ah <| Ak <| Aj F (Aa (Bj Fx.agg111 rfl (s6.blk_cells (.head _) (o := 0) (ds := [.int .u8 0, .int .i64 0, .int .i64 0, .int .i64 (-1)]) (fun j u hu => by rw [Nat.zero_add]; exact hu)) rfl) <| Ad) fun _ F => ?_
    have su := s6.f1
    refine As F su rfl rfl Fx.sz111 (Ae rfl (Ae rfl (Ae rfl (Ae rfl Ba)))) (Ag rfl) fun wi _ F sv => ?_
    replace sv : SL w [] wi [Blk g2 111 [.int .u8 0, .int .i64 0, .int .i64 0, .int .i64 (-1)], Blk g3 111 [.int .u8 0, .int .i64 0, .int .i64 0, .int .i64 (-1)], Blk g1 111 [.int .u8 (a1.op.toNat : Int), .int .i64 a1.a, .int .i64 a1.b, .int .i64 a1.to], Blk g0 111 [.int .u8 (a0.op.toNat : Int), .int .i64 a0.a, .int .i64 a0.b, .int .i64 a0.to]] := sv
    refine Aj F (Aa (Al rfl) <| Ad) fun _ F => Ai <| Ac ?_
    obtain rfl := An H
    replace H := R0
    try dsimp only at H
    obtain rfl := An H
    refine Bd <| blk_r <| Bg <| Bg ?_
    refine Av (rs := [.cell 4 111, .tmp 5]) (vs := [.agg ⟨[.int .u8 0, .int .i64 0, .int .i64 0, .int .i64 (-1)]⟩, .bool true]) F (by rfl) ⟨_, _, rfl, Cj sv (.head _) rfl Fx.agg111 rfl, _, _, rfl, Ay rfl, rfl⟩ ⟨_, rfl, ⟨rfl, sv.drop.drop.drop.drop⟩⟩
   replace H := Bc hs H
   refine Aw <| Bz ?_
   obtain rfl := An H
   refine Ac ?_
   exact ⟨_, rfl, F.sub ⟨rfl, rfl, trivial⟩, s6.f2.drop.f2.drop⟩
  replace H := Bc hr H
  refine Ao F rfl rfl (Am rfl hr) Ab rfl rfl fun _ F => Ao F rfl rfl (Am rfl hr) Ab rfl rfl fun _ F => Ao F rfl rfl (Am rfl hr) Ab rfl rfl fun _ F => Aj F (Aa (Bi (By rfl hr) rfl) <| Aa (Al rfl) <| Ad) fun _ F => Ai <| Ac <| Cm F rfl <| Aw <| Bz ?_
  obtain rfl := An H
  refine Ac ?_
  exact ⟨_, rfl, F.sub ⟨rfl, rfl, trivial⟩, s6.f2.drop.f2.drop⟩
 intro _ wj hJ
 obtain ⟨p0, rfl, F, sw⟩ := hJ
 have H := R0
 clear R0 H0
 try dsimp only at H
 refine Ac <| Ah <| Ak <| Aj F (Aa (Bj Fx.agg111 rfl (sw.blk_cells (.head _) (o := 0) (ds := [.int .u8 0, .int .i64 0, .int .i64 0, .int .i64 (-1)]) (fun j u hu => by rw [Nat.zero_add]; exact hu)) rfl) <| Ad) fun _ F => ?_
 have sx := sw.f1
 refine As F sx rfl rfl Fx.sz111 (Ae rfl (Ae rfl (Ae rfl (Ae rfl Ba)))) (Ag rfl) fun wk _ F sy => ?_
 replace sy : SL w [] wk [Blk g2 111 [.int .u8 0, .int .i64 0, .int .i64 0, .int .i64 (-1)], Blk g3 111 [.int .u8 0, .int .i64 0, .int .i64 0, .int .i64 (-1)]] := sy
 refine Aj F (Aa (Al rfl) <| Ad) fun _ F => Ai <| Ac ?_
 obtain rfl := An H
 refine Bd ?_
 refine Av (rs := [.cell 4 111, .tmp 5]) (vs := [.agg ⟨[.int .u8 0, .int .i64 0, .int .i64 0, .int .i64 (-1)]⟩, .bool false]) F (by rfl) ⟨_, _, rfl, Cj sy (.head _) rfl Fx.agg111 rfl, _, _, rfl, Ay rfl, rfl⟩ ⟨_, rfl, ⟨rfl, sy.drop.drop⟩⟩
end Go.Proofs.YtmeodoidfpcjlaaGreat
