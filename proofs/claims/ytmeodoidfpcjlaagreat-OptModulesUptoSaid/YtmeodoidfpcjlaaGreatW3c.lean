/- Walks, merged. -/
import Derived.Test.YtmeodoidfpcjlaaGreatW3b
set_option linter.unusedVariables false
set_option linter.unusedSimpArgs false
namespace Go.Proofs.YtmeodoidfpcjlaaGreat
open Go Go.RowKit Go.Pv
open Go.Pv.PR renaming op → Aa, nil → Ad
open Bool renaming noConfusion → Ab
open Go.Pv renaming then_n → Ac, one_cons → Ae, ex_move → Af, st_end → Ai, st_pr → Aj, wp_reg → Ak, ex_asg → Al, look_b → Am, some_ok → An, st_gskip → Ao, bind_ok → Ap, st_gop → Aq, kq_end → Ar, st_storea → As, ex_extract → Au, ret_gen → Av, ex_fab → Ax, ex_ld → Az, one_nil → Ba, ite_t → Bb, ite_f → Bc, hd_one → Be, ex_pick_t → Bf, then_r → Bg, ex_pick_f → Bi, ex_ldagg → Bj, st_call → Bk, bool_split → Bl, wp_if → Bm, call_enter → Bn, st_alloc → Bo, then_x → Bp, ex_add → Bq, wpOp_of → Br, hd_cons → Bs, st_op → Bt, formL → Bu, hd_take → Bv, ex_eq → Bw, wp_cutn → Bx, ev_b → By, blk_n → Bz, blk_hit → Cb, ex_len → Cc, form_one → Cd, hd_done → Ce, st_gskip' → Cf, own_idx → Ch, st_append_rd → Ci, hd_many → Cl, wp_if_f → Cm, ex_build → Cn, hd_nil → Co, st_store → Cq, ex_lt → Cr, st_bslice → Cs, form_cells → Ct, wp_lp → Cu, rdL → Cv, ex_fa → Cw, st_setel → Cx, wp_if_t → Cz, ex_not → Da, st_box → Db, st_append_own → Dc, blk_miss → Dd, ex_ne → De, idxL → Dg, st_bslice1 → Dh, st_setfld → Di, wp_regh → Dj
open Nat renaming le_of_ble_eq_true → Ag
open Go renaming wp_seq → Ah, wp_skip → Aw, wp_ret → Bd, wp_block → Bh, wp_exit → Ca
open Go.Pv.RV renaming tmp → Ay, blk → Cj
open Go.Pv.QR renaming op → Cg, gskip → Cp, gop → Cy
-- proviso/provisoref19.constants
theorem provisoref19_constants_c {w : World} {v0 : Value} {a0 : List S_provisoref19_ins} {r : (List S_provisoref19_ins)} (hr0 : Rd T_provisoref19_ins w [] v0 a0) (H : provisoref19_constants a0 = some r) :
    Calls Tryz.prog 42 #[v0] w (Ret fun u_ w_ => ∃ u0 : Value, u_ = u0 ∧ SL w [] w_ [Sl T_provisoref19_ins u0 r]) := by
 have s0 : SL w [] w [] := SL.init0 w
 refine Bn Tryz.func42 rfl Tryz.ntmps42 (Ag rfl) (args := [v0]) fun q0 F0 => ?_
 unfold provisoref19_constants at H
 refine Ah <| Ak <| Aj F0 (Aa (Al rfl) <| Ad) fun q3 F4 => Ai <| Ac <| Ah <| Ak ?_
 obtain ⟨x0, h0, H⟩ := Ap H
 refine Aj F4 (Aa (Af rfl) <| Ad) fun _ F => Bk (args := [.tmp 11]) F Fx.fn64 rfl (provisoref19_led_c (a0 := a0)   (hr0.pass0 s0) h0) rfl fun v1 w0 _ h1 F => ?_
 obtain ⟨_, rfl, h2⟩ := h1
 have s1 := s0.add h2
 refine Aj F (Aa (Al rfl) <| Ad) fun _ F => Ai <| Ac <| Ah <| Ak ?_
 obtain ⟨x1, h3, H⟩ := Ap H
 refine Aj F (Aa (Af rfl) <| Aa (Cc rfl Tryz.underlying86 (Bu (Cv hr0 s1))) <| Ad) fun _ F => st_make Flat.bool false F s1 Fx.sl99 rfl rfl Fx.zero4 rfl rfl rfl h3 rfl fun v2 w1 _ F s2 => Aj F (Aa (Al rfl) <| Ad) fun _ F => Ai <| Ac <| Ah <| Ak ?_
 refine Cs (parts := []) F_provisoref19_ins ([] : List S_provisoref19_ins) F s2 Fx.sl86 rfl (by decide) rfl rfl rfl (by simp [Value.cells]) rfl rfl rfl fun v3 w2 _ F s3 => ?_
 obtain ⟨x2, h4, H⟩ := Ap H
 refine Aj F (Aa (Af rfl) <| Ad) fun _ F => ?_
 have s4 := s3
 obtain ⟨_, hr_⟩ := (Cv hr0 s4)
 refine Ci F_provisoref19_ins F s4 Fx.sl86 rfl rfl rfl rfl hr_ rfl rfl h4 rfl fun v4 w3 _ F s5 => Aj F (Aa (Al rfl) <| Ad) fun _ F => Ai <| Ac <| Ah <| Ah <| Ak <| Aj F (Aa (Al rfl) <| Ad) fun _ F => Ai <| Ac ?_
 obtain ⟨o0, H0, R0⟩ := Ap H
 clear H
 refine Bx (fun a w_ => ∃ v5 v6 : Value, Fr a 125 [(4, v5), (5, v6)] ∧ SL w [] w_ [Sl Ty.bool v5 o0.1, Sl T_provisoref19_ins v6 o0.2]) ?_ ?_
 ·have H := H0
  refine Bh <| Cu (provisoref19_constants_b0 a0 x0) (fun s6 a w_ => ∃ v7 v8 : Value, Fr a 125 [(0, v0), (3, v1), (4, v7), (5, v8), (6, .int .i64 s6.2.2)] ∧ SL w [] w_ [Sl Ty.bool v1 x0, Sl Ty.bool v7 s6.1, Sl T_provisoref19_ins v8 s6.2.1]) H ?_ ?_
  ·exact ⟨v2, v4, F.sub ⟨rfl, rfl, rfl, rfl, rfl, trivial⟩, s5.f1.f2⟩
  intro s6 _ w4 h5 o1 H hr
  obtain ⟨v7, v8, F, s7⟩ := h5
  replace H : provisoref19_constants_b0 a0 x0 s6 = some o1 := H
  unfold provisoref19_constants_b0 at H
  refine Ah <| Ah <| Ak <| Aj F (Aa (Af rfl) <| Aa (Af rfl) <| Aa (Cc rfl Tryz.underlying86 (Bu (Cv hr0 s7))) <| Aa (Cr rfl rfl) <| Ad) fun _ F => Ai <| Ac <| Bm F rfl (fun h6 => ?_) (fun h6 => ?_)
  ·replace H := Bb h6 H
   refine Aw <| Ac <| Ah ?_
   obtain ⟨o2, H1, R1⟩ := Ap H
   clear H
   refine Bx (fun a w_ => ∃ v9 va : Value, Fr a 125 [(0, v0), (3, v1), (4, v9), (5, va), (6, .int .i64 o2.2.2)] ∧ SL w [] w_ [Sl Ty.bool v1 x0, Sl Ty.bool v9 o2.1, Sl T_provisoref19_ins va o2.2.1]) ?_ ?_
   ·have H := H1
    refine Bh <| Ah ?_
    obtain ⟨o3, H2, R2⟩ := Ap H
    clear H
    refine Bx (fun a w_ => ∃ p0 : Unit, o3 = .inr (p0) ∧ Fr a 125 [(0, v0), (3, v1), (4, v7), (5, v8), (6, .int .i64 s6.2.2)] ∧ SL w [] w_ [Sl Ty.bool v1 x0, Sl Ty.bool v7 s6.1, Sl T_provisoref19_ins v8 s6.2.1]) ?_ ?_
    ·have H := H2
     refine Ah <| Ak <| Aj F (Aa (Af rfl) <| Aa (Bq rfl rfl) <| Aa (Af rfl) <| Aa (Cc rfl Tryz.underlying86 (Bu (Cv hr0 s7))) <| Aa (Cr rfl rfl) <| Aa (Af rfl) <| Ad) fun _ F => Bl (decide ((wr (s6.2.2 + 2)) < (a0.length : Int))) (fun h7 => ?_) (fun h7 => ?_)
     ·replace H := Bb h7 H
      refine Aq F rfl rfl (Am rfl h7) (Af rfl) rfl rfl fun _ F => Aq F rfl rfl (Am rfl h7) (Af rfl) rfl rfl fun _ F => Aq F rfl rfl (Am rfl h7) (Bq rfl rfl) rfl rfl fun _ F => ?_
      obtain ⟨x3, h8, H⟩ := Ap H
      obtain ⟨a3, h9, ha⟩ := Ch Flat.bool s7 (.head _) Fx.sl99 rfl h8
      refine Aq F rfl rfl (Am rfl h7) (h9 _ _ _ _ _ _ _ _ _ _ rfl rfl) rfl rfl fun _ F => Aq F rfl rfl (Am rfl h7) (Az Fx.nag4 rfl (Cells.at_ (SL.elcells Flat.bool s7 (.head _) ha h8) (o := 0) rfl)) rfl rfl fun _ F => Aq F rfl rfl (Am rfl h7) (Da rfl) rfl rfl fun _ F => Aj F (Aa (Bf (By rfl h7) rfl) <| Aa (Af rfl) <| Ad) fun _ F => Bl (!x3) (fun hb => ?_) (fun hb => ?_)
      ·replace H := Bb hb H
       refine Aq F rfl rfl (Am rfl hb) (Af rfl) rfl rfl fun _ F => Aq F rfl rfl (Am rfl hb) (Af rfl) rfl rfl fun _ F => Aq F rfl rfl (Am rfl hb) (Bq rfl rfl) rfl rfl fun _ F => ?_
       obtain ⟨x4, hc, H⟩ := Ap H
       obtain ⟨a4, hd, he⟩ := Ch Flat.bool s7 (.head _) Fx.sl99 rfl hc
       refine Aq F rfl rfl (Am rfl hb) (hd _ _ _ _ _ _ _ _ _ _ rfl rfl) rfl rfl fun _ F => Aq F rfl rfl (Am rfl hb) (Az Fx.nag4 rfl (Cells.at_ (SL.elcells Flat.bool s7 (.head _) he hc) (o := 0) rfl)) rfl rfl fun _ F => Aq F rfl rfl (Am rfl hb) (Da rfl) rfl rfl fun _ F => Aj F (Aa (Bf (By rfl hb) rfl) <| Ad) fun _ F => Ai <| Ac <| Bm F rfl (fun hf => ?_) (fun hf => ?_)
       ·replace H := Bb hf H
        refine Ah ?_
        obtain ⟨o4, H3, R3⟩ := Ap H
        clear H
        refine Bx (fun a w_ => ∃ g0 : Nat, Fr a 125 [(0, v0), (3, v1), (4, v7), (5, v8), (6, .int .i64 s6.2.2), (7, .pointer (some ⟨g0, 0, none⟩)), (8, .bool o4.2.2.2.2), (31, v1), (32, .int .i64 s6.2.2), (33, .int .i64 (wr (s6.2.2 + 1))), (34, .pointer (some a3)), (35, .bool x3), (36, .bool (!x3)), (39, v1), (40, .int .i64 s6.2.2), (41, .int .i64 (wr (s6.2.2 + 2))), (42, .pointer (some a4)), (43, .bool x4), (44, .bool (!x4))] ∧ SL w [] w_ [Sl Ty.bool v1 x0, Sl Ty.bool v7 s6.1, Sl T_provisoref19_ins v8 s6.2.1, Blk g0 111 [.int .u8 (o4.1.toNat : Int), .int .i64 o4.2.1, .int .i64 o4.2.2.1, .int .i64 o4.2.2.2.1]]) ?_ ?_
        ·have H := H3
         obtain ⟨x5, hg, H⟩ := Ap H
         obtain ⟨x6, hh, H⟩ := Ap H
         obtain ⟨x7, hi, H⟩ := Ap H
         obtain ⟨x8, hj, H⟩ := Ap H
         refine Dj Fx.mixed (fun w_ => SL w [] w_ [Sl Ty.bool v1 x0, Sl Ty.bool v7 s6.1, Sl T_provisoref19_ins v8 s6.2.1]) ?_
         have s8 := s7.drew
         have s9 : SL w [] _ [Sl Ty.bool v1 x0, Sl Ty.bool v7 s6.1, Sl T_provisoref19_ins v8 s6.2.1] := s8
         refine Bv (i := 0) rfl (by kernel_rfl) (by kernel_rfl) (by kernel_rfl) (fun _ hC => Af rfl) rfl rfl rfl F s9 fun _ F => ?_
         refine Bv (i := 1) rfl (by kernel_rfl) (by kernel_rfl) (by kernel_rfl) (fun _ hC => Af rfl) rfl rfl rfl F s9 fun _ F => ?_
         obtain ⟨a5, hk, hl⟩ := idxC (C := fun w_ => SL w [] w_ [Sl Ty.bool v1 x0, Sl Ty.bool v7 s6.1, Sl T_provisoref19_ins v8 s6.2.1]) F_provisoref19_ins (fun _ hC => (Cv hr0 hC)) s9 Fx.sl86 rfl hg
         refine Bv (i := 2) rfl (by kernel_rfl) (by kernel_rfl) (by kernel_rfl) (fun _ hC => hk _ _ _ _ _ _ _ _ _ _ rfl rfl) rfl rfl rfl F s9 fun _ F => ?_
         refine Bv (i := 3) rfl (by kernel_rfl) (by kernel_rfl) (by kernel_rfl) (fun _ hC => Bj Fx.agg111 rfl (hl _ hC) rfl) rfl rfl rfl F s9 fun _ F => ?_
         refine Bv (i := 4) rfl (by kernel_rfl) (by kernel_rfl) (by kernel_rfl) (fun _ hC => Af rfl) rfl rfl rfl F s9 fun _ F => ?_
         refine Bv (i := 5) rfl (by kernel_rfl) (by kernel_rfl) (by kernel_rfl) (fun _ hC => Af rfl) rfl rfl rfl F s9 fun _ F => ?_
         refine Bv (i := 6) rfl (by kernel_rfl) (by kernel_rfl) (by kernel_rfl) (fun _ hC => Bq rfl rfl) rfl rfl rfl F s9 fun _ F => ?_
         obtain ⟨a6, hm, hn⟩ := idxC (C := fun w_ => SL w [] w_ [Sl Ty.bool v1 x0, Sl Ty.bool v7 s6.1, Sl T_provisoref19_ins v8 s6.2.1]) F_provisoref19_ins (fun _ hC => (Cv hr0 hC)) s9 Fx.sl86 rfl hh
         refine Bv (i := 7) rfl (by kernel_rfl) (by kernel_rfl) (by kernel_rfl) (fun _ hC => hm _ _ _ _ _ _ _ _ _ _ rfl rfl) rfl rfl rfl F s9 fun _ F => ?_
         refine Bv (i := 8) rfl (by kernel_rfl) (by kernel_rfl) (by kernel_rfl) (fun _ hC => Bj Fx.agg111 rfl (hn _ hC) rfl) rfl rfl rfl F s9 fun _ F => ?_
         refine Bv (i := 9) rfl (by kernel_rfl) (by kernel_rfl) (by kernel_rfl) (fun _ hC => Af rfl) rfl rfl rfl F s9 fun _ F => ?_
         refine Bv (i := 10) rfl (by kernel_rfl) (by kernel_rfl) (by kernel_rfl) (fun _ hC => Af rfl) rfl rfl rfl F s9 fun _ F => ?_
         refine Bv (i := 11) rfl (by kernel_rfl) (by kernel_rfl) (by kernel_rfl) (fun _ hC => Bq rfl rfl) rfl rfl rfl F s9 fun _ F => ?_
         obtain ⟨a7, ho, hp⟩ := idxC (C := fun w_ => SL w [] w_ [Sl Ty.bool v1 x0, Sl Ty.bool v7 s6.1, Sl T_provisoref19_ins v8 s6.2.1]) F_provisoref19_ins (fun _ hC => (Cv hr0 hC)) s9 Fx.sl86 rfl hi
         refine Bv (i := 12) rfl (by kernel_rfl) (by kernel_rfl) (by kernel_rfl) (fun _ hC => ho _ _ _ _ _ _ _ _ _ _ rfl rfl) rfl rfl rfl F s9 fun _ F => ?_
         refine Bv (i := 13) rfl (by kernel_rfl) (by kernel_rfl) (by kernel_rfl) (fun _ hC => Bj Fx.agg111 rfl (hp _ hC) rfl) rfl rfl rfl F s9 fun _ F => ?_
         refine Cl (rs := [14, 18]) (by kernel_rfl) (by decide) (Bs (Br rfl ?_) (Bs (Br rfl ?_) (Co)))
         ·refine Bk (args := [.tmp 50, .tmp 55, .tmp 60]) F Fx.fn66 rfl (provisoref19_three_c (a0 := x5) (a1 := x6) (a2 := x7)    hj) rfl fun vb w5 _ hq F => ?_
          obtain ⟨rfl, hs⟩ := hq
          have sa := s8.add hs
          have sb : SL w [] _ [Sl Ty.bool v1 x0, Sl Ty.bool v7 s6.1, Sl T_provisoref19_ins v8 s6.2.1] := sa
          refine Ar ⟨sb, ?_⟩
          refine Cl (rs := [15, 18]) (by kernel_rfl) (by decide) (Bs (Br rfl ?_) (Bs (Br rfl ?_) (Co)))
          ·refine Bt F (Af rfl) rfl rfl rfl fun _ F => ?_
           have sc : SL w [] _ [Sl Ty.bool v1 x0, Sl Ty.bool v7 s6.1, Sl T_provisoref19_ins v8 s6.2.1] := sa
           refine Ar ⟨sc, ?_⟩
           refine Cl (rs := [16, 17, 18]) (by kernel_rfl) (by decide) (Bs (Br rfl ?_) (Bs (Br rfl ?_) (Bs (Br rfl ?_) (Co))))
           ·refine Bt F (Au (v := .agg ⟨[.int .u8 (x8.1.op.toNat : Int), .int .i64 x8.1.a, .int .i64 x8.1.b, .int .i64 x8.1.to]⟩) rfl rfl) rfl rfl rfl fun _ F => ?_
            have sd : SL w [] _ [Sl Ty.bool v1 x0, Sl Ty.bool v7 s6.1, Sl T_provisoref19_ins v8 s6.2.1] := sa
            refine Ar ⟨sd, ?_⟩
            refine Cl (rs := [17, 18]) (by kernel_rfl) (by decide) (Bs (Br rfl ?_) (Bs (Br rfl ?_) (Co)))
            ·refine Bt F (Au (v := .bool x8.2) rfl rfl) rfl rfl rfl fun _ F => ?_
             have se : SL w [] _ [Sl Ty.bool v1 x0, Sl Ty.bool v7 s6.1, Sl T_provisoref19_ins v8 s6.2.1] := sa
             refine Ar ⟨se, ?_⟩
             refine Be (i := 18) rfl (by kernel_rfl) ?_
             refine Bo F sa Fx.zero111 rfl rfl fun g1 w6 _ F sf => ?_
             have sg : SL w [] _ [Sl Ty.bool v1 x0, Sl Ty.bool v7 s6.1, Sl T_provisoref19_ins v8 s6.2.1] := sf.drop
             refine Ar ⟨sg, ?_⟩
             refine Be (i := 19) rfl (by kernel_rfl) ?_
             have sh := sf
             refine As F sh rfl rfl Fx.sz111 (Ae rfl (Ae rfl (Ae rfl (Ae rfl Ba)))) (Ag rfl) fun w7 _ F si => ?_
             replace si : SL w [] w7 [Blk g1 111 [.int .u8 (x8.1.op.toNat : Int), .int .i64 x8.1.a, .int .i64 x8.1.b, .int .i64 x8.1.to], Sl Ty.bool v1 x0, Sl Ty.bool v7 s6.1, Sl T_provisoref19_ins v8 s6.2.1] := si
             have sj : SL w [] _ [Sl Ty.bool v1 x0, Sl Ty.bool v7 s6.1, Sl T_provisoref19_ins v8 s6.2.1] := si.drop
             refine Ar ⟨sj, ?_⟩
             refine Be (i := 20) rfl (by kernel_rfl) ?_
             refine Bt F (Al rfl) rfl rfl rfl fun _ F => ?_
             have sk : SL w [] _ [Sl Ty.bool v1 x0, Sl Ty.bool v7 s6.1, Sl T_provisoref19_ins v8 s6.2.1] := si.drop
             refine Ar ⟨sk, ?_⟩
             refine Ce (by kernel_rfl) ?_
             obtain rfl := An H
             refine Ac ?_
             exact ⟨g1, F.sub ⟨rfl, rfl, rfl, rfl, rfl, rfl, rfl, rfl, rfl, rfl, rfl, rfl, rfl, rfl, rfl, rfl, rfl, rfl, rfl, trivial⟩, si.f3.f3.f3⟩
            refine Bo F sa Fx.zero111 rfl rfl fun g2 w8 _ F sl => ?_
            have sm : SL w [] _ [Sl Ty.bool v1 x0, Sl Ty.bool v7 s6.1, Sl T_provisoref19_ins v8 s6.2.1] := sl.drop
            refine Ar ⟨sm, ?_⟩
            refine Cl (rs := [17, 19]) (by kernel_rfl) (by decide) (Bs (Br rfl ?_) (Bs (Br rfl ?_) (Co)))
            ·refine Bt F (Au (v := .bool x8.2) rfl rfl) rfl rfl rfl fun _ F => ?_
             have sn : SL w [] _ [Sl Ty.bool v1 x0, Sl Ty.bool v7 s6.1, Sl T_provisoref19_ins v8 s6.2.1] := sl.drop
             refine Ar ⟨sn, ?_⟩
             refine Be (i := 19) rfl (by kernel_rfl) ?_
             have so := sl
             refine As F so rfl rfl Fx.sz111 (Ae rfl (Ae rfl (Ae rfl (Ae rfl Ba)))) (Ag rfl) fun w9 _ F sp => ?_
             replace sp : SL w [] w9 [Blk g2 111 [.int .u8 (x8.1.op.toNat : Int), .int .i64 x8.1.a, .int .i64 x8.1.b, .int .i64 x8.1.to], Sl Ty.bool v1 x0, Sl Ty.bool v7 s6.1, Sl T_provisoref19_ins v8 s6.2.1] := sp
             have sq : SL w [] _ [Sl Ty.bool v1 x0, Sl Ty.bool v7 s6.1, Sl T_provisoref19_ins v8 s6.2.1] := sp.drop
             refine Ar ⟨sq, ?_⟩
             refine Be (i := 20) rfl (by kernel_rfl) ?_
             refine Bt F (Al rfl) rfl rfl rfl fun _ F => ?_
             have sr : SL w [] _ [Sl Ty.bool v1 x0, Sl Ty.bool v7 s6.1, Sl T_provisoref19_ins v8 s6.2.1] := sp.drop
             refine Ar ⟨sr, ?_⟩
             refine Ce (by kernel_rfl) ?_
             obtain rfl := An H
             refine Ac ?_
             exact ⟨g2, F.sub ⟨rfl, rfl, rfl, rfl, rfl, rfl, rfl, rfl, rfl, rfl, rfl, rfl, rfl, rfl, rfl, rfl, rfl, rfl, rfl, trivial⟩, sp.f3.f3.f3⟩
            have ss := sl
            refine As F ss rfl rfl Fx.sz111 (Ae rfl (Ae rfl (Ae rfl (Ae rfl Ba)))) (Ag rfl) fun wa _ F st => ?_
            replace st : SL w [] wa [Blk g2 111 [.int .u8 (x8.1.op.toNat : Int), .int .i64 x8.1.a, .int .i64 x8.1.b, .int .i64 x8.1.to], Sl Ty.bool v1 x0, Sl Ty.bool v7 s6.1, Sl T_provisoref19_ins v8 s6.2.1] := st
            have su : SL w [] _ [Sl Ty.bool v1 x0, Sl Ty.bool v7 s6.1, Sl T_provisoref19_ins v8 s6.2.1] := st.drop
            refine Ar ⟨su, ?_⟩
            refine Be (i := 17) rfl (by kernel_rfl) ?_
            refine Bt F (Au (v := .bool x8.2) rfl rfl) rfl rfl rfl fun _ F => ?_
            have sv : SL w [] _ [Sl Ty.bool v1 x0, Sl Ty.bool v7 s6.1, Sl T_provisoref19_ins v8 s6.2.1] := st.drop
            refine Ar ⟨sv, ?_⟩
            refine Be (i := 20) rfl (by kernel_rfl) ?_
            refine Bt F (Al rfl) rfl rfl rfl fun _ F => ?_
            have sw : SL w [] _ [Sl Ty.bool v1 x0, Sl Ty.bool v7 s6.1, Sl T_provisoref19_ins v8 s6.2.1] := st.drop
            refine Ar ⟨sw, ?_⟩
            refine Ce (by kernel_rfl) ?_
            obtain rfl := An H
            refine Ac ?_
            exact ⟨g2, F.sub ⟨rfl, rfl, rfl, rfl, rfl, rfl, rfl, rfl, rfl, rfl, rfl, rfl, rfl, rfl, rfl, rfl, rfl, rfl, rfl, trivial⟩, st.f3.f3.f3⟩
           ·refine Bt F (Au (v := .bool x8.2) rfl rfl) rfl rfl rfl fun _ F => ?_
            have sx : SL w [] _ [Sl Ty.bool v1 x0, Sl Ty.bool v7 s6.1, Sl T_provisoref19_ins v8 s6.2.1] := sa
            refine Ar ⟨sx, ?_⟩
            refine Cl (rs := [16, 18]) (by kernel_rfl) (by decide) (Bs (Br rfl ?_) (Bs (Br rfl ?_) (Co)))
            ·refine Bt F (Au (v := .agg ⟨[.int .u8 (x8.1.op.toNat : Int), .int .i64 x8.1.a, .int .i64 x8.1.b, .int .i64 x8.1.to]⟩) rfl rfl) rfl rfl rfl fun _ F => ?_
             have sy : SL w [] _ [Sl Ty.bool v1 x0, Sl Ty.bool v7 s6.1, Sl T_provisoref19_ins v8 s6.2.1] := sa
             refine Ar ⟨sy, ?_⟩
             refine Be (i := 18) rfl (by kernel_rfl) ?_
             refine Bo F sa Fx.zero111 rfl rfl fun g3 wb _ F sz => ?_
             have s10 : SL w [] _ [Sl Ty.bool v1 x0, Sl Ty.bool v7 s6.1, Sl T_provisoref19_ins v8 s6.2.1] := sz.drop
             refine Ar ⟨s10, ?_⟩
             refine Be (i := 19) rfl (by kernel_rfl) ?_
             have s11 := sz
             refine As F s11 rfl rfl Fx.sz111 (Ae rfl (Ae rfl (Ae rfl (Ae rfl Ba)))) (Ag rfl) fun wc _ F s12 => ?_
             replace s12 : SL w [] wc [Blk g3 111 [.int .u8 (x8.1.op.toNat : Int), .int .i64 x8.1.a, .int .i64 x8.1.b, .int .i64 x8.1.to], Sl Ty.bool v1 x0, Sl Ty.bool v7 s6.1, Sl T_provisoref19_ins v8 s6.2.1] := s12
             have s13 : SL w [] _ [Sl Ty.bool v1 x0, Sl Ty.bool v7 s6.1, Sl T_provisoref19_ins v8 s6.2.1] := s12.drop
             refine Ar ⟨s13, ?_⟩
             refine Be (i := 20) rfl (by kernel_rfl) ?_
             refine Bt F (Al rfl) rfl rfl rfl fun _ F => ?_
             have s14 : SL w [] _ [Sl Ty.bool v1 x0, Sl Ty.bool v7 s6.1, Sl T_provisoref19_ins v8 s6.2.1] := s12.drop
             refine Ar ⟨s14, ?_⟩
             refine Ce (by kernel_rfl) ?_
             obtain rfl := An H
             refine Ac ?_
             exact ⟨g3, F.sub ⟨rfl, rfl, rfl, rfl, rfl, rfl, rfl, rfl, rfl, rfl, rfl, rfl, rfl, rfl, rfl, rfl, rfl, rfl, rfl, trivial⟩, s12.f3.f3.f3⟩
            refine Bo F sa Fx.zero111 rfl rfl fun g4 wd _ F s15 => ?_
            have s16 : SL w [] _ [Sl Ty.bool v1 x0, Sl Ty.bool v7 s6.1, Sl T_provisoref19_ins v8 s6.2.1] := s15.drop
            refine Ar ⟨s16, ?_⟩
            refine Be (i := 16) rfl (by kernel_rfl) ?_
            refine Bt F (Au (v := .agg ⟨[.int .u8 (x8.1.op.toNat : Int), .int .i64 x8.1.a, .int .i64 x8.1.b, .int .i64 x8.1.to]⟩) rfl rfl) rfl rfl rfl fun _ F => ?_
            have s17 : SL w [] _ [Sl Ty.bool v1 x0, Sl Ty.bool v7 s6.1, Sl T_provisoref19_ins v8 s6.2.1] := s15.drop
            refine Ar ⟨s17, ?_⟩
            refine Be (i := 19) rfl (by kernel_rfl) ?_
            have s18 := s15
            refine As F s18 rfl rfl Fx.sz111 (Ae rfl (Ae rfl (Ae rfl (Ae rfl Ba)))) (Ag rfl) fun we _ F s19 => ?_
            replace s19 : SL w [] we [Blk g4 111 [.int .u8 (x8.1.op.toNat : Int), .int .i64 x8.1.a, .int .i64 x8.1.b, .int .i64 x8.1.to], Sl Ty.bool v1 x0, Sl Ty.bool v7 s6.1, Sl T_provisoref19_ins v8 s6.2.1] := s19
            have s1a : SL w [] _ [Sl Ty.bool v1 x0, Sl Ty.bool v7 s6.1, Sl T_provisoref19_ins v8 s6.2.1] := s19.drop
            refine Ar ⟨s1a, ?_⟩
            refine Be (i := 20) rfl (by kernel_rfl) ?_
            refine Bt F (Al rfl) rfl rfl rfl fun _ F => ?_
            have s1b : SL w [] _ [Sl Ty.bool v1 x0, Sl Ty.bool v7 s6.1, Sl T_provisoref19_ins v8 s6.2.1] := s19.drop
            refine Ar ⟨s1b, ?_⟩
            refine Ce (by kernel_rfl) ?_
            obtain rfl := An H
            refine Ac ?_
            exact ⟨g4, F.sub ⟨rfl, rfl, rfl, rfl, rfl, rfl, rfl, rfl, rfl, rfl, rfl, rfl, rfl, rfl, rfl, rfl, rfl, rfl, rfl, trivial⟩, s19.f3.f3.f3⟩
           refine Bo F sa Fx.zero111 rfl rfl fun g5 wf _ F s1c => ?_
           have s1d : SL w [] _ [Sl Ty.bool v1 x0, Sl Ty.bool v7 s6.1, Sl T_provisoref19_ins v8 s6.2.1] := s1c.drop
           refine Ar ⟨s1d, ?_⟩
           refine Cl (rs := [16, 17]) (by kernel_rfl) (by decide) (Bs (Br rfl ?_) (Bs (Br rfl ?_) (Co)))
           ·refine Bt F (Au (v := .agg ⟨[.int .u8 (x8.1.op.toNat : Int), .int .i64 x8.1.a, .int .i64 x8.1.b, .int .i64 x8.1.to]⟩) rfl rfl) rfl rfl rfl fun _ F => ?_
            have s1e : SL w [] _ [Sl Ty.bool v1 x0, Sl Ty.bool v7 s6.1, Sl T_provisoref19_ins v8 s6.2.1] := s1c.drop
            refine Ar ⟨s1e, ?_⟩
            refine Cl (rs := [17, 19]) (by kernel_rfl) (by decide) (Bs (Br rfl ?_) (Bs (Br rfl ?_) (Co)))
            ·refine Bt F (Au (v := .bool x8.2) rfl rfl) rfl rfl rfl fun _ F => ?_
             have s1f : SL w [] _ [Sl Ty.bool v1 x0, Sl Ty.bool v7 s6.1, Sl T_provisoref19_ins v8 s6.2.1] := s1c.drop
             refine Ar ⟨s1f, ?_⟩
             refine Be (i := 19) rfl (by kernel_rfl) ?_
             have s1g := s1c
             refine As F s1g rfl rfl Fx.sz111 (Ae rfl (Ae rfl (Ae rfl (Ae rfl Ba)))) (Ag rfl) fun wg _ F s1h => ?_
             replace s1h : SL w [] wg [Blk g5 111 [.int .u8 (x8.1.op.toNat : Int), .int .i64 x8.1.a, .int .i64 x8.1.b, .int .i64 x8.1.to], Sl Ty.bool v1 x0, Sl Ty.bool v7 s6.1, Sl T_provisoref19_ins v8 s6.2.1] := s1h
             have s1i : SL w [] _ [Sl Ty.bool v1 x0, Sl Ty.bool v7 s6.1, Sl T_provisoref19_ins v8 s6.2.1] := s1h.drop
             refine Ar ⟨s1i, ?_⟩
             refine Be (i := 20) rfl (by kernel_rfl) ?_
             refine Bt F (Al rfl) rfl rfl rfl fun _ F => ?_
             have s1j : SL w [] _ [Sl Ty.bool v1 x0, Sl Ty.bool v7 s6.1, Sl T_provisoref19_ins v8 s6.2.1] := s1h.drop
             refine Ar ⟨s1j, ?_⟩
             refine Ce (by kernel_rfl) ?_
             obtain rfl := An H
             refine Ac ?_
             exact ⟨g5, F.sub ⟨rfl, rfl, rfl, rfl, rfl, rfl, rfl, rfl, rfl, rfl, rfl, rfl, rfl, rfl, rfl, rfl, rfl, rfl, rfl, trivial⟩, s1h.f3.f3.f3⟩
            have s1k := s1c
            refine As F s1k rfl rfl Fx.sz111 (Ae rfl (Ae rfl (Ae rfl (Ae rfl Ba)))) (Ag rfl) fun wh _ F s1l => ?_
            replace s1l : SL w [] wh [Blk g5 111 [.int .u8 (x8.1.op.toNat : Int), .int .i64 x8.1.a, .int .i64 x8.1.b, .int .i64 x8.1.to], Sl Ty.bool v1 x0, Sl Ty.bool v7 s6.1, Sl T_provisoref19_ins v8 s6.2.1] := s1l
            have s1m : SL w [] _ [Sl Ty.bool v1 x0, Sl Ty.bool v7 s6.1, Sl T_provisoref19_ins v8 s6.2.1] := s1l.drop
            refine Ar ⟨s1m, ?_⟩
            refine Be (i := 17) rfl (by kernel_rfl) ?_
            refine Bt F (Au (v := .bool x8.2) rfl rfl) rfl rfl rfl fun _ F => ?_
            have s1n : SL w [] _ [Sl Ty.bool v1 x0, Sl Ty.bool v7 s6.1, Sl T_provisoref19_ins v8 s6.2.1] := s1l.drop
            refine Ar ⟨s1n, ?_⟩
            refine Be (i := 20) rfl (by kernel_rfl) ?_
            refine Bt F (Al rfl) rfl rfl rfl fun _ F => ?_
            have s1o : SL w [] _ [Sl Ty.bool v1 x0, Sl Ty.bool v7 s6.1, Sl T_provisoref19_ins v8 s6.2.1] := s1l.drop
            refine Ar ⟨s1o, ?_⟩
            refine Ce (by kernel_rfl) ?_
            obtain rfl := An H
            refine Ac ?_
            exact ⟨g5, F.sub ⟨rfl, rfl, rfl, rfl, rfl, rfl, rfl, rfl, rfl, rfl, rfl, rfl, rfl, rfl, rfl, rfl, rfl, rfl, rfl, trivial⟩, s1l.f3.f3.f3⟩
           refine Bt F (Au (v := .bool x8.2) rfl rfl) rfl rfl rfl fun _ F => ?_
           have s1p : SL w [] _ [Sl Ty.bool v1 x0, Sl Ty.bool v7 s6.1, Sl T_provisoref19_ins v8 s6.2.1] := s1c.drop
           refine Ar ⟨s1p, ?_⟩
           refine Be (i := 16) rfl (by kernel_rfl) ?_
           refine Bt F (Au (v := .agg ⟨[.int .u8 (x8.1.op.toNat : Int), .int .i64 x8.1.a, .int .i64 x8.1.b, .int .i64 x8.1.to]⟩) rfl rfl) rfl rfl rfl fun _ F => ?_
           have s1q : SL w [] _ [Sl Ty.bool v1 x0, Sl Ty.bool v7 s6.1, Sl T_provisoref19_ins v8 s6.2.1] := s1c.drop
           refine Ar ⟨s1q, ?_⟩
           refine Be (i := 19) rfl (by kernel_rfl) ?_
           have s1r := s1c
           refine As F s1r rfl rfl Fx.sz111 (Ae rfl (Ae rfl (Ae rfl (Ae rfl Ba)))) (Ag rfl) fun wi _ F s1s => ?_
           replace s1s : SL w [] wi [Blk g5 111 [.int .u8 (x8.1.op.toNat : Int), .int .i64 x8.1.a, .int .i64 x8.1.b, .int .i64 x8.1.to], Sl Ty.bool v1 x0, Sl Ty.bool v7 s6.1, Sl T_provisoref19_ins v8 s6.2.1] := s1s
           have s1t : SL w [] _ [Sl Ty.bool v1 x0, Sl Ty.bool v7 s6.1, Sl T_provisoref19_ins v8 s6.2.1] := s1s.drop
           refine Ar ⟨s1t, ?_⟩
           refine Be (i := 20) rfl (by kernel_rfl) ?_
           refine Bt F (Al rfl) rfl rfl rfl fun _ F => ?_
           have s1u : SL w [] _ [Sl Ty.bool v1 x0, Sl Ty.bool v7 s6.1, Sl T_provisoref19_ins v8 s6.2.1] := s1s.drop
           refine Ar ⟨s1u, ?_⟩
           refine Ce (by kernel_rfl) ?_
           obtain rfl := An H
           refine Ac ?_
           exact ⟨g5, F.sub ⟨rfl, rfl, rfl, rfl, rfl, rfl, rfl, rfl, rfl, rfl, rfl, rfl, rfl, rfl, rfl, rfl, rfl, rfl, rfl, trivial⟩, s1s.f3.f3.f3⟩
          refine Bo F sa Fx.zero111 rfl rfl fun g6 wj _ F s1v => ?_
          have s1w : SL w [] _ [Sl Ty.bool v1 x0, Sl Ty.bool v7 s6.1, Sl T_provisoref19_ins v8 s6.2.1] := s1v.drop
          refine Ar ⟨s1w, ?_⟩
          refine Be (i := 15) rfl (by kernel_rfl) ?_
          refine Bt F (Af rfl) rfl rfl rfl fun _ F => ?_
          have s1x : SL w [] _ [Sl Ty.bool v1 x0, Sl Ty.bool v7 s6.1, Sl T_provisoref19_ins v8 s6.2.1] := s1v.drop
          refine Ar ⟨s1x, ?_⟩
          refine Cl (rs := [16, 17]) (by kernel_rfl) (by decide) (Bs (Br rfl ?_) (Bs (Br rfl ?_) (Co)))
          ·refine Bt F (Au (v := .agg ⟨[.int .u8 (x8.1.op.toNat : Int), .int .i64 x8.1.a, .int .i64 x8.1.b, .int .i64 x8.1.to]⟩) rfl rfl) rfl rfl rfl fun _ F => ?_
           have s1y : SL w [] _ [Sl Ty.bool v1 x0, Sl Ty.bool v7 s6.1, Sl T_provisoref19_ins v8 s6.2.1] := s1v.drop
           refine Ar ⟨s1y, ?_⟩
           refine Cl (rs := [17, 19]) (by kernel_rfl) (by decide) (Bs (Br rfl ?_) (Bs (Br rfl ?_) (Co)))
           ·refine Bt F (Au (v := .bool x8.2) rfl rfl) rfl rfl rfl fun _ F => ?_
            have s1z : SL w [] _ [Sl Ty.bool v1 x0, Sl Ty.bool v7 s6.1, Sl T_provisoref19_ins v8 s6.2.1] := s1v.drop
            refine Ar ⟨s1z, ?_⟩
            refine Be (i := 19) rfl (by kernel_rfl) ?_
            have s20 := s1v
            refine As F s20 rfl rfl Fx.sz111 (Ae rfl (Ae rfl (Ae rfl (Ae rfl Ba)))) (Ag rfl) fun wk _ F s21 => ?_
            replace s21 : SL w [] wk [Blk g6 111 [.int .u8 (x8.1.op.toNat : Int), .int .i64 x8.1.a, .int .i64 x8.1.b, .int .i64 x8.1.to], Sl Ty.bool v1 x0, Sl Ty.bool v7 s6.1, Sl T_provisoref19_ins v8 s6.2.1] := s21
            have s22 : SL w [] _ [Sl Ty.bool v1 x0, Sl Ty.bool v7 s6.1, Sl T_provisoref19_ins v8 s6.2.1] := s21.drop
            refine Ar ⟨s22, ?_⟩
            refine Be (i := 20) rfl (by kernel_rfl) ?_
            refine Bt F (Al rfl) rfl rfl rfl fun _ F => ?_
            have s23 : SL w [] _ [Sl Ty.bool v1 x0, Sl Ty.bool v7 s6.1, Sl T_provisoref19_ins v8 s6.2.1] := s21.drop
            refine Ar ⟨s23, ?_⟩
            refine Ce (by kernel_rfl) ?_
            obtain rfl := An H
            refine Ac ?_
            exact ⟨g6, F.sub ⟨rfl, rfl, rfl, rfl, rfl, rfl, rfl, rfl, rfl, rfl, rfl, rfl, rfl, rfl, rfl, rfl, rfl, rfl, rfl, trivial⟩, s21.f3.f3.f3⟩
           have s24 := s1v
           refine As F s24 rfl rfl Fx.sz111 (Ae rfl (Ae rfl (Ae rfl (Ae rfl Ba)))) (Ag rfl) fun wl _ F s25 => ?_
           replace s25 : SL w [] wl [Blk g6 111 [.int .u8 (x8.1.op.toNat : Int), .int .i64 x8.1.a, .int .i64 x8.1.b, .int .i64 x8.1.to], Sl Ty.bool v1 x0, Sl Ty.bool v7 s6.1, Sl T_provisoref19_ins v8 s6.2.1] := s25
           have s26 : SL w [] _ [Sl Ty.bool v1 x0, Sl Ty.bool v7 s6.1, Sl T_provisoref19_ins v8 s6.2.1] := s25.drop
           refine Ar ⟨s26, ?_⟩
           refine Be (i := 17) rfl (by kernel_rfl) ?_
           refine Bt F (Au (v := .bool x8.2) rfl rfl) rfl rfl rfl fun _ F => ?_
           have s27 : SL w [] _ [Sl Ty.bool v1 x0, Sl Ty.bool v7 s6.1, Sl T_provisoref19_ins v8 s6.2.1] := s25.drop
           refine Ar ⟨s27, ?_⟩
           refine Be (i := 20) rfl (by kernel_rfl) ?_
           refine Bt F (Al rfl) rfl rfl rfl fun _ F => ?_
           have s28 : SL w [] _ [Sl Ty.bool v1 x0, Sl Ty.bool v7 s6.1, Sl T_provisoref19_ins v8 s6.2.1] := s25.drop
           refine Ar ⟨s28, ?_⟩
           refine Ce (by kernel_rfl) ?_
           obtain rfl := An H
           refine Ac ?_
           exact ⟨g6, F.sub ⟨rfl, rfl, rfl, rfl, rfl, rfl, rfl, rfl, rfl, rfl, rfl, rfl, rfl, rfl, rfl, rfl, rfl, rfl, rfl, trivial⟩, s25.f3.f3.f3⟩
          refine Bt F (Au (v := .bool x8.2) rfl rfl) rfl rfl rfl fun _ F => ?_
          have s2a : SL w [] _ [Sl Ty.bool v1 x0, Sl Ty.bool v7 s6.1, Sl T_provisoref19_ins v8 s6.2.1] := s1v.drop
          refine Ar ⟨s2a, ?_⟩
          refine Be (i := 16) rfl (by kernel_rfl) ?_
          refine Bt F (Au (v := .agg ⟨[.int .u8 (x8.1.op.toNat : Int), .int .i64 x8.1.a, .int .i64 x8.1.b, .int .i64 x8.1.to]⟩) rfl rfl) rfl rfl rfl fun _ F => ?_
          have s2b : SL w [] _ [Sl Ty.bool v1 x0, Sl Ty.bool v7 s6.1, Sl T_provisoref19_ins v8 s6.2.1] := s1v.drop
          refine Ar ⟨s2b, ?_⟩
          refine Be (i := 19) rfl (by kernel_rfl) ?_
          have s2c := s1v
          refine As F s2c rfl rfl Fx.sz111 (Ae rfl (Ae rfl (Ae rfl (Ae rfl Ba)))) (Ag rfl) fun wm _ F s2d => ?_
          replace s2d : SL w [] wm [Blk g6 111 [.int .u8 (x8.1.op.toNat : Int), .int .i64 x8.1.a, .int .i64 x8.1.b, .int .i64 x8.1.to], Sl Ty.bool v1 x0, Sl Ty.bool v7 s6.1, Sl T_provisoref19_ins v8 s6.2.1] := s2d
          have s2e : SL w [] _ [Sl Ty.bool v1 x0, Sl Ty.bool v7 s6.1, Sl T_provisoref19_ins v8 s6.2.1] := s2d.drop
          refine Ar ⟨s2e, ?_⟩
          refine Be (i := 20) rfl (by kernel_rfl) ?_
          refine Bt F (Al rfl) rfl rfl rfl fun _ F => ?_
          have s2f : SL w [] _ [Sl Ty.bool v1 x0, Sl Ty.bool v7 s6.1, Sl T_provisoref19_ins v8 s6.2.1] := s2d.drop
          refine Ar ⟨s2f, ?_⟩
          refine Ce (by kernel_rfl) ?_
          obtain rfl := An H
          refine Ac ?_
          exact ⟨g6, F.sub ⟨rfl, rfl, rfl, rfl, rfl, rfl, rfl, rfl, rfl, rfl, rfl, rfl, rfl, rfl, rfl, rfl, rfl, rfl, rfl, trivial⟩, s2d.f3.f3.f3⟩
         refine Bo F s8 Fx.zero111 rfl rfl fun g7 wn _ F s2g => ?_
         have s2h : SL w [] _ [Sl Ty.bool v1 x0, Sl Ty.bool v7 s6.1, Sl T_provisoref19_ins v8 s6.2.1] := s2g.drop
         refine Ar ⟨s2h, ?_⟩
         refine Be (i := 14) rfl (by kernel_rfl) ?_
         refine Bk (args := [.tmp 50, .tmp 55, .tmp 60]) F Fx.fn66 rfl (provisoref19_three_c (a0 := x5) (a1 := x6) (a2 := x7)    hj) rfl fun vc wo _ ht F => ?_
         obtain ⟨rfl, hv⟩ := ht
         have s2i := s2g.add hv
         have s2j : SL w [] _ [Sl Ty.bool v1 x0, Sl Ty.bool v7 s6.1, Sl T_provisoref19_ins v8 s6.2.1] := s2i.drop
         refine Ar ⟨s2j, ?_⟩
         refine Be (i := 15) rfl (by kernel_rfl) ?_
         refine Bt F (Af rfl) rfl rfl rfl fun _ F => ?_
         have s2k : SL w [] _ [Sl Ty.bool v1 x0, Sl Ty.bool v7 s6.1, Sl T_provisoref19_ins v8 s6.2.1] := s2i.drop
         refine Ar ⟨s2k, ?_⟩
         refine Cl (rs := [16, 17]) (by kernel_rfl) (by decide) (Bs (Br rfl ?_) (Bs (Br rfl ?_) (Co)))
         ·refine Bt F (Au (v := .agg ⟨[.int .u8 (x8.1.op.toNat : Int), .int .i64 x8.1.a, .int .i64 x8.1.b, .int .i64 x8.1.to]⟩) rfl rfl) rfl rfl rfl fun _ F => ?_
          have s2l : SL w [] _ [Sl Ty.bool v1 x0, Sl Ty.bool v7 s6.1, Sl T_provisoref19_ins v8 s6.2.1] := s2i.drop
          refine Ar ⟨s2l, ?_⟩
          refine Cl (rs := [17, 19]) (by kernel_rfl) (by decide) (Bs (Br rfl ?_) (Bs (Br rfl ?_) (Co)))
          ·refine Bt F (Au (v := .bool x8.2) rfl rfl) rfl rfl rfl fun _ F => ?_
           have s2m : SL w [] _ [Sl Ty.bool v1 x0, Sl Ty.bool v7 s6.1, Sl T_provisoref19_ins v8 s6.2.1] := s2i.drop
           refine Ar ⟨s2m, ?_⟩
           refine Be (i := 19) rfl (by kernel_rfl) ?_
           have s2n := s2i
           refine As F s2n rfl rfl Fx.sz111 (Ae rfl (Ae rfl (Ae rfl (Ae rfl Ba)))) (Ag rfl) fun wp _ F s2o => ?_
           replace s2o : SL w [] wp [Blk g7 111 [.int .u8 (x8.1.op.toNat : Int), .int .i64 x8.1.a, .int .i64 x8.1.b, .int .i64 x8.1.to], Sl Ty.bool v1 x0, Sl Ty.bool v7 s6.1, Sl T_provisoref19_ins v8 s6.2.1] := s2o
           have s2p : SL w [] _ [Sl Ty.bool v1 x0, Sl Ty.bool v7 s6.1, Sl T_provisoref19_ins v8 s6.2.1] := s2o.drop
           refine Ar ⟨s2p, ?_⟩
           refine Be (i := 20) rfl (by kernel_rfl) ?_
           refine Bt F (Al rfl) rfl rfl rfl fun _ F => ?_
           have s2q : SL w [] _ [Sl Ty.bool v1 x0, Sl Ty.bool v7 s6.1, Sl T_provisoref19_ins v8 s6.2.1] := s2o.drop
           refine Ar ⟨s2q, ?_⟩
           refine Ce (by kernel_rfl) ?_
           obtain rfl := An H
           refine Ac ?_
           exact ⟨g7, F.sub ⟨rfl, rfl, rfl, rfl, rfl, rfl, rfl, rfl, rfl, rfl, rfl, rfl, rfl, rfl, rfl, rfl, rfl, rfl, rfl, trivial⟩, s2o.f3.f3.f3⟩
          have s2r := s2i
          refine As F s2r rfl rfl Fx.sz111 (Ae rfl (Ae rfl (Ae rfl (Ae rfl Ba)))) (Ag rfl) fun wq _ F s2s => ?_
          replace s2s : SL w [] wq [Blk g7 111 [.int .u8 (x8.1.op.toNat : Int), .int .i64 x8.1.a, .int .i64 x8.1.b, .int .i64 x8.1.to], Sl Ty.bool v1 x0, Sl Ty.bool v7 s6.1, Sl T_provisoref19_ins v8 s6.2.1] := s2s
          have s2t : SL w [] _ [Sl Ty.bool v1 x0, Sl Ty.bool v7 s6.1, Sl T_provisoref19_ins v8 s6.2.1] := s2s.drop
          refine Ar ⟨s2t, ?_⟩
          refine Be (i := 17) rfl (by kernel_rfl) ?_
          refine Bt F (Au (v := .bool x8.2) rfl rfl) rfl rfl rfl fun _ F => ?_
          have s2u : SL w [] _ [Sl Ty.bool v1 x0, Sl Ty.bool v7 s6.1, Sl T_provisoref19_ins v8 s6.2.1] := s2s.drop
          refine Ar ⟨s2u, ?_⟩
          refine Be (i := 20) rfl (by kernel_rfl) ?_
          refine Bt F (Al rfl) rfl rfl rfl fun _ F => ?_
          have s2v : SL w [] _ [Sl Ty.bool v1 x0, Sl Ty.bool v7 s6.1, Sl T_provisoref19_ins v8 s6.2.1] := s2s.drop
          refine Ar ⟨s2v, ?_⟩
          refine Ce (by kernel_rfl) ?_
          obtain rfl := An H
          refine Ac ?_
          exact ⟨g7, F.sub ⟨rfl, rfl, rfl, rfl, rfl, rfl, rfl, rfl, rfl, rfl, rfl, rfl, rfl, rfl, rfl, rfl, rfl, rfl, rfl, trivial⟩, s2s.f3.f3.f3⟩
         refine Bt F (Au (v := .bool x8.2) rfl rfl) rfl rfl rfl fun _ F => ?_
         have s2w : SL w [] _ [Sl Ty.bool v1 x0, Sl Ty.bool v7 s6.1, Sl T_provisoref19_ins v8 s6.2.1] := s2i.drop
         refine Ar ⟨s2w, ?_⟩
         refine Be (i := 16) rfl (by kernel_rfl) ?_
         refine Bt F (Au (v := .agg ⟨[.int .u8 (x8.1.op.toNat : Int), .int .i64 x8.1.a, .int .i64 x8.1.b, .int .i64 x8.1.to]⟩) rfl rfl) rfl rfl rfl fun _ F => ?_
         have s2x : SL w [] _ [Sl Ty.bool v1 x0, Sl Ty.bool v7 s6.1, Sl T_provisoref19_ins v8 s6.2.1] := s2i.drop
         refine Ar ⟨s2x, ?_⟩
         refine Be (i := 19) rfl (by kernel_rfl) ?_
         have s2y := s2i
         refine As F s2y rfl rfl Fx.sz111 (Ae rfl (Ae rfl (Ae rfl (Ae rfl Ba)))) (Ag rfl) fun ws _ F s2z => ?_
         replace s2z : SL w [] ws [Blk g7 111 [.int .u8 (x8.1.op.toNat : Int), .int .i64 x8.1.a, .int .i64 x8.1.b, .int .i64 x8.1.to], Sl Ty.bool v1 x0, Sl Ty.bool v7 s6.1, Sl T_provisoref19_ins v8 s6.2.1] := s2z
         have s30 : SL w [] _ [Sl Ty.bool v1 x0, Sl Ty.bool v7 s6.1, Sl T_provisoref19_ins v8 s6.2.1] := s2z.drop
         refine Ar ⟨s30, ?_⟩
         refine Be (i := 20) rfl (by kernel_rfl) ?_
         refine Bt F (Al rfl) rfl rfl rfl fun _ F => ?_
         have s31 : SL w [] _ [Sl Ty.bool v1 x0, Sl Ty.bool v7 s6.1, Sl T_provisoref19_ins v8 s6.2.1] := s2z.drop
         refine Ar ⟨s31, ?_⟩
         refine Ce (by kernel_rfl) ?_
         obtain rfl := An H
         refine Ac ?_
         exact ⟨g7, F.sub ⟨rfl, rfl, rfl, rfl, rfl, rfl, rfl, rfl, rfl, rfl, rfl, rfl, rfl, rfl, rfl, rfl, rfl, rfl, rfl, trivial⟩, s2z.f3.f3.f3⟩
        intro _ wt hJ
        obtain ⟨g0, F, s32⟩ := hJ
        have H := R3
        clear R3 H3
        refine Ac <| Ah <| Ak <| Aj F (Aa (Af rfl) <| Ad) fun _ F => Ai <| Ac <| Bm F rfl (fun hw => ?_) (fun hw => ?_)
        ·replace H := Bb hw H
         refine Ah <| Ak ?_
         obtain ⟨x9, hx, H⟩ := Ap H
         obtain ⟨a8, hy, hz⟩ := Ch F_provisoref19_ins s32 (.tail _ <| .tail _ <| .head _) Fx.sl86 rfl hx
         refine Aj F (Aa (Af rfl) <| Aa (Af rfl) <| Aa (Bj Fx.agg111 rfl (s32.blk_cells (.tail _ <| .tail _ <| .tail _ <| .head _) (o := 0) (ds := [.int .u8 (o4.1.toNat : Int), .int .i64 o4.2.1, .int .i64 o4.2.2.1, .int .i64 o4.2.2.2.1]) (fun j u hu => by rw [Nat.zero_add]; exact hu)) rfl) <| Aa (hy _ _ _ _ _ _ _ _ _ _ rfl rfl) <| Ad) fun _ F => ?_
         refine Cx (y' := (⟨o4.1, o4.2.1, o4.2.2.1, o4.2.2.2.1⟩ : S_provisoref19_ins)) F_provisoref19_ins F s32.f2 hz hx rfl rfl (by rfl) Fx.sz111 fun wu _ F s33 => ?_
         refine Ai <| Ac <| Ah <| Ak ?_
         obtain ⟨xa, h10, H⟩ := Ap H
         obtain ⟨a9, h11, h12⟩ := Ch Flat.bool s33 (.tail _ <| .tail _ <| .head _) Fx.sl99 rfl h10
         refine Aj F (Aa (Af rfl) <| Aa (Af rfl) <| Aa (Bq rfl rfl) <| Aa (Af rfl) <| Aa (Af rfl) <| Aa (Bq rfl rfl) <| Aa (h11 _ _ _ _ _ _ _ _ _ _ rfl rfl) <| Ad) fun _ F => ?_
         refine Cx (y' := true) Flat.bool F s33.f2 h12 h10 rfl rfl (by rfl) Fx.sz4 fun wv _ F s34 => ?_
         obtain ⟨xb, h13, H⟩ := Ap H
         obtain ⟨aa, h14, h15⟩ := Ch Flat.bool s34 (.head _) Fx.sl99 rfl h13
         refine Aj F (Aa (h14 _ _ _ _ _ _ _ _ _ _ rfl rfl) <| Ad) fun _ F => ?_
         refine Cx (y' := true) Flat.bool F s34 h15 h13 rfl rfl (by rfl) Fx.sz4 fun ww _ F s35 => ?_
         refine Ai <| Ac <| Ah <| Ak <| Aj F (Aa (Af rfl) <| Aa (Bq rfl rfl) <| Aa (Al rfl) <| Ad) fun _ F => Ai <| Ac <| Ca <| Bp <| Bp <| Cb ?_
         obtain rfl := An H
         replace H := R2
         try dsimp only at H
         obtain rfl := An H
         refine Ac ?_
         exact ⟨v7, v8, F.sub ⟨rfl, rfl, rfl, rfl, rfl, trivial⟩, s35.f3.drop.f1.f1.f2⟩
        replace H := Bc hw H
        refine Aw ?_
        obtain rfl := An H
        refine Ac ?_
        exact ⟨_, rfl, F.sub ⟨rfl, rfl, rfl, rfl, rfl, trivial⟩, s32.f3.drop⟩
       replace H := Bc hf H
       refine Aw ?_
       obtain rfl := An H
       refine Ac ?_
       exact ⟨_, rfl, F.sub ⟨rfl, rfl, rfl, rfl, rfl, trivial⟩, s7⟩
      replace H := Bc hb H
      refine Ao F rfl rfl (Am rfl hb) Ab rfl rfl fun _ F => Ao F rfl rfl (Am rfl hb) Ab rfl rfl fun _ F => Ao F rfl rfl (Am rfl hb) Ab rfl rfl fun _ F => Ao F rfl rfl (Am rfl hb) Ab rfl rfl fun _ F => Ao F rfl rfl (Am rfl hb) Ab rfl rfl fun _ F => Ao F rfl rfl (Am rfl hb) Ab rfl rfl fun _ F => Aj F (Aa (Bi (By rfl hb) rfl) <| Ad) fun _ F => Ai <| Ac <| Cm F rfl <| Aw ?_
      obtain rfl := An H
      refine Ac ?_
      exact ⟨_, rfl, F.sub ⟨rfl, rfl, rfl, rfl, rfl, trivial⟩, s7⟩
     replace H := Bc h7 H
     refine Ao F rfl rfl (Am rfl h7) Ab rfl rfl fun _ F => Ao F rfl rfl (Am rfl h7) Ab rfl rfl fun _ F => Ao F rfl rfl (Am rfl h7) Ab rfl rfl fun _ F => Ao F rfl rfl (Am rfl h7) Ab rfl rfl fun _ F => Ao F rfl rfl (Am rfl h7) Ab rfl rfl fun _ F => Ao F rfl rfl (Am rfl h7) Ab rfl rfl fun _ F => Aj F (Aa (Bi (By rfl h7) rfl) <| Aa (Af rfl) <| Ad) fun _ F => Ao F rfl rfl rfl Ab rfl rfl fun _ F => Ao F rfl rfl rfl Ab rfl rfl fun _ F => Ao F rfl rfl rfl Ab rfl rfl fun _ F => Ao F rfl rfl rfl Ab rfl rfl fun _ F => Ao F rfl rfl rfl Ab rfl rfl fun _ F => Ao F rfl rfl rfl Ab rfl rfl fun _ F => Aj F (Aa (Bi rfl rfl) <| Ad) fun _ F => Ai <| Ac <| Cm F rfl <| Aw ?_
     obtain rfl := An H
     refine Ac ?_
     exact ⟨_, rfl, F.sub ⟨rfl, rfl, rfl, rfl, rfl, trivial⟩, s7⟩
    intro _ wx hJ
    obtain ⟨p0, rfl, F, s36⟩ := hJ
    have H := R2
    clear R2 H2
    try dsimp only at H
    refine Ac <| Ah <| Ak <| Aj F (Aa (Af rfl) <| Aa (Bq rfl rfl) <| Aa (Af rfl) <| Aa (Cc rfl Tryz.underlying86 (Bu (Cv hr0 s36))) <| Aa (Cr rfl rfl) <| Aa (Af rfl) <| Ad) fun _ F => Bl (decide ((wr (s6.2.2 + 1)) < (a0.length : Int))) (fun h16 => ?_) (fun h16 => ?_)
    ·replace H := Bb h16 H
     refine Aq F rfl rfl (Am rfl h16) (Af rfl) rfl rfl fun _ F => Aq F rfl rfl (Am rfl h16) (Af rfl) rfl rfl fun _ F => Aq F rfl rfl (Am rfl h16) (Bq rfl rfl) rfl rfl fun _ F => ?_
     obtain ⟨xc, h17, H⟩ := Ap H
     obtain ⟨ab, h18, h19⟩ := Ch Flat.bool s36 (.head _) Fx.sl99 rfl h17
     refine Aq F rfl rfl (Am rfl h16) (h18 _ _ _ _ _ _ _ _ _ _ rfl rfl) rfl rfl fun _ F => Aq F rfl rfl (Am rfl h16) (Az Fx.nag4 rfl (Cells.at_ (SL.elcells Flat.bool s36 (.head _) h19 h17) (o := 0) rfl)) rfl rfl fun _ F => Aq F rfl rfl (Am rfl h16) (Da rfl) rfl rfl fun _ F => Aj F (Aa (Bf (By rfl h16) rfl) <| Ad) fun _ F => Ai <| Ac <| Bm F rfl (fun h1a => ?_) (fun h1a => ?_)
     ·replace H := Bb h1a H
      refine Ah ?_
      obtain ⟨o5, H4, R4⟩ := Ap H
      clear H
      refine Bx (fun a w_ => ∃ g8 : Nat, Fr a 125 [(0, v0), (3, v1), (4, v7), (5, v8), (6, .int .i64 s6.2.2), (9, .pointer (some ⟨g8, 0, none⟩)), (10, .bool o5.2.2.2.2), (85, v1), (86, .int .i64 s6.2.2), (87, .int .i64 (wr (s6.2.2 + 1))), (88, .pointer (some ab)), (89, .bool xc), (90, .bool (!xc))] ∧ SL w [] w_ [Sl Ty.bool v1 x0, Sl Ty.bool v7 s6.1, Sl T_provisoref19_ins v8 s6.2.1, Blk g8 111 [.int .u8 (o5.1.toNat : Int), .int .i64 o5.2.1, .int .i64 o5.2.2.1, .int .i64 o5.2.2.2.1]]) ?_ ?_
      ·have H := H4
       obtain ⟨xd, h1b, H⟩ := Ap H
       obtain ⟨xe, h1c, H⟩ := Ap H
       obtain ⟨xf, h1d, H⟩ := Ap H
       refine Dj Fx.mixed (fun w_ => SL w [] w_ [Sl Ty.bool v1 x0, Sl Ty.bool v7 s6.1, Sl T_provisoref19_ins v8 s6.2.1]) ?_
       have s37 := s36.drew
       have s38 : SL w [] _ [Sl Ty.bool v1 x0, Sl Ty.bool v7 s6.1, Sl T_provisoref19_ins v8 s6.2.1] := s37
       refine Bv (i := 0) rfl (by kernel_rfl) (by kernel_rfl) (by kernel_rfl) (fun _ hC => Af rfl) rfl rfl rfl F s38 fun _ F => ?_
       refine Bv (i := 1) rfl (by kernel_rfl) (by kernel_rfl) (by kernel_rfl) (fun _ hC => Af rfl) rfl rfl rfl F s38 fun _ F => ?_
       obtain ⟨ac, h1e, h1f⟩ := idxC (C := fun w_ => SL w [] w_ [Sl Ty.bool v1 x0, Sl Ty.bool v7 s6.1, Sl T_provisoref19_ins v8 s6.2.1]) F_provisoref19_ins (fun _ hC => (Cv hr0 hC)) s38 Fx.sl86 rfl h1b
       refine Bv (i := 2) rfl (by kernel_rfl) (by kernel_rfl) (by kernel_rfl) (fun _ hC => h1e _ _ _ _ _ _ _ _ _ _ rfl rfl) rfl rfl rfl F s38 fun _ F => ?_
       refine Bv (i := 3) rfl (by kernel_rfl) (by kernel_rfl) (by kernel_rfl) (fun _ hC => Bj Fx.agg111 rfl (h1f _ hC) rfl) rfl rfl rfl F s38 fun _ F => ?_
       refine Bv (i := 4) rfl (by kernel_rfl) (by kernel_rfl) (by kernel_rfl) (fun _ hC => Af rfl) rfl rfl rfl F s38 fun _ F => ?_
       refine Bv (i := 5) rfl (by kernel_rfl) (by kernel_rfl) (by kernel_rfl) (fun _ hC => Af rfl) rfl rfl rfl F s38 fun _ F => ?_
       refine Bv (i := 6) rfl (by kernel_rfl) (by kernel_rfl) (by kernel_rfl) (fun _ hC => Bq rfl rfl) rfl rfl rfl F s38 fun _ F => ?_
       obtain ⟨ad, h1g, h1h⟩ := idxC (C := fun w_ => SL w [] w_ [Sl Ty.bool v1 x0, Sl Ty.bool v7 s6.1, Sl T_provisoref19_ins v8 s6.2.1]) F_provisoref19_ins (fun _ hC => (Cv hr0 hC)) s38 Fx.sl86 rfl h1c
       refine Bv (i := 7) rfl (by kernel_rfl) (by kernel_rfl) (by kernel_rfl) (fun _ hC => h1g _ _ _ _ _ _ _ _ _ _ rfl rfl) rfl rfl rfl F s38 fun _ F => ?_
       refine Bv (i := 8) rfl (by kernel_rfl) (by kernel_rfl) (by kernel_rfl) (fun _ hC => Bj Fx.agg111 rfl (h1h _ hC) rfl) rfl rfl rfl F s38 fun _ F => ?_
       refine Cl (rs := [9, 13]) (by kernel_rfl) (by decide) (Bs (Br rfl ?_) (Bs (Br rfl ?_) (Co)))
       ·refine Bk (args := [.tmp 96, .tmp 101]) F Fx.fn67 rfl (provisoref19_two_c (a0 := xd) (a1 := xe)    h1d) rfl fun vd wy _ h1i F => ?_
        obtain ⟨rfl, h1j⟩ := h1i
        have s39 := s37.add h1j
        have s3a : SL w [] _ [Sl Ty.bool v1 x0, Sl Ty.bool v7 s6.1, Sl T_provisoref19_ins v8 s6.2.1] := s39
        refine Ar ⟨s3a, ?_⟩
        refine Cl (rs := [10, 13]) (by kernel_rfl) (by decide) (Bs (Br rfl ?_) (Bs (Br rfl ?_) (Co)))
        ·refine Bt F (Af rfl) rfl rfl rfl fun _ F => ?_
         have s3b : SL w [] _ [Sl Ty.bool v1 x0, Sl Ty.bool v7 s6.1, Sl T_provisoref19_ins v8 s6.2.1] := s39
         refine Ar ⟨s3b, ?_⟩
         refine Cl (rs := [11, 12, 13]) (by kernel_rfl) (by decide) (Bs (Br rfl ?_) (Bs (Br rfl ?_) (Bs (Br rfl ?_) (Co))))
         ·refine Bt F (Au (v := .agg ⟨[.int .u8 (xf.1.op.toNat : Int), .int .i64 xf.1.a, .int .i64 xf.1.b, .int .i64 xf.1.to]⟩) rfl rfl) rfl rfl rfl fun _ F => ?_
          have s3c : SL w [] _ [Sl Ty.bool v1 x0, Sl Ty.bool v7 s6.1, Sl T_provisoref19_ins v8 s6.2.1] := s39
          refine Ar ⟨s3c, ?_⟩
          refine Cl (rs := [12, 13]) (by kernel_rfl) (by decide) (Bs (Br rfl ?_) (Bs (Br rfl ?_) (Co)))
          ·refine Bt F (Au (v := .bool xf.2) rfl rfl) rfl rfl rfl fun _ F => ?_
           have s3d : SL w [] _ [Sl Ty.bool v1 x0, Sl Ty.bool v7 s6.1, Sl T_provisoref19_ins v8 s6.2.1] := s39
           refine Ar ⟨s3d, ?_⟩
           refine Be (i := 13) rfl (by kernel_rfl) ?_
           refine Bo F s39 Fx.zero111 rfl rfl fun g9 wz _ F s3e => ?_
           have s3f : SL w [] _ [Sl Ty.bool v1 x0, Sl Ty.bool v7 s6.1, Sl T_provisoref19_ins v8 s6.2.1] := s3e.drop
           refine Ar ⟨s3f, ?_⟩
           refine Be (i := 14) rfl (by kernel_rfl) ?_
           have s3g := s3e
           refine As F s3g rfl rfl Fx.sz111 (Ae rfl (Ae rfl (Ae rfl (Ae rfl Ba)))) (Ag rfl) fun w10 _ F s3h => ?_
           replace s3h : SL w [] w10 [Blk g9 111 [.int .u8 (xf.1.op.toNat : Int), .int .i64 xf.1.a, .int .i64 xf.1.b, .int .i64 xf.1.to], Sl Ty.bool v1 x0, Sl Ty.bool v7 s6.1, Sl T_provisoref19_ins v8 s6.2.1] := s3h
           have s3i : SL w [] _ [Sl Ty.bool v1 x0, Sl Ty.bool v7 s6.1, Sl T_provisoref19_ins v8 s6.2.1] := s3h.drop
           refine Ar ⟨s3i, ?_⟩
           refine Be (i := 15) rfl (by kernel_rfl) ?_
           refine Bt F (Al rfl) rfl rfl rfl fun _ F => ?_
           have s3j : SL w [] _ [Sl Ty.bool v1 x0, Sl Ty.bool v7 s6.1, Sl T_provisoref19_ins v8 s6.2.1] := s3h.drop
           refine Ar ⟨s3j, ?_⟩
           refine Ce (by kernel_rfl) ?_
           obtain rfl := An H
           refine Ac ?_
           exact ⟨g9, F.sub ⟨rfl, rfl, rfl, rfl, rfl, rfl, rfl, rfl, rfl, rfl, rfl, rfl, rfl, trivial⟩, s3h.f3.f3.f3⟩
          refine Bo F s39 Fx.zero111 rfl rfl fun ga w11 _ F s3k => ?_
          have s3l : SL w [] _ [Sl Ty.bool v1 x0, Sl Ty.bool v7 s6.1, Sl T_provisoref19_ins v8 s6.2.1] := s3k.drop
          refine Ar ⟨s3l, ?_⟩
          refine Cl (rs := [12, 14]) (by kernel_rfl) (by decide) (Bs (Br rfl ?_) (Bs (Br rfl ?_) (Co)))
          ·refine Bt F (Au (v := .bool xf.2) rfl rfl) rfl rfl rfl fun _ F => ?_
           have s3m : SL w [] _ [Sl Ty.bool v1 x0, Sl Ty.bool v7 s6.1, Sl T_provisoref19_ins v8 s6.2.1] := s3k.drop
           refine Ar ⟨s3m, ?_⟩
           refine Be (i := 14) rfl (by kernel_rfl) ?_
           have s3n := s3k
           refine As F s3n rfl rfl Fx.sz111 (Ae rfl (Ae rfl (Ae rfl (Ae rfl Ba)))) (Ag rfl) fun w12 _ F s3o => ?_
           replace s3o : SL w [] w12 [Blk ga 111 [.int .u8 (xf.1.op.toNat : Int), .int .i64 xf.1.a, .int .i64 xf.1.b, .int .i64 xf.1.to], Sl Ty.bool v1 x0, Sl Ty.bool v7 s6.1, Sl T_provisoref19_ins v8 s6.2.1] := s3o
           have s3p : SL w [] _ [Sl Ty.bool v1 x0, Sl Ty.bool v7 s6.1, Sl T_provisoref19_ins v8 s6.2.1] := s3o.drop
           refine Ar ⟨s3p, ?_⟩
           refine Be (i := 15) rfl (by kernel_rfl) ?_
           refine Bt F (Al rfl) rfl rfl rfl fun _ F => ?_
           have s3q : SL w [] _ [Sl Ty.bool v1 x0, Sl Ty.bool v7 s6.1, Sl T_provisoref19_ins v8 s6.2.1] := s3o.drop
           refine Ar ⟨s3q, ?_⟩
           refine Ce (by kernel_rfl) ?_
           obtain rfl := An H
           refine Ac ?_
           exact ⟨ga, F.sub ⟨rfl, rfl, rfl, rfl, rfl, rfl, rfl, rfl, rfl, rfl, rfl, rfl, rfl, trivial⟩, s3o.f3.f3.f3⟩
          have s3r := s3k
          refine As F s3r rfl rfl Fx.sz111 (Ae rfl (Ae rfl (Ae rfl (Ae rfl Ba)))) (Ag rfl) fun w13 _ F s3s => ?_
          replace s3s : SL w [] w13 [Blk ga 111 [.int .u8 (xf.1.op.toNat : Int), .int .i64 xf.1.a, .int .i64 xf.1.b, .int .i64 xf.1.to], Sl Ty.bool v1 x0, Sl Ty.bool v7 s6.1, Sl T_provisoref19_ins v8 s6.2.1] := s3s
          have s3t : SL w [] _ [Sl Ty.bool v1 x0, Sl Ty.bool v7 s6.1, Sl T_provisoref19_ins v8 s6.2.1] := s3s.drop
          refine Ar ⟨s3t, ?_⟩
          refine Be (i := 12) rfl (by kernel_rfl) ?_
          refine Bt F (Au (v := .bool xf.2) rfl rfl) rfl rfl rfl fun _ F => ?_
          have s3u : SL w [] _ [Sl Ty.bool v1 x0, Sl Ty.bool v7 s6.1, Sl T_provisoref19_ins v8 s6.2.1] := s3s.drop
          refine Ar ⟨s3u, ?_⟩
          refine Be (i := 15) rfl (by kernel_rfl) ?_
          refine Bt F (Al rfl) rfl rfl rfl fun _ F => ?_
          have s3v : SL w [] _ [Sl Ty.bool v1 x0, Sl Ty.bool v7 s6.1, Sl T_provisoref19_ins v8 s6.2.1] := s3s.drop
          refine Ar ⟨s3v, ?_⟩
          refine Ce (by kernel_rfl) ?_
          obtain rfl := An H
          refine Ac ?_
          exact ⟨ga, F.sub ⟨rfl, rfl, rfl, rfl, rfl, rfl, rfl, rfl, rfl, rfl, rfl, rfl, rfl, trivial⟩, s3s.f3.f3.f3⟩
         ·refine Bt F (Au (v := .bool xf.2) rfl rfl) rfl rfl rfl fun _ F => ?_
          have s3w : SL w [] _ [Sl Ty.bool v1 x0, Sl Ty.bool v7 s6.1, Sl T_provisoref19_ins v8 s6.2.1] := s39
          refine Ar ⟨s3w, ?_⟩
          refine Cl (rs := [11, 13]) (by kernel_rfl) (by decide) (Bs (Br rfl ?_) (Bs (Br rfl ?_) (Co)))
          ·refine Bt F (Au (v := .agg ⟨[.int .u8 (xf.1.op.toNat : Int), .int .i64 xf.1.a, .int .i64 xf.1.b, .int .i64 xf.1.to]⟩) rfl rfl) rfl rfl rfl fun _ F => ?_
           have s3x : SL w [] _ [Sl Ty.bool v1 x0, Sl Ty.bool v7 s6.1, Sl T_provisoref19_ins v8 s6.2.1] := s39
           refine Ar ⟨s3x, ?_⟩
           refine Be (i := 13) rfl (by kernel_rfl) ?_
           refine Bo F s39 Fx.zero111 rfl rfl fun gb w14 _ F s3y => ?_
           have s3z : SL w [] _ [Sl Ty.bool v1 x0, Sl Ty.bool v7 s6.1, Sl T_provisoref19_ins v8 s6.2.1] := s3y.drop
           refine Ar ⟨s3z, ?_⟩
           refine Be (i := 14) rfl (by kernel_rfl) ?_
           have s40 := s3y
           refine As F s40 rfl rfl Fx.sz111 (Ae rfl (Ae rfl (Ae rfl (Ae rfl Ba)))) (Ag rfl) fun w15 _ F s41 => ?_
           replace s41 : SL w [] w15 [Blk gb 111 [.int .u8 (xf.1.op.toNat : Int), .int .i64 xf.1.a, .int .i64 xf.1.b, .int .i64 xf.1.to], Sl Ty.bool v1 x0, Sl Ty.bool v7 s6.1, Sl T_provisoref19_ins v8 s6.2.1] := s41
           have s42 : SL w [] _ [Sl Ty.bool v1 x0, Sl Ty.bool v7 s6.1, Sl T_provisoref19_ins v8 s6.2.1] := s41.drop
           refine Ar ⟨s42, ?_⟩
           refine Be (i := 15) rfl (by kernel_rfl) ?_
           refine Bt F (Al rfl) rfl rfl rfl fun _ F => ?_
           have s43 : SL w [] _ [Sl Ty.bool v1 x0, Sl Ty.bool v7 s6.1, Sl T_provisoref19_ins v8 s6.2.1] := s41.drop
           refine Ar ⟨s43, ?_⟩
           refine Ce (by kernel_rfl) ?_
           obtain rfl := An H
           refine Ac ?_
           exact ⟨gb, F.sub ⟨rfl, rfl, rfl, rfl, rfl, rfl, rfl, rfl, rfl, rfl, rfl, rfl, rfl, trivial⟩, s41.f3.f3.f3⟩
          refine Bo F s39 Fx.zero111 rfl rfl fun gc w16 _ F s44 => ?_
          have s45 : SL w [] _ [Sl Ty.bool v1 x0, Sl Ty.bool v7 s6.1, Sl T_provisoref19_ins v8 s6.2.1] := s44.drop
          refine Ar ⟨s45, ?_⟩
          refine Be (i := 11) rfl (by kernel_rfl) ?_
          refine Bt F (Au (v := .agg ⟨[.int .u8 (xf.1.op.toNat : Int), .int .i64 xf.1.a, .int .i64 xf.1.b, .int .i64 xf.1.to]⟩) rfl rfl) rfl rfl rfl fun _ F => ?_
          have s46 : SL w [] _ [Sl Ty.bool v1 x0, Sl Ty.bool v7 s6.1, Sl T_provisoref19_ins v8 s6.2.1] := s44.drop
          refine Ar ⟨s46, ?_⟩
          refine Be (i := 14) rfl (by kernel_rfl) ?_
          have s47 := s44
          refine As F s47 rfl rfl Fx.sz111 (Ae rfl (Ae rfl (Ae rfl (Ae rfl Ba)))) (Ag rfl) fun w17 _ F s48 => ?_
          replace s48 : SL w [] w17 [Blk gc 111 [.int .u8 (xf.1.op.toNat : Int), .int .i64 xf.1.a, .int .i64 xf.1.b, .int .i64 xf.1.to], Sl Ty.bool v1 x0, Sl Ty.bool v7 s6.1, Sl T_provisoref19_ins v8 s6.2.1] := s48
          have s49 : SL w [] _ [Sl Ty.bool v1 x0, Sl Ty.bool v7 s6.1, Sl T_provisoref19_ins v8 s6.2.1] := s48.drop
          refine Ar ⟨s49, ?_⟩
          refine Be (i := 15) rfl (by kernel_rfl) ?_
          refine Bt F (Al rfl) rfl rfl rfl fun _ F => ?_
          have s4a : SL w [] _ [Sl Ty.bool v1 x0, Sl Ty.bool v7 s6.1, Sl T_provisoref19_ins v8 s6.2.1] := s48.drop
          refine Ar ⟨s4a, ?_⟩
          refine Ce (by kernel_rfl) ?_
          obtain rfl := An H
          refine Ac ?_
          exact ⟨gc, F.sub ⟨rfl, rfl, rfl, rfl, rfl, rfl, rfl, rfl, rfl, rfl, rfl, rfl, rfl, trivial⟩, s48.f3.f3.f3⟩
         refine Bo F s39 Fx.zero111 rfl rfl fun gd w18 _ F s4b => ?_
         have s4c : SL w [] _ [Sl Ty.bool v1 x0, Sl Ty.bool v7 s6.1, Sl T_provisoref19_ins v8 s6.2.1] := s4b.drop
         refine Ar ⟨s4c, ?_⟩
         refine Cl (rs := [11, 12]) (by kernel_rfl) (by decide) (Bs (Br rfl ?_) (Bs (Br rfl ?_) (Co)))
         ·refine Bt F (Au (v := .agg ⟨[.int .u8 (xf.1.op.toNat : Int), .int .i64 xf.1.a, .int .i64 xf.1.b, .int .i64 xf.1.to]⟩) rfl rfl) rfl rfl rfl fun _ F => ?_
          have s4d : SL w [] _ [Sl Ty.bool v1 x0, Sl Ty.bool v7 s6.1, Sl T_provisoref19_ins v8 s6.2.1] := s4b.drop
          refine Ar ⟨s4d, ?_⟩
          refine Cl (rs := [12, 14]) (by kernel_rfl) (by decide) (Bs (Br rfl ?_) (Bs (Br rfl ?_) (Co)))
          ·refine Bt F (Au (v := .bool xf.2) rfl rfl) rfl rfl rfl fun _ F => ?_
           have s4e : SL w [] _ [Sl Ty.bool v1 x0, Sl Ty.bool v7 s6.1, Sl T_provisoref19_ins v8 s6.2.1] := s4b.drop
           refine Ar ⟨s4e, ?_⟩
           refine Be (i := 14) rfl (by kernel_rfl) ?_
           have s4f := s4b
           refine As F s4f rfl rfl Fx.sz111 (Ae rfl (Ae rfl (Ae rfl (Ae rfl Ba)))) (Ag rfl) fun w19 _ F s4g => ?_
           replace s4g : SL w [] w19 [Blk gd 111 [.int .u8 (xf.1.op.toNat : Int), .int .i64 xf.1.a, .int .i64 xf.1.b, .int .i64 xf.1.to], Sl Ty.bool v1 x0, Sl Ty.bool v7 s6.1, Sl T_provisoref19_ins v8 s6.2.1] := s4g
           have s4h : SL w [] _ [Sl Ty.bool v1 x0, Sl Ty.bool v7 s6.1, Sl T_provisoref19_ins v8 s6.2.1] := s4g.drop
           refine Ar ⟨s4h, ?_⟩
           refine Be (i := 15) rfl (by kernel_rfl) ?_
           refine Bt F (Al rfl) rfl rfl rfl fun _ F => ?_
           have s4i : SL w [] _ [Sl Ty.bool v1 x0, Sl Ty.bool v7 s6.1, Sl T_provisoref19_ins v8 s6.2.1] := s4g.drop
           refine Ar ⟨s4i, ?_⟩
           refine Ce (by kernel_rfl) ?_
           obtain rfl := An H
           refine Ac ?_
           exact ⟨gd, F.sub ⟨rfl, rfl, rfl, rfl, rfl, rfl, rfl, rfl, rfl, rfl, rfl, rfl, rfl, trivial⟩, s4g.f3.f3.f3⟩
          have s4j := s4b
          refine As F s4j rfl rfl Fx.sz111 (Ae rfl (Ae rfl (Ae rfl (Ae rfl Ba)))) (Ag rfl) fun w1a _ F s4k => ?_
          replace s4k : SL w [] w1a [Blk gd 111 [.int .u8 (xf.1.op.toNat : Int), .int .i64 xf.1.a, .int .i64 xf.1.b, .int .i64 xf.1.to], Sl Ty.bool v1 x0, Sl Ty.bool v7 s6.1, Sl T_provisoref19_ins v8 s6.2.1] := s4k
          have s4l : SL w [] _ [Sl Ty.bool v1 x0, Sl Ty.bool v7 s6.1, Sl T_provisoref19_ins v8 s6.2.1] := s4k.drop
          refine Ar ⟨s4l, ?_⟩
          refine Be (i := 12) rfl (by kernel_rfl) ?_
          refine Bt F (Au (v := .bool xf.2) rfl rfl) rfl rfl rfl fun _ F => ?_
          have s4m : SL w [] _ [Sl Ty.bool v1 x0, Sl Ty.bool v7 s6.1, Sl T_provisoref19_ins v8 s6.2.1] := s4k.drop
          refine Ar ⟨s4m, ?_⟩
          refine Be (i := 15) rfl (by kernel_rfl) ?_
          refine Bt F (Al rfl) rfl rfl rfl fun _ F => ?_
          have s4n : SL w [] _ [Sl Ty.bool v1 x0, Sl Ty.bool v7 s6.1, Sl T_provisoref19_ins v8 s6.2.1] := s4k.drop
          refine Ar ⟨s4n, ?_⟩
          refine Ce (by kernel_rfl) ?_
          obtain rfl := An H
          refine Ac ?_
          exact ⟨gd, F.sub ⟨rfl, rfl, rfl, rfl, rfl, rfl, rfl, rfl, rfl, rfl, rfl, rfl, rfl, trivial⟩, s4k.f3.f3.f3⟩
         refine Bt F (Au (v := .bool xf.2) rfl rfl) rfl rfl rfl fun _ F => ?_
         have s4o : SL w [] _ [Sl Ty.bool v1 x0, Sl Ty.bool v7 s6.1, Sl T_provisoref19_ins v8 s6.2.1] := s4b.drop
         refine Ar ⟨s4o, ?_⟩
         refine Be (i := 11) rfl (by kernel_rfl) ?_
         refine Bt F (Au (v := .agg ⟨[.int .u8 (xf.1.op.toNat : Int), .int .i64 xf.1.a, .int .i64 xf.1.b, .int .i64 xf.1.to]⟩) rfl rfl) rfl rfl rfl fun _ F => ?_
         have s4p : SL w [] _ [Sl Ty.bool v1 x0, Sl Ty.bool v7 s6.1, Sl T_provisoref19_ins v8 s6.2.1] := s4b.drop
         refine Ar ⟨s4p, ?_⟩
         refine Be (i := 14) rfl (by kernel_rfl) ?_
         have s4q := s4b
         refine As F s4q rfl rfl Fx.sz111 (Ae rfl (Ae rfl (Ae rfl (Ae rfl Ba)))) (Ag rfl) fun w1b _ F s4r => ?_
         replace s4r : SL w [] w1b [Blk gd 111 [.int .u8 (xf.1.op.toNat : Int), .int .i64 xf.1.a, .int .i64 xf.1.b, .int .i64 xf.1.to], Sl Ty.bool v1 x0, Sl Ty.bool v7 s6.1, Sl T_provisoref19_ins v8 s6.2.1] := s4r
         have s4s : SL w [] _ [Sl Ty.bool v1 x0, Sl Ty.bool v7 s6.1, Sl T_provisoref19_ins v8 s6.2.1] := s4r.drop
         refine Ar ⟨s4s, ?_⟩
         refine Be (i := 15) rfl (by kernel_rfl) ?_
         refine Bt F (Al rfl) rfl rfl rfl fun _ F => ?_
         have s4t : SL w [] _ [Sl Ty.bool v1 x0, Sl Ty.bool v7 s6.1, Sl T_provisoref19_ins v8 s6.2.1] := s4r.drop
         refine Ar ⟨s4t, ?_⟩
         refine Ce (by kernel_rfl) ?_
         obtain rfl := An H
         refine Ac ?_
         exact ⟨gd, F.sub ⟨rfl, rfl, rfl, rfl, rfl, rfl, rfl, rfl, rfl, rfl, rfl, rfl, rfl, trivial⟩, s4r.f3.f3.f3⟩
        refine Bo F s39 Fx.zero111 rfl rfl fun ge w1c _ F s4u => ?_
        have s4v : SL w [] _ [Sl Ty.bool v1 x0, Sl Ty.bool v7 s6.1, Sl T_provisoref19_ins v8 s6.2.1] := s4u.drop
        refine Ar ⟨s4v, ?_⟩
        refine Be (i := 10) rfl (by kernel_rfl) ?_
        refine Bt F (Af rfl) rfl rfl rfl fun _ F => ?_
        have s4w : SL w [] _ [Sl Ty.bool v1 x0, Sl Ty.bool v7 s6.1, Sl T_provisoref19_ins v8 s6.2.1] := s4u.drop
        refine Ar ⟨s4w, ?_⟩
        refine Cl (rs := [11, 12]) (by kernel_rfl) (by decide) (Bs (Br rfl ?_) (Bs (Br rfl ?_) (Co)))
        ·refine Bt F (Au (v := .agg ⟨[.int .u8 (xf.1.op.toNat : Int), .int .i64 xf.1.a, .int .i64 xf.1.b, .int .i64 xf.1.to]⟩) rfl rfl) rfl rfl rfl fun _ F => ?_
         have s4x : SL w [] _ [Sl Ty.bool v1 x0, Sl Ty.bool v7 s6.1, Sl T_provisoref19_ins v8 s6.2.1] := s4u.drop
         refine Ar ⟨s4x, ?_⟩
         refine Cl (rs := [12, 14]) (by kernel_rfl) (by decide) (Bs (Br rfl ?_) (Bs (Br rfl ?_) (Co)))
         ·refine Bt F (Au (v := .bool xf.2) rfl rfl) rfl rfl rfl fun _ F => ?_
          have s4y : SL w [] _ [Sl Ty.bool v1 x0, Sl Ty.bool v7 s6.1, Sl T_provisoref19_ins v8 s6.2.1] := s4u.drop
          refine Ar ⟨s4y, ?_⟩
          refine Be (i := 14) rfl (by kernel_rfl) ?_
          have s4z := s4u
          refine As F s4z rfl rfl Fx.sz111 (Ae rfl (Ae rfl (Ae rfl (Ae rfl Ba)))) (Ag rfl) fun w1d _ F s50 => ?_
          replace s50 : SL w [] w1d [Blk ge 111 [.int .u8 (xf.1.op.toNat : Int), .int .i64 xf.1.a, .int .i64 xf.1.b, .int .i64 xf.1.to], Sl Ty.bool v1 x0, Sl Ty.bool v7 s6.1, Sl T_provisoref19_ins v8 s6.2.1] := s50
          have s51 : SL w [] _ [Sl Ty.bool v1 x0, Sl Ty.bool v7 s6.1, Sl T_provisoref19_ins v8 s6.2.1] := s50.drop
          refine Ar ⟨s51, ?_⟩
          refine Be (i := 15) rfl (by kernel_rfl) ?_
          refine Bt F (Al rfl) rfl rfl rfl fun _ F => ?_
          have s52 : SL w [] _ [Sl Ty.bool v1 x0, Sl Ty.bool v7 s6.1, Sl T_provisoref19_ins v8 s6.2.1] := s50.drop
          refine Ar ⟨s52, ?_⟩
          refine Ce (by kernel_rfl) ?_
          obtain rfl := An H
          refine Ac ?_
          exact ⟨ge, F.sub ⟨rfl, rfl, rfl, rfl, rfl, rfl, rfl, rfl, rfl, rfl, rfl, rfl, rfl, trivial⟩, s50.f3.f3.f3⟩
         have s53 := s4u
         refine As F s53 rfl rfl Fx.sz111 (Ae rfl (Ae rfl (Ae rfl (Ae rfl Ba)))) (Ag rfl) fun w1e _ F s54 => ?_
         replace s54 : SL w [] w1e [Blk ge 111 [.int .u8 (xf.1.op.toNat : Int), .int .i64 xf.1.a, .int .i64 xf.1.b, .int .i64 xf.1.to], Sl Ty.bool v1 x0, Sl Ty.bool v7 s6.1, Sl T_provisoref19_ins v8 s6.2.1] := s54
         have s56 : SL w [] _ [Sl Ty.bool v1 x0, Sl Ty.bool v7 s6.1, Sl T_provisoref19_ins v8 s6.2.1] := s54.drop
         refine Ar ⟨s56, ?_⟩
         refine Be (i := 12) rfl (by kernel_rfl) ?_
         refine Bt F (Au (v := .bool xf.2) rfl rfl) rfl rfl rfl fun _ F => ?_
         have s57 : SL w [] _ [Sl Ty.bool v1 x0, Sl Ty.bool v7 s6.1, Sl T_provisoref19_ins v8 s6.2.1] := s54.drop
         refine Ar ⟨s57, ?_⟩
         refine Be (i := 15) rfl (by kernel_rfl) ?_
         refine Bt F (Al rfl) rfl rfl rfl fun _ F => ?_
         have s58 : SL w [] _ [Sl Ty.bool v1 x0, Sl Ty.bool v7 s6.1, Sl T_provisoref19_ins v8 s6.2.1] := s54.drop
         refine Ar ⟨s58, ?_⟩
         refine Ce (by kernel_rfl) ?_
         obtain rfl := An H
         refine Ac ?_
         exact ⟨ge, F.sub ⟨rfl, rfl, rfl, rfl, rfl, rfl, rfl, rfl, rfl, rfl, rfl, rfl, rfl, trivial⟩, s54.f3.f3.f3⟩
        refine Bt F (Au (v := .bool xf.2) rfl rfl) rfl rfl rfl fun _ F => ?_
        have s59 : SL w [] _ [Sl Ty.bool v1 x0, Sl Ty.bool v7 s6.1, Sl T_provisoref19_ins v8 s6.2.1] := s4u.drop
        refine Ar ⟨s59, ?_⟩
        refine Be (i := 11) rfl (by kernel_rfl) ?_
        refine Bt F (Au (v := .agg ⟨[.int .u8 (xf.1.op.toNat : Int), .int .i64 xf.1.a, .int .i64 xf.1.b, .int .i64 xf.1.to]⟩) rfl rfl) rfl rfl rfl fun _ F => ?_
        have s5a : SL w [] _ [Sl Ty.bool v1 x0, Sl Ty.bool v7 s6.1, Sl T_provisoref19_ins v8 s6.2.1] := s4u.drop
        refine Ar ⟨s5a, ?_⟩
        refine Be (i := 14) rfl (by kernel_rfl) ?_
        have s5b := s4u
        refine As F s5b rfl rfl Fx.sz111 (Ae rfl (Ae rfl (Ae rfl (Ae rfl Ba)))) (Ag rfl) fun w1f _ F s5c => ?_
        replace s5c : SL w [] w1f [Blk ge 111 [.int .u8 (xf.1.op.toNat : Int), .int .i64 xf.1.a, .int .i64 xf.1.b, .int .i64 xf.1.to], Sl Ty.bool v1 x0, Sl Ty.bool v7 s6.1, Sl T_provisoref19_ins v8 s6.2.1] := s5c
        have s5d : SL w [] _ [Sl Ty.bool v1 x0, Sl Ty.bool v7 s6.1, Sl T_provisoref19_ins v8 s6.2.1] := s5c.drop
        refine Ar ⟨s5d, ?_⟩
        refine Be (i := 15) rfl (by kernel_rfl) ?_
        refine Bt F (Al rfl) rfl rfl rfl fun _ F => ?_
        have s5e : SL w [] _ [Sl Ty.bool v1 x0, Sl Ty.bool v7 s6.1, Sl T_provisoref19_ins v8 s6.2.1] := s5c.drop
        refine Ar ⟨s5e, ?_⟩
        refine Ce (by kernel_rfl) ?_
        obtain rfl := An H
        refine Ac ?_
        exact ⟨ge, F.sub ⟨rfl, rfl, rfl, rfl, rfl, rfl, rfl, rfl, rfl, rfl, rfl, rfl, rfl, trivial⟩, s5c.f3.f3.f3⟩
       refine Bo F s37 Fx.zero111 rfl rfl fun gf w1g _ F s5f => ?_
       have s5g : SL w [] _ [Sl Ty.bool v1 x0, Sl Ty.bool v7 s6.1, Sl T_provisoref19_ins v8 s6.2.1] := s5f.drop
       refine Ar ⟨s5g, ?_⟩
       refine Be (i := 9) rfl (by kernel_rfl) ?_
       refine Bk (args := [.tmp 96, .tmp 101]) F Fx.fn67 rfl (provisoref19_two_c (a0 := xd) (a1 := xe)    h1d) rfl fun ve w1h _ h1k F => ?_
       obtain ⟨rfl, h1l⟩ := h1k
       have s5h := s5f.add h1l
       have s5i : SL w [] _ [Sl Ty.bool v1 x0, Sl Ty.bool v7 s6.1, Sl T_provisoref19_ins v8 s6.2.1] := s5h.drop
       refine Ar ⟨s5i, ?_⟩
       refine Be (i := 10) rfl (by kernel_rfl) ?_
       refine Bt F (Af rfl) rfl rfl rfl fun _ F => ?_
       have s5j : SL w [] _ [Sl Ty.bool v1 x0, Sl Ty.bool v7 s6.1, Sl T_provisoref19_ins v8 s6.2.1] := s5h.drop
       refine Ar ⟨s5j, ?_⟩
       refine Cl (rs := [11, 12]) (by kernel_rfl) (by decide) (Bs (Br rfl ?_) (Bs (Br rfl ?_) (Co)))
       ·refine Bt F (Au (v := .agg ⟨[.int .u8 (xf.1.op.toNat : Int), .int .i64 xf.1.a, .int .i64 xf.1.b, .int .i64 xf.1.to]⟩) rfl rfl) rfl rfl rfl fun _ F => ?_
        have s5k : SL w [] _ [Sl Ty.bool v1 x0, Sl Ty.bool v7 s6.1, Sl T_provisoref19_ins v8 s6.2.1] := s5h.drop
        refine Ar ⟨s5k, ?_⟩
        refine Cl (rs := [12, 14]) (by kernel_rfl) (by decide) (Bs (Br rfl ?_) (Bs (Br rfl ?_) (Co)))
        ·refine Bt F (Au (v := .bool xf.2) rfl rfl) rfl rfl rfl fun _ F => ?_
         have s5l : SL w [] _ [Sl Ty.bool v1 x0, Sl Ty.bool v7 s6.1, Sl T_provisoref19_ins v8 s6.2.1] := s5h.drop
         refine Ar ⟨s5l, ?_⟩
         refine Be (i := 14) rfl (by kernel_rfl) ?_
         have s5m := s5h
         refine As F s5m rfl rfl Fx.sz111 (Ae rfl (Ae rfl (Ae rfl (Ae rfl Ba)))) (Ag rfl) fun w1i _ F s5n => ?_
         replace s5n : SL w [] w1i [Blk gf 111 [.int .u8 (xf.1.op.toNat : Int), .int .i64 xf.1.a, .int .i64 xf.1.b, .int .i64 xf.1.to], Sl Ty.bool v1 x0, Sl Ty.bool v7 s6.1, Sl T_provisoref19_ins v8 s6.2.1] := s5n
         have s5o : SL w [] _ [Sl Ty.bool v1 x0, Sl Ty.bool v7 s6.1, Sl T_provisoref19_ins v8 s6.2.1] := s5n.drop
         refine Ar ⟨s5o, ?_⟩
         refine Be (i := 15) rfl (by kernel_rfl) ?_
         refine Bt F (Al rfl) rfl rfl rfl fun _ F => ?_
         have s5p : SL w [] _ [Sl Ty.bool v1 x0, Sl Ty.bool v7 s6.1, Sl T_provisoref19_ins v8 s6.2.1] := s5n.drop
         refine Ar ⟨s5p, ?_⟩
         refine Ce (by kernel_rfl) ?_
         obtain rfl := An H
         refine Ac ?_
         exact ⟨gf, F.sub ⟨rfl, rfl, rfl, rfl, rfl, rfl, rfl, rfl, rfl, rfl, rfl, rfl, rfl, trivial⟩, s5n.f3.f3.f3⟩
        have s5q := s5h
        refine As F s5q rfl rfl Fx.sz111 (Ae rfl (Ae rfl (Ae rfl (Ae rfl Ba)))) (Ag rfl) fun w1j _ F s5r => ?_
        replace s5r : SL w [] w1j [Blk gf 111 [.int .u8 (xf.1.op.toNat : Int), .int .i64 xf.1.a, .int .i64 xf.1.b, .int .i64 xf.1.to], Sl Ty.bool v1 x0, Sl Ty.bool v7 s6.1, Sl T_provisoref19_ins v8 s6.2.1] := s5r
        have s5s : SL w [] _ [Sl Ty.bool v1 x0, Sl Ty.bool v7 s6.1, Sl T_provisoref19_ins v8 s6.2.1] := s5r.drop
        refine Ar ⟨s5s, ?_⟩
        refine Be (i := 12) rfl (by kernel_rfl) ?_
        refine Bt F (Au (v := .bool xf.2) rfl rfl) rfl rfl rfl fun _ F => ?_
        have s5t : SL w [] _ [Sl Ty.bool v1 x0, Sl Ty.bool v7 s6.1, Sl T_provisoref19_ins v8 s6.2.1] := s5r.drop
        refine Ar ⟨s5t, ?_⟩
        refine Be (i := 15) rfl (by kernel_rfl) ?_
        refine Bt F (Al rfl) rfl rfl rfl fun _ F => ?_
        have s5u : SL w [] _ [Sl Ty.bool v1 x0, Sl Ty.bool v7 s6.1, Sl T_provisoref19_ins v8 s6.2.1] := s5r.drop
        refine Ar ⟨s5u, ?_⟩
        refine Ce (by kernel_rfl) ?_
        obtain rfl := An H
        refine Ac ?_
        exact ⟨gf, F.sub ⟨rfl, rfl, rfl, rfl, rfl, rfl, rfl, rfl, rfl, rfl, rfl, rfl, rfl, trivial⟩, s5r.f3.f3.f3⟩
       refine Bt F (Au (v := .bool xf.2) rfl rfl) rfl rfl rfl fun _ F => ?_
       have s5v : SL w [] _ [Sl Ty.bool v1 x0, Sl Ty.bool v7 s6.1, Sl T_provisoref19_ins v8 s6.2.1] := s5h.drop
       refine Ar ⟨s5v, ?_⟩
       refine Be (i := 11) rfl (by kernel_rfl) ?_
       refine Bt F (Au (v := .agg ⟨[.int .u8 (xf.1.op.toNat : Int), .int .i64 xf.1.a, .int .i64 xf.1.b, .int .i64 xf.1.to]⟩) rfl rfl) rfl rfl rfl fun _ F => ?_
       have s5w : SL w [] _ [Sl Ty.bool v1 x0, Sl Ty.bool v7 s6.1, Sl T_provisoref19_ins v8 s6.2.1] := s5h.drop
       refine Ar ⟨s5w, ?_⟩
       refine Be (i := 14) rfl (by kernel_rfl) ?_
       have s5x := s5h
       refine As F s5x rfl rfl Fx.sz111 (Ae rfl (Ae rfl (Ae rfl (Ae rfl Ba)))) (Ag rfl) fun w1k _ F s5y => ?_
       replace s5y : SL w [] w1k [Blk gf 111 [.int .u8 (xf.1.op.toNat : Int), .int .i64 xf.1.a, .int .i64 xf.1.b, .int .i64 xf.1.to], Sl Ty.bool v1 x0, Sl Ty.bool v7 s6.1, Sl T_provisoref19_ins v8 s6.2.1] := s5y
       have s5z : SL w [] _ [Sl Ty.bool v1 x0, Sl Ty.bool v7 s6.1, Sl T_provisoref19_ins v8 s6.2.1] := s5y.drop
       refine Ar ⟨s5z, ?_⟩
       refine Be (i := 15) rfl (by kernel_rfl) ?_
       refine Bt F (Al rfl) rfl rfl rfl fun _ F => ?_
       have s60 : SL w [] _ [Sl Ty.bool v1 x0, Sl Ty.bool v7 s6.1, Sl T_provisoref19_ins v8 s6.2.1] := s5y.drop
       refine Ar ⟨s60, ?_⟩
       refine Ce (by kernel_rfl) ?_
       obtain rfl := An H
       refine Ac ?_
       exact ⟨gf, F.sub ⟨rfl, rfl, rfl, rfl, rfl, rfl, rfl, rfl, rfl, rfl, rfl, rfl, rfl, trivial⟩, s5y.f3.f3.f3⟩
      intro _ w1l hJ
      obtain ⟨g8, F, s61⟩ := hJ
      have H := R4
      clear R4 H4
      refine Ac <| Ah <| Ak <| Aj F (Aa (Af rfl) <| Ad) fun _ F => Ai <| Ac <| Bm F rfl (fun h1m => ?_) (fun h1m => ?_)
      ·replace H := Bb h1m H
       refine Ah <| Ak ?_
       obtain ⟨xg, h1n, H⟩ := Ap H
       obtain ⟨ae, h1o, h1p⟩ := Ch F_provisoref19_ins s61 (.tail _ <| .tail _ <| .head _) Fx.sl86 rfl h1n
       refine Aj F (Aa (Af rfl) <| Aa (Af rfl) <| Aa (Bj Fx.agg111 rfl (s61.blk_cells (.tail _ <| .tail _ <| .tail _ <| .head _) (o := 0) (ds := [.int .u8 (o5.1.toNat : Int), .int .i64 o5.2.1, .int .i64 o5.2.2.1, .int .i64 o5.2.2.2.1]) (fun j u hu => by rw [Nat.zero_add]; exact hu)) rfl) <| Aa (h1o _ _ _ _ _ _ _ _ _ _ rfl rfl) <| Ad) fun _ F => ?_
       refine Cx (y' := (⟨o5.1, o5.2.1, o5.2.2.1, o5.2.2.2.1⟩ : S_provisoref19_ins)) F_provisoref19_ins F s61.f2 h1p h1n rfl rfl (by rfl) Fx.sz111 fun w1m _ F s62 => ?_
       refine Ai <| Ac <| Ah <| Ak ?_
       obtain ⟨xh, h1q, H⟩ := Ap H
       obtain ⟨af, h1r, h1s⟩ := Ch Flat.bool s62 (.tail _ <| .tail _ <| .head _) Fx.sl99 rfl h1q
       refine Aj F (Aa (Af rfl) <| Aa (Af rfl) <| Aa (Af rfl) <| Aa (Af rfl) <| Aa (Bq rfl rfl) <| Aa (Ax Fx.fa111_0 rfl rfl) <| Aa (Az Fx.nag5 rfl (s62.blk_cell (.tail _ <| .tail _ <| .tail _ <| .head _) rfl)) <| Aa (Bw rfl rfl) <| Aa (h1r _ _ _ _ _ _ _ _ _ _ rfl rfl) <| Ad) fun _ F => ?_
       refine Cx (y' := ((o5.1.toNat : Int) == 0)) Flat.bool F s62.f2 h1s h1q rfl rfl (by rfl) Fx.sz4 fun w1n _ F s63 => ?_
       obtain ⟨xi, h1t, H⟩ := Ap H
       obtain ⟨ag, h1u, h1v⟩ := Ch Flat.bool s63 (.head _) Fx.sl99 rfl h1t
       refine Aj F (Aa (h1u _ _ _ _ _ _ _ _ _ _ rfl rfl) <| Ad) fun _ F => ?_
       refine Cx (y' := true) Flat.bool F s63 h1v h1t rfl rfl (by rfl) Fx.sz4 fun w1o _ F s64 => ?_
       refine Ai <| Ac <| Ak <| Aj F (Aa (Af rfl) <| Aa (Bq rfl rfl) <| Aa (Al rfl) <| Ad) fun _ F => Ai <| Bz ?_
       obtain rfl := An H
       refine Ac ?_
       exact ⟨v7, v8, F.sub ⟨rfl, rfl, rfl, rfl, rfl, trivial⟩, s64.f3.drop.f1.f1.f2⟩
      replace H := Bc h1m H
      refine Aw <| Bz ?_
      obtain rfl := An H
      refine Ac ?_
      exact ⟨v7, v8, F.sub ⟨rfl, rfl, rfl, rfl, rfl, trivial⟩, s61.f3.drop⟩
     replace H := Bc h1a H
     refine Aw <| Bz ?_
     obtain rfl := An H
     refine Ac ?_
     exact ⟨v7, v8, F.sub ⟨rfl, rfl, rfl, rfl, rfl, trivial⟩, s36⟩
    replace H := Bc h16 H
    refine Ao F rfl rfl (Am rfl h16) Ab rfl rfl fun _ F => Ao F rfl rfl (Am rfl h16) Ab rfl rfl fun _ F => Ao F rfl rfl (Am rfl h16) Ab rfl rfl fun _ F => Ao F rfl rfl (Am rfl h16) Ab rfl rfl fun _ F => Ao F rfl rfl (Am rfl h16) Ab rfl rfl fun _ F => Ao F rfl rfl (Am rfl h16) Ab rfl rfl fun _ F => Aj F (Aa (Bi (By rfl h16) rfl) <| Ad) fun _ F => Ai <| Ac <| Cm F rfl <| Aw <| Bz ?_
    obtain rfl := An H
    refine Ac ?_
    exact ⟨v7, v8, F.sub ⟨rfl, rfl, rfl, rfl, rfl, trivial⟩, s36⟩
   intro _ w1p hJ
   obtain ⟨v9, va, F, s65⟩ := hJ
   have H := R1
   clear R1 H1
   refine Ac <| Ak <| Aj F (Aa (Af rfl) <| Aa (Bq rfl rfl) <| Aa (Al rfl) <| Ad) fun _ F => Ai ?_
   obtain rfl := An H
   refine Ac ?_
   exact ⟨_, rfl, v9, va, F.sub ⟨rfl, rfl, rfl, rfl, rfl, trivial⟩, s65⟩
  replace H := Bc h6 H
  refine Ca <| Bp <| Bp <| Cb ?_
  obtain rfl := An H
  obtain rfl := hr _ rfl
  refine Ac ?_
  exact ⟨v7, v8, F.sub ⟨rfl, rfl, trivial⟩, s7.drop⟩
 intro _ w1q hJ
 obtain ⟨v5, v6, F, s66⟩ := hJ
 have H := R0
 clear R0 H0
 refine Ac <| Ah <| Ak ?_
 obtain ⟨xj, h1w, H⟩ := Ap H
 refine Aj F (Aa (Af rfl) <| Aa (Af rfl) <| Ad) fun _ F => Bk (args := [.tmp 122, .tmp 123]) F Fx.fn65 rfl (provisoref19_left_c (a0 := o0.2) (a1 := o0.1)   (s66.rd0 (.tail _ <| .head _)) (s66.rd0 (.head _)) h1w) rfl fun vf w1r _ h1x F => ?_
 obtain ⟨_, rfl, h1y⟩ := h1x
 have s67 := s66.add h1y
 refine Aj F (Aa (Al rfl) <| Ad) fun _ F => Ai <| Ac ?_
 obtain rfl := An H
 refine Bd ?_
 refine Av (rs := [.tmp 2]) (vs := [vf]) F (by rfl) ⟨_, _, rfl, Ay rfl, rfl⟩ ⟨_, rfl, ⟨vf, rfl, s67.f1.drop.f1.drop⟩⟩
-- proviso/provisoref19.idle
theorem provisoref19_idle_c {w : World} {v0 : Value} {a0 : List S_provisoref19_ins} {r : (List S_provisoref19_ins)} (hr0 : Rd T_provisoref19_ins w [] v0 a0) (H : provisoref19_idle a0 = some r) :
    Calls Tryz.prog 43 #[v0] w (Ret fun u_ w_ => ∃ u0 : Value, u_ = u0 ∧ SL w [] w_ [Sl T_provisoref19_ins u0 r]) := by
 have s0 : SL w [] w [] := SL.init0 w
 refine Bn Tryz.func43 rfl Tryz.ntmps43 (Ag rfl) (args := [v0]) fun q0 F0 => ?_
 unfold provisoref19_idle at H
 refine Ah <| Ak <| Aj F0 (Aa (Al rfl) <| Ad) fun q3 F4 => Ai <| Ac <| Ah <| Ak ?_
 obtain ⟨x0, h0, H⟩ := Ap H
 refine Aj F4 (Aa (Af rfl) <| Aa (Cc rfl Tryz.underlying86 (Bu (Cv hr0 s0))) <| Ad) fun _ F => st_make Flat.bool false F s0 Fx.sl99 rfl rfl Fx.zero4 rfl rfl rfl h0 rfl fun v1 w0 _ F s1 => Aj F (Aa (Al rfl) <| Ad) fun _ F => Ai <| Ac <| Ah <| Ak ?_
 refine Cs (parts := []) F_provisoref19_ins ([] : List S_provisoref19_ins) F s1 Fx.sl86 rfl (by decide) rfl rfl rfl (by simp [Value.cells]) rfl rfl rfl fun v2 w1 _ F s2 => ?_
 obtain ⟨x1, h1, H⟩ := Ap H
 refine Aj F (Aa (Af rfl) <| Ad) fun _ F => ?_
 have s3 := s2
 obtain ⟨_, hr_⟩ := (Cv hr0 s3)
 refine Ci F_provisoref19_ins F s3 Fx.sl86 rfl rfl rfl rfl hr_ rfl rfl h1 rfl fun v3 w2 _ F s4 => Aj F (Aa (Al rfl) <| Ad) fun _ F => Ai <| Ac <| Ah <| Ah <| Ak <| Aj F (Aa (Af rfl) <| Aa (Cc rfl Tryz.underlying86 (Bu (Cv hr0 s4))) <| Aa (Af rfl) <| Ad) fun _ F => Ai <| Ac ?_
 obtain ⟨o0, H0, R0⟩ := Ap H
 clear H
 refine Bx (fun a w_ => ∃ v4 v5 : Value, Fr a 56 [(3, v4), (4, v5)] ∧ SL w [] w_ [Sl Ty.bool v4 o0.1, Sl T_provisoref19_ins v5 o0.2]) ?_ ?_
 ·have H := H0
  refine Bh <| Cu (provisoref19_idle_b0 a0) (fun s5 a w_ => ∃ v6 v7 : Value, Fr a 56 [(3, v6), (4, v7), (13, v0), (14, .int .i64 (a0.length : Int)), (15, .int .i64 s5.2.2)] ∧ SL w [] w_ [Sl Ty.bool v6 s5.1, Sl T_provisoref19_ins v7 s5.2.1]) H ?_ ?_
  ·exact ⟨v1, v3, F.sub ⟨rfl, rfl, rfl, rfl, rfl, trivial⟩, s4.f1⟩
  intro s5 _ w3 h2 o1 H hr
  obtain ⟨v6, v7, F, s6⟩ := h2
  replace H : provisoref19_idle_b0 a0 s5 = some o1 := H
  unfold provisoref19_idle_b0 at H
  refine Ah <| Ak <| Aj F (Aa (Cr rfl rfl) <| Ad) fun _ F => Ai <| Ac <| Ah <| Bm F rfl (fun h3 => ?_) (fun h3 => ?_)
  ·replace H := Bb h3 H
   refine Aw <| Ac <| Ah <| Bh <| Ah <| Ak ?_
   obtain ⟨x2, h4, H⟩ := Ap H
   obtain ⟨a2, h5, h6⟩ := Dg F_provisoref19_ins (Cv hr0 s6) Fx.sl86 rfl h4
   refine Aj F (Aa (Af rfl) <| Aa (h5 _ _ _ _ _ _ _ _ _ _ rfl rfl) <| Aa (Bj Fx.agg111 rfl h6 rfl) <| Ad) fun _ F => Bo F s6 Fx.zero111 rfl rfl fun g0 w4 _ F s7 => Aj F (Aa (Al rfl) <| Ad) fun _ F => ?_
   have s8 := s7
   refine As F s8 rfl rfl Fx.sz111 (Ae rfl (Ae rfl (Ae rfl (Ae rfl Ba)))) (Ag rfl) fun w5 _ F s9 => ?_
   replace s9 : SL w [] w5 [Blk g0 111 [.int .u8 (x2.op.toNat : Int), .int .i64 x2.a, .int .i64 x2.b, .int .i64 x2.to], Sl Ty.bool v6 s5.1, Sl T_provisoref19_ins v7 s5.2.1] := s9
   refine Ai <| Ac <| Bh <| Ah ?_
   obtain ⟨o2, H1, R1⟩ := Ap H
   clear H
   refine Bx (fun a w_ => Fr a 56 [(3, v6), (4, v7), (5, .int .i64 s5.2.2), (6, .pointer (some ⟨g0, 0, none⟩)), (13, v0), (14, .int .i64 (a0.length : Int)), (15, .int .i64 s5.2.2), (20, .bool o2)] ∧ SL w [] w_ [Blk g0 111 [.int .u8 (x2.op.toNat : Int), .int .i64 x2.a, .int .i64 x2.b, .int .i64 x2.to], Sl Ty.bool v6 s5.1, Sl T_provisoref19_ins v7 s5.2.1]) ?_ ?_
   ·have H := H1
    refine Ah <| Ak <| Aj F (Aa (Ax Fx.fa111_0 rfl rfl) <| Aa (Az Fx.nag5 rfl (s9.blk_cell (.head _) rfl)) <| Aa (Bw rfl rfl) <| Aa (Al rfl) <| Ad) fun _ F => Ai <| Ac <| Bm F rfl (fun h7 => ?_) (fun h7 => ?_)
    ·replace H := Bb h7 H
     refine Aw ?_
     obtain rfl := An H
     refine Ac ?_
     exact ⟨F.sub ⟨rfl, rfl, rfl, rfl, rfl, rfl, rfl, rfl, trivial⟩, s9⟩
    replace H := Bc h7 H
    refine Ak <| Aj F (Aa (Ax Fx.fa111_0 rfl rfl) <| Aa (Az Fx.nag5 rfl (s9.blk_cell (.head _) rfl)) <| Aa (Bw rfl rfl) <| Aa (Af rfl) <| Ad) fun _ F => Bl ((x2.op.toNat : Int) == 19) (fun h8 => ?_) (fun h8 => ?_)
    ·replace H := Bb h8 H
     refine Aq F rfl rfl (Am rfl h8) (Ax Fx.fa111_3 rfl rfl) rfl rfl fun _ F => Aq F rfl rfl (Am rfl h8) (Az Fx.nag3 rfl (s9.blk_cell (.head _) rfl)) rfl rfl fun _ F => Aq F rfl rfl (Am rfl h8) (Af rfl) rfl rfl fun _ F => Aq F rfl rfl (Am rfl h8) (Bq rfl rfl) rfl rfl fun _ F => Aq F rfl rfl (Am rfl h8) (Bw rfl rfl) rfl rfl fun _ F => Aj F (Aa (Bf (By rfl h8) rfl) <| Aa (Al rfl) <| Ad) fun _ F => Ai ?_
     obtain rfl := An H
     refine Ac ?_
     exact ⟨F.sub ⟨rfl, rfl, rfl, rfl, rfl, rfl, rfl, rfl, trivial⟩, s9⟩
    replace H := Bc h8 H
    refine Ao F rfl rfl (Am rfl h8) Ab rfl rfl fun _ F => Ao F rfl rfl (Am rfl h8) Ab rfl rfl fun _ F => Ao F rfl rfl (Am rfl h8) Ab rfl rfl fun _ F => Ao F rfl rfl (Am rfl h8) Ab rfl rfl fun _ F => Ao F rfl rfl (Am rfl h8) Ab rfl rfl fun _ F => Aj F (Aa (Bi (By rfl h8) rfl) <| Aa (Al rfl) <| Ad) fun _ F => Ai ?_
    obtain rfl := An H
    refine Ac ?_
    exact ⟨F.sub ⟨rfl, rfl, rfl, rfl, rfl, rfl, rfl, rfl, trivial⟩, s9⟩
   intro _ w6 hJ
   obtain ⟨F, sa⟩ := hJ
   have H := R1
   clear R1 H1
   refine Ac <| Bm F rfl (fun h9 => ?_) (fun h9 => ?_)
   ·replace H := Bb h9 H
    refine Ak ?_
    obtain ⟨x3, ha, H⟩ := Ap H
    obtain ⟨a3, hb, hc⟩ := Ch Flat.bool sa (.tail _ <| .head _) Fx.sl99 rfl ha
    refine Aj F (Aa (Af rfl) <| Aa (Af rfl) <| Aa (hb _ _ _ _ _ _ _ _ _ _ rfl rfl) <| Ad) fun _ F => ?_
    refine Cx (y' := true) Flat.bool F sa.f1 hc ha rfl rfl (by rfl) Fx.sz4 fun w7 _ F sb => ?_
    refine Ai <| Bz <| Bz <| Ac <| Ak <| Aj F (Aa (Bq rfl rfl) <| Aa (Af rfl) <| Ad) fun _ F => Ai ?_
    obtain rfl := An H
    refine Ac ?_
    exact ⟨_, rfl, v6, v7, F.sub ⟨rfl, rfl, rfl, rfl, rfl, trivial⟩, sb.f1.drop⟩
   replace H := Bc h9 H
   refine Ah <| Ak <| Aj F (Aa (Ax Fx.fa111_0 rfl rfl) <| Aa (Az Fx.nag5 rfl (sa.blk_cell (.head _) rfl)) <| Aa (Bw rfl rfl) <| Aa (Af rfl) <| Ad) fun _ F => Bl ((x2.op.toNat : Int) == 20) (fun hd => ?_) (fun hd => ?_)
   ·replace H := Bb hd H
    refine Aq F rfl rfl (Am rfl hd) (Ax Fx.fa111_3 rfl rfl) rfl rfl fun _ F => Aq F rfl rfl (Am rfl hd) (Az Fx.nag3 rfl (sa.blk_cell (.head _) rfl)) rfl rfl fun _ F => Aq F rfl rfl (Am rfl hd) (Af rfl) rfl rfl fun _ F => Aq F rfl rfl (Am rfl hd) (Bq rfl rfl) rfl rfl fun _ F => Aq F rfl rfl (Am rfl hd) (Bw rfl rfl) rfl rfl fun _ F => Aj F (Aa (Bf (By rfl hd) rfl) <| Aa (Al rfl) <| Ad) fun _ F => Ai <| Ac <| Bm F rfl (fun he => ?_) (fun he => ?_)
    ·replace H := Bb he H
     refine Ak ?_
     obtain ⟨x4, hf, H⟩ := Ap H
     obtain ⟨a4, hg, hh⟩ := Ch F_provisoref19_ins sa (.tail _ <| .tail _ <| .head _) Fx.sl86 rfl hf
     refine Aj F (Aa (Af rfl) <| Aa (Af rfl) <| Aa (Cn (vs := [.int .u8 6, .int .i64 (-1)]) Fx.zero111 Fx.pl111 rfl (cs := [.int .u8 6, .int .i64 0, .int .i64 0, .int .i64 (-1)]) (rfl)) <| Aa (hg _ _ _ _ _ _ _ _ _ _ rfl rfl) <| Ad) fun _ F => ?_
     refine Cx (y' := (⟨6, 0, 0, (-1)⟩ : S_provisoref19_ins)) F_provisoref19_ins F sa.f2 hh hf rfl rfl (by rfl) Fx.sz111 fun w8 _ F sc => ?_
     refine Ai <| Bz <| Bz <| Ac <| Ak <| Aj F (Aa (Bq rfl rfl) <| Aa (Af rfl) <| Ad) fun _ F => Ai ?_
     obtain rfl := An H
     refine Ac ?_
     exact ⟨_, rfl, v6, v7, F.sub ⟨rfl, rfl, rfl, rfl, rfl, trivial⟩, sc.f1.drop.f1⟩
    replace H := Bc he H
    refine Aw <| Bz <| Bz <| Ac <| Ak <| Aj F (Aa (Bq rfl rfl) <| Aa (Af rfl) <| Ad) fun _ F => Ai ?_
    obtain rfl := An H
    refine Ac ?_
    exact ⟨_, rfl, v6, v7, F.sub ⟨rfl, rfl, rfl, rfl, rfl, trivial⟩, sa.drop⟩
   replace H := Bc hd H
   refine Ao F rfl rfl (Am rfl hd) Ab rfl rfl fun _ F => Ao F rfl rfl (Am rfl hd) Ab rfl rfl fun _ F => Ao F rfl rfl (Am rfl hd) Ab rfl rfl fun _ F => Ao F rfl rfl (Am rfl hd) Ab rfl rfl fun _ F => Ao F rfl rfl (Am rfl hd) Ab rfl rfl fun _ F => Aj F (Aa (Bi (By rfl hd) rfl) <| Aa (Al rfl) <| Ad) fun _ F => Ai <| Ac <| Cm F rfl <| Aw <| Bz <| Bz <| Ac <| Ak <| Aj F (Aa (Bq rfl rfl) <| Aa (Af rfl) <| Ad) fun _ F => Ai ?_
   obtain rfl := An H
   refine Ac ?_
   exact ⟨_, rfl, v6, v7, F.sub ⟨rfl, rfl, rfl, rfl, rfl, trivial⟩, sa.drop⟩
  replace H := Bc h3 H
  refine Ca <| Bp <| Bp <| Cb ?_
  obtain rfl := An H
  obtain rfl := hr _ rfl
  refine Ac ?_
  exact ⟨v6, v7, F.sub ⟨rfl, rfl, trivial⟩, s6⟩
 intro _ w9 hJ
 obtain ⟨v4, v5, F, sd⟩ := hJ
 have H := R0
 clear R0 H0
 refine Ac <| Ah <| Ak ?_
 obtain ⟨x5, hi, H⟩ := Ap H
 refine Aj F (Aa (Af rfl) <| Aa (Af rfl) <| Ad) fun _ F => Bk (args := [.tmp 53, .tmp 54]) F Fx.fn65 rfl (provisoref19_left_c (a0 := o0.2) (a1 := o0.1)   (sd.rd0 (.tail _ <| .head _)) (sd.rd0 (.head _)) hi) rfl fun v8 wa _ hj F => ?_
 obtain ⟨_, rfl, hk⟩ := hj
 have se := sd.add hk
 refine Aj F (Aa (Al rfl) <| Ad) fun _ F => Ai <| Ac ?_
 obtain rfl := An H
 refine Bd ?_
 refine Av (rs := [.tmp 2]) (vs := [v8]) F (by rfl) ⟨_, _, rfl, Ay rfl, rfl⟩ ⟨_, rfl, ⟨v8, rfl, se.f1.drop.f1.drop⟩⟩
-- proviso/provisoref19.dead
theorem provisoref19_dead_c {w : World} {v0 : Value} {a0 : List S_provisoref19_ins} {r : (List S_provisoref19_ins)} (hr0 : Rd T_provisoref19_ins w [] v0 a0) (H : provisoref19_dead a0 = some r) :
    Calls Tryz.prog 44 #[v0] w (Ret fun u_ w_ => ∃ u0 : Value, u_ = u0 ∧ SL w [] w_ [Sl T_provisoref19_ins u0 r]) := by
 have s0 : SL w [] w [] := SL.init0 w
 refine Bn Tryz.func44 rfl Tryz.ntmps44 (Ag rfl) (args := [v0]) fun q0 F0 => ?_
 unfold provisoref19_dead at H
 refine Ah <| Ak <| Aj F0 (Aa (Al rfl) <| Ad) fun q3 F4 => Ai <| Ac <| Ah <| Ak ?_
 obtain ⟨x0, h0, H⟩ := Ap H
 refine Aj F4 (Aa (Af rfl) <| Aa (Cc rfl Tryz.underlying86 (Bu (Cv hr0 s0))) <| Ad) fun _ F => st_make Flat.bool false F s0 Fx.sl99 rfl rfl Fx.zero4 rfl rfl rfl h0 rfl fun v1 w0 _ F s1 => Aj F (Aa (Al rfl) <| Ad) fun _ F => Ai <| Ac <| Ah <| Ah <| Ak <| Aj F (Aa (Af rfl) <| Aa (Cc rfl Tryz.underlying99 (Bu (s1.own_rd (.head _)))) <| Aa (Af rfl) <| Ad) fun _ F => Ai <| Ac ?_
 obtain ⟨o0, H0, R0⟩ := Ap H
 clear H
 refine Bx (fun a w_ => ∃ v2 : Value, Fr a 65 [(0, v0), (3, v2)] ∧ SL w [] w_ [Sl Ty.bool v2 o0]) ?_ ?_
 ·have H := H0
  refine Bh <| Cu (provisoref19_dead_b0 x0) (fun s2 a w_ => ∃ v3 : Value, Fr a 65 [(0, v0), (3, v3), (11, .int .i64 (x0.length : Int)), (12, .int .i64 s2.2)] ∧ SL w [] w_ [Sl Ty.bool v3 s2.1]) H ?_ ?_
  ·exact ⟨v1, F.sub ⟨rfl, rfl, rfl, rfl, trivial⟩, s1⟩
  intro s2 _ w1 h1 o1 H hr
  obtain ⟨v3, F, s3⟩ := h1
  replace H : provisoref19_dead_b0 x0 s2 = some o1 := H
  unfold provisoref19_dead_b0 at H
  refine Ah <| Ak <| Aj F (Aa (Cr rfl rfl) <| Ad) fun _ F => Ai <| Ac <| Ah <| Bm F rfl (fun h2 => ?_) (fun h2 => ?_)
  ·replace H := Bb h2 H
   refine Aw <| Ac <| Ah <| Bh <| Ah <| Ak <| Aj F (Aa (Af rfl) <| Aa (Al rfl) <| Ad) fun _ F => Ai <| Ac <| Ak ?_
   obtain ⟨x1, h3, H⟩ := Ap H
   obtain ⟨a2, h4, h5⟩ := Ch Flat.bool s3 (.head _) Fx.sl99 rfl h3
   refine Aj F (Aa (Af rfl) <| Aa (Af rfl) <| Aa (h4 _ _ _ _ _ _ _ _ _ _ rfl rfl) <| Ad) fun _ F => ?_
   refine Cx (y' := true) Flat.bool F s3 h5 h3 rfl rfl (by rfl) Fx.sz4 fun w2 _ F s4 => ?_
   refine Ai <| Bz <| Ac <| Ak <| Aj F (Aa (Bq rfl rfl) <| Aa (Af rfl) <| Ad) fun _ F => Ai ?_
   obtain rfl := An H
   refine Ac ?_
   exact ⟨_, rfl, v3, F.sub ⟨rfl, rfl, rfl, rfl, trivial⟩, s4⟩
  replace H := Bc h2 H
  refine Ca <| Bp <| Bp <| Cb ?_
  obtain rfl := An H
  obtain rfl := hr _ rfl
  refine Ac ?_
  exact ⟨v3, F.sub ⟨rfl, rfl, trivial⟩, s3⟩
 intro _ w3 hJ
 obtain ⟨v2, F, s5⟩ := hJ
 have H := R0
 clear R0 H0
 refine Ac <| Ah <| Ak ?_
 refine Cs (parts := [(0, .const (.int .i64 0))]) (Flat.int .i64) ([0] : List Int) F s5 Fx.sl95 rfl (by decide) rfl rfl rfl (by simp [Value.cells]) rfl rfl rfl fun v4 w4 _ F s6 => ?_
 refine Aj F (Aa (Al rfl) <| Ad) fun _ F => Ai <| Ac <| Ah ?_
 obtain ⟨o2, H1, R1⟩ := Ap H
 clear H
 refine Bx (fun a w_ => ∃ v5 : Value, Fr a 65 [(0, v0), (3, v5)] ∧ SL w [] w_ [Sl Ty.bool v5 o2]) ?_ ?_
 ·have H := H1
  refine Bh <| Cu (provisoref19_dead_b1 a0) (fun s7 a w_ => ∃ v6 v7 : Value, Fr a 65 [(0, v0), (3, v6), (5, v7)] ∧ SL w [] w_ [Sl Ty.bool v6 s7.1, Sl (Ty.int .i64) v7 s7.2]) H ?_ ?_
  ·exact ⟨v2, v4, F.sub ⟨rfl, rfl, rfl, trivial⟩, s6.f1⟩
  intro s7 _ w5 h6 o3 H hr
  obtain ⟨v6, v7, F, s8⟩ := h6
  replace H : provisoref19_dead_b1 a0 s7 = some o3 := H
  unfold provisoref19_dead_b1 at H
  refine Ah <| Ah <| Ak <| Aj F (Aa (Af rfl) <| Aa (Cc rfl Tryz.underlying95 (Bu (s8.own_rd (.tail _ <| .head _)))) <| Aa (ex_gt rfl rfl) <| Ad) fun _ F => Ai <| Ac <| Bm F rfl (fun h7 => ?_) (fun h7 => ?_)
  ·replace H := Bb h7 H
   refine Aw <| Ac <| Bh <| Ah <| Ak ?_
   obtain ⟨x2, h8, H⟩ := Ap H
   obtain ⟨a3, h9, ha⟩ := Ch (Flat.int .i64) s8 (.tail _ <| .head _) Fx.sl95 rfl h8
   refine Aj F (Aa (Af rfl) <| Aa (h9 _ _ _ _ _ _ _ _ _ _ rfl rfl) <| Aa (Az Fx.nag3 rfl (Cells.at_ (SL.elcells (Flat.int .i64) s8 (.tail _ <| .head _) ha h8) (o := 0) rfl)) <| Aa (Al rfl) <| Ad) fun _ F => Ai <| Ac <| Ah <| Ak ?_
   obtain ⟨x3, hb, H⟩ := Ap H
   refine Aj F (Aa (Af rfl) <| Ad) fun _ F => ?_
   obtain ⟨v8, hc, s9⟩ := SL.cutown s8.f1 Fx.sl95 rfl hb (some 1) none (.inl rfl) (.inr ⟨rfl, rfl⟩)
   refine Bt F (hc _ _ _ _ _ .i64 .i64 _ _ _ _ _ rfl rfl trivial) rfl rfl rfl fun _ F => Aj F (Aa (Al rfl) <| Ad) fun _ F => Ai <| Ac <| Ah <| Ah <| Ak ?_
   obtain ⟨x4, hd, H⟩ := Ap H
   obtain ⟨a4, he, hf⟩ := Ch Flat.bool s9 (.tail _ <| .head _) Fx.sl99 rfl hd
   refine Aj F (Aa (Af rfl) <| Aa (Af rfl) <| Aa (he _ _ _ _ _ _ _ _ _ _ rfl rfl) <| Aa (Az Fx.nag4 rfl (Cells.at_ (SL.elcells Flat.bool s9 (.tail _ <| .head _) hf hd) (o := 0) rfl)) <| Aa (Da rfl) <| Ad) fun _ F => Ai <| Ac <| Bm F rfl (fun hg => ?_) (fun hg => ?_)
   ·replace H := Bb hg H
    refine Ca <| Bp <| Cb ?_
    obtain rfl := An H
    refine Ac ?_
    exact ⟨_, rfl, v6, v8, F.sub ⟨rfl, rfl, rfl, trivial⟩, s9.f1⟩
   replace H := Bc hg H
   refine Aw <| Ac <| Ah <| Ak ?_
   obtain ⟨x5, hh, H⟩ := Ap H
   obtain ⟨a5, hi, hj⟩ := Ch Flat.bool s9 (.tail _ <| .head _) Fx.sl99 rfl hh
   refine Aj F (Aa (Af rfl) <| Aa (Af rfl) <| Aa (hi _ _ _ _ _ _ _ _ _ _ rfl rfl) <| Ad) fun _ F => ?_
   refine Cx (y' := false) Flat.bool F s9.f1 hj hh rfl rfl (by rfl) Fx.sz4 fun w6 _ F sa => ?_
   refine Ai <| Ac <| Ah <| Ah <| Ak ?_
   obtain ⟨x6, hk, H⟩ := Ap H
   obtain ⟨a6, hl, hm⟩ := Dg F_provisoref19_ins (Cv hr0 sa) Fx.sl86 rfl hk
   refine Aj F (Aa (Af rfl) <| Aa (Af rfl) <| Aa (hl _ _ _ _ _ _ _ _ _ _ rfl rfl) <| Aa (Cw Fx.fa111_3 rfl) <| Aa (Az Fx.nag3 rfl (Cells.at_ hm (o := 3) rfl)) <| Aa (ex_ge rfl rfl) <| Ad) fun _ F => Ai <| Ac <| Bm F rfl (fun hn => ?_) (fun hn => ?_)
   ·replace H := Bb hn H
    refine Ak ?_
    obtain ⟨x7, ho, H⟩ := Ap H
    obtain ⟨a7, hp, hq⟩ := Dg F_provisoref19_ins (Cv hr0 sa) Fx.sl86 rfl ho
    refine Aj F (Aa (Af rfl) <| Aa (Af rfl) <| Aa (Af rfl) <| Aa (hp _ _ _ _ _ _ _ _ _ _ rfl rfl) <| Aa (Cw Fx.fa111_3 rfl) <| Aa (Az Fx.nag3 rfl (Cells.at_ hq (o := 3) rfl)) <| Ad) fun _ F => ?_
    refine Cs (parts := [(0, .tmp 47)]) (Flat.int .i64) ([x7.to] : List Int) F sa Fx.sl95 rfl (by decide) rfl rfl rfl (by simp [Value.cells]) rfl rfl rfl fun v9 w7 _ F sb => ?_
    obtain ⟨x8, hs, H⟩ := Ap H
    have sc := sb.f2
    obtain ⟨_, hr_⟩ := (sc.own_rd (.tail _ <| .head _))
    refine Ci (Flat.int .i64) F sc Fx.sl95 rfl rfl rfl rfl hr_ rfl rfl hs rfl fun va w8 _ F sd => ?_
    have s4471' := sd.f1.drop
    refine Aj F (Aa (Al rfl) <| Ad) fun _ F => Ai <| Ac <| Ah <| Ak ?_
    obtain ⟨x9, ht, H⟩ := Ap H
    obtain ⟨a8, hu, hv⟩ := Dg F_provisoref19_ins (Cv hr0 s4471') Fx.sl86 rfl ht
    obtain ⟨xa, hw, H⟩ := Ap H
    refine Aj F (Aa (Af rfl) <| Aa (Af rfl) <| Aa (hu _ _ _ _ _ _ _ _ _ _ rfl rfl) <| Aa (Cw Fx.fa111_0 rfl) <| Aa (Az Fx.nag5 rfl (Cells.at_ hv (o := 0) rfl)) <| Ad) fun _ F => Bk (args := [.tmp 54]) F Fx.fn63 rfl (provisoref04_Ends_c (a0 := x9.op)    hw) rfl fun vb w9 _ hx F => ?_
    obtain ⟨rfl, hy⟩ := hx
    have se := s4471'.add hy
    refine Aj F (Aa (Da rfl) <| Ad) fun _ F => Ai <| Ac <| Bm F rfl (fun hz => ?_) (fun hz => ?_)
    ·replace H := Bb hz H
     refine Ak <| Aj F (Aa (Af rfl) <| Aa (Af rfl) <| Aa (Bq rfl rfl) <| Ad) fun _ F => ?_
     refine Cs (parts := [(0, .tmp 59)]) (Flat.int .i64) ([wr (x2 + 1)] : List Int) F se Fx.sl95 rfl (by decide) rfl rfl rfl (by simp [Value.cells]) rfl rfl rfl fun vc wa _ F sf => ?_
     obtain ⟨xb, h10, H⟩ := Ap H
     have sg := sf.f1
     obtain ⟨_, hr_⟩ := (sg.own_rd (.tail _ <| .head _))
     refine Ci (Flat.int .i64) F sg Fx.sl95 rfl rfl rfl rfl hr_ rfl rfl h10 rfl fun vd wb _ F sh => ?_
     have s4526' := sh.f1.drop
     refine Aj F (Aa (Al rfl) <| Ad) fun _ F => Ai <| Bz ?_
     obtain rfl := An H
     refine Ac ?_
     exact ⟨_, rfl, v6, vd, F.sub ⟨rfl, rfl, rfl, trivial⟩, s4526'.f1⟩
    replace H := Bc hz H
    refine Aw <| Bz ?_
    obtain rfl := An H
    refine Ac ?_
    exact ⟨_, rfl, v6, va, F.sub ⟨rfl, rfl, rfl, trivial⟩, se.f1⟩
   replace H := Bc hn H
   refine Aw <| Ac <| Ah <| Ak ?_
   obtain ⟨xc, h11, H⟩ := Ap H
   obtain ⟨a9, h12, h13⟩ := Dg F_provisoref19_ins (Cv hr0 sa) Fx.sl86 rfl h11
   obtain ⟨xd, h14, H⟩ := Ap H
   refine Aj F (Aa (Af rfl) <| Aa (Af rfl) <| Aa (h12 _ _ _ _ _ _ _ _ _ _ rfl rfl) <| Aa (Cw Fx.fa111_0 rfl) <| Aa (Az Fx.nag5 rfl (Cells.at_ h13 (o := 0) rfl)) <| Ad) fun _ F => Bk (args := [.tmp 54]) F Fx.fn63 rfl (provisoref04_Ends_c (a0 := xc.op)    h14) rfl fun ve wc _ h15 F => ?_
   obtain ⟨rfl, h16⟩ := h15
   have si := sa.add h16
   refine Aj F (Aa (Da rfl) <| Ad) fun _ F => Ai <| Ac <| Bm F rfl (fun h17 => ?_) (fun h17 => ?_)
   ·replace H := Bb h17 H
    refine Ak <| Aj F (Aa (Af rfl) <| Aa (Af rfl) <| Aa (Bq rfl rfl) <| Ad) fun _ F => ?_
    refine Cs (parts := [(0, .tmp 59)]) (Flat.int .i64) ([wr (x2 + 1)] : List Int) F si Fx.sl95 rfl (by decide) rfl rfl rfl (by simp [Value.cells]) rfl rfl rfl fun vf wd _ F sj => ?_
    obtain ⟨xe, h18, H⟩ := Ap H
    have sk := sj.f2
    obtain ⟨_, hr_⟩ := (sk.own_rd (.tail _ <| .head _))
    refine Ci (Flat.int .i64) F sk Fx.sl95 rfl rfl rfl rfl hr_ rfl rfl h18 rfl fun vg we _ F sl => ?_
    have s4581' := sl.f1.drop
    refine Aj F (Aa (Al rfl) <| Ad) fun _ F => Ai <| Bz ?_
    obtain rfl := An H
    refine Ac ?_
    exact ⟨_, rfl, v6, vg, F.sub ⟨rfl, rfl, rfl, trivial⟩, s4581'.f1⟩
   replace H := Bc h17 H
   refine Aw <| Bz ?_
   obtain rfl := An H
   refine Ac ?_
   exact ⟨_, rfl, v6, v8, F.sub ⟨rfl, rfl, rfl, trivial⟩, si⟩
  replace H := Bc h7 H
  refine Ca <| Bp <| Bp <| Cb ?_
  obtain rfl := An H
  obtain rfl := hr _ rfl
  refine Ac ?_
  exact ⟨v6, F.sub ⟨rfl, rfl, trivial⟩, s8.f1.drop⟩
 intro _ wf hJ
 obtain ⟨v5, F, sm⟩ := hJ
 have H := R1
 clear R1 H1
 refine Ac <| Ah <| Ak ?_
 obtain ⟨xf, h19, H⟩ := Ap H
 refine Aj F (Aa (Af rfl) <| Aa (Af rfl) <| Ad) fun _ F => Bk (args := [.tmp 62, .tmp 63]) F Fx.fn65 rfl (provisoref19_left_c (a0 := a0) (a1 := o2)   (hr0.pass0 sm) (sm.rd0 (.head _)) h19) rfl fun vh wg _ h1a F => ?_
 obtain ⟨_, rfl, h1b⟩ := h1a
 have sn := sm.add h1b
 refine Aj F (Aa (Al rfl) <| Ad) fun _ F => Ai <| Ac ?_
 obtain rfl := An H
 refine Bd ?_
 refine Av (rs := [.tmp 2]) (vs := [vh]) F (by rfl) ⟨_, _, rfl, Ay rfl, rfl⟩ ⟨_, rfl, ⟨vh, rfl, sn.f1.drop⟩⟩
-- proviso/provisoref19.threads
theorem provisoref19_threads_c {w : World} {v0 : Value} {a0 : List S_provisoref19_ins} {r : (List S_provisoref19_ins)} (hr0 : Rd T_provisoref19_ins w [] v0 a0) (H : provisoref19_threads a0 = some r) :
    Calls Tryz.prog 45 #[v0] w (Ret fun u_ w_ => ∃ u0 : Value, u_ = u0 ∧ SL w [] w_ [Sl T_provisoref19_ins u0 r]) := by
 have s0 : SL w [] w [] := SL.init0 w
 refine Bn Tryz.func45 rfl Tryz.ntmps45 (Ag rfl) (args := [v0]) fun q0 F0 => ?_
 unfold provisoref19_threads at H
 refine Ah <| Ak <| Aj F0 (Aa (Al rfl) <| Ad) fun q3 F4 => Ai <| Ac <| Ah <| Ak <| Aj F4 (Aa (Al rfl) <| Ad) fun q7 F8 => Ai <| Ac <| Ah <| Ah <| Ak <| Aj F8 (Aa (Af rfl) <| Aa (Cc rfl Tryz.underlying86 (Bu (Cv hr0 s0))) <| Aa (Af rfl) <| Ad) fun _ F => Ai <| Ac ?_
 obtain ⟨o0, H0, R0⟩ := Ap H
 clear H
 refine Bx (fun a w_ => ∃ v1 : Value, Fr a 72 [(3, v1)] ∧ SL w [] w_ [Sl T_provisoref19_ins v1 o0]) ?_ ?_
 ·have H := H0
  refine Bh <| Cu (provisoref19_threads_b1 a0) (fun s1 a w_ => ∃ v2 : Value, Fr a 72 [(0, v0), (3, v2), (8, v0), (9, .int .i64 (a0.length : Int)), (10, .int .i64 s1.2)] ∧ SL w [] w_ [Sl T_provisoref19_ins v2 s1.1]) H ?_ ?_
  ·exact ⟨(.slice none 0 0), F.sub ⟨rfl, rfl, rfl, rfl, rfl, trivial⟩, (SL.nilSl (T := T_provisoref19_ins) s0)⟩
  intro s1 _ w0 h0 o1 H hr
  obtain ⟨v2, F, s2⟩ := h0
  replace H : provisoref19_threads_b1 a0 s1 = some o1 := H
  unfold provisoref19_threads_b1 at H
  refine Ah <| Ak <| Aj F (Aa (Cr rfl rfl) <| Ad) fun _ F => Ai <| Ac <| Ah <| Bm F rfl (fun h1 => ?_) (fun h1 => ?_)
  ·replace H := Bb h1 H
   refine Aw <| Ac <| Ah <| Bh <| Ah <| Ak ?_
   obtain ⟨x0, h2, H⟩ := Ap H
   obtain ⟨a1, h3, h4⟩ := Dg F_provisoref19_ins (Cv hr0 s2) Fx.sl86 rfl h2
   refine Aj F (Aa (Af rfl) <| Aa (h3 _ _ _ _ _ _ _ _ _ _ rfl rfl) <| Aa (Bj Fx.agg111 rfl h4 rfl) <| Ad) fun _ F => Bo F s2 Fx.zero111 rfl rfl fun g0 w1 _ F s3 => Aj F (Aa (Al rfl) <| Ad) fun _ F => ?_
   have s4 := s3
   refine As F s4 rfl rfl Fx.sz111 (Ae rfl (Ae rfl (Ae rfl (Ae rfl Ba)))) (Ag rfl) fun w2 _ F s5 => ?_
   replace s5 : SL w [] w2 [Blk g0 111 [.int .u8 (x0.op.toNat : Int), .int .i64 x0.a, .int .i64 x0.b, .int .i64 x0.to], Sl T_provisoref19_ins v2 s1.1] := s5
   refine Ai <| Ac <| Ah ?_
   obtain ⟨o2, H1, R1⟩ := Ap H
   clear H
   refine Bx (fun a w_ => Fr a 72 [(0, v0), (3, v2), (5, .pointer (some ⟨g0, 0, none⟩)), (8, v0), (9, .int .i64 (a0.length : Int)), (10, .int .i64 s1.2)] ∧ SL w [] w_ [Blk g0 111 [.int .u8 (x0.op.toNat : Int), .int .i64 x0.a, .int .i64 x0.b, .int .i64 o2], Sl T_provisoref19_ins v2 s1.1]) ?_ ?_
   ·have H := H1
    refine Ah <| Ak <| Aj F (Aa (Ax Fx.fa111_3 rfl rfl) <| Aa (Az Fx.nag3 rfl (s5.blk_cell (.head _) rfl)) <| Aa (ex_ge rfl rfl) <| Aa (Af rfl) <| Ad) fun _ F => Bl (decide (x0.to ≥ 0)) (fun h5 => ?_) (fun h5 => ?_)
    ·replace H := Bb h5 H
     refine Aq F rfl rfl (Am rfl h5) (Ax Fx.fa111_3 rfl rfl) rfl rfl fun _ F => Aq F rfl rfl (Am rfl h5) (Az Fx.nag3 rfl (s5.blk_cell (.head _) rfl)) rfl rfl fun _ F => Aq F rfl rfl (Am rfl h5) (Af rfl) rfl rfl fun _ F => Aq F rfl rfl (Am rfl h5) (De rfl rfl) rfl rfl fun _ F => Aj F (Aa (Bf (By rfl h5) rfl) <| Aa (Af rfl) <| Ad) fun _ F => Bl (x0.to != s1.2) (fun h6 => ?_) (fun h6 => ?_)
     ·replace H := Bb h6 H
      refine Aq F rfl rfl (Am rfl h6) (Af rfl) rfl rfl fun _ F => Aq F rfl rfl (Am rfl h6) (Ax Fx.fa111_3 rfl rfl) rfl rfl fun _ F => Aq F rfl rfl (Am rfl h6) (Az Fx.nag3 rfl (s5.blk_cell (.head _) rfl)) rfl rfl fun _ F => ?_
      obtain ⟨x1, h7, H⟩ := Ap H
      obtain ⟨a2, h8, h9⟩ := Dg F_provisoref19_ins (Cv hr0 s5) Fx.sl86 rfl h7
      refine Aq F rfl rfl (Am rfl h6) (h8 _ _ _ _ _ _ _ _ _ _ rfl rfl) rfl rfl fun _ F => Aq F rfl rfl (Am rfl h6) (Cw Fx.fa111_0 rfl) rfl rfl fun _ F => Aq F rfl rfl (Am rfl h6) (Az Fx.nag5 rfl (Cells.at_ h9 (o := 0) rfl)) rfl rfl fun _ F => Aq F rfl rfl (Am rfl h6) (Bw rfl rfl) rfl rfl fun _ F => Aj F (Aa (Bf (By rfl h6) rfl) <| Ad) fun _ F => Ai <| Ac <| Bm F rfl (fun ha => ?_) (fun ha => ?_)
      ·replace H := Bb ha H
       refine Ah <| Ak ?_
       obtain ⟨x2, hb, H⟩ := Ap H
       refine Aj F (Aa (Af rfl) <| Aa (Cc rfl Tryz.underlying86 (Bu (Cv hr0 s5))) <| Ad) fun _ F => st_make Flat.bool false F s5 Fx.sl99 rfl rfl Fx.zero4 rfl rfl rfl hb rfl fun v3 w3 _ F s6 => Aj F (Aa (Al rfl) <| Ad) fun _ F => Ai <| Ac <| Ah <| Ak <| Aj F (Aa (Ax Fx.fa111_3 rfl rfl) <| Aa (Az Fx.nag3 rfl (s6.blk_cell (.tail _ <| .head _) rfl)) <| Aa (Al rfl) <| Ad) fun _ F => Ai <| Ac <| Ah ?_
       obtain ⟨o3, H2, R2⟩ := Ap H
       clear H
       refine Bx (fun a w_ => ∃ v4 : Value, Fr a 72 [(0, v0), (3, v2), (5, .pointer (some ⟨g0, 0, none⟩)), (6, v4), (7, .int .i64 o3.2), (8, v0), (9, .int .i64 (a0.length : Int)), (10, .int .i64 s1.2), (19, .pointer (some ⟨g0, 3, none⟩)), (20, .int .i64 x0.to), (21, .int .i64 s1.2), (22, .bool (x0.to != s1.2)), (25, v0), (26, .pointer (some ⟨g0, 3, none⟩)), (27, .int .i64 x0.to), (30, .int .u8 (x1.op.toNat : Int)), (31, .bool ((x1.op.toNat : Int) == 19))] ∧ SL w [] w_ [Blk g0 111 [.int .u8 (x0.op.toNat : Int), .int .i64 x0.a, .int .i64 x0.b, .int .i64 x0.to], Sl T_provisoref19_ins v2 s1.1, Sl Ty.bool v4 o3.1]) ?_ ?_
       ·have H := H2
        refine Bh <| Cu (provisoref19_threads_b0 a0) (fun s7 a w_ => ∃ v5 : Value, Fr a 72 [(0, v0), (3, v2), (5, .pointer (some ⟨g0, 0, none⟩)), (6, v5), (7, .int .i64 s7.2), (8, v0), (9, .int .i64 (a0.length : Int)), (10, .int .i64 s1.2), (19, .pointer (some ⟨g0, 3, none⟩)), (20, .int .i64 x0.to), (21, .int .i64 s1.2), (22, .bool (x0.to != s1.2)), (25, v0), (26, .pointer (some ⟨g0, 3, none⟩)), (27, .int .i64 x0.to), (30, .int .u8 (x1.op.toNat : Int)), (31, .bool ((x1.op.toNat : Int) == 19))] ∧ SL w [] w_ [Blk g0 111 [.int .u8 (x0.op.toNat : Int), .int .i64 x0.a, .int .i64 x0.b, .int .i64 x0.to], Sl T_provisoref19_ins v2 s1.1, Sl Ty.bool v5 s7.1]) H ?_ ?_
        ·exact ⟨v3, F.sub ⟨rfl, rfl, rfl, rfl, rfl, rfl, rfl, rfl, rfl, rfl, rfl, rfl, rfl, rfl, rfl, rfl, rfl, trivial⟩, s6.f2.f2⟩
        intro s7 _ w4 hc o4 H hr
        obtain ⟨v5, F, s8⟩ := hc
        replace H : provisoref19_threads_b0 a0 s7 = some o4 := H
        unfold provisoref19_threads_b0 at H
        refine Ah <| Ah <| Ak ?_
        obtain ⟨x3, hd, H⟩ := Ap H
        obtain ⟨a3, he, hf⟩ := Dg F_provisoref19_ins (Cv hr0 s8) Fx.sl86 rfl hd
        refine Aj F (Aa (Af rfl) <| Aa (Af rfl) <| Aa (he _ _ _ _ _ _ _ _ _ _ rfl rfl) <| Aa (Cw Fx.fa111_0 rfl) <| Aa (Az Fx.nag5 rfl (Cells.at_ hf (o := 0) rfl)) <| Aa (Bw rfl rfl) <| Aa (Af rfl) <| Ad) fun _ F => Bl ((x3.op.toNat : Int) == 19) (fun hg => ?_) (fun hg => ?_)
        ·replace H := Bb hg H
         refine Aq F rfl rfl (Am rfl hg) (Af rfl) rfl rfl fun _ F => Aq F rfl rfl (Am rfl hg) (Af rfl) rfl rfl fun _ F => ?_
         obtain ⟨x4, hh, H⟩ := Ap H
         obtain ⟨a4, hi, hj⟩ := Ch Flat.bool s8 (.tail _ <| .tail _ <| .head _) Fx.sl99 rfl hh
         refine Aq F rfl rfl (Am rfl hg) (hi _ _ _ _ _ _ _ _ _ _ rfl rfl) rfl rfl fun _ F => Aq F rfl rfl (Am rfl hg) (Az Fx.nag4 rfl (Cells.at_ (SL.elcells Flat.bool s8 (.tail _ <| .tail _ <| .head _) hj hh) (o := 0) rfl)) rfl rfl fun _ F => Aq F rfl rfl (Am rfl hg) (Da rfl) rfl rfl fun _ F => Aj F (Aa (Bf (By rfl hg) rfl) <| Ad) fun _ F => Ai <| Ac <| Bm F rfl (fun hk => ?_) (fun hk => ?_)
         ·replace H := Bb hk H
          refine Aw <| Ac <| Bh <| Ah <| Ak ?_
          obtain ⟨x5, hl, H⟩ := Ap H
          obtain ⟨a5, hm, hn⟩ := Ch Flat.bool s8 (.tail _ <| .tail _ <| .head _) Fx.sl99 rfl hl
          refine Aj F (Aa (Af rfl) <| Aa (Af rfl) <| Aa (hm _ _ _ _ _ _ _ _ _ _ rfl rfl) <| Ad) fun _ F => ?_
          refine Cx (y' := true) Flat.bool F s8.f2 hn hl rfl rfl (by rfl) Fx.sz4 fun w5 _ F s9 => ?_
          refine Ai <| Ac <| Ak ?_
          obtain ⟨x6, ho, H⟩ := Ap H
          obtain ⟨a6, hp, hq⟩ := Dg F_provisoref19_ins (Cv hr0 s9) Fx.sl86 rfl ho
          refine Aj F (Aa (Af rfl) <| Aa (Af rfl) <| Aa (hp _ _ _ _ _ _ _ _ _ _ rfl rfl) <| Aa (Cw Fx.fa111_3 rfl) <| Aa (Az Fx.nag3 rfl (Cells.at_ hq (o := 3) rfl)) <| Aa (Al rfl) <| Ad) fun _ F => Ai <| Bz ?_
          obtain rfl := An H
          refine Ac ?_
          exact ⟨_, rfl, v5, F.sub ⟨rfl, rfl, rfl, rfl, rfl, rfl, rfl, rfl, rfl, rfl, rfl, rfl, rfl, rfl, rfl, rfl, rfl, trivial⟩, s9.f2.f2⟩
         replace H := Bc hk H
         refine Ca <| Bp <| Bp <| Cb ?_
         obtain rfl := An H
         obtain rfl := hr _ rfl
         refine Ac ?_
         exact ⟨v5, F.sub ⟨rfl, rfl, rfl, rfl, rfl, rfl, rfl, rfl, rfl, rfl, rfl, rfl, rfl, rfl, rfl, rfl, rfl, trivial⟩, s8⟩
        replace H := Bc hg H
        refine Ao F rfl rfl (Am rfl hg) Ab rfl rfl fun _ F => Ao F rfl rfl (Am rfl hg) Ab rfl rfl fun _ F => Ao F rfl rfl (Am rfl hg) Ab rfl rfl fun _ F => Ao F rfl rfl (Am rfl hg) Ab rfl rfl fun _ F => Ao F rfl rfl (Am rfl hg) Ab rfl rfl fun _ F => Aj F (Aa (Bi (By rfl hg) rfl) <| Ad) fun _ F => Ai <| Ac <| Cm F rfl <| Ca <| Bp <| Bp <| Cb ?_
        obtain rfl := An H
        obtain rfl := hr _ rfl
        refine Ac ?_
        exact ⟨v5, F.sub ⟨rfl, rfl, rfl, rfl, rfl, rfl, rfl, rfl, rfl, rfl, rfl, rfl, rfl, rfl, rfl, rfl, rfl, trivial⟩, s8⟩
       intro _ w6 hJ
       obtain ⟨v4, F, sa⟩ := hJ
       have H := R2
       clear R2 H2
       refine Ac <| Ah <| Ak ?_
       obtain ⟨x7, hs, H⟩ := Ap H
       obtain ⟨a7, ht, hv⟩ := Ch Flat.bool sa (.tail _ <| .tail _ <| .head _) Fx.sl99 rfl hs
       refine Aj F (Aa (Af rfl) <| Aa (Af rfl) <| Aa (ht _ _ _ _ _ _ _ _ _ _ rfl rfl) <| Aa (Az Fx.nag4 rfl (Cells.at_ (SL.elcells Flat.bool sa (.tail _ <| .tail _ <| .head _) hv hs) (o := 0) rfl)) <| Aa (Da rfl) <| Ad) fun _ F => Ai <| Ac <| Bm F rfl (fun hw => ?_) (fun hw => ?_)
       ·replace H := Bb hw H
        refine Ak <| Aj F (Aa (Af rfl) <| Aa (Ax Fx.fa111_3 rfl rfl) <| Ad) fun _ F => ?_
        have sb := sa
        refine Cq F sb rfl rfl Fx.sz3 rfl rfl rfl fun w7 _ F sc => ?_
        replace sc : SL w [] w7 [Blk g0 111 [.int .u8 (x0.op.toNat : Int), .int .i64 x0.a, .int .i64 x0.b, .int .i64 o3.2], Sl T_provisoref19_ins v2 s1.1, Sl Ty.bool v4 o3.1] := sc
        refine Ai ?_
        obtain rfl := An H
        refine Ac ?_
        exact ⟨F.sub ⟨rfl, rfl, rfl, rfl, rfl, rfl, trivial⟩, sc.f2.drop⟩
       replace H := Bc hw H
       refine Aw ?_
       obtain rfl := An H
       refine Ac ?_
       exact ⟨F.sub ⟨rfl, rfl, rfl, rfl, rfl, rfl, trivial⟩, sa.f2.drop⟩
      replace H := Bc ha H
      refine Aw ?_
      obtain rfl := An H
      refine Ac ?_
      exact ⟨F.sub ⟨rfl, rfl, rfl, rfl, rfl, rfl, trivial⟩, s5⟩
     replace H := Bc h6 H
     refine Ao F rfl rfl (Am rfl h6) Ab rfl rfl fun _ F => Ao F rfl rfl (Am rfl h6) Ab rfl rfl fun _ F => Ao F rfl rfl (Am rfl h6) Ab rfl rfl fun _ F => Ao F rfl rfl (Am rfl h6) Ab rfl rfl fun _ F => Ao F rfl rfl (Am rfl h6) Ab rfl rfl fun _ F => Ao F rfl rfl (Am rfl h6) Ab rfl rfl fun _ F => Ao F rfl rfl (Am rfl h6) Ab rfl rfl fun _ F => Aj F (Aa (Bi (By rfl h6) rfl) <| Ad) fun _ F => Ai <| Ac <| Cm F rfl <| Aw ?_
     obtain rfl := An H
     refine Ac ?_
     exact ⟨F.sub ⟨rfl, rfl, rfl, rfl, rfl, rfl, trivial⟩, s5⟩
    replace H := Bc h5 H
    refine Ao F rfl rfl (Am rfl h5) Ab rfl rfl fun _ F => Ao F rfl rfl (Am rfl h5) Ab rfl rfl fun _ F => Ao F rfl rfl (Am rfl h5) Ab rfl rfl fun _ F => Ao F rfl rfl (Am rfl h5) Ab rfl rfl fun _ F => Aj F (Aa (Bi (By rfl h5) rfl) <| Aa (Af rfl) <| Ad) fun _ F => Ao F rfl rfl rfl Ab rfl rfl fun _ F => Ao F rfl rfl rfl Ab rfl rfl fun _ F => Ao F rfl rfl rfl Ab rfl rfl fun _ F => Ao F rfl rfl rfl Ab rfl rfl fun _ F => Ao F rfl rfl rfl Ab rfl rfl fun _ F => Ao F rfl rfl rfl Ab rfl rfl fun _ F => Ao F rfl rfl rfl Ab rfl rfl fun _ F => Aj F (Aa (Bi rfl rfl) <| Ad) fun _ F => Ai <| Ac <| Cm F rfl <| Aw ?_
    obtain rfl := An H
    refine Ac ?_
    exact ⟨F.sub ⟨rfl, rfl, rfl, rfl, rfl, rfl, trivial⟩, s5⟩
   intro _ w8 hJ
   obtain ⟨F, sd⟩ := hJ
   have H := R1
   clear R1 H1
   refine Ac <| Ak <| Aj F (Aa (Af rfl) <| Aa (Bj Fx.agg111 rfl (sd.blk_cells (.head _) (o := 0) (ds := [.int .u8 (x0.op.toNat : Int), .int .i64 x0.a, .int .i64 x0.b, .int .i64 o2]) (fun j u hu => by rw [Nat.zero_add]; exact hu)) rfl) <| Ad) fun _ F => ?_
   refine Cs (parts := [(0, .tmp 67)]) F_provisoref19_ins ([(⟨x0.op, x0.a, x0.b, o2⟩ : S_provisoref19_ins)] : List S_provisoref19_ins) F sd Fx.sl86 rfl (by decide) rfl rfl rfl (by simp [Value.cells]) rfl rfl rfl fun v6 w9 _ F se => ?_
   obtain ⟨x8, hx, H⟩ := Ap H
   have sf := se.f2
   obtain ⟨_, hr_⟩ := (sf.own_rd (.tail _ <| .head _))
   refine Ci F_provisoref19_ins F sf Fx.sl86 rfl rfl rfl rfl hr_ rfl rfl hx rfl fun v7 wa _ F sg => ?_
   have s213547' := sg.f1.drop
   refine Aj F (Aa (Al rfl) <| Ad) fun _ F => Ai <| Bz <| Ac <| Ak <| Aj F (Aa (Bq rfl rfl) <| Aa (Af rfl) <| Ad) fun _ F => Ai ?_
   obtain rfl := An H
   refine Ac ?_
   exact ⟨_, rfl, v7, F.sub ⟨rfl, rfl, rfl, rfl, rfl, trivial⟩, s213547'.f1.drop⟩
  replace H := Bc h1 H
  refine Ca <| Bp <| Bp <| Cb ?_
  obtain rfl := An H
  obtain rfl := hr _ rfl
  refine Ac ?_
  exact ⟨v2, F.sub ⟨rfl, trivial⟩, s2⟩
 intro _ wb hJ
 obtain ⟨v1, F, sh⟩ := hJ
 have H := R0
 clear R0 H0
 refine Ac <| Ah <| Ak <| Aj F (Aa (Af rfl) <| Aa (Al rfl) <| Ad) fun _ F => Ai <| Ac ?_
 obtain rfl := An H
 refine Bd ?_
 refine Av (rs := [.tmp 2]) (vs := [v1]) F (by rfl) ⟨_, _, rfl, Ay rfl, rfl⟩ ⟨_, rfl, ⟨v1, rfl, sh⟩⟩
-- proviso/provisoref19.same
theorem provisoref19_same_c {w : World} {v0 v1 : Value} {a0 : List S_provisoref19_ins} {a1 : List S_provisoref19_ins} {r : Bool} (hr0 : Rd T_provisoref19_ins w [] v0 a0) (hr1 : Rd T_provisoref19_ins w [] v1 a1) (H : provisoref19_same a0 a1 = some r) :
    Calls Tryz.prog 46 #[v0, v1] w (Ret fun u_ w_ => u_ = .bool r ∧ SL w [] w_ []) := by
 have s0 : SL w [] w [] := SL.init0 w
 refine Bn Tryz.func46 rfl Tryz.ntmps46 (Ag rfl) (args := [v0, v1]) fun q0 F0 => ?_
 unfold provisoref19_same at H
 refine Ah <| Ak <| Aj F0 (Aa (Al rfl) <| Ad) fun q3 F4 => Ai <| Ac <| Ah <| Ah <| Ak <| Aj F4 (Aa (Af rfl) <| Aa (Cc rfl Tryz.underlying86 (Bu (Cv hr0 s0))) <| Aa (Af rfl) <| Aa (Cc rfl Tryz.underlying86 (Bu (Cv hr1 s0))) <| Aa (De rfl rfl) <| Ad) fun _ F => Ai <| Ac <| Bm F rfl (fun h0 => ?_) (fun h0 => ?_)
 ·replace H := Bb h0 H
  refine Ah <| Ak <| Aj F (Aa (Al rfl) <| Ad) fun _ F => Ai <| Ac ?_
  obtain rfl := An H
  refine Bd <| Bg ?_
  refine Av (rs := [.tmp 4]) (vs := [.bool false]) F (by rfl) ⟨_, _, rfl, Ay rfl, rfl⟩ ⟨_, rfl, ⟨rfl, s0⟩⟩
 replace H := Bc h0 H
 refine Aw <| Ac <| Ah <| Ah <| Ak <| Aj F (Aa (Af rfl) <| Aa (Cc rfl Tryz.underlying86 (Bu (Cv hr0 s0))) <| Aa (Af rfl) <| Ad) fun _ F => Ai <| Ac ?_
 obtain ⟨o0, H0, R0⟩ := Ap H
 clear H
 refine Bx (fun a w_ => ∃ p0 : Unit, o0 = .inr (p0) ∧ Fr a 26 [] ∧ SL w [] w_ []) ?_ ?_
 ·have H := H0
  refine Bh <| Cu (provisoref19_same_b0 a0 a1) (fun s1 a w_ => Fr a 26 [(0, v0), (1, v1), (12, .int .i64 (a0.length : Int)), (13, .int .i64 s1)] ∧ SL w [] w_ []) H ?_ ?_
  ·exact ⟨F.sub ⟨rfl, rfl, rfl, rfl, trivial⟩, s0⟩
  intro s1 _ w0 h1 o1 H hr
  obtain ⟨F, s2⟩ := h1
  replace H : provisoref19_same_b0 a0 a1 s1 = some o1 := H
  unfold provisoref19_same_b0 at H
  refine Ah <| Ak <| Aj F (Aa (Cr rfl rfl) <| Ad) fun _ F => Ai <| Ac <| Ah <| Bm F rfl (fun h2 => ?_) (fun h2 => ?_)
  ·replace H := Bb h2 H
   refine Aw <| Ac <| Ah <| Bh <| Ah <| Ak <| Aj F (Aa (Af rfl) <| Aa (Al rfl) <| Ad) fun _ F => Ai <| Ac <| Ah ?_
   obtain ⟨x0, h3, H⟩ := Ap H
   obtain ⟨a2, h4, h5⟩ := idxC (C := fun w_ => SL w [] w_ []) F_provisoref19_ins (fun _ hC => (Cv hr0 hC)) s2 Fx.sl86 rfl h3
   obtain ⟨x1, h6, H⟩ := Ap H
   obtain ⟨a3, h7, h8⟩ := idxC (C := fun w_ => SL w [] w_ []) F_provisoref19_ins (fun _ hC => (Cv hr1 hC)) s2 Fx.sl86 rfl h6
   refine wp_regq (fun w_ => SL w [] w_ []) Fx.mixed (by kernel_rfl) s2.drew F (Cg (fun _ hC => Af rfl) <| Cg (fun _ hC => Af rfl) <| Cg (fun _ hC => h4 _ _ _ _ _ _ _ _ _ _ rfl rfl) <| Cg (fun _ hC => Bj Fx.agg111 rfl (h5 _ hC) rfl) <| Cg (fun _ hC => Af rfl) <| Cg (fun _ hC => Af rfl) <| Cg (fun _ hC => h7 _ _ _ _ _ _ _ _ _ _ rfl rfl) <| Cg (fun _ hC => Bj Fx.agg111 rfl (h8 _ hC) rfl) <| Cg (fun _ hC => ex_stne (xs := [.int .u8 (x0.op.toNat : Int), .int .i64 x0.a, .int .i64 x0.b, .int .i64 x0.to]) (ys := [.int .u8 (x1.op.toNat : Int), .int .i64 x1.a, .int .i64 x1.b, .int .i64 x1.to]) Fx.st111 (by decide) rfl rfl (eqat_st Fx.st111 Fx.fl111 (eqf_cons rfl (part_s Fx.nag5 rfl) (part_s Fx.nag5 rfl) (EqAt.up (j := 1) (eqat_u8 Tryz.underlying5) (by decide)) (eqf_cons rfl (part_s Fx.nag3 rfl) (part_s Fx.nag3 rfl) (EqAt.up (j := 1) (eqat_int Tryz.underlying3) (by decide)) (eqf_cons rfl (part_s Fx.nag3 rfl) (part_s Fx.nag3 rfl) (EqAt.up (j := 1) (eqat_int Tryz.underlying3) (by decide)) (eqf_cons rfl (part_s Fx.nag3 rfl) (part_s Fx.nag3 rfl) (EqAt.up (j := 1) (eqat_int Tryz.underlying3) (by decide)) eqf_nil)))))) <| QR.nil) fun w1 _ s3 F => ?_
   refine Ac <| Bm F rfl (fun h9 => ?_) (fun h9 => ?_)
   ·replace H := Bb h9 H
    refine Ah <| Ak <| Aj F (Aa (Al rfl) <| Ad) fun _ F => Ai <| Ac ?_
    obtain rfl := An H
    obtain rfl := hr _ rfl
    replace H := R0
    try dsimp only at H
    obtain rfl := An H
    refine Bd <| blk_r <| Bg <| Bg <| blk_r <| Bg <| Bg ?_
    refine Av (rs := [.tmp 4]) (vs := [.bool false]) F (by rfl) ⟨_, _, rfl, Ay rfl, rfl⟩ ⟨_, rfl, ⟨rfl, s3⟩⟩
   replace H := Bc h9 H
   refine Aw <| Bz <| Ac <| Ak <| Aj F (Aa (Bq rfl rfl) <| Aa (Af rfl) <| Ad) fun _ F => Ai ?_
   obtain rfl := An H
   refine Ac ?_
   exact ⟨_, rfl, F.sub ⟨rfl, rfl, rfl, rfl, trivial⟩, s3⟩
  replace H := Bc h2 H
  refine Ca <| Bp <| Bp <| Cb ?_
  obtain rfl := An H
  obtain rfl := hr _ rfl
  refine Ac ?_
  exact ⟨_, rfl, F.sub trivial, s2⟩
 intro _ w2 hJ
 obtain ⟨p0, rfl, F, s4⟩ := hJ
 have H := R0
 clear R0 H0
 try dsimp only at H
 refine Ac <| Ah <| Ak <| Aj F (Aa (Al rfl) <| Ad) fun _ F => Ai <| Ac ?_
 obtain rfl := An H
 refine Bd ?_
 refine Av (rs := [.tmp 4]) (vs := [.bool true]) F (by rfl) ⟨_, _, rfl, Ay rfl, rfl⟩ ⟨_, rfl, ⟨rfl, s4⟩⟩
-- proviso/provisoref04.fits
theorem provisoref04_fits_c {w : World} {a0 : Int} {a1 : Int} {r : Bool}  (H : provisoref04_fits a0 a1 = some r) :
    Calls Tryz.prog 79 #[.int .i64 a0, .int .i64 a1] w (Ret fun u_ w_ => u_ = .bool r ∧ SL w [] w_ []) := by
 have s0 : SL w [] w [] := SL.init0 w
 refine Bn Tryz.func79 rfl Tryz.ntmps79 (Ag rfl) (args := [.int .i64 a0, .int .i64 a1]) fun q0 F0 => ?_
 unfold provisoref04_fits at H
 refine Ah <| Ak <| Aj F0 (Aa (Al rfl) <| Ad) fun q3 F4 => Ai <| Ac <| Ah <| Ah <| Ak <| Aj F4 (Aa (Af rfl) <| Ad) fun _ F => Ai <| Ac <| Bh <| Ah <| Ak <| Aj F (Aa (Bw rfl rfl) <| Aa (Al rfl) <| Ad) fun _ F => Ai <| Ac <| Bm F rfl (fun h0 => ?_) (fun h0 => ?_)
 ·replace H := Bb h0 H
  refine Ah <| Ak <| Aj F (Aa (Af rfl) <| Aa (Bw rfl rfl) <| Aa (Al rfl) <| Ad) fun _ F => Ai <| Ac ?_
  obtain rfl := An H
  refine Bd <| blk_r <| Bg ?_
  refine Av (rs := [.tmp 4]) (vs := [.bool (a0 == 0)]) F (by rfl) ⟨_, _, rfl, Ay rfl, rfl⟩ ⟨_, rfl, ⟨rfl, s0⟩⟩
 replace H := Bc h0 H
 refine Ah <| Ak <| Aj F (Aa (Bw rfl rfl) <| Aa (Al rfl) <| Ad) fun _ F => Ai <| Ac <| Bm F rfl (fun h1 => ?_) (fun h1 => ?_)
 ·replace H := Bb h1 H
  refine Ah <| Ak <| Aj F (Aa (Af rfl) <| Aa (ex_ge rfl rfl) <| Aa (Af rfl) <| Ad) fun _ F => Bl (decide (a0 ≥ 0)) (fun h2 => ?_) (fun h2 => ?_)
  ·replace H := Bb h2 H
   refine Aq F rfl rfl (Am rfl h2) (Af rfl) rfl rfl fun _ F => Aq F rfl rfl (Am rfl h2) (ex_le rfl rfl) rfl rfl fun _ F => Aj F (Aa (Bf (By rfl h2) rfl) <| Aa (Al rfl) <| Ad) fun _ F => Ai <| Ac ?_
   obtain rfl := An H
   refine Bd <| blk_r <| Bg ?_
   refine Av (rs := [.tmp 4]) (vs := [.bool (decide (a0 ≤ 255))]) F (by rfl) ⟨_, _, rfl, Ay rfl, rfl⟩ ⟨_, rfl, ⟨rfl, s0⟩⟩
  replace H := Bc h2 H
  refine Ao F rfl rfl (Am rfl h2) Ab rfl rfl fun _ F => Ao F rfl rfl (Am rfl h2) Ab rfl rfl fun _ F => Aj F (Aa (Bi (By rfl h2) rfl) <| Aa (Al rfl) <| Ad) fun _ F => Ai <| Ac ?_
  obtain rfl := An H
  refine Bd <| blk_r <| Bg ?_
  refine Av (rs := [.tmp 4]) (vs := [.bool false]) F (by rfl) ⟨_, _, rfl, Ay rfl, rfl⟩ ⟨_, rfl, ⟨rfl, s0⟩⟩
 replace H := Bc h1 H
 refine Ah <| Ak <| Aj F (Aa (Bw rfl rfl) <| Aa (Al rfl) <| Ad) fun _ F => Ai <| Ac <| Bm F rfl (fun h3 => ?_) (fun h3 => ?_)
 ·replace H := Bb h3 H
  refine Ah <| Ak <| Aj F (Aa (Af rfl) <| Aa (ex_ge rfl rfl) <| Aa (Af rfl) <| Ad) fun _ F => Bl (decide (a0 ≥ 0)) (fun h4 => ?_) (fun h4 => ?_)
  ·replace H := Bb h4 H
   refine Aq F rfl rfl (Am rfl h4) (Af rfl) rfl rfl fun _ F => Aq F rfl rfl (Am rfl h4) (ex_le rfl rfl) rfl rfl fun _ F => Aj F (Aa (Bf (By rfl h4) rfl) <| Aa (Al rfl) <| Ad) fun _ F => Ai <| Ac ?_
   obtain rfl := An H
   refine Bd <| blk_r <| Bg ?_
   refine Av (rs := [.tmp 4]) (vs := [.bool (decide (a0 ≤ 65535))]) F (by rfl) ⟨_, _, rfl, Ay rfl, rfl⟩ ⟨_, rfl, ⟨rfl, s0⟩⟩
  replace H := Bc h4 H
  refine Ao F rfl rfl (Am rfl h4) Ab rfl rfl fun _ F => Ao F rfl rfl (Am rfl h4) Ab rfl rfl fun _ F => Aj F (Aa (Bi (By rfl h4) rfl) <| Aa (Al rfl) <| Ad) fun _ F => Ai <| Ac ?_
  obtain rfl := An H
  refine Bd <| blk_r <| Bg ?_
  refine Av (rs := [.tmp 4]) (vs := [.bool false]) F (by rfl) ⟨_, _, rfl, Ay rfl, rfl⟩ ⟨_, rfl, ⟨rfl, s0⟩⟩
 replace H := Bc h3 H
 refine Aw <| Bz <| Ac <| Ah <| Ak <| Aj F (Aa (Af rfl) <| Aa (ex_ge rfl rfl) <| Aa (Af rfl) <| Ad) fun _ F => Bl (decide (a0 ≥ (-2147483648))) (fun h5 => ?_) (fun h5 => ?_)
 ·replace H := Bb h5 H
  refine Aq F rfl rfl (Am rfl h5) (Af rfl) rfl rfl fun _ F => Aq F rfl rfl (Am rfl h5) (ex_le rfl rfl) rfl rfl fun _ F => Aj F (Aa (Bf (By rfl h5) rfl) <| Aa (Al rfl) <| Ad) fun _ F => Ai <| Ac ?_
  obtain rfl := An H
  refine Bd ?_
  refine Av (rs := [.tmp 4]) (vs := [.bool (decide (a0 ≤ 2147483647))]) F (by rfl) ⟨_, _, rfl, Ay rfl, rfl⟩ ⟨_, rfl, ⟨rfl, s0⟩⟩
 replace H := Bc h5 H
 refine Ao F rfl rfl (Am rfl h5) Ab rfl rfl fun _ F => Ao F rfl rfl (Am rfl h5) Ab rfl rfl fun _ F => Aj F (Aa (Bi (By rfl h5) rfl) <| Aa (Al rfl) <| Ad) fun _ F => Ai <| Ac ?_
 obtain rfl := An H
 refine Bd ?_
 refine Av (rs := [.tmp 4]) (vs := [.bool false]) F (by rfl) ⟨_, _, rfl, Ay rfl, rfl⟩ ⟨_, rfl, ⟨rfl, s0⟩⟩
-- proviso/provisoref04.put
theorem provisoref04_put_c {w : World} {FF : List Nat} {v0 : Value} {a0 : List UInt8} {a1 : Int} {a2 : Int} {r : (List UInt8)} (hst : Star [Sl Ty.u8 v0 a0] w FF)  (H : provisoref04_put a0 a1 a2 = some r) :
    Calls Tryz.prog 80 #[v0, .int .i64 a1, .int .i64 a2] w (Ret fun u_ w_ => ∃ u0 : Value, u_ = u0 ∧ SL w FF w_ [Sl Ty.u8 u0 r]) := by
 have s0 : SL w FF w [Sl Ty.u8 v0 a0] := SL.init w FF hst
 refine Bn Tryz.func80 rfl Tryz.ntmps80 (Ag rfl) (args := [v0, .int .i64 a1, .int .i64 a2]) fun q0 F0 => ?_
 unfold provisoref04_put at H
 refine Ah <| Ak <| Aj F0 (Aa (Al rfl) <| Ad) fun q3 F4 => Ai <| Ac <| Ah ?_
 obtain ⟨o0, H0, R0⟩ := Ap H
 clear H
 refine Bx (fun a w_ => Fr a 35 [(0, v0), (1, .int .i64 o0), (2, .int .i64 a2)] ∧ SL w FF w_ [Sl Ty.u8 v0 a0]) ?_ ?_
 ·have H := H0
  refine Ah <| Ak <| Aj F4 (Aa (Af rfl) <| Aa (Cr rfl rfl) <| Ad) fun _ F => Ai <| Ac <| Bm F rfl (fun h0 => ?_) (fun h0 => ?_)
  ·replace H := Bb h0 H
   refine Ak <| Aj F (Aa (Af rfl) <| Aa (Bq rfl rfl) <| Aa (Al rfl) <| Ad) fun _ F => Ai ?_
   obtain rfl := An H
   refine Ac ?_
   exact ⟨F.sub ⟨rfl, rfl, rfl, trivial⟩, s0⟩
  replace H := Bc h0 H
  refine Aw ?_
  obtain rfl := An H
  refine Ac ?_
  exact ⟨F.sub ⟨rfl, rfl, rfl, trivial⟩, s0⟩
 intro _ w0 hJ
 obtain ⟨F, s1⟩ := hJ
 have H := R0
 clear R0 H0
 refine Ac <| Ah <| Ah <| Ak <| Aj F (Aa (Af rfl) <| Aa (ex_sub rfl rfl) <| Aa (Al rfl) <| Ad) fun _ F => Ai <| Ac ?_
 obtain ⟨o1, H1, R1⟩ := Ap H
 clear H
 refine Bx (fun a w_ => ∃ v1 : Value, Fr a 35 [(0, v1)] ∧ SL w FF w_ [Sl Ty.u8 v1 o1]) ?_ ?_
 ·have H := H1
  refine Bh <| Cu (provisoref04_put_b1 o0) (fun s2 a w_ => ∃ v2 : Value, Fr a 35 [(0, v2), (1, .int .i64 o0), (7, .int .i64 s2.2)] ∧ SL w FF w_ [Sl Ty.u8 v2 s2.1]) H ?_ ?_
  ·exact ⟨v0, F.sub ⟨rfl, rfl, rfl, trivial⟩, s1⟩
  intro s2 _ w1 h1 o2 H hr
  obtain ⟨v2, F, s3⟩ := h1
  replace H : provisoref04_put_b1 o0 s2 = some o2 := H
  unfold provisoref04_put_b1 at H
  refine Ah <| Ah <| Ak <| Aj F (Aa (Af rfl) <| Aa (ex_ge rfl rfl) <| Ad) fun _ F => Ai <| Ac <| Bm F rfl (fun h2 => ?_) (fun h2 => ?_)
  ·replace H := Bb h2 H
   refine Aw <| Ac <| Ah <| Bh <| Ah <| Ak <| Aj F (Aa (Af rfl) <| Aa (Al rfl) <| Ad) fun _ F => Ai <| Ac <| Ah <| Ah <| Ak <| Aj F (Aa (Al rfl) <| Ad) fun _ F => Ai <| Ac ?_
   obtain ⟨o3, H2, R2⟩ := Ap H
   clear H
   refine Bx (fun a w_ => Fr a 35 [(0, v2), (1, .int .i64 o0), (7, .int .i64 s2.2), (8, .int .i64 o3)] ∧ SL w FF w_ [Sl Ty.u8 v2 s2.1]) ?_ ?_
   ·have H := H2
    refine Bh <| Cu (provisoref04_put_b0 s2) (fun s4 a w_ => Fr a 35 [(0, v2), (1, .int .i64 o0), (7, .int .i64 s2.2), (8, .int .i64 s4.1), (9, .int .i64 s4.2)] ∧ SL w FF w_ [Sl Ty.u8 v2 s2.1]) H ?_ ?_
    ·exact ⟨F.sub ⟨rfl, rfl, rfl, rfl, rfl, trivial⟩, s3⟩
    intro s4 _ w2 h3 o4 H hr
    obtain ⟨F, s5⟩ := h3
    replace H : provisoref04_put_b0 s2 s4 = some o4 := H
    unfold provisoref04_put_b0 at H
    refine Ah <| Ah <| Ak <| Aj F (Aa (Af rfl) <| Aa (Af rfl) <| Aa (Cr rfl rfl) <| Ad) fun _ F => Ai <| Ac <| Bm F rfl (fun h4 => ?_) (fun h4 => ?_)
    ·replace H := Bb h4 H
     refine Aw <| Ac <| Ah <| Bh <| Ak <| Aj F (Aa (Af rfl) <| Aa (ex_quo rfl rfl rfl) <| Aa (Al rfl) <| Ad) fun _ F => Ai <| Bz <| Ac <| Ak <| Aj F (Aa (Af rfl) <| Aa (Bq rfl rfl) <| Aa (Al rfl) <| Ad) fun _ F => Ai ?_
     obtain rfl := An H
     refine Ac ?_
     exact ⟨_, rfl, F.sub ⟨rfl, rfl, rfl, rfl, rfl, trivial⟩, s5⟩
    replace H := Bc h4 H
    refine Ca <| Bp <| Bp <| Cb ?_
    obtain rfl := An H
    obtain rfl := hr _ rfl
    refine Ac ?_
    exact ⟨F.sub ⟨rfl, rfl, rfl, rfl, trivial⟩, s5⟩
   intro _ w3 hJ
   obtain ⟨F, s6⟩ := hJ
   have H := R2
   clear R2 H2
   refine Ac <| Ak <| Aj F (Aa (Af rfl) <| Aa (Af rfl) <| Aa (ex_rem rfl rfl rfl) <| Aa (ex_cv8 rfl Tryz.underlying3 Tryz.underlying5) <| Ad) fun _ F => ?_
   refine Cs (parts := [(0, .tmp 31)]) Flat.u8 ([toU8 (Int.tmod o3 256)] : List UInt8) F s6 Fx.sl38 rfl (by decide) rfl rfl rfl (by simp [Value.cells]) rfl rfl rfl fun v3 w4 _ F s7 => ?_
   obtain ⟨x0, h5, H⟩ := Ap H
   have s8 := s7.f1
   obtain ⟨_, hr_⟩ := (s8.own_rd (.tail _ <| .head _))
   refine Ci Flat.u8 F s8 Fx.sl38 rfl rfl rfl rfl hr_ rfl rfl h5 rfl fun v4 w5 _ F s9 => ?_
   have s24734' := s9.f1.drop
   refine Aj F (Aa (Al rfl) <| Ad) fun _ F => Ai <| Bz <| Ac <| Ak <| Aj F (Aa (Af rfl) <| Aa (ex_sub rfl rfl) <| Aa (Al rfl) <| Ad) fun _ F => Ai ?_
   obtain rfl := An H
   refine Ac ?_
   exact ⟨_, rfl, v4, F.sub ⟨rfl, rfl, rfl, trivial⟩, s24734'⟩
  replace H := Bc h2 H
  refine Ca <| Bp <| Bp <| Cb ?_
  obtain rfl := An H
  obtain rfl := hr _ rfl
  refine Ac ?_
  exact ⟨v2, F.sub ⟨rfl, trivial⟩, s3⟩
 intro _ w6 hJ
 obtain ⟨v1, F, sa⟩ := hJ
 have H := R1
 clear R1 H1
 refine Ac <| Ah <| Ak <| Aj F (Aa (Af rfl) <| Aa (Al rfl) <| Ad) fun _ F => Ai <| Ac ?_
 obtain rfl := An H
 refine Bd ?_
 refine Av (rs := [.tmp 6]) (vs := [v1]) F (by rfl) ⟨_, _, rfl, Ay rfl, rfl⟩ ⟨_, rfl, ⟨v1, rfl, sa⟩⟩
-- proviso/provisoref04.Encode
theorem provisoref04_Encode_c {w : World} {a0 : S_api_Instr} {r : (List UInt8) × Int}  (H : provisoref04_Encode a0 = some r) :
    Calls Tryz.prog 69 #[.agg ⟨[.int .i64 a0.At, .int .u8 (a0.Op.toNat : Int), .int .i64 a0.A, .int .i64 a0.B]⟩] w (Ret fun u_ w_ => ∃ u0 : Value, u_ = .tuple ⟨[u0, .int .i64 r.2]⟩ ∧ SL w [] w_ [Sl Ty.u8 u0 r.1]) := by
 have s0 : SL w [] w [] := SL.init0 w
 refine Bn Tryz.func69 rfl Tryz.ntmps69 (Ag rfl) (args := [.agg ⟨[.int .i64 a0.At, .int .u8 (a0.Op.toNat : Int), .int .i64 a0.A, .int .i64 a0.B]⟩]) fun q0 F0 => ?_
 unfold provisoref04_Encode at H
 refine Ah <| Ak <| Db F0 s0 rfl rfl rfl fun g9 w0 _ F s1 => Aj F (Aa (Al rfl) <| Aa (Al rfl) <| Ad) fun _ F => Ai <| Ac <| Ah <| Ak <| Aj F (Aa (Ax Fx.fa79_1 rfl rfl) <| Aa (Az Fx.nag5 rfl (s1.blk_cell (.head _) rfl)) <| Aa (Al rfl) <| Ad) fun _ F => Ai <| Ac <| Ah <| Ah <| Ak ?_
 obtain ⟨x0, h0, H⟩ := Ap H
 refine Aj F (Aa (Af rfl) <| Ad) fun _ F => Bk (args := [.tmp 10]) F Fx.fn68 rfl (provisoref04_Size_c (a0 := a0.Op)    h0) rfl fun v0 w1 _ h1 F => ?_
 obtain ⟨rfl, h2⟩ := h1
 have s2 := s1.add h2
 refine Aj F (Aa (Bw rfl rfl) <| Ad) fun _ F => Ai <| Ac <| Bm F rfl (fun h3 => ?_) (fun h3 => ?_)
 ·replace H := Bb h3 H
  refine Ah <| Ak <| Aj F (Aa (Al rfl) <| Aa (Al rfl) <| Ad) fun _ F => Ai <| Ac ?_
  obtain rfl := An H
  refine Bd <| Bg ?_
  refine Av (rs := [.tmp 2, .tmp 3]) (vs := [.slice none 0 0, .int .i64 40]) F (by rfl) ⟨_, _, rfl, Ay rfl, _, _, rfl, Ay rfl, rfl⟩ ⟨_, rfl, ⟨(.slice none 0 0), rfl, (SL.nilSl (T := Ty.u8) s2).f1.drop⟩⟩
 replace H := Bc h3 H
 refine Aw <| Ac <| Ah <| Ak ?_
 obtain ⟨x1, h4, H⟩ := Ap H
 refine Aj F (Aa (Af rfl) <| Ad) fun _ F => Bk (args := [.tmp 14]) F Fx.fn78 rfl (provisoref04_wide_c (a0 := a0.Op)    h4) rfl fun v1 w2 _ h5 F => ?_
 obtain ⟨rfl, h6⟩ := h5
 have s3 := s2.add h6
 refine Aj F (Aa (Af rfl) <| Aa (Au (v := .int .i64 x1.1) rfl rfl) <| Aa (Au (v := .int .i64 x1.2) rfl rfl) <| Aa (Al rfl) <| Aa (Al rfl) <| Ad) fun _ F => Ai <| Ac <| Ah <| Ah <| Ak ?_
 obtain ⟨x2, h7, H⟩ := Ap H
 refine Aj F (Aa (Ax Fx.fa79_2 rfl rfl) <| Aa (Az Fx.nag3 rfl (s3.blk_cell (.head _) rfl)) <| Aa (Af rfl) <| Ad) fun _ F => Bk (args := [.tmp 19, .tmp 20]) F Fx.fn79 rfl (provisoref04_fits_c (a0 := a0.A) (a1 := x1.1)    h7) rfl fun v2 w3 _ h8 F => ?_
 obtain ⟨rfl, h9⟩ := h8
 have s4 := s3.add h9
 refine Aj F (Aa (Da rfl) <| Aa (Af rfl) <| Ad) fun _ F => Bl (!x2) (fun ha => ?_) (fun ha => ?_)
 ·replace H := Bb ha H
  refine Ao F rfl rfl (Am rfl ha) Ab rfl rfl fun _ F => Ao F rfl rfl (Am rfl ha) Ab rfl rfl fun _ F => Ao F rfl rfl (Am rfl ha) Ab rfl rfl fun _ F => Ao F rfl rfl (Am rfl ha) Ab rfl rfl fun _ F => Ao F rfl rfl (Am rfl ha) Ab rfl rfl fun _ F => Aj F (Aa (Bf (By rfl ha) rfl) <| Aa (Af rfl) <| Ad) fun _ F => Ao F rfl rfl rfl Ab rfl rfl fun _ F => Ao F rfl rfl rfl Ab rfl rfl fun _ F => Ao F rfl rfl rfl Ab rfl rfl fun _ F => Cf F rfl rfl rfl rfl rfl fun _ F => Cf F rfl rfl rfl rfl rfl fun _ F => Cf F rfl rfl rfl rfl rfl fun _ F => Ao F rfl rfl rfl Ab rfl rfl fun _ F => Aj F (Aa (Bf rfl rfl) <| Ad) fun _ F => Ai <| Ac <| Cz F rfl <| Ah <| Ak <| Aj F (Aa (Al rfl) <| Aa (Al rfl) <| Ad) fun _ F => Ai <| Ac ?_
  obtain rfl := An H
  refine Bd <| Bg ?_
  refine Av (rs := [.tmp 2, .tmp 3]) (vs := [.slice none 0 0, .int .i64 5]) F (by rfl) ⟨_, _, rfl, Ay rfl, _, _, rfl, Ay rfl, rfl⟩ ⟨_, rfl, ⟨(.slice none 0 0), rfl, (SL.nilSl (T := Ty.u8) s4).f1.drop⟩⟩
 replace H := Bc ha H
 refine Aq F rfl rfl (Am rfl ha) (Ax Fx.fa79_3 rfl rfl) rfl rfl fun _ F => Aq F rfl rfl (Am rfl ha) (Az Fx.nag3 rfl (s4.blk_cell (.head _) rfl)) rfl rfl fun _ F => Aq F rfl rfl (Am rfl ha) (Af rfl) rfl rfl fun _ F => ?_
 obtain ⟨x3, hb, H⟩ := Ap H
 refine st_ungd F rfl (Am rfl ha) <| Bk (args := [.tmp 25, .tmp 26]) F Fx.fn79 rfl (provisoref04_fits_c (a0 := a0.B) (a1 := x1.2)    hb) rfl fun v3 w4 _ hc F => ?_
 obtain ⟨rfl, hd⟩ := hc
 have s5 := s4.add hd
 refine Aq F rfl rfl (Am rfl ha) (Da rfl) rfl rfl fun _ F => Aj F (Aa (Bi (By rfl ha) rfl) <| Aa (Af rfl) <| Ad) fun _ F => Bl (!x3) (fun he => ?_) (fun he => ?_)
 ·replace H := Bb he H
  refine Ao F rfl rfl (Am rfl he) Ab rfl rfl fun _ F => Ao F rfl rfl (Am rfl he) Ab rfl rfl fun _ F => Ao F rfl rfl (Am rfl he) Ab rfl rfl fun _ F => Cf F rfl rfl rfl rfl rfl fun _ F => Cf F rfl rfl rfl rfl rfl fun _ F => Cf F rfl rfl rfl rfl rfl fun _ F => Ao F rfl rfl (Am rfl he) Ab rfl rfl fun _ F => Aj F (Aa (Bf (By rfl he) rfl) <| Ad) fun _ F => Ai <| Ac <| Cz F rfl <| Ah <| Ak <| Aj F (Aa (Al rfl) <| Aa (Al rfl) <| Ad) fun _ F => Ai <| Ac ?_
  obtain rfl := An H
  refine Bd <| Bg ?_
  refine Av (rs := [.tmp 2, .tmp 3]) (vs := [.slice none 0 0, .int .i64 5]) F (by rfl) ⟨_, _, rfl, Ay rfl, _, _, rfl, Ay rfl, rfl⟩ ⟨_, rfl, ⟨(.slice none 0 0), rfl, (SL.nilSl (T := Ty.u8) s5).f1.drop⟩⟩
 replace H := Bc he H
 refine Aq F rfl rfl (Am rfl he) (Af rfl) rfl rfl fun _ F => Aq F rfl rfl (Am rfl he) (Bw rfl rfl) rfl rfl fun _ F => Aq F rfl rfl (Am rfl he) (Af rfl) rfl rfl fun _ F => Bl ((a0.Op.toNat : Int) == 2) (fun hf => ?_) (fun hf => ?_)
 ·replace H := Bb hf H
  refine Aq F rfl rfl (Am rfl hf) (Ax Fx.fa79_2 rfl rfl) rfl rfl fun _ F => Aq F rfl rfl (Am rfl hf) (Az Fx.nag3 rfl (s5.blk_cell (.head _) rfl)) rfl rfl fun _ F => Aq F rfl rfl (Am rfl hf) (ex_gt rfl rfl) rfl rfl fun _ F => Aq F rfl rfl (Am rfl he) (Bf (By rfl hf) rfl) rfl rfl fun _ F => Aj F (Aa (Bi (By rfl he) rfl) <| Ad) fun _ F => Ai <| Ac <| Bm F rfl (fun hg => ?_) (fun hg => ?_)
  ·replace H := Bb hg H
   refine Ah <| Ak <| Aj F (Aa (Al rfl) <| Aa (Al rfl) <| Ad) fun _ F => Ai <| Ac ?_
   obtain rfl := An H
   refine Bd <| Bg ?_
   refine Av (rs := [.tmp 2, .tmp 3]) (vs := [.slice none 0 0, .int .i64 5]) F (by rfl) ⟨_, _, rfl, Ay rfl, _, _, rfl, Ay rfl, rfl⟩ ⟨_, rfl, ⟨(.slice none 0 0), rfl, (SL.nilSl (T := Ty.u8) s5).f1.drop⟩⟩
  replace H := Bc hg H
  refine Aw <| Ac <| Ah <| Ak <| Aj F (Aa (Ax Fx.fa79_1 rfl rfl) <| Aa (Az Fx.nag5 rfl (s5.blk_cell (.head _) rfl)) <| Ad) fun _ F => ?_
  refine Cs (parts := [(0, .tmp 40)]) Flat.u8 ([a0.Op] : List UInt8) F s5 Fx.sl38 rfl (by decide) rfl rfl rfl (by simp [Value.cells]) rfl rfl rfl fun v4 w5 _ F s6 => ?_
  refine Aj F (Aa (Al rfl) <| Ad) fun _ F => Ai <| Ac <| Ah <| Ak ?_
  obtain ⟨x4, hh, H⟩ := Ap H
  refine Aj F (Aa (Af rfl) <| Aa (Ax Fx.fa79_2 rfl rfl) <| Aa (Az Fx.nag3 rfl (s6.blk_cell (.tail _ <| .head _) rfl)) <| Aa (Af rfl) <| Ad) fun _ F => ?_
  have s7 := s6
  obtain ⟨G0, hi, hj, hk, hl⟩ := SL.open_ (ps := [Sl Ty.u8 v4 ([a0.Op] : List UInt8)]) (rest := [Blk g9 79 [.int .i64 a0.At, .int .u8 (a0.Op.toNat : Int), .int .i64 a0.A, .int .i64 a0.B]]) s7
  refine Bk (args := [.tmp 42, .tmp 44, .tmp 45]) F Fx.fn80 rfl (provisoref04_put_c (a0 := ([a0.Op] : List UInt8)) (a1 := a0.A) (a2 := x1.1) hi   hh) rfl fun v5 w6 _ hm F => ?_
  obtain ⟨_, rfl, hn⟩ := hm
  have s8 := hl _ _ hn
  refine Aj F (Aa (Al rfl) <| Ad) fun _ F => Ai <| Ac <| Ah <| Ak ?_
  obtain ⟨x5, ho, H⟩ := Ap H
  refine Aj F (Aa (Af rfl) <| Aa (Ax Fx.fa79_3 rfl rfl) <| Aa (Az Fx.nag3 rfl (s8.blk_cell (.tail _ <| .head _) rfl)) <| Aa (Af rfl) <| Ad) fun _ F => ?_
  have s9 := s8
  obtain ⟨G1, hp, hq, hr, hs⟩ := SL.open_ (ps := [Sl Ty.u8 v5 x4]) (rest := [Blk g9 79 [.int .i64 a0.At, .int .u8 (a0.Op.toNat : Int), .int .i64 a0.A, .int .i64 a0.B]]) s9
  refine Bk (args := [.tmp 47, .tmp 49, .tmp 50]) F Fx.fn80 rfl (provisoref04_put_c (a0 := x4) (a1 := a0.B) (a2 := x1.2) hp   ho) rfl fun v6 w7 _ ht F => ?_
  obtain ⟨_, rfl, hu⟩ := ht
  have sa := hs _ _ hu
  refine Aj F (Aa (Al rfl) <| Aa (Al rfl) <| Ad) fun _ F => Ai <| Ac ?_
  obtain rfl := An H
  refine Bd ?_
  refine Av (rs := [.tmp 2, .tmp 3]) (vs := [v6, .int .i64 0]) F (by rfl) ⟨_, _, rfl, Ay rfl, _, _, rfl, Ay rfl, rfl⟩ ⟨_, rfl, ⟨v6, rfl, sa.f1.drop⟩⟩
 replace H := Bc hf H
 refine Ao F rfl rfl (Am rfl hf) Ab rfl rfl fun _ F => Ao F rfl rfl (Am rfl hf) Ab rfl rfl fun _ F => Ao F rfl rfl (Am rfl hf) Ab rfl rfl fun _ F => Aq F rfl rfl (Am rfl he) (Bi (By rfl hf) rfl) rfl rfl fun _ F => Aj F (Aa (Bi (By rfl he) rfl) <| Ad) fun _ F => Ai <| Ac <| Cm F rfl <| Aw <| Ac <| Ah <| Ak <| Aj F (Aa (Ax Fx.fa79_1 rfl rfl) <| Aa (Az Fx.nag5 rfl (s5.blk_cell (.head _) rfl)) <| Ad) fun _ F => ?_
 refine Cs (parts := [(0, .tmp 40)]) Flat.u8 ([a0.Op] : List UInt8) F s5 Fx.sl38 rfl (by decide) rfl rfl rfl (by simp [Value.cells]) rfl rfl rfl fun v7 w8 _ F sb => ?_
 refine Aj F (Aa (Al rfl) <| Ad) fun _ F => Ai <| Ac <| Ah <| Ak ?_
 obtain ⟨x6, hv, H⟩ := Ap H
 refine Aj F (Aa (Af rfl) <| Aa (Ax Fx.fa79_2 rfl rfl) <| Aa (Az Fx.nag3 rfl (sb.blk_cell (.tail _ <| .head _) rfl)) <| Aa (Af rfl) <| Ad) fun _ F => ?_
 have sc := sb
 obtain ⟨G2, hw, hx, hy, hz⟩ := SL.open_ (ps := [Sl Ty.u8 v7 ([a0.Op] : List UInt8)]) (rest := [Blk g9 79 [.int .i64 a0.At, .int .u8 (a0.Op.toNat : Int), .int .i64 a0.A, .int .i64 a0.B]]) sc
 refine Bk (args := [.tmp 42, .tmp 44, .tmp 45]) F Fx.fn80 rfl (provisoref04_put_c (a0 := ([a0.Op] : List UInt8)) (a1 := a0.A) (a2 := x1.1) hw   hv) rfl fun v8 w9 _ h10 F => ?_
 obtain ⟨_, rfl, h11⟩ := h10
 have sd := hz _ _ h11
 refine Aj F (Aa (Al rfl) <| Ad) fun _ F => Ai <| Ac <| Ah <| Ak ?_
 obtain ⟨x7, h12, H⟩ := Ap H
 refine Aj F (Aa (Af rfl) <| Aa (Ax Fx.fa79_3 rfl rfl) <| Aa (Az Fx.nag3 rfl (sd.blk_cell (.tail _ <| .head _) rfl)) <| Aa (Af rfl) <| Ad) fun _ F => ?_
 have se := sd
 obtain ⟨G3, h13, h14, h15, h16⟩ := SL.open_ (ps := [Sl Ty.u8 v8 x6]) (rest := [Blk g9 79 [.int .i64 a0.At, .int .u8 (a0.Op.toNat : Int), .int .i64 a0.A, .int .i64 a0.B]]) se
 refine Bk (args := [.tmp 47, .tmp 49, .tmp 50]) F Fx.fn80 rfl (provisoref04_put_c (a0 := x6) (a1 := a0.B) (a2 := x1.2) h13   h12) rfl fun v9 wa _ h17 F => ?_
 obtain ⟨_, rfl, h18⟩ := h17
 have sf := h16 _ _ h18
 refine Aj F (Aa (Al rfl) <| Aa (Al rfl) <| Ad) fun _ F => Ai <| Ac ?_
 obtain rfl := An H
 refine Bd ?_
 refine Av (rs := [.tmp 2, .tmp 3]) (vs := [v9, .int .i64 0]) F (by rfl) ⟨_, _, rfl, Ay rfl, _, _, rfl, Ay rfl, rfl⟩ ⟨_, rfl, ⟨v9, rfl, sf.f1.drop⟩⟩
-- proviso/provisoref19.write
theorem provisoref19_write_c {w : World} {v0 : Value} {a0 : List S_provisoref19_ins} {r : (List UInt8)} (hr0 : Rd T_provisoref19_ins w [] v0 a0) (H : provisoref19_write a0 = some r) :
    Calls Tryz.prog 47 #[v0] w (Ret fun u_ w_ => ∃ u0 : Value, u_ = u0 ∧ SL w [] w_ [Sl Ty.u8 u0 r]) := by
 have s0 : SL w [] w [] := SL.init0 w
 refine Bn Tryz.func47 rfl Tryz.ntmps47 (Ag rfl) (args := [v0]) fun q0 F0 => ?_
 unfold provisoref19_write at H
 refine Ah <| Ak <| Aj F0 (Aa (Al rfl) <| Ad) fun q3 F4 => Ai <| Ac <| Ah <| Ak <| Aj F4 (Aa (Al rfl) <| Ad) fun q7 F8 => Ai <| Ac <| Ah <| Ak <| Aj F8 (Aa (Al rfl) <| Ad) fun _ F => Ai <| Ac <| Ah <| Ah <| Ak <| Aj F (Aa (Af rfl) <| Aa (Cc rfl Tryz.underlying86 (Bu (Cv hr0 s0))) <| Aa (Af rfl) <| Ad) fun _ F => Ai <| Ac ?_
 obtain ⟨o0, H0, R0⟩ := Ap H
 clear H
 refine Bx (fun a w_ => ∃ v1 : Value, Fr a 61 [(0, v0), (3, v1)] ∧ SL w [] w_ [Sl (Ty.int .i64) v1 o0]) ?_ ?_
 ·have H := H0
  refine Bh <| Cu (provisoref19_write_b0 a0) (fun s1 a w_ => ∃ v2 : Value, Fr a 61 [(0, v0), (3, v2), (4, .int .i64 s1.2.1), (13, v0), (14, .int .i64 (a0.length : Int)), (15, .int .i64 s1.2.2)] ∧ SL w [] w_ [Sl (Ty.int .i64) v2 s1.1]) H ?_ ?_
  ·exact ⟨(.slice none 0 0), F.sub ⟨rfl, rfl, rfl, rfl, rfl, rfl, trivial⟩, (SL.nilSl (T := (Ty.int .i64)) s0)⟩
  intro s1 _ w0 h0 o1 H hr
  obtain ⟨v2, F, s2⟩ := h0
  replace H : provisoref19_write_b0 a0 s1 = some o1 := H
  unfold provisoref19_write_b0 at H
  refine Ah <| Ak <| Aj F (Aa (Cr rfl rfl) <| Ad) fun _ F => Ai <| Ac <| Ah <| Bm F rfl (fun h1 => ?_) (fun h1 => ?_)
  ·replace H := Bb h1 H
   refine Aw <| Ac <| Ah <| Bh <| Ah <| Ak ?_
   obtain ⟨x0, h2, H⟩ := Ap H
   obtain ⟨a1, h3, h4⟩ := Dg F_provisoref19_ins (Cv hr0 s2) Fx.sl86 rfl h2
   refine Aj F (Aa (h3 _ _ _ _ _ _ _ _ _ _ rfl rfl) <| Aa (Bj Fx.agg111 rfl h4 rfl) <| Ad) fun _ F => Bo F s2 Fx.zero111 rfl rfl fun g0 w1 _ F s3 => ?_
   have s4 := s3
   refine As F s4 rfl rfl Fx.sz111 (Ae rfl (Ae rfl (Ae rfl (Ae rfl Ba)))) (Ag rfl) fun w2 _ F s5 => ?_
   replace s5 : SL w [] w2 [Blk g0 111 [.int .u8 (x0.op.toNat : Int), .int .i64 x0.a, .int .i64 x0.b, .int .i64 x0.to], Sl (Ty.int .i64) v2 s1.1] := s5
   refine Ai <| Ac <| Ah <| Ak <| Aj F (Aa (Af rfl) <| Aa (Af rfl) <| Ad) fun _ F => ?_
   refine Cs (parts := [(0, .tmp 20)]) (Flat.int .i64) ([s1.2.1] : List Int) F s5 Fx.sl95 rfl (by decide) rfl rfl rfl (by simp [Value.cells]) rfl rfl rfl fun v3 w3 _ F s6 => ?_
   obtain ⟨x1, h5, H⟩ := Ap H
   have s7 := s6.f2
   obtain ⟨_, hr_⟩ := (s7.own_rd (.tail _ <| .head _))
   refine Ci (Flat.int .i64) F s7 Fx.sl95 rfl rfl rfl rfl hr_ rfl rfl h5 rfl fun v4 w4 _ F s8 => ?_
   have s4414' := s8.f1.drop
   refine Aj F (Aa (Al rfl) <| Ad) fun _ F => Ai <| Ac <| Ak ?_
   obtain ⟨x2, h6, H⟩ := Ap H
   refine Aj F (Aa (Af rfl) <| Aa (Ax Fx.fa111_0 rfl rfl) <| Aa (Az Fx.nag5 rfl (s4414'.blk_cell (.tail _ <| .head _) rfl)) <| Ad) fun _ F => Bk (args := [.tmp 25]) F Fx.fn68 rfl (provisoref04_Size_c (a0 := x0.op)    h6) rfl fun v5 w5 _ h7 F => ?_
   obtain ⟨rfl, h8⟩ := h7
   have s9 := s4414'.add h8
   refine Aj F (Aa (Bq rfl rfl) <| Aa (Al rfl) <| Ad) fun _ F => Ai <| Bz <| Ac <| Ak <| Aj F (Aa (Bq rfl rfl) <| Aa (Af rfl) <| Ad) fun _ F => Ai ?_
   obtain rfl := An H
   refine Ac ?_
   exact ⟨_, rfl, v4, F.sub ⟨rfl, rfl, rfl, rfl, rfl, rfl, trivial⟩, s9.f1.drop⟩
  replace H := Bc h1 H
  refine Ca <| Bp <| Bp <| Cb ?_
  obtain rfl := An H
  obtain rfl := hr _ rfl
  refine Ac ?_
  exact ⟨v2, F.sub ⟨rfl, rfl, trivial⟩, s2⟩
 intro _ w6 hJ
 obtain ⟨v1, F, sa⟩ := hJ
 have H := R0
 clear R0 H0
 refine Ac <| Ah <| Ak <| Aj F (Aa (Al rfl) <| Ad) fun _ F => Ai <| Ac <| Ah <| Ah <| Ak <| Aj F (Aa (Af rfl) <| Aa (Cc rfl Tryz.underlying86 (Bu (Cv hr0 sa))) <| Aa (Af rfl) <| Ad) fun _ F => Ai <| Ac ?_
 obtain ⟨o2, H1, R1⟩ := Ap H
 clear H
 refine Bx (fun a w_ => ∃ v6 : Value, Fr a 61 [(7, v6)] ∧ SL w [] w_ [Sl Ty.u8 v6 o2]) ?_ ?_
 ·have H := H1
  refine Bh <| Cu (provisoref19_write_b1 a0 o0) (fun sb a w_ => ∃ v7 : Value, Fr a 61 [(3, v1), (7, v7), (29, v0), (30, .int .i64 (a0.length : Int)), (31, .int .i64 sb.2)] ∧ SL w [] w_ [Sl (Ty.int .i64) v1 o0, Sl Ty.u8 v7 sb.1]) H ?_ ?_
  ·exact ⟨(.slice none 0 0), F.sub ⟨rfl, rfl, rfl, rfl, rfl, trivial⟩, (SL.nilSl (T := Ty.u8) sa).f1⟩
  intro sb _ w7 h9 o3 H hr
  obtain ⟨v7, F, sc⟩ := h9
  replace H : provisoref19_write_b1 a0 o0 sb = some o3 := H
  unfold provisoref19_write_b1 at H
  refine Ah <| Ak <| Aj F (Aa (Cr rfl rfl) <| Ad) fun _ F => Ai <| Ac <| Ah <| Bm F rfl (fun ha => ?_) (fun ha => ?_)
  ·replace H := Bb ha H
   refine Aw <| Ac <| Ah <| Bh <| Ah <| Ak ?_
   obtain ⟨x3, hb, H⟩ := Ap H
   obtain ⟨a2, hc, hd⟩ := Dg F_provisoref19_ins (Cv hr0 sc) Fx.sl86 rfl hb
   refine Aj F (Aa (hc _ _ _ _ _ _ _ _ _ _ rfl rfl) <| Aa (Bj Fx.agg111 rfl hd rfl) <| Ad) fun _ F => Bo F sc Fx.zero111 rfl rfl fun g1 w8 _ F sd => ?_
   have se := sd
   refine As F se rfl rfl Fx.sz111 (Ae rfl (Ae rfl (Ae rfl (Ae rfl Ba)))) (Ag rfl) fun w9 _ F sf => ?_
   replace sf : SL w [] w9 [Blk g1 111 [.int .u8 (x3.op.toNat : Int), .int .i64 x3.a, .int .i64 x3.b, .int .i64 x3.to], Sl (Ty.int .i64) v1 o0, Sl Ty.u8 v7 sb.1] := sf
   refine Ai <| Ac <| Ah <| Ak <| Aj F (Aa (Ax Fx.fa111_0 rfl rfl) <| Aa (Az Fx.nag5 rfl (sf.blk_cell (.head _) rfl)) <| Aa (Ax Fx.fa111_1 rfl rfl) <| Aa (Az Fx.nag3 rfl (sf.blk_cell (.head _) rfl)) <| Aa (Ax Fx.fa111_2 rfl rfl) <| Aa (Az Fx.nag3 rfl (sf.blk_cell (.head _) rfl)) <| Aa (Cn (vs := [.int .u8 (x3.op.toNat : Int), .int .i64 x3.a, .int .i64 x3.b]) Fx.zero79 Fx.pl79 rfl (cs := [.int .i64 0, .int .u8 (x3.op.toNat : Int), .int .i64 x3.a, .int .i64 x3.b]) (rfl)) <| Ad) fun _ F => Bo F sf Fx.zero79 rfl rfl fun g2 wa _ F sg => ?_
   have sh := sg
   refine As F sh rfl rfl Fx.sz79 (Ae rfl (Ae rfl (Ae rfl (Ae rfl Ba)))) (Ag rfl) fun wb _ F si => ?_
   replace si : SL w [] wb [Blk g2 79 [.int .i64 0, .int .u8 (x3.op.toNat : Int), .int .i64 x3.a, .int .i64 x3.b], Blk g1 111 [.int .u8 (x3.op.toNat : Int), .int .i64 x3.a, .int .i64 x3.b, .int .i64 x3.to], Sl (Ty.int .i64) v1 o0, Sl Ty.u8 v7 sb.1] := si
   refine Ai <| Ac <| Ah <| Ah <| Ak <| Aj F (Aa (Ax Fx.fa111_3 rfl rfl) <| Aa (Az Fx.nag3 rfl (si.blk_cell (.tail _ <| .head _) rfl)) <| Aa (ex_ge rfl rfl) <| Ad) fun _ F => Ai <| Ac <| Bm F rfl (fun he => ?_) (fun he => ?_)
   ·replace H := Bb he H
    refine Ak ?_
    obtain ⟨x4, hf, H⟩ := Ap H
    obtain ⟨a3, hg, hh⟩ := Ch (Flat.int .i64) si (.tail _ <| .tail _ <| .head _) Fx.sl95 rfl hf
    refine Aj F (Aa (Af rfl) <| Aa (Ax Fx.fa111_3 rfl rfl) <| Aa (Az Fx.nag3 rfl (si.blk_cell (.tail _ <| .head _) rfl)) <| Aa (hg _ _ _ _ _ _ _ _ _ _ rfl rfl) <| Aa (Az Fx.nag3 rfl (Cells.at_ (SL.elcells (Flat.int .i64) si (.tail _ <| .tail _ <| .head _) hh hf) (o := 0) rfl)) <| Aa (Ax Fx.fa79_2 rfl rfl) <| Ad) fun _ F => ?_
    have sj := si
    refine Cq F sj rfl rfl Fx.sz3 rfl rfl rfl fun wc _ F sk => ?_
    replace sk : SL w [] wc [Blk g2 79 [.int .i64 0, .int .u8 (x3.op.toNat : Int), .int .i64 x4, .int .i64 x3.b], Blk g1 111 [.int .u8 (x3.op.toNat : Int), .int .i64 x3.a, .int .i64 x3.b, .int .i64 x3.to], Sl (Ty.int .i64) v1 o0, Sl Ty.u8 v7 sb.1] := sk
    refine Ai <| Ac <| Ah <| Ak ?_
    obtain ⟨x5, hi, H⟩ := Ap H
    refine Aj F (Aa (Bj Fx.agg79 rfl (sk.blk_cells (.head _) (o := 0) (ds := [.int .i64 0, .int .u8 (x3.op.toNat : Int), .int .i64 x4, .int .i64 x3.b]) (fun j u hu => by rw [Nat.zero_add]; exact hu)) rfl) <| Ad) fun _ F => Bk (args := [.tmp 52]) F Fx.fn69 rfl (provisoref04_Encode_c (a0 := (⟨0, x3.op, x4, x3.b⟩ : S_api_Instr))    hi) rfl fun v8 wd _ hj F => ?_
    obtain ⟨v9, rfl, hk⟩ := hj
    have sl := sk.add hk
    refine Aj F (Aa (Af rfl) <| Aa (Au (v := v9) rfl rfl) <| Aa (Au (v := .int .i64 x5.2) rfl rfl) <| Aa (Al rfl) <| Aa (Al rfl) <| Ad) fun _ F => Ai <| Ac <| Ak ?_
    obtain ⟨x6, hl, H⟩ := Ap H
    refine Aj F (Aa (Af rfl) <| Aa (Af rfl) <| Ad) fun _ F => ?_
    have sm := sl.f4
    obtain ⟨_, hr_⟩ := (sm.own_rd (.tail _ <| .head _))
    refine Ci Flat.u8 F sm Fx.sl38 rfl rfl rfl rfl hr_ rfl rfl hl rfl fun va we _ F sn => Aj F (Aa (Al rfl) <| Ad) fun _ F => Ai <| Bz <| Ac <| Ak <| Aj F (Aa (Bq rfl rfl) <| Aa (Af rfl) <| Ad) fun _ F => Ai ?_
    obtain rfl := An H
    refine Ac ?_
    exact ⟨_, rfl, va, F.sub ⟨rfl, rfl, rfl, rfl, rfl, trivial⟩, sn.f1.drop.f1.drop.f1.drop.f1⟩
   replace H := Bc he H
   refine Aw <| Ac <| Ah <| Ak ?_
   obtain ⟨x7, hm, H⟩ := Ap H
   refine Aj F (Aa (Bj Fx.agg79 rfl (si.blk_cells (.head _) (o := 0) (ds := [.int .i64 0, .int .u8 (x3.op.toNat : Int), .int .i64 x3.a, .int .i64 x3.b]) (fun j u hu => by rw [Nat.zero_add]; exact hu)) rfl) <| Ad) fun _ F => Bk (args := [.tmp 52]) F Fx.fn69 rfl (provisoref04_Encode_c (a0 := (⟨0, x3.op, x3.a, x3.b⟩ : S_api_Instr))    hm) rfl fun vb wf _ hn F => ?_
   obtain ⟨vc, rfl, ho⟩ := hn
   have so := si.add ho
   refine Aj F (Aa (Af rfl) <| Aa (Au (v := vc) rfl rfl) <| Aa (Au (v := .int .i64 x7.2) rfl rfl) <| Aa (Al rfl) <| Aa (Al rfl) <| Ad) fun _ F => Ai <| Ac <| Ak ?_
   obtain ⟨x8, hp, H⟩ := Ap H
   refine Aj F (Aa (Af rfl) <| Aa (Af rfl) <| Ad) fun _ F => ?_
   have sp := so.f4
   obtain ⟨_, hr_⟩ := (sp.own_rd (.tail _ <| .head _))
   refine Ci Flat.u8 F sp Fx.sl38 rfl rfl rfl rfl hr_ rfl rfl hp rfl fun vd wg _ F sq => Aj F (Aa (Al rfl) <| Ad) fun _ F => Ai <| Bz <| Ac <| Ak <| Aj F (Aa (Bq rfl rfl) <| Aa (Af rfl) <| Ad) fun _ F => Ai ?_
   obtain rfl := An H
   refine Ac ?_
   exact ⟨_, rfl, vd, F.sub ⟨rfl, rfl, rfl, rfl, rfl, trivial⟩, sq.f1.drop.f1.drop.f1.drop.f1⟩
  replace H := Bc ha H
  refine Ca <| Bp <| Bp <| Cb ?_
  obtain rfl := An H
  obtain rfl := hr _ rfl
  refine Ac ?_
  exact ⟨v7, F.sub ⟨rfl, trivial⟩, sc.drop⟩
 intro _ wh hJ
 obtain ⟨v6, F, sr⟩ := hJ
 have H := R1
 clear R1 H1
 refine Ac <| Ah <| Ak <| Aj F (Aa (Af rfl) <| Aa (Al rfl) <| Ad) fun _ F => Ai <| Ac ?_
 obtain rfl := An H
 refine Bd ?_
 refine Av (rs := [.tmp 2]) (vs := [v6]) F (by rfl) ⟨_, _, rfl, Ay rfl, rfl⟩ ⟨_, rfl, ⟨v6, rfl, sr⟩⟩
-- proviso/provisoref19.Code
theorem provisoref19_Code_c {w : World} {v0 : Value} {a0 : List UInt8} {r : (List UInt8) × Int} (hr0 : Rd Ty.u8 w [] v0 a0) (H : provisoref19_Code a0 = some r) :
    Calls Tryz.prog 24 #[v0] w (Ret fun u_ w_ => ∃ u0 : Value, u_ = .tuple ⟨[u0, .int .i64 r.2]⟩ ∧ SL w [] w_ [Sl Ty.u8 u0 r.1]) := by
 have s0 : SL w [] w [] := SL.init0 w
 refine Bn Tryz.func24 rfl Tryz.ntmps24 (Ag rfl) (args := [v0]) fun q0 F0 => ?_
 unfold provisoref19_Code at H
 refine Ah <| Ak <| Aj F0 (Aa (Al rfl) <| Aa (Al rfl) <| Ad) fun q3 F4 => Ai <| Ac <| Ah <| Ah <| Ak ?_
 obtain ⟨x0, h0, H⟩ := Ap H
 refine Aj F4 (Aa (Af rfl) <| Ad) fun _ F => Bk (args := [.tmp 9]) F Fx.fn39 rfl (provisoref05_Check_c (a0 := a0)   (hr0.pass0 s0) h0) rfl fun v1 w0 _ h1 F => ?_
 obtain ⟨rfl, h2⟩ := h1
 have s1 := s0.add h2
 refine Aj F (Aa (Af rfl) <| Aa (Au (v := .int .i64 x0.1) rfl rfl) <| Aa (Au (v := .int .i64 x0.2) rfl rfl) <| Aa (Al rfl) <| Aa (Al rfl) <| Ad) fun _ F => Ai <| Ac <| Ah <| Ak <| Aj F (Aa (Af rfl) <| Aa (De rfl rfl) <| Ad) fun _ F => Ai <| Ac <| Bm F rfl (fun h3 => ?_) (fun h3 => ?_)
 ·replace H := Bb h3 H
  refine Ah <| Ak <| Aj F (Aa (Af rfl) <| Aa (Al rfl) <| Aa (Al rfl) <| Ad) fun _ F => Ai <| Ac ?_
  obtain rfl := An H
  refine Bd <| Bg ?_
  refine Av (rs := [.tmp 2, .tmp 3]) (vs := [.slice none 0 0, .int .i64 x0.2]) F (by rfl) ⟨_, _, rfl, Ay rfl, _, _, rfl, Ay rfl, rfl⟩ ⟨_, rfl, ⟨(.slice none 0 0), rfl, (SL.nilSl (T := Ty.u8) s1)⟩⟩
 replace H := Bc h3 H
 refine Aw <| Ac <| Ah <| Ak ?_
 obtain ⟨x1, h4, H⟩ := Ap H
 refine Aj F (Aa (Af rfl) <| Ad) fun _ F => Bk (args := [.tmp 16]) F Fx.fn40 rfl (provisoref19_read_c (a0 := a0)   (hr0.pass0 s1) h4) rfl fun v2 w1 _ h5 F => ?_
 obtain ⟨_, rfl, h6⟩ := h5
 have s2 := s1.add h6
 refine Aj F (Aa (Al rfl) <| Ad) fun _ F => Ai <| Ac ?_
 obtain ⟨o0, H0, R0⟩ := Ap H
 clear H
 refine Bx (fun a w_ => False) ?_ (fun _ _ hJ => hJ.elim)
 have H := H0
 refine Bh <| Cu (provisoref19_Code_b0) (fun s3 a w_ => ∃ v3 : Value, Fr a 30 [(6, v3)] ∧ SL w [] w_ [Sl T_provisoref19_ins v3 s3]) H ?_ ?_
 ·exact ⟨v2, F.sub ⟨rfl, trivial⟩, s2⟩
 intro s3 _ w2 h7 o1 H hr
 obtain ⟨v3, F, s4⟩ := h7
 replace H : provisoref19_Code_b0 s3 = some o1 := H
 unfold provisoref19_Code_b0 at H
 refine Bh <| Ah <| Ak ?_
 obtain ⟨x2, h8, H⟩ := Ap H
 refine Aj F (Aa (Af rfl) <| Ad) fun _ F => Bk (args := [.tmp 18]) F Fx.fn45 rfl (provisoref19_threads_c (a0 := s3)   (s4.rd0 (.head _)) h8) rfl fun v4 w3 _ h9 F => ?_
 obtain ⟨_, rfl, ha⟩ := h9
 have s5 := s4.add ha
 obtain ⟨x3, hb, H⟩ := Ap H
 refine Bk (args := [.tmp 19]) F Fx.fn44 rfl (provisoref19_dead_c (a0 := x2)   (s5.rd0 (.head _)) hb) rfl fun v5 w4 _ hc F => ?_
 obtain ⟨_, rfl, hd⟩ := hc
 have s6 := s5.add hd
 obtain ⟨x4, he, H⟩ := Ap H
 refine Bk (args := [.tmp 20]) F Fx.fn43 rfl (provisoref19_idle_c (a0 := x3)   (s6.rd0 (.head _)) he) rfl fun v6 w5 _ hf F => ?_
 obtain ⟨_, rfl, hg⟩ := hf
 have s7 := s6.add hg
 obtain ⟨x5, hh, H⟩ := Ap H
 refine Bk (args := [.tmp 21]) F Fx.fn42 rfl (provisoref19_constants_c (a0 := x4)   (s7.rd0 (.head _)) hh) rfl fun v7 w6 _ hi F => ?_
 obtain ⟨_, rfl, hj⟩ := hi
 have s8 := s7.add hj
 obtain ⟨x6, hk, H⟩ := Ap H
 refine Bk (args := [.tmp 22]) F Fx.fn41 rfl (provisoref19_sure_c (a0 := x5)   (s8.rd0 (.head _)) hk) rfl fun v8 w7 _ hl F => ?_
 obtain ⟨_, rfl, hm⟩ := hl
 have s9 := s8.add hm
 refine Aj F (Aa (Al rfl) <| Ad) fun _ F => Ai <| Ac <| Ah <| Ah <| Ak ?_
 obtain ⟨x7, hn, H⟩ := Ap H
 refine Aj F (Aa (Af rfl) <| Aa (Af rfl) <| Ad) fun _ F => Bk (args := [.tmp 24, .tmp 25]) F Fx.fn46 rfl (provisoref19_same_c (a0 := s3) (a1 := x6)   (s9.rd0 (.tail _ <| .tail _ <| .tail _ <| .tail _ <| .tail _ <| .head _)) (s9.rd0 (.head _)) hn) rfl fun v9 w8 _ ho F => ?_
 obtain ⟨rfl, hp⟩ := ho
 have sa := s9.add hp
 refine Ai <| Ac <| Bm F rfl (fun hq => ?_) (fun hq => ?_)
 ·replace H := Bb hq H
  refine Ah <| Ak ?_
  obtain ⟨x8, hs, H⟩ := Ap H
  refine Aj F (Aa (Af rfl) <| Ad) fun _ F => Bk (args := [.tmp 27]) F Fx.fn47 rfl (provisoref19_write_c (a0 := s3)   (sa.rd0 (.tail _ <| .tail _ <| .tail _ <| .tail _ <| .tail _ <| .head _)) hs) rfl fun va w9 _ ht F => ?_
  obtain ⟨_, rfl, hu⟩ := ht
  have sb := sa.add hu
  refine Aj F (Aa (Al rfl) <| Aa (Al rfl) <| Ad) fun _ F => Ai <| Ac ?_
  obtain rfl := An H
  obtain rfl := hr _ rfl
  replace H := R0
  try dsimp only at H
  obtain rfl := An H
  refine Bd <| Bg <| blk_r <| Bg <| blk_r <| Bg ?_
  refine Av (rs := [.tmp 2, .tmp 3]) (vs := [va, .int .i64 0]) F (by rfl) ⟨_, _, rfl, Ay rfl, _, _, rfl, Ay rfl, rfl⟩ ⟨_, rfl, ⟨va, rfl, sb.f1.drop.f1.drop.f1.drop.f1.drop.f1.drop.f1.drop⟩⟩
 replace H := Bc hq H
 refine Aw <| Ac <| Ak <| Aj F (Aa (Af rfl) <| Aa (Al rfl) <| Ad) fun _ F => Ai <| Bz ?_
 obtain rfl := An H
 refine Ac ?_
 exact ⟨_, rfl, v8, F.sub ⟨rfl, trivial⟩, sa.f1.drop.f1.drop.f1.drop.f1.drop.f1.drop⟩
-- proviso/provisoref19.Func
theorem provisoref19_Func_c {w : World} {v0_1 v0_4 : Value} {a0 : S_api_Func} {r : S_api_Func × Int} (hr0_1 : Rd Ty.u8 w [] v0_1 a0.Sig.Params) (hr0_4 : Rd Ty.u8 w [] v0_4 a0.Code) (H : provisoref19_Func a0 = some r) :
    Calls Tryz.prog 13 #[.agg ⟨[.string ⟨⟨a0.Name⟩⟩, v0_1, .int .u8 (a0.Sig.Result.toNat : Int), .int .i64 a0.Locals, v0_4]⟩] w (Ret fun u_ w_ => ∃ u0 u1 : Value, u_ = .tuple ⟨[.agg ⟨[.string ⟨⟨r.1.Name⟩⟩, u0, .int .u8 (r.1.Sig.Result.toNat : Int), .int .i64 r.1.Locals, u1]⟩, .int .i64 r.2]⟩ ∧ View Ty.u8 v0_1 a0.Sig.Params u0 r.1.Sig.Params ∧ SL w [] w_ [Sl Ty.u8 u1 r.1.Code]) := by
 have s0 : SL w [] w [] := SL.init0 w
 refine Bn Tryz.func13 rfl Tryz.ntmps13 (Ag rfl) (args := [.agg ⟨[.string ⟨⟨a0.Name⟩⟩, v0_1, .int .u8 (a0.Sig.Result.toNat : Int), .int .i64 a0.Locals, v0_4]⟩]) fun q0 F0 => ?_
 unfold provisoref19_Func at H
 refine Ah <| Ak <| Db F0 s0 rfl rfl rfl fun g0 w0 _ F s1 => Bo F s1 Fx.zero40 rfl rfl fun g1 w1 _ F s2 => Aj F (Aa (Al rfl) <| Ad) fun _ F => Ai <| Ac <| Ah <| Ak ?_
 obtain ⟨x0, h0, H⟩ := Ap H
 refine Aj F (Aa (Ax Fx.fa40_3 rfl rfl) <| Aa (Az Fx.nag38 rfl (s2.blk_cell (.tail _ <| .head _) rfl)) <| Ad) fun _ F => Bk (args := [.tmp 8]) F Fx.fn24 rfl (provisoref19_Code_c (a0 := a0.Code)   (hr0_4.pass0 s2) h0) rfl fun v0 w2 _ h1 F => ?_
 obtain ⟨v1, rfl, h2⟩ := h1
 have s3 := s2.add h2
 refine Aj F (Aa (Af rfl) <| Aa (Au (v := v1) rfl rfl) <| Aa (Au (v := .int .i64 x0.2) rfl rfl) <| Aa (Al rfl) <| Aa (Al rfl) <| Ad) fun _ F => Ai <| Ac <| Ah <| Ah <| Ak <| Aj F (Aa (Af rfl) <| Aa (De rfl rfl) <| Ad) fun _ F => Ai <| Ac <| Bm F rfl (fun h3 => ?_) (fun h3 => ?_)
 ·replace H := Bb h3 H
  refine Ah <| Ak <| Aj F (Aa (Cn (vs := []) Fx.zero40 Fx.pl40 rfl (cs := [.string ⟨⟨[]⟩⟩, .slice none 0 0, .int .u8 0, .int .i64 0, .slice none 0 0]) (rfl)) <| Aa (Af rfl) <| Ad) fun _ F => ?_
  have s4 := s3.f1
  refine As F s4 rfl rfl Fx.sz40 (Ae rfl (Ae rfl (Ae rfl (Ae rfl (Ae rfl Ba))))) (Ag rfl) fun w3 _ F s5 => ?_
  replace s5 : SL w [] w3 [Blk g1 40 [.string ⟨⟨[]⟩⟩, .slice none 0 0, .int .u8 0, .int .i64 0, .slice none 0 0], Sl Ty.u8 v1 x0.1, Blk g0 40 [.string ⟨⟨a0.Name⟩⟩, v0_1, .int .u8 (a0.Sig.Result.toNat : Int), .int .i64 a0.Locals, v0_4]] := s5
  refine Aj F (Aa (Al rfl) <| Ad) fun _ F => Ai <| Ac ?_
  obtain rfl := An H
  refine Bd <| Bg ?_
  refine Av (rs := [.cell 2 40, .tmp 3]) (vs := [.agg ⟨[.string ⟨⟨[]⟩⟩, .slice none 0 0, .int .u8 0, .int .i64 0, .slice none 0 0]⟩, .int .i64 x0.2]) F (by rfl) ⟨_, _, rfl, Cj s5 (.head _) rfl Fx.agg40 rfl, _, _, rfl, Ay rfl, rfl⟩ ⟨_, rfl, ⟨(.slice none 0 0), (.slice none 0 0), rfl, View.nil, (SL.nilSl (T := Ty.u8) s5).f1.drop.f1.drop.f1.drop⟩⟩
 replace H := Bc h3 H
 refine Aw <| Ac <| Ah <| Ak <| Aj F (Aa (Af rfl) <| Aa (Ax Fx.fa40_3 rfl rfl) <| Ad) fun _ F => ?_
 have s6 := s3.f2
 refine Cq F s6 rfl rfl Fx.sz38 (Ct (Bu (s6.own_rd (.tail _ <| .head _)))) (Cd (Bu (s6.own_rd (.tail _ <| .head _)))) rfl fun w4 _ F s7 => ?_
 replace s7 : SL w [] w4 [Blk g0 40 [.string ⟨⟨a0.Name⟩⟩, v0_1, .int .u8 (a0.Sig.Result.toNat : Int), .int .i64 a0.Locals, v1], Sl Ty.u8 v1 x0.1, Blk g1 40 [.string ⟨⟨[]⟩⟩, .slice none 0 0, .int .u8 0, .int .i64 0, .slice none 0 0]] := s7
 refine Ai <| Ac <| Ah <| Ak <| Aj F (Aa (Bj Fx.agg40 rfl (s7.blk_cells (.head _) (o := 0) (ds := [.string ⟨⟨a0.Name⟩⟩, v0_1, .int .u8 (a0.Sig.Result.toNat : Int), .int .i64 a0.Locals, v1]) (fun j u hu => by rw [Nat.zero_add]; exact hu)) rfl) <| Ad) fun _ F => ?_
 have s8 := s7.f2
 refine As F s8 rfl rfl Fx.sz40 (Ae rfl (Ae (Cd (Bu (Cv hr0_1 s8))) (Ae rfl (Ae rfl (Ae (Cd (Bu (s8.own_rd (.tail _ <| .tail _ <| .head _)))) Ba))))) (Ag rfl) fun w5 _ F s9 => ?_
 replace s9 : SL w [] w5 [Blk g1 40 [.string ⟨⟨a0.Name⟩⟩, v0_1, .int .u8 (a0.Sig.Result.toNat : Int), .int .i64 a0.Locals, v1], Blk g0 40 [.string ⟨⟨a0.Name⟩⟩, v0_1, .int .u8 (a0.Sig.Result.toNat : Int), .int .i64 a0.Locals, v1], Sl Ty.u8 v1 x0.1] := s9
 refine Aj F (Aa (Al rfl) <| Ad) fun _ F => Ai <| Ac ?_
 obtain rfl := An H
 refine Bd ?_
 refine Av (rs := [.cell 2 40, .tmp 3]) (vs := [.agg ⟨[.string ⟨⟨a0.Name⟩⟩, v0_1, .int .u8 (a0.Sig.Result.toNat : Int), .int .i64 a0.Locals, v1]⟩, .int .i64 0]) F (by rfl) ⟨_, _, rfl, Cj s9 (.head _) rfl Fx.agg40 rfl, _, _, rfl, Ay rfl, rfl⟩ ⟨_, rfl, ⟨v0_1, v1, rfl, View.refl, s9.drop.drop⟩⟩
-- proviso/provisoref19.Module
theorem provisoref19_Module_c {w : World} {v0_1 v0_2 v0_3 : Value} {a0 : S_api_Module} {r : S_api_Module × Int} {wb : World} {Fb : List Nat} (hb : Fm wb Fb w) (hB : ∀ k ∈ ([] : List Nat), k ∈ Fb ∨ wb.heap.size ≤ k) (hr0_1 : Rd T_api_Class wb Fb v0_1 a0.Classes) (hr0_2 : Rd T_api_Func wb Fb v0_2 a0.Funcs) (hr0_3 : Rd (Ty.slice Ty.u8) wb Fb v0_3 a0.Certs) (H : provisoref19_Module a0 = some r) :
    Calls Tryz.prog 7 #[.agg ⟨[.string ⟨⟨a0.Name⟩⟩, v0_1, v0_2, v0_3]⟩] w (Ret fun u_ w_ => ∃ u0 u1 u2 : Value, u_ = .tuple ⟨[.agg ⟨[.string ⟨⟨r.1.Name⟩⟩, u0, u1, u2]⟩, .int .i64 r.2]⟩ ∧ View T_api_Class v0_1 a0.Classes u0 r.1.Classes ∧ SL w [] w_ [Sl (T_api_Func_b01000 wb Fb) u1 r.1.Funcs, Sl (Ty.slice Ty.u8) u2 r.1.Certs]) := by
 have s0 : SL w [] w [] := SL.init0 w
 refine Bn Tryz.func7 rfl Tryz.ntmps7 (Ag rfl) (args := [.agg ⟨[.string ⟨⟨a0.Name⟩⟩, v0_1, v0_2, v0_3]⟩]) fun q0 F0 => ?_
 unfold provisoref19_Module at H
 refine Ah <| Ak <| Db F0 s0 rfl rfl rfl fun g0 w0 _ F s1 => Bo F s1 Fx.zero26 rfl rfl fun g1 w2 _ F s2 => Aj F (Aa (Al rfl) <| Ad) fun _ F => Ai <| Ac <| Ah <| Ak ?_
 have h0 := (Bu (Cv hr0_1 (SL.up hb hB s2)))
 refine Aj F (Aa (Ax Fx.fa26_0 rfl rfl) <| Aa (Az Fx.nag9 rfl (s2.blk_cell (.tail _ <| .head _) rfl)) <| Aa (Ax Fx.fa26_1 rfl rfl) <| Aa (Az Fx.nag22 rfl (s2.blk_cell (.tail _ <| .head _) rfl)) <| Aa (Cn (vs := [.string ⟨⟨a0.Name⟩⟩, v0_1]) Fx.zero26 Fx.pl26 rfl (cs := [.string ⟨⟨a0.Name⟩⟩, v0_1, .slice none 0 0, .slice none 0 0]) (by obtain ⟨_, _, e_0⟩ := h0; rw [e_0] <;> rfl)) <| Ad) fun _ F => ?_
 refine Bo F s2 Fx.zero26 rfl rfl fun g2 w3 _ F s3 => ?_
 have s4 := s3
 refine As F s4 rfl rfl Fx.sz26 (Ae rfl (Ae (Cd (Bu (Cv hr0_1 (SL.up hb hB s4)))) (Ae rfl (Ae rfl Ba)))) (Ag rfl) fun w4 _ F s5 => ?_
 replace s5 : SL w [] w4 [Blk g2 26 [.string ⟨⟨a0.Name⟩⟩, v0_1, .slice none 0 0, .slice none 0 0], Blk g1 26 [.string ⟨⟨[]⟩⟩, .slice none 0 0, .slice none 0 0, .slice none 0 0], Blk g0 26 [.string ⟨⟨a0.Name⟩⟩, v0_1, v0_2, v0_3]] := s5
 refine Ai <| Ac <| Ah <| Ah <| Ak <| Aj F (Aa (Ax Fx.fa26_2 rfl rfl) <| Aa (Az Fx.nag23 rfl (s5.blk_cell (.tail _ <| .tail _ <| .head _) rfl)) <| Aa (Cc rfl Tryz.underlying23 (Bu (Cv hr0_2 (SL.up hb hB s5)))) <| Aa (Af rfl) <| Ad) fun _ F => Ai <| Ac ?_
 obtain ⟨o0, H0, R0⟩ := Ap H
 clear H
 refine Bx (fun a w_ => ∃ p0 : (List S_api_Func), o0 = .inr (p0) ∧ ∃ v0 : Value, Fr a 38 [(2, .pointer (some ⟨g1, 0, none⟩)), (4, .pointer (some ⟨g2, 0, none⟩))] ∧ SL w [] w_ [Blk g2 26 [.string ⟨⟨a0.Name⟩⟩, v0_1, v0, .slice none 0 0], Blk g1 26 [.string ⟨⟨[]⟩⟩, .slice none 0 0, .slice none 0 0, .slice none 0 0], Sl (T_api_Func_b01000 wb Fb) v0 p0]) ?_ ?_
 ·have H := H0
  refine Bh <| Cu (provisoref19_Module_b0 a0) (fun s6 a w_ => ∃ v1 : Value, Fr a 38 [(2, .pointer (some ⟨g1, 0, none⟩)), (4, .pointer (some ⟨g2, 0, none⟩)), (15, v0_2), (16, .int .i64 (a0.Funcs.length : Int)), (17, .int .i64 s6.2)] ∧ SL w [] w_ [Blk g2 26 [.string ⟨⟨a0.Name⟩⟩, v0_1, v1, .slice none 0 0], Blk g1 26 [.string ⟨⟨[]⟩⟩, .slice none 0 0, .slice none 0 0, .slice none 0 0], Sl (T_api_Func_b01000 wb Fb) v1 s6.1]) H ?_ ?_
  ·exact ⟨(.slice none 0 0), F.sub ⟨rfl, rfl, rfl, rfl, rfl, trivial⟩, (SL.nilSl (T := (T_api_Func_b01000 wb Fb)) s5).f3.drop.f2.f2⟩
  intro s6 _ w5 h1 o1 H hr
  obtain ⟨v1, F, s7⟩ := h1
  replace H : provisoref19_Module_b0 a0 s6 = some o1 := H
  unfold provisoref19_Module_b0 at H
  refine Ah <| Ak <| Aj F (Aa (Cr rfl rfl) <| Ad) fun _ F => Ai <| Ac <| Ah <| Bm F rfl (fun h2 => ?_) (fun h2 => ?_)
  ·replace H := Bb h2 H
   refine Aw <| Ac <| Ah <| Bh <| Ah <| Ak ?_
   obtain ⟨x0, h3, H⟩ := Ap H
   obtain ⟨a1, c0, G0, h4, h5, h6, h7⟩ := Rd.idx hr0_2 Fx.sl23 rfl h3
   obtain ⟨v2, v3, rfl, h8, h9⟩ := (R_api_Func h6 h7)
   replace h5 := h5 _ _ (SL.up hb hB s7)
   refine Aj F (Aa (h4 _ _ _ _ _ _ _ _ _ _ rfl rfl) <| Aa (Bj Fx.agg40 rfl h5 rfl) <| Ad) fun _ F => Bo F s7 Fx.zero40 rfl rfl fun g3 w6 _ F s8 => ?_
   have s9 := s8
   refine As F s9 rfl rfl Fx.sz40 (Ae rfl (Ae (Cd (Bu (Cv h8 (SL.up hb hB s9)))) (Ae rfl (Ae rfl (Ae (Cd (Bu (Cv h9 (SL.up hb hB s9)))) Ba))))) (Ag rfl) fun w7 _ F sa => ?_
   replace sa : SL w [] w7 [Blk g3 40 [.string ⟨⟨x0.Name⟩⟩, v2, .int .u8 (x0.Sig.Result.toNat : Int), .int .i64 x0.Locals, v3], Blk g2 26 [.string ⟨⟨a0.Name⟩⟩, v0_1, v1, .slice none 0 0], Blk g1 26 [.string ⟨⟨[]⟩⟩, .slice none 0 0, .slice none 0 0, .slice none 0 0], Sl (T_api_Func_b01000 wb Fb) v1 s6.1] := sa
   refine Ai <| Ac <| Ah <| Ak ?_
   obtain ⟨x1, ha, H⟩ := Ap H
   refine Aj F (Aa (Bj Fx.agg40 rfl (sa.blk_cells (.head _) (o := 0) (ds := [.string ⟨⟨x0.Name⟩⟩, v2, .int .u8 (x0.Sig.Result.toNat : Int), .int .i64 x0.Locals, v3]) (fun j u hu => by rw [Nat.zero_add]; exact hu)) rfl) <| Ad) fun _ F => Bk (args := [.tmp 22]) F Fx.fn13 rfl (provisoref19_Func_c (a0 := (⟨x0.Name, (⟨x0.Sig.Params, x0.Sig.Result⟩ : S_api_Sig), x0.Locals, x0.Code⟩ : S_api_Func))   (h8.pass0 (SL.up hb hB sa)) (h9.pass0 (SL.up hb hB sa)) ha) rfl fun v4 w8 _ hc F => ?_
   obtain ⟨v5, v6, rfl, hd, he⟩ := hc
   have sb := sa.add he
   have hf := View.rd hd h8
   refine Aj F (Aa (Af rfl) <| Aa (Au (v := .agg ⟨[.string ⟨⟨x1.1.Name⟩⟩, v5, .int .u8 (x1.1.Sig.Result.toNat : Int), .int .i64 x1.1.Locals, v6]⟩) rfl rfl) <| Aa (Au (v := .int .i64 x1.2) rfl rfl) <| Ad) fun _ F => Bo F sb Fx.zero40 rfl rfl fun g4 w9 _ F sc => ?_
   have sd := sc
   refine As F sd rfl rfl Fx.sz40 (Ae rfl (Ae (Cd (Bu (Cv hf (SL.up hb hB sd)))) (Ae rfl (Ae rfl (Ae (Cd (Bu (sd.own_rd (.tail _ <| .head _)))) Ba))))) (Ag rfl) fun wa _ F se => ?_
   replace se : SL w [] wa [Blk g4 40 [.string ⟨⟨x1.1.Name⟩⟩, v5, .int .u8 (x1.1.Sig.Result.toNat : Int), .int .i64 x1.1.Locals, v6], Sl Ty.u8 v6 x1.1.Code, Blk g3 40 [.string ⟨⟨x0.Name⟩⟩, v2, .int .u8 (x0.Sig.Result.toNat : Int), .int .i64 x0.Locals, v3], Blk g2 26 [.string ⟨⟨a0.Name⟩⟩, v0_1, v1, .slice none 0 0], Blk g1 26 [.string ⟨⟨[]⟩⟩, .slice none 0 0, .slice none 0 0, .slice none 0 0], Sl (T_api_Func_b01000 wb Fb) v1 s6.1] := se
   refine Aj F (Aa (Al rfl) <| Ad) fun _ F => Ai <| Ac <| Ah <| Ah <| Ak <| Aj F (Aa (Af rfl) <| Aa (De rfl rfl) <| Ad) fun _ F => Ai <| Ac <| Bm F rfl (fun hg => ?_) (fun hg => ?_)
   ·replace H := Bb hg H
    refine Ah <| Ak <| Aj F (Aa (Cn (vs := []) Fx.zero26 Fx.pl26 rfl (cs := [.string ⟨⟨[]⟩⟩, .slice none 0 0, .slice none 0 0, .slice none 0 0]) (rfl)) <| Aa (Af rfl) <| Ad) fun _ F => ?_
    have sf := se.f4
    refine As F sf rfl rfl Fx.sz26 (Ae rfl (Ae rfl (Ae rfl (Ae rfl Ba)))) (Ag rfl) fun wc _ F sg => ?_
    replace sg : SL w [] wc [Blk g1 26 [.string ⟨⟨[]⟩⟩, .slice none 0 0, .slice none 0 0, .slice none 0 0], Blk g4 40 [.string ⟨⟨x1.1.Name⟩⟩, v5, .int .u8 (x1.1.Sig.Result.toNat : Int), .int .i64 x1.1.Locals, v6], Sl Ty.u8 v6 x1.1.Code, Blk g3 40 [.string ⟨⟨x0.Name⟩⟩, v2, .int .u8 (x0.Sig.Result.toNat : Int), .int .i64 x0.Locals, v3], Blk g2 26 [.string ⟨⟨a0.Name⟩⟩, v0_1, v1, .slice none 0 0], Sl (T_api_Func_b01000 wb Fb) v1 s6.1] := sg
    refine Aj F (Aa (Al rfl) <| Ad) fun _ F => Ai <| Ac ?_
    obtain rfl := An H
    obtain rfl := hr _ rfl
    replace H := R0
    try dsimp only at H
    obtain rfl := An H
    refine Bd <| Bg <| blk_r <| Bg <| Bg <| blk_r <| Bg <| Bg ?_
    refine Av (rs := [.cell 2 26, .tmp 3]) (vs := [.agg ⟨[.string ⟨⟨[]⟩⟩, .slice none 0 0, .slice none 0 0, .slice none 0 0]⟩, .int .i64 x1.2]) F (by rfl) ⟨_, _, rfl, Cj sg (.head _) rfl Fx.agg26 rfl, _, _, rfl, Ay rfl, rfl⟩ ⟨_, rfl, ⟨(.slice none 0 0), (.slice none 0 0), (.slice none 0 0), rfl, View.nil, (SL.nilSl (T := (Ty.slice Ty.u8)) (SL.nilSl (T := (T_api_Func_b01000 wb Fb)) sg)).f2.drop.f2.drop.f2.drop.f2.drop.f2.drop.f2.drop.f1⟩⟩
   replace H := Bc hg H
   refine Aw <| Ac <| Ak <| Aj F (Aa (Ax Fx.fa26_2 rfl rfl) <| Aa (Az Fx.nag23 rfl (se.blk_cell (.tail _ <| .tail _ <| .tail _ <| .head _) rfl)) <| Aa (Bj Fx.agg40 rfl (se.blk_cells (.head _) (o := 0) (ds := [.string ⟨⟨x1.1.Name⟩⟩, v5, .int .u8 (x1.1.Sig.Result.toNat : Int), .int .i64 x1.1.Locals, v6]) (fun j u hu => by rw [Nat.zero_add]; exact hu)) rfl) <| Ad) fun _ F => ?_
   have sh : SL w [] _ (Dt (T_api_Func_b01000 wb Fb) (⟨x1.1.Name, (⟨x1.1.Sig.Params, x1.1.Sig.Result⟩ : S_api_Sig), x1.1.Locals, x1.1.Code⟩ : S_api_Func) [.string ⟨⟨x1.1.Name⟩⟩, v5, .int .u8 (x1.1.Sig.Result.toNat : Int), .int .i64 x1.1.Locals, v6] :: [Blk g4 40 [.string ⟨⟨x1.1.Name⟩⟩, v5, .int .u8 (x1.1.Sig.Result.toNat : Int), .int .i64 x1.1.Locals, v6], Blk g3 40 [.string ⟨⟨x0.Name⟩⟩, v2, .int .u8 (x0.Sig.Result.toNat : Int), .int .i64 x0.Locals, v3], Blk g2 26 [.string ⟨⟨a0.Name⟩⟩, v0_1, v1, .slice none 0 0], Blk g1 26 [.string ⟨⟨[]⟩⟩, .slice none 0 0, .slice none 0 0, .slice none 0 0], Sl (T_api_Func_b01000 wb Fb) v1 s6.1]) := (SL.diso (f := t_api_Func) (x := (⟨x1.1.Name, (⟨x1.1.Sig.Params, x1.1.Sig.Result⟩ : S_api_Sig), x1.1.Locals, x1.1.Code⟩ : S_api_Func)) (SL.dpair (SL.dflat (SL.dpair (SL.diso (f := t_api_Sig) (x := (⟨x1.1.Sig.Params, x1.1.Sig.Result⟩ : S_api_Sig)) (SL.dpair (SL.dbrow (T := Ty.u8) (w1 := wb) (F1 := Fb) (SL.dflat (SL.dpair (SL.dflat (SL.dsl se.f1) (Flat.int .i64) x1.1.Locals)) Flat.u8 x1.1.Sig.Result) hf)))) Flat.str x1.1.Name)))
   refine Dh F sh Fx.sl23 rfl (by decide) rfl rfl rfl fun v7 wd _ F si => ?_
   obtain ⟨x2, hh, H⟩ := Ap H
   refine Dc F si.f5 Fx.sl23 rfl rfl rfl rfl rfl rfl hh rfl fun v8 we _ F sj => Aj F (Aa (Ax Fx.fa26_2 rfl rfl) <| Ad) fun _ F => ?_
   have sk := sj.f3
   refine Cq F sk rfl rfl Fx.sz23 (Ct (Bu (sk.own_rd (.tail _ <| .head _)))) (Cd (Bu (sk.own_rd (.tail _ <| .head _)))) rfl fun wf _ F sl => ?_
   replace sl : SL w [] wf [Blk g2 26 [.string ⟨⟨a0.Name⟩⟩, v0_1, v8, .slice none 0 0], Sl (T_api_Func_b01000 wb Fb) v8 x2, Blk g4 40 [.string ⟨⟨x1.1.Name⟩⟩, v5, .int .u8 (x1.1.Sig.Result.toNat : Int), .int .i64 x1.1.Locals, v6], Blk g3 40 [.string ⟨⟨x0.Name⟩⟩, v2, .int .u8 (x0.Sig.Result.toNat : Int), .int .i64 x0.Locals, v3], Blk g1 26 [.string ⟨⟨[]⟩⟩, .slice none 0 0, .slice none 0 0, .slice none 0 0]] := sl
   refine Ai <| Bz <| Ac <| Ak <| Aj F (Aa (Bq rfl rfl) <| Aa (Af rfl) <| Ad) fun _ F => Ai ?_
   obtain rfl := An H
   refine Ac ?_
   exact ⟨_, rfl, v8, F.sub ⟨rfl, rfl, rfl, rfl, rfl, trivial⟩, sl.f2.drop.f2.drop.f1.f2.f2⟩
  replace H := Bc h2 H
  refine Ca <| Bp <| Bp <| Cb ?_
  obtain rfl := An H
  obtain rfl := hr _ rfl
  refine Ac ?_
  exact ⟨_, rfl, v1, F.sub ⟨rfl, rfl, trivial⟩, s7⟩
 intro _ wg hJ
 obtain ⟨p0, rfl, v0, F, sm⟩ := hJ
 have H := R0
 clear R0 H0
 try dsimp only at H
 refine Ac <| Ah <| Ak <| Aj F (Aa (Bj Fx.agg26 rfl (sm.blk_cells (.head _) (o := 0) (ds := [.string ⟨⟨a0.Name⟩⟩, v0_1, v0, .slice none 0 0]) (fun j u hu => by rw [Nat.zero_add]; exact hu)) rfl) <| Ad) fun _ F => ?_
 have sn := sm.f1
 refine As F sn rfl rfl Fx.sz26 (Ae rfl (Ae (Cd (Bu (Cv hr0_1 (SL.up hb hB sn)))) (Ae (Cd (Bu (sn.own_rd (.tail _ <| .tail _ <| .head _)))) (Ae rfl Ba)))) (Ag rfl) fun wh _ F so => ?_
 replace so : SL w [] wh [Blk g1 26 [.string ⟨⟨a0.Name⟩⟩, v0_1, v0, .slice none 0 0], Blk g2 26 [.string ⟨⟨a0.Name⟩⟩, v0_1, v0, .slice none 0 0], Sl (T_api_Func_b01000 wb Fb) v0 p0] := so
 refine Aj F (Aa (Al rfl) <| Ad) fun _ F => Ai <| Ac ?_
 obtain rfl := An H
 refine Bd ?_
 refine Av (rs := [.cell 2 26, .tmp 3]) (vs := [.agg ⟨[.string ⟨⟨a0.Name⟩⟩, v0_1, v0, .slice none 0 0]⟩, .int .i64 0]) F (by rfl) ⟨_, _, rfl, Cj so (.head _) rfl Fx.agg26 rfl, _, _, rfl, Ay rfl, rfl⟩ ⟨_, rfl, ⟨v0_1, v0, (.slice none 0 0), rfl, View.refl, (SL.nilSl (T := (Ty.slice Ty.u8)) so).f1.drop.f1.drop.f1⟩⟩
-- slices.Equal[[]proviso/api.Field,proviso/api.Field]
theorem slices_Equal_api_Field_api_Field_c {w : World} {v0 v1 : Value} {a0 : List S_api_Field} {a1 : List S_api_Field} {r : Bool} (hr0 : Rd T_api_Field w [] v0 a0) (hr1 : Rd T_api_Field w [] v1 a1) (H : slices_Equal_api_Field_api_Field a0 a1 = some r) :
    Calls Tryz.prog 25 #[v0, v1] w (Ret fun u_ w_ => u_ = .bool r ∧ SL w [] w_ []) := by
 have s0 : SL w [] w [] := SL.init0 w
 refine Bn Tryz.func25 rfl Tryz.ntmps25 (Ag rfl) (args := [v0, v1]) fun q0 F0 => ?_
 unfold slices_Equal_api_Field_api_Field at H
 refine Ah <| Ak <| Aj F0 (Aa (Al rfl) <| Ad) fun q3 F4 => Ai <| Ac <| Ah <| Ah <| Ak <| Aj F4 (Aa (Af rfl) <| Aa (Cc rfl Tryz.underlying44 (Bu (Cv hr0 s0))) <| Aa (Af rfl) <| Aa (Cc rfl Tryz.underlying44 (Bu (Cv hr1 s0))) <| Aa (De rfl rfl) <| Ad) fun _ F => Ai <| Ac <| Bm F rfl (fun h0 => ?_) (fun h0 => ?_)
 ·replace H := Bb h0 H
  refine Ah <| Ak <| Aj F (Aa (Al rfl) <| Ad) fun _ F => Ai <| Ac ?_
  obtain rfl := An H
  refine Bd <| Bg ?_
  refine Av (rs := [.tmp 4]) (vs := [.bool false]) F (by rfl) ⟨_, _, rfl, Ay rfl, rfl⟩ ⟨_, rfl, ⟨rfl, s0⟩⟩
 replace H := Bc h0 H
 refine Aw <| Ac <| Ah <| Ah <| Ak <| Aj F (Aa (Af rfl) <| Aa (Cc rfl Tryz.underlying44 (Bu (Cv hr0 s0))) <| Aa (Af rfl) <| Ad) fun _ F => Ai <| Ac ?_
 obtain ⟨o0, H0, R0⟩ := Ap H
 clear H
 refine Bx (fun a w_ => ∃ p0 : Unit, o0 = .inr (p0) ∧ Fr a 26 [] ∧ SL w [] w_ []) ?_ ?_
 ·have H := H0
  refine Bh <| Cu (slices_Equal_api_Field_api_Field_b0 a0 a1) (fun s1 a w_ => Fr a 26 [(0, v0), (1, v1), (12, .int .i64 (a0.length : Int)), (13, .int .i64 s1)] ∧ SL w [] w_ []) H ?_ ?_
  ·exact ⟨F.sub ⟨rfl, rfl, rfl, rfl, trivial⟩, s0⟩
  intro s1 _ w0 h1 o1 H hr
  obtain ⟨F, s2⟩ := h1
  replace H : slices_Equal_api_Field_api_Field_b0 a0 a1 s1 = some o1 := H
  unfold slices_Equal_api_Field_api_Field_b0 at H
  refine Ah <| Ak <| Aj F (Aa (Cr rfl rfl) <| Ad) fun _ F => Ai <| Ac <| Ah <| Bm F rfl (fun h2 => ?_) (fun h2 => ?_)
  ·replace H := Bb h2 H
   refine Aw <| Ac <| Ah <| Bh <| Ah <| Ak <| Aj F (Aa (Af rfl) <| Aa (Al rfl) <| Ad) fun _ F => Ai <| Ac <| Ah ?_
   obtain ⟨x0, h3, H⟩ := Ap H
   obtain ⟨a2, h4, h5⟩ := idxC (C := fun w_ => SL w [] w_ []) F_api_Field (fun _ hC => (Cv hr0 hC)) s2 Fx.sl44 rfl h3
   obtain ⟨x1, h6, H⟩ := Ap H
   obtain ⟨a3, h7, h8⟩ := idxC (C := fun w_ => SL w [] w_ []) F_api_Field (fun _ hC => (Cv hr1 hC)) s2 Fx.sl44 rfl h6
   refine wp_regq (fun w_ => SL w [] w_ []) Fx.mixed (by kernel_rfl) s2.drew F (Cg (fun _ hC => Af rfl) <| Cg (fun _ hC => Af rfl) <| Cg (fun _ hC => h4 _ _ _ _ _ _ _ _ _ _ rfl rfl) <| Cg (fun _ hC => Bj Fx.agg54 rfl (h5 _ hC) rfl) <| Cg (fun _ hC => Af rfl) <| Cg (fun _ hC => Af rfl) <| Cg (fun _ hC => h7 _ _ _ _ _ _ _ _ _ _ rfl rfl) <| Cg (fun _ hC => Bj Fx.agg54 rfl (h8 _ hC) rfl) <| Cg (fun _ hC => ex_stne (xs := [.string ⟨⟨x0.Name⟩⟩, .int .u8 (x0.Type_.toNat : Int)]) (ys := [.string ⟨⟨x1.Name⟩⟩, .int .u8 (x1.Type_.toNat : Int)]) Fx.st54 (by decide) rfl rfl (eqat_st Fx.st54 Fx.fl54 (eqf_cons rfl (part_s Fx.nag9 rfl) (part_s Fx.nag9 rfl) (EqAt.up (j := 1) (eqat_str Tryz.underlying9) (by decide)) (eqf_cons rfl (part_s Fx.nag35 rfl) (part_s Fx.nag35 rfl) (EqAt.up (j := 1) (eqat_u8 Tryz.underlying35) (by decide)) eqf_nil)))) <| QR.nil) fun w1 _ s3 F => ?_
   refine Ac <| Bm F rfl (fun h9 => ?_) (fun h9 => ?_)
   ·replace H := Bb h9 H
    refine Ah <| Ak <| Aj F (Aa (Al rfl) <| Ad) fun _ F => Ai <| Ac ?_
    obtain rfl := An H
    obtain rfl := hr _ rfl
    replace H := R0
    try dsimp only at H
    obtain rfl := An H
    refine Bd <| blk_r <| Bg <| Bg <| blk_r <| Bg <| Bg ?_
    refine Av (rs := [.tmp 4]) (vs := [.bool false]) F (by rfl) ⟨_, _, rfl, Ay rfl, rfl⟩ ⟨_, rfl, ⟨rfl, s3⟩⟩
   replace H := Bc h9 H
   refine Aw <| Bz <| Ac <| Ak <| Aj F (Aa (Bq rfl rfl) <| Aa (Af rfl) <| Ad) fun _ F => Ai ?_
   obtain rfl := An H
   refine Ac ?_
   exact ⟨_, rfl, F.sub ⟨rfl, rfl, rfl, rfl, trivial⟩, s3⟩
  replace H := Bc h2 H
  refine Ca <| Bp <| Bp <| Cb ?_
  obtain rfl := An H
  obtain rfl := hr _ rfl
  refine Ac ?_
  exact ⟨_, rfl, F.sub trivial, s2⟩
 intro _ w2 hJ
 obtain ⟨p0, rfl, F, s4⟩ := hJ
 have H := R0
 clear R0 H0
 try dsimp only at H
 refine Ac <| Ah <| Ak <| Aj F (Aa (Al rfl) <| Ad) fun _ F => Ai <| Ac ?_
 obtain rfl := An H
 refine Bd ?_
 refine Av (rs := [.tmp 4]) (vs := [.bool true]) F (by rfl) ⟨_, _, rfl, Ay rfl, rfl⟩ ⟨_, rfl, ⟨rfl, s4⟩⟩
-- proviso/provisoplain.SameClasses
theorem provisoplain_SameClasses_c {w : World} {v0 v1 : Value} {a0 : List S_api_Class} {a1 : List S_api_Class} {r : Bool} (hr0 : Rd T_api_Class w [] v0 a0) (hr1 : Rd T_api_Class w [] v1 a1) (H : provisoplain_SameClasses a0 a1 = some r) :
    Calls Tryz.prog 14 #[v0, v1] w (Ret fun u_ w_ => u_ = .bool r ∧ SL w [] w_ []) := by
 have s0 : SL w [] w [] := SL.init0 w
 refine Bn Tryz.func14 rfl Tryz.ntmps14 (Ag rfl) (args := [v0, v1]) fun q0 F0 => ?_
 unfold provisoplain_SameClasses at H
 refine Ah <| Ak <| Aj F0 (Aa (Al rfl) <| Ad) fun q3 F4 => Ai <| Ac <| Ah <| Ah <| Ak <| Aj F4 (Aa (Af rfl) <| Aa (Cc rfl Tryz.underlying22 (Bu (Cv hr0 s0))) <| Aa (Af rfl) <| Aa (Cc rfl Tryz.underlying22 (Bu (Cv hr1 s0))) <| Aa (De rfl rfl) <| Ad) fun _ F => Ai <| Ac <| Bm F rfl (fun h0 => ?_) (fun h0 => ?_)
 ·replace H := Bb h0 H
  refine Ah <| Ak <| Aj F (Aa (Al rfl) <| Ad) fun _ F => Ai <| Ac ?_
  obtain rfl := An H
  refine Bd <| Bg ?_
  refine Av (rs := [.tmp 4]) (vs := [.bool false]) F (by rfl) ⟨_, _, rfl, Ay rfl, rfl⟩ ⟨_, rfl, ⟨rfl, s0⟩⟩
 replace H := Bc h0 H
 refine Aw <| Ac <| Ah <| Ah <| Ak <| Aj F (Aa (Af rfl) <| Aa (Cc rfl Tryz.underlying22 (Bu (Cv hr0 s0))) <| Aa (Af rfl) <| Ad) fun _ F => Ai <| Ac ?_
 obtain ⟨o0, H0, R0⟩ := Ap H
 clear H
 refine Bx (fun a w_ => ∃ p0 : Unit, o0 = .inr (p0) ∧ Fr a 55 [] ∧ SL w [] w_ []) ?_ ?_
 ·have H := H0
  refine Bh <| Cu (provisoplain_SameClasses_b0 a0 a1) (fun s1 a w_ => Fr a 55 [(0, v0), (1, v1), (12, .int .i64 (a0.length : Int)), (13, .int .i64 s1)] ∧ SL w [] w_ []) H ?_ ?_
  ·exact ⟨F.sub ⟨rfl, rfl, rfl, rfl, trivial⟩, s0⟩
  intro s1 _ w0 h1 o1 H hr
  obtain ⟨F, s2⟩ := h1
  replace H : provisoplain_SameClasses_b0 a0 a1 s1 = some o1 := H
  unfold provisoplain_SameClasses_b0 at H
  refine Ah <| Ak <| Aj F (Aa (Cr rfl rfl) <| Ad) fun _ F => Ai <| Ac <| Ah <| Bm F rfl (fun h2 => ?_) (fun h2 => ?_)
  ·replace H := Bb h2 H
   refine Aw <| Ac <| Ah <| Bh <| Ah <| Ak <| Aj F (Aa (Af rfl) <| Aa (Al rfl) <| Ad) fun _ F => Ai <| Ac <| Ah ?_
   obtain ⟨x0, h3, H⟩ := Ap H
   obtain ⟨a2, c0, G0, h4, h5, h6, h7⟩ := Rd.idx hr0 Fx.sl22 rfl h3
   obtain ⟨v2, rfl, h8⟩ := (R_api_Class h6 h7)
   have hc4973_ := h5; clear h5; have h5 := fun w_ (hC : SL w [] w_ []) => hc4973_ _ _ hC
   obtain ⟨x1, h9, H⟩ := Ap H
   obtain ⟨a3, c1, G1, ha, hb, hc, hd⟩ := Rd.idx hr1 Fx.sl22 rfl h9
   obtain ⟨v3, rfl, he⟩ := (R_api_Class hc hd)
   have hc4984_ := hb; clear hb; have hb := fun w_ (hC : SL w [] w_ []) => hc4984_ _ _ hC
   refine Bl (x0.Name != x1.Name) (fun hf => ?_) (fun hf => ?_)
   ·replace H := Bb hf H
    refine wp_regq (fun w_ => SL w [] w_ []) Fx.mixed (by kernel_rfl) s2.drew F (Cg (fun _ hC => Af rfl) <| Cg (fun _ hC => Af rfl) <| Cg (fun _ hC => h4 _ _ _ _ _ _ _ _ _ _ rfl rfl) <| Cg (fun _ hC => Cw Fx.fa46_0 rfl) <| Cg (fun _ hC => Az Fx.nag9 rfl (Cells.at_ (h5 _ hC) (o := 0) rfl)) <| Cg (fun _ hC => Af rfl) <| Cg (fun _ hC => Af rfl) <| Cg (fun _ hC => ha _ _ _ _ _ _ _ _ _ _ rfl rfl) <| Cg (fun _ hC => Cw Fx.fa46_0 rfl) <| Cg (fun _ hC => Az Fx.nag9 rfl (Cells.at_ (hb _ hC) (o := 0) rfl)) <| Cg (fun _ hC => ex_sne rfl rfl) <| Cg (fun _ hC => Af rfl) <| Cp rfl rfl (Am rfl hf) Ab <| Cp rfl rfl (Am rfl hf) Ab <| Cp rfl rfl (Am rfl hf) Ab <| Cp rfl rfl (Am rfl hf) Ab <| Cp rfl rfl (Am rfl hf) Ab <| Cp rfl rfl (Am rfl hf) Ab <| Cp rfl rfl (Am rfl hf) Ab <| Cp rfl rfl (Am rfl hf) Ab <| Cp rfl rfl (Am rfl hf) Ab <| Cp rfl rfl (Am rfl hf) Ab <| Cp rfl rfl (Am rfl hf) Ab <| Cg (fun _ hC => Bf (By rfl hf) rfl) <| Cg (fun _ hC => Af rfl) <| Cp rfl rfl rfl Ab <| Cp rfl rfl rfl Ab <| Cp rfl rfl rfl Ab <| Cp rfl rfl rfl Ab <| Cp rfl rfl rfl Ab <| Cp rfl rfl rfl Ab <| Cp rfl rfl rfl Ab <| Cp rfl rfl rfl Ab <| Cp rfl rfl rfl Ab <| Cp rfl rfl rfl Ab <| Cp rfl rfl rfl Ab <| Cp rfl rfl rfl Ab <| Cg (fun _ hC => Bf rfl rfl) <| QR.nil) fun w1 _ s3 F => ?_
    refine Ac <| Cz F rfl <| Ah <| Ak <| Aj F (Aa (Al rfl) <| Ad) fun _ F => Ai <| Ac ?_
    obtain rfl := An H
    obtain rfl := hr _ rfl
    replace H := R0
    try dsimp only at H
    obtain rfl := An H
    refine Bd <| blk_r <| Bg <| Bg <| blk_r <| Bg <| Bg ?_
    refine Av (rs := [.tmp 4]) (vs := [.bool false]) F (by rfl) ⟨_, _, rfl, Ay rfl, rfl⟩ ⟨_, rfl, ⟨rfl, s3⟩⟩
   replace H := Bc hf H
   obtain ⟨x2, hg, H⟩ := Ap H
   obtain ⟨a4, c2, G2, hh, hi, hj, hk⟩ := Rd.idx hr0 Fx.sl22 rfl hg
   obtain ⟨v4, rfl, hl⟩ := (R_api_Class hj hk)
   have hc5004_ := hi; clear hi; have hi := fun w_ (hC : SL w [] w_ []) => hc5004_ _ _ hC
   obtain ⟨x3, hm, H⟩ := Ap H
   obtain ⟨a5, c3, G3, hn, ho, hp, hq⟩ := Rd.idx hr1 Fx.sl22 rfl hm
   obtain ⟨v5, rfl, hs⟩ := (R_api_Class hp hq)
   have hc5015_ := ho; clear ho; have ho := fun w_ (hC : SL w [] w_ []) => hc5015_ _ _ hC
   refine Bl (x2.Parent != x3.Parent) (fun ht => ?_) (fun ht => ?_)
   ·replace H := Bb ht H
    refine wp_regq (fun w_ => SL w [] w_ []) Fx.mixed (by kernel_rfl) s2.drew F (Cg (fun _ hC => Af rfl) <| Cg (fun _ hC => Af rfl) <| Cg (fun _ hC => h4 _ _ _ _ _ _ _ _ _ _ rfl rfl) <| Cg (fun _ hC => Cw Fx.fa46_0 rfl) <| Cg (fun _ hC => Az Fx.nag9 rfl (Cells.at_ (h5 _ hC) (o := 0) rfl)) <| Cg (fun _ hC => Af rfl) <| Cg (fun _ hC => Af rfl) <| Cg (fun _ hC => ha _ _ _ _ _ _ _ _ _ _ rfl rfl) <| Cg (fun _ hC => Cw Fx.fa46_0 rfl) <| Cg (fun _ hC => Az Fx.nag9 rfl (Cells.at_ (hb _ hC) (o := 0) rfl)) <| Cg (fun _ hC => ex_sne rfl rfl) <| Cg (fun _ hC => Af rfl) <| Cy (fun _ hC => Af rfl) rfl rfl (Am rfl hf) <| Cy (fun _ hC => Af rfl) rfl rfl (Am rfl hf) <| Cy (fun _ hC => hh _ _ _ _ _ _ _ _ _ _ rfl rfl) rfl rfl (Am rfl hf) <| Cy (fun _ hC => Cw Fx.fa46_1 rfl) rfl rfl (Am rfl hf) <| Cy (fun _ hC => Az Fx.nag3 rfl (Cells.at_ (hi _ hC) (o := 1) rfl)) rfl rfl (Am rfl hf) <| Cy (fun _ hC => Af rfl) rfl rfl (Am rfl hf) <| Cy (fun _ hC => Af rfl) rfl rfl (Am rfl hf) <| Cy (fun _ hC => hn _ _ _ _ _ _ _ _ _ _ rfl rfl) rfl rfl (Am rfl hf) <| Cy (fun _ hC => Cw Fx.fa46_1 rfl) rfl rfl (Am rfl hf) <| Cy (fun _ hC => Az Fx.nag3 rfl (Cells.at_ (ho _ hC) (o := 1) rfl)) rfl rfl (Am rfl hf) <| Cy (fun _ hC => De rfl rfl) rfl rfl (Am rfl hf) <| Cg (fun _ hC => Bi (By rfl hf) rfl) <| Cg (fun _ hC => Af rfl) <| Cp rfl rfl (Am rfl ht) Ab <| Cp rfl rfl (Am rfl ht) Ab <| Cp rfl rfl (Am rfl ht) Ab <| Cp rfl rfl (Am rfl ht) Ab <| Cp rfl rfl (Am rfl ht) Ab <| Cp rfl rfl (Am rfl ht) Ab <| Cp rfl rfl (Am rfl ht) Ab <| Cp rfl rfl (Am rfl ht) Ab <| Cp rfl rfl (Am rfl ht) Ab <| Cp rfl rfl (Am rfl ht) Ab <| Cp rfl rfl (Am rfl ht) Ab <| Cp rfl rfl (Am rfl ht) Ab <| Cg (fun _ hC => Bf (By rfl ht) rfl) <| QR.nil) fun w2 _ s4 F => ?_
    refine Ac <| Cz F rfl <| Ah <| Ak <| Aj F (Aa (Al rfl) <| Ad) fun _ F => Ai <| Ac ?_
    obtain rfl := An H
    obtain rfl := hr _ rfl
    replace H := R0
    try dsimp only at H
    obtain rfl := An H
    refine Bd <| blk_r <| Bg <| Bg <| blk_r <| Bg <| Bg ?_
    refine Av (rs := [.tmp 4]) (vs := [.bool false]) F (by rfl) ⟨_, _, rfl, Ay rfl, rfl⟩ ⟨_, rfl, ⟨rfl, s4⟩⟩
   replace H := Bc ht H
   obtain ⟨x4, hu, H⟩ := Ap H
   obtain ⟨a6, c4, G4, hv, hw, hx, hy⟩ := Rd.idx hr0 Fx.sl22 rfl hu
   obtain ⟨v6, rfl, hz⟩ := (R_api_Class hx hy)
   have hc5035_ := hw; clear hw; have hw := fun w_ (hC : SL w [] w_ []) => hc5035_ _ _ hC
   obtain ⟨x5, h10, H⟩ := Ap H
   obtain ⟨a7, c5, G5, h11, h12, h13, h14⟩ := Rd.idx hr1 Fx.sl22 rfl h10
   obtain ⟨v7, rfl, h15⟩ := (R_api_Class h13 h14)
   have hc5046_ := h12; clear h12; have h12 := fun w_ (hC : SL w [] w_ []) => hc5046_ _ _ hC
   obtain ⟨x6, h16, H⟩ := Ap H
   refine wp_regq (fun w_ => SL w [] w_ []) Fx.mixed (by kernel_rfl) s2.drew F (Cg (fun _ hC => Af rfl) <| Cg (fun _ hC => Af rfl) <| Cg (fun _ hC => h4 _ _ _ _ _ _ _ _ _ _ rfl rfl) <| Cg (fun _ hC => Cw Fx.fa46_0 rfl) <| Cg (fun _ hC => Az Fx.nag9 rfl (Cells.at_ (h5 _ hC) (o := 0) rfl)) <| Cg (fun _ hC => Af rfl) <| Cg (fun _ hC => Af rfl) <| Cg (fun _ hC => ha _ _ _ _ _ _ _ _ _ _ rfl rfl) <| Cg (fun _ hC => Cw Fx.fa46_0 rfl) <| Cg (fun _ hC => Az Fx.nag9 rfl (Cells.at_ (hb _ hC) (o := 0) rfl)) <| Cg (fun _ hC => ex_sne rfl rfl) <| Cg (fun _ hC => Af rfl) <| Cy (fun _ hC => Af rfl) rfl rfl (Am rfl hf) <| Cy (fun _ hC => Af rfl) rfl rfl (Am rfl hf) <| Cy (fun _ hC => hh _ _ _ _ _ _ _ _ _ _ rfl rfl) rfl rfl (Am rfl hf) <| Cy (fun _ hC => Cw Fx.fa46_1 rfl) rfl rfl (Am rfl hf) <| Cy (fun _ hC => Az Fx.nag3 rfl (Cells.at_ (hi _ hC) (o := 1) rfl)) rfl rfl (Am rfl hf) <| Cy (fun _ hC => Af rfl) rfl rfl (Am rfl hf) <| Cy (fun _ hC => Af rfl) rfl rfl (Am rfl hf) <| Cy (fun _ hC => hn _ _ _ _ _ _ _ _ _ _ rfl rfl) rfl rfl (Am rfl hf) <| Cy (fun _ hC => Cw Fx.fa46_1 rfl) rfl rfl (Am rfl hf) <| Cy (fun _ hC => Az Fx.nag3 rfl (Cells.at_ (ho _ hC) (o := 1) rfl)) rfl rfl (Am rfl hf) <| Cy (fun _ hC => De rfl rfl) rfl rfl (Am rfl hf) <| Cg (fun _ hC => Bi (By rfl hf) rfl) <| Cg (fun _ hC => Af rfl) <| Cy (fun _ hC => Af rfl) rfl rfl (Am rfl ht) <| Cy (fun _ hC => Af rfl) rfl rfl (Am rfl ht) <| Cy (fun _ hC => hv _ _ _ _ _ _ _ _ _ _ rfl rfl) rfl rfl (Am rfl ht) <| Cy (fun _ hC => Cw Fx.fa46_2 rfl) rfl rfl (Am rfl ht) <| Cy (fun _ hC => Az Fx.nag44 rfl (Cells.at_ (hw _ hC) (o := 2) rfl)) rfl rfl (Am rfl ht) <| Cy (fun _ hC => Af rfl) rfl rfl (Am rfl ht) <| Cy (fun _ hC => Af rfl) rfl rfl (Am rfl ht) <| Cy (fun _ hC => h11 _ _ _ _ _ _ _ _ _ _ rfl rfl) rfl rfl (Am rfl ht) <| Cy (fun _ hC => Cw Fx.fa46_2 rfl) rfl rfl (Am rfl ht) <| Cy (fun _ hC => Az Fx.nag44 rfl (Cells.at_ (h12 _ hC) (o := 2) rfl)) rfl rfl (Am rfl ht) <| QR.gcall rfl (Am rfl ht) (args := [.tmp 45, .tmp 50]) Fx.fn25 rfl (fun _ hC => quiet_c (slices_Equal_api_Field_api_Field_c (a0 := x4.Fields) (a1 := x5.Fields) (hz.pass0 hC) (h15.pass0 hC) h16) hC) <| Cy (fun _ hC => Da rfl) rfl rfl (Am rfl ht) <| Cg (fun _ hC => Bi (By rfl ht) rfl) <| QR.nil) fun w3 _ s5 F => ?_
   refine Ac <| Bm F rfl (fun h17 => ?_) (fun h17 => ?_)
   ·replace H := Bb h17 H
    refine Ah <| Ak <| Aj F (Aa (Al rfl) <| Ad) fun _ F => Ai <| Ac ?_
    obtain rfl := An H
    obtain rfl := hr _ rfl
    replace H := R0
    try dsimp only at H
    obtain rfl := An H
    refine Bd <| blk_r <| Bg <| Bg <| blk_r <| Bg <| Bg ?_
    refine Av (rs := [.tmp 4]) (vs := [.bool false]) F (by rfl) ⟨_, _, rfl, Ay rfl, rfl⟩ ⟨_, rfl, ⟨rfl, s5⟩⟩
   replace H := Bc h17 H
   refine Aw <| Bz <| Ac <| Ak <| Aj F (Aa (Bq rfl rfl) <| Aa (Af rfl) <| Ad) fun _ F => Ai ?_
   obtain rfl := An H
   refine Ac ?_
   exact ⟨_, rfl, F.sub ⟨rfl, rfl, rfl, rfl, trivial⟩, s5⟩
  replace H := Bc h2 H
  refine Ca <| Bp <| Bp <| Cb ?_
  obtain rfl := An H
  obtain rfl := hr _ rfl
  refine Ac ?_
  exact ⟨_, rfl, F.sub trivial, s2⟩
 intro _ w4 hJ
 obtain ⟨p0, rfl, F, s6⟩ := hJ
 have H := R0
 clear R0 H0
 try dsimp only at H
 refine Ac <| Ah <| Ak <| Aj F (Aa (Al rfl) <| Ad) fun _ F => Ai <| Ac ?_
 obtain rfl := An H
 refine Bd ?_
 refine Av (rs := [.tmp 4]) (vs := [.bool true]) F (by rfl) ⟨_, _, rfl, Ay rfl, rfl⟩ ⟨_, rfl, ⟨rfl, s6⟩⟩
-- slices.Equal[[]byte,byte]
theorem slices_Equal_byte_byte_c {w : World} {v0 v1 : Value} {a0 : List UInt8} {a1 : List UInt8} {r : Bool} (hr0 : Rd Ty.u8 w [] v0 a0) (hr1 : Rd Ty.u8 w [] v1 a1) (H : slices_Equal_byte_byte a0 a1 = some r) :
    Calls Tryz.prog 16 #[v0, v1] w (Ret fun u_ w_ => u_ = .bool r ∧ SL w [] w_ []) := by
 have s0 : SL w [] w [] := SL.init0 w
 refine Bn Tryz.func16 rfl Tryz.ntmps16 (Ag rfl) (args := [v0, v1]) fun q0 F0 => ?_
 unfold slices_Equal_byte_byte at H
 refine Ah <| Ak <| Aj F0 (Aa (Al rfl) <| Ad) fun q3 F4 => Ai <| Ac <| Ah <| Ah <| Ak <| Aj F4 (Aa (Af rfl) <| Aa (Cc rfl Tryz.underlying38 (Bu (Cv hr0 s0))) <| Aa (Af rfl) <| Aa (Cc rfl Tryz.underlying38 (Bu (Cv hr1 s0))) <| Aa (De rfl rfl) <| Ad) fun _ F => Ai <| Ac <| Bm F rfl (fun h0 => ?_) (fun h0 => ?_)
 ·replace H := Bb h0 H
  refine Ah <| Ak <| Aj F (Aa (Al rfl) <| Ad) fun _ F => Ai <| Ac ?_
  obtain rfl := An H
  refine Bd <| Bg ?_
  refine Av (rs := [.tmp 4]) (vs := [.bool false]) F (by rfl) ⟨_, _, rfl, Ay rfl, rfl⟩ ⟨_, rfl, ⟨rfl, s0⟩⟩
 replace H := Bc h0 H
 refine Aw <| Ac <| Ah <| Ah <| Ak <| Aj F (Aa (Af rfl) <| Aa (Cc rfl Tryz.underlying38 (Bu (Cv hr0 s0))) <| Aa (Af rfl) <| Ad) fun _ F => Ai <| Ac ?_
 obtain ⟨o0, H0, R0⟩ := Ap H
 clear H
 refine Bx (fun a w_ => ∃ p0 : Unit, o0 = .inr (p0) ∧ Fr a 26 [] ∧ SL w [] w_ []) ?_ ?_
 ·have H := H0
  refine Bh <| Cu (slices_Equal_byte_byte_b0 a0 a1) (fun s1 a w_ => Fr a 26 [(0, v0), (1, v1), (12, .int .i64 (a0.length : Int)), (13, .int .i64 s1)] ∧ SL w [] w_ []) H ?_ ?_
  ·exact ⟨F.sub ⟨rfl, rfl, rfl, rfl, trivial⟩, s0⟩
  intro s1 _ w0 h1 o1 H hr
  obtain ⟨F, s2⟩ := h1
  replace H : slices_Equal_byte_byte_b0 a0 a1 s1 = some o1 := H
  unfold slices_Equal_byte_byte_b0 at H
  refine Ah <| Ak <| Aj F (Aa (Cr rfl rfl) <| Ad) fun _ F => Ai <| Ac <| Ah <| Bm F rfl (fun h2 => ?_) (fun h2 => ?_)
  ·replace H := Bb h2 H
   refine Aw <| Ac <| Ah <| Bh <| Ah <| Ak <| Aj F (Aa (Af rfl) <| Aa (Al rfl) <| Ad) fun _ F => Ai <| Ac <| Ah ?_
   obtain ⟨x0, h3, H⟩ := Ap H
   obtain ⟨a2, h4, h5⟩ := idxC (C := fun w_ => SL w [] w_ []) Flat.u8 (fun _ hC => (Cv hr0 hC)) s2 Fx.sl38 rfl h3
   obtain ⟨x1, h6, H⟩ := Ap H
   obtain ⟨a3, h7, h8⟩ := idxC (C := fun w_ => SL w [] w_ []) Flat.u8 (fun _ hC => (Cv hr1 hC)) s2 Fx.sl38 rfl h6
   refine wp_regq (fun w_ => SL w [] w_ []) Fx.mixed (by kernel_rfl) s2.drew F (Cg (fun _ hC => Af rfl) <| Cg (fun _ hC => Af rfl) <| Cg (fun _ hC => h4 _ _ _ _ _ _ _ _ _ _ rfl rfl) <| Cg (fun _ hC => Az Fx.nag5 rfl (Cells.at_ (h5 _ hC) (o := 0) rfl)) <| Cg (fun _ hC => Af rfl) <| Cg (fun _ hC => Af rfl) <| Cg (fun _ hC => h7 _ _ _ _ _ _ _ _ _ _ rfl rfl) <| Cg (fun _ hC => Az Fx.nag5 rfl (Cells.at_ (h8 _ hC) (o := 0) rfl)) <| Cg (fun _ hC => De rfl rfl) <| QR.nil) fun w1 _ s3 F => ?_
   refine Ac <| Bm F rfl (fun h9 => ?_) (fun h9 => ?_)
   ·replace H := Bb h9 H
    refine Ah <| Ak <| Aj F (Aa (Al rfl) <| Ad) fun _ F => Ai <| Ac ?_
    obtain rfl := An H
    obtain rfl := hr _ rfl
    replace H := R0
    try dsimp only at H
    obtain rfl := An H
    refine Bd <| blk_r <| Bg <| Bg <| blk_r <| Bg <| Bg ?_
    refine Av (rs := [.tmp 4]) (vs := [.bool false]) F (by rfl) ⟨_, _, rfl, Ay rfl, rfl⟩ ⟨_, rfl, ⟨rfl, s3⟩⟩
   replace H := Bc h9 H
   refine Aw <| Bz <| Ac <| Ak <| Aj F (Aa (Bq rfl rfl) <| Aa (Af rfl) <| Ad) fun _ F => Ai ?_
   obtain rfl := An H
   refine Ac ?_
   exact ⟨_, rfl, F.sub ⟨rfl, rfl, rfl, rfl, trivial⟩, s3⟩
  replace H := Bc h2 H
  refine Ca <| Bp <| Bp <| Cb ?_
  obtain rfl := An H
  obtain rfl := hr _ rfl
  refine Ac ?_
  exact ⟨_, rfl, F.sub trivial, s2⟩
 intro _ w2 hJ
 obtain ⟨p0, rfl, F, s4⟩ := hJ
 have H := R0
 clear R0 H0
 try dsimp only at H
 refine Ac <| Ah <| Ak <| Aj F (Aa (Al rfl) <| Ad) fun _ F => Ai <| Ac ?_
 obtain rfl := An H
 refine Bd ?_
 refine Av (rs := [.tmp 4]) (vs := [.bool true]) F (by rfl) ⟨_, _, rfl, Ay rfl, rfl⟩ ⟨_, rfl, ⟨rfl, s4⟩⟩
-- slices.Equal[[]proviso/api.Type,proviso/api.Type]
theorem slices_Equal_api_Type_api_Type_c {w : World} {v0 v1 : Value} {a0 : List UInt8} {a1 : List UInt8} {r : Bool} (hr0 : Rd Ty.u8 w [] v0 a0) (hr1 : Rd Ty.u8 w [] v1 a1) (H : slices_Equal_api_Type_api_Type a0 a1 = some r) :
    Calls Tryz.prog 48 #[v0, v1] w (Ret fun u_ w_ => u_ = .bool r ∧ SL w [] w_ []) := by
 have s0 : SL w [] w [] := SL.init0 w
 refine Bn Tryz.func48 rfl Tryz.ntmps48 (Ag rfl) (args := [v0, v1]) fun q0 F0 => ?_
 unfold slices_Equal_api_Type_api_Type at H
 refine Ah <| Ak <| Aj F0 (Aa (Al rfl) <| Ad) fun q3 F4 => Ai <| Ac <| Ah <| Ah <| Ak <| Aj F4 (Aa (Af rfl) <| Aa (Cc rfl Tryz.underlying34 (Bu (Cv hr0 s0))) <| Aa (Af rfl) <| Aa (Cc rfl Tryz.underlying34 (Bu (Cv hr1 s0))) <| Aa (De rfl rfl) <| Ad) fun _ F => Ai <| Ac <| Bm F rfl (fun h0 => ?_) (fun h0 => ?_)
 ·replace H := Bb h0 H
  refine Ah <| Ak <| Aj F (Aa (Al rfl) <| Ad) fun _ F => Ai <| Ac ?_
  obtain rfl := An H
  refine Bd <| Bg ?_
  refine Av (rs := [.tmp 4]) (vs := [.bool false]) F (by rfl) ⟨_, _, rfl, Ay rfl, rfl⟩ ⟨_, rfl, ⟨rfl, s0⟩⟩
 replace H := Bc h0 H
 refine Aw <| Ac <| Ah <| Ah <| Ak <| Aj F (Aa (Af rfl) <| Aa (Cc rfl Tryz.underlying34 (Bu (Cv hr0 s0))) <| Aa (Af rfl) <| Ad) fun _ F => Ai <| Ac ?_
 obtain ⟨o0, H0, R0⟩ := Ap H
 clear H
 refine Bx (fun a w_ => ∃ p0 : Unit, o0 = .inr (p0) ∧ Fr a 26 [] ∧ SL w [] w_ []) ?_ ?_
 ·have H := H0
  refine Bh <| Cu (slices_Equal_api_Type_api_Type_b0 a0 a1) (fun s1 a w_ => Fr a 26 [(0, v0), (1, v1), (12, .int .i64 (a0.length : Int)), (13, .int .i64 s1)] ∧ SL w [] w_ []) H ?_ ?_
  ·exact ⟨F.sub ⟨rfl, rfl, rfl, rfl, trivial⟩, s0⟩
  intro s1 _ w0 h1 o1 H hr
  obtain ⟨F, s2⟩ := h1
  replace H : slices_Equal_api_Type_api_Type_b0 a0 a1 s1 = some o1 := H
  unfold slices_Equal_api_Type_api_Type_b0 at H
  refine Ah <| Ak <| Aj F (Aa (Cr rfl rfl) <| Ad) fun _ F => Ai <| Ac <| Ah <| Bm F rfl (fun h2 => ?_) (fun h2 => ?_)
  ·replace H := Bb h2 H
   refine Aw <| Ac <| Ah <| Bh <| Ah <| Ak <| Aj F (Aa (Af rfl) <| Aa (Al rfl) <| Ad) fun _ F => Ai <| Ac <| Ah ?_
   obtain ⟨x0, h3, H⟩ := Ap H
   obtain ⟨a2, h4, h5⟩ := idxC (C := fun w_ => SL w [] w_ []) Flat.u8 (fun _ hC => (Cv hr0 hC)) s2 Fx.sl34 rfl h3
   obtain ⟨x1, h6, H⟩ := Ap H
   obtain ⟨a3, h7, h8⟩ := idxC (C := fun w_ => SL w [] w_ []) Flat.u8 (fun _ hC => (Cv hr1 hC)) s2 Fx.sl34 rfl h6
   refine wp_regq (fun w_ => SL w [] w_ []) Fx.mixed (by kernel_rfl) s2.drew F (Cg (fun _ hC => Af rfl) <| Cg (fun _ hC => Af rfl) <| Cg (fun _ hC => h4 _ _ _ _ _ _ _ _ _ _ rfl rfl) <| Cg (fun _ hC => Az Fx.nag35 rfl (Cells.at_ (h5 _ hC) (o := 0) rfl)) <| Cg (fun _ hC => Af rfl) <| Cg (fun _ hC => Af rfl) <| Cg (fun _ hC => h7 _ _ _ _ _ _ _ _ _ _ rfl rfl) <| Cg (fun _ hC => Az Fx.nag35 rfl (Cells.at_ (h8 _ hC) (o := 0) rfl)) <| Cg (fun _ hC => De rfl rfl) <| QR.nil) fun w1 _ s3 F => ?_
   refine Ac <| Bm F rfl (fun h9 => ?_) (fun h9 => ?_)
   ·replace H := Bb h9 H
    refine Ah <| Ak <| Aj F (Aa (Al rfl) <| Ad) fun _ F => Ai <| Ac ?_
    obtain rfl := An H
    obtain rfl := hr _ rfl
    replace H := R0
    try dsimp only at H
    obtain rfl := An H
    refine Bd <| blk_r <| Bg <| Bg <| blk_r <| Bg <| Bg ?_
    refine Av (rs := [.tmp 4]) (vs := [.bool false]) F (by rfl) ⟨_, _, rfl, Ay rfl, rfl⟩ ⟨_, rfl, ⟨rfl, s3⟩⟩
   replace H := Bc h9 H
   refine Aw <| Bz <| Ac <| Ak <| Aj F (Aa (Bq rfl rfl) <| Aa (Af rfl) <| Ad) fun _ F => Ai ?_
   obtain rfl := An H
   refine Ac ?_
   exact ⟨_, rfl, F.sub ⟨rfl, rfl, rfl, rfl, trivial⟩, s3⟩
  replace H := Bc h2 H
  refine Ca <| Bp <| Bp <| Cb ?_
  obtain rfl := An H
  obtain rfl := hr _ rfl
  refine Ac ?_
  exact ⟨_, rfl, F.sub trivial, s2⟩
 intro _ w2 hJ
 obtain ⟨p0, rfl, F, s4⟩ := hJ
 have H := R0
 clear R0 H0
 try dsimp only at H
 refine Ac <| Ah <| Ak <| Aj F (Aa (Al rfl) <| Ad) fun _ F => Ai <| Ac ?_
 obtain rfl := An H
 refine Bd ?_
 refine Av (rs := [.tmp 4]) (vs := [.bool true]) F (by rfl) ⟨_, _, rfl, Ay rfl, rfl⟩ ⟨_, rfl, ⟨rfl, s4⟩⟩
-- proviso/provisoplain.SameSig
theorem provisoplain_SameSig_c {w : World} {v0_0 v1_0 : Value} {a0 : S_api_Sig} {a1 : S_api_Sig} {r : Bool} (hr0_0 : Rd Ty.u8 w [] v0_0 a0.Params) (hr1_0 : Rd Ty.u8 w [] v1_0 a1.Params) (H : provisoplain_SameSig a0 a1 = some r) :
    Calls Tryz.prog 26 #[.agg ⟨[v0_0, .int .u8 (a0.Result.toNat : Int)]⟩, .agg ⟨[v1_0, .int .u8 (a1.Result.toNat : Int)]⟩] w (Ret fun u_ w_ => u_ = .bool r ∧ SL w [] w_ []) := by
 have s0 : SL w [] w [] := SL.init0 w
 refine Bn Tryz.func26 rfl Tryz.ntmps26 (Ag rfl) (args := [.agg ⟨[v0_0, .int .u8 (a0.Result.toNat : Int)]⟩, .agg ⟨[v1_0, .int .u8 (a1.Result.toNat : Int)]⟩]) fun q0 F0 => ?_
 unfold provisoplain_SameSig at H
 refine Ah <| Ak <| Db F0 s0 rfl rfl rfl fun g0 w0 _ F s1 => Db F s1 rfl rfl rfl fun g1 w1 _ F s2 => Aj F (Aa (Al rfl) <| Ad) fun _ F => Ai <| Ac <| Ah <| Ak <| Aj F (Aa (Ax Fx.fa37_1 rfl rfl) <| Aa (Az Fx.nag35 rfl (s2.blk_cell (.tail _ <| .head _) rfl)) <| Aa (Ax Fx.fa37_1 rfl rfl) <| Aa (Az Fx.nag35 rfl (s2.blk_cell (.head _) rfl)) <| Aa (Bw rfl rfl) <| Aa (Af rfl) <| Ad) fun _ F => Bl ((a0.Result.toNat : Int) == (a1.Result.toNat : Int)) (fun h0 => ?_) (fun h0 => ?_)
 ·replace H := Bb h0 H
  refine Aq F rfl rfl (Am rfl h0) (Ax Fx.fa37_0 rfl rfl) rfl rfl fun _ F => Aq F rfl rfl (Am rfl h0) (Az Fx.nag34 rfl (s2.blk_cell (.tail _ <| .head _) rfl)) rfl rfl fun _ F => Aq F rfl rfl (Am rfl h0) (Ax Fx.fa37_0 rfl rfl) rfl rfl fun _ F => Aq F rfl rfl (Am rfl h0) (Az Fx.nag34 rfl (s2.blk_cell (.head _) rfl)) rfl rfl fun _ F => ?_
  obtain ⟨x0, h1, H⟩ := Ap H
  refine st_ungd F rfl (Am rfl h0) <| Bk (args := [.tmp 12, .tmp 14]) F Fx.fn48 rfl (slices_Equal_api_Type_api_Type_c (a0 := a0.Params) (a1 := a1.Params)   (hr0_0.pass0 s2) (hr1_0.pass0 s2) h1) rfl fun v0 w2 _ h2 F => ?_
  obtain ⟨rfl, h3⟩ := h2
  have s3 := s2.add h3
  refine Aj F (Aa (Bf (By rfl h0) rfl) <| Aa (Al rfl) <| Ad) fun _ F => Ai <| Ac ?_
  obtain rfl := An H
  refine Bd ?_
  refine Av (rs := [.tmp 4]) (vs := [.bool x0]) F (by rfl) ⟨_, _, rfl, Ay rfl, rfl⟩ ⟨_, rfl, ⟨rfl, s3.drop.drop⟩⟩
 replace H := Bc h0 H
 refine Ao F rfl rfl (Am rfl h0) Ab rfl rfl fun _ F => Ao F rfl rfl (Am rfl h0) Ab rfl rfl fun _ F => Ao F rfl rfl (Am rfl h0) Ab rfl rfl fun _ F => Ao F rfl rfl (Am rfl h0) Ab rfl rfl fun _ F => Ao F rfl rfl (Am rfl h0) Ab rfl rfl fun _ F => Aj F (Aa (Bi (By rfl h0) rfl) <| Aa (Al rfl) <| Ad) fun _ F => Ai <| Ac ?_
 obtain rfl := An H
 refine Bd ?_
 refine Av (rs := [.tmp 4]) (vs := [.bool false]) F (by rfl) ⟨_, _, rfl, Ay rfl, rfl⟩ ⟨_, rfl, ⟨rfl, s2.drop.drop⟩⟩
-- proviso/provisoplain.SameFunc
theorem provisoplain_SameFunc_c {w : World} {v0_1 v0_4 v1_1 v1_4 : Value} {a0 : S_api_Func} {a1 : S_api_Func} {r : Bool} (hr0_1 : Rd Ty.u8 w [] v0_1 a0.Sig.Params) (hr0_4 : Rd Ty.u8 w [] v0_4 a0.Code) (hr1_1 : Rd Ty.u8 w [] v1_1 a1.Sig.Params) (hr1_4 : Rd Ty.u8 w [] v1_4 a1.Code) (H : provisoplain_SameFunc a0 a1 = some r) :
    Calls Tryz.prog 15 #[.agg ⟨[.string ⟨⟨a0.Name⟩⟩, v0_1, .int .u8 (a0.Sig.Result.toNat : Int), .int .i64 a0.Locals, v0_4]⟩, .agg ⟨[.string ⟨⟨a1.Name⟩⟩, v1_1, .int .u8 (a1.Sig.Result.toNat : Int), .int .i64 a1.Locals, v1_4]⟩] w (Ret fun u_ w_ => u_ = .bool r ∧ SL w [] w_ []) := by
 have s0 : SL w [] w [] := SL.init0 w
 refine Bn Tryz.func15 rfl Tryz.ntmps15 (Ag rfl) (args := [.agg ⟨[.string ⟨⟨a0.Name⟩⟩, v0_1, .int .u8 (a0.Sig.Result.toNat : Int), .int .i64 a0.Locals, v0_4]⟩, .agg ⟨[.string ⟨⟨a1.Name⟩⟩, v1_1, .int .u8 (a1.Sig.Result.toNat : Int), .int .i64 a1.Locals, v1_4]⟩]) fun q0 F0 => ?_
 unfold provisoplain_SameFunc at H
 refine Ah <| Ak <| Db F0 s0 rfl rfl rfl fun g0 w0 _ F s1 => Db F s1 rfl rfl rfl fun g1 w1 _ F s2 => Aj F (Aa (Al rfl) <| Ad) fun _ F => Ai <| Ac <| Ah <| Ak <| Aj F (Aa (Ax Fx.fa40_0 rfl rfl) <| Aa (Az Fx.nag9 rfl (s2.blk_cell (.tail _ <| .head _) rfl)) <| Aa (Ax Fx.fa40_0 rfl rfl) <| Aa (Az Fx.nag9 rfl (s2.blk_cell (.head _) rfl)) <| Aa (ex_seq rfl rfl) <| Aa (Af rfl) <| Ad) fun _ F => Bl (a0.Name == a1.Name) (fun h0 => ?_) (fun h0 => ?_)
 ·replace H := Bb h0 H
  refine Aq F rfl rfl (Am rfl h0) (Ax Fx.fa40_1 rfl rfl) rfl rfl fun _ F => Aq F rfl rfl (Am rfl h0) (Bj Fx.agg37 rfl (s2.blk_cells (.tail _ <| .head _) (o := 1) (ds := [v0_1, .int .u8 (a0.Sig.Result.toNat : Int)]) (subcells _ rfl)) rfl) rfl rfl fun _ F => Aq F rfl rfl (Am rfl h0) (Ax Fx.fa40_1 rfl rfl) rfl rfl fun _ F => Aq F rfl rfl (Am rfl h0) (Bj Fx.agg37 rfl (s2.blk_cells (.head _) (o := 1) (ds := [v1_1, .int .u8 (a1.Sig.Result.toNat : Int)]) (subcells _ rfl)) rfl) rfl rfl fun _ F => ?_
  obtain ⟨x0, h1, H⟩ := Ap H
  refine st_ungd F rfl (Am rfl h0) <| Bk (args := [.tmp 12, .tmp 14]) F Fx.fn26 rfl (provisoplain_SameSig_c (a0 := (⟨a0.Sig.Params, a0.Sig.Result⟩ : S_api_Sig)) (a1 := (⟨a1.Sig.Params, a1.Sig.Result⟩ : S_api_Sig))   (hr0_1.pass0 s2) (hr1_1.pass0 s2) h1) rfl fun v0 w2 _ h2 F => ?_
  obtain ⟨rfl, h3⟩ := h2
  have s3 := s2.add h3
  refine Aj F (Aa (Bf (By rfl h0) rfl) <| Aa (Af rfl) <| Ad) fun _ F => Bl x0 (fun h4 => ?_) (fun h4 => ?_)
  ·replace H := Bb h4 H
   refine Aq F rfl rfl (Am rfl h4) (Ax Fx.fa40_2 rfl rfl) rfl rfl fun _ F => Aq F rfl rfl (Am rfl h4) (Az Fx.nag3 rfl (s3.blk_cell (.tail _ <| .head _) rfl)) rfl rfl fun _ F => Aq F rfl rfl (Am rfl h4) (Ax Fx.fa40_2 rfl rfl) rfl rfl fun _ F => Aq F rfl rfl (Am rfl h4) (Az Fx.nag3 rfl (s3.blk_cell (.head _) rfl)) rfl rfl fun _ F => Aq F rfl rfl (Am rfl h4) (Bw rfl rfl) rfl rfl fun _ F => Aj F (Aa (Bf (By rfl h4) rfl) <| Aa (Af rfl) <| Ad) fun _ F => Bl (a0.Locals == a1.Locals) (fun h5 => ?_) (fun h5 => ?_)
   ·replace H := Bb h5 H
    refine Aq F rfl rfl (Am rfl h5) (Ax Fx.fa40_3 rfl rfl) rfl rfl fun _ F => Aq F rfl rfl (Am rfl h5) (Az Fx.nag38 rfl (s3.blk_cell (.tail _ <| .head _) rfl)) rfl rfl fun _ F => Aq F rfl rfl (Am rfl h5) (Ax Fx.fa40_3 rfl rfl) rfl rfl fun _ F => Aq F rfl rfl (Am rfl h5) (Az Fx.nag38 rfl (s3.blk_cell (.head _) rfl)) rfl rfl fun _ F => ?_
    obtain ⟨x1, h6, H⟩ := Ap H
    refine st_ungd F rfl (Am rfl h5) <| Bk (args := [.tmp 26, .tmp 28]) F Fx.fn16 rfl (slices_Equal_byte_byte_c (a0 := a0.Code) (a1 := a1.Code)   (hr0_4.pass0 s3) (hr1_4.pass0 s3) h6) rfl fun v1 w3 _ h7 F => ?_
    obtain ⟨rfl, h8⟩ := h7
    have s4 := s3.add h8
    refine Aj F (Aa (Bf (By rfl h5) rfl) <| Aa (Al rfl) <| Ad) fun _ F => Ai <| Ac ?_
    obtain rfl := An H
    refine Bd ?_
    refine Av (rs := [.tmp 4]) (vs := [.bool x1]) F (by rfl) ⟨_, _, rfl, Ay rfl, rfl⟩ ⟨_, rfl, ⟨rfl, s4.drop.drop⟩⟩
   replace H := Bc h5 H
   refine Ao F rfl rfl (Am rfl h5) Ab rfl rfl fun _ F => Ao F rfl rfl (Am rfl h5) Ab rfl rfl fun _ F => Ao F rfl rfl (Am rfl h5) Ab rfl rfl fun _ F => Ao F rfl rfl (Am rfl h5) Ab rfl rfl fun _ F => Ao F rfl rfl (Am rfl h5) Ab rfl rfl fun _ F => Aj F (Aa (Bi (By rfl h5) rfl) <| Aa (Al rfl) <| Ad) fun _ F => Ai <| Ac ?_
   obtain rfl := An H
   refine Bd ?_
   refine Av (rs := [.tmp 4]) (vs := [.bool false]) F (by rfl) ⟨_, _, rfl, Ay rfl, rfl⟩ ⟨_, rfl, ⟨rfl, s3.drop.drop⟩⟩
  replace H := Bc h4 H
  refine Ao F rfl rfl (Am rfl h4) Ab rfl rfl fun _ F => Ao F rfl rfl (Am rfl h4) Ab rfl rfl fun _ F => Ao F rfl rfl (Am rfl h4) Ab rfl rfl fun _ F => Ao F rfl rfl (Am rfl h4) Ab rfl rfl fun _ F => Ao F rfl rfl (Am rfl h4) Ab rfl rfl fun _ F => Aj F (Aa (Bi (By rfl h4) rfl) <| Aa (Af rfl) <| Ad) fun _ F => Ao F rfl rfl rfl Ab rfl rfl fun _ F => Ao F rfl rfl rfl Ab rfl rfl fun _ F => Ao F rfl rfl rfl Ab rfl rfl fun _ F => Ao F rfl rfl rfl Ab rfl rfl fun _ F => Ao F rfl rfl rfl Ab rfl rfl fun _ F => Aj F (Aa (Bi rfl rfl) <| Aa (Al rfl) <| Ad) fun _ F => Ai <| Ac ?_
  obtain rfl := An H
  refine Bd ?_
  refine Av (rs := [.tmp 4]) (vs := [.bool false]) F (by rfl) ⟨_, _, rfl, Ay rfl, rfl⟩ ⟨_, rfl, ⟨rfl, s3.drop.drop⟩⟩
 replace H := Bc h0 H
 refine Ao F rfl rfl (Am rfl h0) Ab rfl rfl fun _ F => Ao F rfl rfl (Am rfl h0) Ab rfl rfl fun _ F => Ao F rfl rfl (Am rfl h0) Ab rfl rfl fun _ F => Ao F rfl rfl (Am rfl h0) Ab rfl rfl fun _ F => Ao F rfl rfl (Am rfl h0) Ab rfl rfl fun _ F => Aj F (Aa (Bi (By rfl h0) rfl) <| Aa (Af rfl) <| Ad) fun _ F => Ao F rfl rfl rfl Ab rfl rfl fun _ F => Ao F rfl rfl rfl Ab rfl rfl fun _ F => Ao F rfl rfl rfl Ab rfl rfl fun _ F => Ao F rfl rfl rfl Ab rfl rfl fun _ F => Ao F rfl rfl rfl Ab rfl rfl fun _ F => Aj F (Aa (Bi rfl rfl) <| Aa (Af rfl) <| Ad) fun _ F => Ao F rfl rfl rfl Ab rfl rfl fun _ F => Ao F rfl rfl rfl Ab rfl rfl fun _ F => Ao F rfl rfl rfl Ab rfl rfl fun _ F => Ao F rfl rfl rfl Ab rfl rfl fun _ F => Ao F rfl rfl rfl Ab rfl rfl fun _ F => ?_
 refine Aj F (Aa (Bi rfl rfl) <| Aa (Al rfl) <| Ad) fun _ F => Ai <| Ac ?_
 obtain rfl := An H
 refine Bd ?_
 refine Av (rs := [.tmp 4]) (vs := [.bool false]) F (by rfl) ⟨_, _, rfl, Ay rfl, rfl⟩ ⟨_, rfl, ⟨rfl, s2.drop.drop⟩⟩
-- proviso/provisoplain.SameModule
theorem provisoplain_SameModule_c {w : World} {v0_1 v0_2 v0_3 v1_1 v1_2 v1_3 : Value} {a0 : S_api_Module} {a1 : S_api_Module} {r : Bool} (hr0_1 : Rd T_api_Class w [] v0_1 a0.Classes) (hr0_2 : Rd T_api_Func w [] v0_2 a0.Funcs) (hr0_3 : Rd (Ty.slice Ty.u8) w [] v0_3 a0.Certs) (hr1_1 : Rd T_api_Class w [] v1_1 a1.Classes) (hr1_2 : Rd T_api_Func w [] v1_2 a1.Funcs) (hr1_3 : Rd (Ty.slice Ty.u8) w [] v1_3 a1.Certs) (H : provisoplain_SameModule a0 a1 = some r) :
    Calls Tryz.prog 8 #[.agg ⟨[.string ⟨⟨a0.Name⟩⟩, v0_1, v0_2, v0_3]⟩, .agg ⟨[.string ⟨⟨a1.Name⟩⟩, v1_1, v1_2, v1_3]⟩] w (Ret fun u_ w_ => u_ = .bool r ∧ SL w [] w_ []) := by
 have s0 : SL w [] w [] := SL.init0 w
 refine Bn Tryz.func8 rfl Tryz.ntmps8 (Ag rfl) (args := [.agg ⟨[.string ⟨⟨a0.Name⟩⟩, v0_1, v0_2, v0_3]⟩, .agg ⟨[.string ⟨⟨a1.Name⟩⟩, v1_1, v1_2, v1_3]⟩]) fun q0 F0 => ?_
 unfold provisoplain_SameModule at H
 refine Ah <| Ak <| Db F0 s0 rfl rfl rfl fun g0 w0 _ F s1 => Db F s1 rfl rfl rfl fun g1 w1 _ F s2 => Aj F (Aa (Al rfl) <| Ad) fun _ F => Ai <| Ac <| Ah <| Ah <| Ak <| Aj F (Aa (Ax Fx.fa26_0 rfl rfl) <| Aa (Az Fx.nag9 rfl (s2.blk_cell (.tail _ <| .head _) rfl)) <| Aa (Ax Fx.fa26_0 rfl rfl) <| Aa (Az Fx.nag9 rfl (s2.blk_cell (.head _) rfl)) <| Aa (ex_sne rfl rfl) <| Aa (Af rfl) <| Ad) fun _ F => Bl (a0.Name != a1.Name) (fun h0 => ?_) (fun h0 => ?_)
 ·replace H := Bb h0 H
  refine Ao F rfl rfl (Am rfl h0) Ab rfl rfl fun _ F => Ao F rfl rfl (Am rfl h0) Ab rfl rfl fun _ F => Ao F rfl rfl (Am rfl h0) Ab rfl rfl fun _ F => Ao F rfl rfl (Am rfl h0) Ab rfl rfl fun _ F => Ao F rfl rfl (Am rfl h0) Ab rfl rfl fun _ F => Ao F rfl rfl (Am rfl h0) Ab rfl rfl fun _ F => Aj F (Aa (Bf (By rfl h0) rfl) <| Aa (Af rfl) <| Ad) fun _ F => Ao F rfl rfl rfl Ab rfl rfl fun _ F => Ao F rfl rfl rfl Ab rfl rfl fun _ F => Ao F rfl rfl rfl Ab rfl rfl fun _ F => Ao F rfl rfl rfl Ab rfl rfl fun _ F => Ao F rfl rfl rfl Ab rfl rfl fun _ F => Ao F rfl rfl rfl Ab rfl rfl fun _ F => Ao F rfl rfl rfl Ab rfl rfl fun _ F => Aj F (Aa (Bf rfl rfl) <| Aa (Af rfl) <| Ad) fun _ F => Ao F rfl rfl rfl Ab rfl rfl fun _ F => Ao F rfl rfl rfl Ab rfl rfl fun _ F => ?_
  refine Ao F rfl rfl rfl Ab rfl rfl fun _ F => Ao F rfl rfl rfl Ab rfl rfl fun _ F => Ao F rfl rfl rfl Ab rfl rfl fun _ F => Ao F rfl rfl rfl Ab rfl rfl fun _ F => Ao F rfl rfl rfl Ab rfl rfl fun _ F => Aj F (Aa (Bf rfl rfl) <| Ad) fun _ F => Ai <| Ac <| Cz F rfl <| Ah <| Ak <| Aj F (Aa (Al rfl) <| Ad) fun _ F => Ai <| Ac ?_
  obtain rfl := An H
  refine Bd <| Bg ?_
  refine Av (rs := [.tmp 4]) (vs := [.bool false]) F (by rfl) ⟨_, _, rfl, Ay rfl, rfl⟩ ⟨_, rfl, ⟨rfl, s2.drop.drop⟩⟩
 replace H := Bc h0 H
 refine Aq F rfl rfl (Am rfl h0) (Ax Fx.fa26_1 rfl rfl) rfl rfl fun _ F => Aq F rfl rfl (Am rfl h0) (Az Fx.nag22 rfl (s2.blk_cell (.tail _ <| .head _) rfl)) rfl rfl fun _ F => Aq F rfl rfl (Am rfl h0) (Ax Fx.fa26_1 rfl rfl) rfl rfl fun _ F => Aq F rfl rfl (Am rfl h0) (Az Fx.nag22 rfl (s2.blk_cell (.head _) rfl)) rfl rfl fun _ F => ?_
 obtain ⟨x0, h1, H⟩ := Ap H
 refine st_ungd F rfl (Am rfl h0) <| Bk (args := [.tmp 14, .tmp 16]) F Fx.fn14 rfl (provisoplain_SameClasses_c (a0 := a0.Classes) (a1 := a1.Classes)   (hr0_1.pass0 s2) (hr1_1.pass0 s2) h1) rfl fun v0 w2 _ h2 F => ?_
 obtain ⟨rfl, h3⟩ := h2
 have s3 := s2.add h3
 refine Aq F rfl rfl (Am rfl h0) (Da rfl) rfl rfl fun _ F => Aj F (Aa (Bi (By rfl h0) rfl) <| Aa (Af rfl) <| Ad) fun _ F => Bl (!x0) (fun h4 => ?_) (fun h4 => ?_)
 ·replace H := Bb h4 H
  refine Ao F rfl rfl (Am rfl h4) Ab rfl rfl fun _ F => Ao F rfl rfl (Am rfl h4) Ab rfl rfl fun _ F => Ao F rfl rfl (Am rfl h4) Ab rfl rfl fun _ F => Ao F rfl rfl (Am rfl h4) Ab rfl rfl fun _ F => Ao F rfl rfl (Am rfl h4) Ab rfl rfl fun _ F => Ao F rfl rfl (Am rfl h4) Ab rfl rfl fun _ F => Ao F rfl rfl (Am rfl h4) Ab rfl rfl fun _ F => Aj F (Aa (Bf (By rfl h4) rfl) <| Aa (Af rfl) <| Ad) fun _ F => Ao F rfl rfl rfl Ab rfl rfl fun _ F => Ao F rfl rfl rfl Ab rfl rfl fun _ F => Ao F rfl rfl rfl Ab rfl rfl fun _ F => Ao F rfl rfl rfl Ab rfl rfl fun _ F => Ao F rfl rfl rfl Ab rfl rfl fun _ F => Ao F rfl rfl rfl Ab rfl rfl fun _ F => Ao F rfl rfl rfl Ab rfl rfl fun _ F => Aj F (Aa (Bf rfl rfl) <| Ad) fun _ F => Ai <| Ac <| Cz F rfl ?_
  refine Ah <| Ak <| Aj F (Aa (Al rfl) <| Ad) fun _ F => Ai <| Ac ?_
  obtain rfl := An H
  refine Bd <| Bg ?_
  refine Av (rs := [.tmp 4]) (vs := [.bool false]) F (by rfl) ⟨_, _, rfl, Ay rfl, rfl⟩ ⟨_, rfl, ⟨rfl, s3.drop.drop⟩⟩
 replace H := Bc h4 H
 refine Aq F rfl rfl (Am rfl h4) (Ax Fx.fa26_2 rfl rfl) rfl rfl fun _ F => Aq F rfl rfl (Am rfl h4) (Az Fx.nag23 rfl (s3.blk_cell (.tail _ <| .head _) rfl)) rfl rfl fun _ F => Aq F rfl rfl (Am rfl h4) (Cc rfl Tryz.underlying23 (Bu (Cv hr0_2 s3))) rfl rfl fun _ F => Aq F rfl rfl (Am rfl h4) (Ax Fx.fa26_2 rfl rfl) rfl rfl fun _ F => Aq F rfl rfl (Am rfl h4) (Az Fx.nag23 rfl (s3.blk_cell (.head _) rfl)) rfl rfl fun _ F => Aq F rfl rfl (Am rfl h4) (Cc rfl Tryz.underlying23 (Bu (Cv hr1_2 s3))) rfl rfl fun _ F => Aq F rfl rfl (Am rfl h4) (De rfl rfl) rfl rfl fun _ F => Aj F (Aa (Bi (By rfl h4) rfl) <| Aa (Af rfl) <| Ad) fun _ F => Bl ((a0.Funcs.length : Int) != (a1.Funcs.length : Int)) (fun h5 => ?_) (fun h5 => ?_)
 ·replace H := Bb h5 H
  refine Ao F rfl rfl (Am rfl h5) Ab rfl rfl fun _ F => Ao F rfl rfl (Am rfl h5) Ab rfl rfl fun _ F => Ao F rfl rfl (Am rfl h5) Ab rfl rfl fun _ F => Ao F rfl rfl (Am rfl h5) Ab rfl rfl fun _ F => Ao F rfl rfl (Am rfl h5) Ab rfl rfl fun _ F => Ao F rfl rfl (Am rfl h5) Ab rfl rfl fun _ F => Ao F rfl rfl (Am rfl h5) Ab rfl rfl fun _ F => Aj F (Aa (Bf (By rfl h5) rfl) <| Ad) fun _ F => Ai <| Ac <| Cz F rfl <| Ah <| Ak <| Aj F (Aa (Al rfl) <| Ad) fun _ F => Ai <| Ac ?_
  obtain rfl := An H
  refine Bd <| Bg ?_
  refine Av (rs := [.tmp 4]) (vs := [.bool false]) F (by rfl) ⟨_, _, rfl, Ay rfl, rfl⟩ ⟨_, rfl, ⟨rfl, s3.drop.drop⟩⟩
 replace H := Bc h5 H
 refine Aq F rfl rfl (Am rfl h5) (Ax Fx.fa26_3 rfl rfl) rfl rfl fun _ F => Aq F rfl rfl (Am rfl h5) (Az Fx.nag24 rfl (s3.blk_cell (.tail _ <| .head _) rfl)) rfl rfl fun _ F => Aq F rfl rfl (Am rfl h5) (Cc rfl Tryz.underlying24 (Bu (Cv hr0_3 s3))) rfl rfl fun _ F => Aq F rfl rfl (Am rfl h5) (Ax Fx.fa26_3 rfl rfl) rfl rfl fun _ F => Aq F rfl rfl (Am rfl h5) (Az Fx.nag24 rfl (s3.blk_cell (.head _) rfl)) rfl rfl fun _ F => Aq F rfl rfl (Am rfl h5) (Cc rfl Tryz.underlying24 (Bu (Cv hr1_3 s3))) rfl rfl fun _ F => Aq F rfl rfl (Am rfl h5) (De rfl rfl) rfl rfl fun _ F => Aj F (Aa (Bi (By rfl h5) rfl) <| Ad) fun _ F => Ai <| Ac <| Bm F rfl (fun h6 => ?_) (fun h6 => ?_)
 ·replace H := Bb h6 H
  refine Ah <| Ak <| Aj F (Aa (Al rfl) <| Ad) fun _ F => Ai <| Ac ?_
  obtain rfl := An H
  refine Bd <| Bg ?_
  refine Av (rs := [.tmp 4]) (vs := [.bool false]) F (by rfl) ⟨_, _, rfl, Ay rfl, rfl⟩ ⟨_, rfl, ⟨rfl, s3.drop.drop⟩⟩
 replace H := Bc h6 H
 refine Aw <| Ac <| Ah <| Ah <| Ak <| Aj F (Aa (Ax Fx.fa26_2 rfl rfl) <| Aa (Az Fx.nag23 rfl (s3.blk_cell (.tail _ <| .head _) rfl)) <| Aa (Cc rfl Tryz.underlying23 (Bu (Cv hr0_2 s3))) <| Aa (Af rfl) <| Ad) fun _ F => Ai <| Ac ?_
 obtain ⟨o0, H0, R0⟩ := Ap H
 clear H
 refine Bx (fun a w_ => ∃ p0 : Unit, o0 = .inr (p0) ∧ Fr a 76 [(2, .pointer (some ⟨g0, 0, none⟩)), (3, .pointer (some ⟨g1, 0, none⟩))] ∧ SL w [] w_ [Blk g1 26 [.string ⟨⟨a1.Name⟩⟩, v1_1, v1_2, v1_3], Blk g0 26 [.string ⟨⟨a0.Name⟩⟩, v0_1, v0_2, v0_3]]) ?_ ?_
 ·have H := H0
  refine Bh <| Cu (provisoplain_SameModule_b0 a0 a1) (fun s4 a w_ => Fr a 76 [(2, .pointer (some ⟨g0, 0, none⟩)), (3, .pointer (some ⟨g1, 0, none⟩)), (40, .int .i64 (a0.Funcs.length : Int)), (41, .int .i64 s4)] ∧ SL w [] w_ [Blk g1 26 [.string ⟨⟨a1.Name⟩⟩, v1_1, v1_2, v1_3], Blk g0 26 [.string ⟨⟨a0.Name⟩⟩, v0_1, v0_2, v0_3]]) H ?_ ?_
  ·exact ⟨F.sub ⟨rfl, rfl, rfl, rfl, trivial⟩, s3⟩
  intro s4 _ w3 h7 o1 H hr
  obtain ⟨F, s5⟩ := h7
  replace H : provisoplain_SameModule_b0 a0 a1 s4 = some o1 := H
  unfold provisoplain_SameModule_b0 at H
  refine Ah <| Ak <| Aj F (Aa (Cr rfl rfl) <| Ad) fun _ F => Ai <| Ac <| Ah <| Bm F rfl (fun h8 => ?_) (fun h8 => ?_)
  ·replace H := Bb h8 H
   refine Aw <| Ac <| Ah <| Bh <| Ah <| Ak <| Aj F (Aa (Af rfl) <| Aa (Al rfl) <| Ad) fun _ F => Ai <| Ac <| Ah ?_
   obtain ⟨x1, h9, H⟩ := Ap H
   obtain ⟨a2, c0, G0, ha, hb, hc, hd⟩ := Rd.idx hr0_2 Fx.sl23 rfl h9
   obtain ⟨v1, v2, rfl, he, hf⟩ := (R_api_Func hc hd)
   have hc4127_ := hb; clear hb; have hb := fun w_ (hC : SL w [] w_ [Blk g1 26 [.string ⟨⟨a1.Name⟩⟩, v1_1, v1_2, v1_3], Blk g0 26 [.string ⟨⟨a0.Name⟩⟩, v0_1, v0_2, v0_3]]) => hc4127_ _ _ hC
   obtain ⟨x2, hg, H⟩ := Ap H
   obtain ⟨a3, c1, G1, hh, hi, hj, hk⟩ := Rd.idx hr1_2 Fx.sl23 rfl hg
   obtain ⟨v3, v4, rfl, hl, hm⟩ := (R_api_Func hj hk)
   have hc4140_ := hi; clear hi; have hi := fun w_ (hC : SL w [] w_ [Blk g1 26 [.string ⟨⟨a1.Name⟩⟩, v1_1, v1_2, v1_3], Blk g0 26 [.string ⟨⟨a0.Name⟩⟩, v0_1, v0_2, v0_3]]) => hc4140_ _ _ hC
   obtain ⟨x3, hn, H⟩ := Ap H
   refine wp_regq (fun w_ => SL w [] w_ [Blk g1 26 [.string ⟨⟨a1.Name⟩⟩, v1_1, v1_2, v1_3], Blk g0 26 [.string ⟨⟨a0.Name⟩⟩, v0_1, v0_2, v0_3]]) Fx.mixed (by kernel_rfl) s5.drew F (Cg (fun _ hC => Ax Fx.fa26_2 rfl rfl) <| Cg (fun _ hC => Az Fx.nag23 rfl (hC.blk_cell (.tail _ <| .head _) rfl)) <| Cg (fun _ hC => Af rfl) <| Cg (fun _ hC => ha _ _ _ _ _ _ _ _ _ _ rfl rfl) <| Cg (fun _ hC => Bj Fx.agg40 rfl (hb _ hC) rfl) <| Cg (fun _ hC => Ax Fx.fa26_2 rfl rfl) <| Cg (fun _ hC => Az Fx.nag23 rfl (hC.blk_cell (.head _) rfl)) <| Cg (fun _ hC => Af rfl) <| Cg (fun _ hC => hh _ _ _ _ _ _ _ _ _ _ rfl rfl) <| Cg (fun _ hC => Bj Fx.agg40 rfl (hi _ hC) rfl) <| QR.call (args := [.tmp 48, .tmp 53]) Fx.fn15 rfl (fun _ hC => quiet_c (provisoplain_SameFunc_c (a0 := x1) (a1 := x2) (he.pass0 hC) (hf.pass0 hC) (hl.pass0 hC) (hm.pass0 hC) hn) hC) <| Cg (fun _ hC => Da rfl) <| QR.nil) fun w4 _ s6 F => ?_
   refine Ac <| Bm F rfl (fun ho => ?_) (fun ho => ?_)
   ·replace H := Bb ho H
    refine Ah <| Ak <| Aj F (Aa (Al rfl) <| Ad) fun _ F => Ai <| Ac ?_
    obtain rfl := An H
    obtain rfl := hr _ rfl
    replace H := R0
    try dsimp only at H
    obtain rfl := An H
    refine Bd <| blk_r <| Bg <| Bg <| blk_r <| Bg <| Bg ?_
    refine Av (rs := [.tmp 4]) (vs := [.bool false]) F (by rfl) ⟨_, _, rfl, Ay rfl, rfl⟩ ⟨_, rfl, ⟨rfl, s6.drop.drop⟩⟩
   replace H := Bc ho H
   refine Aw <| Bz <| Ac <| Ak <| Aj F (Aa (Bq rfl rfl) <| Aa (Af rfl) <| Ad) fun _ F => Ai ?_
   obtain rfl := An H
   refine Ac ?_
   exact ⟨_, rfl, F.sub ⟨rfl, rfl, rfl, rfl, trivial⟩, s6⟩
  replace H := Bc h8 H
  refine Ca <| Bp <| Bp <| Cb ?_
  obtain rfl := An H
  obtain rfl := hr _ rfl
  refine Ac ?_
  exact ⟨_, rfl, F.sub ⟨rfl, rfl, trivial⟩, s5⟩
 intro _ w5 hJ
 obtain ⟨p0, rfl, F, s7⟩ := hJ
 have H := R0
 clear R0 H0
 try dsimp only at H
 refine Ac <| Ah <| Ah <| Ak <| Aj F (Aa (Ax Fx.fa26_3 rfl rfl) <| Aa (Az Fx.nag24 rfl (s7.blk_cell (.tail _ <| .head _) rfl)) <| Aa (Cc rfl Tryz.underlying24 (Bu (Cv hr0_3 s7))) <| Aa (Af rfl) <| Ad) fun _ F => Ai <| Ac ?_
 obtain ⟨o2, H1, R1⟩ := Ap H
 clear H
 refine Bx (fun a w_ => ∃ p1 : Unit, o2 = .inr (p1) ∧ Fr a 76 [] ∧ SL w [] w_ []) ?_ ?_
 ·have H := H1
  refine Bh <| Cu (provisoplain_SameModule_b1 a0 a1) (fun s8 a w_ => Fr a 76 [(2, .pointer (some ⟨g0, 0, none⟩)), (3, .pointer (some ⟨g1, 0, none⟩)), (59, .int .i64 (a0.Certs.length : Int)), (60, .int .i64 s8)] ∧ SL w [] w_ [Blk g1 26 [.string ⟨⟨a1.Name⟩⟩, v1_1, v1_2, v1_3], Blk g0 26 [.string ⟨⟨a0.Name⟩⟩, v0_1, v0_2, v0_3]]) H ?_ ?_
  ·exact ⟨F.sub ⟨rfl, rfl, rfl, rfl, trivial⟩, s7⟩
  intro s8 _ w6 hp o3 H hr
  obtain ⟨F, s9⟩ := hp
  replace H : provisoplain_SameModule_b1 a0 a1 s8 = some o3 := H
  unfold provisoplain_SameModule_b1 at H
  refine Ah <| Ak <| Aj F (Aa (Cr rfl rfl) <| Ad) fun _ F => Ai <| Ac <| Ah <| Bm F rfl (fun hq => ?_) (fun hq => ?_)
  ·replace H := Bb hq H
   refine Aw <| Ac <| Ah <| Bh <| Ah <| Ak <| Aj F (Aa (Af rfl) <| Aa (Al rfl) <| Ad) fun _ F => Ai <| Ac <| Ah ?_
   obtain ⟨x4, hs, H⟩ := Ap H
   obtain ⟨a4, c2, G2, ht, hu, hv, hw⟩ := Rd.idx hr0_3 Fx.sl24 rfl hs
   obtain ⟨v5, rfl, hx⟩ := (rd_sl hv hw)
   have hc7546_ := hu; clear hu; have hu := fun w_ (hC : SL w [] w_ [Blk g1 26 [.string ⟨⟨a1.Name⟩⟩, v1_1, v1_2, v1_3], Blk g0 26 [.string ⟨⟨a0.Name⟩⟩, v0_1, v0_2, v0_3]]) => hc7546_ _ _ hC
   obtain ⟨x5, hy, H⟩ := Ap H
   obtain ⟨a5, c3, G3, hz, h10, h11, h12⟩ := Rd.idx hr1_3 Fx.sl24 rfl hy
   obtain ⟨v6, rfl, h13⟩ := (rd_sl h11 h12)
   have hc7557_ := h10; clear h10; have h10 := fun w_ (hC : SL w [] w_ [Blk g1 26 [.string ⟨⟨a1.Name⟩⟩, v1_1, v1_2, v1_3], Blk g0 26 [.string ⟨⟨a0.Name⟩⟩, v0_1, v0_2, v0_3]]) => hc7557_ _ _ hC
   obtain ⟨x6, h14, H⟩ := Ap H
   refine wp_regq (fun w_ => SL w [] w_ [Blk g1 26 [.string ⟨⟨a1.Name⟩⟩, v1_1, v1_2, v1_3], Blk g0 26 [.string ⟨⟨a0.Name⟩⟩, v0_1, v0_2, v0_3]]) Fx.mixed (by kernel_rfl) s9.drew F (Cg (fun _ hC => Ax Fx.fa26_3 rfl rfl) <| Cg (fun _ hC => Az Fx.nag24 rfl (hC.blk_cell (.tail _ <| .head _) rfl)) <| Cg (fun _ hC => Af rfl) <| Cg (fun _ hC => ht _ _ _ _ _ _ _ _ _ _ rfl rfl) <| Cg (fun _ hC => Az Fx.nag38 rfl (Cells.at_ (hu _ hC) (o := 0) rfl)) <| Cg (fun _ hC => Ax Fx.fa26_3 rfl rfl) <| Cg (fun _ hC => Az Fx.nag24 rfl (hC.blk_cell (.head _) rfl)) <| Cg (fun _ hC => Af rfl) <| Cg (fun _ hC => hz _ _ _ _ _ _ _ _ _ _ rfl rfl) <| Cg (fun _ hC => Az Fx.nag38 rfl (Cells.at_ (h10 _ hC) (o := 0) rfl)) <| QR.call (args := [.tmp 67, .tmp 72]) Fx.fn16 rfl (fun _ hC => quiet_c (slices_Equal_byte_byte_c (a0 := x4) (a1 := x5) (hx.pass0 hC) (h13.pass0 hC) h14) hC) <| Cg (fun _ hC => Da rfl) <| QR.nil) fun w7 _ sa F => ?_
   refine Ac <| Bm F rfl (fun h15 => ?_) (fun h15 => ?_)
   ·replace H := Bb h15 H
    refine Ah <| Ak <| Aj F (Aa (Al rfl) <| Ad) fun _ F => Ai <| Ac ?_
    obtain rfl := An H
    obtain rfl := hr _ rfl
    replace H := R1
    try dsimp only at H
    obtain rfl := An H
    refine Bd <| blk_r <| Bg <| Bg <| blk_r <| Bg <| Bg ?_
    refine Av (rs := [.tmp 4]) (vs := [.bool false]) F (by rfl) ⟨_, _, rfl, Ay rfl, rfl⟩ ⟨_, rfl, ⟨rfl, sa.drop.drop⟩⟩
   replace H := Bc h15 H
   refine Aw <| Bz <| Ac <| Ak <| Aj F (Aa (Bq rfl rfl) <| Aa (Af rfl) <| Ad) fun _ F => Ai ?_
   obtain rfl := An H
   refine Ac ?_
   exact ⟨_, rfl, F.sub ⟨rfl, rfl, rfl, rfl, trivial⟩, sa⟩
  replace H := Bc hq H
  refine Ca <| Bp <| Bp <| Cb ?_
  obtain rfl := An H
  obtain rfl := hr _ rfl
  refine Ac ?_
  exact ⟨_, rfl, F.sub trivial, s9.drop.drop⟩
 intro _ w8 hJ
 obtain ⟨p1, rfl, F, sb⟩ := hJ
 have H := R1
 clear R1 H1
 try dsimp only at H
 refine Ac <| Ah <| Ak <| Aj F (Aa (Al rfl) <| Ad) fun _ F => Ai <| Ac ?_
 obtain rfl := An H
 refine Bd ?_
 refine Av (rs := [.tmp 4]) (vs := [.bool true]) F (by rfl) ⟨_, _, rfl, Ay rfl, rfl⟩ ⟨_, rfl, ⟨rfl, sb⟩⟩
-- proviso/provisolaw19.OptModules
theorem provisolaw19_OptModules_c {w : World} {v0_1 v0_2 v0_3 : Value} {a0 : S_api_Module} {r : Bool} (hr0_1 : Rd T_api_Class w [] v0_1 a0.Classes) (hr0_2 : Rd T_api_Func w [] v0_2 a0.Funcs) (hr0_3 : Rd (Ty.slice Ty.u8) w [] v0_3 a0.Certs) (H : provisolaw19_OptModules a0 = some r) :
    Calls Tryz.prog 3 #[.agg ⟨[.string ⟨⟨a0.Name⟩⟩, v0_1, v0_2, v0_3]⟩] w (Ret fun u_ w_ => u_ = .bool r ∧ SL w [] w_ []) := by
 have s0 : SL w [] w [] := SL.init0 w
 refine Bn Tryz.func3 rfl Tryz.ntmps3 (Ag rfl) (args := [.agg ⟨[.string ⟨⟨a0.Name⟩⟩, v0_1, v0_2, v0_3]⟩]) fun q0 F0 => ?_
 unfold provisolaw19_OptModules at H
 refine Ah <| Ak <| Db F0 s0 rfl rfl rfl fun g9 w0 _ F s1 => Aj F (Aa (Al rfl) <| Ad) fun _ F => Ai <| Ac <| Ah <| Ah <| Ak ?_
 obtain ⟨x0, h0, H⟩ := Ap H
 refine Aj F (Aa (Bj Fx.agg26 rfl (s1.blk_cells (.head _) (o := 0) (ds := [.string ⟨⟨a0.Name⟩⟩, v0_1, v0_2, v0_3]) (fun j u hu => by rw [Nat.zero_add]; exact hu)) rfl) <| Ad) fun _ F => Bk (args := [.tmp 8]) F Fx.fn4 rfl (provisolaw19_size_c (a0 := (⟨a0.Name, a0.Classes, a0.Funcs, a0.Certs⟩ : S_api_Module))   (hr0_1.pass0 s1) (hr0_2.pass0 s1) (hr0_3.pass0 s1) h0) rfl fun v0 w1 _ h1 F => ?_
 obtain ⟨rfl, h2⟩ := h1
 have s2 := s1.add h2
 refine Aj F (Aa (ex_gt rfl rfl) <| Ad) fun _ F => Ai <| Ac <| Bm F rfl (fun h3 => ?_) (fun h3 => ?_)
 ·replace H := Bb h3 H
  refine Ah <| Ak <| Aj F (Aa (Al rfl) <| Ad) fun _ F => Ai <| Ac ?_
  obtain rfl := An H
  refine Bd <| Bg ?_
  refine Av (rs := [.tmp 2]) (vs := [.bool true]) F (by rfl) ⟨_, _, rfl, Ay rfl, rfl⟩ ⟨_, rfl, ⟨rfl, s2.drop⟩⟩
 replace H := Bc h3 H
 refine Aw <| Ac <| Ah <| Ak ?_
 obtain ⟨x1, h4, H⟩ := Ap H
 refine Aj F (Aa (Bj Fx.agg26 rfl (s2.blk_cells (.head _) (o := 0) (ds := [.string ⟨⟨a0.Name⟩⟩, v0_1, v0_2, v0_3]) (fun j u hu => by rw [Nat.zero_add]; exact hu)) rfl) <| Ad) fun _ F => Bk (args := [.tmp 11]) F Fx.fn5 rfl (provisoplain_Module_c (a0 := (⟨a0.Name, a0.Classes, a0.Funcs, a0.Certs⟩ : S_api_Module))   (hr0_1.pass0 s2) (hr0_2.pass0 s2) (hr0_3.pass0 s2) h4) rfl fun v1 w2 _ h5 F => ?_
 obtain ⟨v2, v3, v4, rfl, h6⟩ := h5
 have s3 := s2.add h6
 refine Bo F s3 Fx.zero26 rfl rfl fun g0 w3 _ F s4 => ?_
 have s5 := s4
 refine As F s5 rfl rfl Fx.sz26 (Ae rfl (Ae (Cd (Bu (s5.own_rd (.tail _ <| .head _)))) (Ae (Cd (Bu (s5.own_rd (.tail _ <| .tail _ <| .head _)))) (Ae (Cd (Bu (s5.own_rd (.tail _ <| .tail _ <| .tail _ <| .head _)))) Ba)))) (Ag rfl) fun w4 _ F s6 => ?_
 replace s6 : SL w [] w4 [Blk g0 26 [.string ⟨⟨x1.Name⟩⟩, v2, v3, v4], Sl T_api_Class v2 x1.Classes, Sl T_api_Func v3 x1.Funcs, Sl (Ty.slice Ty.u8) v4 x1.Certs, Blk g9 26 [.string ⟨⟨a0.Name⟩⟩, v0_1, v0_2, v0_3]] := s6
 refine Ai <| Ac <| Ah <| Ak ?_
 obtain ⟨x2, h7, H⟩ := Ap H
 refine Aj F (Aa (Bj Fx.agg26 rfl (s6.blk_cells (.head _) (o := 0) (ds := [.string ⟨⟨x1.Name⟩⟩, v2, v3, v4]) (fun j u hu => by rw [Nat.zero_add]; exact hu)) rfl) <| Ad) fun _ F => Bk (args := [.tmp 14]) F Fx.fn6 rfl (opt_Module_c (a0 := (⟨x1.Name, x1.Classes, x1.Funcs, x1.Certs⟩ : S_api_Module))   (s6.rd0 (.tail _ <| .head _)) (s6.rd0 (.tail _ <| .tail _ <| .head _)) (s6.rd0 (.tail _ <| .tail _ <| .tail _ <| .head _)) h7) rfl fun v5 w5 _ h8 F => ?_
 obtain ⟨v6, v7, v8, rfl, h9⟩ := h8
 have s7 := s6.add h9
 refine Aj F (Aa (Af rfl) <| Aa (Au (v := .agg ⟨[.string ⟨⟨x2.1.Name⟩⟩, v6, v7, v8]⟩) rfl rfl) <| Aa (Au (v := .int .i64 x2.2) rfl rfl) <| Ad) fun _ F => Bo F s7 Fx.zero26 rfl rfl fun g1 w6 _ F s8 => ?_
 have s9 := s8
 refine As F s9 rfl rfl Fx.sz26 (Ae rfl (Ae (Cd (Bu (s9.own_rd (.tail _ <| .head _)))) (Ae (Cd (Bu (s9.own_rd (.tail _ <| .tail _ <| .head _)))) (Ae (Cd (Bu (s9.own_rd (.tail _ <| .tail _ <| .tail _ <| .head _)))) Ba)))) (Ag rfl) fun w7 _ F sa => ?_
 replace sa : SL w [] w7 [Blk g1 26 [.string ⟨⟨x2.1.Name⟩⟩, v6, v7, v8], Sl T_api_Class v6 x2.1.Classes, Sl T_api_Func v7 x2.1.Funcs, Sl (Ty.slice Ty.u8) v8 x2.1.Certs, Blk g0 26 [.string ⟨⟨x1.Name⟩⟩, v2, v3, v4], Sl T_api_Class v2 x1.Classes, Sl T_api_Func v3 x1.Funcs, Sl (Ty.slice Ty.u8) v4 x1.Certs, Blk g9 26 [.string ⟨⟨a0.Name⟩⟩, v0_1, v0_2, v0_3]] := sa
 refine Aj F (Aa (Al rfl) <| Ad) fun _ F => Ai <| Ac <| Ah <| Ak ?_
 obtain ⟨x3, ha, H⟩ := Ap H
 refine Aj F (Aa (Bj Fx.agg26 rfl (sa.blk_cells (.tail _ <| .tail _ <| .tail _ <| .tail _ <| .tail _ <| .tail _ <| .tail _ <| .tail _ <| .head _) (o := 0) (ds := [.string ⟨⟨a0.Name⟩⟩, v0_1, v0_2, v0_3]) (fun j u hu => by rw [Nat.zero_add]; exact hu)) rfl) <| Ad) fun _ F => Bk (args := [.tmp 19]) F Fx.fn7 rfl (provisoref19_Module_c (a0 := (⟨a0.Name, a0.Classes, a0.Funcs, a0.Certs⟩ : S_api_Module))  (wb := w) (Fb := []) sa.fm nil_mem hr0_1 hr0_2 hr0_3 ha) rfl fun v9 w8 _ hb F => ?_
 obtain ⟨va, vb, vc, rfl, hc, hd⟩ := hb
 have sb := sa.add hd
 have he := View.rd hc hr0_1
 refine Aj F (Aa (Af rfl) <| Aa (Au (v := .agg ⟨[.string ⟨⟨x3.1.Name⟩⟩, va, vb, vc]⟩) rfl rfl) <| Aa (Au (v := .int .i64 x3.2) rfl rfl) <| Ad) fun _ F => Bo F sb Fx.zero26 rfl rfl fun g2 w9 _ F sc => ?_
 have sd := sc
 refine As F sd rfl rfl Fx.sz26 (Ae rfl (Ae (Cd (Bu (Cv he sd))) (Ae (Cd (Bu (sd.own_rd (.tail _ <| .head _)))) (Ae (Cd (Bu (sd.own_rd (.tail _ <| .tail _ <| .head _)))) Ba)))) (Ag rfl) fun wa _ F se => ?_
 replace se : SL w [] wa [Blk g2 26 [.string ⟨⟨x3.1.Name⟩⟩, va, vb, vc], Sl (T_api_Func_b01000 w []) vb x3.1.Funcs, Sl (Ty.slice Ty.u8) vc x3.1.Certs, Blk g1 26 [.string ⟨⟨x2.1.Name⟩⟩, v6, v7, v8], Sl T_api_Class v6 x2.1.Classes, Sl T_api_Func v7 x2.1.Funcs, Sl (Ty.slice Ty.u8) v8 x2.1.Certs, Blk g0 26 [.string ⟨⟨x1.Name⟩⟩, v2, v3, v4], Sl T_api_Class v2 x1.Classes, Sl T_api_Func v3 x1.Funcs, Sl (Ty.slice Ty.u8) v4 x1.Certs, Blk g9 26 [.string ⟨⟨a0.Name⟩⟩, v0_1, v0_2, v0_3]] := se
 refine Aj F (Aa (Al rfl) <| Ad) fun _ F => Ai <| Ac <| Ah <| Ak <| Aj F (Aa (Af rfl) <| Aa (Af rfl) <| Aa (Bw rfl rfl) <| Aa (Af rfl) <| Ad) fun _ F => Bl (x2.2 == x3.2) (fun hf => ?_) (fun hf => ?_)
 ·replace H := Bb hf H
  refine Aq F rfl rfl (Am rfl hf) (Bj Fx.agg26 rfl (se.blk_cells (.tail _ <| .tail _ <| .tail _ <| .head _) (o := 0) (ds := [.string ⟨⟨x2.1.Name⟩⟩, v6, v7, v8]) (fun j u hu => by rw [Nat.zero_add]; exact hu)) rfl) rfl rfl fun _ F => Aq F rfl rfl (Am rfl hf) (Bj Fx.agg26 rfl (se.blk_cells (.head _) (o := 0) (ds := [.string ⟨⟨x3.1.Name⟩⟩, va, vb, vc]) (fun j u hu => by rw [Nat.zero_add]; exact hu)) rfl) rfl rfl fun _ F => ?_
  obtain ⟨x4, hg, H⟩ := Ap H
  refine st_ungd F rfl (Am rfl hf) <| Bk (args := [.tmp 27, .tmp 28]) F Fx.fn8 rfl (provisoplain_SameModule_c (a0 := (⟨x2.1.Name, x2.1.Classes, x2.1.Funcs, x2.1.Certs⟩ : S_api_Module)) (a1 := (⟨x3.1.Name, x3.1.Classes, x3.1.Funcs, x3.1.Certs⟩ : S_api_Module))   (se.rd0 (.tail _ <| .tail _ <| .tail _ <| .tail _ <| .head _)) (se.rd0 (.tail _ <| .tail _ <| .tail _ <| .tail _ <| .tail _ <| .head _)) (se.rd0 (.tail _ <| .tail _ <| .tail _ <| .tail _ <| .tail _ <| .tail _ <| .head _)) (he.pass0 se) (Rd.conv (se.rd0 (.tail _ <| .head _)) se.fm nil_mem (Conv.iso t_api_Func (Conv.pair (Conv.refl _) (Conv.pair (Conv.iso t_api_Sig (Conv.pair (Conv.brow _) (Conv.refl _))) (Conv.pair (Conv.refl _) (Conv.refl _)))))) (se.rd0 (.tail _ <| .tail _ <| .head _)) hg) rfl fun vd wc _ hh F => ?_
  obtain ⟨rfl, hi⟩ := hh
  have sf := se.add hi
  refine Aj F (Aa (Bf (By rfl hf) rfl) <| Aa (Af rfl) <| Ad) fun _ F => Bl x4 (fun hj => ?_) (fun hj => ?_)
  ·replace H := Bb hj H
   refine Aq F rfl rfl (Am rfl hj) (Bj Fx.agg26 rfl (sf.blk_cells (.tail _ <| .tail _ <| .tail _ <| .tail _ <| .tail _ <| .tail _ <| .tail _ <| .head _) (o := 0) (ds := [.string ⟨⟨x1.Name⟩⟩, v2, v3, v4]) (fun j u hu => by rw [Nat.zero_add]; exact hu)) rfl) rfl rfl fun _ F => Aq F rfl rfl (Am rfl hj) (Bj Fx.agg26 rfl (sf.blk_cells (.tail _ <| .tail _ <| .tail _ <| .tail _ <| .tail _ <| .tail _ <| .tail _ <| .tail _ <| .tail _ <| .tail _ <| .tail _ <| .head _) (o := 0) (ds := [.string ⟨⟨a0.Name⟩⟩, v0_1, v0_2, v0_3]) (fun j u hu => by rw [Nat.zero_add]; exact hu)) rfl) rfl rfl fun _ F => ?_
   obtain ⟨x5, hk, H⟩ := Ap H
   refine st_ungd F rfl (Am rfl hj) <| Bk (args := [.tmp 32, .tmp 33]) F Fx.fn8 rfl (provisoplain_SameModule_c (a0 := (⟨x1.Name, x1.Classes, x1.Funcs, x1.Certs⟩ : S_api_Module)) (a1 := (⟨a0.Name, a0.Classes, a0.Funcs, a0.Certs⟩ : S_api_Module))   (sf.rd0 (.tail _ <| .tail _ <| .tail _ <| .tail _ <| .tail _ <| .tail _ <| .tail _ <| .tail _ <| .head _)) (sf.rd0 (.tail _ <| .tail _ <| .tail _ <| .tail _ <| .tail _ <| .tail _ <| .tail _ <| .tail _ <| .tail _ <| .head _)) (sf.rd0 (.tail _ <| .tail _ <| .tail _ <| .tail _ <| .tail _ <| .tail _ <| .tail _ <| .tail _ <| .tail _ <| .tail _ <| .head _)) (hr0_1.pass0 sf) (hr0_2.pass0 sf) (hr0_3.pass0 sf) hk) rfl fun ve wd _ hl F => ?_
   obtain ⟨rfl, hm⟩ := hl
   have sg := sf.add hm
   refine Aj F (Aa (Bf (By rfl hj) rfl) <| Aa (Al rfl) <| Ad) fun _ F => Ai <| Ac ?_
   obtain rfl := An H
   refine Bd ?_
   refine Av (rs := [.tmp 2]) (vs := [.bool x5]) F (by rfl) ⟨_, _, rfl, Ay rfl, rfl⟩ ⟨_, rfl, ⟨rfl, sg.drop.drop.drop.drop.drop.drop.drop.drop.drop.drop.drop.drop⟩⟩
  replace H := Bc hj H
  refine Ao F rfl rfl (Am rfl hj) Ab rfl rfl fun _ F => Ao F rfl rfl (Am rfl hj) Ab rfl rfl fun _ F => Ao F rfl rfl (Am rfl hj) Ab rfl rfl fun _ F => Aj F (Aa (Bi (By rfl hj) rfl) <| Aa (Al rfl) <| Ad) fun _ F => Ai <| Ac ?_
  obtain rfl := An H
  refine Bd ?_
  refine Av (rs := [.tmp 2]) (vs := [.bool false]) F (by rfl) ⟨_, _, rfl, Ay rfl, rfl⟩ ⟨_, rfl, ⟨rfl, sf.drop.drop.drop.drop.drop.drop.drop.drop.drop.drop.drop.drop⟩⟩
 replace H := Bc hf H
 refine Ao F rfl rfl (Am rfl hf) Ab rfl rfl fun _ F => Ao F rfl rfl (Am rfl hf) Ab rfl rfl fun _ F => Ao F rfl rfl (Am rfl hf) Ab rfl rfl fun _ F => Aj F (Aa (Bi (By rfl hf) rfl) <| Aa (Af rfl) <| Ad) fun _ F => Ao F rfl rfl rfl Ab rfl rfl fun _ F => Ao F rfl rfl rfl Ab rfl rfl fun _ F => Ao F rfl rfl rfl Ab rfl rfl fun _ F => Aj F (Aa (Bi rfl rfl) <| Aa (Al rfl) <| Ad) fun _ F => Ai <| Ac ?_
 obtain rfl := An H
 refine Bd ?_
 refine Av (rs := [.tmp 2]) (vs := [.bool false]) F (by rfl) ⟨_, _, rfl, Ay rfl, rfl⟩ ⟨_, rfl, ⟨rfl, se.drop.drop.drop.drop.drop.drop.drop.drop.drop.drop.drop.drop⟩⟩
end Go.Proofs.YtmeodoidfpcjlaaGreat
