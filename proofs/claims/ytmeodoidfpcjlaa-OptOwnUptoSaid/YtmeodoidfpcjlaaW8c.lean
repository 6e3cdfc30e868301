/- Walks, merged. -/
import Derived.Test.YtmeodoidfpcjlaaW8b
set_option linter.unusedVariables false
set_option linter.unusedSimpArgs false
namespace Go.Proofs.Ytmeodoidfpcjlaa
open Go Go.RowKit Go.Pv
open Go.Pv.PR renaming op → Aa, nil → Ad
open Go.Pv renaming then_n → Ab, ex_move → Ae, one_cons → Af, st_end → Aj, st_pr → Ak, wp_reg → Al, ex_asg → Am, look_b → An, some_ok → Ao, st_gskip → Ap, bind_ok → Aq, st_gop → Ar, ex_extract → As, st_storea → Au, kq_end → Av, ret_gen → Ax, ex_fab → Az, ex_ld → Ba, ite_t → Bb, ite_f → Bc, one_nil → Bd, then_r → Bg, ex_pick_t → Bh, st_call → Bi, ex_pick_f → Bj, hd_one → Bk, bool_split → Bl, wp_if → Bm, ex_ldagg → Bn, then_x → Bo, ex_add → Bp, call_enter → Bq, wpOp_of → Br, hd_cons → Bs, st_op → Bt, st_alloc → Bu, hd_take → Bv, ex_eq → Bw, wp_cutn → Bx, blk_n → By, blk_hit → Ca, ev_b → Cb, formL → Cc, ex_len → Cd, st_gskip' → Ce, own_idx → Cf, hd_done → Cg, st_append_rd → Ch, hd_many → Cj, wp_if_f → Cl, st_bslice → Cm, ex_lt → Cn, ex_build → Co, hd_nil → Cp, wp_lp → Cq, st_setel → Cr, form_one → Cs, st_store → Ct, rdL → Cu, ex_nilcheck → Cv, ex_fa → Cw, ex_not → Cx, wp_if_t → Cy, st_box → Cz, form_cells → Da, blk_miss → Db, idxL → Dc, ex_ne → Dd, st_setfld → Dg
open Bool renaming noConfusion → Ac
open Nat renaming le_of_ble_eq_true → Ah
open Go renaming wp_seq → Ai, wp_skip → Aw, wp_block → Be, wp_ret → Bf, wp_exit → Bz
open Go.Pv.RV renaming tmp → Ay, blk → Ci
open Go.Pv.QR renaming op → De
-- proviso/provisoref19.constants
theorem provisoref19_constants_c {w : World} {v0 : Value} {a0 : List S_provisoref19_ins} {r : (List S_provisoref19_ins)} (hr0 : Rd T_provisoref19_ins w [] v0 a0) (H : provisoref19_constants a0 = some r) :
    Calls Try.prog 75 #[v0] w (Ret fun u_ w_ => ∃ u0 : Value, u_ = u0 ∧ SL w [] w_ [Sl T_provisoref19_ins u0 r]) := by
 have s0 : SL w [] w [] := SL.init0 w
 refine Bq Try.func75 rfl Try.ntmps75 (Ah rfl) (args := [v0]) fun q0 F0 => ?_
 unfold provisoref19_constants at H
 refine Ai <| Al <| Ak F0 (Aa (Am rfl) <| Ad) fun q3 F4 => Aj <| Ab <| Ai <| Al ?_
 obtain ⟨x0, h0, H⟩ := Aq H
 refine Ak F4 (Aa (Ae rfl) <| Ad) fun _ F => Bi (args := [.tmp 11]) F Fx.fn102 rfl (provisoref19_led_c (a0 := a0)   (hr0.pass0 s0) h0) rfl fun v1 w0 _ h1 F => ?_
 obtain ⟨_, rfl, h2⟩ := h1
 have s1 := s0.add h2
 refine Ak F (Aa (Am rfl) <| Ad) fun _ F => Aj <| Ab <| Ai <| Al ?_
 obtain ⟨x1, h3, H⟩ := Aq H
 refine Ak F (Aa (Ae rfl) <| Aa (Cd rfl Try.underlying126 (Cc (Cu hr0 s1))) <| Ad) fun _ F => st_make Flat.bool false F s1 Fx.sl93 rfl rfl Fx.zero4 rfl rfl rfl h3 rfl fun v2 w1 _ F s2 => Ak F (Aa (Am rfl) <| Ad) fun _ F => Aj <| Ab <| Ai <| Al ?_
 refine Cm (parts := []) F_provisoref19_ins ([] : List S_provisoref19_ins) F s2 Fx.sl126 rfl (by decide) rfl rfl rfl (by simp [Value.cells]) rfl rfl rfl fun v3 w2 _ F s3 => ?_
 obtain ⟨x2, h4, H⟩ := Aq H
 refine Ak F (Aa (Ae rfl) <| Ad) fun _ F => ?_
 have s4 := s3
 obtain ⟨_, hr_⟩ := (Cu hr0 s4)
 refine Ch F_provisoref19_ins F s4 Fx.sl126 rfl rfl rfl rfl hr_ rfl rfl h4 rfl fun v4 w3 _ F s5 => Ak F (Aa (Am rfl) <| Ad) fun _ F => Aj <| Ab <| Ai <| Ai <| Al <| Ak F (Aa (Am rfl) <| Ad) fun _ F => Aj <| Ab ?_
 obtain ⟨o0, H0, R0⟩ := Aq H
 clear H
 refine Bx (fun a w_ => ∃ v5 v6 : Value, Fr a 125 [(4, v5), (5, v6)] ∧ SL w [] w_ [Sl Ty.bool v5 o0.1, Sl T_provisoref19_ins v6 o0.2]) ?_ ?_
 ·have H := H0
  refine Be <| Cq (provisoref19_constants_b0 a0 x0) (fun s6 a w_ => ∃ v7 v8 : Value, Fr a 125 [(0, v0), (3, v1), (4, v7), (5, v8), (6, .int .i64 s6.2.2)] ∧ SL w [] w_ [Sl Ty.bool v1 x0, Sl Ty.bool v7 s6.1, Sl T_provisoref19_ins v8 s6.2.1]) H ?_ ?_
  ·exact ⟨v2, v4, F.sub ⟨rfl, rfl, rfl, rfl, rfl, trivial⟩, s5.f1.f2⟩
  intro s6 _ w4 h5 o1 H hr
  obtain ⟨v7, v8, F, s7⟩ := h5
  replace H : provisoref19_constants_b0 a0 x0 s6 = some o1 := H
  unfold provisoref19_constants_b0 at H
  refine Ai <| Ai <| Al <| Ak F (Aa (Ae rfl) <| Aa (Ae rfl) <| Aa (Cd rfl Try.underlying126 (Cc (Cu hr0 s7))) <| Aa (Cn rfl rfl) <| Ad) fun _ F => Aj <| Ab <| Bm F rfl (fun h6 => ?_) (fun h6 => ?_)
  ·replace H := Bb h6 H
   refine Aw <| Ab <| Ai ?_
   obtain ⟨o2, H1, R1⟩ := Aq H
   clear H
   refine Bx (fun a w_ => ∃ v9 va : Value, Fr a 125 [(0, v0), (3, v1), (4, v9), (5, va), (6, .int .i64 o2.2.2)] ∧ SL w [] w_ [Sl Ty.bool v1 x0, Sl Ty.bool v9 o2.1, Sl T_provisoref19_ins va o2.2.1]) ?_ ?_
   ·have H := H1
    refine Be <| Ai ?_
    obtain ⟨o3, H2, R2⟩ := Aq H
    clear H
    refine Bx (fun a w_ => ∃ p0 : Unit, o3 = .inr (p0) ∧ Fr a 125 [(0, v0), (3, v1), (4, v7), (5, v8), (6, .int .i64 s6.2.2)] ∧ SL w [] w_ [Sl Ty.bool v1 x0, Sl Ty.bool v7 s6.1, Sl T_provisoref19_ins v8 s6.2.1]) ?_ ?_
    ·have H := H2
     refine Ai <| Al <| Ak F (Aa (Ae rfl) <| Aa (Bp rfl rfl) <| Aa (Ae rfl) <| Aa (Cd rfl Try.underlying126 (Cc (Cu hr0 s7))) <| Aa (Cn rfl rfl) <| Aa (Ae rfl) <| Ad) fun _ F => Bl (decide ((wr (s6.2.2 + 2)) < (a0.length : Int))) (fun h7 => ?_) (fun h7 => ?_)
     ·replace H := Bb h7 H
      refine Ar F rfl rfl (An rfl h7) (Ae rfl) rfl rfl fun _ F => Ar F rfl rfl (An rfl h7) (Ae rfl) rfl rfl fun _ F => Ar F rfl rfl (An rfl h7) (Bp rfl rfl) rfl rfl fun _ F => ?_
      obtain ⟨x3, h8, H⟩ := Aq H
      obtain ⟨a3, h9, ha⟩ := Cf Flat.bool s7 (.head _) Fx.sl93 rfl h8
      refine Ar F rfl rfl (An rfl h7) (h9 _ _ _ _ _ _ _ _ _ _ rfl rfl) rfl rfl fun _ F => Ar F rfl rfl (An rfl h7) (Ba Fx.nag4 rfl (Cells.at_ (SL.elcells Flat.bool s7 (.head _) ha h8) (o := 0) rfl)) rfl rfl fun _ F => Ar F rfl rfl (An rfl h7) (Cx rfl) rfl rfl fun _ F => Ak F (Aa (Bh (Cb rfl h7) rfl) <| Aa (Ae rfl) <| Ad) fun _ F => Bl (!x3) (fun hb => ?_) (fun hb => ?_)
      ·replace H := Bb hb H
       refine Ar F rfl rfl (An rfl hb) (Ae rfl) rfl rfl fun _ F => Ar F rfl rfl (An rfl hb) (Ae rfl) rfl rfl fun _ F => Ar F rfl rfl (An rfl hb) (Bp rfl rfl) rfl rfl fun _ F => ?_
       obtain ⟨x4, hc, H⟩ := Aq H
       obtain ⟨a4, hd, he⟩ := Cf Flat.bool s7 (.head _) Fx.sl93 rfl hc
       refine Ar F rfl rfl (An rfl hb) (hd _ _ _ _ _ _ _ _ _ _ rfl rfl) rfl rfl fun _ F => Ar F rfl rfl (An rfl hb) (Ba Fx.nag4 rfl (Cells.at_ (SL.elcells Flat.bool s7 (.head _) he hc) (o := 0) rfl)) rfl rfl fun _ F => Ar F rfl rfl (An rfl hb) (Cx rfl) rfl rfl fun _ F => Ak F (Aa (Bh (Cb rfl hb) rfl) <| Ad) fun _ F => Aj <| Ab <| Bm F rfl (fun hf => ?_) (fun hf => ?_)
       ·replace H := Bb hf H
        refine Ai ?_
        obtain ⟨o4, H3, R3⟩ := Aq H
        clear H
        refine Bx (fun a w_ => ∃ g0 : Nat, Fr a 125 [(0, v0), (3, v1), (4, v7), (5, v8), (6, .int .i64 s6.2.2), (7, .pointer (some ⟨g0, 0, none⟩)), (8, .bool o4.2.2.2.2), (31, v1), (32, .int .i64 s6.2.2), (33, .int .i64 (wr (s6.2.2 + 1))), (34, .pointer (some a3)), (35, .bool x3), (36, .bool (!x3)), (39, v1), (40, .int .i64 s6.2.2), (41, .int .i64 (wr (s6.2.2 + 2))), (42, .pointer (some a4)), (43, .bool x4), (44, .bool (!x4))] ∧ SL w [] w_ [Sl Ty.bool v1 x0, Sl Ty.bool v7 s6.1, Sl T_provisoref19_ins v8 s6.2.1, Blk g0 156 [.int .u8 (o4.1.toNat : Int), .int .i64 o4.2.1, .int .i64 o4.2.2.1, .int .i64 o4.2.2.2.1]]) ?_ ?_
        ·have H := H3
         obtain ⟨x5, hg, H⟩ := Aq H
         obtain ⟨x6, hh, H⟩ := Aq H
         obtain ⟨x7, hi, H⟩ := Aq H
         obtain ⟨x8, hj, H⟩ := Aq H
         refine wp_regh Fx.mixed (fun w_ => SL w [] w_ [Sl Ty.bool v1 x0, Sl Ty.bool v7 s6.1, Sl T_provisoref19_ins v8 s6.2.1]) ?_
         have s8 := s7.drew
         have s9 : SL w [] _ [Sl Ty.bool v1 x0, Sl Ty.bool v7 s6.1, Sl T_provisoref19_ins v8 s6.2.1] := s8
         refine Bv (i := 0) rfl (by kernel_rfl) (by kernel_rfl) (by kernel_rfl) (fun _ hC => Ae rfl) rfl rfl rfl F s9 fun _ F => ?_
         refine Bv (i := 1) rfl (by kernel_rfl) (by kernel_rfl) (by kernel_rfl) (fun _ hC => Ae rfl) rfl rfl rfl F s9 fun _ F => ?_
         obtain ⟨a5, hk, hl⟩ := idxC (C := fun w_ => SL w [] w_ [Sl Ty.bool v1 x0, Sl Ty.bool v7 s6.1, Sl T_provisoref19_ins v8 s6.2.1]) F_provisoref19_ins (fun _ hC => (Cu hr0 hC)) s9 Fx.sl126 rfl hg
         refine Bv (i := 2) rfl (by kernel_rfl) (by kernel_rfl) (by kernel_rfl) (fun _ hC => hk _ _ _ _ _ _ _ _ _ _ rfl rfl) rfl rfl rfl F s9 fun _ F => ?_
         refine Bv (i := 3) rfl (by kernel_rfl) (by kernel_rfl) (by kernel_rfl) (fun _ hC => Bn Fx.agg156 rfl (hl _ hC) rfl) rfl rfl rfl F s9 fun _ F => ?_
         refine Bv (i := 4) rfl (by kernel_rfl) (by kernel_rfl) (by kernel_rfl) (fun _ hC => Ae rfl) rfl rfl rfl F s9 fun _ F => ?_
         refine Bv (i := 5) rfl (by kernel_rfl) (by kernel_rfl) (by kernel_rfl) (fun _ hC => Ae rfl) rfl rfl rfl F s9 fun _ F => ?_
         refine Bv (i := 6) rfl (by kernel_rfl) (by kernel_rfl) (by kernel_rfl) (fun _ hC => Bp rfl rfl) rfl rfl rfl F s9 fun _ F => ?_
         obtain ⟨a6, hm, hn⟩ := idxC (C := fun w_ => SL w [] w_ [Sl Ty.bool v1 x0, Sl Ty.bool v7 s6.1, Sl T_provisoref19_ins v8 s6.2.1]) F_provisoref19_ins (fun _ hC => (Cu hr0 hC)) s9 Fx.sl126 rfl hh
         refine Bv (i := 7) rfl (by kernel_rfl) (by kernel_rfl) (by kernel_rfl) (fun _ hC => hm _ _ _ _ _ _ _ _ _ _ rfl rfl) rfl rfl rfl F s9 fun _ F => ?_
         refine Bv (i := 8) rfl (by kernel_rfl) (by kernel_rfl) (by kernel_rfl) (fun _ hC => Bn Fx.agg156 rfl (hn _ hC) rfl) rfl rfl rfl F s9 fun _ F => ?_
         refine Bv (i := 9) rfl (by kernel_rfl) (by kernel_rfl) (by kernel_rfl) (fun _ hC => Ae rfl) rfl rfl rfl F s9 fun _ F => ?_
         refine Bv (i := 10) rfl (by kernel_rfl) (by kernel_rfl) (by kernel_rfl) (fun _ hC => Ae rfl) rfl rfl rfl F s9 fun _ F => ?_
         refine Bv (i := 11) rfl (by kernel_rfl) (by kernel_rfl) (by kernel_rfl) (fun _ hC => Bp rfl rfl) rfl rfl rfl F s9 fun _ F => ?_
         obtain ⟨a7, ho, hp⟩ := idxC (C := fun w_ => SL w [] w_ [Sl Ty.bool v1 x0, Sl Ty.bool v7 s6.1, Sl T_provisoref19_ins v8 s6.2.1]) F_provisoref19_ins (fun _ hC => (Cu hr0 hC)) s9 Fx.sl126 rfl hi
         refine Bv (i := 12) rfl (by kernel_rfl) (by kernel_rfl) (by kernel_rfl) (fun _ hC => ho _ _ _ _ _ _ _ _ _ _ rfl rfl) rfl rfl rfl F s9 fun _ F => ?_
         refine Bv (i := 13) rfl (by kernel_rfl) (by kernel_rfl) (by kernel_rfl) (fun _ hC => Bn Fx.agg156 rfl (hp _ hC) rfl) rfl rfl rfl F s9 fun _ F => ?_
         refine Cj (rs := [14, 18]) (by kernel_rfl) (by decide) (Bs (Br rfl ?_) (Bs (Br rfl ?_) (Cp)))
         ·refine Bi (args := [.tmp 50, .tmp 55, .tmp 60]) F Fx.fn104 rfl (provisoref19_three_c (a0 := x5) (a1 := x6) (a2 := x7)    hj) rfl fun vb w5 _ hq F => ?_
          obtain ⟨rfl, hs⟩ := hq
          have sa := s8.add hs
          have sb : SL w [] _ [Sl Ty.bool v1 x0, Sl Ty.bool v7 s6.1, Sl T_provisoref19_ins v8 s6.2.1] := sa
          refine Av ⟨sb, ?_⟩
          refine Cj (rs := [15, 18]) (by kernel_rfl) (by decide) (Bs (Br rfl ?_) (Bs (Br rfl ?_) (Cp)))
          ·refine Bt F (Ae rfl) rfl rfl rfl fun _ F => ?_
           have sc : SL w [] _ [Sl Ty.bool v1 x0, Sl Ty.bool v7 s6.1, Sl T_provisoref19_ins v8 s6.2.1] := sa
           refine Av ⟨sc, ?_⟩
           refine Cj (rs := [16, 17, 18]) (by kernel_rfl) (by decide) (Bs (Br rfl ?_) (Bs (Br rfl ?_) (Bs (Br rfl ?_) (Cp))))
           ·refine Bt F (As (v := .agg ⟨[.int .u8 (x8.1.op.toNat : Int), .int .i64 x8.1.a, .int .i64 x8.1.b, .int .i64 x8.1.to]⟩) rfl rfl) rfl rfl rfl fun _ F => ?_
            have sd : SL w [] _ [Sl Ty.bool v1 x0, Sl Ty.bool v7 s6.1, Sl T_provisoref19_ins v8 s6.2.1] := sa
            refine Av ⟨sd, ?_⟩
            refine Cj (rs := [17, 18]) (by kernel_rfl) (by decide) (Bs (Br rfl ?_) (Bs (Br rfl ?_) (Cp)))
            ·refine Bt F (As (v := .bool x8.2) rfl rfl) rfl rfl rfl fun _ F => ?_
             have se : SL w [] _ [Sl Ty.bool v1 x0, Sl Ty.bool v7 s6.1, Sl T_provisoref19_ins v8 s6.2.1] := sa
             refine Av ⟨se, ?_⟩
             refine Bk (i := 18) rfl (by kernel_rfl) ?_
             refine Bu F sa Fx.zero156 rfl rfl fun g1 w6 _ F sf => ?_
             have sg : SL w [] _ [Sl Ty.bool v1 x0, Sl Ty.bool v7 s6.1, Sl T_provisoref19_ins v8 s6.2.1] := sf.drop
             refine Av ⟨sg, ?_⟩
             refine Bk (i := 19) rfl (by kernel_rfl) ?_
             have sh := sf
             refine Au F sh rfl rfl Fx.sz156 (Af rfl (Af rfl (Af rfl (Af rfl Bd)))) (Ah rfl) fun w7 _ F si => ?_
             replace si : SL w [] w7 [Blk g1 156 [.int .u8 (x8.1.op.toNat : Int), .int .i64 x8.1.a, .int .i64 x8.1.b, .int .i64 x8.1.to], Sl Ty.bool v1 x0, Sl Ty.bool v7 s6.1, Sl T_provisoref19_ins v8 s6.2.1] := si
             have sj : SL w [] _ [Sl Ty.bool v1 x0, Sl Ty.bool v7 s6.1, Sl T_provisoref19_ins v8 s6.2.1] := si.drop
             refine Av ⟨sj, ?_⟩
             refine Bk (i := 20) rfl (by kernel_rfl) ?_
             refine Bt F (Am rfl) rfl rfl rfl fun _ F => ?_
             have sk : SL w [] _ [Sl Ty.bool v1 x0, Sl Ty.bool v7 s6.1, Sl T_provisoref19_ins v8 s6.2.1] := si.drop
             refine Av ⟨sk, ?_⟩
             refine Cg (by kernel_rfl) ?_
             obtain rfl := Ao H
             refine Ab ?_
             exact ⟨g1, F.sub ⟨rfl, rfl, rfl, rfl, rfl, rfl, rfl, rfl, rfl, rfl, rfl, rfl, rfl, rfl, rfl, rfl, rfl, rfl, rfl, trivial⟩, si.f3.f3.f3⟩
            refine Bu F sa Fx.zero156 rfl rfl fun g2 w8 _ F sl => ?_
            have sm : SL w [] _ [Sl Ty.bool v1 x0, Sl Ty.bool v7 s6.1, Sl T_provisoref19_ins v8 s6.2.1] := sl.drop
            refine Av ⟨sm, ?_⟩
            refine Cj (rs := [17, 19]) (by kernel_rfl) (by decide) (Bs (Br rfl ?_) (Bs (Br rfl ?_) (Cp)))
            ·refine Bt F (As (v := .bool x8.2) rfl rfl) rfl rfl rfl fun _ F => ?_
             have sn : SL w [] _ [Sl Ty.bool v1 x0, Sl Ty.bool v7 s6.1, Sl T_provisoref19_ins v8 s6.2.1] := sl.drop
             refine Av ⟨sn, ?_⟩
             refine Bk (i := 19) rfl (by kernel_rfl) ?_
             have so := sl
             refine Au F so rfl rfl Fx.sz156 (Af rfl (Af rfl (Af rfl (Af rfl Bd)))) (Ah rfl) fun w9 _ F sp => ?_
             replace sp : SL w [] w9 [Blk g2 156 [.int .u8 (x8.1.op.toNat : Int), .int .i64 x8.1.a, .int .i64 x8.1.b, .int .i64 x8.1.to], Sl Ty.bool v1 x0, Sl Ty.bool v7 s6.1, Sl T_provisoref19_ins v8 s6.2.1] := sp
             have sq : SL w [] _ [Sl Ty.bool v1 x0, Sl Ty.bool v7 s6.1, Sl T_provisoref19_ins v8 s6.2.1] := sp.drop
             refine Av ⟨sq, ?_⟩
             refine Bk (i := 20) rfl (by kernel_rfl) ?_
             refine Bt F (Am rfl) rfl rfl rfl fun _ F => ?_
             have sr : SL w [] _ [Sl Ty.bool v1 x0, Sl Ty.bool v7 s6.1, Sl T_provisoref19_ins v8 s6.2.1] := sp.drop
             refine Av ⟨sr, ?_⟩
             refine Cg (by kernel_rfl) ?_
             obtain rfl := Ao H
             refine Ab ?_
             exact ⟨g2, F.sub ⟨rfl, rfl, rfl, rfl, rfl, rfl, rfl, rfl, rfl, rfl, rfl, rfl, rfl, rfl, rfl, rfl, rfl, rfl, rfl, trivial⟩, sp.f3.f3.f3⟩
            have ss := sl
            refine Au F ss rfl rfl Fx.sz156 (Af rfl (Af rfl (Af rfl (Af rfl Bd)))) (Ah rfl) fun wa _ F st => ?_
            replace st : SL w [] wa [Blk g2 156 [.int .u8 (x8.1.op.toNat : Int), .int .i64 x8.1.a, .int .i64 x8.1.b, .int .i64 x8.1.to], Sl Ty.bool v1 x0, Sl Ty.bool v7 s6.1, Sl T_provisoref19_ins v8 s6.2.1] := st
            have su : SL w [] _ [Sl Ty.bool v1 x0, Sl Ty.bool v7 s6.1, Sl T_provisoref19_ins v8 s6.2.1] := st.drop
            refine Av ⟨su, ?_⟩
            refine Bk (i := 17) rfl (by kernel_rfl) ?_
            refine Bt F (As (v := .bool x8.2) rfl rfl) rfl rfl rfl fun _ F => ?_
            have sv : SL w [] _ [Sl Ty.bool v1 x0, Sl Ty.bool v7 s6.1, Sl T_provisoref19_ins v8 s6.2.1] := st.drop
            refine Av ⟨sv, ?_⟩
            refine Bk (i := 20) rfl (by kernel_rfl) ?_
            refine Bt F (Am rfl) rfl rfl rfl fun _ F => ?_
            have sw : SL w [] _ [Sl Ty.bool v1 x0, Sl Ty.bool v7 s6.1, Sl T_provisoref19_ins v8 s6.2.1] := st.drop
            refine Av ⟨sw, ?_⟩
            refine Cg (by kernel_rfl) ?_
            obtain rfl := Ao H
            refine Ab ?_
            exact ⟨g2, F.sub ⟨rfl, rfl, rfl, rfl, rfl, rfl, rfl, rfl, rfl, rfl, rfl, rfl, rfl, rfl, rfl, rfl, rfl, rfl, rfl, trivial⟩, st.f3.f3.f3⟩
           ·refine Bt F (As (v := .bool x8.2) rfl rfl) rfl rfl rfl fun _ F => ?_
            have sx : SL w [] _ [Sl Ty.bool v1 x0, Sl Ty.bool v7 s6.1, Sl T_provisoref19_ins v8 s6.2.1] := sa
            refine Av ⟨sx, ?_⟩
            refine Cj (rs := [16, 18]) (by kernel_rfl) (by decide) (Bs (Br rfl ?_) (Bs (Br rfl ?_) (Cp)))
            ·refine Bt F (As (v := .agg ⟨[.int .u8 (x8.1.op.toNat : Int), .int .i64 x8.1.a, .int .i64 x8.1.b, .int .i64 x8.1.to]⟩) rfl rfl) rfl rfl rfl fun _ F => ?_
             have sy : SL w [] _ [Sl Ty.bool v1 x0, Sl Ty.bool v7 s6.1, Sl T_provisoref19_ins v8 s6.2.1] := sa
             refine Av ⟨sy, ?_⟩
             refine Bk (i := 18) rfl (by kernel_rfl) ?_
             refine Bu F sa Fx.zero156 rfl rfl fun g3 wb _ F sz => ?_
             have s10 : SL w [] _ [Sl Ty.bool v1 x0, Sl Ty.bool v7 s6.1, Sl T_provisoref19_ins v8 s6.2.1] := sz.drop
             refine Av ⟨s10, ?_⟩
             refine Bk (i := 19) rfl (by kernel_rfl) ?_
             have s11 := sz
             refine Au F s11 rfl rfl Fx.sz156 (Af rfl (Af rfl (Af rfl (Af rfl Bd)))) (Ah rfl) fun wc _ F s12 => ?_
             replace s12 : SL w [] wc [Blk g3 156 [.int .u8 (x8.1.op.toNat : Int), .int .i64 x8.1.a, .int .i64 x8.1.b, .int .i64 x8.1.to], Sl Ty.bool v1 x0, Sl Ty.bool v7 s6.1, Sl T_provisoref19_ins v8 s6.2.1] := s12
             have s13 : SL w [] _ [Sl Ty.bool v1 x0, Sl Ty.bool v7 s6.1, Sl T_provisoref19_ins v8 s6.2.1] := s12.drop
             refine Av ⟨s13, ?_⟩
             refine Bk (i := 20) rfl (by kernel_rfl) ?_
             refine Bt F (Am rfl) rfl rfl rfl fun _ F => ?_
             have s14 : SL w [] _ [Sl Ty.bool v1 x0, Sl Ty.bool v7 s6.1, Sl T_provisoref19_ins v8 s6.2.1] := s12.drop
             refine Av ⟨s14, ?_⟩
             refine Cg (by kernel_rfl) ?_
             obtain rfl := Ao H
             refine Ab ?_
             exact ⟨g3, F.sub ⟨rfl, rfl, rfl, rfl, rfl, rfl, rfl, rfl, rfl, rfl, rfl, rfl, rfl, rfl, rfl, rfl, rfl, rfl, rfl, trivial⟩, s12.f3.f3.f3⟩
            refine Bu F sa Fx.zero156 rfl rfl fun g4 wd _ F s15 => ?_
            have s16 : SL w [] _ [Sl Ty.bool v1 x0, Sl Ty.bool v7 s6.1, Sl T_provisoref19_ins v8 s6.2.1] := s15.drop
            refine Av ⟨s16, ?_⟩
            refine Bk (i := 16) rfl (by kernel_rfl) ?_
            refine Bt F (As (v := .agg ⟨[.int .u8 (x8.1.op.toNat : Int), .int .i64 x8.1.a, .int .i64 x8.1.b, .int .i64 x8.1.to]⟩) rfl rfl) rfl rfl rfl fun _ F => ?_
            have s17 : SL w [] _ [Sl Ty.bool v1 x0, Sl Ty.bool v7 s6.1, Sl T_provisoref19_ins v8 s6.2.1] := s15.drop
            refine Av ⟨s17, ?_⟩
            refine Bk (i := 19) rfl (by kernel_rfl) ?_
            have s18 := s15
            refine Au F s18 rfl rfl Fx.sz156 (Af rfl (Af rfl (Af rfl (Af rfl Bd)))) (Ah rfl) fun we _ F s19 => ?_
            replace s19 : SL w [] we [Blk g4 156 [.int .u8 (x8.1.op.toNat : Int), .int .i64 x8.1.a, .int .i64 x8.1.b, .int .i64 x8.1.to], Sl Ty.bool v1 x0, Sl Ty.bool v7 s6.1, Sl T_provisoref19_ins v8 s6.2.1] := s19
            have s1a : SL w [] _ [Sl Ty.bool v1 x0, Sl Ty.bool v7 s6.1, Sl T_provisoref19_ins v8 s6.2.1] := s19.drop
            refine Av ⟨s1a, ?_⟩
            refine Bk (i := 20) rfl (by kernel_rfl) ?_
            refine Bt F (Am rfl) rfl rfl rfl fun _ F => ?_
            have s1b : SL w [] _ [Sl Ty.bool v1 x0, Sl Ty.bool v7 s6.1, Sl T_provisoref19_ins v8 s6.2.1] := s19.drop
            refine Av ⟨s1b, ?_⟩
            refine Cg (by kernel_rfl) ?_
            obtain rfl := Ao H
            refine Ab ?_
            exact ⟨g4, F.sub ⟨rfl, rfl, rfl, rfl, rfl, rfl, rfl, rfl, rfl, rfl, rfl, rfl, rfl, rfl, rfl, rfl, rfl, rfl, rfl, trivial⟩, s19.f3.f3.f3⟩
           refine Bu F sa Fx.zero156 rfl rfl fun g5 wf _ F s1c => ?_
           have s1d : SL w [] _ [Sl Ty.bool v1 x0, Sl Ty.bool v7 s6.1, Sl T_provisoref19_ins v8 s6.2.1] := s1c.drop
           refine Av ⟨s1d, ?_⟩
           refine Cj (rs := [16, 17]) (by kernel_rfl) (by decide) (Bs (Br rfl ?_) (Bs (Br rfl ?_) (Cp)))
           ·refine Bt F (As (v := .agg ⟨[.int .u8 (x8.1.op.toNat : Int), .int .i64 x8.1.a, .int .i64 x8.1.b, .int .i64 x8.1.to]⟩) rfl rfl) rfl rfl rfl fun _ F => ?_
            have s1e : SL w [] _ [Sl Ty.bool v1 x0, Sl Ty.bool v7 s6.1, Sl T_provisoref19_ins v8 s6.2.1] := s1c.drop
            refine Av ⟨s1e, ?_⟩
            refine Cj (rs := [17, 19]) (by kernel_rfl) (by decide) (Bs (Br rfl ?_) (Bs (Br rfl ?_) (Cp)))
            ·refine Bt F (As (v := .bool x8.2) rfl rfl) rfl rfl rfl fun _ F => ?_
             have s1f : SL w [] _ [Sl Ty.bool v1 x0, Sl Ty.bool v7 s6.1, Sl T_provisoref19_ins v8 s6.2.1] := s1c.drop
             refine Av ⟨s1f, ?_⟩
             refine Bk (i := 19) rfl (by kernel_rfl) ?_
             have s1g := s1c
             refine Au F s1g rfl rfl Fx.sz156 (Af rfl (Af rfl (Af rfl (Af rfl Bd)))) (Ah rfl) fun wg _ F s1h => ?_
             replace s1h : SL w [] wg [Blk g5 156 [.int .u8 (x8.1.op.toNat : Int), .int .i64 x8.1.a, .int .i64 x8.1.b, .int .i64 x8.1.to], Sl Ty.bool v1 x0, Sl Ty.bool v7 s6.1, Sl T_provisoref19_ins v8 s6.2.1] := s1h
             have s1i : SL w [] _ [Sl Ty.bool v1 x0, Sl Ty.bool v7 s6.1, Sl T_provisoref19_ins v8 s6.2.1] := s1h.drop
             refine Av ⟨s1i, ?_⟩
             refine Bk (i := 20) rfl (by kernel_rfl) ?_
             refine Bt F (Am rfl) rfl rfl rfl fun _ F => ?_
             have s1j : SL w [] _ [Sl Ty.bool v1 x0, Sl Ty.bool v7 s6.1, Sl T_provisoref19_ins v8 s6.2.1] := s1h.drop
             refine Av ⟨s1j, ?_⟩
             refine Cg (by kernel_rfl) ?_
             obtain rfl := Ao H
             refine Ab ?_
             exact ⟨g5, F.sub ⟨rfl, rfl, rfl, rfl, rfl, rfl, rfl, rfl, rfl, rfl, rfl, rfl, rfl, rfl, rfl, rfl, rfl, rfl, rfl, trivial⟩, s1h.f3.f3.f3⟩
            have s1k := s1c
            refine Au F s1k rfl rfl Fx.sz156 (Af rfl (Af rfl (Af rfl (Af rfl Bd)))) (Ah rfl) fun wh _ F s1l => ?_
            replace s1l : SL w [] wh [Blk g5 156 [.int .u8 (x8.1.op.toNat : Int), .int .i64 x8.1.a, .int .i64 x8.1.b, .int .i64 x8.1.to], Sl Ty.bool v1 x0, Sl Ty.bool v7 s6.1, Sl T_provisoref19_ins v8 s6.2.1] := s1l
            have s1m : SL w [] _ [Sl Ty.bool v1 x0, Sl Ty.bool v7 s6.1, Sl T_provisoref19_ins v8 s6.2.1] := s1l.drop
            refine Av ⟨s1m, ?_⟩
            refine Bk (i := 17) rfl (by kernel_rfl) ?_
            refine Bt F (As (v := .bool x8.2) rfl rfl) rfl rfl rfl fun _ F => ?_
            have s1n : SL w [] _ [Sl Ty.bool v1 x0, Sl Ty.bool v7 s6.1, Sl T_provisoref19_ins v8 s6.2.1] := s1l.drop
            refine Av ⟨s1n, ?_⟩
            refine Bk (i := 20) rfl (by kernel_rfl) ?_
            refine Bt F (Am rfl) rfl rfl rfl fun _ F => ?_
            have s1o : SL w [] _ [Sl Ty.bool v1 x0, Sl Ty.bool v7 s6.1, Sl T_provisoref19_ins v8 s6.2.1] := s1l.drop
            refine Av ⟨s1o, ?_⟩
            refine Cg (by kernel_rfl) ?_
            obtain rfl := Ao H
            refine Ab ?_
            exact ⟨g5, F.sub ⟨rfl, rfl, rfl, rfl, rfl, rfl, rfl, rfl, rfl, rfl, rfl, rfl, rfl, rfl, rfl, rfl, rfl, rfl, rfl, trivial⟩, s1l.f3.f3.f3⟩
           refine Bt F (As (v := .bool x8.2) rfl rfl) rfl rfl rfl fun _ F => ?_
           have s1p : SL w [] _ [Sl Ty.bool v1 x0, Sl Ty.bool v7 s6.1, Sl T_provisoref19_ins v8 s6.2.1] := s1c.drop
           refine Av ⟨s1p, ?_⟩
           refine Bk (i := 16) rfl (by kernel_rfl) ?_
           refine Bt F (As (v := .agg ⟨[.int .u8 (x8.1.op.toNat : Int), .int .i64 x8.1.a, .int .i64 x8.1.b, .int .i64 x8.1.to]⟩) rfl rfl) rfl rfl rfl fun _ F => ?_
           have s1q : SL w [] _ [Sl Ty.bool v1 x0, Sl Ty.bool v7 s6.1, Sl T_provisoref19_ins v8 s6.2.1] := s1c.drop
           refine Av ⟨s1q, ?_⟩
           refine Bk (i := 19) rfl (by kernel_rfl) ?_
           have s1r := s1c
           refine Au F s1r rfl rfl Fx.sz156 (Af rfl (Af rfl (Af rfl (Af rfl Bd)))) (Ah rfl) fun wi _ F s1s => ?_
           replace s1s : SL w [] wi [Blk g5 156 [.int .u8 (x8.1.op.toNat : Int), .int .i64 x8.1.a, .int .i64 x8.1.b, .int .i64 x8.1.to], Sl Ty.bool v1 x0, Sl Ty.bool v7 s6.1, Sl T_provisoref19_ins v8 s6.2.1] := s1s
           have s1t : SL w [] _ [Sl Ty.bool v1 x0, Sl Ty.bool v7 s6.1, Sl T_provisoref19_ins v8 s6.2.1] := s1s.drop
           refine Av ⟨s1t, ?_⟩
           refine Bk (i := 20) rfl (by kernel_rfl) ?_
           refine Bt F (Am rfl) rfl rfl rfl fun _ F => ?_
           have s1u : SL w [] _ [Sl Ty.bool v1 x0, Sl Ty.bool v7 s6.1, Sl T_provisoref19_ins v8 s6.2.1] := s1s.drop
           refine Av ⟨s1u, ?_⟩
           refine Cg (by kernel_rfl) ?_
           obtain rfl := Ao H
           refine Ab ?_
           exact ⟨g5, F.sub ⟨rfl, rfl, rfl, rfl, rfl, rfl, rfl, rfl, rfl, rfl, rfl, rfl, rfl, rfl, rfl, rfl, rfl, rfl, rfl, trivial⟩, s1s.f3.f3.f3⟩
          refine Bu F sa Fx.zero156 rfl rfl fun g6 wj _ F s1v => ?_
          have s1w : SL w [] _ [Sl Ty.bool v1 x0, Sl Ty.bool v7 s6.1, Sl T_provisoref19_ins v8 s6.2.1] := s1v.drop
          refine Av ⟨s1w, ?_⟩
          refine Bk (i := 15) rfl (by kernel_rfl) ?_
          refine Bt F (Ae rfl) rfl rfl rfl fun _ F => ?_
          have s1x : SL w [] _ [Sl Ty.bool v1 x0, Sl Ty.bool v7 s6.1, Sl T_provisoref19_ins v8 s6.2.1] := s1v.drop
          refine Av ⟨s1x, ?_⟩
          refine Cj (rs := [16, 17]) (by kernel_rfl) (by decide) (Bs (Br rfl ?_) (Bs (Br rfl ?_) (Cp)))
          ·refine Bt F (As (v := .agg ⟨[.int .u8 (x8.1.op.toNat : Int), .int .i64 x8.1.a, .int .i64 x8.1.b, .int .i64 x8.1.to]⟩) rfl rfl) rfl rfl rfl fun _ F => ?_
           have s1y : SL w [] _ [Sl Ty.bool v1 x0, Sl Ty.bool v7 s6.1, Sl T_provisoref19_ins v8 s6.2.1] := s1v.drop
           refine Av ⟨s1y, ?_⟩
           refine Cj (rs := [17, 19]) (by kernel_rfl) (by decide) (Bs (Br rfl ?_) (Bs (Br rfl ?_) (Cp)))
           ·refine Bt F (As (v := .bool x8.2) rfl rfl) rfl rfl rfl fun _ F => ?_
            have s1z : SL w [] _ [Sl Ty.bool v1 x0, Sl Ty.bool v7 s6.1, Sl T_provisoref19_ins v8 s6.2.1] := s1v.drop
            refine Av ⟨s1z, ?_⟩
            refine Bk (i := 19) rfl (by kernel_rfl) ?_
            have s20 := s1v
            refine Au F s20 rfl rfl Fx.sz156 (Af rfl (Af rfl (Af rfl (Af rfl Bd)))) (Ah rfl) fun wk _ F s21 => ?_
            replace s21 : SL w [] wk [Blk g6 156 [.int .u8 (x8.1.op.toNat : Int), .int .i64 x8.1.a, .int .i64 x8.1.b, .int .i64 x8.1.to], Sl Ty.bool v1 x0, Sl Ty.bool v7 s6.1, Sl T_provisoref19_ins v8 s6.2.1] := s21
            have s22 : SL w [] _ [Sl Ty.bool v1 x0, Sl Ty.bool v7 s6.1, Sl T_provisoref19_ins v8 s6.2.1] := s21.drop
            refine Av ⟨s22, ?_⟩
            refine Bk (i := 20) rfl (by kernel_rfl) ?_
            refine Bt F (Am rfl) rfl rfl rfl fun _ F => ?_
            have s23 : SL w [] _ [Sl Ty.bool v1 x0, Sl Ty.bool v7 s6.1, Sl T_provisoref19_ins v8 s6.2.1] := s21.drop
            refine Av ⟨s23, ?_⟩
            refine Cg (by kernel_rfl) ?_
            obtain rfl := Ao H
            refine Ab ?_
            exact ⟨g6, F.sub ⟨rfl, rfl, rfl, rfl, rfl, rfl, rfl, rfl, rfl, rfl, rfl, rfl, rfl, rfl, rfl, rfl, rfl, rfl, rfl, trivial⟩, s21.f3.f3.f3⟩
           have s24 := s1v
           refine Au F s24 rfl rfl Fx.sz156 (Af rfl (Af rfl (Af rfl (Af rfl Bd)))) (Ah rfl) fun wl _ F s25 => ?_
           replace s25 : SL w [] wl [Blk g6 156 [.int .u8 (x8.1.op.toNat : Int), .int .i64 x8.1.a, .int .i64 x8.1.b, .int .i64 x8.1.to], Sl Ty.bool v1 x0, Sl Ty.bool v7 s6.1, Sl T_provisoref19_ins v8 s6.2.1] := s25
           have s26 : SL w [] _ [Sl Ty.bool v1 x0, Sl Ty.bool v7 s6.1, Sl T_provisoref19_ins v8 s6.2.1] := s25.drop
           refine Av ⟨s26, ?_⟩
           refine Bk (i := 17) rfl (by kernel_rfl) ?_
           refine Bt F (As (v := .bool x8.2) rfl rfl) rfl rfl rfl fun _ F => ?_
           have s27 : SL w [] _ [Sl Ty.bool v1 x0, Sl Ty.bool v7 s6.1, Sl T_provisoref19_ins v8 s6.2.1] := s25.drop
           refine Av ⟨s27, ?_⟩
           refine Bk (i := 20) rfl (by kernel_rfl) ?_
           refine Bt F (Am rfl) rfl rfl rfl fun _ F => ?_
           have s28 : SL w [] _ [Sl Ty.bool v1 x0, Sl Ty.bool v7 s6.1, Sl T_provisoref19_ins v8 s6.2.1] := s25.drop
           refine Av ⟨s28, ?_⟩
           refine Cg (by kernel_rfl) ?_
           obtain rfl := Ao H
           refine Ab ?_
           exact ⟨g6, F.sub ⟨rfl, rfl, rfl, rfl, rfl, rfl, rfl, rfl, rfl, rfl, rfl, rfl, rfl, rfl, rfl, rfl, rfl, rfl, rfl, trivial⟩, s25.f3.f3.f3⟩
          refine Bt F (As (v := .bool x8.2) rfl rfl) rfl rfl rfl fun _ F => ?_
          have s2a : SL w [] _ [Sl Ty.bool v1 x0, Sl Ty.bool v7 s6.1, Sl T_provisoref19_ins v8 s6.2.1] := s1v.drop
          refine Av ⟨s2a, ?_⟩
          refine Bk (i := 16) rfl (by kernel_rfl) ?_
          refine Bt F (As (v := .agg ⟨[.int .u8 (x8.1.op.toNat : Int), .int .i64 x8.1.a, .int .i64 x8.1.b, .int .i64 x8.1.to]⟩) rfl rfl) rfl rfl rfl fun _ F => ?_
          have s2b : SL w [] _ [Sl Ty.bool v1 x0, Sl Ty.bool v7 s6.1, Sl T_provisoref19_ins v8 s6.2.1] := s1v.drop
          refine Av ⟨s2b, ?_⟩
          refine Bk (i := 19) rfl (by kernel_rfl) ?_
          have s2c := s1v
          refine Au F s2c rfl rfl Fx.sz156 (Af rfl (Af rfl (Af rfl (Af rfl Bd)))) (Ah rfl) fun wm _ F s2d => ?_
          replace s2d : SL w [] wm [Blk g6 156 [.int .u8 (x8.1.op.toNat : Int), .int .i64 x8.1.a, .int .i64 x8.1.b, .int .i64 x8.1.to], Sl Ty.bool v1 x0, Sl Ty.bool v7 s6.1, Sl T_provisoref19_ins v8 s6.2.1] := s2d
          have s2e : SL w [] _ [Sl Ty.bool v1 x0, Sl Ty.bool v7 s6.1, Sl T_provisoref19_ins v8 s6.2.1] := s2d.drop
          refine Av ⟨s2e, ?_⟩
          refine Bk (i := 20) rfl (by kernel_rfl) ?_
          refine Bt F (Am rfl) rfl rfl rfl fun _ F => ?_
          have s2f : SL w [] _ [Sl Ty.bool v1 x0, Sl Ty.bool v7 s6.1, Sl T_provisoref19_ins v8 s6.2.1] := s2d.drop
          refine Av ⟨s2f, ?_⟩
          refine Cg (by kernel_rfl) ?_
          obtain rfl := Ao H
          refine Ab ?_
          exact ⟨g6, F.sub ⟨rfl, rfl, rfl, rfl, rfl, rfl, rfl, rfl, rfl, rfl, rfl, rfl, rfl, rfl, rfl, rfl, rfl, rfl, rfl, trivial⟩, s2d.f3.f3.f3⟩
         refine Bu F s8 Fx.zero156 rfl rfl fun g7 wn _ F s2g => ?_
         have s2h : SL w [] _ [Sl Ty.bool v1 x0, Sl Ty.bool v7 s6.1, Sl T_provisoref19_ins v8 s6.2.1] := s2g.drop
         refine Av ⟨s2h, ?_⟩
         refine Bk (i := 14) rfl (by kernel_rfl) ?_
         refine Bi (args := [.tmp 50, .tmp 55, .tmp 60]) F Fx.fn104 rfl (provisoref19_three_c (a0 := x5) (a1 := x6) (a2 := x7)    hj) rfl fun vc wo _ ht F => ?_
         obtain ⟨rfl, hv⟩ := ht
         have s2i := s2g.add hv
         have s2j : SL w [] _ [Sl Ty.bool v1 x0, Sl Ty.bool v7 s6.1, Sl T_provisoref19_ins v8 s6.2.1] := s2i.drop
         refine Av ⟨s2j, ?_⟩
         refine Bk (i := 15) rfl (by kernel_rfl) ?_
         refine Bt F (Ae rfl) rfl rfl rfl fun _ F => ?_
         have s2k : SL w [] _ [Sl Ty.bool v1 x0, Sl Ty.bool v7 s6.1, Sl T_provisoref19_ins v8 s6.2.1] := s2i.drop
         refine Av ⟨s2k, ?_⟩
         refine Cj (rs := [16, 17]) (by kernel_rfl) (by decide) (Bs (Br rfl ?_) (Bs (Br rfl ?_) (Cp)))
         ·refine Bt F (As (v := .agg ⟨[.int .u8 (x8.1.op.toNat : Int), .int .i64 x8.1.a, .int .i64 x8.1.b, .int .i64 x8.1.to]⟩) rfl rfl) rfl rfl rfl fun _ F => ?_
          have s2l : SL w [] _ [Sl Ty.bool v1 x0, Sl Ty.bool v7 s6.1, Sl T_provisoref19_ins v8 s6.2.1] := s2i.drop
          refine Av ⟨s2l, ?_⟩
          refine Cj (rs := [17, 19]) (by kernel_rfl) (by decide) (Bs (Br rfl ?_) (Bs (Br rfl ?_) (Cp)))
          ·refine Bt F (As (v := .bool x8.2) rfl rfl) rfl rfl rfl fun _ F => ?_
           have s2m : SL w [] _ [Sl Ty.bool v1 x0, Sl Ty.bool v7 s6.1, Sl T_provisoref19_ins v8 s6.2.1] := s2i.drop
           refine Av ⟨s2m, ?_⟩
           refine Bk (i := 19) rfl (by kernel_rfl) ?_
           have s2n := s2i
           refine Au F s2n rfl rfl Fx.sz156 (Af rfl (Af rfl (Af rfl (Af rfl Bd)))) (Ah rfl) fun wp _ F s2o => ?_
           replace s2o : SL w [] wp [Blk g7 156 [.int .u8 (x8.1.op.toNat : Int), .int .i64 x8.1.a, .int .i64 x8.1.b, .int .i64 x8.1.to], Sl Ty.bool v1 x0, Sl Ty.bool v7 s6.1, Sl T_provisoref19_ins v8 s6.2.1] := s2o
           have s2p : SL w [] _ [Sl Ty.bool v1 x0, Sl Ty.bool v7 s6.1, Sl T_provisoref19_ins v8 s6.2.1] := s2o.drop
           refine Av ⟨s2p, ?_⟩
           refine Bk (i := 20) rfl (by kernel_rfl) ?_
           refine Bt F (Am rfl) rfl rfl rfl fun _ F => ?_
           have s2q : SL w [] _ [Sl Ty.bool v1 x0, Sl Ty.bool v7 s6.1, Sl T_provisoref19_ins v8 s6.2.1] := s2o.drop
           refine Av ⟨s2q, ?_⟩
           refine Cg (by kernel_rfl) ?_
           obtain rfl := Ao H
           refine Ab ?_
           exact ⟨g7, F.sub ⟨rfl, rfl, rfl, rfl, rfl, rfl, rfl, rfl, rfl, rfl, rfl, rfl, rfl, rfl, rfl, rfl, rfl, rfl, rfl, trivial⟩, s2o.f3.f3.f3⟩
          have s2r := s2i
          refine Au F s2r rfl rfl Fx.sz156 (Af rfl (Af rfl (Af rfl (Af rfl Bd)))) (Ah rfl) fun wq _ F s2s => ?_
          replace s2s : SL w [] wq [Blk g7 156 [.int .u8 (x8.1.op.toNat : Int), .int .i64 x8.1.a, .int .i64 x8.1.b, .int .i64 x8.1.to], Sl Ty.bool v1 x0, Sl Ty.bool v7 s6.1, Sl T_provisoref19_ins v8 s6.2.1] := s2s
          have s2t : SL w [] _ [Sl Ty.bool v1 x0, Sl Ty.bool v7 s6.1, Sl T_provisoref19_ins v8 s6.2.1] := s2s.drop
          refine Av ⟨s2t, ?_⟩
          refine Bk (i := 17) rfl (by kernel_rfl) ?_
          refine Bt F (As (v := .bool x8.2) rfl rfl) rfl rfl rfl fun _ F => ?_
          have s2u : SL w [] _ [Sl Ty.bool v1 x0, Sl Ty.bool v7 s6.1, Sl T_provisoref19_ins v8 s6.2.1] := s2s.drop
          refine Av ⟨s2u, ?_⟩
          refine Bk (i := 20) rfl (by kernel_rfl) ?_
          refine Bt F (Am rfl) rfl rfl rfl fun _ F => ?_
          have s2v : SL w [] _ [Sl Ty.bool v1 x0, Sl Ty.bool v7 s6.1, Sl T_provisoref19_ins v8 s6.2.1] := s2s.drop
          refine Av ⟨s2v, ?_⟩
          refine Cg (by kernel_rfl) ?_
          obtain rfl := Ao H
          refine Ab ?_
          exact ⟨g7, F.sub ⟨rfl, rfl, rfl, rfl, rfl, rfl, rfl, rfl, rfl, rfl, rfl, rfl, rfl, rfl, rfl, rfl, rfl, rfl, rfl, trivial⟩, s2s.f3.f3.f3⟩
         refine Bt F (As (v := .bool x8.2) rfl rfl) rfl rfl rfl fun _ F => ?_
         have s2w : SL w [] _ [Sl Ty.bool v1 x0, Sl Ty.bool v7 s6.1, Sl T_provisoref19_ins v8 s6.2.1] := s2i.drop
         refine Av ⟨s2w, ?_⟩
         refine Bk (i := 16) rfl (by kernel_rfl) ?_
         refine Bt F (As (v := .agg ⟨[.int .u8 (x8.1.op.toNat : Int), .int .i64 x8.1.a, .int .i64 x8.1.b, .int .i64 x8.1.to]⟩) rfl rfl) rfl rfl rfl fun _ F => ?_
         have s2x : SL w [] _ [Sl Ty.bool v1 x0, Sl Ty.bool v7 s6.1, Sl T_provisoref19_ins v8 s6.2.1] := s2i.drop
         refine Av ⟨s2x, ?_⟩
         refine Bk (i := 19) rfl (by kernel_rfl) ?_
         have s2y := s2i
         refine Au F s2y rfl rfl Fx.sz156 (Af rfl (Af rfl (Af rfl (Af rfl Bd)))) (Ah rfl) fun ws _ F s2z => ?_
         replace s2z : SL w [] ws [Blk g7 156 [.int .u8 (x8.1.op.toNat : Int), .int .i64 x8.1.a, .int .i64 x8.1.b, .int .i64 x8.1.to], Sl Ty.bool v1 x0, Sl Ty.bool v7 s6.1, Sl T_provisoref19_ins v8 s6.2.1] := s2z
         have s30 : SL w [] _ [Sl Ty.bool v1 x0, Sl Ty.bool v7 s6.1, Sl T_provisoref19_ins v8 s6.2.1] := s2z.drop
         refine Av ⟨s30, ?_⟩
         refine Bk (i := 20) rfl (by kernel_rfl) ?_
         refine Bt F (Am rfl) rfl rfl rfl fun _ F => ?_
         have s31 : SL w [] _ [Sl Ty.bool v1 x0, Sl Ty.bool v7 s6.1, Sl T_provisoref19_ins v8 s6.2.1] := s2z.drop
         refine Av ⟨s31, ?_⟩
         refine Cg (by kernel_rfl) ?_
         obtain rfl := Ao H
         refine Ab ?_
         exact ⟨g7, F.sub ⟨rfl, rfl, rfl, rfl, rfl, rfl, rfl, rfl, rfl, rfl, rfl, rfl, rfl, rfl, rfl, rfl, rfl, rfl, rfl, trivial⟩, s2z.f3.f3.f3⟩
        intro _ wt hJ
        obtain ⟨g0, F, s32⟩ := hJ
        have H := R3
        clear R3 H3
        refine Ab <| Ai <| Al <| Ak F (Aa (Ae rfl) <| Ad) fun _ F => Aj <| Ab <| Bm F rfl (fun hw => ?_) (fun hw => ?_)
        ·replace H := Bb hw H
         refine Ai <| Al ?_
         obtain ⟨x9, hx, H⟩ := Aq H
         obtain ⟨a8, hy, hz⟩ := Cf F_provisoref19_ins s32 (.tail _ <| .tail _ <| .head _) Fx.sl126 rfl hx
         refine Ak F (Aa (Ae rfl) <| Aa (Ae rfl) <| Aa (Bn Fx.agg156 rfl (s32.blk_cells (.tail _ <| .tail _ <| .tail _ <| .head _) (o := 0) (ds := [.int .u8 (o4.1.toNat : Int), .int .i64 o4.2.1, .int .i64 o4.2.2.1, .int .i64 o4.2.2.2.1]) (fun j u hu => by rw [Nat.zero_add]; exact hu)) rfl) <| Aa (hy _ _ _ _ _ _ _ _ _ _ rfl rfl) <| Ad) fun _ F => ?_
         refine Cr (y' := (⟨o4.1, o4.2.1, o4.2.2.1, o4.2.2.2.1⟩ : S_provisoref19_ins)) F_provisoref19_ins F s32.f2 hz hx rfl rfl (by rfl) Fx.sz156 fun wu _ F s33 => ?_
         refine Aj <| Ab <| Ai <| Al ?_
         obtain ⟨xa, h10, H⟩ := Aq H
         obtain ⟨a9, h11, h12⟩ := Cf Flat.bool s33 (.tail _ <| .tail _ <| .head _) Fx.sl93 rfl h10
         refine Ak F (Aa (Ae rfl) <| Aa (Ae rfl) <| Aa (Bp rfl rfl) <| Aa (Ae rfl) <| Aa (Ae rfl) <| Aa (Bp rfl rfl) <| Aa (h11 _ _ _ _ _ _ _ _ _ _ rfl rfl) <| Ad) fun _ F => ?_
         refine Cr (y' := true) Flat.bool F s33.f2 h12 h10 rfl rfl (by rfl) Fx.sz4 fun wv _ F s34 => ?_
         obtain ⟨xb, h13, H⟩ := Aq H
         obtain ⟨aa, h14, h15⟩ := Cf Flat.bool s34 (.head _) Fx.sl93 rfl h13
         refine Ak F (Aa (h14 _ _ _ _ _ _ _ _ _ _ rfl rfl) <| Ad) fun _ F => ?_
         refine Cr (y' := true) Flat.bool F s34 h15 h13 rfl rfl (by rfl) Fx.sz4 fun ww _ F s35 => ?_
         refine Aj <| Ab <| Ai <| Al <| Ak F (Aa (Ae rfl) <| Aa (Bp rfl rfl) <| Aa (Am rfl) <| Ad) fun _ F => Aj <| Ab <| Bz <| Bo <| Bo <| Ca ?_
         obtain rfl := Ao H
         replace H := R2
         try dsimp only at H
         obtain rfl := Ao H
         refine Ab ?_
         exact ⟨v7, v8, F.sub ⟨rfl, rfl, rfl, rfl, rfl, trivial⟩, s35.f3.drop.f1.f1.f2⟩
        replace H := Bc hw H
        refine Aw ?_
        obtain rfl := Ao H
        refine Ab ?_
        exact ⟨_, rfl, F.sub ⟨rfl, rfl, rfl, rfl, rfl, trivial⟩, s32.f3.drop⟩
       replace H := Bc hf H
       refine Aw ?_
       obtain rfl := Ao H
       refine Ab ?_
       exact ⟨_, rfl, F.sub ⟨rfl, rfl, rfl, rfl, rfl, trivial⟩, s7⟩
      replace H := Bc hb H
      refine Ap F rfl rfl (An rfl hb) Ac rfl rfl fun _ F => Ap F rfl rfl (An rfl hb) Ac rfl rfl fun _ F => Ap F rfl rfl (An rfl hb) Ac rfl rfl fun _ F => Ap F rfl rfl (An rfl hb) Ac rfl rfl fun _ F => Ap F rfl rfl (An rfl hb) Ac rfl rfl fun _ F => Ap F rfl rfl (An rfl hb) Ac rfl rfl fun _ F => Ak F (Aa (Bj (Cb rfl hb) rfl) <| Ad) fun _ F => Aj <| Ab <| Cl F rfl <| Aw ?_
      obtain rfl := Ao H
      refine Ab ?_
      exact ⟨_, rfl, F.sub ⟨rfl, rfl, rfl, rfl, rfl, trivial⟩, s7⟩
     replace H := Bc h7 H
     refine Ap F rfl rfl (An rfl h7) Ac rfl rfl fun _ F => Ap F rfl rfl (An rfl h7) Ac rfl rfl fun _ F => Ap F rfl rfl (An rfl h7) Ac rfl rfl fun _ F => Ap F rfl rfl (An rfl h7) Ac rfl rfl fun _ F => Ap F rfl rfl (An rfl h7) Ac rfl rfl fun _ F => Ap F rfl rfl (An rfl h7) Ac rfl rfl fun _ F => Ak F (Aa (Bj (Cb rfl h7) rfl) <| Aa (Ae rfl) <| Ad) fun _ F => Ap F rfl rfl rfl Ac rfl rfl fun _ F => Ap F rfl rfl rfl Ac rfl rfl fun _ F => Ap F rfl rfl rfl Ac rfl rfl fun _ F => Ap F rfl rfl rfl Ac rfl rfl fun _ F => Ap F rfl rfl rfl Ac rfl rfl fun _ F => Ap F rfl rfl rfl Ac rfl rfl fun _ F => Ak F (Aa (Bj rfl rfl) <| Ad) fun _ F => Aj <| Ab <| Cl F rfl <| Aw ?_
     obtain rfl := Ao H
     refine Ab ?_
     exact ⟨_, rfl, F.sub ⟨rfl, rfl, rfl, rfl, rfl, trivial⟩, s7⟩
    intro _ wx hJ
    obtain ⟨p0, rfl, F, s36⟩ := hJ
    have H := R2
    clear R2 H2
    try dsimp only at H
    refine Ab <| Ai <| Al <| Ak F (Aa (Ae rfl) <| Aa (Bp rfl rfl) <| Aa (Ae rfl) <| Aa (Cd rfl Try.underlying126 (Cc (Cu hr0 s36))) <| Aa (Cn rfl rfl) <| Aa (Ae rfl) <| Ad) fun _ F => Bl (decide ((wr (s6.2.2 + 1)) < (a0.length : Int))) (fun h16 => ?_) (fun h16 => ?_)
    ·replace H := Bb h16 H
     refine Ar F rfl rfl (An rfl h16) (Ae rfl) rfl rfl fun _ F => Ar F rfl rfl (An rfl h16) (Ae rfl) rfl rfl fun _ F => Ar F rfl rfl (An rfl h16) (Bp rfl rfl) rfl rfl fun _ F => ?_
     obtain ⟨xc, h17, H⟩ := Aq H
     obtain ⟨ab, h18, h19⟩ := Cf Flat.bool s36 (.head _) Fx.sl93 rfl h17
     refine Ar F rfl rfl (An rfl h16) (h18 _ _ _ _ _ _ _ _ _ _ rfl rfl) rfl rfl fun _ F => Ar F rfl rfl (An rfl h16) (Ba Fx.nag4 rfl (Cells.at_ (SL.elcells Flat.bool s36 (.head _) h19 h17) (o := 0) rfl)) rfl rfl fun _ F => Ar F rfl rfl (An rfl h16) (Cx rfl) rfl rfl fun _ F => Ak F (Aa (Bh (Cb rfl h16) rfl) <| Ad) fun _ F => Aj <| Ab <| Bm F rfl (fun h1a => ?_) (fun h1a => ?_)
     ·replace H := Bb h1a H
      refine Ai ?_
      obtain ⟨o5, H4, R4⟩ := Aq H
      clear H
      refine Bx (fun a w_ => ∃ g8 : Nat, Fr a 125 [(0, v0), (3, v1), (4, v7), (5, v8), (6, .int .i64 s6.2.2), (9, .pointer (some ⟨g8, 0, none⟩)), (10, .bool o5.2.2.2.2), (85, v1), (86, .int .i64 s6.2.2), (87, .int .i64 (wr (s6.2.2 + 1))), (88, .pointer (some ab)), (89, .bool xc), (90, .bool (!xc))] ∧ SL w [] w_ [Sl Ty.bool v1 x0, Sl Ty.bool v7 s6.1, Sl T_provisoref19_ins v8 s6.2.1, Blk g8 156 [.int .u8 (o5.1.toNat : Int), .int .i64 o5.2.1, .int .i64 o5.2.2.1, .int .i64 o5.2.2.2.1]]) ?_ ?_
      ·have H := H4
       obtain ⟨xd, h1b, H⟩ := Aq H
       obtain ⟨xe, h1c, H⟩ := Aq H
       obtain ⟨xf, h1d, H⟩ := Aq H
       refine wp_regh Fx.mixed (fun w_ => SL w [] w_ [Sl Ty.bool v1 x0, Sl Ty.bool v7 s6.1, Sl T_provisoref19_ins v8 s6.2.1]) ?_
       have s37 := s36.drew
       have s38 : SL w [] _ [Sl Ty.bool v1 x0, Sl Ty.bool v7 s6.1, Sl T_provisoref19_ins v8 s6.2.1] := s37
       refine Bv (i := 0) rfl (by kernel_rfl) (by kernel_rfl) (by kernel_rfl) (fun _ hC => Ae rfl) rfl rfl rfl F s38 fun _ F => ?_
       refine Bv (i := 1) rfl (by kernel_rfl) (by kernel_rfl) (by kernel_rfl) (fun _ hC => Ae rfl) rfl rfl rfl F s38 fun _ F => ?_
       obtain ⟨ac, h1e, h1f⟩ := idxC (C := fun w_ => SL w [] w_ [Sl Ty.bool v1 x0, Sl Ty.bool v7 s6.1, Sl T_provisoref19_ins v8 s6.2.1]) F_provisoref19_ins (fun _ hC => (Cu hr0 hC)) s38 Fx.sl126 rfl h1b
       refine Bv (i := 2) rfl (by kernel_rfl) (by kernel_rfl) (by kernel_rfl) (fun _ hC => h1e _ _ _ _ _ _ _ _ _ _ rfl rfl) rfl rfl rfl F s38 fun _ F => ?_
       refine Bv (i := 3) rfl (by kernel_rfl) (by kernel_rfl) (by kernel_rfl) (fun _ hC => Bn Fx.agg156 rfl (h1f _ hC) rfl) rfl rfl rfl F s38 fun _ F => ?_
       refine Bv (i := 4) rfl (by kernel_rfl) (by kernel_rfl) (by kernel_rfl) (fun _ hC => Ae rfl) rfl rfl rfl F s38 fun _ F => ?_
       refine Bv (i := 5) rfl (by kernel_rfl) (by kernel_rfl) (by kernel_rfl) (fun _ hC => Ae rfl) rfl rfl rfl F s38 fun _ F => ?_
       refine Bv (i := 6) rfl (by kernel_rfl) (by kernel_rfl) (by kernel_rfl) (fun _ hC => Bp rfl rfl) rfl rfl rfl F s38 fun _ F => ?_
       obtain ⟨ad, h1g, h1h⟩ := idxC (C := fun w_ => SL w [] w_ [Sl Ty.bool v1 x0, Sl Ty.bool v7 s6.1, Sl T_provisoref19_ins v8 s6.2.1]) F_provisoref19_ins (fun _ hC => (Cu hr0 hC)) s38 Fx.sl126 rfl h1c
       refine Bv (i := 7) rfl (by kernel_rfl) (by kernel_rfl) (by kernel_rfl) (fun _ hC => h1g _ _ _ _ _ _ _ _ _ _ rfl rfl) rfl rfl rfl F s38 fun _ F => ?_
       refine Bv (i := 8) rfl (by kernel_rfl) (by kernel_rfl) (by kernel_rfl) (fun _ hC => Bn Fx.agg156 rfl (h1h _ hC) rfl) rfl rfl rfl F s38 fun _ F => ?_
       refine Cj (rs := [9, 13]) (by kernel_rfl) (by decide) (Bs (Br rfl ?_) (Bs (Br rfl ?_) (Cp)))
       ·refine Bi (args := [.tmp 96, .tmp 101]) F Fx.fn105 rfl (provisoref19_two_c (a0 := xd) (a1 := xe)    h1d) rfl fun vd wy _ h1i F => ?_
        obtain ⟨rfl, h1j⟩ := h1i
        have s39 := s37.add h1j
        have s3a : SL w [] _ [Sl Ty.bool v1 x0, Sl Ty.bool v7 s6.1, Sl T_provisoref19_ins v8 s6.2.1] := s39
        refine Av ⟨s3a, ?_⟩
        refine Cj (rs := [10, 13]) (by kernel_rfl) (by decide) (Bs (Br rfl ?_) (Bs (Br rfl ?_) (Cp)))
        ·refine Bt F (Ae rfl) rfl rfl rfl fun _ F => ?_
         have s3b : SL w [] _ [Sl Ty.bool v1 x0, Sl Ty.bool v7 s6.1, Sl T_provisoref19_ins v8 s6.2.1] := s39
         refine Av ⟨s3b, ?_⟩
         refine Cj (rs := [11, 12, 13]) (by kernel_rfl) (by decide) (Bs (Br rfl ?_) (Bs (Br rfl ?_) (Bs (Br rfl ?_) (Cp))))
         ·refine Bt F (As (v := .agg ⟨[.int .u8 (xf.1.op.toNat : Int), .int .i64 xf.1.a, .int .i64 xf.1.b, .int .i64 xf.1.to]⟩) rfl rfl) rfl rfl rfl fun _ F => ?_
          have s3c : SL w [] _ [Sl Ty.bool v1 x0, Sl Ty.bool v7 s6.1, Sl T_provisoref19_ins v8 s6.2.1] := s39
          refine Av ⟨s3c, ?_⟩
          refine Cj (rs := [12, 13]) (by kernel_rfl) (by decide) (Bs (Br rfl ?_) (Bs (Br rfl ?_) (Cp)))
          ·refine Bt F (As (v := .bool xf.2) rfl rfl) rfl rfl rfl fun _ F => ?_
           have s3d : SL w [] _ [Sl Ty.bool v1 x0, Sl Ty.bool v7 s6.1, Sl T_provisoref19_ins v8 s6.2.1] := s39
           refine Av ⟨s3d, ?_⟩
           refine Bk (i := 13) rfl (by kernel_rfl) ?_
           refine Bu F s39 Fx.zero156 rfl rfl fun g9 wz _ F s3e => ?_
           have s3f : SL w [] _ [Sl Ty.bool v1 x0, Sl Ty.bool v7 s6.1, Sl T_provisoref19_ins v8 s6.2.1] := s3e.drop
           refine Av ⟨s3f, ?_⟩
           refine Bk (i := 14) rfl (by kernel_rfl) ?_
           have s3g := s3e
           refine Au F s3g rfl rfl Fx.sz156 (Af rfl (Af rfl (Af rfl (Af rfl Bd)))) (Ah rfl) fun w10 _ F s3h => ?_
           replace s3h : SL w [] w10 [Blk g9 156 [.int .u8 (xf.1.op.toNat : Int), .int .i64 xf.1.a, .int .i64 xf.1.b, .int .i64 xf.1.to], Sl Ty.bool v1 x0, Sl Ty.bool v7 s6.1, Sl T_provisoref19_ins v8 s6.2.1] := s3h
           have s3i : SL w [] _ [Sl Ty.bool v1 x0, Sl Ty.bool v7 s6.1, Sl T_provisoref19_ins v8 s6.2.1] := s3h.drop
           refine Av ⟨s3i, ?_⟩
           refine Bk (i := 15) rfl (by kernel_rfl) ?_
           refine Bt F (Am rfl) rfl rfl rfl fun _ F => ?_
           have s3j : SL w [] _ [Sl Ty.bool v1 x0, Sl Ty.bool v7 s6.1, Sl T_provisoref19_ins v8 s6.2.1] := s3h.drop
           refine Av ⟨s3j, ?_⟩
           refine Cg (by kernel_rfl) ?_
           obtain rfl := Ao H
           refine Ab ?_
           exact ⟨g9, F.sub ⟨rfl, rfl, rfl, rfl, rfl, rfl, rfl, rfl, rfl, rfl, rfl, rfl, rfl, trivial⟩, s3h.f3.f3.f3⟩
          refine Bu F s39 Fx.zero156 rfl rfl fun ga w11 _ F s3k => ?_
          have s3l : SL w [] _ [Sl Ty.bool v1 x0, Sl Ty.bool v7 s6.1, Sl T_provisoref19_ins v8 s6.2.1] := s3k.drop
          refine Av ⟨s3l, ?_⟩
          refine Cj (rs := [12, 14]) (by kernel_rfl) (by decide) (Bs (Br rfl ?_) (Bs (Br rfl ?_) (Cp)))
          ·refine Bt F (As (v := .bool xf.2) rfl rfl) rfl rfl rfl fun _ F => ?_
           have s3m : SL w [] _ [Sl Ty.bool v1 x0, Sl Ty.bool v7 s6.1, Sl T_provisoref19_ins v8 s6.2.1] := s3k.drop
           refine Av ⟨s3m, ?_⟩
           refine Bk (i := 14) rfl (by kernel_rfl) ?_
           have s3n := s3k
           refine Au F s3n rfl rfl Fx.sz156 (Af rfl (Af rfl (Af rfl (Af rfl Bd)))) (Ah rfl) fun w12 _ F s3o => ?_
           replace s3o : SL w [] w12 [Blk ga 156 [.int .u8 (xf.1.op.toNat : Int), .int .i64 xf.1.a, .int .i64 xf.1.b, .int .i64 xf.1.to], Sl Ty.bool v1 x0, Sl Ty.bool v7 s6.1, Sl T_provisoref19_ins v8 s6.2.1] := s3o
           have s3p : SL w [] _ [Sl Ty.bool v1 x0, Sl Ty.bool v7 s6.1, Sl T_provisoref19_ins v8 s6.2.1] := s3o.drop
           refine Av ⟨s3p, ?_⟩
           refine Bk (i := 15) rfl (by kernel_rfl) ?_
           refine Bt F (Am rfl) rfl rfl rfl fun _ F => ?_
           have s3q : SL w [] _ [Sl Ty.bool v1 x0, Sl Ty.bool v7 s6.1, Sl T_provisoref19_ins v8 s6.2.1] := s3o.drop
           refine Av ⟨s3q, ?_⟩
           refine Cg (by kernel_rfl) ?_
           obtain rfl := Ao H
           refine Ab ?_
           exact ⟨ga, F.sub ⟨rfl, rfl, rfl, rfl, rfl, rfl, rfl, rfl, rfl, rfl, rfl, rfl, rfl, trivial⟩, s3o.f3.f3.f3⟩
          have s3r := s3k
          refine Au F s3r rfl rfl Fx.sz156 (Af rfl (Af rfl (Af rfl (Af rfl Bd)))) (Ah rfl) fun w13 _ F s3s => ?_
          replace s3s : SL w [] w13 [Blk ga 156 [.int .u8 (xf.1.op.toNat : Int), .int .i64 xf.1.a, .int .i64 xf.1.b, .int .i64 xf.1.to], Sl Ty.bool v1 x0, Sl Ty.bool v7 s6.1, Sl T_provisoref19_ins v8 s6.2.1] := s3s
          have s3t : SL w [] _ [Sl Ty.bool v1 x0, Sl Ty.bool v7 s6.1, Sl T_provisoref19_ins v8 s6.2.1] := s3s.drop
          refine Av ⟨s3t, ?_⟩
          refine Bk (i := 12) rfl (by kernel_rfl) ?_
          refine Bt F (As (v := .bool xf.2) rfl rfl) rfl rfl rfl fun _ F => ?_
          have s3u : SL w [] _ [Sl Ty.bool v1 x0, Sl Ty.bool v7 s6.1, Sl T_provisoref19_ins v8 s6.2.1] := s3s.drop
          refine Av ⟨s3u, ?_⟩
          refine Bk (i := 15) rfl (by kernel_rfl) ?_
          refine Bt F (Am rfl) rfl rfl rfl fun _ F => ?_
          have s3v : SL w [] _ [Sl Ty.bool v1 x0, Sl Ty.bool v7 s6.1, Sl T_provisoref19_ins v8 s6.2.1] := s3s.drop
          refine Av ⟨s3v, ?_⟩
          refine Cg (by kernel_rfl) ?_
          obtain rfl := Ao H
          refine Ab ?_
          exact ⟨ga, F.sub ⟨rfl, rfl, rfl, rfl, rfl, rfl, rfl, rfl, rfl, rfl, rfl, rfl, rfl, trivial⟩, s3s.f3.f3.f3⟩
         ·refine Bt F (As (v := .bool xf.2) rfl rfl) rfl rfl rfl fun _ F => ?_
          have s3w : SL w [] _ [Sl Ty.bool v1 x0, Sl Ty.bool v7 s6.1, Sl T_provisoref19_ins v8 s6.2.1] := s39
          refine Av ⟨s3w, ?_⟩
          refine Cj (rs := [11, 13]) (by kernel_rfl) (by decide) (Bs (Br rfl ?_) (Bs (Br rfl ?_) (Cp)))
          ·refine Bt F (As (v := .agg ⟨[.int .u8 (xf.1.op.toNat : Int), .int .i64 xf.1.a, .int .i64 xf.1.b, .int .i64 xf.1.to]⟩) rfl rfl) rfl rfl rfl fun _ F => ?_
           have s3x : SL w [] _ [Sl Ty.bool v1 x0, Sl Ty.bool v7 s6.1, Sl T_provisoref19_ins v8 s6.2.1] := s39
           refine Av ⟨s3x, ?_⟩
           refine Bk (i := 13) rfl (by kernel_rfl) ?_
           refine Bu F s39 Fx.zero156 rfl rfl fun gb w14 _ F s3y => ?_
           have s3z : SL w [] _ [Sl Ty.bool v1 x0, Sl Ty.bool v7 s6.1, Sl T_provisoref19_ins v8 s6.2.1] := s3y.drop
           refine Av ⟨s3z, ?_⟩
           refine Bk (i := 14) rfl (by kernel_rfl) ?_
           have s40 := s3y
           refine Au F s40 rfl rfl Fx.sz156 (Af rfl (Af rfl (Af rfl (Af rfl Bd)))) (Ah rfl) fun w15 _ F s41 => ?_
           replace s41 : SL w [] w15 [Blk gb 156 [.int .u8 (xf.1.op.toNat : Int), .int .i64 xf.1.a, .int .i64 xf.1.b, .int .i64 xf.1.to], Sl Ty.bool v1 x0, Sl Ty.bool v7 s6.1, Sl T_provisoref19_ins v8 s6.2.1] := s41
           have s42 : SL w [] _ [Sl Ty.bool v1 x0, Sl Ty.bool v7 s6.1, Sl T_provisoref19_ins v8 s6.2.1] := s41.drop
           refine Av ⟨s42, ?_⟩
           refine Bk (i := 15) rfl (by kernel_rfl) ?_
           refine Bt F (Am rfl) rfl rfl rfl fun _ F => ?_
           have s43 : SL w [] _ [Sl Ty.bool v1 x0, Sl Ty.bool v7 s6.1, Sl T_provisoref19_ins v8 s6.2.1] := s41.drop
           refine Av ⟨s43, ?_⟩
           refine Cg (by kernel_rfl) ?_
           obtain rfl := Ao H
           refine Ab ?_
           exact ⟨gb, F.sub ⟨rfl, rfl, rfl, rfl, rfl, rfl, rfl, rfl, rfl, rfl, rfl, rfl, rfl, trivial⟩, s41.f3.f3.f3⟩
          refine Bu F s39 Fx.zero156 rfl rfl fun gc w16 _ F s44 => ?_
          have s45 : SL w [] _ [Sl Ty.bool v1 x0, Sl Ty.bool v7 s6.1, Sl T_provisoref19_ins v8 s6.2.1] := s44.drop
          refine Av ⟨s45, ?_⟩
          refine Bk (i := 11) rfl (by kernel_rfl) ?_
          refine Bt F (As (v := .agg ⟨[.int .u8 (xf.1.op.toNat : Int), .int .i64 xf.1.a, .int .i64 xf.1.b, .int .i64 xf.1.to]⟩) rfl rfl) rfl rfl rfl fun _ F => ?_
          have s46 : SL w [] _ [Sl Ty.bool v1 x0, Sl Ty.bool v7 s6.1, Sl T_provisoref19_ins v8 s6.2.1] := s44.drop
          refine Av ⟨s46, ?_⟩
          refine Bk (i := 14) rfl (by kernel_rfl) ?_
          have s47 := s44
          refine Au F s47 rfl rfl Fx.sz156 (Af rfl (Af rfl (Af rfl (Af rfl Bd)))) (Ah rfl) fun w17 _ F s48 => ?_
          replace s48 : SL w [] w17 [Blk gc 156 [.int .u8 (xf.1.op.toNat : Int), .int .i64 xf.1.a, .int .i64 xf.1.b, .int .i64 xf.1.to], Sl Ty.bool v1 x0, Sl Ty.bool v7 s6.1, Sl T_provisoref19_ins v8 s6.2.1] := s48
          have s49 : SL w [] _ [Sl Ty.bool v1 x0, Sl Ty.bool v7 s6.1, Sl T_provisoref19_ins v8 s6.2.1] := s48.drop
          refine Av ⟨s49, ?_⟩
          refine Bk (i := 15) rfl (by kernel_rfl) ?_
          refine Bt F (Am rfl) rfl rfl rfl fun _ F => ?_
          have s4a : SL w [] _ [Sl Ty.bool v1 x0, Sl Ty.bool v7 s6.1, Sl T_provisoref19_ins v8 s6.2.1] := s48.drop
          refine Av ⟨s4a, ?_⟩
          refine Cg (by kernel_rfl) ?_
          obtain rfl := Ao H
          refine Ab ?_
          exact ⟨gc, F.sub ⟨rfl, rfl, rfl, rfl, rfl, rfl, rfl, rfl, rfl, rfl, rfl, rfl, rfl, trivial⟩, s48.f3.f3.f3⟩
         refine Bu F s39 Fx.zero156 rfl rfl fun gd w18 _ F s4b => ?_
         have s4c : SL w [] _ [Sl Ty.bool v1 x0, Sl Ty.bool v7 s6.1, Sl T_provisoref19_ins v8 s6.2.1] := s4b.drop
         refine Av ⟨s4c, ?_⟩
         refine Cj (rs := [11, 12]) (by kernel_rfl) (by decide) (Bs (Br rfl ?_) (Bs (Br rfl ?_) (Cp)))
         ·refine Bt F (As (v := .agg ⟨[.int .u8 (xf.1.op.toNat : Int), .int .i64 xf.1.a, .int .i64 xf.1.b, .int .i64 xf.1.to]⟩) rfl rfl) rfl rfl rfl fun _ F => ?_
          have s4d : SL w [] _ [Sl Ty.bool v1 x0, Sl Ty.bool v7 s6.1, Sl T_provisoref19_ins v8 s6.2.1] := s4b.drop
          refine Av ⟨s4d, ?_⟩
          refine Cj (rs := [12, 14]) (by kernel_rfl) (by decide) (Bs (Br rfl ?_) (Bs (Br rfl ?_) (Cp)))
          ·refine Bt F (As (v := .bool xf.2) rfl rfl) rfl rfl rfl fun _ F => ?_
           have s4e : SL w [] _ [Sl Ty.bool v1 x0, Sl Ty.bool v7 s6.1, Sl T_provisoref19_ins v8 s6.2.1] := s4b.drop
           refine Av ⟨s4e, ?_⟩
           refine Bk (i := 14) rfl (by kernel_rfl) ?_
           have s4f := s4b
           refine Au F s4f rfl rfl Fx.sz156 (Af rfl (Af rfl (Af rfl (Af rfl Bd)))) (Ah rfl) fun w19 _ F s4g => ?_
           replace s4g : SL w [] w19 [Blk gd 156 [.int .u8 (xf.1.op.toNat : Int), .int .i64 xf.1.a, .int .i64 xf.1.b, .int .i64 xf.1.to], Sl Ty.bool v1 x0, Sl Ty.bool v7 s6.1, Sl T_provisoref19_ins v8 s6.2.1] := s4g
           have s4h : SL w [] _ [Sl Ty.bool v1 x0, Sl Ty.bool v7 s6.1, Sl T_provisoref19_ins v8 s6.2.1] := s4g.drop
           refine Av ⟨s4h, ?_⟩
           refine Bk (i := 15) rfl (by kernel_rfl) ?_
           refine Bt F (Am rfl) rfl rfl rfl fun _ F => ?_
           have s4i : SL w [] _ [Sl Ty.bool v1 x0, Sl Ty.bool v7 s6.1, Sl T_provisoref19_ins v8 s6.2.1] := s4g.drop
           refine Av ⟨s4i, ?_⟩
           refine Cg (by kernel_rfl) ?_
           obtain rfl := Ao H
           refine Ab ?_
           exact ⟨gd, F.sub ⟨rfl, rfl, rfl, rfl, rfl, rfl, rfl, rfl, rfl, rfl, rfl, rfl, rfl, trivial⟩, s4g.f3.f3.f3⟩
          have s4j := s4b
          refine Au F s4j rfl rfl Fx.sz156 (Af rfl (Af rfl (Af rfl (Af rfl Bd)))) (Ah rfl) fun w1a _ F s4k => ?_
          replace s4k : SL w [] w1a [Blk gd 156 [.int .u8 (xf.1.op.toNat : Int), .int .i64 xf.1.a, .int .i64 xf.1.b, .int .i64 xf.1.to], Sl Ty.bool v1 x0, Sl Ty.bool v7 s6.1, Sl T_provisoref19_ins v8 s6.2.1] := s4k
          have s4l : SL w [] _ [Sl Ty.bool v1 x0, Sl Ty.bool v7 s6.1, Sl T_provisoref19_ins v8 s6.2.1] := s4k.drop
          refine Av ⟨s4l, ?_⟩
          refine Bk (i := 12) rfl (by kernel_rfl) ?_
          refine Bt F (As (v := .bool xf.2) rfl rfl) rfl rfl rfl fun _ F => ?_
          have s4m : SL w [] _ [Sl Ty.bool v1 x0, Sl Ty.bool v7 s6.1, Sl T_provisoref19_ins v8 s6.2.1] := s4k.drop
          refine Av ⟨s4m, ?_⟩
          refine Bk (i := 15) rfl (by kernel_rfl) ?_
          refine Bt F (Am rfl) rfl rfl rfl fun _ F => ?_
          have s4n : SL w [] _ [Sl Ty.bool v1 x0, Sl Ty.bool v7 s6.1, Sl T_provisoref19_ins v8 s6.2.1] := s4k.drop
          refine Av ⟨s4n, ?_⟩
          refine Cg (by kernel_rfl) ?_
          obtain rfl := Ao H
          refine Ab ?_
          exact ⟨gd, F.sub ⟨rfl, rfl, rfl, rfl, rfl, rfl, rfl, rfl, rfl, rfl, rfl, rfl, rfl, trivial⟩, s4k.f3.f3.f3⟩
         refine Bt F (As (v := .bool xf.2) rfl rfl) rfl rfl rfl fun _ F => ?_
         have s4o : SL w [] _ [Sl Ty.bool v1 x0, Sl Ty.bool v7 s6.1, Sl T_provisoref19_ins v8 s6.2.1] := s4b.drop
         refine Av ⟨s4o, ?_⟩
         refine Bk (i := 11) rfl (by kernel_rfl) ?_
         refine Bt F (As (v := .agg ⟨[.int .u8 (xf.1.op.toNat : Int), .int .i64 xf.1.a, .int .i64 xf.1.b, .int .i64 xf.1.to]⟩) rfl rfl) rfl rfl rfl fun _ F => ?_
         have s4p : SL w [] _ [Sl Ty.bool v1 x0, Sl Ty.bool v7 s6.1, Sl T_provisoref19_ins v8 s6.2.1] := s4b.drop
         refine Av ⟨s4p, ?_⟩
         refine Bk (i := 14) rfl (by kernel_rfl) ?_
         have s4q := s4b
         refine Au F s4q rfl rfl Fx.sz156 (Af rfl (Af rfl (Af rfl (Af rfl Bd)))) (Ah rfl) fun w1b _ F s4r => ?_
         replace s4r : SL w [] w1b [Blk gd 156 [.int .u8 (xf.1.op.toNat : Int), .int .i64 xf.1.a, .int .i64 xf.1.b, .int .i64 xf.1.to], Sl Ty.bool v1 x0, Sl Ty.bool v7 s6.1, Sl T_provisoref19_ins v8 s6.2.1] := s4r
         have s4s : SL w [] _ [Sl Ty.bool v1 x0, Sl Ty.bool v7 s6.1, Sl T_provisoref19_ins v8 s6.2.1] := s4r.drop
         refine Av ⟨s4s, ?_⟩
         refine Bk (i := 15) rfl (by kernel_rfl) ?_
         refine Bt F (Am rfl) rfl rfl rfl fun _ F => ?_
         have s4t : SL w [] _ [Sl Ty.bool v1 x0, Sl Ty.bool v7 s6.1, Sl T_provisoref19_ins v8 s6.2.1] := s4r.drop
         refine Av ⟨s4t, ?_⟩
         refine Cg (by kernel_rfl) ?_
         obtain rfl := Ao H
         refine Ab ?_
         exact ⟨gd, F.sub ⟨rfl, rfl, rfl, rfl, rfl, rfl, rfl, rfl, rfl, rfl, rfl, rfl, rfl, trivial⟩, s4r.f3.f3.f3⟩
        refine Bu F s39 Fx.zero156 rfl rfl fun ge w1c _ F s4u => ?_
        have s4v : SL w [] _ [Sl Ty.bool v1 x0, Sl Ty.bool v7 s6.1, Sl T_provisoref19_ins v8 s6.2.1] := s4u.drop
        refine Av ⟨s4v, ?_⟩
        refine Bk (i := 10) rfl (by kernel_rfl) ?_
        refine Bt F (Ae rfl) rfl rfl rfl fun _ F => ?_
        have s4w : SL w [] _ [Sl Ty.bool v1 x0, Sl Ty.bool v7 s6.1, Sl T_provisoref19_ins v8 s6.2.1] := s4u.drop
        refine Av ⟨s4w, ?_⟩
        refine Cj (rs := [11, 12]) (by kernel_rfl) (by decide) (Bs (Br rfl ?_) (Bs (Br rfl ?_) (Cp)))
        ·refine Bt F (As (v := .agg ⟨[.int .u8 (xf.1.op.toNat : Int), .int .i64 xf.1.a, .int .i64 xf.1.b, .int .i64 xf.1.to]⟩) rfl rfl) rfl rfl rfl fun _ F => ?_
         have s4x : SL w [] _ [Sl Ty.bool v1 x0, Sl Ty.bool v7 s6.1, Sl T_provisoref19_ins v8 s6.2.1] := s4u.drop
         refine Av ⟨s4x, ?_⟩
         refine Cj (rs := [12, 14]) (by kernel_rfl) (by decide) (Bs (Br rfl ?_) (Bs (Br rfl ?_) (Cp)))
         ·refine Bt F (As (v := .bool xf.2) rfl rfl) rfl rfl rfl fun _ F => ?_
          have s4y : SL w [] _ [Sl Ty.bool v1 x0, Sl Ty.bool v7 s6.1, Sl T_provisoref19_ins v8 s6.2.1] := s4u.drop
          refine Av ⟨s4y, ?_⟩
          refine Bk (i := 14) rfl (by kernel_rfl) ?_
          have s4z := s4u
          refine Au F s4z rfl rfl Fx.sz156 (Af rfl (Af rfl (Af rfl (Af rfl Bd)))) (Ah rfl) fun w1d _ F s50 => ?_
          replace s50 : SL w [] w1d [Blk ge 156 [.int .u8 (xf.1.op.toNat : Int), .int .i64 xf.1.a, .int .i64 xf.1.b, .int .i64 xf.1.to], Sl Ty.bool v1 x0, Sl Ty.bool v7 s6.1, Sl T_provisoref19_ins v8 s6.2.1] := s50
          have s51 : SL w [] _ [Sl Ty.bool v1 x0, Sl Ty.bool v7 s6.1, Sl T_provisoref19_ins v8 s6.2.1] := s50.drop
          refine Av ⟨s51, ?_⟩
          refine Bk (i := 15) rfl (by kernel_rfl) ?_
          refine Bt F (Am rfl) rfl rfl rfl fun _ F => ?_
          have s52 : SL w [] _ [Sl Ty.bool v1 x0, Sl Ty.bool v7 s6.1, Sl T_provisoref19_ins v8 s6.2.1] := s50.drop
          refine Av ⟨s52, ?_⟩
          refine Cg (by kernel_rfl) ?_
          obtain rfl := Ao H
          refine Ab ?_
          exact ⟨ge, F.sub ⟨rfl, rfl, rfl, rfl, rfl, rfl, rfl, rfl, rfl, rfl, rfl, rfl, rfl, trivial⟩, s50.f3.f3.f3⟩
         have s53 := s4u
         refine Au F s53 rfl rfl Fx.sz156 (Af rfl (Af rfl (Af rfl (Af rfl Bd)))) (Ah rfl) fun w1e _ F s54 => ?_
         replace s54 : SL w [] w1e [Blk ge 156 [.int .u8 (xf.1.op.toNat : Int), .int .i64 xf.1.a, .int .i64 xf.1.b, .int .i64 xf.1.to], Sl Ty.bool v1 x0, Sl Ty.bool v7 s6.1, Sl T_provisoref19_ins v8 s6.2.1] := s54
         have s56 : SL w [] _ [Sl Ty.bool v1 x0, Sl Ty.bool v7 s6.1, Sl T_provisoref19_ins v8 s6.2.1] := s54.drop
         refine Av ⟨s56, ?_⟩
         refine Bk (i := 12) rfl (by kernel_rfl) ?_
         refine Bt F (As (v := .bool xf.2) rfl rfl) rfl rfl rfl fun _ F => ?_
         have s57 : SL w [] _ [Sl Ty.bool v1 x0, Sl Ty.bool v7 s6.1, Sl T_provisoref19_ins v8 s6.2.1] := s54.drop
         refine Av ⟨s57, ?_⟩
         refine Bk (i := 15) rfl (by kernel_rfl) ?_
         refine Bt F (Am rfl) rfl rfl rfl fun _ F => ?_
         have s58 : SL w [] _ [Sl Ty.bool v1 x0, Sl Ty.bool v7 s6.1, Sl T_provisoref19_ins v8 s6.2.1] := s54.drop
         refine Av ⟨s58, ?_⟩
         refine Cg (by kernel_rfl) ?_
         obtain rfl := Ao H
         refine Ab ?_
         exact ⟨ge, F.sub ⟨rfl, rfl, rfl, rfl, rfl, rfl, rfl, rfl, rfl, rfl, rfl, rfl, rfl, trivial⟩, s54.f3.f3.f3⟩
        refine Bt F (As (v := .bool xf.2) rfl rfl) rfl rfl rfl fun _ F => ?_
        have s59 : SL w [] _ [Sl Ty.bool v1 x0, Sl Ty.bool v7 s6.1, Sl T_provisoref19_ins v8 s6.2.1] := s4u.drop
        refine Av ⟨s59, ?_⟩
        refine Bk (i := 11) rfl (by kernel_rfl) ?_
        refine Bt F (As (v := .agg ⟨[.int .u8 (xf.1.op.toNat : Int), .int .i64 xf.1.a, .int .i64 xf.1.b, .int .i64 xf.1.to]⟩) rfl rfl) rfl rfl rfl fun _ F => ?_
        have s5a : SL w [] _ [Sl Ty.bool v1 x0, Sl Ty.bool v7 s6.1, Sl T_provisoref19_ins v8 s6.2.1] := s4u.drop
        refine Av ⟨s5a, ?_⟩
        refine Bk (i := 14) rfl (by kernel_rfl) ?_
        have s5b := s4u
        refine Au F s5b rfl rfl Fx.sz156 (Af rfl (Af rfl (Af rfl (Af rfl Bd)))) (Ah rfl) fun w1f _ F s5c => ?_
        replace s5c : SL w [] w1f [Blk ge 156 [.int .u8 (xf.1.op.toNat : Int), .int .i64 xf.1.a, .int .i64 xf.1.b, .int .i64 xf.1.to], Sl Ty.bool v1 x0, Sl Ty.bool v7 s6.1, Sl T_provisoref19_ins v8 s6.2.1] := s5c
        have s5d : SL w [] _ [Sl Ty.bool v1 x0, Sl Ty.bool v7 s6.1, Sl T_provisoref19_ins v8 s6.2.1] := s5c.drop
        refine Av ⟨s5d, ?_⟩
        refine Bk (i := 15) rfl (by kernel_rfl) ?_
        refine Bt F (Am rfl) rfl rfl rfl fun _ F => ?_
        have s5e : SL w [] _ [Sl Ty.bool v1 x0, Sl Ty.bool v7 s6.1, Sl T_provisoref19_ins v8 s6.2.1] := s5c.drop
        refine Av ⟨s5e, ?_⟩
        refine Cg (by kernel_rfl) ?_
        obtain rfl := Ao H
        refine Ab ?_
        exact ⟨ge, F.sub ⟨rfl, rfl, rfl, rfl, rfl, rfl, rfl, rfl, rfl, rfl, rfl, rfl, rfl, trivial⟩, s5c.f3.f3.f3⟩
       refine Bu F s37 Fx.zero156 rfl rfl fun gf w1g _ F s5f => ?_
       have s5g : SL w [] _ [Sl Ty.bool v1 x0, Sl Ty.bool v7 s6.1, Sl T_provisoref19_ins v8 s6.2.1] := s5f.drop
       refine Av ⟨s5g, ?_⟩
       refine Bk (i := 9) rfl (by kernel_rfl) ?_
       refine Bi (args := [.tmp 96, .tmp 101]) F Fx.fn105 rfl (provisoref19_two_c (a0 := xd) (a1 := xe)    h1d) rfl fun ve w1h _ h1k F => ?_
       obtain ⟨rfl, h1l⟩ := h1k
       have s5h := s5f.add h1l
       have s5i : SL w [] _ [Sl Ty.bool v1 x0, Sl Ty.bool v7 s6.1, Sl T_provisoref19_ins v8 s6.2.1] := s5h.drop
       refine Av ⟨s5i, ?_⟩
       refine Bk (i := 10) rfl (by kernel_rfl) ?_
       refine Bt F (Ae rfl) rfl rfl rfl fun _ F => ?_
       have s5j : SL w [] _ [Sl Ty.bool v1 x0, Sl Ty.bool v7 s6.1, Sl T_provisoref19_ins v8 s6.2.1] := s5h.drop
       refine Av ⟨s5j, ?_⟩
       refine Cj (rs := [11, 12]) (by kernel_rfl) (by decide) (Bs (Br rfl ?_) (Bs (Br rfl ?_) (Cp)))
       ·refine Bt F (As (v := .agg ⟨[.int .u8 (xf.1.op.toNat : Int), .int .i64 xf.1.a, .int .i64 xf.1.b, .int .i64 xf.1.to]⟩) rfl rfl) rfl rfl rfl fun _ F => ?_
        have s5k : SL w [] _ [Sl Ty.bool v1 x0, Sl Ty.bool v7 s6.1, Sl T_provisoref19_ins v8 s6.2.1] := s5h.drop
        refine Av ⟨s5k, ?_⟩
        refine Cj (rs := [12, 14]) (by kernel_rfl) (by decide) (Bs (Br rfl ?_) (Bs (Br rfl ?_) (Cp)))
        ·refine Bt F (As (v := .bool xf.2) rfl rfl) rfl rfl rfl fun _ F => ?_
         have s5l : SL w [] _ [Sl Ty.bool v1 x0, Sl Ty.bool v7 s6.1, Sl T_provisoref19_ins v8 s6.2.1] := s5h.drop
         refine Av ⟨s5l, ?_⟩
         refine Bk (i := 14) rfl (by kernel_rfl) ?_
         have s5m := s5h
         refine Au F s5m rfl rfl Fx.sz156 (Af rfl (Af rfl (Af rfl (Af rfl Bd)))) (Ah rfl) fun w1i _ F s5n => ?_
         replace s5n : SL w [] w1i [Blk gf 156 [.int .u8 (xf.1.op.toNat : Int), .int .i64 xf.1.a, .int .i64 xf.1.b, .int .i64 xf.1.to], Sl Ty.bool v1 x0, Sl Ty.bool v7 s6.1, Sl T_provisoref19_ins v8 s6.2.1] := s5n
         have s5o : SL w [] _ [Sl Ty.bool v1 x0, Sl Ty.bool v7 s6.1, Sl T_provisoref19_ins v8 s6.2.1] := s5n.drop
         refine Av ⟨s5o, ?_⟩
         refine Bk (i := 15) rfl (by kernel_rfl) ?_
         refine Bt F (Am rfl) rfl rfl rfl fun _ F => ?_
         have s5p : SL w [] _ [Sl Ty.bool v1 x0, Sl Ty.bool v7 s6.1, Sl T_provisoref19_ins v8 s6.2.1] := s5n.drop
         refine Av ⟨s5p, ?_⟩
         refine Cg (by kernel_rfl) ?_
         obtain rfl := Ao H
         refine Ab ?_
         exact ⟨gf, F.sub ⟨rfl, rfl, rfl, rfl, rfl, rfl, rfl, rfl, rfl, rfl, rfl, rfl, rfl, trivial⟩, s5n.f3.f3.f3⟩
        have s5q := s5h
        refine Au F s5q rfl rfl Fx.sz156 (Af rfl (Af rfl (Af rfl (Af rfl Bd)))) (Ah rfl) fun w1j _ F s5r => ?_
        replace s5r : SL w [] w1j [Blk gf 156 [.int .u8 (xf.1.op.toNat : Int), .int .i64 xf.1.a, .int .i64 xf.1.b, .int .i64 xf.1.to], Sl Ty.bool v1 x0, Sl Ty.bool v7 s6.1, Sl T_provisoref19_ins v8 s6.2.1] := s5r
        have s5s : SL w [] _ [Sl Ty.bool v1 x0, Sl Ty.bool v7 s6.1, Sl T_provisoref19_ins v8 s6.2.1] := s5r.drop
        refine Av ⟨s5s, ?_⟩
        refine Bk (i := 12) rfl (by kernel_rfl) ?_
        refine Bt F (As (v := .bool xf.2) rfl rfl) rfl rfl rfl fun _ F => ?_
        have s5t : SL w [] _ [Sl Ty.bool v1 x0, Sl Ty.bool v7 s6.1, Sl T_provisoref19_ins v8 s6.2.1] := s5r.drop
        refine Av ⟨s5t, ?_⟩
        refine Bk (i := 15) rfl (by kernel_rfl) ?_
        refine Bt F (Am rfl) rfl rfl rfl fun _ F => ?_
        have s5u : SL w [] _ [Sl Ty.bool v1 x0, Sl Ty.bool v7 s6.1, Sl T_provisoref19_ins v8 s6.2.1] := s5r.drop
        refine Av ⟨s5u, ?_⟩
        refine Cg (by kernel_rfl) ?_
        obtain rfl := Ao H
        refine Ab ?_
        exact ⟨gf, F.sub ⟨rfl, rfl, rfl, rfl, rfl, rfl, rfl, rfl, rfl, rfl, rfl, rfl, rfl, trivial⟩, s5r.f3.f3.f3⟩
       refine Bt F (As (v := .bool xf.2) rfl rfl) rfl rfl rfl fun _ F => ?_
       have s5v : SL w [] _ [Sl Ty.bool v1 x0, Sl Ty.bool v7 s6.1, Sl T_provisoref19_ins v8 s6.2.1] := s5h.drop
       refine Av ⟨s5v, ?_⟩
       refine Bk (i := 11) rfl (by kernel_rfl) ?_
       refine Bt F (As (v := .agg ⟨[.int .u8 (xf.1.op.toNat : Int), .int .i64 xf.1.a, .int .i64 xf.1.b, .int .i64 xf.1.to]⟩) rfl rfl) rfl rfl rfl fun _ F => ?_
       have s5w : SL w [] _ [Sl Ty.bool v1 x0, Sl Ty.bool v7 s6.1, Sl T_provisoref19_ins v8 s6.2.1] := s5h.drop
       refine Av ⟨s5w, ?_⟩
       refine Bk (i := 14) rfl (by kernel_rfl) ?_
       have s5x := s5h
       refine Au F s5x rfl rfl Fx.sz156 (Af rfl (Af rfl (Af rfl (Af rfl Bd)))) (Ah rfl) fun w1k _ F s5y => ?_
       replace s5y : SL w [] w1k [Blk gf 156 [.int .u8 (xf.1.op.toNat : Int), .int .i64 xf.1.a, .int .i64 xf.1.b, .int .i64 xf.1.to], Sl Ty.bool v1 x0, Sl Ty.bool v7 s6.1, Sl T_provisoref19_ins v8 s6.2.1] := s5y
       have s5z : SL w [] _ [Sl Ty.bool v1 x0, Sl Ty.bool v7 s6.1, Sl T_provisoref19_ins v8 s6.2.1] := s5y.drop
       refine Av ⟨s5z, ?_⟩
       refine Bk (i := 15) rfl (by kernel_rfl) ?_
       refine Bt F (Am rfl) rfl rfl rfl fun _ F => ?_
       have s60 : SL w [] _ [Sl Ty.bool v1 x0, Sl Ty.bool v7 s6.1, Sl T_provisoref19_ins v8 s6.2.1] := s5y.drop
       refine Av ⟨s60, ?_⟩
       refine Cg (by kernel_rfl) ?_
       obtain rfl := Ao H
       refine Ab ?_
       exact ⟨gf, F.sub ⟨rfl, rfl, rfl, rfl, rfl, rfl, rfl, rfl, rfl, rfl, rfl, rfl, rfl, trivial⟩, s5y.f3.f3.f3⟩
      intro _ w1l hJ
      obtain ⟨g8, F, s61⟩ := hJ
      have H := R4
      clear R4 H4
      refine Ab <| Ai <| Al <| Ak F (Aa (Ae rfl) <| Ad) fun _ F => Aj <| Ab <| Bm F rfl (fun h1m => ?_) (fun h1m => ?_)
      ·replace H := Bb h1m H
       refine Ai <| Al ?_
       obtain ⟨xg, h1n, H⟩ := Aq H
       obtain ⟨ae, h1o, h1p⟩ := Cf F_provisoref19_ins s61 (.tail _ <| .tail _ <| .head _) Fx.sl126 rfl h1n
       refine Ak F (Aa (Ae rfl) <| Aa (Ae rfl) <| Aa (Bn Fx.agg156 rfl (s61.blk_cells (.tail _ <| .tail _ <| .tail _ <| .head _) (o := 0) (ds := [.int .u8 (o5.1.toNat : Int), .int .i64 o5.2.1, .int .i64 o5.2.2.1, .int .i64 o5.2.2.2.1]) (fun j u hu => by rw [Nat.zero_add]; exact hu)) rfl) <| Aa (h1o _ _ _ _ _ _ _ _ _ _ rfl rfl) <| Ad) fun _ F => ?_
       refine Cr (y' := (⟨o5.1, o5.2.1, o5.2.2.1, o5.2.2.2.1⟩ : S_provisoref19_ins)) F_provisoref19_ins F s61.f2 h1p h1n rfl rfl (by rfl) Fx.sz156 fun w1m _ F s62 => ?_
       refine Aj <| Ab <| Ai <| Al ?_
       obtain ⟨xh, h1q, H⟩ := Aq H
       obtain ⟨af, h1r, h1s⟩ := Cf Flat.bool s62 (.tail _ <| .tail _ <| .head _) Fx.sl93 rfl h1q
       refine Ak F (Aa (Ae rfl) <| Aa (Ae rfl) <| Aa (Ae rfl) <| Aa (Ae rfl) <| Aa (Bp rfl rfl) <| Aa (Az Fx.fa156_0 rfl rfl) <| Aa (Ba Fx.nag5 rfl (s62.blk_cell (.tail _ <| .tail _ <| .tail _ <| .head _) rfl)) <| Aa (Bw rfl rfl) <| Aa (h1r _ _ _ _ _ _ _ _ _ _ rfl rfl) <| Ad) fun _ F => ?_
       refine Cr (y' := ((o5.1.toNat : Int) == 0)) Flat.bool F s62.f2 h1s h1q rfl rfl (by rfl) Fx.sz4 fun w1n _ F s63 => ?_
       obtain ⟨xi, h1t, H⟩ := Aq H
       obtain ⟨ag, h1u, h1v⟩ := Cf Flat.bool s63 (.head _) Fx.sl93 rfl h1t
       refine Ak F (Aa (h1u _ _ _ _ _ _ _ _ _ _ rfl rfl) <| Ad) fun _ F => ?_
       refine Cr (y' := true) Flat.bool F s63 h1v h1t rfl rfl (by rfl) Fx.sz4 fun w1o _ F s64 => ?_
       refine Aj <| Ab <| Al <| Ak F (Aa (Ae rfl) <| Aa (Bp rfl rfl) <| Aa (Am rfl) <| Ad) fun _ F => Aj <| By ?_
       obtain rfl := Ao H
       refine Ab ?_
       exact ⟨v7, v8, F.sub ⟨rfl, rfl, rfl, rfl, rfl, trivial⟩, s64.f3.drop.f1.f1.f2⟩
      replace H := Bc h1m H
      refine Aw <| By ?_
      obtain rfl := Ao H
      refine Ab ?_
      exact ⟨v7, v8, F.sub ⟨rfl, rfl, rfl, rfl, rfl, trivial⟩, s61.f3.drop⟩
     replace H := Bc h1a H
     refine Aw <| By ?_
     obtain rfl := Ao H
     refine Ab ?_
     exact ⟨v7, v8, F.sub ⟨rfl, rfl, rfl, rfl, rfl, trivial⟩, s36⟩
    replace H := Bc h16 H
    refine Ap F rfl rfl (An rfl h16) Ac rfl rfl fun _ F => Ap F rfl rfl (An rfl h16) Ac rfl rfl fun _ F => Ap F rfl rfl (An rfl h16) Ac rfl rfl fun _ F => Ap F rfl rfl (An rfl h16) Ac rfl rfl fun _ F => Ap F rfl rfl (An rfl h16) Ac rfl rfl fun _ F => Ap F rfl rfl (An rfl h16) Ac rfl rfl fun _ F => Ak F (Aa (Bj (Cb rfl h16) rfl) <| Ad) fun _ F => Aj <| Ab <| Cl F rfl <| Aw <| By ?_
    obtain rfl := Ao H
    refine Ab ?_
    exact ⟨v7, v8, F.sub ⟨rfl, rfl, rfl, rfl, rfl, trivial⟩, s36⟩
   intro _ w1p hJ
   obtain ⟨v9, va, F, s65⟩ := hJ
   have H := R1
   clear R1 H1
   refine Ab <| Al <| Ak F (Aa (Ae rfl) <| Aa (Bp rfl rfl) <| Aa (Am rfl) <| Ad) fun _ F => Aj ?_
   obtain rfl := Ao H
   refine Ab ?_
   exact ⟨_, rfl, v9, va, F.sub ⟨rfl, rfl, rfl, rfl, rfl, trivial⟩, s65⟩
  replace H := Bc h6 H
  refine Bz <| Bo <| Bo <| Ca ?_
  obtain rfl := Ao H
  obtain rfl := hr _ rfl
  refine Ab ?_
  exact ⟨v7, v8, F.sub ⟨rfl, rfl, trivial⟩, s7.drop⟩
 intro _ w1q hJ
 obtain ⟨v5, v6, F, s66⟩ := hJ
 have H := R0
 clear R0 H0
 refine Ab <| Ai <| Al ?_
 obtain ⟨xj, h1w, H⟩ := Aq H
 refine Ak F (Aa (Ae rfl) <| Aa (Ae rfl) <| Ad) fun _ F => Bi (args := [.tmp 122, .tmp 123]) F Fx.fn103 rfl (provisoref19_left_c (a0 := o0.2) (a1 := o0.1)   (s66.rd0 (.tail _ <| .head _)) (s66.rd0 (.head _)) h1w) rfl fun vf w1r _ h1x F => ?_
 obtain ⟨_, rfl, h1y⟩ := h1x
 have s67 := s66.add h1y
 refine Ak F (Aa (Am rfl) <| Ad) fun _ F => Aj <| Ab ?_
 obtain rfl := Ao H
 refine Bf ?_
 refine Ax (rs := [.tmp 2]) (vs := [vf]) F (by rfl) ⟨_, _, rfl, Ay rfl, rfl⟩ ⟨_, rfl, ⟨vf, rfl, s67.f1.drop.f1.drop⟩⟩
-- proviso/provisoref19.idle
theorem provisoref19_idle_c {w : World} {v0 : Value} {a0 : List S_provisoref19_ins} {r : (List S_provisoref19_ins)} (hr0 : Rd T_provisoref19_ins w [] v0 a0) (H : provisoref19_idle a0 = some r) :
    Calls Try.prog 76 #[v0] w (Ret fun u_ w_ => ∃ u0 : Value, u_ = u0 ∧ SL w [] w_ [Sl T_provisoref19_ins u0 r]) := by
 have s0 : SL w [] w [] := SL.init0 w
 refine Bq Try.func76 rfl Try.ntmps76 (Ah rfl) (args := [v0]) fun q0 F0 => ?_
 unfold provisoref19_idle at H
 refine Ai <| Al <| Ak F0 (Aa (Am rfl) <| Ad) fun q3 F4 => Aj <| Ab <| Ai <| Al ?_
 obtain ⟨x0, h0, H⟩ := Aq H
 refine Ak F4 (Aa (Ae rfl) <| Aa (Cd rfl Try.underlying126 (Cc (Cu hr0 s0))) <| Ad) fun _ F => st_make Flat.bool false F s0 Fx.sl93 rfl rfl Fx.zero4 rfl rfl rfl h0 rfl fun v1 w0 _ F s1 => Ak F (Aa (Am rfl) <| Ad) fun _ F => Aj <| Ab <| Ai <| Al ?_
 refine Cm (parts := []) F_provisoref19_ins ([] : List S_provisoref19_ins) F s1 Fx.sl126 rfl (by decide) rfl rfl rfl (by simp [Value.cells]) rfl rfl rfl fun v2 w1 _ F s2 => ?_
 obtain ⟨x1, h1, H⟩ := Aq H
 refine Ak F (Aa (Ae rfl) <| Ad) fun _ F => ?_
 have s3 := s2
 obtain ⟨_, hr_⟩ := (Cu hr0 s3)
 refine Ch F_provisoref19_ins F s3 Fx.sl126 rfl rfl rfl rfl hr_ rfl rfl h1 rfl fun v3 w2 _ F s4 => Ak F (Aa (Am rfl) <| Ad) fun _ F => Aj <| Ab <| Ai <| Ai <| Al <| Ak F (Aa (Ae rfl) <| Aa (Cd rfl Try.underlying126 (Cc (Cu hr0 s4))) <| Aa (Ae rfl) <| Ad) fun _ F => Aj <| Ab ?_
 obtain ⟨o0, H0, R0⟩ := Aq H
 clear H
 refine Bx (fun a w_ => ∃ v4 v5 : Value, Fr a 56 [(3, v4), (4, v5)] ∧ SL w [] w_ [Sl Ty.bool v4 o0.1, Sl T_provisoref19_ins v5 o0.2]) ?_ ?_
 ·have H := H0
  refine Be <| Cq (provisoref19_idle_b0 a0) (fun s5 a w_ => ∃ v6 v7 : Value, Fr a 56 [(3, v6), (4, v7), (13, v0), (14, .int .i64 (a0.length : Int)), (15, .int .i64 s5.2.2)] ∧ SL w [] w_ [Sl Ty.bool v6 s5.1, Sl T_provisoref19_ins v7 s5.2.1]) H ?_ ?_
  ·exact ⟨v1, v3, F.sub ⟨rfl, rfl, rfl, rfl, rfl, trivial⟩, s4.f1⟩
  intro s5 _ w3 h2 o1 H hr
  obtain ⟨v6, v7, F, s6⟩ := h2
  replace H : provisoref19_idle_b0 a0 s5 = some o1 := H
  unfold provisoref19_idle_b0 at H
  refine Ai <| Al <| Ak F (Aa (Cn rfl rfl) <| Ad) fun _ F => Aj <| Ab <| Ai <| Bm F rfl (fun h3 => ?_) (fun h3 => ?_)
  ·replace H := Bb h3 H
   refine Aw <| Ab <| Ai <| Be <| Ai <| Al ?_
   obtain ⟨x2, h4, H⟩ := Aq H
   obtain ⟨a2, h5, h6⟩ := Dc F_provisoref19_ins (Cu hr0 s6) Fx.sl126 rfl h4
   refine Ak F (Aa (Ae rfl) <| Aa (h5 _ _ _ _ _ _ _ _ _ _ rfl rfl) <| Aa (Bn Fx.agg156 rfl h6 rfl) <| Ad) fun _ F => Bu F s6 Fx.zero156 rfl rfl fun g0 w4 _ F s7 => Ak F (Aa (Am rfl) <| Ad) fun _ F => ?_
   have s8 := s7
   refine Au F s8 rfl rfl Fx.sz156 (Af rfl (Af rfl (Af rfl (Af rfl Bd)))) (Ah rfl) fun w5 _ F s9 => ?_
   replace s9 : SL w [] w5 [Blk g0 156 [.int .u8 (x2.op.toNat : Int), .int .i64 x2.a, .int .i64 x2.b, .int .i64 x2.to], Sl Ty.bool v6 s5.1, Sl T_provisoref19_ins v7 s5.2.1] := s9
   refine Aj <| Ab <| Be <| Ai ?_
   obtain ⟨o2, H1, R1⟩ := Aq H
   clear H
   refine Bx (fun a w_ => Fr a 56 [(3, v6), (4, v7), (5, .int .i64 s5.2.2), (6, .pointer (some ⟨g0, 0, none⟩)), (13, v0), (14, .int .i64 (a0.length : Int)), (15, .int .i64 s5.2.2), (20, .bool o2)] ∧ SL w [] w_ [Blk g0 156 [.int .u8 (x2.op.toNat : Int), .int .i64 x2.a, .int .i64 x2.b, .int .i64 x2.to], Sl Ty.bool v6 s5.1, Sl T_provisoref19_ins v7 s5.2.1]) ?_ ?_
   ·have H := H1
    refine Ai <| Al <| Ak F (Aa (Az Fx.fa156_0 rfl rfl) <| Aa (Ba Fx.nag5 rfl (s9.blk_cell (.head _) rfl)) <| Aa (Bw rfl rfl) <| Aa (Am rfl) <| Ad) fun _ F => Aj <| Ab <| Bm F rfl (fun h7 => ?_) (fun h7 => ?_)
    ·replace H := Bb h7 H
     refine Aw ?_
     obtain rfl := Ao H
     refine Ab ?_
     exact ⟨F.sub ⟨rfl, rfl, rfl, rfl, rfl, rfl, rfl, rfl, trivial⟩, s9⟩
    replace H := Bc h7 H
    refine Al <| Ak F (Aa (Az Fx.fa156_0 rfl rfl) <| Aa (Ba Fx.nag5 rfl (s9.blk_cell (.head _) rfl)) <| Aa (Bw rfl rfl) <| Aa (Ae rfl) <| Ad) fun _ F => Bl ((x2.op.toNat : Int) == 19) (fun h8 => ?_) (fun h8 => ?_)
    ·replace H := Bb h8 H
     refine Ar F rfl rfl (An rfl h8) (Az Fx.fa156_3 rfl rfl) rfl rfl fun _ F => Ar F rfl rfl (An rfl h8) (Ba Fx.nag3 rfl (s9.blk_cell (.head _) rfl)) rfl rfl fun _ F => Ar F rfl rfl (An rfl h8) (Ae rfl) rfl rfl fun _ F => Ar F rfl rfl (An rfl h8) (Bp rfl rfl) rfl rfl fun _ F => Ar F rfl rfl (An rfl h8) (Bw rfl rfl) rfl rfl fun _ F => Ak F (Aa (Bh (Cb rfl h8) rfl) <| Aa (Am rfl) <| Ad) fun _ F => Aj ?_
     obtain rfl := Ao H
     refine Ab ?_
     exact ⟨F.sub ⟨rfl, rfl, rfl, rfl, rfl, rfl, rfl, rfl, trivial⟩, s9⟩
    replace H := Bc h8 H
    refine Ap F rfl rfl (An rfl h8) Ac rfl rfl fun _ F => Ap F rfl rfl (An rfl h8) Ac rfl rfl fun _ F => Ap F rfl rfl (An rfl h8) Ac rfl rfl fun _ F => Ap F rfl rfl (An rfl h8) Ac rfl rfl fun _ F => Ap F rfl rfl (An rfl h8) Ac rfl rfl fun _ F => Ak F (Aa (Bj (Cb rfl h8) rfl) <| Aa (Am rfl) <| Ad) fun _ F => Aj ?_
    obtain rfl := Ao H
    refine Ab ?_
    exact ⟨F.sub ⟨rfl, rfl, rfl, rfl, rfl, rfl, rfl, rfl, trivial⟩, s9⟩
   intro _ w6 hJ
   obtain ⟨F, sa⟩ := hJ
   have H := R1
   clear R1 H1
   refine Ab <| Bm F rfl (fun h9 => ?_) (fun h9 => ?_)
   ·replace H := Bb h9 H
    refine Al ?_
    obtain ⟨x3, ha, H⟩ := Aq H
    obtain ⟨a3, hb, hc⟩ := Cf Flat.bool sa (.tail _ <| .head _) Fx.sl93 rfl ha
    refine Ak F (Aa (Ae rfl) <| Aa (Ae rfl) <| Aa (hb _ _ _ _ _ _ _ _ _ _ rfl rfl) <| Ad) fun _ F => ?_
    refine Cr (y' := true) Flat.bool F sa.f1 hc ha rfl rfl (by rfl) Fx.sz4 fun w7 _ F sb => ?_
    refine Aj <| By <| By <| Ab <| Al <| Ak F (Aa (Bp rfl rfl) <| Aa (Ae rfl) <| Ad) fun _ F => Aj ?_
    obtain rfl := Ao H
    refine Ab ?_
    exact ⟨_, rfl, v6, v7, F.sub ⟨rfl, rfl, rfl, rfl, rfl, trivial⟩, sb.f1.drop⟩
   replace H := Bc h9 H
   refine Ai <| Al <| Ak F (Aa (Az Fx.fa156_0 rfl rfl) <| Aa (Ba Fx.nag5 rfl (sa.blk_cell (.head _) rfl)) <| Aa (Bw rfl rfl) <| Aa (Ae rfl) <| Ad) fun _ F => Bl ((x2.op.toNat : Int) == 20) (fun hd => ?_) (fun hd => ?_)
   ·replace H := Bb hd H
    refine Ar F rfl rfl (An rfl hd) (Az Fx.fa156_3 rfl rfl) rfl rfl fun _ F => Ar F rfl rfl (An rfl hd) (Ba Fx.nag3 rfl (sa.blk_cell (.head _) rfl)) rfl rfl fun _ F => Ar F rfl rfl (An rfl hd) (Ae rfl) rfl rfl fun _ F => Ar F rfl rfl (An rfl hd) (Bp rfl rfl) rfl rfl fun _ F => Ar F rfl rfl (An rfl hd) (Bw rfl rfl) rfl rfl fun _ F => Ak F (Aa (Bh (Cb rfl hd) rfl) <| Aa (Am rfl) <| Ad) fun _ F => Aj <| Ab <| Bm F rfl (fun he => ?_) (fun he => ?_)
    ·replace H := Bb he H
     refine Al ?_
     obtain ⟨x4, hf, H⟩ := Aq H
     obtain ⟨a4, hg, hh⟩ := Cf F_provisoref19_ins sa (.tail _ <| .tail _ <| .head _) Fx.sl126 rfl hf
     refine Ak F (Aa (Ae rfl) <| Aa (Ae rfl) <| Aa (Co (vs := [.int .u8 6, .int .i64 (-1)]) Fx.zero156 Fx.pl156 rfl (cs := [.int .u8 6, .int .i64 0, .int .i64 0, .int .i64 (-1)]) (rfl)) <| Aa (hg _ _ _ _ _ _ _ _ _ _ rfl rfl) <| Ad) fun _ F => ?_
     refine Cr (y' := (⟨6, 0, 0, (-1)⟩ : S_provisoref19_ins)) F_provisoref19_ins F sa.f2 hh hf rfl rfl (by rfl) Fx.sz156 fun w8 _ F sc => ?_
     refine Aj <| By <| By <| Ab <| Al <| Ak F (Aa (Bp rfl rfl) <| Aa (Ae rfl) <| Ad) fun _ F => Aj ?_
     obtain rfl := Ao H
     refine Ab ?_
     exact ⟨_, rfl, v6, v7, F.sub ⟨rfl, rfl, rfl, rfl, rfl, trivial⟩, sc.f1.drop.f1⟩
    replace H := Bc he H
    refine Aw <| By <| By <| Ab <| Al <| Ak F (Aa (Bp rfl rfl) <| Aa (Ae rfl) <| Ad) fun _ F => Aj ?_
    obtain rfl := Ao H
    refine Ab ?_
    exact ⟨_, rfl, v6, v7, F.sub ⟨rfl, rfl, rfl, rfl, rfl, trivial⟩, sa.drop⟩
   replace H := Bc hd H
   refine Ap F rfl rfl (An rfl hd) Ac rfl rfl fun _ F => Ap F rfl rfl (An rfl hd) Ac rfl rfl fun _ F => Ap F rfl rfl (An rfl hd) Ac rfl rfl fun _ F => Ap F rfl rfl (An rfl hd) Ac rfl rfl fun _ F => Ap F rfl rfl (An rfl hd) Ac rfl rfl fun _ F => Ak F (Aa (Bj (Cb rfl hd) rfl) <| Aa (Am rfl) <| Ad) fun _ F => Aj <| Ab <| Cl F rfl <| Aw <| By <| By <| Ab <| Al <| Ak F (Aa (Bp rfl rfl) <| Aa (Ae rfl) <| Ad) fun _ F => Aj ?_
   obtain rfl := Ao H
   refine Ab ?_
   exact ⟨_, rfl, v6, v7, F.sub ⟨rfl, rfl, rfl, rfl, rfl, trivial⟩, sa.drop⟩
  replace H := Bc h3 H
  refine Bz <| Bo <| Bo <| Ca ?_
  obtain rfl := Ao H
  obtain rfl := hr _ rfl
  refine Ab ?_
  exact ⟨v6, v7, F.sub ⟨rfl, rfl, trivial⟩, s6⟩
 intro _ w9 hJ
 obtain ⟨v4, v5, F, sd⟩ := hJ
 have H := R0
 clear R0 H0
 refine Ab <| Ai <| Al ?_
 obtain ⟨x5, hi, H⟩ := Aq H
 refine Ak F (Aa (Ae rfl) <| Aa (Ae rfl) <| Ad) fun _ F => Bi (args := [.tmp 53, .tmp 54]) F Fx.fn103 rfl (provisoref19_left_c (a0 := o0.2) (a1 := o0.1)   (sd.rd0 (.tail _ <| .head _)) (sd.rd0 (.head _)) hi) rfl fun v8 wa _ hj F => ?_
 obtain ⟨_, rfl, hk⟩ := hj
 have se := sd.add hk
 refine Ak F (Aa (Am rfl) <| Ad) fun _ F => Aj <| Ab ?_
 obtain rfl := Ao H
 refine Bf ?_
 refine Ax (rs := [.tmp 2]) (vs := [v8]) F (by rfl) ⟨_, _, rfl, Ay rfl, rfl⟩ ⟨_, rfl, ⟨v8, rfl, se.f1.drop.f1.drop⟩⟩
-- proviso/provisoref19.dead
theorem provisoref19_dead_c {w : World} {v0 : Value} {a0 : List S_provisoref19_ins} {r : (List S_provisoref19_ins)} (hr0 : Rd T_provisoref19_ins w [] v0 a0) (H : provisoref19_dead a0 = some r) :
    Calls Try.prog 77 #[v0] w (Ret fun u_ w_ => ∃ u0 : Value, u_ = u0 ∧ SL w [] w_ [Sl T_provisoref19_ins u0 r]) := by
 have s0 : SL w [] w [] := SL.init0 w
 refine Bq Try.func77 rfl Try.ntmps77 (Ah rfl) (args := [v0]) fun q0 F0 => ?_
 unfold provisoref19_dead at H
 refine Ai <| Al <| Ak F0 (Aa (Am rfl) <| Ad) fun q3 F4 => Aj <| Ab <| Ai <| Al ?_
 obtain ⟨x0, h0, H⟩ := Aq H
 refine Ak F4 (Aa (Ae rfl) <| Aa (Cd rfl Try.underlying126 (Cc (Cu hr0 s0))) <| Ad) fun _ F => st_make Flat.bool false F s0 Fx.sl93 rfl rfl Fx.zero4 rfl rfl rfl h0 rfl fun v1 w0 _ F s1 => Ak F (Aa (Am rfl) <| Ad) fun _ F => Aj <| Ab <| Ai <| Ai <| Al <| Ak F (Aa (Ae rfl) <| Aa (Cd rfl Try.underlying93 (Cc (s1.own_rd (.head _)))) <| Aa (Ae rfl) <| Ad) fun _ F => Aj <| Ab ?_
 obtain ⟨o0, H0, R0⟩ := Aq H
 clear H
 refine Bx (fun a w_ => ∃ v2 : Value, Fr a 65 [(0, v0), (3, v2)] ∧ SL w [] w_ [Sl Ty.bool v2 o0]) ?_ ?_
 ·have H := H0
  refine Be <| Cq (provisoref19_dead_b0 x0) (fun s2 a w_ => ∃ v3 : Value, Fr a 65 [(0, v0), (3, v3), (11, .int .i64 (x0.length : Int)), (12, .int .i64 s2.2)] ∧ SL w [] w_ [Sl Ty.bool v3 s2.1]) H ?_ ?_
  ·exact ⟨v1, F.sub ⟨rfl, rfl, rfl, rfl, trivial⟩, s1⟩
  intro s2 _ w1 h1 o1 H hr
  obtain ⟨v3, F, s3⟩ := h1
  replace H : provisoref19_dead_b0 x0 s2 = some o1 := H
  unfold provisoref19_dead_b0 at H
  refine Ai <| Al <| Ak F (Aa (Cn rfl rfl) <| Ad) fun _ F => Aj <| Ab <| Ai <| Bm F rfl (fun h2 => ?_) (fun h2 => ?_)
  ·replace H := Bb h2 H
   refine Aw <| Ab <| Ai <| Be <| Ai <| Al <| Ak F (Aa (Ae rfl) <| Aa (Am rfl) <| Ad) fun _ F => Aj <| Ab <| Al ?_
   obtain ⟨x1, h3, H⟩ := Aq H
   obtain ⟨a2, h4, h5⟩ := Cf Flat.bool s3 (.head _) Fx.sl93 rfl h3
   refine Ak F (Aa (Ae rfl) <| Aa (Ae rfl) <| Aa (h4 _ _ _ _ _ _ _ _ _ _ rfl rfl) <| Ad) fun _ F => ?_
   refine Cr (y' := true) Flat.bool F s3 h5 h3 rfl rfl (by rfl) Fx.sz4 fun w2 _ F s4 => ?_
   refine Aj <| By <| Ab <| Al <| Ak F (Aa (Bp rfl rfl) <| Aa (Ae rfl) <| Ad) fun _ F => Aj ?_
   obtain rfl := Ao H
   refine Ab ?_
   exact ⟨_, rfl, v3, F.sub ⟨rfl, rfl, rfl, rfl, trivial⟩, s4⟩
  replace H := Bc h2 H
  refine Bz <| Bo <| Bo <| Ca ?_
  obtain rfl := Ao H
  obtain rfl := hr _ rfl
  refine Ab ?_
  exact ⟨v3, F.sub ⟨rfl, rfl, trivial⟩, s3⟩
 intro _ w3 hJ
 obtain ⟨v2, F, s5⟩ := hJ
 have H := R0
 clear R0 H0
 refine Ab <| Ai <| Al ?_
 refine Cm (parts := [(0, .const (.int .i64 0))]) (Flat.int .i64) ([0] : List Int) F s5 Fx.sl57 rfl (by decide) rfl rfl rfl (by simp [Value.cells]) rfl rfl rfl fun v4 w4 _ F s6 => ?_
 refine Ak F (Aa (Am rfl) <| Ad) fun _ F => Aj <| Ab <| Ai ?_
 obtain ⟨o2, H1, R1⟩ := Aq H
 clear H
 refine Bx (fun a w_ => ∃ v5 : Value, Fr a 65 [(0, v0), (3, v5)] ∧ SL w [] w_ [Sl Ty.bool v5 o2]) ?_ ?_
 ·have H := H1
  refine Be <| Cq (provisoref19_dead_b1 a0) (fun s7 a w_ => ∃ v6 v7 : Value, Fr a 65 [(0, v0), (3, v6), (5, v7)] ∧ SL w [] w_ [Sl Ty.bool v6 s7.1, Sl (Ty.int .i64) v7 s7.2]) H ?_ ?_
  ·exact ⟨v2, v4, F.sub ⟨rfl, rfl, rfl, trivial⟩, s6.f1⟩
  intro s7 _ w5 h6 o3 H hr
  obtain ⟨v6, v7, F, s8⟩ := h6
  replace H : provisoref19_dead_b1 a0 s7 = some o3 := H
  unfold provisoref19_dead_b1 at H
  refine Ai <| Ai <| Al <| Ak F (Aa (Ae rfl) <| Aa (Cd rfl Try.underlying57 (Cc (s8.own_rd (.tail _ <| .head _)))) <| Aa (ex_gt rfl rfl) <| Ad) fun _ F => Aj <| Ab <| Bm F rfl (fun h7 => ?_) (fun h7 => ?_)
  ·replace H := Bb h7 H
   refine Aw <| Ab <| Be <| Ai <| Al ?_
   obtain ⟨x2, h8, H⟩ := Aq H
   obtain ⟨a3, h9, ha⟩ := Cf (Flat.int .i64) s8 (.tail _ <| .head _) Fx.sl57 rfl h8
   refine Ak F (Aa (Ae rfl) <| Aa (h9 _ _ _ _ _ _ _ _ _ _ rfl rfl) <| Aa (Ba Fx.nag3 rfl (Cells.at_ (SL.elcells (Flat.int .i64) s8 (.tail _ <| .head _) ha h8) (o := 0) rfl)) <| Aa (Am rfl) <| Ad) fun _ F => Aj <| Ab <| Ai <| Al ?_
   obtain ⟨x3, hb, H⟩ := Aq H
   refine Ak F (Aa (Ae rfl) <| Ad) fun _ F => ?_
   obtain ⟨v8, hc, s9⟩ := SL.cutown s8.f1 Fx.sl57 rfl hb (some 1) none (.inl rfl) (.inr ⟨rfl, rfl⟩)
   refine Bt F (hc _ _ _ _ _ .i64 .i64 _ _ _ _ _ rfl rfl trivial) rfl rfl rfl fun _ F => Ak F (Aa (Am rfl) <| Ad) fun _ F => Aj <| Ab <| Ai <| Ai <| Al ?_
   obtain ⟨x4, hd, H⟩ := Aq H
   obtain ⟨a4, he, hf⟩ := Cf Flat.bool s9 (.tail _ <| .head _) Fx.sl93 rfl hd
   refine Ak F (Aa (Ae rfl) <| Aa (Ae rfl) <| Aa (he _ _ _ _ _ _ _ _ _ _ rfl rfl) <| Aa (Ba Fx.nag4 rfl (Cells.at_ (SL.elcells Flat.bool s9 (.tail _ <| .head _) hf hd) (o := 0) rfl)) <| Aa (Cx rfl) <| Ad) fun _ F => Aj <| Ab <| Bm F rfl (fun hg => ?_) (fun hg => ?_)
   ·replace H := Bb hg H
    refine Bz <| Bo <| Ca ?_
    obtain rfl := Ao H
    refine Ab ?_
    exact ⟨_, rfl, v6, v8, F.sub ⟨rfl, rfl, rfl, trivial⟩, s9.f1⟩
   replace H := Bc hg H
   refine Aw <| Ab <| Ai <| Al ?_
   obtain ⟨x5, hh, H⟩ := Aq H
   obtain ⟨a5, hi, hj⟩ := Cf Flat.bool s9 (.tail _ <| .head _) Fx.sl93 rfl hh
   refine Ak F (Aa (Ae rfl) <| Aa (Ae rfl) <| Aa (hi _ _ _ _ _ _ _ _ _ _ rfl rfl) <| Ad) fun _ F => ?_
   refine Cr (y' := false) Flat.bool F s9.f1 hj hh rfl rfl (by rfl) Fx.sz4 fun w6 _ F sa => ?_
   refine Aj <| Ab <| Ai <| Ai <| Al ?_
   obtain ⟨x6, hk, H⟩ := Aq H
   obtain ⟨a6, hl, hm⟩ := Dc F_provisoref19_ins (Cu hr0 sa) Fx.sl126 rfl hk
   refine Ak F (Aa (Ae rfl) <| Aa (Ae rfl) <| Aa (hl _ _ _ _ _ _ _ _ _ _ rfl rfl) <| Aa (Cw Fx.fa156_3 rfl) <| Aa (Ba Fx.nag3 rfl (Cells.at_ hm (o := 3) rfl)) <| Aa (ex_ge rfl rfl) <| Ad) fun _ F => Aj <| Ab <| Bm F rfl (fun hn => ?_) (fun hn => ?_)
   ·replace H := Bb hn H
    refine Al ?_
    obtain ⟨x7, ho, H⟩ := Aq H
    obtain ⟨a7, hp, hq⟩ := Dc F_provisoref19_ins (Cu hr0 sa) Fx.sl126 rfl ho
    refine Ak F (Aa (Ae rfl) <| Aa (Ae rfl) <| Aa (Ae rfl) <| Aa (hp _ _ _ _ _ _ _ _ _ _ rfl rfl) <| Aa (Cw Fx.fa156_3 rfl) <| Aa (Ba Fx.nag3 rfl (Cells.at_ hq (o := 3) rfl)) <| Ad) fun _ F => ?_
    refine Cm (parts := [(0, .tmp 47)]) (Flat.int .i64) ([x7.to] : List Int) F sa Fx.sl57 rfl (by decide) rfl rfl rfl (by simp [Value.cells]) rfl rfl rfl fun v9 w7 _ F sb => ?_
    obtain ⟨x8, hs, H⟩ := Aq H
    have sc := sb.f2
    obtain ⟨_, hr_⟩ := (sc.own_rd (.tail _ <| .head _))
    refine Ch (Flat.int .i64) F sc Fx.sl57 rfl rfl rfl rfl hr_ rfl rfl hs rfl fun va w8 _ F sd => ?_
    have s4471' := sd.f1.drop
    refine Ak F (Aa (Am rfl) <| Ad) fun _ F => Aj <| Ab <| Ai <| Al ?_
    obtain ⟨x9, ht, H⟩ := Aq H
    obtain ⟨a8, hu, hv⟩ := Dc F_provisoref19_ins (Cu hr0 s4471') Fx.sl126 rfl ht
    obtain ⟨xa, hw, H⟩ := Aq H
    refine Ak F (Aa (Ae rfl) <| Aa (Ae rfl) <| Aa (hu _ _ _ _ _ _ _ _ _ _ rfl rfl) <| Aa (Cw Fx.fa156_0 rfl) <| Aa (Ba Fx.nag5 rfl (Cells.at_ hv (o := 0) rfl)) <| Ad) fun _ F => Bi (args := [.tmp 54]) F Fx.fn49 rfl (provisoref04_Ends_c (a0 := x9.op)    hw) rfl fun vb w9 _ hx F => ?_
    obtain ⟨rfl, hy⟩ := hx
    have se := s4471'.add hy
    refine Ak F (Aa (Cx rfl) <| Ad) fun _ F => Aj <| Ab <| Bm F rfl (fun hz => ?_) (fun hz => ?_)
    ·replace H := Bb hz H
     refine Al <| Ak F (Aa (Ae rfl) <| Aa (Ae rfl) <| Aa (Bp rfl rfl) <| Ad) fun _ F => ?_
     refine Cm (parts := [(0, .tmp 59)]) (Flat.int .i64) ([wr (x2 + 1)] : List Int) F se Fx.sl57 rfl (by decide) rfl rfl rfl (by simp [Value.cells]) rfl rfl rfl fun vc wa _ F sf => ?_
     obtain ⟨xb, h10, H⟩ := Aq H
     have sg := sf.f1
     obtain ⟨_, hr_⟩ := (sg.own_rd (.tail _ <| .head _))
     refine Ch (Flat.int .i64) F sg Fx.sl57 rfl rfl rfl rfl hr_ rfl rfl h10 rfl fun vd wb _ F sh => ?_
     have s4526' := sh.f1.drop
     refine Ak F (Aa (Am rfl) <| Ad) fun _ F => Aj <| By ?_
     obtain rfl := Ao H
     refine Ab ?_
     exact ⟨_, rfl, v6, vd, F.sub ⟨rfl, rfl, rfl, trivial⟩, s4526'.f1⟩
    replace H := Bc hz H
    refine Aw <| By ?_
    obtain rfl := Ao H
    refine Ab ?_
    exact ⟨_, rfl, v6, va, F.sub ⟨rfl, rfl, rfl, trivial⟩, se.f1⟩
   replace H := Bc hn H
   refine Aw <| Ab <| Ai <| Al ?_
   obtain ⟨xc, h11, H⟩ := Aq H
   obtain ⟨a9, h12, h13⟩ := Dc F_provisoref19_ins (Cu hr0 sa) Fx.sl126 rfl h11
   obtain ⟨xd, h14, H⟩ := Aq H
   refine Ak F (Aa (Ae rfl) <| Aa (Ae rfl) <| Aa (h12 _ _ _ _ _ _ _ _ _ _ rfl rfl) <| Aa (Cw Fx.fa156_0 rfl) <| Aa (Ba Fx.nag5 rfl (Cells.at_ h13 (o := 0) rfl)) <| Ad) fun _ F => Bi (args := [.tmp 54]) F Fx.fn49 rfl (provisoref04_Ends_c (a0 := xc.op)    h14) rfl fun ve wc _ h15 F => ?_
   obtain ⟨rfl, h16⟩ := h15
   have si := sa.add h16
   refine Ak F (Aa (Cx rfl) <| Ad) fun _ F => Aj <| Ab <| Bm F rfl (fun h17 => ?_) (fun h17 => ?_)
   ·replace H := Bb h17 H
    refine Al <| Ak F (Aa (Ae rfl) <| Aa (Ae rfl) <| Aa (Bp rfl rfl) <| Ad) fun _ F => ?_
    refine Cm (parts := [(0, .tmp 59)]) (Flat.int .i64) ([wr (x2 + 1)] : List Int) F si Fx.sl57 rfl (by decide) rfl rfl rfl (by simp [Value.cells]) rfl rfl rfl fun vf wd _ F sj => ?_
    obtain ⟨xe, h18, H⟩ := Aq H
    have sk := sj.f2
    obtain ⟨_, hr_⟩ := (sk.own_rd (.tail _ <| .head _))
    refine Ch (Flat.int .i64) F sk Fx.sl57 rfl rfl rfl rfl hr_ rfl rfl h18 rfl fun vg we _ F sl => ?_
    have s4581' := sl.f1.drop
    refine Ak F (Aa (Am rfl) <| Ad) fun _ F => Aj <| By ?_
    obtain rfl := Ao H
    refine Ab ?_
    exact ⟨_, rfl, v6, vg, F.sub ⟨rfl, rfl, rfl, trivial⟩, s4581'.f1⟩
   replace H := Bc h17 H
   refine Aw <| By ?_
   obtain rfl := Ao H
   refine Ab ?_
   exact ⟨_, rfl, v6, v8, F.sub ⟨rfl, rfl, rfl, trivial⟩, si⟩
  replace H := Bc h7 H
  refine Bz <| Bo <| Bo <| Ca ?_
  obtain rfl := Ao H
  obtain rfl := hr _ rfl
  refine Ab ?_
  exact ⟨v6, F.sub ⟨rfl, rfl, trivial⟩, s8.f1.drop⟩
 intro _ wf hJ
 obtain ⟨v5, F, sm⟩ := hJ
 have H := R1
 clear R1 H1
 refine Ab <| Ai <| Al ?_
 obtain ⟨xf, h19, H⟩ := Aq H
 refine Ak F (Aa (Ae rfl) <| Aa (Ae rfl) <| Ad) fun _ F => Bi (args := [.tmp 62, .tmp 63]) F Fx.fn103 rfl (provisoref19_left_c (a0 := a0) (a1 := o2)   (hr0.pass0 sm) (sm.rd0 (.head _)) h19) rfl fun vh wg _ h1a F => ?_
 obtain ⟨_, rfl, h1b⟩ := h1a
 have sn := sm.add h1b
 refine Ak F (Aa (Am rfl) <| Ad) fun _ F => Aj <| Ab ?_
 obtain rfl := Ao H
 refine Bf ?_
 refine Ax (rs := [.tmp 2]) (vs := [vh]) F (by rfl) ⟨_, _, rfl, Ay rfl, rfl⟩ ⟨_, rfl, ⟨vh, rfl, sn.f1.drop⟩⟩
-- proviso/provisoref19.threads
theorem provisoref19_threads_c {w : World} {v0 : Value} {a0 : List S_provisoref19_ins} {r : (List S_provisoref19_ins)} (hr0 : Rd T_provisoref19_ins w [] v0 a0) (H : provisoref19_threads a0 = some r) :
    Calls Try.prog 78 #[v0] w (Ret fun u_ w_ => ∃ u0 : Value, u_ = u0 ∧ SL w [] w_ [Sl T_provisoref19_ins u0 r]) := by
 have s0 : SL w [] w [] := SL.init0 w
 refine Bq Try.func78 rfl Try.ntmps78 (Ah rfl) (args := [v0]) fun q0 F0 => ?_
 unfold provisoref19_threads at H
 refine Ai <| Al <| Ak F0 (Aa (Am rfl) <| Ad) fun q3 F4 => Aj <| Ab <| Ai <| Al <| Ak F4 (Aa (Am rfl) <| Ad) fun q7 F8 => Aj <| Ab <| Ai <| Ai <| Al <| Ak F8 (Aa (Ae rfl) <| Aa (Cd rfl Try.underlying126 (Cc (Cu hr0 s0))) <| Aa (Ae rfl) <| Ad) fun _ F => Aj <| Ab ?_
 obtain ⟨o0, H0, R0⟩ := Aq H
 clear H
 refine Bx (fun a w_ => ∃ v1 : Value, Fr a 72 [(3, v1)] ∧ SL w [] w_ [Sl T_provisoref19_ins v1 o0]) ?_ ?_
 ·have H := H0
  refine Be <| Cq (provisoref19_threads_b1 a0) (fun s1 a w_ => ∃ v2 : Value, Fr a 72 [(0, v0), (3, v2), (8, v0), (9, .int .i64 (a0.length : Int)), (10, .int .i64 s1.2)] ∧ SL w [] w_ [Sl T_provisoref19_ins v2 s1.1]) H ?_ ?_
  ·exact ⟨(.slice none 0 0), F.sub ⟨rfl, rfl, rfl, rfl, rfl, trivial⟩, (SL.nilSl (T := T_provisoref19_ins) s0)⟩
  intro s1 _ w0 h0 o1 H hr
  obtain ⟨v2, F, s2⟩ := h0
  replace H : provisoref19_threads_b1 a0 s1 = some o1 := H
  unfold provisoref19_threads_b1 at H
  refine Ai <| Al <| Ak F (Aa (Cn rfl rfl) <| Ad) fun _ F => Aj <| Ab <| Ai <| Bm F rfl (fun h1 => ?_) (fun h1 => ?_)
  ·replace H := Bb h1 H
   refine Aw <| Ab <| Ai <| Be <| Ai <| Al ?_
   obtain ⟨x0, h2, H⟩ := Aq H
   obtain ⟨a1, h3, h4⟩ := Dc F_provisoref19_ins (Cu hr0 s2) Fx.sl126 rfl h2
   refine Ak F (Aa (Ae rfl) <| Aa (h3 _ _ _ _ _ _ _ _ _ _ rfl rfl) <| Aa (Bn Fx.agg156 rfl h4 rfl) <| Ad) fun _ F => Bu F s2 Fx.zero156 rfl rfl fun g0 w1 _ F s3 => Ak F (Aa (Am rfl) <| Ad) fun _ F => ?_
   have s4 := s3
   refine Au F s4 rfl rfl Fx.sz156 (Af rfl (Af rfl (Af rfl (Af rfl Bd)))) (Ah rfl) fun w2 _ F s5 => ?_
   replace s5 : SL w [] w2 [Blk g0 156 [.int .u8 (x0.op.toNat : Int), .int .i64 x0.a, .int .i64 x0.b, .int .i64 x0.to], Sl T_provisoref19_ins v2 s1.1] := s5
   refine Aj <| Ab <| Ai ?_
   obtain ⟨o2, H1, R1⟩ := Aq H
   clear H
   refine Bx (fun a w_ => Fr a 72 [(0, v0), (3, v2), (5, .pointer (some ⟨g0, 0, none⟩)), (8, v0), (9, .int .i64 (a0.length : Int)), (10, .int .i64 s1.2)] ∧ SL w [] w_ [Blk g0 156 [.int .u8 (x0.op.toNat : Int), .int .i64 x0.a, .int .i64 x0.b, .int .i64 o2], Sl T_provisoref19_ins v2 s1.1]) ?_ ?_
   ·have H := H1
    refine Ai <| Al <| Ak F (Aa (Az Fx.fa156_3 rfl rfl) <| Aa (Ba Fx.nag3 rfl (s5.blk_cell (.head _) rfl)) <| Aa (ex_ge rfl rfl) <| Aa (Ae rfl) <| Ad) fun _ F => Bl (decide (x0.to ≥ 0)) (fun h5 => ?_) (fun h5 => ?_)
    ·replace H := Bb h5 H
     refine Ar F rfl rfl (An rfl h5) (Az Fx.fa156_3 rfl rfl) rfl rfl fun _ F => Ar F rfl rfl (An rfl h5) (Ba Fx.nag3 rfl (s5.blk_cell (.head _) rfl)) rfl rfl fun _ F => Ar F rfl rfl (An rfl h5) (Ae rfl) rfl rfl fun _ F => Ar F rfl rfl (An rfl h5) (Dd rfl rfl) rfl rfl fun _ F => Ak F (Aa (Bh (Cb rfl h5) rfl) <| Aa (Ae rfl) <| Ad) fun _ F => Bl (x0.to != s1.2) (fun h6 => ?_) (fun h6 => ?_)
     ·replace H := Bb h6 H
      refine Ar F rfl rfl (An rfl h6) (Ae rfl) rfl rfl fun _ F => Ar F rfl rfl (An rfl h6) (Az Fx.fa156_3 rfl rfl) rfl rfl fun _ F => Ar F rfl rfl (An rfl h6) (Ba Fx.nag3 rfl (s5.blk_cell (.head _) rfl)) rfl rfl fun _ F => ?_
      obtain ⟨x1, h7, H⟩ := Aq H
      obtain ⟨a2, h8, h9⟩ := Dc F_provisoref19_ins (Cu hr0 s5) Fx.sl126 rfl h7
      refine Ar F rfl rfl (An rfl h6) (h8 _ _ _ _ _ _ _ _ _ _ rfl rfl) rfl rfl fun _ F => Ar F rfl rfl (An rfl h6) (Cw Fx.fa156_0 rfl) rfl rfl fun _ F => Ar F rfl rfl (An rfl h6) (Ba Fx.nag5 rfl (Cells.at_ h9 (o := 0) rfl)) rfl rfl fun _ F => Ar F rfl rfl (An rfl h6) (Bw rfl rfl) rfl rfl fun _ F => Ak F (Aa (Bh (Cb rfl h6) rfl) <| Ad) fun _ F => Aj <| Ab <| Bm F rfl (fun ha => ?_) (fun ha => ?_)
      ·replace H := Bb ha H
       refine Ai <| Al ?_
       obtain ⟨x2, hb, H⟩ := Aq H
       refine Ak F (Aa (Ae rfl) <| Aa (Cd rfl Try.underlying126 (Cc (Cu hr0 s5))) <| Ad) fun _ F => st_make Flat.bool false F s5 Fx.sl93 rfl rfl Fx.zero4 rfl rfl rfl hb rfl fun v3 w3 _ F s6 => Ak F (Aa (Am rfl) <| Ad) fun _ F => Aj <| Ab <| Ai <| Al <| Ak F (Aa (Az Fx.fa156_3 rfl rfl) <| Aa (Ba Fx.nag3 rfl (s6.blk_cell (.tail _ <| .head _) rfl)) <| Aa (Am rfl) <| Ad) fun _ F => Aj <| Ab <| Ai ?_
       obtain ⟨o3, H2, R2⟩ := Aq H
       clear H
       refine Bx (fun a w_ => ∃ v4 : Value, Fr a 72 [(0, v0), (3, v2), (5, .pointer (some ⟨g0, 0, none⟩)), (6, v4), (7, .int .i64 o3.2), (8, v0), (9, .int .i64 (a0.length : Int)), (10, .int .i64 s1.2), (19, .pointer (some ⟨g0, 3, none⟩)), (20, .int .i64 x0.to), (21, .int .i64 s1.2), (22, .bool (x0.to != s1.2)), (25, v0), (26, .pointer (some ⟨g0, 3, none⟩)), (27, .int .i64 x0.to), (30, .int .u8 (x1.op.toNat : Int)), (31, .bool ((x1.op.toNat : Int) == 19))] ∧ SL w [] w_ [Blk g0 156 [.int .u8 (x0.op.toNat : Int), .int .i64 x0.a, .int .i64 x0.b, .int .i64 x0.to], Sl T_provisoref19_ins v2 s1.1, Sl Ty.bool v4 o3.1]) ?_ ?_
       ·have H := H2
        refine Be <| Cq (provisoref19_threads_b0 a0) (fun s7 a w_ => ∃ v5 : Value, Fr a 72 [(0, v0), (3, v2), (5, .pointer (some ⟨g0, 0, none⟩)), (6, v5), (7, .int .i64 s7.2), (8, v0), (9, .int .i64 (a0.length : Int)), (10, .int .i64 s1.2), (19, .pointer (some ⟨g0, 3, none⟩)), (20, .int .i64 x0.to), (21, .int .i64 s1.2), (22, .bool (x0.to != s1.2)), (25, v0), (26, .pointer (some ⟨g0, 3, none⟩)), (27, .int .i64 x0.to), (30, .int .u8 (x1.op.toNat : Int)), (31, .bool ((x1.op.toNat : Int) == 19))] ∧ SL w [] w_ [Blk g0 156 [.int .u8 (x0.op.toNat : Int), .int .i64 x0.a, .int .i64 x0.b, .int .i64 x0.to], Sl T_provisoref19_ins v2 s1.1, Sl Ty.bool v5 s7.1]) H ?_ ?_
        ·exact ⟨v3, F.sub ⟨rfl, rfl, rfl, rfl, rfl, rfl, rfl, rfl, rfl, rfl, rfl, rfl, rfl, rfl, rfl, rfl, rfl, trivial⟩, s6.f2.f2⟩
        intro s7 _ w4 hc o4 H hr
        obtain ⟨v5, F, s8⟩ := hc
        replace H : provisoref19_threads_b0 a0 s7 = some o4 := H
        unfold provisoref19_threads_b0 at H
        refine Ai <| Ai <| Al ?_
        obtain ⟨x3, hd, H⟩ := Aq H
        obtain ⟨a3, he, hf⟩ := Dc F_provisoref19_ins (Cu hr0 s8) Fx.sl126 rfl hd
        refine Ak F (Aa (Ae rfl) <| Aa (Ae rfl) <| Aa (he _ _ _ _ _ _ _ _ _ _ rfl rfl) <| Aa (Cw Fx.fa156_0 rfl) <| Aa (Ba Fx.nag5 rfl (Cells.at_ hf (o := 0) rfl)) <| Aa (Bw rfl rfl) <| Aa (Ae rfl) <| Ad) fun _ F => Bl ((x3.op.toNat : Int) == 19) (fun hg => ?_) (fun hg => ?_)
        ·replace H := Bb hg H
         refine Ar F rfl rfl (An rfl hg) (Ae rfl) rfl rfl fun _ F => Ar F rfl rfl (An rfl hg) (Ae rfl) rfl rfl fun _ F => ?_
         obtain ⟨x4, hh, H⟩ := Aq H
         obtain ⟨a4, hi, hj⟩ := Cf Flat.bool s8 (.tail _ <| .tail _ <| .head _) Fx.sl93 rfl hh
         refine Ar F rfl rfl (An rfl hg) (hi _ _ _ _ _ _ _ _ _ _ rfl rfl) rfl rfl fun _ F => Ar F rfl rfl (An rfl hg) (Ba Fx.nag4 rfl (Cells.at_ (SL.elcells Flat.bool s8 (.tail _ <| .tail _ <| .head _) hj hh) (o := 0) rfl)) rfl rfl fun _ F => Ar F rfl rfl (An rfl hg) (Cx rfl) rfl rfl fun _ F => Ak F (Aa (Bh (Cb rfl hg) rfl) <| Ad) fun _ F => Aj <| Ab <| Bm F rfl (fun hk => ?_) (fun hk => ?_)
         ·replace H := Bb hk H
          refine Aw <| Ab <| Be <| Ai <| Al ?_
          obtain ⟨x5, hl, H⟩ := Aq H
          obtain ⟨a5, hm, hn⟩ := Cf Flat.bool s8 (.tail _ <| .tail _ <| .head _) Fx.sl93 rfl hl
          refine Ak F (Aa (Ae rfl) <| Aa (Ae rfl) <| Aa (hm _ _ _ _ _ _ _ _ _ _ rfl rfl) <| Ad) fun _ F => ?_
          refine Cr (y' := true) Flat.bool F s8.f2 hn hl rfl rfl (by rfl) Fx.sz4 fun w5 _ F s9 => ?_
          refine Aj <| Ab <| Al ?_
          obtain ⟨x6, ho, H⟩ := Aq H
          obtain ⟨a6, hp, hq⟩ := Dc F_provisoref19_ins (Cu hr0 s9) Fx.sl126 rfl ho
          refine Ak F (Aa (Ae rfl) <| Aa (Ae rfl) <| Aa (hp _ _ _ _ _ _ _ _ _ _ rfl rfl) <| Aa (Cw Fx.fa156_3 rfl) <| Aa (Ba Fx.nag3 rfl (Cells.at_ hq (o := 3) rfl)) <| Aa (Am rfl) <| Ad) fun _ F => Aj <| By ?_
          obtain rfl := Ao H
          refine Ab ?_
          exact ⟨_, rfl, v5, F.sub ⟨rfl, rfl, rfl, rfl, rfl, rfl, rfl, rfl, rfl, rfl, rfl, rfl, rfl, rfl, rfl, rfl, rfl, trivial⟩, s9.f2.f2⟩
         replace H := Bc hk H
         refine Bz <| Bo <| Bo <| Ca ?_
         obtain rfl := Ao H
         obtain rfl := hr _ rfl
         refine Ab ?_
         exact ⟨v5, F.sub ⟨rfl, rfl, rfl, rfl, rfl, rfl, rfl, rfl, rfl, rfl, rfl, rfl, rfl, rfl, rfl, rfl, rfl, trivial⟩, s8⟩
        replace H := Bc hg H
        refine Ap F rfl rfl (An rfl hg) Ac rfl rfl fun _ F => Ap F rfl rfl (An rfl hg) Ac rfl rfl fun _ F => Ap F rfl rfl (An rfl hg) Ac rfl rfl fun _ F => Ap F rfl rfl (An rfl hg) Ac rfl rfl fun _ F => Ap F rfl rfl (An rfl hg) Ac rfl rfl fun _ F => Ak F (Aa (Bj (Cb rfl hg) rfl) <| Ad) fun _ F => Aj <| Ab <| Cl F rfl <| Bz <| Bo <| Bo <| Ca ?_
        obtain rfl := Ao H
        obtain rfl := hr _ rfl
        refine Ab ?_
        exact ⟨v5, F.sub ⟨rfl, rfl, rfl, rfl, rfl, rfl, rfl, rfl, rfl, rfl, rfl, rfl, rfl, rfl, rfl, rfl, rfl, trivial⟩, s8⟩
       intro _ w6 hJ
       obtain ⟨v4, F, sa⟩ := hJ
       have H := R2
       clear R2 H2
       refine Ab <| Ai <| Al ?_
       obtain ⟨x7, hs, H⟩ := Aq H
       obtain ⟨a7, ht, hv⟩ := Cf Flat.bool sa (.tail _ <| .tail _ <| .head _) Fx.sl93 rfl hs
       refine Ak F (Aa (Ae rfl) <| Aa (Ae rfl) <| Aa (ht _ _ _ _ _ _ _ _ _ _ rfl rfl) <| Aa (Ba Fx.nag4 rfl (Cells.at_ (SL.elcells Flat.bool sa (.tail _ <| .tail _ <| .head _) hv hs) (o := 0) rfl)) <| Aa (Cx rfl) <| Ad) fun _ F => Aj <| Ab <| Bm F rfl (fun hw => ?_) (fun hw => ?_)
       ·replace H := Bb hw H
        refine Al <| Ak F (Aa (Ae rfl) <| Aa (Az Fx.fa156_3 rfl rfl) <| Ad) fun _ F => ?_
        have sb := sa
        refine Ct F sb rfl rfl Fx.sz3 rfl rfl rfl fun w7 _ F sc => ?_
        replace sc : SL w [] w7 [Blk g0 156 [.int .u8 (x0.op.toNat : Int), .int .i64 x0.a, .int .i64 x0.b, .int .i64 o3.2], Sl T_provisoref19_ins v2 s1.1, Sl Ty.bool v4 o3.1] := sc
        refine Aj ?_
        obtain rfl := Ao H
        refine Ab ?_
        exact ⟨F.sub ⟨rfl, rfl, rfl, rfl, rfl, rfl, trivial⟩, sc.f2.drop⟩
       replace H := Bc hw H
       refine Aw ?_
       obtain rfl := Ao H
       refine Ab ?_
       exact ⟨F.sub ⟨rfl, rfl, rfl, rfl, rfl, rfl, trivial⟩, sa.f2.drop⟩
      replace H := Bc ha H
      refine Aw ?_
      obtain rfl := Ao H
      refine Ab ?_
      exact ⟨F.sub ⟨rfl, rfl, rfl, rfl, rfl, rfl, trivial⟩, s5⟩
     replace H := Bc h6 H
     refine Ap F rfl rfl (An rfl h6) Ac rfl rfl fun _ F => Ap F rfl rfl (An rfl h6) Ac rfl rfl fun _ F => Ap F rfl rfl (An rfl h6) Ac rfl rfl fun _ F => Ap F rfl rfl (An rfl h6) Ac rfl rfl fun _ F => Ap F rfl rfl (An rfl h6) Ac rfl rfl fun _ F => Ap F rfl rfl (An rfl h6) Ac rfl rfl fun _ F => Ap F rfl rfl (An rfl h6) Ac rfl rfl fun _ F => Ak F (Aa (Bj (Cb rfl h6) rfl) <| Ad) fun _ F => Aj <| Ab <| Cl F rfl <| Aw ?_
     obtain rfl := Ao H
     refine Ab ?_
     exact ⟨F.sub ⟨rfl, rfl, rfl, rfl, rfl, rfl, trivial⟩, s5⟩
    replace H := Bc h5 H
    refine Ap F rfl rfl (An rfl h5) Ac rfl rfl fun _ F => Ap F rfl rfl (An rfl h5) Ac rfl rfl fun _ F => Ap F rfl rfl (An rfl h5) Ac rfl rfl fun _ F => Ap F rfl rfl (An rfl h5) Ac rfl rfl fun _ F => Ak F (Aa (Bj (Cb rfl h5) rfl) <| Aa (Ae rfl) <| Ad) fun _ F => Ap F rfl rfl rfl Ac rfl rfl fun _ F => Ap F rfl rfl rfl Ac rfl rfl fun _ F => Ap F rfl rfl rfl Ac rfl rfl fun _ F => Ap F rfl rfl rfl Ac rfl rfl fun _ F => Ap F rfl rfl rfl Ac rfl rfl fun _ F => Ap F rfl rfl rfl Ac rfl rfl fun _ F => Ap F rfl rfl rfl Ac rfl rfl fun _ F => Ak F (Aa (Bj rfl rfl) <| Ad) fun _ F => Aj <| Ab <| Cl F rfl <| Aw ?_
    obtain rfl := Ao H
    refine Ab ?_
    exact ⟨F.sub ⟨rfl, rfl, rfl, rfl, rfl, rfl, trivial⟩, s5⟩
   intro _ w8 hJ
   obtain ⟨F, sd⟩ := hJ
   have H := R1
   clear R1 H1
   refine Ab <| Al <| Ak F (Aa (Ae rfl) <| Aa (Bn Fx.agg156 rfl (sd.blk_cells (.head _) (o := 0) (ds := [.int .u8 (x0.op.toNat : Int), .int .i64 x0.a, .int .i64 x0.b, .int .i64 o2]) (fun j u hu => by rw [Nat.zero_add]; exact hu)) rfl) <| Ad) fun _ F => ?_
   refine Cm (parts := [(0, .tmp 67)]) F_provisoref19_ins ([(⟨x0.op, x0.a, x0.b, o2⟩ : S_provisoref19_ins)] : List S_provisoref19_ins) F sd Fx.sl126 rfl (by decide) rfl rfl rfl (by simp [Value.cells]) rfl rfl rfl fun v6 w9 _ F se => ?_
   obtain ⟨x8, hx, H⟩ := Aq H
   have sf := se.f2
   obtain ⟨_, hr_⟩ := (sf.own_rd (.tail _ <| .head _))
   refine Ch F_provisoref19_ins F sf Fx.sl126 rfl rfl rfl rfl hr_ rfl rfl hx rfl fun v7 wa _ F sg => ?_
   have s213547' := sg.f1.drop
   refine Ak F (Aa (Am rfl) <| Ad) fun _ F => Aj <| By <| Ab <| Al <| Ak F (Aa (Bp rfl rfl) <| Aa (Ae rfl) <| Ad) fun _ F => Aj ?_
   obtain rfl := Ao H
   refine Ab ?_
   exact ⟨_, rfl, v7, F.sub ⟨rfl, rfl, rfl, rfl, rfl, trivial⟩, s213547'.f1.drop⟩
  replace H := Bc h1 H
  refine Bz <| Bo <| Bo <| Ca ?_
  obtain rfl := Ao H
  obtain rfl := hr _ rfl
  refine Ab ?_
  exact ⟨v2, F.sub ⟨rfl, trivial⟩, s2⟩
 intro _ wb hJ
 obtain ⟨v1, F, sh⟩ := hJ
 have H := R0
 clear R0 H0
 refine Ab <| Ai <| Al <| Ak F (Aa (Ae rfl) <| Aa (Am rfl) <| Ad) fun _ F => Aj <| Ab ?_
 obtain rfl := Ao H
 refine Bf ?_
 refine Ax (rs := [.tmp 2]) (vs := [v1]) F (by rfl) ⟨_, _, rfl, Ay rfl, rfl⟩ ⟨_, rfl, ⟨v1, rfl, sh⟩⟩
-- proviso/provisoref19.same
theorem provisoref19_same_c {w : World} {v0 v1 : Value} {a0 : List S_provisoref19_ins} {a1 : List S_provisoref19_ins} {r : Bool} (hr0 : Rd T_provisoref19_ins w [] v0 a0) (hr1 : Rd T_provisoref19_ins w [] v1 a1) (H : provisoref19_same a0 a1 = some r) :
    Calls Try.prog 79 #[v0, v1] w (Ret fun u_ w_ => u_ = .bool r ∧ SL w [] w_ []) := by
 have s0 : SL w [] w [] := SL.init0 w
 refine Bq Try.func79 rfl Try.ntmps79 (Ah rfl) (args := [v0, v1]) fun q0 F0 => ?_
 unfold provisoref19_same at H
 refine Ai <| Al <| Ak F0 (Aa (Am rfl) <| Ad) fun q3 F4 => Aj <| Ab <| Ai <| Ai <| Al <| Ak F4 (Aa (Ae rfl) <| Aa (Cd rfl Try.underlying126 (Cc (Cu hr0 s0))) <| Aa (Ae rfl) <| Aa (Cd rfl Try.underlying126 (Cc (Cu hr1 s0))) <| Aa (Dd rfl rfl) <| Ad) fun _ F => Aj <| Ab <| Bm F rfl (fun h0 => ?_) (fun h0 => ?_)
 ·replace H := Bb h0 H
  refine Ai <| Al <| Ak F (Aa (Am rfl) <| Ad) fun _ F => Aj <| Ab ?_
  obtain rfl := Ao H
  refine Bf <| Bg ?_
  refine Ax (rs := [.tmp 4]) (vs := [.bool false]) F (by rfl) ⟨_, _, rfl, Ay rfl, rfl⟩ ⟨_, rfl, ⟨rfl, s0⟩⟩
 replace H := Bc h0 H
 refine Aw <| Ab <| Ai <| Ai <| Al <| Ak F (Aa (Ae rfl) <| Aa (Cd rfl Try.underlying126 (Cc (Cu hr0 s0))) <| Aa (Ae rfl) <| Ad) fun _ F => Aj <| Ab ?_
 obtain ⟨o0, H0, R0⟩ := Aq H
 clear H
 refine Bx (fun a w_ => ∃ p0 : Unit, o0 = .inr (p0) ∧ Fr a 26 [] ∧ SL w [] w_ []) ?_ ?_
 ·have H := H0
  refine Be <| Cq (provisoref19_same_b0 a0 a1) (fun s1 a w_ => Fr a 26 [(0, v0), (1, v1), (12, .int .i64 (a0.length : Int)), (13, .int .i64 s1)] ∧ SL w [] w_ []) H ?_ ?_
  ·exact ⟨F.sub ⟨rfl, rfl, rfl, rfl, trivial⟩, s0⟩
  intro s1 _ w0 h1 o1 H hr
  obtain ⟨F, s2⟩ := h1
  replace H : provisoref19_same_b0 a0 a1 s1 = some o1 := H
  unfold provisoref19_same_b0 at H
  refine Ai <| Al <| Ak F (Aa (Cn rfl rfl) <| Ad) fun _ F => Aj <| Ab <| Ai <| Bm F rfl (fun h2 => ?_) (fun h2 => ?_)
  ·replace H := Bb h2 H
   refine Aw <| Ab <| Ai <| Be <| Ai <| Al <| Ak F (Aa (Ae rfl) <| Aa (Am rfl) <| Ad) fun _ F => Aj <| Ab <| Ai ?_
   obtain ⟨x0, h3, H⟩ := Aq H
   obtain ⟨a2, h4, h5⟩ := idxC (C := fun w_ => SL w [] w_ []) F_provisoref19_ins (fun _ hC => (Cu hr0 hC)) s2 Fx.sl126 rfl h3
   obtain ⟨x1, h6, H⟩ := Aq H
   obtain ⟨a3, h7, h8⟩ := idxC (C := fun w_ => SL w [] w_ []) F_provisoref19_ins (fun _ hC => (Cu hr1 hC)) s2 Fx.sl126 rfl h6
   refine wp_regq (fun w_ => SL w [] w_ []) Fx.mixed (by kernel_rfl) s2.drew F (De (fun _ hC => Ae rfl) <| De (fun _ hC => Ae rfl) <| De (fun _ hC => h4 _ _ _ _ _ _ _ _ _ _ rfl rfl) <| De (fun _ hC => Bn Fx.agg156 rfl (h5 _ hC) rfl) <| De (fun _ hC => Ae rfl) <| De (fun _ hC => Ae rfl) <| De (fun _ hC => h7 _ _ _ _ _ _ _ _ _ _ rfl rfl) <| De (fun _ hC => Bn Fx.agg156 rfl (h8 _ hC) rfl) <| De (fun _ hC => ex_stne (xs := [.int .u8 (x0.op.toNat : Int), .int .i64 x0.a, .int .i64 x0.b, .int .i64 x0.to]) (ys := [.int .u8 (x1.op.toNat : Int), .int .i64 x1.a, .int .i64 x1.b, .int .i64 x1.to]) Fx.st156 (by decide) rfl rfl (eqat_st Fx.st156 Fx.fl156 (eqf_cons rfl (part_s Fx.nag5 rfl) (part_s Fx.nag5 rfl) (EqAt.up (j := 1) (eqat_u8 Try.underlying5) (by decide)) (eqf_cons rfl (part_s Fx.nag3 rfl) (part_s Fx.nag3 rfl) (EqAt.up (j := 1) (eqat_int Try.underlying3) (by decide)) (eqf_cons rfl (part_s Fx.nag3 rfl) (part_s Fx.nag3 rfl) (EqAt.up (j := 1) (eqat_int Try.underlying3) (by decide)) (eqf_cons rfl (part_s Fx.nag3 rfl) (part_s Fx.nag3 rfl) (EqAt.up (j := 1) (eqat_int Try.underlying3) (by decide)) eqf_nil)))))) <| QR.nil) fun w1 _ s3 F => ?_
   refine Ab <| Bm F rfl (fun h9 => ?_) (fun h9 => ?_)
   ·replace H := Bb h9 H
    refine Ai <| Al <| Ak F (Aa (Am rfl) <| Ad) fun _ F => Aj <| Ab ?_
    obtain rfl := Ao H
    obtain rfl := hr _ rfl
    replace H := R0
    try dsimp only at H
    obtain rfl := Ao H
    refine Bf <| blk_r <| Bg <| Bg <| blk_r <| Bg <| Bg ?_
    refine Ax (rs := [.tmp 4]) (vs := [.bool false]) F (by rfl) ⟨_, _, rfl, Ay rfl, rfl⟩ ⟨_, rfl, ⟨rfl, s3⟩⟩
   replace H := Bc h9 H
   refine Aw <| By <| Ab <| Al <| Ak F (Aa (Bp rfl rfl) <| Aa (Ae rfl) <| Ad) fun _ F => Aj ?_
   obtain rfl := Ao H
   refine Ab ?_
   exact ⟨_, rfl, F.sub ⟨rfl, rfl, rfl, rfl, trivial⟩, s3⟩
  replace H := Bc h2 H
  refine Bz <| Bo <| Bo <| Ca ?_
  obtain rfl := Ao H
  obtain rfl := hr _ rfl
  refine Ab ?_
  exact ⟨_, rfl, F.sub trivial, s2⟩
 intro _ w2 hJ
 obtain ⟨p0, rfl, F, s4⟩ := hJ
 have H := R0
 clear R0 H0
 try dsimp only at H
 refine Ab <| Ai <| Al <| Ak F (Aa (Am rfl) <| Ad) fun _ F => Aj <| Ab ?_
 obtain rfl := Ao H
 refine Bf ?_
 refine Ax (rs := [.tmp 4]) (vs := [.bool true]) F (by rfl) ⟨_, _, rfl, Ay rfl, rfl⟩ ⟨_, rfl, ⟨rfl, s4⟩⟩
-- proviso/provisoref04.fits
theorem provisoref04_fits_c {w : World} {a0 : Int} {a1 : Int} {r : Bool}  (H : provisoref04_fits a0 a1 = some r) :
    Calls Try.prog 119 #[.int .i64 a0, .int .i64 a1] w (Ret fun u_ w_ => u_ = .bool r ∧ SL w [] w_ []) := by
 have s0 : SL w [] w [] := SL.init0 w
 refine Bq Try.func119 rfl Try.ntmps119 (Ah rfl) (args := [.int .i64 a0, .int .i64 a1]) fun q0 F0 => ?_
 unfold provisoref04_fits at H
 refine Ai <| Al <| Ak F0 (Aa (Am rfl) <| Ad) fun q3 F4 => Aj <| Ab <| Ai <| Ai <| Al <| Ak F4 (Aa (Ae rfl) <| Ad) fun _ F => Aj <| Ab <| Be <| Ai <| Al <| Ak F (Aa (Bw rfl rfl) <| Aa (Am rfl) <| Ad) fun _ F => Aj <| Ab <| Bm F rfl (fun h0 => ?_) (fun h0 => ?_)
 ·replace H := Bb h0 H
  refine Ai <| Al <| Ak F (Aa (Ae rfl) <| Aa (Bw rfl rfl) <| Aa (Am rfl) <| Ad) fun _ F => Aj <| Ab ?_
  obtain rfl := Ao H
  refine Bf <| blk_r <| Bg ?_
  refine Ax (rs := [.tmp 4]) (vs := [.bool (a0 == 0)]) F (by rfl) ⟨_, _, rfl, Ay rfl, rfl⟩ ⟨_, rfl, ⟨rfl, s0⟩⟩
 replace H := Bc h0 H
 refine Ai <| Al <| Ak F (Aa (Bw rfl rfl) <| Aa (Am rfl) <| Ad) fun _ F => Aj <| Ab <| Bm F rfl (fun h1 => ?_) (fun h1 => ?_)
 ·replace H := Bb h1 H
  refine Ai <| Al <| Ak F (Aa (Ae rfl) <| Aa (ex_ge rfl rfl) <| Aa (Ae rfl) <| Ad) fun _ F => Bl (decide (a0 ≥ 0)) (fun h2 => ?_) (fun h2 => ?_)
  ·replace H := Bb h2 H
   refine Ar F rfl rfl (An rfl h2) (Ae rfl) rfl rfl fun _ F => Ar F rfl rfl (An rfl h2) (ex_le rfl rfl) rfl rfl fun _ F => Ak F (Aa (Bh (Cb rfl h2) rfl) <| Aa (Am rfl) <| Ad) fun _ F => Aj <| Ab ?_
   obtain rfl := Ao H
   refine Bf <| blk_r <| Bg ?_
   refine Ax (rs := [.tmp 4]) (vs := [.bool (decide (a0 ≤ 255))]) F (by rfl) ⟨_, _, rfl, Ay rfl, rfl⟩ ⟨_, rfl, ⟨rfl, s0⟩⟩
  replace H := Bc h2 H
  refine Ap F rfl rfl (An rfl h2) Ac rfl rfl fun _ F => Ap F rfl rfl (An rfl h2) Ac rfl rfl fun _ F => Ak F (Aa (Bj (Cb rfl h2) rfl) <| Aa (Am rfl) <| Ad) fun _ F => Aj <| Ab ?_
  obtain rfl := Ao H
  refine Bf <| blk_r <| Bg ?_
  refine Ax (rs := [.tmp 4]) (vs := [.bool false]) F (by rfl) ⟨_, _, rfl, Ay rfl, rfl⟩ ⟨_, rfl, ⟨rfl, s0⟩⟩
 replace H := Bc h1 H
 refine Ai <| Al <| Ak F (Aa (Bw rfl rfl) <| Aa (Am rfl) <| Ad) fun _ F => Aj <| Ab <| Bm F rfl (fun h3 => ?_) (fun h3 => ?_)
 ·replace H := Bb h3 H
  refine Ai <| Al <| Ak F (Aa (Ae rfl) <| Aa (ex_ge rfl rfl) <| Aa (Ae rfl) <| Ad) fun _ F => Bl (decide (a0 ≥ 0)) (fun h4 => ?_) (fun h4 => ?_)
  ·replace H := Bb h4 H
   refine Ar F rfl rfl (An rfl h4) (Ae rfl) rfl rfl fun _ F => Ar F rfl rfl (An rfl h4) (ex_le rfl rfl) rfl rfl fun _ F => Ak F (Aa (Bh (Cb rfl h4) rfl) <| Aa (Am rfl) <| Ad) fun _ F => Aj <| Ab ?_
   obtain rfl := Ao H
   refine Bf <| blk_r <| Bg ?_
   refine Ax (rs := [.tmp 4]) (vs := [.bool (decide (a0 ≤ 65535))]) F (by rfl) ⟨_, _, rfl, Ay rfl, rfl⟩ ⟨_, rfl, ⟨rfl, s0⟩⟩
  replace H := Bc h4 H
  refine Ap F rfl rfl (An rfl h4) Ac rfl rfl fun _ F => Ap F rfl rfl (An rfl h4) Ac rfl rfl fun _ F => Ak F (Aa (Bj (Cb rfl h4) rfl) <| Aa (Am rfl) <| Ad) fun _ F => Aj <| Ab ?_
  obtain rfl := Ao H
  refine Bf <| blk_r <| Bg ?_
  refine Ax (rs := [.tmp 4]) (vs := [.bool false]) F (by rfl) ⟨_, _, rfl, Ay rfl, rfl⟩ ⟨_, rfl, ⟨rfl, s0⟩⟩
 replace H := Bc h3 H
 refine Aw <| By <| Ab <| Ai <| Al <| Ak F (Aa (Ae rfl) <| Aa (ex_ge rfl rfl) <| Aa (Ae rfl) <| Ad) fun _ F => Bl (decide (a0 ≥ (-2147483648))) (fun h5 => ?_) (fun h5 => ?_)
 ·replace H := Bb h5 H
  refine Ar F rfl rfl (An rfl h5) (Ae rfl) rfl rfl fun _ F => Ar F rfl rfl (An rfl h5) (ex_le rfl rfl) rfl rfl fun _ F => Ak F (Aa (Bh (Cb rfl h5) rfl) <| Aa (Am rfl) <| Ad) fun _ F => Aj <| Ab ?_
  obtain rfl := Ao H
  refine Bf ?_
  refine Ax (rs := [.tmp 4]) (vs := [.bool (decide (a0 ≤ 2147483647))]) F (by rfl) ⟨_, _, rfl, Ay rfl, rfl⟩ ⟨_, rfl, ⟨rfl, s0⟩⟩
 replace H := Bc h5 H
 refine Ap F rfl rfl (An rfl h5) Ac rfl rfl fun _ F => Ap F rfl rfl (An rfl h5) Ac rfl rfl fun _ F => Ak F (Aa (Bj (Cb rfl h5) rfl) <| Aa (Am rfl) <| Ad) fun _ F => Aj <| Ab ?_
 obtain rfl := Ao H
 refine Bf ?_
 refine Ax (rs := [.tmp 4]) (vs := [.bool false]) F (by rfl) ⟨_, _, rfl, Ay rfl, rfl⟩ ⟨_, rfl, ⟨rfl, s0⟩⟩
-- proviso/provisoref04.put
theorem provisoref04_put_c {w : World} {FF : List Nat} {v0 : Value} {a0 : List UInt8} {a1 : Int} {a2 : Int} {r : (List UInt8)} (hst : Star [Sl Ty.u8 v0 a0] w FF)  (H : provisoref04_put a0 a1 a2 = some r) :
    Calls Try.prog 120 #[v0, .int .i64 a1, .int .i64 a2] w (Ret fun u_ w_ => ∃ u0 : Value, u_ = u0 ∧ SL w FF w_ [Sl Ty.u8 u0 r]) := by
 have s0 : SL w FF w [Sl Ty.u8 v0 a0] := SL.init w FF hst
 refine Bq Try.func120 rfl Try.ntmps120 (Ah rfl) (args := [v0, .int .i64 a1, .int .i64 a2]) fun q0 F0 => ?_
 unfold provisoref04_put at H
 refine Ai <| Al <| Ak F0 (Aa (Am rfl) <| Ad) fun q3 F4 => Aj <| Ab <| Ai ?_
 obtain ⟨o0, H0, R0⟩ := Aq H
 clear H
 refine Bx (fun a w_ => Fr a 35 [(0, v0), (1, .int .i64 o0), (2, .int .i64 a2)] ∧ SL w FF w_ [Sl Ty.u8 v0 a0]) ?_ ?_
 ·have H := H0
  refine Ai <| Al <| Ak F4 (Aa (Ae rfl) <| Aa (Cn rfl rfl) <| Ad) fun _ F => Aj <| Ab <| Bm F rfl (fun h0 => ?_) (fun h0 => ?_)
  ·replace H := Bb h0 H
   refine Al <| Ak F (Aa (Ae rfl) <| Aa (Bp rfl rfl) <| Aa (Am rfl) <| Ad) fun _ F => Aj ?_
   obtain rfl := Ao H
   refine Ab ?_
   exact ⟨F.sub ⟨rfl, rfl, rfl, trivial⟩, s0⟩
  replace H := Bc h0 H
  refine Aw ?_
  obtain rfl := Ao H
  refine Ab ?_
  exact ⟨F.sub ⟨rfl, rfl, rfl, trivial⟩, s0⟩
 intro _ w0 hJ
 obtain ⟨F, s1⟩ := hJ
 have H := R0
 clear R0 H0
 refine Ab <| Ai <| Ai <| Al <| Ak F (Aa (Ae rfl) <| Aa (ex_sub rfl rfl) <| Aa (Am rfl) <| Ad) fun _ F => Aj <| Ab ?_
 obtain ⟨o1, H1, R1⟩ := Aq H
 clear H
 refine Bx (fun a w_ => ∃ v1 : Value, Fr a 35 [(0, v1)] ∧ SL w FF w_ [Sl Ty.u8 v1 o1]) ?_ ?_
 ·have H := H1
  refine Be <| Cq (provisoref04_put_b1 o0) (fun s2 a w_ => ∃ v2 : Value, Fr a 35 [(0, v2), (1, .int .i64 o0), (7, .int .i64 s2.2)] ∧ SL w FF w_ [Sl Ty.u8 v2 s2.1]) H ?_ ?_
  ·exact ⟨v0, F.sub ⟨rfl, rfl, rfl, trivial⟩, s1⟩
  intro s2 _ w1 h1 o2 H hr
  obtain ⟨v2, F, s3⟩ := h1
  replace H : provisoref04_put_b1 o0 s2 = some o2 := H
  unfold provisoref04_put_b1 at H
  refine Ai <| Ai <| Al <| Ak F (Aa (Ae rfl) <| Aa (ex_ge rfl rfl) <| Ad) fun _ F => Aj <| Ab <| Bm F rfl (fun h2 => ?_) (fun h2 => ?_)
  ·replace H := Bb h2 H
   refine Aw <| Ab <| Ai <| Be <| Ai <| Al <| Ak F (Aa (Ae rfl) <| Aa (Am rfl) <| Ad) fun _ F => Aj <| Ab <| Ai <| Ai <| Al <| Ak F (Aa (Am rfl) <| Ad) fun _ F => Aj <| Ab ?_
   obtain ⟨o3, H2, R2⟩ := Aq H
   clear H
   refine Bx (fun a w_ => Fr a 35 [(0, v2), (1, .int .i64 o0), (7, .int .i64 s2.2), (8, .int .i64 o3)] ∧ SL w FF w_ [Sl Ty.u8 v2 s2.1]) ?_ ?_
   ·have H := H2
    refine Be <| Cq (provisoref04_put_b0 s2) (fun s4 a w_ => Fr a 35 [(0, v2), (1, .int .i64 o0), (7, .int .i64 s2.2), (8, .int .i64 s4.1), (9, .int .i64 s4.2)] ∧ SL w FF w_ [Sl Ty.u8 v2 s2.1]) H ?_ ?_
    ·exact ⟨F.sub ⟨rfl, rfl, rfl, rfl, rfl, trivial⟩, s3⟩
    intro s4 _ w2 h3 o4 H hr
    obtain ⟨F, s5⟩ := h3
    replace H : provisoref04_put_b0 s2 s4 = some o4 := H
    unfold provisoref04_put_b0 at H
    refine Ai <| Ai <| Al <| Ak F (Aa (Ae rfl) <| Aa (Ae rfl) <| Aa (Cn rfl rfl) <| Ad) fun _ F => Aj <| Ab <| Bm F rfl (fun h4 => ?_) (fun h4 => ?_)
    ·replace H := Bb h4 H
     refine Aw <| Ab <| Ai <| Be <| Al <| Ak F (Aa (Ae rfl) <| Aa (ex_quo rfl rfl rfl) <| Aa (Am rfl) <| Ad) fun _ F => Aj <| By <| Ab <| Al <| Ak F (Aa (Ae rfl) <| Aa (Bp rfl rfl) <| Aa (Am rfl) <| Ad) fun _ F => Aj ?_
     obtain rfl := Ao H
     refine Ab ?_
     exact ⟨_, rfl, F.sub ⟨rfl, rfl, rfl, rfl, rfl, trivial⟩, s5⟩
    replace H := Bc h4 H
    refine Bz <| Bo <| Bo <| Ca ?_
    obtain rfl := Ao H
    obtain rfl := hr _ rfl
    refine Ab ?_
    exact ⟨F.sub ⟨rfl, rfl, rfl, rfl, trivial⟩, s5⟩
   intro _ w3 hJ
   obtain ⟨F, s6⟩ := hJ
   have H := R2
   clear R2 H2
   refine Ab <| Al <| Ak F (Aa (Ae rfl) <| Aa (Ae rfl) <| Aa (ex_rem rfl rfl rfl) <| Aa (ex_cv8 rfl Try.underlying3 Try.underlying5) <| Ad) fun _ F => ?_
   refine Cm (parts := [(0, .tmp 31)]) Flat.u8 ([toU8 (Int.tmod o3 256)] : List UInt8) F s6 Fx.sl22 rfl (by decide) rfl rfl rfl (by simp [Value.cells]) rfl rfl rfl fun v3 w4 _ F s7 => ?_
   obtain ⟨x0, h5, H⟩ := Aq H
   have s8 := s7.f1
   obtain ⟨_, hr_⟩ := (s8.own_rd (.tail _ <| .head _))
   refine Ch Flat.u8 F s8 Fx.sl22 rfl rfl rfl rfl hr_ rfl rfl h5 rfl fun v4 w5 _ F s9 => ?_
   have s24734' := s9.f1.drop
   refine Ak F (Aa (Am rfl) <| Ad) fun _ F => Aj <| By <| Ab <| Al <| Ak F (Aa (Ae rfl) <| Aa (ex_sub rfl rfl) <| Aa (Am rfl) <| Ad) fun _ F => Aj ?_
   obtain rfl := Ao H
   refine Ab ?_
   exact ⟨_, rfl, v4, F.sub ⟨rfl, rfl, rfl, trivial⟩, s24734'⟩
  replace H := Bc h2 H
  refine Bz <| Bo <| Bo <| Ca ?_
  obtain rfl := Ao H
  obtain rfl := hr _ rfl
  refine Ab ?_
  exact ⟨v2, F.sub ⟨rfl, trivial⟩, s3⟩
 intro _ w6 hJ
 obtain ⟨v1, F, sa⟩ := hJ
 have H := R1
 clear R1 H1
 refine Ab <| Ai <| Al <| Ak F (Aa (Ae rfl) <| Aa (Am rfl) <| Ad) fun _ F => Aj <| Ab ?_
 obtain rfl := Ao H
 refine Bf ?_
 refine Ax (rs := [.tmp 6]) (vs := [v1]) F (by rfl) ⟨_, _, rfl, Ay rfl, rfl⟩ ⟨_, rfl, ⟨v1, rfl, sa⟩⟩
-- proviso/provisoref04.Encode
theorem provisoref04_Encode_c {w : World} {a0 : S_api_Instr} {r : (List UInt8) × Int}  (H : provisoref04_Encode a0 = some r) :
    Calls Try.prog 106 #[.agg ⟨[.int .i64 a0.At, .int .u8 (a0.Op.toNat : Int), .int .i64 a0.A, .int .i64 a0.B]⟩] w (Ret fun u_ w_ => ∃ u0 : Value, u_ = .tuple ⟨[u0, .int .i64 r.2]⟩ ∧ SL w [] w_ [Sl Ty.u8 u0 r.1]) := by
 have s0 : SL w [] w [] := SL.init0 w
 refine Bq Try.func106 rfl Try.ntmps106 (Ah rfl) (args := [.agg ⟨[.int .i64 a0.At, .int .u8 (a0.Op.toNat : Int), .int .i64 a0.A, .int .i64 a0.B]⟩]) fun q0 F0 => ?_
 unfold provisoref04_Encode at H
 refine Ai <| Al <| Cz F0 s0 rfl rfl rfl fun g9 w0 _ F s1 => Ak F (Aa (Am rfl) <| Aa (Am rfl) <| Ad) fun _ F => Aj <| Ab <| Ai <| Al <| Ak F (Aa (Az Fx.fa90_1 rfl rfl) <| Aa (Ba Fx.nag5 rfl (s1.blk_cell (.head _) rfl)) <| Aa (Am rfl) <| Ad) fun _ F => Aj <| Ab <| Ai <| Ai <| Al ?_
 obtain ⟨x0, h0, H⟩ := Aq H
 refine Ak F (Aa (Ae rfl) <| Ad) fun _ F => Bi (args := [.tmp 10]) F Fx.fn51 rfl (provisoref04_Size_c (a0 := a0.Op)    h0) rfl fun v0 w1 _ h1 F => ?_
 obtain ⟨rfl, h2⟩ := h1
 have s2 := s1.add h2
 refine Ak F (Aa (Bw rfl rfl) <| Ad) fun _ F => Aj <| Ab <| Bm F rfl (fun h3 => ?_) (fun h3 => ?_)
 ·replace H := Bb h3 H
  refine Ai <| Al <| Ak F (Aa (Am rfl) <| Aa (Am rfl) <| Ad) fun _ F => Aj <| Ab ?_
  obtain rfl := Ao H
  refine Bf <| Bg ?_
  refine Ax (rs := [.tmp 2, .tmp 3]) (vs := [.slice none 0 0, .int .i64 40]) F (by rfl) ⟨_, _, rfl, Ay rfl, _, _, rfl, Ay rfl, rfl⟩ ⟨_, rfl, ⟨(.slice none 0 0), rfl, (SL.nilSl (T := Ty.u8) s2).f1.drop⟩⟩
 replace H := Bc h3 H
 refine Aw <| Ab <| Ai <| Al ?_
 obtain ⟨x1, h4, H⟩ := Aq H
 refine Ak F (Aa (Ae rfl) <| Ad) fun _ F => Bi (args := [.tmp 14]) F Fx.fn69 rfl (provisoref04_wide_c (a0 := a0.Op)    h4) rfl fun v1 w2 _ h5 F => ?_
 obtain ⟨rfl, h6⟩ := h5
 have s3 := s2.add h6
 refine Ak F (Aa (Ae rfl) <| Aa (As (v := .int .i64 x1.1) rfl rfl) <| Aa (As (v := .int .i64 x1.2) rfl rfl) <| Aa (Am rfl) <| Aa (Am rfl) <| Ad) fun _ F => Aj <| Ab <| Ai <| Ai <| Al ?_
 obtain ⟨x2, h7, H⟩ := Aq H
 refine Ak F (Aa (Az Fx.fa90_2 rfl rfl) <| Aa (Ba Fx.nag3 rfl (s3.blk_cell (.head _) rfl)) <| Aa (Ae rfl) <| Ad) fun _ F => Bi (args := [.tmp 19, .tmp 20]) F Fx.fn119 rfl (provisoref04_fits_c (a0 := a0.A) (a1 := x1.1)    h7) rfl fun v2 w3 _ h8 F => ?_
 obtain ⟨rfl, h9⟩ := h8
 have s4 := s3.add h9
 refine Ak F (Aa (Cx rfl) <| Aa (Ae rfl) <| Ad) fun _ F => Bl (!x2) (fun ha => ?_) (fun ha => ?_)
 ·replace H := Bb ha H
  refine Ap F rfl rfl (An rfl ha) Ac rfl rfl fun _ F => Ap F rfl rfl (An rfl ha) Ac rfl rfl fun _ F => Ap F rfl rfl (An rfl ha) Ac rfl rfl fun _ F => Ap F rfl rfl (An rfl ha) Ac rfl rfl fun _ F => Ap F rfl rfl (An rfl ha) Ac rfl rfl fun _ F => Ak F (Aa (Bh (Cb rfl ha) rfl) <| Aa (Ae rfl) <| Ad) fun _ F => Ap F rfl rfl rfl Ac rfl rfl fun _ F => Ap F rfl rfl rfl Ac rfl rfl fun _ F => Ap F rfl rfl rfl Ac rfl rfl fun _ F => Ce F rfl rfl rfl rfl rfl fun _ F => Ce F rfl rfl rfl rfl rfl fun _ F => Ce F rfl rfl rfl rfl rfl fun _ F => Ap F rfl rfl rfl Ac rfl rfl fun _ F => Ak F (Aa (Bh rfl rfl) <| Ad) fun _ F => Aj <| Ab <| Cy F rfl <| Ai <| Al <| Ak F (Aa (Am rfl) <| Aa (Am rfl) <| Ad) fun _ F => Aj <| Ab ?_
  obtain rfl := Ao H
  refine Bf <| Bg ?_
  refine Ax (rs := [.tmp 2, .tmp 3]) (vs := [.slice none 0 0, .int .i64 5]) F (by rfl) ⟨_, _, rfl, Ay rfl, _, _, rfl, Ay rfl, rfl⟩ ⟨_, rfl, ⟨(.slice none 0 0), rfl, (SL.nilSl (T := Ty.u8) s4).f1.drop⟩⟩
 replace H := Bc ha H
 refine Ar F rfl rfl (An rfl ha) (Az Fx.fa90_3 rfl rfl) rfl rfl fun _ F => Ar F rfl rfl (An rfl ha) (Ba Fx.nag3 rfl (s4.blk_cell (.head _) rfl)) rfl rfl fun _ F => Ar F rfl rfl (An rfl ha) (Ae rfl) rfl rfl fun _ F => ?_
 obtain ⟨x3, hb, H⟩ := Aq H
 refine st_ungd F rfl (An rfl ha) <| Bi (args := [.tmp 25, .tmp 26]) F Fx.fn119 rfl (provisoref04_fits_c (a0 := a0.B) (a1 := x1.2)    hb) rfl fun v3 w4 _ hc F => ?_
 obtain ⟨rfl, hd⟩ := hc
 have s5 := s4.add hd
 refine Ar F rfl rfl (An rfl ha) (Cx rfl) rfl rfl fun _ F => Ak F (Aa (Bj (Cb rfl ha) rfl) <| Aa (Ae rfl) <| Ad) fun _ F => Bl (!x3) (fun he => ?_) (fun he => ?_)
 ·replace H := Bb he H
  refine Ap F rfl rfl (An rfl he) Ac rfl rfl fun _ F => Ap F rfl rfl (An rfl he) Ac rfl rfl fun _ F => Ap F rfl rfl (An rfl he) Ac rfl rfl fun _ F => Ce F rfl rfl rfl rfl rfl fun _ F => Ce F rfl rfl rfl rfl rfl fun _ F => Ce F rfl rfl rfl rfl rfl fun _ F => Ap F rfl rfl (An rfl he) Ac rfl rfl fun _ F => Ak F (Aa (Bh (Cb rfl he) rfl) <| Ad) fun _ F => Aj <| Ab <| Cy F rfl <| Ai <| Al <| Ak F (Aa (Am rfl) <| Aa (Am rfl) <| Ad) fun _ F => Aj <| Ab ?_
  obtain rfl := Ao H
  refine Bf <| Bg ?_
  refine Ax (rs := [.tmp 2, .tmp 3]) (vs := [.slice none 0 0, .int .i64 5]) F (by rfl) ⟨_, _, rfl, Ay rfl, _, _, rfl, Ay rfl, rfl⟩ ⟨_, rfl, ⟨(.slice none 0 0), rfl, (SL.nilSl (T := Ty.u8) s5).f1.drop⟩⟩
 replace H := Bc he H
 refine Ar F rfl rfl (An rfl he) (Ae rfl) rfl rfl fun _ F => Ar F rfl rfl (An rfl he) (Bw rfl rfl) rfl rfl fun _ F => Ar F rfl rfl (An rfl he) (Ae rfl) rfl rfl fun _ F => Bl ((a0.Op.toNat : Int) == 2) (fun hf => ?_) (fun hf => ?_)
 ·replace H := Bb hf H
  refine Ar F rfl rfl (An rfl hf) (Az Fx.fa90_2 rfl rfl) rfl rfl fun _ F => Ar F rfl rfl (An rfl hf) (Ba Fx.nag3 rfl (s5.blk_cell (.head _) rfl)) rfl rfl fun _ F => Ar F rfl rfl (An rfl hf) (ex_gt rfl rfl) rfl rfl fun _ F => Ar F rfl rfl (An rfl he) (Bh (Cb rfl hf) rfl) rfl rfl fun _ F => Ak F (Aa (Bj (Cb rfl he) rfl) <| Ad) fun _ F => Aj <| Ab <| Bm F rfl (fun hg => ?_) (fun hg => ?_)
  ·replace H := Bb hg H
   refine Ai <| Al <| Ak F (Aa (Am rfl) <| Aa (Am rfl) <| Ad) fun _ F => Aj <| Ab ?_
   obtain rfl := Ao H
   refine Bf <| Bg ?_
   refine Ax (rs := [.tmp 2, .tmp 3]) (vs := [.slice none 0 0, .int .i64 5]) F (by rfl) ⟨_, _, rfl, Ay rfl, _, _, rfl, Ay rfl, rfl⟩ ⟨_, rfl, ⟨(.slice none 0 0), rfl, (SL.nilSl (T := Ty.u8) s5).f1.drop⟩⟩
  replace H := Bc hg H
  refine Aw <| Ab <| Ai <| Al <| Ak F (Aa (Az Fx.fa90_1 rfl rfl) <| Aa (Ba Fx.nag5 rfl (s5.blk_cell (.head _) rfl)) <| Ad) fun _ F => ?_
  refine Cm (parts := [(0, .tmp 40)]) Flat.u8 ([a0.Op] : List UInt8) F s5 Fx.sl22 rfl (by decide) rfl rfl rfl (by simp [Value.cells]) rfl rfl rfl fun v4 w5 _ F s6 => ?_
  refine Ak F (Aa (Am rfl) <| Ad) fun _ F => Aj <| Ab <| Ai <| Al ?_
  obtain ⟨x4, hh, H⟩ := Aq H
  refine Ak F (Aa (Ae rfl) <| Aa (Az Fx.fa90_2 rfl rfl) <| Aa (Ba Fx.nag3 rfl (s6.blk_cell (.tail _ <| .head _) rfl)) <| Aa (Ae rfl) <| Ad) fun _ F => ?_
  have s7 := s6
  obtain ⟨G0, hi, hj, hk, hl⟩ := SL.open_ (ps := [Sl Ty.u8 v4 ([a0.Op] : List UInt8)]) (rest := [Blk g9 90 [.int .i64 a0.At, .int .u8 (a0.Op.toNat : Int), .int .i64 a0.A, .int .i64 a0.B]]) s7
  refine Bi (args := [.tmp 42, .tmp 44, .tmp 45]) F Fx.fn120 rfl (provisoref04_put_c (a0 := ([a0.Op] : List UInt8)) (a1 := a0.A) (a2 := x1.1) hi   hh) rfl fun v5 w6 _ hm F => ?_
  obtain ⟨_, rfl, hn⟩ := hm
  have s8 := hl _ _ hn
  refine Ak F (Aa (Am rfl) <| Ad) fun _ F => Aj <| Ab <| Ai <| Al ?_
  obtain ⟨x5, ho, H⟩ := Aq H
  refine Ak F (Aa (Ae rfl) <| Aa (Az Fx.fa90_3 rfl rfl) <| Aa (Ba Fx.nag3 rfl (s8.blk_cell (.tail _ <| .head _) rfl)) <| Aa (Ae rfl) <| Ad) fun _ F => ?_
  have s9 := s8
  obtain ⟨G1, hp, hq, hr, hs⟩ := SL.open_ (ps := [Sl Ty.u8 v5 x4]) (rest := [Blk g9 90 [.int .i64 a0.At, .int .u8 (a0.Op.toNat : Int), .int .i64 a0.A, .int .i64 a0.B]]) s9
  refine Bi (args := [.tmp 47, .tmp 49, .tmp 50]) F Fx.fn120 rfl (provisoref04_put_c (a0 := x4) (a1 := a0.B) (a2 := x1.2) hp   ho) rfl fun v6 w7 _ ht F => ?_
  obtain ⟨_, rfl, hu⟩ := ht
  have sa := hs _ _ hu
  refine Ak F (Aa (Am rfl) <| Aa (Am rfl) <| Ad) fun _ F => Aj <| Ab ?_
  obtain rfl := Ao H
  refine Bf ?_
  refine Ax (rs := [.tmp 2, .tmp 3]) (vs := [v6, .int .i64 0]) F (by rfl) ⟨_, _, rfl, Ay rfl, _, _, rfl, Ay rfl, rfl⟩ ⟨_, rfl, ⟨v6, rfl, sa.f1.drop⟩⟩
 replace H := Bc hf H
 refine Ap F rfl rfl (An rfl hf) Ac rfl rfl fun _ F => Ap F rfl rfl (An rfl hf) Ac rfl rfl fun _ F => Ap F rfl rfl (An rfl hf) Ac rfl rfl fun _ F => Ar F rfl rfl (An rfl he) (Bj (Cb rfl hf) rfl) rfl rfl fun _ F => Ak F (Aa (Bj (Cb rfl he) rfl) <| Ad) fun _ F => Aj <| Ab <| Cl F rfl <| Aw <| Ab <| Ai <| Al <| Ak F (Aa (Az Fx.fa90_1 rfl rfl) <| Aa (Ba Fx.nag5 rfl (s5.blk_cell (.head _) rfl)) <| Ad) fun _ F => ?_
 refine Cm (parts := [(0, .tmp 40)]) Flat.u8 ([a0.Op] : List UInt8) F s5 Fx.sl22 rfl (by decide) rfl rfl rfl (by simp [Value.cells]) rfl rfl rfl fun v7 w8 _ F sb => ?_
 refine Ak F (Aa (Am rfl) <| Ad) fun _ F => Aj <| Ab <| Ai <| Al ?_
 obtain ⟨x6, hv, H⟩ := Aq H
 refine Ak F (Aa (Ae rfl) <| Aa (Az Fx.fa90_2 rfl rfl) <| Aa (Ba Fx.nag3 rfl (sb.blk_cell (.tail _ <| .head _) rfl)) <| Aa (Ae rfl) <| Ad) fun _ F => ?_
 have sc := sb
 obtain ⟨G2, hw, hx, hy, hz⟩ := SL.open_ (ps := [Sl Ty.u8 v7 ([a0.Op] : List UInt8)]) (rest := [Blk g9 90 [.int .i64 a0.At, .int .u8 (a0.Op.toNat : Int), .int .i64 a0.A, .int .i64 a0.B]]) sc
 refine Bi (args := [.tmp 42, .tmp 44, .tmp 45]) F Fx.fn120 rfl (provisoref04_put_c (a0 := ([a0.Op] : List UInt8)) (a1 := a0.A) (a2 := x1.1) hw   hv) rfl fun v8 w9 _ h10 F => ?_
 obtain ⟨_, rfl, h11⟩ := h10
 have sd := hz _ _ h11
 refine Ak F (Aa (Am rfl) <| Ad) fun _ F => Aj <| Ab <| Ai <| Al ?_
 obtain ⟨x7, h12, H⟩ := Aq H
 refine Ak F (Aa (Ae rfl) <| Aa (Az Fx.fa90_3 rfl rfl) <| Aa (Ba Fx.nag3 rfl (sd.blk_cell (.tail _ <| .head _) rfl)) <| Aa (Ae rfl) <| Ad) fun _ F => ?_
 have se := sd
 obtain ⟨G3, h13, h14, h15, h16⟩ := SL.open_ (ps := [Sl Ty.u8 v8 x6]) (rest := [Blk g9 90 [.int .i64 a0.At, .int .u8 (a0.Op.toNat : Int), .int .i64 a0.A, .int .i64 a0.B]]) se
 refine Bi (args := [.tmp 47, .tmp 49, .tmp 50]) F Fx.fn120 rfl (provisoref04_put_c (a0 := x6) (a1 := a0.B) (a2 := x1.2) h13   h12) rfl fun v9 wa _ h17 F => ?_
 obtain ⟨_, rfl, h18⟩ := h17
 have sf := h16 _ _ h18
 refine Ak F (Aa (Am rfl) <| Aa (Am rfl) <| Ad) fun _ F => Aj <| Ab ?_
 obtain rfl := Ao H
 refine Bf ?_
 refine Ax (rs := [.tmp 2, .tmp 3]) (vs := [v9, .int .i64 0]) F (by rfl) ⟨_, _, rfl, Ay rfl, _, _, rfl, Ay rfl, rfl⟩ ⟨_, rfl, ⟨v9, rfl, sf.f1.drop⟩⟩
-- proviso/provisoref19.write
theorem provisoref19_write_c {w : World} {v0 : Value} {a0 : List S_provisoref19_ins} {r : (List UInt8)} (hr0 : Rd T_provisoref19_ins w [] v0 a0) (H : provisoref19_write a0 = some r) :
    Calls Try.prog 80 #[v0] w (Ret fun u_ w_ => ∃ u0 : Value, u_ = u0 ∧ SL w [] w_ [Sl Ty.u8 u0 r]) := by
 have s0 : SL w [] w [] := SL.init0 w
 refine Bq Try.func80 rfl Try.ntmps80 (Ah rfl) (args := [v0]) fun q0 F0 => ?_
 unfold provisoref19_write at H
 refine Ai <| Al <| Ak F0 (Aa (Am rfl) <| Ad) fun q3 F4 => Aj <| Ab <| Ai <| Al <| Ak F4 (Aa (Am rfl) <| Ad) fun q7 F8 => Aj <| Ab <| Ai <| Al <| Ak F8 (Aa (Am rfl) <| Ad) fun _ F => Aj <| Ab <| Ai <| Ai <| Al <| Ak F (Aa (Ae rfl) <| Aa (Cd rfl Try.underlying126 (Cc (Cu hr0 s0))) <| Aa (Ae rfl) <| Ad) fun _ F => Aj <| Ab ?_
 obtain ⟨o0, H0, R0⟩ := Aq H
 clear H
 refine Bx (fun a w_ => ∃ v1 : Value, Fr a 61 [(0, v0), (3, v1)] ∧ SL w [] w_ [Sl (Ty.int .i64) v1 o0]) ?_ ?_
 ·have H := H0
  refine Be <| Cq (provisoref19_write_b0 a0) (fun s1 a w_ => ∃ v2 : Value, Fr a 61 [(0, v0), (3, v2), (4, .int .i64 s1.2.1), (13, v0), (14, .int .i64 (a0.length : Int)), (15, .int .i64 s1.2.2)] ∧ SL w [] w_ [Sl (Ty.int .i64) v2 s1.1]) H ?_ ?_
  ·exact ⟨(.slice none 0 0), F.sub ⟨rfl, rfl, rfl, rfl, rfl, rfl, trivial⟩, (SL.nilSl (T := (Ty.int .i64)) s0)⟩
  intro s1 _ w0 h0 o1 H hr
  obtain ⟨v2, F, s2⟩ := h0
  replace H : provisoref19_write_b0 a0 s1 = some o1 := H
  unfold provisoref19_write_b0 at H
  refine Ai <| Al <| Ak F (Aa (Cn rfl rfl) <| Ad) fun _ F => Aj <| Ab <| Ai <| Bm F rfl (fun h1 => ?_) (fun h1 => ?_)
  ·replace H := Bb h1 H
   refine Aw <| Ab <| Ai <| Be <| Ai <| Al ?_
   obtain ⟨x0, h2, H⟩ := Aq H
   obtain ⟨a1, h3, h4⟩ := Dc F_provisoref19_ins (Cu hr0 s2) Fx.sl126 rfl h2
   refine Ak F (Aa (h3 _ _ _ _ _ _ _ _ _ _ rfl rfl) <| Aa (Bn Fx.agg156 rfl h4 rfl) <| Ad) fun _ F => Bu F s2 Fx.zero156 rfl rfl fun g0 w1 _ F s3 => ?_
   have s4 := s3
   refine Au F s4 rfl rfl Fx.sz156 (Af rfl (Af rfl (Af rfl (Af rfl Bd)))) (Ah rfl) fun w2 _ F s5 => ?_
   replace s5 : SL w [] w2 [Blk g0 156 [.int .u8 (x0.op.toNat : Int), .int .i64 x0.a, .int .i64 x0.b, .int .i64 x0.to], Sl (Ty.int .i64) v2 s1.1] := s5
   refine Aj <| Ab <| Ai <| Al <| Ak F (Aa (Ae rfl) <| Aa (Ae rfl) <| Ad) fun _ F => ?_
   refine Cm (parts := [(0, .tmp 20)]) (Flat.int .i64) ([s1.2.1] : List Int) F s5 Fx.sl57 rfl (by decide) rfl rfl rfl (by simp [Value.cells]) rfl rfl rfl fun v3 w3 _ F s6 => ?_
   obtain ⟨x1, h5, H⟩ := Aq H
   have s7 := s6.f2
   obtain ⟨_, hr_⟩ := (s7.own_rd (.tail _ <| .head _))
   refine Ch (Flat.int .i64) F s7 Fx.sl57 rfl rfl rfl rfl hr_ rfl rfl h5 rfl fun v4 w4 _ F s8 => ?_
   have s4414' := s8.f1.drop
   refine Ak F (Aa (Am rfl) <| Ad) fun _ F => Aj <| Ab <| Al ?_
   obtain ⟨x2, h6, H⟩ := Aq H
   refine Ak F (Aa (Ae rfl) <| Aa (Az Fx.fa156_0 rfl rfl) <| Aa (Ba Fx.nag5 rfl (s4414'.blk_cell (.tail _ <| .head _) rfl)) <| Ad) fun _ F => Bi (args := [.tmp 25]) F Fx.fn51 rfl (provisoref04_Size_c (a0 := x0.op)    h6) rfl fun v5 w5 _ h7 F => ?_
   obtain ⟨rfl, h8⟩ := h7
   have s9 := s4414'.add h8
   refine Ak F (Aa (Bp rfl rfl) <| Aa (Am rfl) <| Ad) fun _ F => Aj <| By <| Ab <| Al <| Ak F (Aa (Bp rfl rfl) <| Aa (Ae rfl) <| Ad) fun _ F => Aj ?_
   obtain rfl := Ao H
   refine Ab ?_
   exact ⟨_, rfl, v4, F.sub ⟨rfl, rfl, rfl, rfl, rfl, rfl, trivial⟩, s9.f1.drop⟩
  replace H := Bc h1 H
  refine Bz <| Bo <| Bo <| Ca ?_
  obtain rfl := Ao H
  obtain rfl := hr _ rfl
  refine Ab ?_
  exact ⟨v2, F.sub ⟨rfl, rfl, trivial⟩, s2⟩
 intro _ w6 hJ
 obtain ⟨v1, F, sa⟩ := hJ
 have H := R0
 clear R0 H0
 refine Ab <| Ai <| Al <| Ak F (Aa (Am rfl) <| Ad) fun _ F => Aj <| Ab <| Ai <| Ai <| Al <| Ak F (Aa (Ae rfl) <| Aa (Cd rfl Try.underlying126 (Cc (Cu hr0 sa))) <| Aa (Ae rfl) <| Ad) fun _ F => Aj <| Ab ?_
 obtain ⟨o2, H1, R1⟩ := Aq H
 clear H
 refine Bx (fun a w_ => ∃ v6 : Value, Fr a 61 [(7, v6)] ∧ SL w [] w_ [Sl Ty.u8 v6 o2]) ?_ ?_
 ·have H := H1
  refine Be <| Cq (provisoref19_write_b1 a0 o0) (fun sb a w_ => ∃ v7 : Value, Fr a 61 [(3, v1), (7, v7), (29, v0), (30, .int .i64 (a0.length : Int)), (31, .int .i64 sb.2)] ∧ SL w [] w_ [Sl (Ty.int .i64) v1 o0, Sl Ty.u8 v7 sb.1]) H ?_ ?_
  ·exact ⟨(.slice none 0 0), F.sub ⟨rfl, rfl, rfl, rfl, rfl, trivial⟩, (SL.nilSl (T := Ty.u8) sa).f1⟩
  intro sb _ w7 h9 o3 H hr
  obtain ⟨v7, F, sc⟩ := h9
  replace H : provisoref19_write_b1 a0 o0 sb = some o3 := H
  unfold provisoref19_write_b1 at H
  refine Ai <| Al <| Ak F (Aa (Cn rfl rfl) <| Ad) fun _ F => Aj <| Ab <| Ai <| Bm F rfl (fun ha => ?_) (fun ha => ?_)
  ·replace H := Bb ha H
   refine Aw <| Ab <| Ai <| Be <| Ai <| Al ?_
   obtain ⟨x3, hb, H⟩ := Aq H
   obtain ⟨a2, hc, hd⟩ := Dc F_provisoref19_ins (Cu hr0 sc) Fx.sl126 rfl hb
   refine Ak F (Aa (hc _ _ _ _ _ _ _ _ _ _ rfl rfl) <| Aa (Bn Fx.agg156 rfl hd rfl) <| Ad) fun _ F => Bu F sc Fx.zero156 rfl rfl fun g1 w8 _ F sd => ?_
   have se := sd
   refine Au F se rfl rfl Fx.sz156 (Af rfl (Af rfl (Af rfl (Af rfl Bd)))) (Ah rfl) fun w9 _ F sf => ?_
   replace sf : SL w [] w9 [Blk g1 156 [.int .u8 (x3.op.toNat : Int), .int .i64 x3.a, .int .i64 x3.b, .int .i64 x3.to], Sl (Ty.int .i64) v1 o0, Sl Ty.u8 v7 sb.1] := sf
   refine Aj <| Ab <| Ai <| Al <| Ak F (Aa (Az Fx.fa156_0 rfl rfl) <| Aa (Ba Fx.nag5 rfl (sf.blk_cell (.head _) rfl)) <| Aa (Az Fx.fa156_1 rfl rfl) <| Aa (Ba Fx.nag3 rfl (sf.blk_cell (.head _) rfl)) <| Aa (Az Fx.fa156_2 rfl rfl) <| Aa (Ba Fx.nag3 rfl (sf.blk_cell (.head _) rfl)) <| Aa (Co (vs := [.int .u8 (x3.op.toNat : Int), .int .i64 x3.a, .int .i64 x3.b]) Fx.zero90 Fx.pl90 rfl (cs := [.int .i64 0, .int .u8 (x3.op.toNat : Int), .int .i64 x3.a, .int .i64 x3.b]) (rfl)) <| Ad) fun _ F => Bu F sf Fx.zero90 rfl rfl fun g2 wa _ F sg => ?_
   have sh := sg
   refine Au F sh rfl rfl Fx.sz90 (Af rfl (Af rfl (Af rfl (Af rfl Bd)))) (Ah rfl) fun wb _ F si => ?_
   replace si : SL w [] wb [Blk g2 90 [.int .i64 0, .int .u8 (x3.op.toNat : Int), .int .i64 x3.a, .int .i64 x3.b], Blk g1 156 [.int .u8 (x3.op.toNat : Int), .int .i64 x3.a, .int .i64 x3.b, .int .i64 x3.to], Sl (Ty.int .i64) v1 o0, Sl Ty.u8 v7 sb.1] := si
   refine Aj <| Ab <| Ai <| Ai <| Al <| Ak F (Aa (Az Fx.fa156_3 rfl rfl) <| Aa (Ba Fx.nag3 rfl (si.blk_cell (.tail _ <| .head _) rfl)) <| Aa (ex_ge rfl rfl) <| Ad) fun _ F => Aj <| Ab <| Bm F rfl (fun he => ?_) (fun he => ?_)
   ·replace H := Bb he H
    refine Al ?_
    obtain ⟨x4, hf, H⟩ := Aq H
    obtain ⟨a3, hg, hh⟩ := Cf (Flat.int .i64) si (.tail _ <| .tail _ <| .head _) Fx.sl57 rfl hf
    refine Ak F (Aa (Ae rfl) <| Aa (Az Fx.fa156_3 rfl rfl) <| Aa (Ba Fx.nag3 rfl (si.blk_cell (.tail _ <| .head _) rfl)) <| Aa (hg _ _ _ _ _ _ _ _ _ _ rfl rfl) <| Aa (Ba Fx.nag3 rfl (Cells.at_ (SL.elcells (Flat.int .i64) si (.tail _ <| .tail _ <| .head _) hh hf) (o := 0) rfl)) <| Aa (Az Fx.fa90_2 rfl rfl) <| Ad) fun _ F => ?_
    have sj := si
    refine Ct F sj rfl rfl Fx.sz3 rfl rfl rfl fun wc _ F sk => ?_
    replace sk : SL w [] wc [Blk g2 90 [.int .i64 0, .int .u8 (x3.op.toNat : Int), .int .i64 x4, .int .i64 x3.b], Blk g1 156 [.int .u8 (x3.op.toNat : Int), .int .i64 x3.a, .int .i64 x3.b, .int .i64 x3.to], Sl (Ty.int .i64) v1 o0, Sl Ty.u8 v7 sb.1] := sk
    refine Aj <| Ab <| Ai <| Al ?_
    obtain ⟨x5, hi, H⟩ := Aq H
    refine Ak F (Aa (Bn Fx.agg90 rfl (sk.blk_cells (.head _) (o := 0) (ds := [.int .i64 0, .int .u8 (x3.op.toNat : Int), .int .i64 x4, .int .i64 x3.b]) (fun j u hu => by rw [Nat.zero_add]; exact hu)) rfl) <| Ad) fun _ F => Bi (args := [.tmp 52]) F Fx.fn106 rfl (provisoref04_Encode_c (a0 := (⟨0, x3.op, x4, x3.b⟩ : S_api_Instr))    hi) rfl fun v8 wd _ hj F => ?_
    obtain ⟨v9, rfl, hk⟩ := hj
    have sl := sk.add hk
    refine Ak F (Aa (Ae rfl) <| Aa (As (v := v9) rfl rfl) <| Aa (As (v := .int .i64 x5.2) rfl rfl) <| Aa (Am rfl) <| Aa (Am rfl) <| Ad) fun _ F => Aj <| Ab <| Al ?_
    obtain ⟨x6, hl, H⟩ := Aq H
    refine Ak F (Aa (Ae rfl) <| Aa (Ae rfl) <| Ad) fun _ F => ?_
    have sm := sl.f4
    obtain ⟨_, hr_⟩ := (sm.own_rd (.tail _ <| .head _))
    refine Ch Flat.u8 F sm Fx.sl22 rfl rfl rfl rfl hr_ rfl rfl hl rfl fun va we _ F sn => Ak F (Aa (Am rfl) <| Ad) fun _ F => Aj <| By <| Ab <| Al <| Ak F (Aa (Bp rfl rfl) <| Aa (Ae rfl) <| Ad) fun _ F => Aj ?_
    obtain rfl := Ao H
    refine Ab ?_
    exact ⟨_, rfl, va, F.sub ⟨rfl, rfl, rfl, rfl, rfl, trivial⟩, sn.f1.drop.f1.drop.f1.drop.f1⟩
   replace H := Bc he H
   refine Aw <| Ab <| Ai <| Al ?_
   obtain ⟨x7, hm, H⟩ := Aq H
   refine Ak F (Aa (Bn Fx.agg90 rfl (si.blk_cells (.head _) (o := 0) (ds := [.int .i64 0, .int .u8 (x3.op.toNat : Int), .int .i64 x3.a, .int .i64 x3.b]) (fun j u hu => by rw [Nat.zero_add]; exact hu)) rfl) <| Ad) fun _ F => Bi (args := [.tmp 52]) F Fx.fn106 rfl (provisoref04_Encode_c (a0 := (⟨0, x3.op, x3.a, x3.b⟩ : S_api_Instr))    hm) rfl fun vb wf _ hn F => ?_
   obtain ⟨vc, rfl, ho⟩ := hn
   have so := si.add ho
   refine Ak F (Aa (Ae rfl) <| Aa (As (v := vc) rfl rfl) <| Aa (As (v := .int .i64 x7.2) rfl rfl) <| Aa (Am rfl) <| Aa (Am rfl) <| Ad) fun _ F => Aj <| Ab <| Al ?_
   obtain ⟨x8, hp, H⟩ := Aq H
   refine Ak F (Aa (Ae rfl) <| Aa (Ae rfl) <| Ad) fun _ F => ?_
   have sp := so.f4
   obtain ⟨_, hr_⟩ := (sp.own_rd (.tail _ <| .head _))
   refine Ch Flat.u8 F sp Fx.sl22 rfl rfl rfl rfl hr_ rfl rfl hp rfl fun vd wg _ F sq => Ak F (Aa (Am rfl) <| Ad) fun _ F => Aj <| By <| Ab <| Al <| Ak F (Aa (Bp rfl rfl) <| Aa (Ae rfl) <| Ad) fun _ F => Aj ?_
   obtain rfl := Ao H
   refine Ab ?_
   exact ⟨_, rfl, vd, F.sub ⟨rfl, rfl, rfl, rfl, rfl, trivial⟩, sq.f1.drop.f1.drop.f1.drop.f1⟩
  replace H := Bc ha H
  refine Bz <| Bo <| Bo <| Ca ?_
  obtain rfl := Ao H
  obtain rfl := hr _ rfl
  refine Ab ?_
  exact ⟨v7, F.sub ⟨rfl, trivial⟩, sc.drop⟩
 intro _ wh hJ
 obtain ⟨v6, F, sr⟩ := hJ
 have H := R1
 clear R1 H1
 refine Ab <| Ai <| Al <| Ak F (Aa (Ae rfl) <| Aa (Am rfl) <| Ad) fun _ F => Aj <| Ab ?_
 obtain rfl := Ao H
 refine Bf ?_
 refine Ax (rs := [.tmp 2]) (vs := [v6]) F (by rfl) ⟨_, _, rfl, Ay rfl, rfl⟩ ⟨_, rfl, ⟨v6, rfl, sr⟩⟩
-- proviso/provisoref19.Code
theorem provisoref19_Code_c {w : World} {v0 : Value} {a0 : List UInt8} {r : (List UInt8) × Int} (hr0 : Rd Ty.u8 w [] v0 a0) (H : provisoref19_Code a0 = some r) :
    Calls Try.prog 57 #[v0] w (Ret fun u_ w_ => ∃ u0 : Value, u_ = .tuple ⟨[u0, .int .i64 r.2]⟩ ∧ SL w [] w_ [Sl Ty.u8 u0 r.1]) := by
 have s0 : SL w [] w [] := SL.init0 w
 refine Bq Try.func57 rfl Try.ntmps57 (Ah rfl) (args := [v0]) fun q0 F0 => ?_
 unfold provisoref19_Code at H
 refine Ai <| Al <| Ak F0 (Aa (Am rfl) <| Aa (Am rfl) <| Ad) fun q3 F4 => Aj <| Ab <| Ai <| Ai <| Al ?_
 obtain ⟨x0, h0, H⟩ := Aq H
 refine Ak F4 (Aa (Ae rfl) <| Ad) fun _ F => Bi (args := [.tmp 9]) F Fx.fn25 rfl (provisoref05_Check_c (a0 := a0)   (hr0.pass0 s0) h0) rfl fun v1 w0 _ h1 F => ?_
 obtain ⟨rfl, h2⟩ := h1
 have s1 := s0.add h2
 refine Ak F (Aa (Ae rfl) <| Aa (As (v := .int .i64 x0.1) rfl rfl) <| Aa (As (v := .int .i64 x0.2) rfl rfl) <| Aa (Am rfl) <| Aa (Am rfl) <| Ad) fun _ F => Aj <| Ab <| Ai <| Al <| Ak F (Aa (Ae rfl) <| Aa (Dd rfl rfl) <| Ad) fun _ F => Aj <| Ab <| Bm F rfl (fun h3 => ?_) (fun h3 => ?_)
 ·replace H := Bb h3 H
  refine Ai <| Al <| Ak F (Aa (Ae rfl) <| Aa (Am rfl) <| Aa (Am rfl) <| Ad) fun _ F => Aj <| Ab ?_
  obtain rfl := Ao H
  refine Bf <| Bg ?_
  refine Ax (rs := [.tmp 2, .tmp 3]) (vs := [.slice none 0 0, .int .i64 x0.2]) F (by rfl) ⟨_, _, rfl, Ay rfl, _, _, rfl, Ay rfl, rfl⟩ ⟨_, rfl, ⟨(.slice none 0 0), rfl, (SL.nilSl (T := Ty.u8) s1)⟩⟩
 replace H := Bc h3 H
 refine Aw <| Ab <| Ai <| Al ?_
 obtain ⟨x1, h4, H⟩ := Aq H
 refine Ak F (Aa (Ae rfl) <| Ad) fun _ F => Bi (args := [.tmp 16]) F Fx.fn73 rfl (provisoref19_read_c (a0 := a0)   (hr0.pass0 s1) h4) rfl fun v2 w1 _ h5 F => ?_
 obtain ⟨_, rfl, h6⟩ := h5
 have s2 := s1.add h6
 refine Ak F (Aa (Am rfl) <| Ad) fun _ F => Aj <| Ab ?_
 obtain ⟨o0, H0, R0⟩ := Aq H
 clear H
 refine Bx (fun a w_ => False) ?_ (fun _ _ hJ => hJ.elim)
 have H := H0
 refine Be <| Cq (provisoref19_Code_b0) (fun s3 a w_ => ∃ v3 : Value, Fr a 30 [(6, v3)] ∧ SL w [] w_ [Sl T_provisoref19_ins v3 s3]) H ?_ ?_
 ·exact ⟨v2, F.sub ⟨rfl, trivial⟩, s2⟩
 intro s3 _ w2 h7 o1 H hr
 obtain ⟨v3, F, s4⟩ := h7
 replace H : provisoref19_Code_b0 s3 = some o1 := H
 unfold provisoref19_Code_b0 at H
 refine Be <| Ai <| Al ?_
 obtain ⟨x2, h8, H⟩ := Aq H
 refine Ak F (Aa (Ae rfl) <| Ad) fun _ F => Bi (args := [.tmp 18]) F Fx.fn78 rfl (provisoref19_threads_c (a0 := s3)   (s4.rd0 (.head _)) h8) rfl fun v4 w3 _ h9 F => ?_
 obtain ⟨_, rfl, ha⟩ := h9
 have s5 := s4.add ha
 obtain ⟨x3, hb, H⟩ := Aq H
 refine Bi (args := [.tmp 19]) F Fx.fn77 rfl (provisoref19_dead_c (a0 := x2)   (s5.rd0 (.head _)) hb) rfl fun v5 w4 _ hc F => ?_
 obtain ⟨_, rfl, hd⟩ := hc
 have s6 := s5.add hd
 obtain ⟨x4, he, H⟩ := Aq H
 refine Bi (args := [.tmp 20]) F Fx.fn76 rfl (provisoref19_idle_c (a0 := x3)   (s6.rd0 (.head _)) he) rfl fun v6 w5 _ hf F => ?_
 obtain ⟨_, rfl, hg⟩ := hf
 have s7 := s6.add hg
 obtain ⟨x5, hh, H⟩ := Aq H
 refine Bi (args := [.tmp 21]) F Fx.fn75 rfl (provisoref19_constants_c (a0 := x4)   (s7.rd0 (.head _)) hh) rfl fun v7 w6 _ hi F => ?_
 obtain ⟨_, rfl, hj⟩ := hi
 have s8 := s7.add hj
 obtain ⟨x6, hk, H⟩ := Aq H
 refine Bi (args := [.tmp 22]) F Fx.fn74 rfl (provisoref19_sure_c (a0 := x5)   (s8.rd0 (.head _)) hk) rfl fun v8 w7 _ hl F => ?_
 obtain ⟨_, rfl, hm⟩ := hl
 have s9 := s8.add hm
 refine Ak F (Aa (Am rfl) <| Ad) fun _ F => Aj <| Ab <| Ai <| Ai <| Al ?_
 obtain ⟨x7, hn, H⟩ := Aq H
 refine Ak F (Aa (Ae rfl) <| Aa (Ae rfl) <| Ad) fun _ F => Bi (args := [.tmp 24, .tmp 25]) F Fx.fn79 rfl (provisoref19_same_c (a0 := s3) (a1 := x6)   (s9.rd0 (.tail _ <| .tail _ <| .tail _ <| .tail _ <| .tail _ <| .head _)) (s9.rd0 (.head _)) hn) rfl fun v9 w8 _ ho F => ?_
 obtain ⟨rfl, hp⟩ := ho
 have sa := s9.add hp
 refine Aj <| Ab <| Bm F rfl (fun hq => ?_) (fun hq => ?_)
 ·replace H := Bb hq H
  refine Ai <| Al ?_
  obtain ⟨x8, hs, H⟩ := Aq H
  refine Ak F (Aa (Ae rfl) <| Ad) fun _ F => Bi (args := [.tmp 27]) F Fx.fn80 rfl (provisoref19_write_c (a0 := s3)   (sa.rd0 (.tail _ <| .tail _ <| .tail _ <| .tail _ <| .tail _ <| .head _)) hs) rfl fun va w9 _ ht F => ?_
  obtain ⟨_, rfl, hu⟩ := ht
  have sb := sa.add hu
  refine Ak F (Aa (Am rfl) <| Aa (Am rfl) <| Ad) fun _ F => Aj <| Ab ?_
  obtain rfl := Ao H
  obtain rfl := hr _ rfl
  replace H := R0
  try dsimp only at H
  obtain rfl := Ao H
  refine Bf <| Bg <| blk_r <| Bg <| blk_r <| Bg ?_
  refine Ax (rs := [.tmp 2, .tmp 3]) (vs := [va, .int .i64 0]) F (by rfl) ⟨_, _, rfl, Ay rfl, _, _, rfl, Ay rfl, rfl⟩ ⟨_, rfl, ⟨va, rfl, sb.f1.drop.f1.drop.f1.drop.f1.drop.f1.drop.f1.drop⟩⟩
 replace H := Bc hq H
 refine Aw <| Ab <| Al <| Ak F (Aa (Ae rfl) <| Aa (Am rfl) <| Ad) fun _ F => Aj <| By ?_
 obtain rfl := Ao H
 refine Ab ?_
 exact ⟨_, rfl, v8, F.sub ⟨rfl, trivial⟩, sa.f1.drop.f1.drop.f1.drop.f1.drop.f1.drop⟩
-- proviso/provisoref19.Func
theorem provisoref19_Func_c {w : World} {v0_1 v0_4 : Value} {a0 : S_api_Func} {r : S_api_Func × Int} (hr0_1 : Rd Ty.u8 w [] v0_1 a0.Sig.Params) (hr0_4 : Rd Ty.u8 w [] v0_4 a0.Code) (H : provisoref19_Func a0 = some r) :
    Calls Try.prog 29 #[.agg ⟨[.string ⟨⟨a0.Name⟩⟩, v0_1, .int .u8 (a0.Sig.Result.toNat : Int), .int .i64 a0.Locals, v0_4]⟩] w (Ret fun u_ w_ => ∃ u0 u1 : Value, u_ = .tuple ⟨[.agg ⟨[.string ⟨⟨r.1.Name⟩⟩, u0, .int .u8 (r.1.Sig.Result.toNat : Int), .int .i64 r.1.Locals, u1]⟩, .int .i64 r.2]⟩ ∧ View Ty.u8 v0_1 a0.Sig.Params u0 r.1.Sig.Params ∧ SL w [] w_ [Sl Ty.u8 u1 r.1.Code]) := by
 have s0 : SL w [] w [] := SL.init0 w
 refine Bq Try.func29 rfl Try.ntmps29 (Ah rfl) (args := [.agg ⟨[.string ⟨⟨a0.Name⟩⟩, v0_1, .int .u8 (a0.Sig.Result.toNat : Int), .int .i64 a0.Locals, v0_4]⟩]) fun q0 F0 => ?_
 unfold provisoref19_Func at H
 refine Ai <| Al <| Cz F0 s0 rfl rfl rfl fun g0 w0 _ F s1 => Bu F s1 Fx.zero56 rfl rfl fun g1 w1 _ F s2 => Ak F (Aa (Am rfl) <| Ad) fun _ F => Aj <| Ab <| Ai <| Al ?_
 obtain ⟨x0, h0, H⟩ := Aq H
 refine Ak F (Aa (Az Fx.fa56_3 rfl rfl) <| Aa (Ba Fx.nag22 rfl (s2.blk_cell (.tail _ <| .head _) rfl)) <| Ad) fun _ F => Bi (args := [.tmp 8]) F Fx.fn57 rfl (provisoref19_Code_c (a0 := a0.Code)   (hr0_4.pass0 s2) h0) rfl fun v0 w2 _ h1 F => ?_
 obtain ⟨v1, rfl, h2⟩ := h1
 have s3 := s2.add h2
 refine Ak F (Aa (Ae rfl) <| Aa (As (v := v1) rfl rfl) <| Aa (As (v := .int .i64 x0.2) rfl rfl) <| Aa (Am rfl) <| Aa (Am rfl) <| Ad) fun _ F => Aj <| Ab <| Ai <| Ai <| Al <| Ak F (Aa (Ae rfl) <| Aa (Dd rfl rfl) <| Ad) fun _ F => Aj <| Ab <| Bm F rfl (fun h3 => ?_) (fun h3 => ?_)
 ·replace H := Bb h3 H
  refine Ai <| Al <| Ak F (Aa (Co (vs := []) Fx.zero56 Fx.pl56 rfl (cs := [.string ⟨⟨[]⟩⟩, .slice none 0 0, .int .u8 0, .int .i64 0, .slice none 0 0]) (rfl)) <| Aa (Ae rfl) <| Ad) fun _ F => ?_
  have s4 := s3.f1
  refine Au F s4 rfl rfl Fx.sz56 (Af rfl (Af rfl (Af rfl (Af rfl (Af rfl Bd))))) (Ah rfl) fun w3 _ F s5 => ?_
  replace s5 : SL w [] w3 [Blk g1 56 [.string ⟨⟨[]⟩⟩, .slice none 0 0, .int .u8 0, .int .i64 0, .slice none 0 0], Sl Ty.u8 v1 x0.1, Blk g0 56 [.string ⟨⟨a0.Name⟩⟩, v0_1, .int .u8 (a0.Sig.Result.toNat : Int), .int .i64 a0.Locals, v0_4]] := s5
  refine Ak F (Aa (Am rfl) <| Ad) fun _ F => Aj <| Ab ?_
  obtain rfl := Ao H
  refine Bf <| Bg ?_
  refine Ax (rs := [.cell 2 56, .tmp 3]) (vs := [.agg ⟨[.string ⟨⟨[]⟩⟩, .slice none 0 0, .int .u8 0, .int .i64 0, .slice none 0 0]⟩, .int .i64 x0.2]) F (by rfl) ⟨_, _, rfl, Ci s5 (.head _) rfl Fx.agg56 rfl, _, _, rfl, Ay rfl, rfl⟩ ⟨_, rfl, ⟨(.slice none 0 0), (.slice none 0 0), rfl, View.nil, (SL.nilSl (T := Ty.u8) s5).f1.drop.f1.drop.f1.drop⟩⟩
 replace H := Bc h3 H
 refine Aw <| Ab <| Ai <| Al <| Ak F (Aa (Ae rfl) <| Aa (Az Fx.fa56_3 rfl rfl) <| Ad) fun _ F => ?_
 have s6 := s3.f2
 refine Ct F s6 rfl rfl Fx.sz22 (Da (Cc (s6.own_rd (.tail _ <| .head _)))) (Cs (Cc (s6.own_rd (.tail _ <| .head _)))) rfl fun w4 _ F s7 => ?_
 replace s7 : SL w [] w4 [Blk g0 56 [.string ⟨⟨a0.Name⟩⟩, v0_1, .int .u8 (a0.Sig.Result.toNat : Int), .int .i64 a0.Locals, v1], Sl Ty.u8 v1 x0.1, Blk g1 56 [.string ⟨⟨[]⟩⟩, .slice none 0 0, .int .u8 0, .int .i64 0, .slice none 0 0]] := s7
 refine Aj <| Ab <| Ai <| Al <| Ak F (Aa (Bn Fx.agg56 rfl (s7.blk_cells (.head _) (o := 0) (ds := [.string ⟨⟨a0.Name⟩⟩, v0_1, .int .u8 (a0.Sig.Result.toNat : Int), .int .i64 a0.Locals, v1]) (fun j u hu => by rw [Nat.zero_add]; exact hu)) rfl) <| Ad) fun _ F => ?_
 have s8 := s7.f2
 refine Au F s8 rfl rfl Fx.sz56 (Af rfl (Af (Cs (Cc (Cu hr0_1 s8))) (Af rfl (Af rfl (Af (Cs (Cc (s8.own_rd (.tail _ <| .tail _ <| .head _)))) Bd))))) (Ah rfl) fun w5 _ F s9 => ?_
 replace s9 : SL w [] w5 [Blk g1 56 [.string ⟨⟨a0.Name⟩⟩, v0_1, .int .u8 (a0.Sig.Result.toNat : Int), .int .i64 a0.Locals, v1], Blk g0 56 [.string ⟨⟨a0.Name⟩⟩, v0_1, .int .u8 (a0.Sig.Result.toNat : Int), .int .i64 a0.Locals, v1], Sl Ty.u8 v1 x0.1] := s9
 refine Ak F (Aa (Am rfl) <| Ad) fun _ F => Aj <| Ab ?_
 obtain rfl := Ao H
 refine Bf ?_
 refine Ax (rs := [.cell 2 56, .tmp 3]) (vs := [.agg ⟨[.string ⟨⟨a0.Name⟩⟩, v0_1, .int .u8 (a0.Sig.Result.toNat : Int), .int .i64 a0.Locals, v1]⟩, .int .i64 0]) F (by rfl) ⟨_, _, rfl, Ci s9 (.head _) rfl Fx.agg56 rfl, _, _, rfl, Ay rfl, rfl⟩ ⟨_, rfl, ⟨v0_1, v1, rfl, View.refl, s9.drop.drop⟩⟩
-- slices.Equal[[]byte,byte]
theorem slices_Equal_byte_byte_c {w : World} {v0 v1 : Value} {a0 : List UInt8} {a1 : List UInt8} {r : Bool} (hr0 : Rd Ty.u8 w [] v0 a0) (hr1 : Rd Ty.u8 w [] v1 a1) (H : slices_Equal_byte_byte a0 a1 = some r) :
    Calls Try.prog 32 #[v0, v1] w (Ret fun u_ w_ => u_ = .bool r ∧ SL w [] w_ []) := by
 have s0 : SL w [] w [] := SL.init0 w
 refine Bq Try.func32 rfl Try.ntmps32 (Ah rfl) (args := [v0, v1]) fun q0 F0 => ?_
 unfold slices_Equal_byte_byte at H
 refine Ai <| Al <| Ak F0 (Aa (Am rfl) <| Ad) fun q3 F4 => Aj <| Ab <| Ai <| Ai <| Al <| Ak F4 (Aa (Ae rfl) <| Aa (Cd rfl Try.underlying22 (Cc (Cu hr0 s0))) <| Aa (Ae rfl) <| Aa (Cd rfl Try.underlying22 (Cc (Cu hr1 s0))) <| Aa (Dd rfl rfl) <| Ad) fun _ F => Aj <| Ab <| Bm F rfl (fun h0 => ?_) (fun h0 => ?_)
 ·replace H := Bb h0 H
  refine Ai <| Al <| Ak F (Aa (Am rfl) <| Ad) fun _ F => Aj <| Ab ?_
  obtain rfl := Ao H
  refine Bf <| Bg ?_
  refine Ax (rs := [.tmp 4]) (vs := [.bool false]) F (by rfl) ⟨_, _, rfl, Ay rfl, rfl⟩ ⟨_, rfl, ⟨rfl, s0⟩⟩
 replace H := Bc h0 H
 refine Aw <| Ab <| Ai <| Ai <| Al <| Ak F (Aa (Ae rfl) <| Aa (Cd rfl Try.underlying22 (Cc (Cu hr0 s0))) <| Aa (Ae rfl) <| Ad) fun _ F => Aj <| Ab ?_
 obtain ⟨o0, H0, R0⟩ := Aq H
 clear H
 refine Bx (fun a w_ => ∃ p0 : Unit, o0 = .inr (p0) ∧ Fr a 26 [] ∧ SL w [] w_ []) ?_ ?_
 ·have H := H0
  refine Be <| Cq (slices_Equal_byte_byte_b0 a0 a1) (fun s1 a w_ => Fr a 26 [(0, v0), (1, v1), (12, .int .i64 (a0.length : Int)), (13, .int .i64 s1)] ∧ SL w [] w_ []) H ?_ ?_
  ·exact ⟨F.sub ⟨rfl, rfl, rfl, rfl, trivial⟩, s0⟩
  intro s1 _ w0 h1 o1 H hr
  obtain ⟨F, s2⟩ := h1
  replace H : slices_Equal_byte_byte_b0 a0 a1 s1 = some o1 := H
  unfold slices_Equal_byte_byte_b0 at H
  refine Ai <| Al <| Ak F (Aa (Cn rfl rfl) <| Ad) fun _ F => Aj <| Ab <| Ai <| Bm F rfl (fun h2 => ?_) (fun h2 => ?_)
  ·replace H := Bb h2 H
   refine Aw <| Ab <| Ai <| Be <| Ai <| Al <| Ak F (Aa (Ae rfl) <| Aa (Am rfl) <| Ad) fun _ F => Aj <| Ab <| Ai ?_
   obtain ⟨x0, h3, H⟩ := Aq H
   obtain ⟨a2, h4, h5⟩ := idxC (C := fun w_ => SL w [] w_ []) Flat.u8 (fun _ hC => (Cu hr0 hC)) s2 Fx.sl22 rfl h3
   obtain ⟨x1, h6, H⟩ := Aq H
   obtain ⟨a3, h7, h8⟩ := idxC (C := fun w_ => SL w [] w_ []) Flat.u8 (fun _ hC => (Cu hr1 hC)) s2 Fx.sl22 rfl h6
   refine wp_regq (fun w_ => SL w [] w_ []) Fx.mixed (by kernel_rfl) s2.drew F (De (fun _ hC => Ae rfl) <| De (fun _ hC => Ae rfl) <| De (fun _ hC => h4 _ _ _ _ _ _ _ _ _ _ rfl rfl) <| De (fun _ hC => Ba Fx.nag5 rfl (Cells.at_ (h5 _ hC) (o := 0) rfl)) <| De (fun _ hC => Ae rfl) <| De (fun _ hC => Ae rfl) <| De (fun _ hC => h7 _ _ _ _ _ _ _ _ _ _ rfl rfl) <| De (fun _ hC => Ba Fx.nag5 rfl (Cells.at_ (h8 _ hC) (o := 0) rfl)) <| De (fun _ hC => Dd rfl rfl) <| QR.nil) fun w1 _ s3 F => ?_
   refine Ab <| Bm F rfl (fun h9 => ?_) (fun h9 => ?_)
   ·replace H := Bb h9 H
    refine Ai <| Al <| Ak F (Aa (Am rfl) <| Ad) fun _ F => Aj <| Ab ?_
    obtain rfl := Ao H
    obtain rfl := hr _ rfl
    replace H := R0
    try dsimp only at H
    obtain rfl := Ao H
    refine Bf <| blk_r <| Bg <| Bg <| blk_r <| Bg <| Bg ?_
    refine Ax (rs := [.tmp 4]) (vs := [.bool false]) F (by rfl) ⟨_, _, rfl, Ay rfl, rfl⟩ ⟨_, rfl, ⟨rfl, s3⟩⟩
   replace H := Bc h9 H
   refine Aw <| By <| Ab <| Al <| Ak F (Aa (Bp rfl rfl) <| Aa (Ae rfl) <| Ad) fun _ F => Aj ?_
   obtain rfl := Ao H
   refine Ab ?_
   exact ⟨_, rfl, F.sub ⟨rfl, rfl, rfl, rfl, trivial⟩, s3⟩
  replace H := Bc h2 H
  refine Bz <| Bo <| Bo <| Ca ?_
  obtain rfl := Ao H
  obtain rfl := hr _ rfl
  refine Ab ?_
  exact ⟨_, rfl, F.sub trivial, s2⟩
 intro _ w2 hJ
 obtain ⟨p0, rfl, F, s4⟩ := hJ
 have H := R0
 clear R0 H0
 try dsimp only at H
 refine Ab <| Ai <| Al <| Ak F (Aa (Am rfl) <| Ad) fun _ F => Aj <| Ab ?_
 obtain rfl := Ao H
 refine Bf ?_
 refine Ax (rs := [.tmp 4]) (vs := [.bool true]) F (by rfl) ⟨_, _, rfl, Ay rfl, rfl⟩ ⟨_, rfl, ⟨rfl, s4⟩⟩
-- slices.Equal[[]proviso/api.Type,proviso/api.Type]
theorem slices_Equal_api_Type_api_Type_c {w : World} {v0 v1 : Value} {a0 : List UInt8} {a1 : List UInt8} {r : Bool} (hr0 : Rd Ty.u8 w [] v0 a0) (hr1 : Rd Ty.u8 w [] v1 a1) (H : slices_Equal_api_Type_api_Type a0 a1 = some r) :
    Calls Try.prog 59 #[v0, v1] w (Ret fun u_ w_ => u_ = .bool r ∧ SL w [] w_ []) := by
 have s0 : SL w [] w [] := SL.init0 w
 refine Bq Try.func59 rfl Try.ntmps59 (Ah rfl) (args := [v0, v1]) fun q0 F0 => ?_
 unfold slices_Equal_api_Type_api_Type at H
 refine Ai <| Al <| Ak F0 (Aa (Am rfl) <| Ad) fun q3 F4 => Aj <| Ab <| Ai <| Ai <| Al <| Ak F4 (Aa (Ae rfl) <| Aa (Cd rfl Try.underlying51 (Cc (Cu hr0 s0))) <| Aa (Ae rfl) <| Aa (Cd rfl Try.underlying51 (Cc (Cu hr1 s0))) <| Aa (Dd rfl rfl) <| Ad) fun _ F => Aj <| Ab <| Bm F rfl (fun h0 => ?_) (fun h0 => ?_)
 ·replace H := Bb h0 H
  refine Ai <| Al <| Ak F (Aa (Am rfl) <| Ad) fun _ F => Aj <| Ab ?_
  obtain rfl := Ao H
  refine Bf <| Bg ?_
  refine Ax (rs := [.tmp 4]) (vs := [.bool false]) F (by rfl) ⟨_, _, rfl, Ay rfl, rfl⟩ ⟨_, rfl, ⟨rfl, s0⟩⟩
 replace H := Bc h0 H
 refine Aw <| Ab <| Ai <| Ai <| Al <| Ak F (Aa (Ae rfl) <| Aa (Cd rfl Try.underlying51 (Cc (Cu hr0 s0))) <| Aa (Ae rfl) <| Ad) fun _ F => Aj <| Ab ?_
 obtain ⟨o0, H0, R0⟩ := Aq H
 clear H
 refine Bx (fun a w_ => ∃ p0 : Unit, o0 = .inr (p0) ∧ Fr a 26 [] ∧ SL w [] w_ []) ?_ ?_
 ·have H := H0
  refine Be <| Cq (slices_Equal_api_Type_api_Type_b0 a0 a1) (fun s1 a w_ => Fr a 26 [(0, v0), (1, v1), (12, .int .i64 (a0.length : Int)), (13, .int .i64 s1)] ∧ SL w [] w_ []) H ?_ ?_
  ·exact ⟨F.sub ⟨rfl, rfl, rfl, rfl, trivial⟩, s0⟩
  intro s1 _ w0 h1 o1 H hr
  obtain ⟨F, s2⟩ := h1
  replace H : slices_Equal_api_Type_api_Type_b0 a0 a1 s1 = some o1 := H
  unfold slices_Equal_api_Type_api_Type_b0 at H
  refine Ai <| Al <| Ak F (Aa (Cn rfl rfl) <| Ad) fun _ F => Aj <| Ab <| Ai <| Bm F rfl (fun h2 => ?_) (fun h2 => ?_)
  ·replace H := Bb h2 H
   refine Aw <| Ab <| Ai <| Be <| Ai <| Al <| Ak F (Aa (Ae rfl) <| Aa (Am rfl) <| Ad) fun _ F => Aj <| Ab <| Ai ?_
   obtain ⟨x0, h3, H⟩ := Aq H
   obtain ⟨a2, h4, h5⟩ := idxC (C := fun w_ => SL w [] w_ []) Flat.u8 (fun _ hC => (Cu hr0 hC)) s2 Fx.sl51 rfl h3
   obtain ⟨x1, h6, H⟩ := Aq H
   obtain ⟨a3, h7, h8⟩ := idxC (C := fun w_ => SL w [] w_ []) Flat.u8 (fun _ hC => (Cu hr1 hC)) s2 Fx.sl51 rfl h6
   refine wp_regq (fun w_ => SL w [] w_ []) Fx.mixed (by kernel_rfl) s2.drew F (De (fun _ hC => Ae rfl) <| De (fun _ hC => Ae rfl) <| De (fun _ hC => h4 _ _ _ _ _ _ _ _ _ _ rfl rfl) <| De (fun _ hC => Ba Fx.nag52 rfl (Cells.at_ (h5 _ hC) (o := 0) rfl)) <| De (fun _ hC => Ae rfl) <| De (fun _ hC => Ae rfl) <| De (fun _ hC => h7 _ _ _ _ _ _ _ _ _ _ rfl rfl) <| De (fun _ hC => Ba Fx.nag52 rfl (Cells.at_ (h8 _ hC) (o := 0) rfl)) <| De (fun _ hC => Dd rfl rfl) <| QR.nil) fun w1 _ s3 F => ?_
   refine Ab <| Bm F rfl (fun h9 => ?_) (fun h9 => ?_)
   ·replace H := Bb h9 H
    refine Ai <| Al <| Ak F (Aa (Am rfl) <| Ad) fun _ F => Aj <| Ab ?_
    obtain rfl := Ao H
    obtain rfl := hr _ rfl
    replace H := R0
    try dsimp only at H
    obtain rfl := Ao H
    refine Bf <| blk_r <| Bg <| Bg <| blk_r <| Bg <| Bg ?_
    refine Ax (rs := [.tmp 4]) (vs := [.bool false]) F (by rfl) ⟨_, _, rfl, Ay rfl, rfl⟩ ⟨_, rfl, ⟨rfl, s3⟩⟩
   replace H := Bc h9 H
   refine Aw <| By <| Ab <| Al <| Ak F (Aa (Bp rfl rfl) <| Aa (Ae rfl) <| Ad) fun _ F => Aj ?_
   obtain rfl := Ao H
   refine Ab ?_
   exact ⟨_, rfl, F.sub ⟨rfl, rfl, rfl, rfl, trivial⟩, s3⟩
  replace H := Bc h2 H
  refine Bz <| Bo <| Bo <| Ca ?_
  obtain rfl := Ao H
  obtain rfl := hr _ rfl
  refine Ab ?_
  exact ⟨_, rfl, F.sub trivial, s2⟩
 intro _ w2 hJ
 obtain ⟨p0, rfl, F, s4⟩ := hJ
 have H := R0
 clear R0 H0
 try dsimp only at H
 refine Ab <| Ai <| Al <| Ak F (Aa (Am rfl) <| Ad) fun _ F => Aj <| Ab ?_
 obtain rfl := Ao H
 refine Bf ?_
 refine Ax (rs := [.tmp 4]) (vs := [.bool true]) F (by rfl) ⟨_, _, rfl, Ay rfl, rfl⟩ ⟨_, rfl, ⟨rfl, s4⟩⟩
-- proviso/provisoplain.SameSig
theorem provisoplain_SameSig_c {w : World} {v0_0 v1_0 : Value} {a0 : S_api_Sig} {a1 : S_api_Sig} {r : Bool} (hr0_0 : Rd Ty.u8 w [] v0_0 a0.Params) (hr1_0 : Rd Ty.u8 w [] v1_0 a1.Params) (H : provisoplain_SameSig a0 a1 = some r) :
    Calls Try.prog 40 #[.agg ⟨[v0_0, .int .u8 (a0.Result.toNat : Int)]⟩, .agg ⟨[v1_0, .int .u8 (a1.Result.toNat : Int)]⟩] w (Ret fun u_ w_ => u_ = .bool r ∧ SL w [] w_ []) := by
 have s0 : SL w [] w [] := SL.init0 w
 refine Bq Try.func40 rfl Try.ntmps40 (Ah rfl) (args := [.agg ⟨[v0_0, .int .u8 (a0.Result.toNat : Int)]⟩, .agg ⟨[v1_0, .int .u8 (a1.Result.toNat : Int)]⟩]) fun q0 F0 => ?_
 unfold provisoplain_SameSig at H
 refine Ai <| Al <| Cz F0 s0 rfl rfl rfl fun g0 w0 _ F s1 => Cz F s1 rfl rfl rfl fun g1 w1 _ F s2 => Ak F (Aa (Am rfl) <| Ad) fun _ F => Aj <| Ab <| Ai <| Al <| Ak F (Aa (Az Fx.fa54_1 rfl rfl) <| Aa (Ba Fx.nag52 rfl (s2.blk_cell (.tail _ <| .head _) rfl)) <| Aa (Az Fx.fa54_1 rfl rfl) <| Aa (Ba Fx.nag52 rfl (s2.blk_cell (.head _) rfl)) <| Aa (Bw rfl rfl) <| Aa (Ae rfl) <| Ad) fun _ F => Bl ((a0.Result.toNat : Int) == (a1.Result.toNat : Int)) (fun h0 => ?_) (fun h0 => ?_)
 ·replace H := Bb h0 H
  refine Ar F rfl rfl (An rfl h0) (Az Fx.fa54_0 rfl rfl) rfl rfl fun _ F => Ar F rfl rfl (An rfl h0) (Ba Fx.nag51 rfl (s2.blk_cell (.tail _ <| .head _) rfl)) rfl rfl fun _ F => Ar F rfl rfl (An rfl h0) (Az Fx.fa54_0 rfl rfl) rfl rfl fun _ F => Ar F rfl rfl (An rfl h0) (Ba Fx.nag51 rfl (s2.blk_cell (.head _) rfl)) rfl rfl fun _ F => ?_
  obtain ⟨x0, h1, H⟩ := Aq H
  refine st_ungd F rfl (An rfl h0) <| Bi (args := [.tmp 12, .tmp 14]) F Fx.fn59 rfl (slices_Equal_api_Type_api_Type_c (a0 := a0.Params) (a1 := a1.Params)   (hr0_0.pass0 s2) (hr1_0.pass0 s2) h1) rfl fun v0 w2 _ h2 F => ?_
  obtain ⟨rfl, h3⟩ := h2
  have s3 := s2.add h3
  refine Ak F (Aa (Bh (Cb rfl h0) rfl) <| Aa (Am rfl) <| Ad) fun _ F => Aj <| Ab ?_
  obtain rfl := Ao H
  refine Bf ?_
  refine Ax (rs := [.tmp 4]) (vs := [.bool x0]) F (by rfl) ⟨_, _, rfl, Ay rfl, rfl⟩ ⟨_, rfl, ⟨rfl, s3.drop.drop⟩⟩
 replace H := Bc h0 H
 refine Ap F rfl rfl (An rfl h0) Ac rfl rfl fun _ F => Ap F rfl rfl (An rfl h0) Ac rfl rfl fun _ F => Ap F rfl rfl (An rfl h0) Ac rfl rfl fun _ F => Ap F rfl rfl (An rfl h0) Ac rfl rfl fun _ F => Ap F rfl rfl (An rfl h0) Ac rfl rfl fun _ F => Ak F (Aa (Bj (Cb rfl h0) rfl) <| Aa (Am rfl) <| Ad) fun _ F => Aj <| Ab ?_
 obtain rfl := Ao H
 refine Bf ?_
 refine Ax (rs := [.tmp 4]) (vs := [.bool false]) F (by rfl) ⟨_, _, rfl, Ay rfl, rfl⟩ ⟨_, rfl, ⟨rfl, s2.drop.drop⟩⟩
-- proviso/provisoplain.SameFunc
theorem provisoplain_SameFunc_c {w : World} {v0_1 v0_4 v1_1 v1_4 : Value} {a0 : S_api_Func} {a1 : S_api_Func} {r : Bool} (hr0_1 : Rd Ty.u8 w [] v0_1 a0.Sig.Params) (hr0_4 : Rd Ty.u8 w [] v0_4 a0.Code) (hr1_1 : Rd Ty.u8 w [] v1_1 a1.Sig.Params) (hr1_4 : Rd Ty.u8 w [] v1_4 a1.Code) (H : provisoplain_SameFunc a0 a1 = some r) :
    Calls Try.prog 30 #[.agg ⟨[.string ⟨⟨a0.Name⟩⟩, v0_1, .int .u8 (a0.Sig.Result.toNat : Int), .int .i64 a0.Locals, v0_4]⟩, .agg ⟨[.string ⟨⟨a1.Name⟩⟩, v1_1, .int .u8 (a1.Sig.Result.toNat : Int), .int .i64 a1.Locals, v1_4]⟩] w (Ret fun u_ w_ => u_ = .bool r ∧ SL w [] w_ []) := by
 have s0 : SL w [] w [] := SL.init0 w
 refine Bq Try.func30 rfl Try.ntmps30 (Ah rfl) (args := [.agg ⟨[.string ⟨⟨a0.Name⟩⟩, v0_1, .int .u8 (a0.Sig.Result.toNat : Int), .int .i64 a0.Locals, v0_4]⟩, .agg ⟨[.string ⟨⟨a1.Name⟩⟩, v1_1, .int .u8 (a1.Sig.Result.toNat : Int), .int .i64 a1.Locals, v1_4]⟩]) fun q0 F0 => ?_
 unfold provisoplain_SameFunc at H
 refine Ai <| Al <| Cz F0 s0 rfl rfl rfl fun g0 w0 _ F s1 => Cz F s1 rfl rfl rfl fun g1 w1 _ F s2 => Ak F (Aa (Am rfl) <| Ad) fun _ F => Aj <| Ab <| Ai <| Al <| Ak F (Aa (Az Fx.fa56_0 rfl rfl) <| Aa (Ba Fx.nag9 rfl (s2.blk_cell (.tail _ <| .head _) rfl)) <| Aa (Az Fx.fa56_0 rfl rfl) <| Aa (Ba Fx.nag9 rfl (s2.blk_cell (.head _) rfl)) <| Aa (ex_seq rfl rfl) <| Aa (Ae rfl) <| Ad) fun _ F => Bl (a0.Name == a1.Name) (fun h0 => ?_) (fun h0 => ?_)
 ·replace H := Bb h0 H
  refine Ar F rfl rfl (An rfl h0) (Az Fx.fa56_1 rfl rfl) rfl rfl fun _ F => Ar F rfl rfl (An rfl h0) (Bn Fx.agg54 rfl (s2.blk_cells (.tail _ <| .head _) (o := 1) (ds := [v0_1, .int .u8 (a0.Sig.Result.toNat : Int)]) (subcells _ rfl)) rfl) rfl rfl fun _ F => Ar F rfl rfl (An rfl h0) (Az Fx.fa56_1 rfl rfl) rfl rfl fun _ F => Ar F rfl rfl (An rfl h0) (Bn Fx.agg54 rfl (s2.blk_cells (.head _) (o := 1) (ds := [v1_1, .int .u8 (a1.Sig.Result.toNat : Int)]) (subcells _ rfl)) rfl) rfl rfl fun _ F => ?_
  obtain ⟨x0, h1, H⟩ := Aq H
  refine st_ungd F rfl (An rfl h0) <| Bi (args := [.tmp 12, .tmp 14]) F Fx.fn40 rfl (provisoplain_SameSig_c (a0 := (⟨a0.Sig.Params, a0.Sig.Result⟩ : S_api_Sig)) (a1 := (⟨a1.Sig.Params, a1.Sig.Result⟩ : S_api_Sig))   (hr0_1.pass0 s2) (hr1_1.pass0 s2) h1) rfl fun v0 w2 _ h2 F => ?_
  obtain ⟨rfl, h3⟩ := h2
  have s3 := s2.add h3
  refine Ak F (Aa (Bh (Cb rfl h0) rfl) <| Aa (Ae rfl) <| Ad) fun _ F => Bl x0 (fun h4 => ?_) (fun h4 => ?_)
  ·replace H := Bb h4 H
   refine Ar F rfl rfl (An rfl h4) (Az Fx.fa56_2 rfl rfl) rfl rfl fun _ F => Ar F rfl rfl (An rfl h4) (Ba Fx.nag3 rfl (s3.blk_cell (.tail _ <| .head _) rfl)) rfl rfl fun _ F => Ar F rfl rfl (An rfl h4) (Az Fx.fa56_2 rfl rfl) rfl rfl fun _ F => Ar F rfl rfl (An rfl h4) (Ba Fx.nag3 rfl (s3.blk_cell (.head _) rfl)) rfl rfl fun _ F => Ar F rfl rfl (An rfl h4) (Bw rfl rfl) rfl rfl fun _ F => Ak F (Aa (Bh (Cb rfl h4) rfl) <| Aa (Ae rfl) <| Ad) fun _ F => Bl (a0.Locals == a1.Locals) (fun h5 => ?_) (fun h5 => ?_)
   ·replace H := Bb h5 H
    refine Ar F rfl rfl (An rfl h5) (Az Fx.fa56_3 rfl rfl) rfl rfl fun _ F => Ar F rfl rfl (An rfl h5) (Ba Fx.nag22 rfl (s3.blk_cell (.tail _ <| .head _) rfl)) rfl rfl fun _ F => Ar F rfl rfl (An rfl h5) (Az Fx.fa56_3 rfl rfl) rfl rfl fun _ F => Ar F rfl rfl (An rfl h5) (Ba Fx.nag22 rfl (s3.blk_cell (.head _) rfl)) rfl rfl fun _ F => ?_
    obtain ⟨x1, h6, H⟩ := Aq H
    refine st_ungd F rfl (An rfl h5) <| Bi (args := [.tmp 26, .tmp 28]) F Fx.fn32 rfl (slices_Equal_byte_byte_c (a0 := a0.Code) (a1 := a1.Code)   (hr0_4.pass0 s3) (hr1_4.pass0 s3) h6) rfl fun v1 w3 _ h7 F => ?_
    obtain ⟨rfl, h8⟩ := h7
    have s4 := s3.add h8
    refine Ak F (Aa (Bh (Cb rfl h5) rfl) <| Aa (Am rfl) <| Ad) fun _ F => Aj <| Ab ?_
    obtain rfl := Ao H
    refine Bf ?_
    refine Ax (rs := [.tmp 4]) (vs := [.bool x1]) F (by rfl) ⟨_, _, rfl, Ay rfl, rfl⟩ ⟨_, rfl, ⟨rfl, s4.drop.drop⟩⟩
   replace H := Bc h5 H
   refine Ap F rfl rfl (An rfl h5) Ac rfl rfl fun _ F => Ap F rfl rfl (An rfl h5) Ac rfl rfl fun _ F => Ap F rfl rfl (An rfl h5) Ac rfl rfl fun _ F => Ap F rfl rfl (An rfl h5) Ac rfl rfl fun _ F => Ap F rfl rfl (An rfl h5) Ac rfl rfl fun _ F => Ak F (Aa (Bj (Cb rfl h5) rfl) <| Aa (Am rfl) <| Ad) fun _ F => Aj <| Ab ?_
   obtain rfl := Ao H
   refine Bf ?_
   refine Ax (rs := [.tmp 4]) (vs := [.bool false]) F (by rfl) ⟨_, _, rfl, Ay rfl, rfl⟩ ⟨_, rfl, ⟨rfl, s3.drop.drop⟩⟩
  replace H := Bc h4 H
  refine Ap F rfl rfl (An rfl h4) Ac rfl rfl fun _ F => Ap F rfl rfl (An rfl h4) Ac rfl rfl fun _ F => Ap F rfl rfl (An rfl h4) Ac rfl rfl fun _ F => Ap F rfl rfl (An rfl h4) Ac rfl rfl fun _ F => Ap F rfl rfl (An rfl h4) Ac rfl rfl fun _ F => Ak F (Aa (Bj (Cb rfl h4) rfl) <| Aa (Ae rfl) <| Ad) fun _ F => Ap F rfl rfl rfl Ac rfl rfl fun _ F => Ap F rfl rfl rfl Ac rfl rfl fun _ F => Ap F rfl rfl rfl Ac rfl rfl fun _ F => Ap F rfl rfl rfl Ac rfl rfl fun _ F => Ap F rfl rfl rfl Ac rfl rfl fun _ F => Ak F (Aa (Bj rfl rfl) <| Aa (Am rfl) <| Ad) fun _ F => Aj <| Ab ?_
  obtain rfl := Ao H
  refine Bf ?_
  refine Ax (rs := [.tmp 4]) (vs := [.bool false]) F (by rfl) ⟨_, _, rfl, Ay rfl, rfl⟩ ⟨_, rfl, ⟨rfl, s3.drop.drop⟩⟩
 replace H := Bc h0 H
 refine Ap F rfl rfl (An rfl h0) Ac rfl rfl fun _ F => Ap F rfl rfl (An rfl h0) Ac rfl rfl fun _ F => Ap F rfl rfl (An rfl h0) Ac rfl rfl fun _ F => Ap F rfl rfl (An rfl h0) Ac rfl rfl fun _ F => Ap F rfl rfl (An rfl h0) Ac rfl rfl fun _ F => Ak F (Aa (Bj (Cb rfl h0) rfl) <| Aa (Ae rfl) <| Ad) fun _ F => Ap F rfl rfl rfl Ac rfl rfl fun _ F => Ap F rfl rfl rfl Ac rfl rfl fun _ F => Ap F rfl rfl rfl Ac rfl rfl fun _ F => Ap F rfl rfl rfl Ac rfl rfl fun _ F => Ap F rfl rfl rfl Ac rfl rfl fun _ F => Ak F (Aa (Bj rfl rfl) <| Aa (Ae rfl) <| Ad) fun _ F => Ap F rfl rfl rfl Ac rfl rfl fun _ F => Ap F rfl rfl rfl Ac rfl rfl fun _ F => Ap F rfl rfl rfl Ac rfl rfl fun _ F => Ap F rfl rfl rfl Ac rfl rfl fun _ F => Ap F rfl rfl rfl Ac rfl rfl fun _ F => ?_
 refine Ak F (Aa (Bj rfl rfl) <| Aa (Am rfl) <| Ad) fun _ F => Aj <| Ab ?_
 obtain rfl := Ao H
 refine Bf ?_
 refine Ax (rs := [.tmp 4]) (vs := [.bool false]) F (by rfl) ⟨_, _, rfl, Ay rfl, rfl⟩ ⟨_, rfl, ⟨rfl, s2.drop.drop⟩⟩
-- proviso/provisolaw19.OptOwn
theorem provisolaw19_OptOwn_c {w : World} {v0_1 v0_4 : Value} {a0 : S_api_Func} {r : Bool} (hr0_1 : Rd Ty.u8 w [] v0_1 a0.Sig.Params) (hr0_4 : Rd Ty.u8 w [] v0_4 a0.Code) (H : provisolaw19_OptOwn a0 = some r) :
    Calls Try.prog 8 #[.agg ⟨[.string ⟨⟨a0.Name⟩⟩, v0_1, .int .u8 (a0.Sig.Result.toNat : Int), .int .i64 a0.Locals, v0_4]⟩] w (Ret fun u_ w_ => u_ = .bool r ∧ SL w [] w_ []) := by
 have s0 : SL w [] w [] := SL.init0 w
 refine Bq Try.func8 rfl Try.ntmps8 (Ah rfl) (args := [.agg ⟨[.string ⟨⟨a0.Name⟩⟩, v0_1, .int .u8 (a0.Sig.Result.toNat : Int), .int .i64 a0.Locals, v0_4]⟩]) fun q0 F0 => ?_
 unfold provisolaw19_OptOwn at H
 refine Ai <| Al <| Cz F0 s0 rfl rfl rfl fun g9 w0 _ F s1 => Ak F (Aa (Am rfl) <| Ad) fun _ F => Aj <| Ab <| Ai <| Ai <| Al <| Ak F (Aa (Az Fx.fa56_3 rfl rfl) <| Aa (Ba Fx.nag22 rfl (s1.blk_cell (.head _) rfl)) <| Aa (Cd rfl Try.underlying22 (Cc (Cu hr0_4 s1))) <| Aa (ex_gt rfl rfl) <| Ad) fun _ F => Aj <| Ab <| Bm F rfl (fun h0 => ?_) (fun h0 => ?_)
 ·replace H := Bb h0 H
  refine Ai <| Al <| Ak F (Aa (Am rfl) <| Ad) fun _ F => Aj <| Ab ?_
  obtain rfl := Ao H
  refine Bf <| Bg ?_
  refine Ax (rs := [.tmp 2]) (vs := [.bool true]) F (by rfl) ⟨_, _, rfl, Ay rfl, rfl⟩ ⟨_, rfl, ⟨rfl, s1.drop⟩⟩
 replace H := Bc h0 H
 refine Aw <| Ab <| Ai <| Al <| Ak F (Aa (Co (vs := []) Fx.zero32 Fx.pl32 rfl (cs := [.slice none 0 0, .slice none 0 0]) (rfl)) <| Ad) fun _ F => Cz F s1 rfl rfl rfl fun g0 w1 _ F s2 => Ak F (Aa (Am rfl) <| Ad) fun _ F => Aj <| Ab <| Ai <| Al ?_
 obtain ⟨x0, h1, H⟩ := Aq H
 refine Ak F (Aa (Bn Fx.agg56 rfl (s2.blk_cells (.tail _ <| .head _) (o := 0) (ds := [.string ⟨⟨a0.Name⟩⟩, v0_1, .int .u8 (a0.Sig.Result.toNat : Int), .int .i64 a0.Locals, v0_4]) (fun j u hu => by rw [Nat.zero_add]; exact hu)) rfl) <| Ad) fun _ F => Bi (args := [.tmp 18]) F Fx.fn24 rfl (provisoplain_Func_c (a0 := (⟨a0.Name, (⟨a0.Sig.Params, a0.Sig.Result⟩ : S_api_Sig), a0.Locals, a0.Code⟩ : S_api_Func))   (hr0_1.pass0 s2) (hr0_4.pass0 s2) h1) rfl fun v0 w2 _ h2 F => ?_
 obtain ⟨v1, v2, rfl, h3⟩ := h2
 have s3 := s2.add h3
 refine Bu F s3 Fx.zero56 rfl rfl fun g1 w3 _ F s4 => ?_
 have s5 := s4
 refine Au F s5 rfl rfl Fx.sz56 (Af rfl (Af (Cs (Cc (s5.own_rd (.tail _ <| .head _)))) (Af rfl (Af rfl (Af (Cs (Cc (s5.own_rd (.tail _ <| .tail _ <| .head _)))) Bd))))) (Ah rfl) fun w4 _ F s6 => ?_
 replace s6 : SL w [] w4 [Blk g1 56 [.string ⟨⟨x0.Name⟩⟩, v1, .int .u8 (x0.Sig.Result.toNat : Int), .int .i64 x0.Locals, v2], Sl Ty.u8 v1 x0.Sig.Params, Sl Ty.u8 v2 x0.Code, Blk g0 32 [.slice none 0 0, .slice none 0 0], Blk g9 56 [.string ⟨⟨a0.Name⟩⟩, v0_1, .int .u8 (a0.Sig.Result.toNat : Int), .int .i64 a0.Locals, v0_4]] := s6
 refine Aj <| Ab <| Ai <| Al ?_
 obtain ⟨x1, h4, H⟩ := Aq H
 refine Ak F (Aa (Bn Fx.agg56 rfl (s6.blk_cells (.tail _ <| .tail _ <| .tail _ <| .tail _ <| .head _) (o := 0) (ds := [.string ⟨⟨a0.Name⟩⟩, v0_1, .int .u8 (a0.Sig.Result.toNat : Int), .int .i64 a0.Locals, v0_4]) (fun j u hu => by rw [Nat.zero_add]; exact hu)) rfl) <| Ad) fun _ F => Bi (args := [.tmp 21]) F Fx.fn29 rfl (provisoref19_Func_c (a0 := (⟨a0.Name, (⟨a0.Sig.Params, a0.Sig.Result⟩ : S_api_Sig), a0.Locals, a0.Code⟩ : S_api_Func))   (hr0_1.pass0 s6) (hr0_4.pass0 s6) h4) rfl fun v3 w5 _ h5 F => ?_
 obtain ⟨v4, v5, rfl, h6, h7⟩ := h5
 have s7 := s6.add h7
 have h8 := View.rd h6 hr0_1
 refine Ak F (Aa (Ae rfl) <| Aa (As (v := .agg ⟨[.string ⟨⟨x1.1.Name⟩⟩, v4, .int .u8 (x1.1.Sig.Result.toNat : Int), .int .i64 x1.1.Locals, v5]⟩) rfl rfl) <| Aa (As (v := .int .i64 x1.2) rfl rfl) <| Ad) fun _ F => Bu F s7 Fx.zero56 rfl rfl fun g2 w6 _ F s8 => ?_
 have s9 := s8
 refine Au F s9 rfl rfl Fx.sz56 (Af rfl (Af (Cs (Cc (Cu h8 s9))) (Af rfl (Af rfl (Af (Cs (Cc (s9.own_rd (.tail _ <| .head _)))) Bd))))) (Ah rfl) fun w7 _ F sa => ?_
 replace sa : SL w [] w7 [Blk g2 56 [.string ⟨⟨x1.1.Name⟩⟩, v4, .int .u8 (x1.1.Sig.Result.toNat : Int), .int .i64 x1.1.Locals, v5], Sl Ty.u8 v5 x1.1.Code, Blk g1 56 [.string ⟨⟨x0.Name⟩⟩, v1, .int .u8 (x0.Sig.Result.toNat : Int), .int .i64 x0.Locals, v2], Sl Ty.u8 v1 x0.Sig.Params, Sl Ty.u8 v2 x0.Code, Blk g0 32 [.slice none 0 0, .slice none 0 0], Blk g9 56 [.string ⟨⟨a0.Name⟩⟩, v0_1, .int .u8 (a0.Sig.Result.toNat : Int), .int .i64 a0.Locals, v0_4]] := sa
 refine Ak F (Aa (Am rfl) <| Ad) fun _ F => Aj <| Ab <| Ai <| Ai <| Al <| Ak F (Aa (Ae rfl) <| Ad) fun _ F => Aj <| Ab ?_
 obtain ⟨o0, H0, R0⟩ := Aq H
 clear H
 refine Bx (fun a w_ => ∃ p0 : (List (List UInt8)) × (List (List Int)), o0 = .inr (p0) ∧ ∃ v6 v7 : Value, Fr a 96 [(1, .pointer (some ⟨g9, 0, none⟩)), (3, .pointer (some ⟨g0, 0, none⟩)), (4, .pointer (some ⟨g1, 0, none⟩)), (5, .pointer (some ⟨g2, 0, none⟩)), (6, .int .i64 x1.2)] ∧ SL w [] w_ [Blk g2 56 [.string ⟨⟨x1.1.Name⟩⟩, v4, .int .u8 (x1.1.Sig.Result.toNat : Int), .int .i64 x1.1.Locals, v5], Sl Ty.u8 v5 x1.1.Code, Blk g1 56 [.string ⟨⟨x0.Name⟩⟩, v1, .int .u8 (x0.Sig.Result.toNat : Int), .int .i64 x0.Locals, v2], Sl Ty.u8 v1 x0.Sig.Params, Sl Ty.u8 v2 x0.Code, Blk g0 32 [v6, v7], Blk g9 56 [.string ⟨⟨a0.Name⟩⟩, v0_1, .int .u8 (a0.Sig.Result.toNat : Int), .int .i64 a0.Locals, v0_4], Sl (Ty.slice Ty.u8) v6 p0.1, Sl (Ty.slice (Ty.int .i64)) v7 p0.2]) ?_ ?_
 ·have H := H0
  refine Be <| Cq (provisolaw19_OptOwn_b1 x0 x1) (fun sb a w_ => ∃ v8 v9 : Value, Fr a 96 [(1, .pointer (some ⟨g9, 0, none⟩)), (3, .pointer (some ⟨g0, 0, none⟩)), (4, .pointer (some ⟨g1, 0, none⟩)), (5, .pointer (some ⟨g2, 0, none⟩)), (6, .int .i64 x1.2), (25, .int .i64 sb.2.2)] ∧ SL w [] w_ [Blk g2 56 [.string ⟨⟨x1.1.Name⟩⟩, v4, .int .u8 (x1.1.Sig.Result.toNat : Int), .int .i64 x1.1.Locals, v5], Sl Ty.u8 v5 x1.1.Code, Blk g1 56 [.string ⟨⟨x0.Name⟩⟩, v1, .int .u8 (x0.Sig.Result.toNat : Int), .int .i64 x0.Locals, v2], Sl Ty.u8 v1 x0.Sig.Params, Sl Ty.u8 v2 x0.Code, Blk g0 32 [v8, v9], Blk g9 56 [.string ⟨⟨a0.Name⟩⟩, v0_1, .int .u8 (a0.Sig.Result.toNat : Int), .int .i64 a0.Locals, v0_4], Sl (Ty.slice Ty.u8) v8 sb.1, Sl (Ty.slice (Ty.int .i64)) v9 sb.2.1]) H ?_ ?_
  ·exact ⟨(.slice none 0 0), (.slice none 0 0), F.sub ⟨rfl, rfl, rfl, rfl, rfl, rfl, trivial⟩, (SL.nilSl (T := (Ty.slice (Ty.int .i64))) (SL.nilSl (T := (Ty.slice Ty.u8)) sa)).f1.f8.f8.f8.f8.f8.f8.f8⟩
  intro sb _ w8 h9 o1 H hr
  obtain ⟨v8, v9, F, sc⟩ := h9
  replace H : provisolaw19_OptOwn_b1 x0 x1 sb = some o1 := H
  unfold provisolaw19_OptOwn_b1 at H
  refine Ai <| Al <| Ak F (Aa (Cn rfl rfl) <| Ad) fun _ F => Aj <| Ab <| Ai <| Bm F rfl (fun ha => ?_) (fun ha => ?_)
  ·replace H := Bb ha H
   refine Aw <| Ab <| Ai <| Be <| Ai <| Al ?_
   obtain ⟨x2, hb, H⟩ := Aq H
   refine Ak F (Aa (Bn Fx.agg56 rfl (sc.blk_cells (.tail _ <| .tail _ <| .head _) (o := 0) (ds := [.string ⟨⟨x0.Name⟩⟩, v1, .int .u8 (x0.Sig.Result.toNat : Int), .int .i64 x0.Locals, v2]) (fun j u hu => by rw [Nat.zero_add]; exact hu)) rfl) <| Ad) fun _ F => Bi (args := [.tmp 28]) F Fx.fn23 rfl (opt_Func_c (a0 := (⟨x0.Name, (⟨x0.Sig.Params, x0.Sig.Result⟩ : S_api_Sig), x0.Locals, x0.Code⟩ : S_api_Func))   (sc.rd0 (.tail _ <| .tail _ <| .tail _ <| .head _)) (sc.rd0 (.tail _ <| .tail _ <| .tail _ <| .tail _ <| .head _)) hb) rfl fun va w9 _ hc F => ?_
   obtain ⟨vb, vc, rfl, hd⟩ := hc
   have sd := sc.add hd
   refine Ak F (Aa (Ae rfl) <| Aa (As (v := .agg ⟨[.string ⟨⟨x2.1.Name⟩⟩, vb, .int .u8 (x2.1.Sig.Result.toNat : Int), .int .i64 x2.1.Locals, vc]⟩) rfl rfl) <| Aa (As (v := .int .i64 x2.2) rfl rfl) <| Ad) fun _ F => Bu F sd Fx.zero56 rfl rfl fun g3 wa _ F se => ?_
   have sf := se
   refine Au F sf rfl rfl Fx.sz56 (Af rfl (Af (Cs (Cc (sf.own_rd (.tail _ <| .head _)))) (Af rfl (Af rfl (Af (Cs (Cc (sf.own_rd (.tail _ <| .tail _ <| .head _)))) Bd))))) (Ah rfl) fun wb _ F sg => ?_
   replace sg : SL w [] wb [Blk g3 56 [.string ⟨⟨x2.1.Name⟩⟩, vb, .int .u8 (x2.1.Sig.Result.toNat : Int), .int .i64 x2.1.Locals, vc], Sl Ty.u8 vb x2.1.Sig.Params, Sl Ty.u8 vc x2.1.Code, Blk g2 56 [.string ⟨⟨x1.1.Name⟩⟩, v4, .int .u8 (x1.1.Sig.Result.toNat : Int), .int .i64 x1.1.Locals, v5], Sl Ty.u8 v5 x1.1.Code, Blk g1 56 [.string ⟨⟨x0.Name⟩⟩, v1, .int .u8 (x0.Sig.Result.toNat : Int), .int .i64 x0.Locals, v2], Sl Ty.u8 v1 x0.Sig.Params, Sl Ty.u8 v2 x0.Code, Blk g0 32 [v8, v9], Blk g9 56 [.string ⟨⟨a0.Name⟩⟩, v0_1, .int .u8 (a0.Sig.Result.toNat : Int), .int .i64 a0.Locals, v0_4], Sl (Ty.slice Ty.u8) v8 sb.1, Sl (Ty.slice (Ty.int .i64)) v9 sb.2.1] := sg
   refine Ak F (Aa (Am rfl) <| Ad) fun _ F => Aj <| Ab <| Ai <| Ai <| Al <| Ak F (Aa (Ae rfl) <| Aa (Ae rfl) <| Aa (Dd rfl rfl) <| Aa (Ae rfl) <| Ad) fun _ F => Bl (x2.2 != x1.2) (fun he => ?_) (fun he => ?_)
   ·replace H := Bb he H
    refine Ap F rfl rfl (An rfl he) Ac rfl rfl fun _ F => Ap F rfl rfl (An rfl he) Ac rfl rfl fun _ F => Ap F rfl rfl (An rfl he) Ac rfl rfl fun _ F => Ap F rfl rfl (An rfl he) Ac rfl rfl fun _ F => Ak F (Aa (Bh (Cb rfl he) rfl) <| Ad) fun _ F => Aj <| Ab <| Cy F rfl <| Ai <| Al <| Ak F (Aa (Am rfl) <| Ad) fun _ F => Aj <| Ab ?_
    obtain rfl := Ao H
    obtain rfl := hr _ rfl
    replace H := R0
    try dsimp only at H
    obtain rfl := Ao H
    refine Bf <| Bg <| blk_r <| Bg <| Bg <| blk_r <| Bg <| Bg ?_
    refine Ax (rs := [.tmp 2]) (vs := [.bool false]) F (by rfl) ⟨_, _, rfl, Ay rfl, rfl⟩ ⟨_, rfl, ⟨rfl, sg.drop.drop.drop.drop.drop.drop.drop.drop.drop.drop.drop.drop⟩⟩
   replace H := Bc he H
   refine Ar F rfl rfl (An rfl he) (Bn Fx.agg56 rfl (sg.blk_cells (.head _) (o := 0) (ds := [.string ⟨⟨x2.1.Name⟩⟩, vb, .int .u8 (x2.1.Sig.Result.toNat : Int), .int .i64 x2.1.Locals, vc]) (fun j u hu => by rw [Nat.zero_add]; exact hu)) rfl) rfl rfl fun _ F => Ar F rfl rfl (An rfl he) (Bn Fx.agg56 rfl (sg.blk_cells (.tail _ <| .tail _ <| .tail _ <| .head _) (o := 0) (ds := [.string ⟨⟨x1.1.Name⟩⟩, v4, .int .u8 (x1.1.Sig.Result.toNat : Int), .int .i64 x1.1.Locals, v5]) (fun j u hu => by rw [Nat.zero_add]; exact hu)) rfl) rfl rfl fun _ F => ?_
   obtain ⟨x3, hf, H⟩ := Aq H
   refine st_ungd F rfl (An rfl he) <| Bi (args := [.tmp 36, .tmp 37]) F Fx.fn30 rfl (provisoplain_SameFunc_c (a0 := (⟨x2.1.Name, (⟨x2.1.Sig.Params, x2.1.Sig.Result⟩ : S_api_Sig), x2.1.Locals, x2.1.Code⟩ : S_api_Func)) (a1 := (⟨x1.1.Name, (⟨x1.1.Sig.Params, x1.1.Sig.Result⟩ : S_api_Sig), x1.1.Locals, x1.1.Code⟩ : S_api_Func))   (sg.rd0 (.tail _ <| .head _)) (sg.rd0 (.tail _ <| .tail _ <| .head _)) (h8.pass0 sg) (sg.rd0 (.tail _ <| .tail _ <| .tail _ <| .tail _ <| .head _)) hf) rfl fun vd wc _ hg F => ?_
   obtain ⟨rfl, hh⟩ := hg
   have sh := sg.add hh
   refine Ar F rfl rfl (An rfl he) (Cx rfl) rfl rfl fun _ F => Ak F (Aa (Bj (Cb rfl he) rfl) <| Ad) fun _ F => Aj <| Ab <| Bm F rfl (fun hi => ?_) (fun hi => ?_)
   ·replace H := Bb hi H
    refine Ai <| Al <| Ak F (Aa (Am rfl) <| Ad) fun _ F => Aj <| Ab ?_
    obtain rfl := Ao H
    obtain rfl := hr _ rfl
    replace H := R0
    try dsimp only at H
    obtain rfl := Ao H
    refine Bf <| Bg <| blk_r <| Bg <| Bg <| blk_r <| Bg <| Bg ?_
    refine Ax (rs := [.tmp 2]) (vs := [.bool false]) F (by rfl) ⟨_, _, rfl, Ay rfl, rfl⟩ ⟨_, rfl, ⟨rfl, sh.drop.drop.drop.drop.drop.drop.drop.drop.drop.drop.drop.drop⟩⟩
   replace H := Bc hi H
   refine Aw <| Ab <| Ai <| Al ?_
   obtain ⟨x4, hj, H⟩ := Aq H
   refine Ak F (Aa (Ae rfl) <| Aa (Az Fx.fa56_3 rfl rfl) <| Aa (Ba Fx.nag22 rfl (sh.blk_cell (.head _) rfl)) <| Ad) fun _ F => ?_
   have si := sh.f2.f11.f11.f10
   obtain ⟨G0, hk, hl, hm, hn⟩ := SL.open_ (ps := [Blk g0 32 [v8, v9], Sl (Ty.slice Ty.u8) v8 sb.1, Sl (Ty.slice (Ty.int .i64)) v9 sb.2.1, Sl Ty.u8 vc x2.1.Code]) (rest := [Blk g3 56 [.string ⟨⟨x2.1.Name⟩⟩, vb, .int .u8 (x2.1.Sig.Result.toNat : Int), .int .i64 x2.1.Locals, vc], Sl Ty.u8 vb x2.1.Sig.Params, Blk g2 56 [.string ⟨⟨x1.1.Name⟩⟩, v4, .int .u8 (x1.1.Sig.Result.toNat : Int), .int .i64 x1.1.Locals, v5], Sl Ty.u8 v5 x1.1.Code, Blk g1 56 [.string ⟨⟨x0.Name⟩⟩, v1, .int .u8 (x0.Sig.Result.toNat : Int), .int .i64 x0.Locals, v2], Sl Ty.u8 v1 x0.Sig.Params, Sl Ty.u8 v2 x0.Code, Blk g9 56 [.string ⟨⟨a0.Name⟩⟩, v0_1, .int .u8 (a0.Sig.Result.toNat : Int), .int .i64 a0.Locals, v0_4]]) si
   refine Bi (args := [.tmp 41, .tmp 43]) F Fx.fn13 rfl (provisoplain_Shelf_Bytes_c (a0 := (⟨sb.1, sb.2.1⟩ : S_provisoplain_Shelf)) (a1 := x2.1.Code) hk   hj) rfl fun ve wd _ ho F => ?_
   obtain ⟨vf, vg, rfl, hp⟩ := ho
   have sj := hn _ _ hp
   refine Aj <| Ab <| Ai <| Al <| Ak F (Aa (Az Fx.fa56_1 rfl rfl) <| Aa (Az Fx.fa54_0 rfl rfl) <| Aa (Ba Fx.nag51 rfl (sj.blk_cell (.tail _ <| .tail _ <| .tail _ <| .head _) rfl)) <| Ad) fun _ F => ?_
   refine Cm (parts := [(0, .const (.int .u8 99))]) Flat.u8 ([(99 : UInt8)] : List UInt8) F sj Fx.sl51 rfl (by decide) rfl rfl rfl (by simp [Value.cells]) rfl rfl rfl fun vh we _ F sk => ?_
   obtain ⟨x5, hq, H⟩ := Aq H
   have sl := sk.f5
   obtain ⟨_, hr_⟩ := (sl.own_rd (.tail _ <| .head _))
   refine Ch Flat.u8 F sl Fx.sl51 rfl rfl rfl rfl hr_ rfl rfl hq rfl fun vi wf _ F sm => ?_
   have s35793' := sm.f1.drop
   refine Ak F (Aa (Az Fx.fa56_1 rfl rfl) <| Aa (Az Fx.fa54_0 rfl rfl) <| Ad) fun _ F => ?_
   have sn := s35793'.f4
   refine Ct F sn rfl rfl Fx.sz51 (Da (Cc (sn.own_rd (.tail _ <| .head _)))) (Cs (Cc (sn.own_rd (.tail _ <| .head _)))) rfl fun wg _ F so => ?_
   replace so : SL w [] wg [Blk g3 56 [.string ⟨⟨x2.1.Name⟩⟩, vi, .int .u8 (x2.1.Sig.Result.toNat : Int), .int .i64 x2.1.Locals, vc], Sl Ty.u8 vi x5, Blk g0 32 [vf, vg], Sl (Ty.slice Ty.u8) vf x4.bytes, Sl (Ty.slice (Ty.int .i64)) vg x4.ints, Blk g2 56 [.string ⟨⟨x1.1.Name⟩⟩, v4, .int .u8 (x1.1.Sig.Result.toNat : Int), .int .i64 x1.1.Locals, v5], Sl Ty.u8 v5 x1.1.Code, Blk g1 56 [.string ⟨⟨x0.Name⟩⟩, v1, .int .u8 (x0.Sig.Result.toNat : Int), .int .i64 x0.Locals, v2], Sl Ty.u8 v1 x0.Sig.Params, Sl Ty.u8 v2 x0.Code, Blk g9 56 [.string ⟨⟨a0.Name⟩⟩, v0_1, .int .u8 (a0.Sig.Result.toNat : Int), .int .i64 a0.Locals, v0_4]] := so
   refine Aj <| Ab <| Ai <| Al <| Ak F (Aa (Az Fx.fa56_1 rfl rfl) <| Aa (Az Fx.fa54_0 rfl rfl) <| Aa (Ba Fx.nag51 rfl (so.blk_cell (.head _) rfl)) <| Aa (Cd rfl Try.underlying51 (Cc (so.own_rd (.tail _ <| .head _)))) <| Aa (Ae rfl) <| Ad) fun _ F => Aj <| Ab ?_
   obtain ⟨o2, H1, R1⟩ := Aq H
   clear H
   refine Bx (fun a w_ => ∃ vj : Value, Fr a 96 [(1, .pointer (some ⟨g9, 0, none⟩)), (3, .pointer (some ⟨g0, 0, none⟩)), (4, .pointer (some ⟨g1, 0, none⟩)), (5, .pointer (some ⟨g2, 0, none⟩)), (6, .int .i64 x1.2), (25, .int .i64 sb.2.2), (37, .agg ⟨[.string ⟨⟨x1.1.Name⟩⟩, v4, .int .u8 (x1.1.Sig.Result.toNat : Int), .int .i64 x1.1.Locals, v5]⟩), (38, .bool x3), (39, .bool (!x3))] ∧ SL w [] w_ [Blk g0 32 [vf, vg], Sl (Ty.slice Ty.u8) vf x4.bytes, Sl (Ty.slice (Ty.int .i64)) vg x4.ints, Blk g2 56 [.string ⟨⟨x1.1.Name⟩⟩, v4, .int .u8 (x1.1.Sig.Result.toNat : Int), .int .i64 x1.1.Locals, v5], Sl Ty.u8 v5 x1.1.Code, Blk g1 56 [.string ⟨⟨x0.Name⟩⟩, v1, .int .u8 (x0.Sig.Result.toNat : Int), .int .i64 x0.Locals, v2], Sl Ty.u8 v1 x0.Sig.Params, Sl Ty.u8 v2 x0.Code, Blk g9 56 [.string ⟨⟨a0.Name⟩⟩, v0_1, .int .u8 (a0.Sig.Result.toNat : Int), .int .i64 a0.Locals, v0_4], Sl Ty.u8 vj o2]) ?_ ?_
   ·have H := H1
    refine Be <| Cq (provisolaw19_OptOwn_b0 x5) (fun sp a w_ => ∃ vk : Value, Fr a 96 [(1, .pointer (some ⟨g9, 0, none⟩)), (3, .pointer (some ⟨g0, 0, none⟩)), (4, .pointer (some ⟨g1, 0, none⟩)), (5, .pointer (some ⟨g2, 0, none⟩)), (6, .int .i64 x1.2), (7, .pointer (some ⟨g3, 0, none⟩)), (25, .int .i64 sb.2.2), (37, .agg ⟨[.string ⟨⟨x1.1.Name⟩⟩, v4, .int .u8 (x1.1.Sig.Result.toNat : Int), .int .i64 x1.1.Locals, v5]⟩), (38, .bool x3), (39, .bool (!x3)), (55, .int .i64 (x5.length : Int)), (56, .int .i64 sp.2)] ∧ SL w [] w_ [Blk g3 56 [.string ⟨⟨x2.1.Name⟩⟩, vk, .int .u8 (x2.1.Sig.Result.toNat : Int), .int .i64 x2.1.Locals, vc], Blk g0 32 [vf, vg], Sl (Ty.slice Ty.u8) vf x4.bytes, Sl (Ty.slice (Ty.int .i64)) vg x4.ints, Blk g2 56 [.string ⟨⟨x1.1.Name⟩⟩, v4, .int .u8 (x1.1.Sig.Result.toNat : Int), .int .i64 x1.1.Locals, v5], Sl Ty.u8 v5 x1.1.Code, Blk g1 56 [.string ⟨⟨x0.Name⟩⟩, v1, .int .u8 (x0.Sig.Result.toNat : Int), .int .i64 x0.Locals, v2], Sl Ty.u8 v1 x0.Sig.Params, Sl Ty.u8 v2 x0.Code, Blk g9 56 [.string ⟨⟨a0.Name⟩⟩, v0_1, .int .u8 (a0.Sig.Result.toNat : Int), .int .i64 a0.Locals, v0_4], Sl Ty.u8 vk sp.1]) H ?_ ?_
    ·exact ⟨vi, F.sub ⟨rfl, rfl, rfl, rfl, rfl, rfl, rfl, rfl, rfl, rfl, rfl, rfl, trivial⟩, so.f1.f10.f10.f10.f10.f10.f10.f10.f10.f10.f10⟩
    intro sp _ wh hs o3 H hr
    obtain ⟨vk, F, sq⟩ := hs
    replace H : provisolaw19_OptOwn_b0 x5 sp = some o3 := H
    unfold provisolaw19_OptOwn_b0 at H
    refine Ai <| Al <| Ak F (Aa (Cn rfl rfl) <| Ad) fun _ F => Aj <| Ab <| Ai <| Bm F rfl (fun ht => ?_) (fun ht => ?_)
    ·replace H := Bb ht H
     refine Aw <| Ab <| Ai <| Be <| Ai <| Al <| Ak F (Aa (Ae rfl) <| Aa (Am rfl) <| Ad) fun _ F => Aj <| Ab <| Al ?_
     obtain ⟨x6, hv, H⟩ := Aq H
     obtain ⟨a2, hw, hx⟩ := Cf Flat.u8 sq (.tail _ <| .tail _ <| .tail _ <| .tail _ <| .tail _ <| .tail _ <| .tail _ <| .tail _ <| .tail _ <| .tail _ <| .head _) Fx.sl51 rfl hv
     refine Ak F (Aa (Az Fx.fa56_1 rfl rfl) <| Aa (Az Fx.fa54_0 rfl rfl) <| Aa (Ba Fx.nag51 rfl (sq.blk_cell (.head _) rfl)) <| Aa (Ae rfl) <| Aa (hw _ _ _ _ _ _ _ _ _ _ rfl rfl) <| Ad) fun _ F => ?_
     refine Cr (y' := (98 : UInt8)) Flat.u8 F sq.f10 hx hv rfl rfl (by rfl) Fx.sz52 fun wi _ F sr => ?_
     refine Aj <| By <| Ab <| Al <| Ak F (Aa (Bp rfl rfl) <| Aa (Ae rfl) <| Ad) fun _ F => Aj ?_
     obtain rfl := Ao H
     refine Ab ?_
     exact ⟨_, rfl, vk, F.sub ⟨rfl, rfl, rfl, rfl, rfl, rfl, rfl, rfl, rfl, rfl, rfl, rfl, trivial⟩, sr.f10.f10.f10.f10.f10.f10.f10.f10.f10.f10⟩
    replace H := Bc ht H
    refine Bz <| Bo <| Bo <| Ca ?_
    obtain rfl := Ao H
    obtain rfl := hr _ rfl
    refine Ab ?_
    exact ⟨vk, F.sub ⟨rfl, rfl, rfl, rfl, rfl, rfl, rfl, rfl, rfl, trivial⟩, sq.drop⟩
   intro _ wj hJ
   obtain ⟨vj, F, ss⟩ := hJ
   have H := R1
   clear R1 H1
   refine By <| Ab <| Al <| Ak F (Aa (Bp rfl rfl) <| Aa (Ae rfl) <| Ad) fun _ F => Aj ?_
   obtain rfl := Ao H
   refine Ab ?_
   exact ⟨_, rfl, vf, vg, F.sub ⟨rfl, rfl, rfl, rfl, rfl, rfl, trivial⟩, ss.f9.drop.f2.f2.f8.f3.f8.f8.f8.f8.f8⟩
  replace H := Bc ha H
  refine Bz <| Bo <| Bo <| Ca ?_
  obtain rfl := Ao H
  obtain rfl := hr _ rfl
  refine Ab ?_
  exact ⟨_, rfl, v8, v9, F.sub ⟨rfl, rfl, rfl, rfl, rfl, trivial⟩, sc⟩
 intro _ wk hJ
 obtain ⟨p0, rfl, v6, v7, F, st⟩ := hJ
 have H := R0
 clear R0 H0
 try dsimp only at H
 refine Ab <| Ai <| Al ?_
 obtain ⟨x7, hy, H⟩ := Aq H
 refine Ak F (Aa (Ae rfl) <| Aa (Az Fx.fa56_3 rfl rfl) <| Aa (Ba Fx.nag22 rfl (st.blk_cell (.tail _ <| .tail _ <| .tail _ <| .tail _ <| .tail _ <| .tail _ <| .head _) rfl)) <| Ad) fun _ F => Bi (args := [.tmp 68]) F Fx.fn31 rfl (slices_Clone_byte_byte_c (a0 := a0.Code)   (hr0_4.pass0 st) hy) rfl fun vl wl _ hz F => ?_
 obtain ⟨_, rfl, h10⟩ := hz
 have su := st.add h10
 obtain ⟨x8, h11, H⟩ := Aq H
 have sv := su.f9.f9.f8
 obtain ⟨G1, h12, h13, h14, h15⟩ := SL.open_ (ps := [Blk g0 32 [v6, v7], Sl (Ty.slice Ty.u8) v6 p0.1, Sl (Ty.slice (Ty.int .i64)) v7 p0.2, Sl Ty.u8 vl x7]) (rest := [Blk g2 56 [.string ⟨⟨x1.1.Name⟩⟩, v4, .int .u8 (x1.1.Sig.Result.toNat : Int), .int .i64 x1.1.Locals, v5], Sl Ty.u8 v5 x1.1.Code, Blk g1 56 [.string ⟨⟨x0.Name⟩⟩, v1, .int .u8 (x0.Sig.Result.toNat : Int), .int .i64 x0.Locals, v2], Sl Ty.u8 v1 x0.Sig.Params, Sl Ty.u8 v2 x0.Code, Blk g9 56 [.string ⟨⟨a0.Name⟩⟩, v0_1, .int .u8 (a0.Sig.Result.toNat : Int), .int .i64 a0.Locals, v0_4]]) sv
 refine Bi (args := [.tmp 66, .tmp 69]) F Fx.fn13 rfl (provisoplain_Shelf_Bytes_c (a0 := (⟨p0.1, p0.2⟩ : S_provisoplain_Shelf)) (a1 := x7) h12   h11) rfl fun vm wm _ h16 F => ?_
 obtain ⟨vn, vo, rfl, h17⟩ := h16
 have sw := h15 _ _ h17
 refine Aj <| Ab <| Ai <| Ai <| Al ?_
 obtain ⟨x9, h18, H⟩ := Aq H
 refine Ak F (Aa (Bn Fx.agg56 rfl (sw.blk_cells (.tail _ <| .tail _ <| .tail _ <| .tail _ <| .tail _ <| .head _) (o := 0) (ds := [.string ⟨⟨x0.Name⟩⟩, v1, .int .u8 (x0.Sig.Result.toNat : Int), .int .i64 x0.Locals, v2]) (fun j u hu => by rw [Nat.zero_add]; exact hu)) rfl) <| Aa (Bn Fx.agg56 rfl (sw.blk_cells (.tail _ <| .tail _ <| .tail _ <| .tail _ <| .tail _ <| .tail _ <| .tail _ <| .tail _ <| .head _) (o := 0) (ds := [.string ⟨⟨a0.Name⟩⟩, v0_1, .int .u8 (a0.Sig.Result.toNat : Int), .int .i64 a0.Locals, v0_4]) (fun j u hu => by rw [Nat.zero_add]; exact hu)) rfl) <| Ad) fun _ F => Bi (args := [.tmp 71, .tmp 72]) F Fx.fn30 rfl (provisoplain_SameFunc_c (a0 := (⟨x0.Name, (⟨x0.Sig.Params, x0.Sig.Result⟩ : S_api_Sig), x0.Locals, x0.Code⟩ : S_api_Func)) (a1 := (⟨a0.Name, (⟨a0.Sig.Params, a0.Sig.Result⟩ : S_api_Sig), a0.Locals, a0.Code⟩ : S_api_Func))   (sw.rd0 (.tail _ <| .tail _ <| .tail _ <| .tail _ <| .tail _ <| .tail _ <| .head _)) (sw.rd0 (.tail _ <| .tail _ <| .tail _ <| .tail _ <| .tail _ <| .tail _ <| .tail _ <| .head _)) (hr0_1.pass0 sw) (hr0_4.pass0 sw) h18) rfl fun vp wn _ h19 F => ?_
 obtain ⟨rfl, h1a⟩ := h19
 have sx := sw.add h1a
 refine Ak F (Aa (Cx rfl) <| Ad) fun _ F => Aj <| Ab <| Bm F rfl (fun h1b => ?_) (fun h1b => ?_)
 ·replace H := Bb h1b H
  refine Ai <| Al <| Ak F (Aa (Am rfl) <| Ad) fun _ F => Aj <| Ab ?_
  obtain rfl := Ao H
  refine Bf <| Bg ?_
  refine Ax (rs := [.tmp 2]) (vs := [.bool false]) F (by rfl) ⟨_, _, rfl, Ay rfl, rfl⟩ ⟨_, rfl, ⟨rfl, sx.drop.drop.drop.drop.drop.drop.drop.drop.drop⟩⟩
 replace H := Bc h1b H
 refine Aw <| Ab <| Ai <| Al ?_
 obtain ⟨xa, h1c, H⟩ := Aq H
 refine Ak F (Aa (Ae rfl) <| Aa (Az Fx.fa56_3 rfl rfl) <| Aa (Ba Fx.nag22 rfl (sx.blk_cell (.tail _ <| .tail _ <| .tail _ <| .tail _ <| .tail _ <| .head _) rfl)) <| Ad) fun _ F => ?_
 have sy := sx.f7.f3.f3.f3
 obtain ⟨G2, h1d, h1e, h1f, h1g⟩ := SL.open_ (ps := [Blk g0 32 [vn, vo], Sl (Ty.slice Ty.u8) vn x8.bytes, Sl (Ty.slice (Ty.int .i64)) vo x8.ints, Sl Ty.u8 v2 x0.Code]) (rest := [Blk g2 56 [.string ⟨⟨x1.1.Name⟩⟩, v4, .int .u8 (x1.1.Sig.Result.toNat : Int), .int .i64 x1.1.Locals, v5], Sl Ty.u8 v5 x1.1.Code, Blk g1 56 [.string ⟨⟨x0.Name⟩⟩, v1, .int .u8 (x0.Sig.Result.toNat : Int), .int .i64 x0.Locals, v2], Sl Ty.u8 v1 x0.Sig.Params, Blk g9 56 [.string ⟨⟨a0.Name⟩⟩, v0_1, .int .u8 (a0.Sig.Result.toNat : Int), .int .i64 a0.Locals, v0_4]]) sy
 refine Bi (args := [.tmp 75, .tmp 77]) F Fx.fn13 rfl (provisoplain_Shelf_Bytes_c (a0 := (⟨x8.bytes, x8.ints⟩ : S_provisoplain_Shelf)) (a1 := x0.Code) h1d   h1c) rfl fun vq wo _ h1h F => ?_
 obtain ⟨vr, vt, rfl, h1i⟩ := h1h
 have sz := h1g _ _ h1i
 refine Aj <| Ab <| Ai <| Ai <| Al ?_
 obtain ⟨xb, h1j, H⟩ := Aq H
 refine Ak F (Aa (Ae rfl) <| Ad) fun _ F => ?_
 have s10 := sz.f2.f2.f2
 obtain ⟨G3, h1k, h1l, h1m, h1n⟩ := SL.open_ (ps := [Blk g0 32 [vr, vt], Sl (Ty.slice Ty.u8) vr xa.bytes, Sl (Ty.slice (Ty.int .i64)) vt xa.ints]) (rest := [Blk g2 56 [.string ⟨⟨x1.1.Name⟩⟩, v4, .int .u8 (x1.1.Sig.Result.toNat : Int), .int .i64 x1.1.Locals, v5], Sl Ty.u8 v5 x1.1.Code, Blk g1 56 [.string ⟨⟨x0.Name⟩⟩, v1, .int .u8 (x0.Sig.Result.toNat : Int), .int .i64 x0.Locals, v2], Sl Ty.u8 v1 x0.Sig.Params, Blk g9 56 [.string ⟨⟨a0.Name⟩⟩, v0_1, .int .u8 (a0.Sig.Result.toNat : Int), .int .i64 a0.Locals, v0_4]]) s10
 refine Bi (args := [.tmp 79]) F Fx.fn14 rfl (provisoplain_Shelf_Own_c (a0 := (⟨xa.bytes, xa.ints⟩ : S_provisoplain_Shelf)) h1k   h1j) rfl fun vu wp _ h1o F => ?_
 obtain ⟨rfl, h1p⟩ := h1o
 have s11 := h1n _ _ h1p
 refine Ak F (Aa (Cx rfl) <| Ad) fun _ F => Aj <| Ab <| Bm F rfl (fun h1q => ?_) (fun h1q => ?_)
 ·replace H := Bb h1q H
  refine Ai <| Al <| Ak F (Aa (Am rfl) <| Ad) fun _ F => Aj <| Ab ?_
  obtain rfl := Ao H
  refine Bf <| Bg ?_
  refine Ax (rs := [.tmp 2]) (vs := [.bool false]) F (by rfl) ⟨_, _, rfl, Ay rfl, rfl⟩ ⟨_, rfl, ⟨rfl, s11.drop.drop.drop.drop.drop⟩⟩
 replace H := Bc h1q H
 refine Aw <| Ab <| Ai <| Al ?_
 obtain ⟨xc, h1r, H⟩ := Aq H
 refine Ak F (Aa (Bn Fx.agg56 rfl (s11.blk_cells (.tail _ <| .tail _ <| .tail _ <| .tail _ <| .head _) (o := 0) (ds := [.string ⟨⟨a0.Name⟩⟩, v0_1, .int .u8 (a0.Sig.Result.toNat : Int), .int .i64 a0.Locals, v0_4]) (fun j u hu => by rw [Nat.zero_add]; exact hu)) rfl) <| Ad) fun _ F => Bi (args := [.tmp 83]) F Fx.fn24 rfl (provisoplain_Func_c (a0 := (⟨a0.Name, (⟨a0.Sig.Params, a0.Sig.Result⟩ : S_api_Sig), a0.Locals, a0.Code⟩ : S_api_Func))   (hr0_1.pass0 s11) (hr0_4.pass0 s11) h1r) rfl fun vv wq _ h1s F => ?_
 obtain ⟨vw, vx, rfl, h1t⟩ := h1s
 have s12 := s11.add h1t
 obtain ⟨xd, h1u, H⟩ := Aq H
 refine Bi (args := [.tmp 84]) F Fx.fn23 rfl (opt_Func_c (a0 := (⟨xc.Name, (⟨xc.Sig.Params, xc.Sig.Result⟩ : S_api_Sig), xc.Locals, xc.Code⟩ : S_api_Func))   (s12.rd0 (.head _)) (s12.rd0 (.tail _ <| .head _)) h1u) rfl fun vy wr _ h1v F => ?_
 obtain ⟨vz, v10, rfl, h1w⟩ := h1v
 have s14 := s12.add h1w
 refine Ak F (Aa (Ae rfl) <| Aa (As (v := .agg ⟨[.string ⟨⟨xd.1.Name⟩⟩, vz, .int .u8 (xd.1.Sig.Result.toNat : Int), .int .i64 xd.1.Locals, v10]⟩) rfl rfl) <| Aa (As (v := .int .i64 xd.2) rfl rfl) <| Ad) fun _ F => Bu F s14 Fx.zero56 rfl rfl fun g4 ws _ F s15 => ?_
 have s16 := s15
 refine Au F s16 rfl rfl Fx.sz56 (Af rfl (Af (Cs (Cc (s16.own_rd (.tail _ <| .head _)))) (Af rfl (Af rfl (Af (Cs (Cc (s16.own_rd (.tail _ <| .tail _ <| .head _)))) Bd))))) (Ah rfl) fun wt _ F s17 => ?_
 replace s17 : SL w [] wt [Blk g4 56 [.string ⟨⟨xd.1.Name⟩⟩, vz, .int .u8 (xd.1.Sig.Result.toNat : Int), .int .i64 xd.1.Locals, v10], Sl Ty.u8 vz xd.1.Sig.Params, Sl Ty.u8 v10 xd.1.Code, Sl Ty.u8 vw xc.Sig.Params, Sl Ty.u8 vx xc.Code, Blk g2 56 [.string ⟨⟨x1.1.Name⟩⟩, v4, .int .u8 (x1.1.Sig.Result.toNat : Int), .int .i64 x1.1.Locals, v5], Sl Ty.u8 v5 x1.1.Code, Blk g1 56 [.string ⟨⟨x0.Name⟩⟩, v1, .int .u8 (x0.Sig.Result.toNat : Int), .int .i64 x0.Locals, v2], Sl Ty.u8 v1 x0.Sig.Params, Blk g9 56 [.string ⟨⟨a0.Name⟩⟩, v0_1, .int .u8 (a0.Sig.Result.toNat : Int), .int .i64 a0.Locals, v0_4]] := s17
 refine Ak F (Aa (Am rfl) <| Ad) fun _ F => Aj <| Ab <| Ai <| Al <| Ak F (Aa (Ae rfl) <| Aa (Ae rfl) <| Aa (Bw rfl rfl) <| Aa (Ae rfl) <| Ad) fun _ F => Bl (xd.2 == x1.2) (fun h1x => ?_) (fun h1x => ?_)
 ·replace H := Bb h1x H
  refine Ar F rfl rfl (An rfl h1x) (Bn Fx.agg56 rfl (s17.blk_cells (.head _) (o := 0) (ds := [.string ⟨⟨xd.1.Name⟩⟩, vz, .int .u8 (xd.1.Sig.Result.toNat : Int), .int .i64 xd.1.Locals, v10]) (fun j u hu => by rw [Nat.zero_add]; exact hu)) rfl) rfl rfl fun _ F => Ar F rfl rfl (An rfl h1x) (Bn Fx.agg56 rfl (s17.blk_cells (.tail _ <| .tail _ <| .tail _ <| .tail _ <| .tail _ <| .head _) (o := 0) (ds := [.string ⟨⟨x1.1.Name⟩⟩, v4, .int .u8 (x1.1.Sig.Result.toNat : Int), .int .i64 x1.1.Locals, v5]) (fun j u hu => by rw [Nat.zero_add]; exact hu)) rfl) rfl rfl fun _ F => ?_
  obtain ⟨xe, h1y, H⟩ := Aq H
  refine st_ungd F rfl (An rfl h1x) <| Bi (args := [.tmp 92, .tmp 93]) F Fx.fn30 rfl (provisoplain_SameFunc_c (a0 := (⟨xd.1.Name, (⟨xd.1.Sig.Params, xd.1.Sig.Result⟩ : S_api_Sig), xd.1.Locals, xd.1.Code⟩ : S_api_Func)) (a1 := (⟨x1.1.Name, (⟨x1.1.Sig.Params, x1.1.Sig.Result⟩ : S_api_Sig), x1.1.Locals, x1.1.Code⟩ : S_api_Func))   (s17.rd0 (.tail _ <| .head _)) (s17.rd0 (.tail _ <| .tail _ <| .head _)) (h8.pass0 s17) (s17.rd0 (.tail _ <| .tail _ <| .tail _ <| .tail _ <| .tail _ <| .tail _ <| .head _)) h1y) rfl fun v11 wu _ h1z F => ?_
  obtain ⟨rfl, h20⟩ := h1z
  have s18 := s17.add h20
  refine Ak F (Aa (Bh (Cb rfl h1x) rfl) <| Aa (Am rfl) <| Ad) fun _ F => Aj <| Ab ?_
  obtain rfl := Ao H
  refine Bf ?_
  refine Ax (rs := [.tmp 2]) (vs := [.bool xe]) F (by rfl) ⟨_, _, rfl, Ay rfl, rfl⟩ ⟨_, rfl, ⟨rfl, s18.drop.drop.drop.drop.drop.drop.drop.drop.drop.drop⟩⟩
 replace H := Bc h1x H
 refine Ap F rfl rfl (An rfl h1x) Ac rfl rfl fun _ F => Ap F rfl rfl (An rfl h1x) Ac rfl rfl fun _ F => Ap F rfl rfl (An rfl h1x) Ac rfl rfl fun _ F => Ak F (Aa (Bj (Cb rfl h1x) rfl) <| Aa (Am rfl) <| Ad) fun _ F => Aj <| Ab ?_
 obtain rfl := Ao H
 refine Bf ?_
 refine Ax (rs := [.tmp 2]) (vs := [.bool false]) F (by rfl) ⟨_, _, rfl, Ay rfl, rfl⟩ ⟨_, rfl, ⟨rfl, s17.drop.drop.drop.drop.drop.drop.drop.drop.drop.drop⟩⟩
end Go.Proofs.Ytmeodoidfpcjlaa
