/- Walks, merged. -/
import Derived.Test.YtmeodoidfpcjlaaW8a
set_option linter.unusedVariables false
set_option linter.unusedSimpArgs false
namespace Go.Proofs.Ytmeodoidfpcjlaa
open Go Go.RowKit Go.Pv
open Go.Pv.PR renaming op → Aa, nil → Ad
open Go.Pv renaming then_n → Ab, ex_move → Ae, one_cons → Af, st_end → Aj, st_pr → Ak, wp_reg → Al, ex_asg → Am, look_b → An, some_ok → Ao, st_gskip → Ap, bind_ok → Aq, st_gop → Ar, ex_extract → As, st_storea → Au, kq_end → Av, ret_gen → Ax, ex_fab → Az, ex_ld → Ba, ite_t → Bb, ite_f → Bc, one_nil → Bd, then_r → Bg, ex_pick_t → Bh, st_call → Bi, ex_pick_f → Bj, hd_one → Bk, bool_split → Bl, wp_if → Bm, ex_ldagg → Bn, then_x → Bo, ex_add → Bp, call_enter → Bq, wpOp_of → Br, hd_cons → Bs, st_op → Bt, st_alloc → Bu, hd_take → Bv, ex_eq → Bw, wp_cutn → Bx, blk_n → By, blk_hit → Ca, ev_b → Cb, formL → Cc, ex_len → Cd, st_gskip' → Ce, own_idx → Cf, hd_done → Cg, st_append_rd → Ch, hd_many → Cj, wp_if_f → Cl, st_bslice → Cm, ex_lt → Cn, ex_build → Co, hd_nil → Cp, wp_lp → Cq, st_setel → Cr, form_one → Cs, st_store → Ct, rdL → Cu, ex_nilcheck → Cv, ex_fa → Cw, ex_not → Cx, wp_if_t → Cy, st_box → Cz, form_cells → Da, blk_miss → Db, idxL → Dc, ex_ne → Dd, st_setfld → Dg
open Bool renaming noConfusion → Ac
open Nat renaming le_of_ble_eq_true → Ah
open Go renaming wp_seq → Ai, wp_skip → Aw, wp_block → Be, wp_ret → Bf, wp_exit → Bz
open Go.Pv.RV renaming tmp → Ay, blk → Ci
open Go.Pv.QR renaming op → De
-- proviso/opt.constants
theorem opt_constants_c {w : World} {FF : List Nat} {v0 : Value} {a0 : List S_opt_item} {r : (List S_opt_item) × Bool} (hst : Star [Sl T_opt_item v0 a0] w FF)  (H : opt_constants a0 = some r) :
    Calls Try.prog 66 #[v0] w (Ret fun u_ w_ => ∃ u0 : Value, u_ = .tuple ⟨[u0, .bool r.2]⟩ ∧ SL w FF w_ [Sl T_opt_item u0 r.1]) := by
 have s0 : SL w FF w [Sl T_opt_item v0 a0] := SL.init w FF hst
 refine Bq Try.func66 rfl Try.ntmps66 (Ah rfl) (args := [v0]) fun q0 F0 => ?_
 unfold opt_constants at H
 refine Ai <| Al <| Cz F0 s0 rfl (Da (Cc (s0.own_rd (.head _)))) rfl fun g9 w0 _ F s1 => Ak F (Aa (Am rfl) <| Aa (Am rfl) <| Ad) fun _ F => Aj <| Ab <| Ai <| Al ?_
 obtain ⟨x0, h0, H⟩ := Aq H
 refine Ak F (Aa (Ba Fx.nag94 rfl (s1.blk_cell (.head _) rfl)) <| Ad) fun _ F => Bi (args := [.tmp 12]) F Fx.fn96 rfl (opt_led_c (a0 := a0)   (s1.rd0 (.tail _ <| .head _)) h0) rfl fun v1 w1 _ h1 F => ?_
 obtain ⟨_, rfl, h2⟩ := h1
 have s2 := s1.add h2
 refine Bu F s2 Fx.zero93 rfl rfl fun g0 w2 _ F s3 => ?_
 have s4 := s3
 refine Ct F s4 rfl rfl Fx.sz93 (Da (Cc (s4.own_rd (.tail _ <| .head _)))) (Cs (Cc (s4.own_rd (.tail _ <| .head _)))) rfl fun w3 _ F s5 => ?_
 replace s5 : SL w FF w3 [Blk g0 93 [v1], Sl Ty.bool v1 x0, Blk g9 94 [v0], Sl T_opt_item v0 a0] := s5
 refine Aj <| Ab <| Ai <| Al <| Ak F (Aa (Am rfl) <| Ad) fun _ F => Aj <| Ab <| Ai <| Al <| Ak F (Aa (ex_mkfunc (cs := [.tmp 1, .tmp 4]) (vs := [.pointer (some ⟨g9, 0, none⟩), .pointer (some ⟨g0, 0, none⟩)]) rfl) <| Aa (Am rfl) <| Ad) fun _ F => Aj <| Ab <| Ai <| Ai <| Al <| Ak F (Aa (Am rfl) <| Ad) fun _ F => Aj <| Ab ?_
 obtain ⟨o0, H0, R0⟩ := Aq H
 clear H
 refine Bx (fun a w_ => ∃ v2 : Value, Fr a 98 [(1, .pointer (some ⟨g9, 0, none⟩)), (5, .bool o0.2)] ∧ SL w FF w_ [Sl Ty.bool v1 x0, Blk g9 94 [v2], Sl T_opt_item v2 o0.1]) ?_ ?_
 ·have H := H0
  refine Be <| Cq (opt_constants_b0 x0) (fun s6 a w_ => ∃ v3 : Value, Fr a 98 [(1, .pointer (some ⟨g9, 0, none⟩)), (5, .bool s6.2.1), (6, clo 97 [.pointer (some ⟨g9, 0, none⟩), .pointer (some ⟨g0, 0, none⟩)]), (7, .int .i64 s6.2.2)] ∧ SL w FF w_ [Blk g0 93 [v1], Sl Ty.bool v1 x0, Blk g9 94 [v3], Sl T_opt_item v3 s6.1]) H ?_ ?_
  ·exact ⟨v0, F.sub ⟨rfl, rfl, rfl, rfl, trivial⟩, s5⟩
  intro s6 _ w4 h3 o1 H hr
  obtain ⟨v3, F, s7⟩ := h3
  replace H : opt_constants_b0 x0 s6 = some o1 := H
  unfold opt_constants_b0 at H
  refine Ai <| Ai <| Al <| Ak F (Aa (Ae rfl) <| Aa (Ba Fx.nag94 rfl (s7.blk_cell (.tail _ <| .tail _ <| .head _) rfl)) <| Aa (Cd rfl Try.underlying94 (Cc (s7.own_rd (.tail _ <| .tail _ <| .tail _ <| .head _)))) <| Aa (Cn rfl rfl) <| Ad) fun _ F => Aj <| Ab <| Bm F rfl (fun h4 => ?_) (fun h4 => ?_)
  ·replace H := Bb h4 H
   refine Aw <| Ab <| Ai ?_
   obtain ⟨o2, H1, R1⟩ := Aq H
   clear H
   refine Bx (fun a w_ => ∃ v4 : Value, Fr a 98 [(1, .pointer (some ⟨g9, 0, none⟩)), (5, .bool o2.2.1), (6, clo 97 [.pointer (some ⟨g9, 0, none⟩), .pointer (some ⟨g0, 0, none⟩)]), (7, .int .i64 o2.2.2)] ∧ SL w FF w_ [Blk g9 94 [v4], Blk g0 93 [v1], Sl Ty.bool v1 x0, Sl T_opt_item v4 o2.1]) ?_ ?_
   ·have H := H1
    refine Be <| Ai <| Ai <| Al ?_
    obtain ⟨x1, h5, H⟩ := Aq H
    refine Ak F (Aa (Ae rfl) <| Aa (Ae rfl) <| Aa (Bp rfl rfl) <| Ad) fun _ F => ?_
    have s8 := s7.f1.f1.f3.f3
    obtain ⟨G0, h6, h7, h8, h9⟩ := SL.open_ (ps := [Blk g9 94 [v3], Sl T_opt_item v3 s6.1, Blk g0 93 [v1], Sl Ty.bool v1 x0]) (rest := []) s8
    refine st_callf (args := [.tmp 23]) F Fx.fn97 rfl rfl (opt_constants_1_s2_c (a0 := wr (s6.2.2 + 1)) (a1 := s6.1) (a2 := x0) h6   h5) rfl fun v5 w5 _ ha F => ?_
    obtain ⟨rfl, hb⟩ := ha
    have s9 := h9 _ _ hb
    refine Ak F (Aa (Cx rfl) <| Ad) fun _ F => Aj <| Ab <| Bm F rfl (fun hc => ?_) (fun hc => ?_)
    ·replace H := Bb hc H
     refine Bz <| Bo <| Ca ?_
     obtain rfl := Ao H
     refine Ab ?_
     exact ⟨v3, F.sub ⟨rfl, rfl, rfl, rfl, trivial⟩, s9.f1.f3.f3.f3⟩
    replace H := Bc hc H
    refine Aw <| Ab <| Ai ?_
    obtain ⟨o3, H2, R2⟩ := Aq H
    clear H
    refine Bx (fun a w_ => ∃ p0 : Unit, o3 = .inr (p0) ∧ Fr a 98 [(1, .pointer (some ⟨g9, 0, none⟩)), (5, .bool s6.2.1), (6, clo 97 [.pointer (some ⟨g9, 0, none⟩), .pointer (some ⟨g0, 0, none⟩)]), (7, .int .i64 s6.2.2)] ∧ SL w FF w_ [Blk g9 94 [v3], Sl T_opt_item v3 s6.1, Blk g0 93 [v1], Sl Ty.bool v1 x0]) ?_ ?_
    ·have H := H2
     refine Ai <| Al ?_
     obtain ⟨x2, hd, H⟩ := Aq H
     refine Ak F (Aa (Ae rfl) <| Aa (Ae rfl) <| Aa (Bp rfl rfl) <| Ad) fun _ F => ?_
     have sa := s9.f3.f3.f3.f3
     obtain ⟨G1, he, hf, hg, hh⟩ := SL.open_ (ps := [Blk g9 94 [v3], Sl T_opt_item v3 s6.1, Blk g0 93 [v1], Sl Ty.bool v1 x0]) (rest := []) sa
     refine st_callf (args := [.tmp 28]) F Fx.fn97 rfl rfl (opt_constants_1_s2_c (a0 := wr (s6.2.2 + 2)) (a1 := s6.1) (a2 := x0) he   hd) rfl fun v6 w6 _ hi F => ?_
     obtain ⟨rfl, hj⟩ := hi
     have sb := hh _ _ hj
     refine Aj <| Ab <| Bm F rfl (fun hk => ?_) (fun hk => ?_)
     ·replace H := Bb hk H
      refine Ai ?_
      obtain ⟨o4, H3, R3⟩ := Aq H
      clear H
      refine Bx (fun a w_ => ∃ g1 : Nat, Fr a 98 [(1, .pointer (some ⟨g9, 0, none⟩)), (5, .bool s6.2.1), (6, clo 97 [.pointer (some ⟨g9, 0, none⟩), .pointer (some ⟨g0, 0, none⟩)]), (7, .int .i64 s6.2.2), (8, .pointer (some ⟨g1, 0, none⟩)), (9, .bool o4.2.2.2.2.2.2)] ∧ SL w FF w_ [Blk g9 94 [v3], Sl T_opt_item v3 s6.1, Blk g0 93 [v1], Sl Ty.bool v1 x0, Blk g1 121 [.int .i64 o4.1, .int .u8 (o4.2.1.toNat : Int), .int .i64 o4.2.2.1, .int .i64 o4.2.2.2.1, .int .i64 o4.2.2.2.2.1, .bool o4.2.2.2.2.2.1]]) ?_ ?_
      ·have H := H3
       obtain ⟨x3, hl, H⟩ := Aq H
       obtain ⟨x4, hm, H⟩ := Aq H
       obtain ⟨x5, hn, H⟩ := Aq H
       obtain ⟨x6, ho, H⟩ := Aq H
       refine wp_regh Fx.mixed (fun w_ => SL w FF w_ [Blk g9 94 [v3], Sl T_opt_item v3 s6.1, Blk g0 93 [v1], Sl Ty.bool v1 x0]) ?_
       have sc := sb.drew
       have sd : SL w FF _ [Blk g9 94 [v3], Sl T_opt_item v3 s6.1, Blk g0 93 [v1], Sl Ty.bool v1 x0] := sc
       refine Bv (i := 0) rfl (by kernel_rfl) (by kernel_rfl) (by kernel_rfl) (fun _ hC => Ba Fx.nag94 rfl (hC.blk_cell (.head _) rfl)) rfl rfl rfl F sd fun _ F => ?_
       refine Bv (i := 1) rfl (by kernel_rfl) (by kernel_rfl) (by kernel_rfl) (fun _ hC => Ae rfl) rfl rfl rfl F sd fun _ F => ?_
       obtain ⟨a3, hp, hq⟩ := idxC (C := fun w_ => SL w FF w_ [Blk g9 94 [v3], Sl T_opt_item v3 s6.1, Blk g0 93 [v1], Sl Ty.bool v1 x0]) F_opt_item (fun _ hC => (hC.own_rd (.tail _ <| .head _))) sd Fx.sl94 rfl hl
       refine Bv (i := 2) rfl (by kernel_rfl) (by kernel_rfl) (by kernel_rfl) (fun _ hC => hp _ _ _ _ _ _ _ _ _ _ rfl rfl) rfl rfl rfl F sd fun _ F => ?_
       refine Bv (i := 3) rfl (by kernel_rfl) (by kernel_rfl) (by kernel_rfl) (fun _ hC => Cw Fx.fa121_0 rfl) rfl rfl rfl F sd fun _ F => ?_
       refine Bv (i := 4) rfl (by kernel_rfl) (by kernel_rfl) (by kernel_rfl) (fun _ hC => Bn Fx.agg90 rfl (Cells.sub (hq _ hC) 0 (ds := [.int .i64 x3.in_.At, .int .u8 (x3.in_.Op.toNat : Int), .int .i64 x3.in_.A, .int .i64 x3.in_.B]) (subcells _ rfl)) rfl) rfl rfl rfl F sd fun _ F => ?_
       refine Bv (i := 5) rfl (by kernel_rfl) (by kernel_rfl) (by kernel_rfl) (fun _ hC => Ba Fx.nag94 rfl (hC.blk_cell (.head _) rfl)) rfl rfl rfl F sd fun _ F => ?_
       refine Bv (i := 6) rfl (by kernel_rfl) (by kernel_rfl) (by kernel_rfl) (fun _ hC => Ae rfl) rfl rfl rfl F sd fun _ F => ?_
       refine Bv (i := 7) rfl (by kernel_rfl) (by kernel_rfl) (by kernel_rfl) (fun _ hC => Bp rfl rfl) rfl rfl rfl F sd fun _ F => ?_
       obtain ⟨a4, hs, ht⟩ := idxC (C := fun w_ => SL w FF w_ [Blk g9 94 [v3], Sl T_opt_item v3 s6.1, Blk g0 93 [v1], Sl Ty.bool v1 x0]) F_opt_item (fun _ hC => (hC.own_rd (.tail _ <| .head _))) sd Fx.sl94 rfl hm
       refine Bv (i := 8) rfl (by kernel_rfl) (by kernel_rfl) (by kernel_rfl) (fun _ hC => hs _ _ _ _ _ _ _ _ _ _ rfl rfl) rfl rfl rfl F sd fun _ F => ?_
       refine Bv (i := 9) rfl (by kernel_rfl) (by kernel_rfl) (by kernel_rfl) (fun _ hC => Cw Fx.fa121_0 rfl) rfl rfl rfl F sd fun _ F => ?_
       refine Bv (i := 10) rfl (by kernel_rfl) (by kernel_rfl) (by kernel_rfl) (fun _ hC => Bn Fx.agg90 rfl (Cells.sub (ht _ hC) 0 (ds := [.int .i64 x4.in_.At, .int .u8 (x4.in_.Op.toNat : Int), .int .i64 x4.in_.A, .int .i64 x4.in_.B]) (subcells _ rfl)) rfl) rfl rfl rfl F sd fun _ F => ?_
       refine Bv (i := 11) rfl (by kernel_rfl) (by kernel_rfl) (by kernel_rfl) (fun _ hC => Ba Fx.nag94 rfl (hC.blk_cell (.head _) rfl)) rfl rfl rfl F sd fun _ F => ?_
       refine Bv (i := 12) rfl (by kernel_rfl) (by kernel_rfl) (by kernel_rfl) (fun _ hC => Ae rfl) rfl rfl rfl F sd fun _ F => ?_
       refine Bv (i := 13) rfl (by kernel_rfl) (by kernel_rfl) (by kernel_rfl) (fun _ hC => Bp rfl rfl) rfl rfl rfl F sd fun _ F => ?_
       obtain ⟨a5, hv, hw⟩ := idxC (C := fun w_ => SL w FF w_ [Blk g9 94 [v3], Sl T_opt_item v3 s6.1, Blk g0 93 [v1], Sl Ty.bool v1 x0]) F_opt_item (fun _ hC => (hC.own_rd (.tail _ <| .head _))) sd Fx.sl94 rfl hn
       refine Bv (i := 14) rfl (by kernel_rfl) (by kernel_rfl) (by kernel_rfl) (fun _ hC => hv _ _ _ _ _ _ _ _ _ _ rfl rfl) rfl rfl rfl F sd fun _ F => ?_
       refine Bv (i := 15) rfl (by kernel_rfl) (by kernel_rfl) (by kernel_rfl) (fun _ hC => Cw Fx.fa121_0 rfl) rfl rfl rfl F sd fun _ F => ?_
       refine Bv (i := 16) rfl (by kernel_rfl) (by kernel_rfl) (by kernel_rfl) (fun _ hC => Bn Fx.agg90 rfl (Cells.sub (hw _ hC) 0 (ds := [.int .i64 x5.in_.At, .int .u8 (x5.in_.Op.toNat : Int), .int .i64 x5.in_.A, .int .i64 x5.in_.B]) (subcells _ rfl)) rfl) rfl rfl rfl F sd fun _ F => ?_
       refine Cj (rs := [17, 21]) (by kernel_rfl) (by decide) (Bs (Br rfl ?_) (Bs (Br rfl ?_) (Cp)))
       ·refine Bi (args := [.tmp 35, .tmp 41, .tmp 47]) F Fx.fn98 rfl (opt_three_c (a0 := (⟨x3.in_.At, x3.in_.Op, x3.in_.A, x3.in_.B⟩ : S_api_Instr)) (a1 := (⟨x4.in_.At, x4.in_.Op, x4.in_.A, x4.in_.B⟩ : S_api_Instr)) (a2 := (⟨x5.in_.At, x5.in_.Op, x5.in_.A, x5.in_.B⟩ : S_api_Instr))    ho) rfl fun v7 w7 _ hx F => ?_
        obtain ⟨rfl, hy⟩ := hx
        have se := sc.add hy
        have sf : SL w FF _ [Blk g9 94 [v3], Sl T_opt_item v3 s6.1, Blk g0 93 [v1], Sl Ty.bool v1 x0] := se
        refine Av ⟨sf, ?_⟩
        refine Cj (rs := [18, 21]) (by kernel_rfl) (by decide) (Bs (Br rfl ?_) (Bs (Br rfl ?_) (Cp)))
        ·refine Bt F (Ae rfl) rfl rfl rfl fun _ F => ?_
         have sg : SL w FF _ [Blk g9 94 [v3], Sl T_opt_item v3 s6.1, Blk g0 93 [v1], Sl Ty.bool v1 x0] := se
         refine Av ⟨sg, ?_⟩
         refine Cj (rs := [19, 20, 21]) (by kernel_rfl) (by decide) (Bs (Br rfl ?_) (Bs (Br rfl ?_) (Bs (Br rfl ?_) (Cp))))
         ·refine Bt F (As (v := .agg ⟨[.int .i64 x6.1.in_.At, .int .u8 (x6.1.in_.Op.toNat : Int), .int .i64 x6.1.in_.A, .int .i64 x6.1.in_.B, .int .i64 x6.1.to, .bool x6.1.gone]⟩) rfl rfl) rfl rfl rfl fun _ F => ?_
          have sh : SL w FF _ [Blk g9 94 [v3], Sl T_opt_item v3 s6.1, Blk g0 93 [v1], Sl Ty.bool v1 x0] := se
          refine Av ⟨sh, ?_⟩
          refine Cj (rs := [20, 21]) (by kernel_rfl) (by decide) (Bs (Br rfl ?_) (Bs (Br rfl ?_) (Cp)))
          ·refine Bt F (As (v := .bool x6.2) rfl rfl) rfl rfl rfl fun _ F => ?_
           have si : SL w FF _ [Blk g9 94 [v3], Sl T_opt_item v3 s6.1, Blk g0 93 [v1], Sl Ty.bool v1 x0] := se
           refine Av ⟨si, ?_⟩
           refine Bk (i := 21) rfl (by kernel_rfl) ?_
           refine Bu F se Fx.zero121 rfl rfl fun g2 w8 _ F sj => ?_
           have sk : SL w FF _ [Blk g9 94 [v3], Sl T_opt_item v3 s6.1, Blk g0 93 [v1], Sl Ty.bool v1 x0] := sj.drop
           refine Av ⟨sk, ?_⟩
           refine Bk (i := 22) rfl (by kernel_rfl) ?_
           have sl := sj
           refine Au F sl rfl rfl Fx.sz121 (Af rfl (Af rfl (Af rfl (Af rfl (Af rfl (Af rfl Bd)))))) (Ah rfl) fun w9 _ F sm => ?_
           replace sm : SL w FF w9 [Blk g2 121 [.int .i64 x6.1.in_.At, .int .u8 (x6.1.in_.Op.toNat : Int), .int .i64 x6.1.in_.A, .int .i64 x6.1.in_.B, .int .i64 x6.1.to, .bool x6.1.gone], Blk g9 94 [v3], Sl T_opt_item v3 s6.1, Blk g0 93 [v1], Sl Ty.bool v1 x0] := sm
           have sn : SL w FF _ [Blk g9 94 [v3], Sl T_opt_item v3 s6.1, Blk g0 93 [v1], Sl Ty.bool v1 x0] := sm.drop
           refine Av ⟨sn, ?_⟩
           refine Bk (i := 23) rfl (by kernel_rfl) ?_
           refine Bt F (Am rfl) rfl rfl rfl fun _ F => ?_
           have so : SL w FF _ [Blk g9 94 [v3], Sl T_opt_item v3 s6.1, Blk g0 93 [v1], Sl Ty.bool v1 x0] := sm.drop
           refine Av ⟨so, ?_⟩
           refine Cg (by kernel_rfl) ?_
           obtain rfl := Ao H
           refine Ab ?_
           exact ⟨g2, F.sub ⟨rfl, rfl, rfl, rfl, rfl, rfl, trivial⟩, sm.f4.f4.f4.f4⟩
          refine Bu F se Fx.zero121 rfl rfl fun g3 wa _ F sp => ?_
          have sq : SL w FF _ [Blk g9 94 [v3], Sl T_opt_item v3 s6.1, Blk g0 93 [v1], Sl Ty.bool v1 x0] := sp.drop
          refine Av ⟨sq, ?_⟩
          refine Cj (rs := [20, 22]) (by kernel_rfl) (by decide) (Bs (Br rfl ?_) (Bs (Br rfl ?_) (Cp)))
          ·refine Bt F (As (v := .bool x6.2) rfl rfl) rfl rfl rfl fun _ F => ?_
           have sr : SL w FF _ [Blk g9 94 [v3], Sl T_opt_item v3 s6.1, Blk g0 93 [v1], Sl Ty.bool v1 x0] := sp.drop
           refine Av ⟨sr, ?_⟩
           refine Bk (i := 22) rfl (by kernel_rfl) ?_
           have ss := sp
           refine Au F ss rfl rfl Fx.sz121 (Af rfl (Af rfl (Af rfl (Af rfl (Af rfl (Af rfl Bd)))))) (Ah rfl) fun wb _ F st => ?_
           replace st : SL w FF wb [Blk g3 121 [.int .i64 x6.1.in_.At, .int .u8 (x6.1.in_.Op.toNat : Int), .int .i64 x6.1.in_.A, .int .i64 x6.1.in_.B, .int .i64 x6.1.to, .bool x6.1.gone], Blk g9 94 [v3], Sl T_opt_item v3 s6.1, Blk g0 93 [v1], Sl Ty.bool v1 x0] := st
           have su : SL w FF _ [Blk g9 94 [v3], Sl T_opt_item v3 s6.1, Blk g0 93 [v1], Sl Ty.bool v1 x0] := st.drop
           refine Av ⟨su, ?_⟩
           refine Bk (i := 23) rfl (by kernel_rfl) ?_
           refine Bt F (Am rfl) rfl rfl rfl fun _ F => ?_
           have sv : SL w FF _ [Blk g9 94 [v3], Sl T_opt_item v3 s6.1, Blk g0 93 [v1], Sl Ty.bool v1 x0] := st.drop
           refine Av ⟨sv, ?_⟩
           refine Cg (by kernel_rfl) ?_
           obtain rfl := Ao H
           refine Ab ?_
           exact ⟨g3, F.sub ⟨rfl, rfl, rfl, rfl, rfl, rfl, trivial⟩, st.f4.f4.f4.f4⟩
          have sw := sp
          refine Au F sw rfl rfl Fx.sz121 (Af rfl (Af rfl (Af rfl (Af rfl (Af rfl (Af rfl Bd)))))) (Ah rfl) fun wc _ F sx => ?_
          replace sx : SL w FF wc [Blk g3 121 [.int .i64 x6.1.in_.At, .int .u8 (x6.1.in_.Op.toNat : Int), .int .i64 x6.1.in_.A, .int .i64 x6.1.in_.B, .int .i64 x6.1.to, .bool x6.1.gone], Blk g9 94 [v3], Sl T_opt_item v3 s6.1, Blk g0 93 [v1], Sl Ty.bool v1 x0] := sx
          have sy : SL w FF _ [Blk g9 94 [v3], Sl T_opt_item v3 s6.1, Blk g0 93 [v1], Sl Ty.bool v1 x0] := sx.drop
          refine Av ⟨sy, ?_⟩
          refine Bk (i := 20) rfl (by kernel_rfl) ?_
          refine Bt F (As (v := .bool x6.2) rfl rfl) rfl rfl rfl fun _ F => ?_
          have sz : SL w FF _ [Blk g9 94 [v3], Sl T_opt_item v3 s6.1, Blk g0 93 [v1], Sl Ty.bool v1 x0] := sx.drop
          refine Av ⟨sz, ?_⟩
          refine Bk (i := 23) rfl (by kernel_rfl) ?_
          refine Bt F (Am rfl) rfl rfl rfl fun _ F => ?_
          have s10 : SL w FF _ [Blk g9 94 [v3], Sl T_opt_item v3 s6.1, Blk g0 93 [v1], Sl Ty.bool v1 x0] := sx.drop
          refine Av ⟨s10, ?_⟩
          refine Cg (by kernel_rfl) ?_
          obtain rfl := Ao H
          refine Ab ?_
          exact ⟨g3, F.sub ⟨rfl, rfl, rfl, rfl, rfl, rfl, trivial⟩, sx.f4.f4.f4.f4⟩
         ·refine Bt F (As (v := .bool x6.2) rfl rfl) rfl rfl rfl fun _ F => ?_
          have s11 : SL w FF _ [Blk g9 94 [v3], Sl T_opt_item v3 s6.1, Blk g0 93 [v1], Sl Ty.bool v1 x0] := se
          refine Av ⟨s11, ?_⟩
          refine Cj (rs := [19, 21]) (by kernel_rfl) (by decide) (Bs (Br rfl ?_) (Bs (Br rfl ?_) (Cp)))
          ·refine Bt F (As (v := .agg ⟨[.int .i64 x6.1.in_.At, .int .u8 (x6.1.in_.Op.toNat : Int), .int .i64 x6.1.in_.A, .int .i64 x6.1.in_.B, .int .i64 x6.1.to, .bool x6.1.gone]⟩) rfl rfl) rfl rfl rfl fun _ F => ?_
           have s12 : SL w FF _ [Blk g9 94 [v3], Sl T_opt_item v3 s6.1, Blk g0 93 [v1], Sl Ty.bool v1 x0] := se
           refine Av ⟨s12, ?_⟩
           refine Bk (i := 21) rfl (by kernel_rfl) ?_
           refine Bu F se Fx.zero121 rfl rfl fun g4 wd _ F s14 => ?_
           have s15 : SL w FF _ [Blk g9 94 [v3], Sl T_opt_item v3 s6.1, Blk g0 93 [v1], Sl Ty.bool v1 x0] := s14.drop
           refine Av ⟨s15, ?_⟩
           refine Bk (i := 22) rfl (by kernel_rfl) ?_
           have s16 := s14
           refine Au F s16 rfl rfl Fx.sz121 (Af rfl (Af rfl (Af rfl (Af rfl (Af rfl (Af rfl Bd)))))) (Ah rfl) fun we _ F s17 => ?_
           replace s17 : SL w FF we [Blk g4 121 [.int .i64 x6.1.in_.At, .int .u8 (x6.1.in_.Op.toNat : Int), .int .i64 x6.1.in_.A, .int .i64 x6.1.in_.B, .int .i64 x6.1.to, .bool x6.1.gone], Blk g9 94 [v3], Sl T_opt_item v3 s6.1, Blk g0 93 [v1], Sl Ty.bool v1 x0] := s17
           have s18 : SL w FF _ [Blk g9 94 [v3], Sl T_opt_item v3 s6.1, Blk g0 93 [v1], Sl Ty.bool v1 x0] := s17.drop
           refine Av ⟨s18, ?_⟩
           refine Bk (i := 23) rfl (by kernel_rfl) ?_
           refine Bt F (Am rfl) rfl rfl rfl fun _ F => ?_
           have s19 : SL w FF _ [Blk g9 94 [v3], Sl T_opt_item v3 s6.1, Blk g0 93 [v1], Sl Ty.bool v1 x0] := s17.drop
           refine Av ⟨s19, ?_⟩
           refine Cg (by kernel_rfl) ?_
           obtain rfl := Ao H
           refine Ab ?_
           exact ⟨g4, F.sub ⟨rfl, rfl, rfl, rfl, rfl, rfl, trivial⟩, s17.f4.f4.f4.f4⟩
          refine Bu F se Fx.zero121 rfl rfl fun g5 wf _ F s1a => ?_
          have s1b : SL w FF _ [Blk g9 94 [v3], Sl T_opt_item v3 s6.1, Blk g0 93 [v1], Sl Ty.bool v1 x0] := s1a.drop
          refine Av ⟨s1b, ?_⟩
          refine Bk (i := 19) rfl (by kernel_rfl) ?_
          refine Bt F (As (v := .agg ⟨[.int .i64 x6.1.in_.At, .int .u8 (x6.1.in_.Op.toNat : Int), .int .i64 x6.1.in_.A, .int .i64 x6.1.in_.B, .int .i64 x6.1.to, .bool x6.1.gone]⟩) rfl rfl) rfl rfl rfl fun _ F => ?_
          have s1c : SL w FF _ [Blk g9 94 [v3], Sl T_opt_item v3 s6.1, Blk g0 93 [v1], Sl Ty.bool v1 x0] := s1a.drop
          refine Av ⟨s1c, ?_⟩
          refine Bk (i := 22) rfl (by kernel_rfl) ?_
          have s1d := s1a
          refine Au F s1d rfl rfl Fx.sz121 (Af rfl (Af rfl (Af rfl (Af rfl (Af rfl (Af rfl Bd)))))) (Ah rfl) fun wg _ F s1e => ?_
          replace s1e : SL w FF wg [Blk g5 121 [.int .i64 x6.1.in_.At, .int .u8 (x6.1.in_.Op.toNat : Int), .int .i64 x6.1.in_.A, .int .i64 x6.1.in_.B, .int .i64 x6.1.to, .bool x6.1.gone], Blk g9 94 [v3], Sl T_opt_item v3 s6.1, Blk g0 93 [v1], Sl Ty.bool v1 x0] := s1e
          have s1f : SL w FF _ [Blk g9 94 [v3], Sl T_opt_item v3 s6.1, Blk g0 93 [v1], Sl Ty.bool v1 x0] := s1e.drop
          refine Av ⟨s1f, ?_⟩
          refine Bk (i := 23) rfl (by kernel_rfl) ?_
          refine Bt F (Am rfl) rfl rfl rfl fun _ F => ?_
          have s1g : SL w FF _ [Blk g9 94 [v3], Sl T_opt_item v3 s6.1, Blk g0 93 [v1], Sl Ty.bool v1 x0] := s1e.drop
          refine Av ⟨s1g, ?_⟩
          refine Cg (by kernel_rfl) ?_
          obtain rfl := Ao H
          refine Ab ?_
          exact ⟨g5, F.sub ⟨rfl, rfl, rfl, rfl, rfl, rfl, trivial⟩, s1e.f4.f4.f4.f4⟩
         refine Bu F se Fx.zero121 rfl rfl fun g6 wh _ F s1h => ?_
         have s1i : SL w FF _ [Blk g9 94 [v3], Sl T_opt_item v3 s6.1, Blk g0 93 [v1], Sl Ty.bool v1 x0] := s1h.drop
         refine Av ⟨s1i, ?_⟩
         refine Cj (rs := [19, 20]) (by kernel_rfl) (by decide) (Bs (Br rfl ?_) (Bs (Br rfl ?_) (Cp)))
         ·refine Bt F (As (v := .agg ⟨[.int .i64 x6.1.in_.At, .int .u8 (x6.1.in_.Op.toNat : Int), .int .i64 x6.1.in_.A, .int .i64 x6.1.in_.B, .int .i64 x6.1.to, .bool x6.1.gone]⟩) rfl rfl) rfl rfl rfl fun _ F => ?_
          have s1j : SL w FF _ [Blk g9 94 [v3], Sl T_opt_item v3 s6.1, Blk g0 93 [v1], Sl Ty.bool v1 x0] := s1h.drop
          refine Av ⟨s1j, ?_⟩
          refine Cj (rs := [20, 22]) (by kernel_rfl) (by decide) (Bs (Br rfl ?_) (Bs (Br rfl ?_) (Cp)))
          ·refine Bt F (As (v := .bool x6.2) rfl rfl) rfl rfl rfl fun _ F => ?_
           have s1k : SL w FF _ [Blk g9 94 [v3], Sl T_opt_item v3 s6.1, Blk g0 93 [v1], Sl Ty.bool v1 x0] := s1h.drop
           refine Av ⟨s1k, ?_⟩
           refine Bk (i := 22) rfl (by kernel_rfl) ?_
           have s1l := s1h
           refine Au F s1l rfl rfl Fx.sz121 (Af rfl (Af rfl (Af rfl (Af rfl (Af rfl (Af rfl Bd)))))) (Ah rfl) fun wi _ F s1m => ?_
           replace s1m : SL w FF wi [Blk g6 121 [.int .i64 x6.1.in_.At, .int .u8 (x6.1.in_.Op.toNat : Int), .int .i64 x6.1.in_.A, .int .i64 x6.1.in_.B, .int .i64 x6.1.to, .bool x6.1.gone], Blk g9 94 [v3], Sl T_opt_item v3 s6.1, Blk g0 93 [v1], Sl Ty.bool v1 x0] := s1m
           have s1n : SL w FF _ [Blk g9 94 [v3], Sl T_opt_item v3 s6.1, Blk g0 93 [v1], Sl Ty.bool v1 x0] := s1m.drop
           refine Av ⟨s1n, ?_⟩
           refine Bk (i := 23) rfl (by kernel_rfl) ?_
           refine Bt F (Am rfl) rfl rfl rfl fun _ F => ?_
           have s1o : SL w FF _ [Blk g9 94 [v3], Sl T_opt_item v3 s6.1, Blk g0 93 [v1], Sl Ty.bool v1 x0] := s1m.drop
           refine Av ⟨s1o, ?_⟩
           refine Cg (by kernel_rfl) ?_
           obtain rfl := Ao H
           refine Ab ?_
           exact ⟨g6, F.sub ⟨rfl, rfl, rfl, rfl, rfl, rfl, trivial⟩, s1m.f4.f4.f4.f4⟩
          have s1p := s1h
          refine Au F s1p rfl rfl Fx.sz121 (Af rfl (Af rfl (Af rfl (Af rfl (Af rfl (Af rfl Bd)))))) (Ah rfl) fun wj _ F s1q => ?_
          replace s1q : SL w FF wj [Blk g6 121 [.int .i64 x6.1.in_.At, .int .u8 (x6.1.in_.Op.toNat : Int), .int .i64 x6.1.in_.A, .int .i64 x6.1.in_.B, .int .i64 x6.1.to, .bool x6.1.gone], Blk g9 94 [v3], Sl T_opt_item v3 s6.1, Blk g0 93 [v1], Sl Ty.bool v1 x0] := s1q
          have s1r : SL w FF _ [Blk g9 94 [v3], Sl T_opt_item v3 s6.1, Blk g0 93 [v1], Sl Ty.bool v1 x0] := s1q.drop
          refine Av ⟨s1r, ?_⟩
          refine Bk (i := 20) rfl (by kernel_rfl) ?_
          refine Bt F (As (v := .bool x6.2) rfl rfl) rfl rfl rfl fun _ F => ?_
          have s1s : SL w FF _ [Blk g9 94 [v3], Sl T_opt_item v3 s6.1, Blk g0 93 [v1], Sl Ty.bool v1 x0] := s1q.drop
          refine Av ⟨s1s, ?_⟩
          refine Bk (i := 23) rfl (by kernel_rfl) ?_
          refine Bt F (Am rfl) rfl rfl rfl fun _ F => ?_
          have s1t : SL w FF _ [Blk g9 94 [v3], Sl T_opt_item v3 s6.1, Blk g0 93 [v1], Sl Ty.bool v1 x0] := s1q.drop
          refine Av ⟨s1t, ?_⟩
          refine Cg (by kernel_rfl) ?_
          obtain rfl := Ao H
          refine Ab ?_
          exact ⟨g6, F.sub ⟨rfl, rfl, rfl, rfl, rfl, rfl, trivial⟩, s1q.f4.f4.f4.f4⟩
         refine Bt F (As (v := .bool x6.2) rfl rfl) rfl rfl rfl fun _ F => ?_
         have s1u : SL w FF _ [Blk g9 94 [v3], Sl T_opt_item v3 s6.1, Blk g0 93 [v1], Sl Ty.bool v1 x0] := s1h.drop
         refine Av ⟨s1u, ?_⟩
         refine Bk (i := 19) rfl (by kernel_rfl) ?_
         refine Bt F (As (v := .agg ⟨[.int .i64 x6.1.in_.At, .int .u8 (x6.1.in_.Op.toNat : Int), .int .i64 x6.1.in_.A, .int .i64 x6.1.in_.B, .int .i64 x6.1.to, .bool x6.1.gone]⟩) rfl rfl) rfl rfl rfl fun _ F => ?_
         have s1v : SL w FF _ [Blk g9 94 [v3], Sl T_opt_item v3 s6.1, Blk g0 93 [v1], Sl Ty.bool v1 x0] := s1h.drop
         refine Av ⟨s1v, ?_⟩
         refine Bk (i := 22) rfl (by kernel_rfl) ?_
         have s1w := s1h
         refine Au F s1w rfl rfl Fx.sz121 (Af rfl (Af rfl (Af rfl (Af rfl (Af rfl (Af rfl Bd)))))) (Ah rfl) fun wk _ F s1x => ?_
         replace s1x : SL w FF wk [Blk g6 121 [.int .i64 x6.1.in_.At, .int .u8 (x6.1.in_.Op.toNat : Int), .int .i64 x6.1.in_.A, .int .i64 x6.1.in_.B, .int .i64 x6.1.to, .bool x6.1.gone], Blk g9 94 [v3], Sl T_opt_item v3 s6.1, Blk g0 93 [v1], Sl Ty.bool v1 x0] := s1x
         have s1y : SL w FF _ [Blk g9 94 [v3], Sl T_opt_item v3 s6.1, Blk g0 93 [v1], Sl Ty.bool v1 x0] := s1x.drop
         refine Av ⟨s1y, ?_⟩
         refine Bk (i := 23) rfl (by kernel_rfl) ?_
         refine Bt F (Am rfl) rfl rfl rfl fun _ F => ?_
         have s1z : SL w FF _ [Blk g9 94 [v3], Sl T_opt_item v3 s6.1, Blk g0 93 [v1], Sl Ty.bool v1 x0] := s1x.drop
         refine Av ⟨s1z, ?_⟩
         refine Cg (by kernel_rfl) ?_
         obtain rfl := Ao H
         refine Ab ?_
         exact ⟨g6, F.sub ⟨rfl, rfl, rfl, rfl, rfl, rfl, trivial⟩, s1x.f4.f4.f4.f4⟩
        refine Bu F se Fx.zero121 rfl rfl fun g7 wl _ F s20 => ?_
        have s21 : SL w FF _ [Blk g9 94 [v3], Sl T_opt_item v3 s6.1, Blk g0 93 [v1], Sl Ty.bool v1 x0] := s20.drop
        refine Av ⟨s21, ?_⟩
        refine Bk (i := 18) rfl (by kernel_rfl) ?_
        refine Bt F (Ae rfl) rfl rfl rfl fun _ F => ?_
        have s22 : SL w FF _ [Blk g9 94 [v3], Sl T_opt_item v3 s6.1, Blk g0 93 [v1], Sl Ty.bool v1 x0] := s20.drop
        refine Av ⟨s22, ?_⟩
        refine Cj (rs := [19, 20]) (by kernel_rfl) (by decide) (Bs (Br rfl ?_) (Bs (Br rfl ?_) (Cp)))
        ·refine Bt F (As (v := .agg ⟨[.int .i64 x6.1.in_.At, .int .u8 (x6.1.in_.Op.toNat : Int), .int .i64 x6.1.in_.A, .int .i64 x6.1.in_.B, .int .i64 x6.1.to, .bool x6.1.gone]⟩) rfl rfl) rfl rfl rfl fun _ F => ?_
         have s23 : SL w FF _ [Blk g9 94 [v3], Sl T_opt_item v3 s6.1, Blk g0 93 [v1], Sl Ty.bool v1 x0] := s20.drop
         refine Av ⟨s23, ?_⟩
         refine Cj (rs := [20, 22]) (by kernel_rfl) (by decide) (Bs (Br rfl ?_) (Bs (Br rfl ?_) (Cp)))
         ·refine Bt F (As (v := .bool x6.2) rfl rfl) rfl rfl rfl fun _ F => ?_
          have s24 : SL w FF _ [Blk g9 94 [v3], Sl T_opt_item v3 s6.1, Blk g0 93 [v1], Sl Ty.bool v1 x0] := s20.drop
          refine Av ⟨s24, ?_⟩
          refine Bk (i := 22) rfl (by kernel_rfl) ?_
          have s25 := s20
          refine Au F s25 rfl rfl Fx.sz121 (Af rfl (Af rfl (Af rfl (Af rfl (Af rfl (Af rfl Bd)))))) (Ah rfl) fun wm _ F s26 => ?_
          replace s26 : SL w FF wm [Blk g7 121 [.int .i64 x6.1.in_.At, .int .u8 (x6.1.in_.Op.toNat : Int), .int .i64 x6.1.in_.A, .int .i64 x6.1.in_.B, .int .i64 x6.1.to, .bool x6.1.gone], Blk g9 94 [v3], Sl T_opt_item v3 s6.1, Blk g0 93 [v1], Sl Ty.bool v1 x0] := s26
          have s27 : SL w FF _ [Blk g9 94 [v3], Sl T_opt_item v3 s6.1, Blk g0 93 [v1], Sl Ty.bool v1 x0] := s26.drop
          refine Av ⟨s27, ?_⟩
          refine Bk (i := 23) rfl (by kernel_rfl) ?_
          refine Bt F (Am rfl) rfl rfl rfl fun _ F => ?_
          have s28 : SL w FF _ [Blk g9 94 [v3], Sl T_opt_item v3 s6.1, Blk g0 93 [v1], Sl Ty.bool v1 x0] := s26.drop
          refine Av ⟨s28, ?_⟩
          refine Cg (by kernel_rfl) ?_
          obtain rfl := Ao H
          refine Ab ?_
          exact ⟨g7, F.sub ⟨rfl, rfl, rfl, rfl, rfl, rfl, trivial⟩, s26.f4.f4.f4.f4⟩
         have s29 := s20
         refine Au F s29 rfl rfl Fx.sz121 (Af rfl (Af rfl (Af rfl (Af rfl (Af rfl (Af rfl Bd)))))) (Ah rfl) fun wn _ F s2a => ?_
         replace s2a : SL w FF wn [Blk g7 121 [.int .i64 x6.1.in_.At, .int .u8 (x6.1.in_.Op.toNat : Int), .int .i64 x6.1.in_.A, .int .i64 x6.1.in_.B, .int .i64 x6.1.to, .bool x6.1.gone], Blk g9 94 [v3], Sl T_opt_item v3 s6.1, Blk g0 93 [v1], Sl Ty.bool v1 x0] := s2a
         have s2b : SL w FF _ [Blk g9 94 [v3], Sl T_opt_item v3 s6.1, Blk g0 93 [v1], Sl Ty.bool v1 x0] := s2a.drop
         refine Av ⟨s2b, ?_⟩
         refine Bk (i := 20) rfl (by kernel_rfl) ?_
         refine Bt F (As (v := .bool x6.2) rfl rfl) rfl rfl rfl fun _ F => ?_
         have s2c : SL w FF _ [Blk g9 94 [v3], Sl T_opt_item v3 s6.1, Blk g0 93 [v1], Sl Ty.bool v1 x0] := s2a.drop
         refine Av ⟨s2c, ?_⟩
         refine Bk (i := 23) rfl (by kernel_rfl) ?_
         refine Bt F (Am rfl) rfl rfl rfl fun _ F => ?_
         have s2d : SL w FF _ [Blk g9 94 [v3], Sl T_opt_item v3 s6.1, Blk g0 93 [v1], Sl Ty.bool v1 x0] := s2a.drop
         refine Av ⟨s2d, ?_⟩
         refine Cg (by kernel_rfl) ?_
         obtain rfl := Ao H
         refine Ab ?_
         exact ⟨g7, F.sub ⟨rfl, rfl, rfl, rfl, rfl, rfl, trivial⟩, s2a.f4.f4.f4.f4⟩
        refine Bt F (As (v := .bool x6.2) rfl rfl) rfl rfl rfl fun _ F => ?_
        have s2e : SL w FF _ [Blk g9 94 [v3], Sl T_opt_item v3 s6.1, Blk g0 93 [v1], Sl Ty.bool v1 x0] := s20.drop
        refine Av ⟨s2e, ?_⟩
        refine Bk (i := 19) rfl (by kernel_rfl) ?_
        refine Bt F (As (v := .agg ⟨[.int .i64 x6.1.in_.At, .int .u8 (x6.1.in_.Op.toNat : Int), .int .i64 x6.1.in_.A, .int .i64 x6.1.in_.B, .int .i64 x6.1.to, .bool x6.1.gone]⟩) rfl rfl) rfl rfl rfl fun _ F => ?_
        have s2f : SL w FF _ [Blk g9 94 [v3], Sl T_opt_item v3 s6.1, Blk g0 93 [v1], Sl Ty.bool v1 x0] := s20.drop
        refine Av ⟨s2f, ?_⟩
        refine Bk (i := 22) rfl (by kernel_rfl) ?_
        have s2g := s20
        refine Au F s2g rfl rfl Fx.sz121 (Af rfl (Af rfl (Af rfl (Af rfl (Af rfl (Af rfl Bd)))))) (Ah rfl) fun wo _ F s2h => ?_
        replace s2h : SL w FF wo [Blk g7 121 [.int .i64 x6.1.in_.At, .int .u8 (x6.1.in_.Op.toNat : Int), .int .i64 x6.1.in_.A, .int .i64 x6.1.in_.B, .int .i64 x6.1.to, .bool x6.1.gone], Blk g9 94 [v3], Sl T_opt_item v3 s6.1, Blk g0 93 [v1], Sl Ty.bool v1 x0] := s2h
        have s2i : SL w FF _ [Blk g9 94 [v3], Sl T_opt_item v3 s6.1, Blk g0 93 [v1], Sl Ty.bool v1 x0] := s2h.drop
        refine Av ⟨s2i, ?_⟩
        refine Bk (i := 23) rfl (by kernel_rfl) ?_
        refine Bt F (Am rfl) rfl rfl rfl fun _ F => ?_
        have s2j : SL w FF _ [Blk g9 94 [v3], Sl T_opt_item v3 s6.1, Blk g0 93 [v1], Sl Ty.bool v1 x0] := s2h.drop
        refine Av ⟨s2j, ?_⟩
        refine Cg (by kernel_rfl) ?_
        obtain rfl := Ao H
        refine Ab ?_
        exact ⟨g7, F.sub ⟨rfl, rfl, rfl, rfl, rfl, rfl, trivial⟩, s2h.f4.f4.f4.f4⟩
       refine Bu F sc Fx.zero121 rfl rfl fun g8 wp _ F s2k => ?_
       have s2l : SL w FF _ [Blk g9 94 [v3], Sl T_opt_item v3 s6.1, Blk g0 93 [v1], Sl Ty.bool v1 x0] := s2k.drop
       refine Av ⟨s2l, ?_⟩
       refine Bk (i := 17) rfl (by kernel_rfl) ?_
       refine Bi (args := [.tmp 35, .tmp 41, .tmp 47]) F Fx.fn98 rfl (opt_three_c (a0 := (⟨x3.in_.At, x3.in_.Op, x3.in_.A, x3.in_.B⟩ : S_api_Instr)) (a1 := (⟨x4.in_.At, x4.in_.Op, x4.in_.A, x4.in_.B⟩ : S_api_Instr)) (a2 := (⟨x5.in_.At, x5.in_.Op, x5.in_.A, x5.in_.B⟩ : S_api_Instr))    ho) rfl fun v8 wq _ hz F => ?_
       obtain ⟨rfl, h10⟩ := hz
       have s2m := s2k.add h10
       have s2n : SL w FF _ [Blk g9 94 [v3], Sl T_opt_item v3 s6.1, Blk g0 93 [v1], Sl Ty.bool v1 x0] := s2m.drop
       refine Av ⟨s2n, ?_⟩
       refine Bk (i := 18) rfl (by kernel_rfl) ?_
       refine Bt F (Ae rfl) rfl rfl rfl fun _ F => ?_
       have s2o : SL w FF _ [Blk g9 94 [v3], Sl T_opt_item v3 s6.1, Blk g0 93 [v1], Sl Ty.bool v1 x0] := s2m.drop
       refine Av ⟨s2o, ?_⟩
       refine Cj (rs := [19, 20]) (by kernel_rfl) (by decide) (Bs (Br rfl ?_) (Bs (Br rfl ?_) (Cp)))
       ·refine Bt F (As (v := .agg ⟨[.int .i64 x6.1.in_.At, .int .u8 (x6.1.in_.Op.toNat : Int), .int .i64 x6.1.in_.A, .int .i64 x6.1.in_.B, .int .i64 x6.1.to, .bool x6.1.gone]⟩) rfl rfl) rfl rfl rfl fun _ F => ?_
        have s2p : SL w FF _ [Blk g9 94 [v3], Sl T_opt_item v3 s6.1, Blk g0 93 [v1], Sl Ty.bool v1 x0] := s2m.drop
        refine Av ⟨s2p, ?_⟩
        refine Cj (rs := [20, 22]) (by kernel_rfl) (by decide) (Bs (Br rfl ?_) (Bs (Br rfl ?_) (Cp)))
        ·refine Bt F (As (v := .bool x6.2) rfl rfl) rfl rfl rfl fun _ F => ?_
         have s2q : SL w FF _ [Blk g9 94 [v3], Sl T_opt_item v3 s6.1, Blk g0 93 [v1], Sl Ty.bool v1 x0] := s2m.drop
         refine Av ⟨s2q, ?_⟩
         refine Bk (i := 22) rfl (by kernel_rfl) ?_
         have s2r := s2m
         refine Au F s2r rfl rfl Fx.sz121 (Af rfl (Af rfl (Af rfl (Af rfl (Af rfl (Af rfl Bd)))))) (Ah rfl) fun ws _ F s2s => ?_
         replace s2s : SL w FF ws [Blk g8 121 [.int .i64 x6.1.in_.At, .int .u8 (x6.1.in_.Op.toNat : Int), .int .i64 x6.1.in_.A, .int .i64 x6.1.in_.B, .int .i64 x6.1.to, .bool x6.1.gone], Blk g9 94 [v3], Sl T_opt_item v3 s6.1, Blk g0 93 [v1], Sl Ty.bool v1 x0] := s2s
         have s2t : SL w FF _ [Blk g9 94 [v3], Sl T_opt_item v3 s6.1, Blk g0 93 [v1], Sl Ty.bool v1 x0] := s2s.drop
         refine Av ⟨s2t, ?_⟩
         refine Bk (i := 23) rfl (by kernel_rfl) ?_
         refine Bt F (Am rfl) rfl rfl rfl fun _ F => ?_
         have s2u : SL w FF _ [Blk g9 94 [v3], Sl T_opt_item v3 s6.1, Blk g0 93 [v1], Sl Ty.bool v1 x0] := s2s.drop
         refine Av ⟨s2u, ?_⟩
         refine Cg (by kernel_rfl) ?_
         obtain rfl := Ao H
         refine Ab ?_
         exact ⟨g8, F.sub ⟨rfl, rfl, rfl, rfl, rfl, rfl, trivial⟩, s2s.f4.f4.f4.f4⟩
        have s2v := s2m
        refine Au F s2v rfl rfl Fx.sz121 (Af rfl (Af rfl (Af rfl (Af rfl (Af rfl (Af rfl Bd)))))) (Ah rfl) fun wt _ F s2w => ?_
        replace s2w : SL w FF wt [Blk g8 121 [.int .i64 x6.1.in_.At, .int .u8 (x6.1.in_.Op.toNat : Int), .int .i64 x6.1.in_.A, .int .i64 x6.1.in_.B, .int .i64 x6.1.to, .bool x6.1.gone], Blk g9 94 [v3], Sl T_opt_item v3 s6.1, Blk g0 93 [v1], Sl Ty.bool v1 x0] := s2w
        have s2x : SL w FF _ [Blk g9 94 [v3], Sl T_opt_item v3 s6.1, Blk g0 93 [v1], Sl Ty.bool v1 x0] := s2w.drop
        refine Av ⟨s2x, ?_⟩
        refine Bk (i := 20) rfl (by kernel_rfl) ?_
        refine Bt F (As (v := .bool x6.2) rfl rfl) rfl rfl rfl fun _ F => ?_
        have s2y : SL w FF _ [Blk g9 94 [v3], Sl T_opt_item v3 s6.1, Blk g0 93 [v1], Sl Ty.bool v1 x0] := s2w.drop
        refine Av ⟨s2y, ?_⟩
        refine Bk (i := 23) rfl (by kernel_rfl) ?_
        refine Bt F (Am rfl) rfl rfl rfl fun _ F => ?_
        have s2z : SL w FF _ [Blk g9 94 [v3], Sl T_opt_item v3 s6.1, Blk g0 93 [v1], Sl Ty.bool v1 x0] := s2w.drop
        refine Av ⟨s2z, ?_⟩
        refine Cg (by kernel_rfl) ?_
        obtain rfl := Ao H
        refine Ab ?_
        exact ⟨g8, F.sub ⟨rfl, rfl, rfl, rfl, rfl, rfl, trivial⟩, s2w.f4.f4.f4.f4⟩
       refine Bt F (As (v := .bool x6.2) rfl rfl) rfl rfl rfl fun _ F => ?_
       have s30 : SL w FF _ [Blk g9 94 [v3], Sl T_opt_item v3 s6.1, Blk g0 93 [v1], Sl Ty.bool v1 x0] := s2m.drop
       refine Av ⟨s30, ?_⟩
       refine Bk (i := 19) rfl (by kernel_rfl) ?_
       refine Bt F (As (v := .agg ⟨[.int .i64 x6.1.in_.At, .int .u8 (x6.1.in_.Op.toNat : Int), .int .i64 x6.1.in_.A, .int .i64 x6.1.in_.B, .int .i64 x6.1.to, .bool x6.1.gone]⟩) rfl rfl) rfl rfl rfl fun _ F => ?_
       have s31 : SL w FF _ [Blk g9 94 [v3], Sl T_opt_item v3 s6.1, Blk g0 93 [v1], Sl Ty.bool v1 x0] := s2m.drop
       refine Av ⟨s31, ?_⟩
       refine Bk (i := 22) rfl (by kernel_rfl) ?_
       have s32 := s2m
       refine Au F s32 rfl rfl Fx.sz121 (Af rfl (Af rfl (Af rfl (Af rfl (Af rfl (Af rfl Bd)))))) (Ah rfl) fun wu _ F s33 => ?_
       replace s33 : SL w FF wu [Blk g8 121 [.int .i64 x6.1.in_.At, .int .u8 (x6.1.in_.Op.toNat : Int), .int .i64 x6.1.in_.A, .int .i64 x6.1.in_.B, .int .i64 x6.1.to, .bool x6.1.gone], Blk g9 94 [v3], Sl T_opt_item v3 s6.1, Blk g0 93 [v1], Sl Ty.bool v1 x0] := s33
       have s34 : SL w FF _ [Blk g9 94 [v3], Sl T_opt_item v3 s6.1, Blk g0 93 [v1], Sl Ty.bool v1 x0] := s33.drop
       refine Av ⟨s34, ?_⟩
       refine Bk (i := 23) rfl (by kernel_rfl) ?_
       refine Bt F (Am rfl) rfl rfl rfl fun _ F => ?_
       have s35 : SL w FF _ [Blk g9 94 [v3], Sl T_opt_item v3 s6.1, Blk g0 93 [v1], Sl Ty.bool v1 x0] := s33.drop
       refine Av ⟨s35, ?_⟩
       refine Cg (by kernel_rfl) ?_
       obtain rfl := Ao H
       refine Ab ?_
       exact ⟨g8, F.sub ⟨rfl, rfl, rfl, rfl, rfl, rfl, trivial⟩, s33.f4.f4.f4.f4⟩
      intro _ wv hJ
      obtain ⟨g1, F, s36⟩ := hJ
      have H := R3
      clear R3 H3
      refine Ab <| Ai <| Al <| Ak F (Aa (Ae rfl) <| Ad) fun _ F => Aj <| Ab <| Bm F rfl (fun h11 => ?_) (fun h11 => ?_)
      ·replace H := Bb h11 H
       refine Ai ?_
       obtain ⟨x7, h12, H⟩ := Aq H
       obtain ⟨x8, h13, H⟩ := Aq H
       obtain ⟨x9, h14, H⟩ := Aq H
       refine wp_regh Fx.mixed (fun w_ => SL w FF w_ [Blk g9 94 [v3], Blk g0 93 [v1], Sl Ty.bool v1 x0, Blk g1 121 [.int .i64 o4.1, .int .u8 (o4.2.1.toNat : Int), .int .i64 o4.2.2.1, .int .i64 o4.2.2.2.1, .int .i64 o4.2.2.2.2.1, .bool o4.2.2.2.2.2.1]]) ?_
       have s37 := s36.drew
       have s38 : SL w FF _ [Blk g9 94 [v3], Blk g0 93 [v1], Sl Ty.bool v1 x0, Blk g1 121 [.int .i64 o4.1, .int .u8 (o4.2.1.toNat : Int), .int .i64 o4.2.2.1, .int .i64 o4.2.2.2.1, .int .i64 o4.2.2.2.2.1, .bool o4.2.2.2.2.2.1]] := s37.f1.drop
       refine Bv (i := 0) rfl (by kernel_rfl) (by kernel_rfl) (by kernel_rfl) (fun _ hC => Ba Fx.nag94 rfl (hC.blk_cell (.head _) rfl)) rfl rfl rfl F s38 fun _ F => ?_
       refine Bv (i := 1) rfl (by kernel_rfl) (by kernel_rfl) (by kernel_rfl) (fun _ hC => Ae rfl) rfl rfl rfl F s38 fun _ F => ?_
       refine Bv (i := 2) rfl (by kernel_rfl) (by kernel_rfl) (by kernel_rfl) (fun _ hC => Ba Fx.nag94 rfl (hC.blk_cell (.head _) rfl)) rfl rfl rfl F s38 fun _ F => ?_
       refine Bv (i := 3) rfl (by kernel_rfl) (by kernel_rfl) (by kernel_rfl) (fun _ hC => Ae rfl) rfl rfl rfl F s38 fun _ F => ?_
       refine Bv (i := 4) rfl (by kernel_rfl) (by kernel_rfl) (by kernel_rfl) (fun _ hC => Bp rfl rfl) rfl rfl rfl F s38 fun _ F => ?_
       refine Bv (i := 5) rfl (by kernel_rfl) (by kernel_rfl) (by kernel_rfl) (fun _ hC => Ba Fx.nag94 rfl (hC.blk_cell (.head _) rfl)) rfl rfl rfl F s38 fun _ F => ?_
       refine Bv (i := 6) rfl (by kernel_rfl) (by kernel_rfl) (by kernel_rfl) (fun _ hC => Ae rfl) rfl rfl rfl F s38 fun _ F => ?_
       refine Bv (i := 7) rfl (by kernel_rfl) (by kernel_rfl) (by kernel_rfl) (fun _ hC => Bp rfl rfl) rfl rfl rfl F s38 fun _ F => ?_
       refine Bv (i := 8) rfl (by kernel_rfl) (by kernel_rfl) (by kernel_rfl) (fun _ hC => Bn Fx.agg121 rfl (hC.blk_cells (.tail _ <| .tail _ <| .tail _ <| .head _) (o := 0) (ds := [.int .i64 o4.1, .int .u8 (o4.2.1.toNat : Int), .int .i64 o4.2.2.1, .int .i64 o4.2.2.2.1, .int .i64 o4.2.2.2.2.1, .bool o4.2.2.2.2.2.1]) (fun j u hu => by rw [Nat.zero_add]; exact hu)) rfl) rfl rfl rfl F s38 fun _ F => ?_
       refine Bk (i := 9) rfl (by kernel_rfl) ?_
       obtain ⟨a6, h15, h16⟩ := Cf F_opt_item s37 (.tail _ <| .head _) Fx.sl94 rfl h12
       refine Bt F (h15 _ _ _ _ _ _ _ _ _ _ rfl rfl) rfl rfl rfl fun _ F => ?_
       have s39 : SL w FF _ [Blk g9 94 [v3], Blk g0 93 [v1], Sl Ty.bool v1 x0, Blk g1 121 [.int .i64 o4.1, .int .u8 (o4.2.1.toNat : Int), .int .i64 o4.2.2.1, .int .i64 o4.2.2.2.1, .int .i64 o4.2.2.2.2.1, .bool o4.2.2.2.2.2.1]] := s37.f1.drop
       refine Av ⟨s39, ?_⟩
       refine Bk (i := 10) rfl (by kernel_rfl) ?_
       refine Cr (y' := (⟨(⟨o4.1, o4.2.1, o4.2.2.1, o4.2.2.2.1⟩ : S_api_Instr), o4.2.2.2.2.1, o4.2.2.2.2.2.1⟩ : S_opt_item)) F_opt_item F s37.f1 h16 h12 rfl rfl (by rfl) Fx.sz121 fun ww _ F s3a => ?_
       have s3b : SL w FF _ [Blk g9 94 [v3], Blk g0 93 [v1], Sl Ty.bool v1 x0, Blk g1 121 [.int .i64 o4.1, .int .u8 (o4.2.1.toNat : Int), .int .i64 o4.2.2.1, .int .i64 o4.2.2.2.1, .int .i64 o4.2.2.2.2.1, .bool o4.2.2.2.2.2.1]] := s3a.drop
       refine Av ⟨s3b, ?_⟩
       refine Bk (i := 11) rfl (by kernel_rfl) ?_
       obtain ⟨a7, h17, h18⟩ := Cf F_opt_item s3a (.head _) Fx.sl94 rfl h13
       refine Bt F (h17 _ _ _ _ _ _ _ _ _ _ rfl rfl) rfl rfl rfl fun _ F => ?_
       have s3c : SL w FF _ [Blk g9 94 [v3], Blk g0 93 [v1], Sl Ty.bool v1 x0, Blk g1 121 [.int .i64 o4.1, .int .u8 (o4.2.1.toNat : Int), .int .i64 o4.2.2.1, .int .i64 o4.2.2.2.1, .int .i64 o4.2.2.2.2.1, .bool o4.2.2.2.2.2.1]] := s3a.drop
       refine Av ⟨s3c, ?_⟩
       refine Bk (i := 12) rfl (by kernel_rfl) ?_
       refine Bt F (Cw Fx.fa121_2 rfl) rfl rfl rfl fun _ F => ?_
       have s3d : SL w FF _ [Blk g9 94 [v3], Blk g0 93 [v1], Sl Ty.bool v1 x0, Blk g1 121 [.int .i64 o4.1, .int .u8 (o4.2.1.toNat : Int), .int .i64 o4.2.2.1, .int .i64 o4.2.2.2.1, .int .i64 o4.2.2.2.2.1, .bool o4.2.2.2.2.2.1]] := s3a.drop
       refine Av ⟨s3d, ?_⟩
       refine Bk (i := 13) rfl (by kernel_rfl) ?_
       refine Dg (y' := (⟨(⟨x8.in_.At, x8.in_.Op, x8.in_.A, x8.in_.B⟩ : S_api_Instr), x8.to, true⟩ : S_opt_item)) (o := 5) (ds := [.bool true]) F_opt_item F s3a h18 h13 rfl rfl (by rfl) Fx.sz4 (by rfl) (Af rfl Bd) (by rfl) fun wx _ F s3e => ?_
       have s3f : SL w FF _ [Blk g9 94 [v3], Blk g0 93 [v1], Sl Ty.bool v1 x0, Blk g1 121 [.int .i64 o4.1, .int .u8 (o4.2.1.toNat : Int), .int .i64 o4.2.2.1, .int .i64 o4.2.2.2.1, .int .i64 o4.2.2.2.2.1, .bool o4.2.2.2.2.2.1]] := s3e.drop
       refine Av ⟨s3f, ?_⟩
       refine Bk (i := 14) rfl (by kernel_rfl) ?_
       obtain ⟨a8, h19, h1a⟩ := Cf F_opt_item s3e (.head _) Fx.sl94 rfl h14
       refine Bt F (h19 _ _ _ _ _ _ _ _ _ _ rfl rfl) rfl rfl rfl fun _ F => ?_
       have s3g : SL w FF _ [Blk g9 94 [v3], Blk g0 93 [v1], Sl Ty.bool v1 x0, Blk g1 121 [.int .i64 o4.1, .int .u8 (o4.2.1.toNat : Int), .int .i64 o4.2.2.1, .int .i64 o4.2.2.2.1, .int .i64 o4.2.2.2.2.1, .bool o4.2.2.2.2.2.1]] := s3e.drop
       refine Av ⟨s3g, ?_⟩
       refine Bk (i := 15) rfl (by kernel_rfl) ?_
       refine Bt F (Cw Fx.fa121_2 rfl) rfl rfl rfl fun _ F => ?_
       have s3h : SL w FF _ [Blk g9 94 [v3], Blk g0 93 [v1], Sl Ty.bool v1 x0, Blk g1 121 [.int .i64 o4.1, .int .u8 (o4.2.1.toNat : Int), .int .i64 o4.2.2.1, .int .i64 o4.2.2.2.1, .int .i64 o4.2.2.2.2.1, .bool o4.2.2.2.2.2.1]] := s3e.drop
       refine Av ⟨s3h, ?_⟩
       refine Bk (i := 16) rfl (by kernel_rfl) ?_
       refine Dg (y' := (⟨(⟨x9.in_.At, x9.in_.Op, x9.in_.A, x9.in_.B⟩ : S_api_Instr), x9.to, true⟩ : S_opt_item)) (o := 5) (ds := [.bool true]) F_opt_item F s3e h1a h14 rfl rfl (by rfl) Fx.sz4 (by rfl) (Af rfl Bd) (by rfl) fun wy _ F s3i => ?_
       have s3j : SL w FF _ [Blk g9 94 [v3], Blk g0 93 [v1], Sl Ty.bool v1 x0, Blk g1 121 [.int .i64 o4.1, .int .u8 (o4.2.1.toNat : Int), .int .i64 o4.2.2.1, .int .i64 o4.2.2.2.1, .int .i64 o4.2.2.2.2.1, .bool o4.2.2.2.2.2.1]] := s3i.drop
       refine Av ⟨s3j, ?_⟩
       refine Bk (i := 17) rfl (by kernel_rfl) ?_
       refine Bt F (Am rfl) rfl rfl rfl fun _ F => ?_
       have s3k : SL w FF _ [Blk g9 94 [v3], Blk g0 93 [v1], Sl Ty.bool v1 x0, Blk g1 121 [.int .i64 o4.1, .int .u8 (o4.2.1.toNat : Int), .int .i64 o4.2.2.1, .int .i64 o4.2.2.2.1, .int .i64 o4.2.2.2.2.1, .bool o4.2.2.2.2.2.1]] := s3i.drop
       refine Av ⟨s3k, ?_⟩
       refine Cg (by kernel_rfl) ?_
       refine Ab <| Ai <| Al <| Ak F (Aa (Ae rfl) <| Aa (Bp rfl rfl) <| Aa (Am rfl) <| Ad) fun _ F => Aj <| Ab <| Bz <| Bo <| Bo <| Ca ?_
       obtain rfl := Ao H
       replace H := R2
       try dsimp only at H
       obtain rfl := Ao H
       refine Ab ?_
       exact ⟨v3, F.sub ⟨rfl, rfl, rfl, rfl, trivial⟩, s3i.f4.drop.f3.f3.f3⟩
      replace H := Bc h11 H
      refine Aw ?_
      obtain rfl := Ao H
      refine Ab ?_
      exact ⟨_, rfl, F.sub ⟨rfl, rfl, rfl, rfl, trivial⟩, s36.f4.drop⟩
     replace H := Bc hk H
     refine Aw ?_
     obtain rfl := Ao H
     refine Ab ?_
     exact ⟨_, rfl, F.sub ⟨rfl, rfl, rfl, rfl, trivial⟩, sb⟩
    intro _ wz hJ
    obtain ⟨p0, rfl, F, s3l⟩ := hJ
    have H := R2
    clear R2 H2
    try dsimp only at H
    refine Ab <| Ai ?_
    obtain ⟨o5, H4, R4⟩ := Aq H
    clear H
    refine Bx (fun a w_ => ∃ ga : Nat, Fr a 98 [(1, .pointer (some ⟨g9, 0, none⟩)), (5, .bool s6.2.1), (6, clo 97 [.pointer (some ⟨g9, 0, none⟩), .pointer (some ⟨g0, 0, none⟩)]), (7, .int .i64 s6.2.2), (10, .pointer (some ⟨ga, 0, none⟩)), (11, .bool o5.2.2.2.2.2.2)] ∧ SL w FF w_ [Blk g9 94 [v3], Sl T_opt_item v3 s6.1, Blk g0 93 [v1], Sl Ty.bool v1 x0, Blk ga 121 [.int .i64 o5.1, .int .u8 (o5.2.1.toNat : Int), .int .i64 o5.2.2.1, .int .i64 o5.2.2.2.1, .int .i64 o5.2.2.2.2.1, .bool o5.2.2.2.2.2.1]]) ?_ ?_
    ·have H := H4
     obtain ⟨xa, h1b, H⟩ := Aq H
     obtain ⟨xb, h1c, H⟩ := Aq H
     obtain ⟨xc, h1d, H⟩ := Aq H
     refine wp_regh Fx.mixed (fun w_ => SL w FF w_ [Blk g9 94 [v3], Sl T_opt_item v3 s6.1, Blk g0 93 [v1], Sl Ty.bool v1 x0]) ?_
     have s3m := s3l.drew
     have s3n : SL w FF _ [Blk g9 94 [v3], Sl T_opt_item v3 s6.1, Blk g0 93 [v1], Sl Ty.bool v1 x0] := s3m
     refine Bv (i := 0) rfl (by kernel_rfl) (by kernel_rfl) (by kernel_rfl) (fun _ hC => Ba Fx.nag94 rfl (hC.blk_cell (.head _) rfl)) rfl rfl rfl F s3n fun _ F => ?_
     refine Bv (i := 1) rfl (by kernel_rfl) (by kernel_rfl) (by kernel_rfl) (fun _ hC => Ae rfl) rfl rfl rfl F s3n fun _ F => ?_
     obtain ⟨a9, h1e, h1f⟩ := idxC (C := fun w_ => SL w FF w_ [Blk g9 94 [v3], Sl T_opt_item v3 s6.1, Blk g0 93 [v1], Sl Ty.bool v1 x0]) F_opt_item (fun _ hC => (hC.own_rd (.tail _ <| .head _))) s3n Fx.sl94 rfl h1b
     refine Bv (i := 2) rfl (by kernel_rfl) (by kernel_rfl) (by kernel_rfl) (fun _ hC => h1e _ _ _ _ _ _ _ _ _ _ rfl rfl) rfl rfl rfl F s3n fun _ F => ?_
     refine Bv (i := 3) rfl (by kernel_rfl) (by kernel_rfl) (by kernel_rfl) (fun _ hC => Cw Fx.fa121_0 rfl) rfl rfl rfl F s3n fun _ F => ?_
     refine Bv (i := 4) rfl (by kernel_rfl) (by kernel_rfl) (by kernel_rfl) (fun _ hC => Bn Fx.agg90 rfl (Cells.sub (h1f _ hC) 0 (ds := [.int .i64 xa.in_.At, .int .u8 (xa.in_.Op.toNat : Int), .int .i64 xa.in_.A, .int .i64 xa.in_.B]) (subcells _ rfl)) rfl) rfl rfl rfl F s3n fun _ F => ?_
     refine Bv (i := 5) rfl (by kernel_rfl) (by kernel_rfl) (by kernel_rfl) (fun _ hC => Ba Fx.nag94 rfl (hC.blk_cell (.head _) rfl)) rfl rfl rfl F s3n fun _ F => ?_
     refine Bv (i := 6) rfl (by kernel_rfl) (by kernel_rfl) (by kernel_rfl) (fun _ hC => Ae rfl) rfl rfl rfl F s3n fun _ F => ?_
     refine Bv (i := 7) rfl (by kernel_rfl) (by kernel_rfl) (by kernel_rfl) (fun _ hC => Bp rfl rfl) rfl rfl rfl F s3n fun _ F => ?_
     obtain ⟨aa, h1g, h1h⟩ := idxC (C := fun w_ => SL w FF w_ [Blk g9 94 [v3], Sl T_opt_item v3 s6.1, Blk g0 93 [v1], Sl Ty.bool v1 x0]) F_opt_item (fun _ hC => (hC.own_rd (.tail _ <| .head _))) s3n Fx.sl94 rfl h1c
     refine Bv (i := 8) rfl (by kernel_rfl) (by kernel_rfl) (by kernel_rfl) (fun _ hC => h1g _ _ _ _ _ _ _ _ _ _ rfl rfl) rfl rfl rfl F s3n fun _ F => ?_
     refine Bv (i := 9) rfl (by kernel_rfl) (by kernel_rfl) (by kernel_rfl) (fun _ hC => Cw Fx.fa121_0 rfl) rfl rfl rfl F s3n fun _ F => ?_
     refine Bv (i := 10) rfl (by kernel_rfl) (by kernel_rfl) (by kernel_rfl) (fun _ hC => Bn Fx.agg90 rfl (Cells.sub (h1h _ hC) 0 (ds := [.int .i64 xb.in_.At, .int .u8 (xb.in_.Op.toNat : Int), .int .i64 xb.in_.A, .int .i64 xb.in_.B]) (subcells _ rfl)) rfl) rfl rfl rfl F s3n fun _ F => ?_
     refine Cj (rs := [11, 15]) (by kernel_rfl) (by decide) (Bs (Br rfl ?_) (Bs (Br rfl ?_) (Cp)))
     ·refine Bi (args := [.tmp 73, .tmp 79]) F Fx.fn99 rfl (opt_two_c (a0 := (⟨xa.in_.At, xa.in_.Op, xa.in_.A, xa.in_.B⟩ : S_api_Instr)) (a1 := (⟨xb.in_.At, xb.in_.Op, xb.in_.A, xb.in_.B⟩ : S_api_Instr))    h1d) rfl fun v9 w11 _ h1i F => ?_
      obtain ⟨rfl, h1j⟩ := h1i
      have s3o := s3m.add h1j
      have s3p : SL w FF _ [Blk g9 94 [v3], Sl T_opt_item v3 s6.1, Blk g0 93 [v1], Sl Ty.bool v1 x0] := s3o
      refine Av ⟨s3p, ?_⟩
      refine Cj (rs := [12, 15]) (by kernel_rfl) (by decide) (Bs (Br rfl ?_) (Bs (Br rfl ?_) (Cp)))
      ·refine Bt F (Ae rfl) rfl rfl rfl fun _ F => ?_
       have s3q : SL w FF _ [Blk g9 94 [v3], Sl T_opt_item v3 s6.1, Blk g0 93 [v1], Sl Ty.bool v1 x0] := s3o
       refine Av ⟨s3q, ?_⟩
       refine Cj (rs := [13, 14, 15]) (by kernel_rfl) (by decide) (Bs (Br rfl ?_) (Bs (Br rfl ?_) (Bs (Br rfl ?_) (Cp))))
       ·refine Bt F (As (v := .agg ⟨[.int .i64 xc.1.in_.At, .int .u8 (xc.1.in_.Op.toNat : Int), .int .i64 xc.1.in_.A, .int .i64 xc.1.in_.B, .int .i64 xc.1.to, .bool xc.1.gone]⟩) rfl rfl) rfl rfl rfl fun _ F => ?_
        have s3r : SL w FF _ [Blk g9 94 [v3], Sl T_opt_item v3 s6.1, Blk g0 93 [v1], Sl Ty.bool v1 x0] := s3o
        refine Av ⟨s3r, ?_⟩
        refine Cj (rs := [14, 15]) (by kernel_rfl) (by decide) (Bs (Br rfl ?_) (Bs (Br rfl ?_) (Cp)))
        ·refine Bt F (As (v := .bool xc.2) rfl rfl) rfl rfl rfl fun _ F => ?_
         have s3s : SL w FF _ [Blk g9 94 [v3], Sl T_opt_item v3 s6.1, Blk g0 93 [v1], Sl Ty.bool v1 x0] := s3o
         refine Av ⟨s3s, ?_⟩
         refine Bk (i := 15) rfl (by kernel_rfl) ?_
         refine Bu F s3o Fx.zero121 rfl rfl fun gb w12 _ F s3t => ?_
         have s3u : SL w FF _ [Blk g9 94 [v3], Sl T_opt_item v3 s6.1, Blk g0 93 [v1], Sl Ty.bool v1 x0] := s3t.drop
         refine Av ⟨s3u, ?_⟩
         refine Bk (i := 16) rfl (by kernel_rfl) ?_
         have s3v := s3t
         refine Au F s3v rfl rfl Fx.sz121 (Af rfl (Af rfl (Af rfl (Af rfl (Af rfl (Af rfl Bd)))))) (Ah rfl) fun w13 _ F s3w => ?_
         replace s3w : SL w FF w13 [Blk gb 121 [.int .i64 xc.1.in_.At, .int .u8 (xc.1.in_.Op.toNat : Int), .int .i64 xc.1.in_.A, .int .i64 xc.1.in_.B, .int .i64 xc.1.to, .bool xc.1.gone], Blk g9 94 [v3], Sl T_opt_item v3 s6.1, Blk g0 93 [v1], Sl Ty.bool v1 x0] := s3w
         have s3x : SL w FF _ [Blk g9 94 [v3], Sl T_opt_item v3 s6.1, Blk g0 93 [v1], Sl Ty.bool v1 x0] := s3w.drop
         refine Av ⟨s3x, ?_⟩
         refine Bk (i := 17) rfl (by kernel_rfl) ?_
         refine Bt F (Am rfl) rfl rfl rfl fun _ F => ?_
         have s3y : SL w FF _ [Blk g9 94 [v3], Sl T_opt_item v3 s6.1, Blk g0 93 [v1], Sl Ty.bool v1 x0] := s3w.drop
         refine Av ⟨s3y, ?_⟩
         refine Cg (by kernel_rfl) ?_
         obtain rfl := Ao H
         refine Ab ?_
         exact ⟨gb, F.sub ⟨rfl, rfl, rfl, rfl, rfl, rfl, trivial⟩, s3w.f4.f4.f4.f4⟩
        refine Bu F s3o Fx.zero121 rfl rfl fun gc w14 _ F s3z => ?_
        have s40 : SL w FF _ [Blk g9 94 [v3], Sl T_opt_item v3 s6.1, Blk g0 93 [v1], Sl Ty.bool v1 x0] := s3z.drop
        refine Av ⟨s40, ?_⟩
        refine Cj (rs := [14, 16]) (by kernel_rfl) (by decide) (Bs (Br rfl ?_) (Bs (Br rfl ?_) (Cp)))
        ·refine Bt F (As (v := .bool xc.2) rfl rfl) rfl rfl rfl fun _ F => ?_
         have s41 : SL w FF _ [Blk g9 94 [v3], Sl T_opt_item v3 s6.1, Blk g0 93 [v1], Sl Ty.bool v1 x0] := s3z.drop
         refine Av ⟨s41, ?_⟩
         refine Bk (i := 16) rfl (by kernel_rfl) ?_
         have s42 := s3z
         refine Au F s42 rfl rfl Fx.sz121 (Af rfl (Af rfl (Af rfl (Af rfl (Af rfl (Af rfl Bd)))))) (Ah rfl) fun w15 _ F s43 => ?_
         replace s43 : SL w FF w15 [Blk gc 121 [.int .i64 xc.1.in_.At, .int .u8 (xc.1.in_.Op.toNat : Int), .int .i64 xc.1.in_.A, .int .i64 xc.1.in_.B, .int .i64 xc.1.to, .bool xc.1.gone], Blk g9 94 [v3], Sl T_opt_item v3 s6.1, Blk g0 93 [v1], Sl Ty.bool v1 x0] := s43
         have s44 : SL w FF _ [Blk g9 94 [v3], Sl T_opt_item v3 s6.1, Blk g0 93 [v1], Sl Ty.bool v1 x0] := s43.drop
         refine Av ⟨s44, ?_⟩
         refine Bk (i := 17) rfl (by kernel_rfl) ?_
         refine Bt F (Am rfl) rfl rfl rfl fun _ F => ?_
         have s45 : SL w FF _ [Blk g9 94 [v3], Sl T_opt_item v3 s6.1, Blk g0 93 [v1], Sl Ty.bool v1 x0] := s43.drop
         refine Av ⟨s45, ?_⟩
         refine Cg (by kernel_rfl) ?_
         obtain rfl := Ao H
         refine Ab ?_
         exact ⟨gc, F.sub ⟨rfl, rfl, rfl, rfl, rfl, rfl, trivial⟩, s43.f4.f4.f4.f4⟩
        have s46 := s3z
        refine Au F s46 rfl rfl Fx.sz121 (Af rfl (Af rfl (Af rfl (Af rfl (Af rfl (Af rfl Bd)))))) (Ah rfl) fun w16 _ F s47 => ?_
        replace s47 : SL w FF w16 [Blk gc 121 [.int .i64 xc.1.in_.At, .int .u8 (xc.1.in_.Op.toNat : Int), .int .i64 xc.1.in_.A, .int .i64 xc.1.in_.B, .int .i64 xc.1.to, .bool xc.1.gone], Blk g9 94 [v3], Sl T_opt_item v3 s6.1, Blk g0 93 [v1], Sl Ty.bool v1 x0] := s47
        have s48 : SL w FF _ [Blk g9 94 [v3], Sl T_opt_item v3 s6.1, Blk g0 93 [v1], Sl Ty.bool v1 x0] := s47.drop
        refine Av ⟨s48, ?_⟩
        refine Bk (i := 14) rfl (by kernel_rfl) ?_
        refine Bt F (As (v := .bool xc.2) rfl rfl) rfl rfl rfl fun _ F => ?_
        have s49 : SL w FF _ [Blk g9 94 [v3], Sl T_opt_item v3 s6.1, Blk g0 93 [v1], Sl Ty.bool v1 x0] := s47.drop
        refine Av ⟨s49, ?_⟩
        refine Bk (i := 17) rfl (by kernel_rfl) ?_
        refine Bt F (Am rfl) rfl rfl rfl fun _ F => ?_
        have s4a : SL w FF _ [Blk g9 94 [v3], Sl T_opt_item v3 s6.1, Blk g0 93 [v1], Sl Ty.bool v1 x0] := s47.drop
        refine Av ⟨s4a, ?_⟩
        refine Cg (by kernel_rfl) ?_
        obtain rfl := Ao H
        refine Ab ?_
        exact ⟨gc, F.sub ⟨rfl, rfl, rfl, rfl, rfl, rfl, trivial⟩, s47.f4.f4.f4.f4⟩
       ·refine Bt F (As (v := .bool xc.2) rfl rfl) rfl rfl rfl fun _ F => ?_
        have s4b : SL w FF _ [Blk g9 94 [v3], Sl T_opt_item v3 s6.1, Blk g0 93 [v1], Sl Ty.bool v1 x0] := s3o
        refine Av ⟨s4b, ?_⟩
        refine Cj (rs := [13, 15]) (by kernel_rfl) (by decide) (Bs (Br rfl ?_) (Bs (Br rfl ?_) (Cp)))
        ·refine Bt F (As (v := .agg ⟨[.int .i64 xc.1.in_.At, .int .u8 (xc.1.in_.Op.toNat : Int), .int .i64 xc.1.in_.A, .int .i64 xc.1.in_.B, .int .i64 xc.1.to, .bool xc.1.gone]⟩) rfl rfl) rfl rfl rfl fun _ F => ?_
         have s4c : SL w FF _ [Blk g9 94 [v3], Sl T_opt_item v3 s6.1, Blk g0 93 [v1], Sl Ty.bool v1 x0] := s3o
         refine Av ⟨s4c, ?_⟩
         refine Bk (i := 15) rfl (by kernel_rfl) ?_
         refine Bu F s3o Fx.zero121 rfl rfl fun gd w17 _ F s4d => ?_
         have s4e : SL w FF _ [Blk g9 94 [v3], Sl T_opt_item v3 s6.1, Blk g0 93 [v1], Sl Ty.bool v1 x0] := s4d.drop
         refine Av ⟨s4e, ?_⟩
         refine Bk (i := 16) rfl (by kernel_rfl) ?_
         have s4f := s4d
         refine Au F s4f rfl rfl Fx.sz121 (Af rfl (Af rfl (Af rfl (Af rfl (Af rfl (Af rfl Bd)))))) (Ah rfl) fun w18 _ F s4g => ?_
         replace s4g : SL w FF w18 [Blk gd 121 [.int .i64 xc.1.in_.At, .int .u8 (xc.1.in_.Op.toNat : Int), .int .i64 xc.1.in_.A, .int .i64 xc.1.in_.B, .int .i64 xc.1.to, .bool xc.1.gone], Blk g9 94 [v3], Sl T_opt_item v3 s6.1, Blk g0 93 [v1], Sl Ty.bool v1 x0] := s4g
         have s4h : SL w FF _ [Blk g9 94 [v3], Sl T_opt_item v3 s6.1, Blk g0 93 [v1], Sl Ty.bool v1 x0] := s4g.drop
         refine Av ⟨s4h, ?_⟩
         refine Bk (i := 17) rfl (by kernel_rfl) ?_
         refine Bt F (Am rfl) rfl rfl rfl fun _ F => ?_
         have s4i : SL w FF _ [Blk g9 94 [v3], Sl T_opt_item v3 s6.1, Blk g0 93 [v1], Sl Ty.bool v1 x0] := s4g.drop
         refine Av ⟨s4i, ?_⟩
         refine Cg (by kernel_rfl) ?_
         obtain rfl := Ao H
         refine Ab ?_
         exact ⟨gd, F.sub ⟨rfl, rfl, rfl, rfl, rfl, rfl, trivial⟩, s4g.f4.f4.f4.f4⟩
        refine Bu F s3o Fx.zero121 rfl rfl fun ge w19 _ F s4j => ?_
        have s4k : SL w FF _ [Blk g9 94 [v3], Sl T_opt_item v3 s6.1, Blk g0 93 [v1], Sl Ty.bool v1 x0] := s4j.drop
        refine Av ⟨s4k, ?_⟩
        refine Bk (i := 13) rfl (by kernel_rfl) ?_
        refine Bt F (As (v := .agg ⟨[.int .i64 xc.1.in_.At, .int .u8 (xc.1.in_.Op.toNat : Int), .int .i64 xc.1.in_.A, .int .i64 xc.1.in_.B, .int .i64 xc.1.to, .bool xc.1.gone]⟩) rfl rfl) rfl rfl rfl fun _ F => ?_
        have s4l : SL w FF _ [Blk g9 94 [v3], Sl T_opt_item v3 s6.1, Blk g0 93 [v1], Sl Ty.bool v1 x0] := s4j.drop
        refine Av ⟨s4l, ?_⟩
        refine Bk (i := 16) rfl (by kernel_rfl) ?_
        have s4m := s4j
        refine Au F s4m rfl rfl Fx.sz121 (Af rfl (Af rfl (Af rfl (Af rfl (Af rfl (Af rfl Bd)))))) (Ah rfl) fun w1a _ F s4n => ?_
        replace s4n : SL w FF w1a [Blk ge 121 [.int .i64 xc.1.in_.At, .int .u8 (xc.1.in_.Op.toNat : Int), .int .i64 xc.1.in_.A, .int .i64 xc.1.in_.B, .int .i64 xc.1.to, .bool xc.1.gone], Blk g9 94 [v3], Sl T_opt_item v3 s6.1, Blk g0 93 [v1], Sl Ty.bool v1 x0] := s4n
        have s4o : SL w FF _ [Blk g9 94 [v3], Sl T_opt_item v3 s6.1, Blk g0 93 [v1], Sl Ty.bool v1 x0] := s4n.drop
        refine Av ⟨s4o, ?_⟩
        refine Bk (i := 17) rfl (by kernel_rfl) ?_
        refine Bt F (Am rfl) rfl rfl rfl fun _ F => ?_
        have s4p : SL w FF _ [Blk g9 94 [v3], Sl T_opt_item v3 s6.1, Blk g0 93 [v1], Sl Ty.bool v1 x0] := s4n.drop
        refine Av ⟨s4p, ?_⟩
        refine Cg (by kernel_rfl) ?_
        obtain rfl := Ao H
        refine Ab ?_
        exact ⟨ge, F.sub ⟨rfl, rfl, rfl, rfl, rfl, rfl, trivial⟩, s4n.f4.f4.f4.f4⟩
       refine Bu F s3o Fx.zero121 rfl rfl fun gf w1b _ F s4q => ?_
       have s4r : SL w FF _ [Blk g9 94 [v3], Sl T_opt_item v3 s6.1, Blk g0 93 [v1], Sl Ty.bool v1 x0] := s4q.drop
       refine Av ⟨s4r, ?_⟩
       refine Cj (rs := [13, 14]) (by kernel_rfl) (by decide) (Bs (Br rfl ?_) (Bs (Br rfl ?_) (Cp)))
       ·refine Bt F (As (v := .agg ⟨[.int .i64 xc.1.in_.At, .int .u8 (xc.1.in_.Op.toNat : Int), .int .i64 xc.1.in_.A, .int .i64 xc.1.in_.B, .int .i64 xc.1.to, .bool xc.1.gone]⟩) rfl rfl) rfl rfl rfl fun _ F => ?_
        have s4s : SL w FF _ [Blk g9 94 [v3], Sl T_opt_item v3 s6.1, Blk g0 93 [v1], Sl Ty.bool v1 x0] := s4q.drop
        refine Av ⟨s4s, ?_⟩
        refine Cj (rs := [14, 16]) (by kernel_rfl) (by decide) (Bs (Br rfl ?_) (Bs (Br rfl ?_) (Cp)))
        ·refine Bt F (As (v := .bool xc.2) rfl rfl) rfl rfl rfl fun _ F => ?_
         have s4t : SL w FF _ [Blk g9 94 [v3], Sl T_opt_item v3 s6.1, Blk g0 93 [v1], Sl Ty.bool v1 x0] := s4q.drop
         refine Av ⟨s4t, ?_⟩
         refine Bk (i := 16) rfl (by kernel_rfl) ?_
         have s4u := s4q
         refine Au F s4u rfl rfl Fx.sz121 (Af rfl (Af rfl (Af rfl (Af rfl (Af rfl (Af rfl Bd)))))) (Ah rfl) fun w1c _ F s4v => ?_
         replace s4v : SL w FF w1c [Blk gf 121 [.int .i64 xc.1.in_.At, .int .u8 (xc.1.in_.Op.toNat : Int), .int .i64 xc.1.in_.A, .int .i64 xc.1.in_.B, .int .i64 xc.1.to, .bool xc.1.gone], Blk g9 94 [v3], Sl T_opt_item v3 s6.1, Blk g0 93 [v1], Sl Ty.bool v1 x0] := s4v
         have s4w : SL w FF _ [Blk g9 94 [v3], Sl T_opt_item v3 s6.1, Blk g0 93 [v1], Sl Ty.bool v1 x0] := s4v.drop
         refine Av ⟨s4w, ?_⟩
         refine Bk (i := 17) rfl (by kernel_rfl) ?_
         refine Bt F (Am rfl) rfl rfl rfl fun _ F => ?_
         have s4x : SL w FF _ [Blk g9 94 [v3], Sl T_opt_item v3 s6.1, Blk g0 93 [v1], Sl Ty.bool v1 x0] := s4v.drop
         refine Av ⟨s4x, ?_⟩
         refine Cg (by kernel_rfl) ?_
         obtain rfl := Ao H
         refine Ab ?_
         exact ⟨gf, F.sub ⟨rfl, rfl, rfl, rfl, rfl, rfl, trivial⟩, s4v.f4.f4.f4.f4⟩
        have s4y := s4q
        refine Au F s4y rfl rfl Fx.sz121 (Af rfl (Af rfl (Af rfl (Af rfl (Af rfl (Af rfl Bd)))))) (Ah rfl) fun w1d _ F s4z => ?_
        replace s4z : SL w FF w1d [Blk gf 121 [.int .i64 xc.1.in_.At, .int .u8 (xc.1.in_.Op.toNat : Int), .int .i64 xc.1.in_.A, .int .i64 xc.1.in_.B, .int .i64 xc.1.to, .bool xc.1.gone], Blk g9 94 [v3], Sl T_opt_item v3 s6.1, Blk g0 93 [v1], Sl Ty.bool v1 x0] := s4z
        have s51 : SL w FF _ [Blk g9 94 [v3], Sl T_opt_item v3 s6.1, Blk g0 93 [v1], Sl Ty.bool v1 x0] := s4z.drop
        refine Av ⟨s51, ?_⟩
        refine Bk (i := 14) rfl (by kernel_rfl) ?_
        refine Bt F (As (v := .bool xc.2) rfl rfl) rfl rfl rfl fun _ F => ?_
        have s52 : SL w FF _ [Blk g9 94 [v3], Sl T_opt_item v3 s6.1, Blk g0 93 [v1], Sl Ty.bool v1 x0] := s4z.drop
        refine Av ⟨s52, ?_⟩
        refine Bk (i := 17) rfl (by kernel_rfl) ?_
        refine Bt F (Am rfl) rfl rfl rfl fun _ F => ?_
        have s53 : SL w FF _ [Blk g9 94 [v3], Sl T_opt_item v3 s6.1, Blk g0 93 [v1], Sl Ty.bool v1 x0] := s4z.drop
        refine Av ⟨s53, ?_⟩
        refine Cg (by kernel_rfl) ?_
        obtain rfl := Ao H
        refine Ab ?_
        exact ⟨gf, F.sub ⟨rfl, rfl, rfl, rfl, rfl, rfl, trivial⟩, s4z.f4.f4.f4.f4⟩
       refine Bt F (As (v := .bool xc.2) rfl rfl) rfl rfl rfl fun _ F => ?_
       have s54 : SL w FF _ [Blk g9 94 [v3], Sl T_opt_item v3 s6.1, Blk g0 93 [v1], Sl Ty.bool v1 x0] := s4q.drop
       refine Av ⟨s54, ?_⟩
       refine Bk (i := 13) rfl (by kernel_rfl) ?_
       refine Bt F (As (v := .agg ⟨[.int .i64 xc.1.in_.At, .int .u8 (xc.1.in_.Op.toNat : Int), .int .i64 xc.1.in_.A, .int .i64 xc.1.in_.B, .int .i64 xc.1.to, .bool xc.1.gone]⟩) rfl rfl) rfl rfl rfl fun _ F => ?_
       have s55 : SL w FF _ [Blk g9 94 [v3], Sl T_opt_item v3 s6.1, Blk g0 93 [v1], Sl Ty.bool v1 x0] := s4q.drop
       refine Av ⟨s55, ?_⟩
       refine Bk (i := 16) rfl (by kernel_rfl) ?_
       have s56 := s4q
       refine Au F s56 rfl rfl Fx.sz121 (Af rfl (Af rfl (Af rfl (Af rfl (Af rfl (Af rfl Bd)))))) (Ah rfl) fun w1e _ F s57 => ?_
       replace s57 : SL w FF w1e [Blk gf 121 [.int .i64 xc.1.in_.At, .int .u8 (xc.1.in_.Op.toNat : Int), .int .i64 xc.1.in_.A, .int .i64 xc.1.in_.B, .int .i64 xc.1.to, .bool xc.1.gone], Blk g9 94 [v3], Sl T_opt_item v3 s6.1, Blk g0 93 [v1], Sl Ty.bool v1 x0] := s57
       have s59 : SL w FF _ [Blk g9 94 [v3], Sl T_opt_item v3 s6.1, Blk g0 93 [v1], Sl Ty.bool v1 x0] := s57.drop
       refine Av ⟨s59, ?_⟩
       refine Bk (i := 17) rfl (by kernel_rfl) ?_
       refine Bt F (Am rfl) rfl rfl rfl fun _ F => ?_
       have s5a : SL w FF _ [Blk g9 94 [v3], Sl T_opt_item v3 s6.1, Blk g0 93 [v1], Sl Ty.bool v1 x0] := s57.drop
       refine Av ⟨s5a, ?_⟩
       refine Cg (by kernel_rfl) ?_
       obtain rfl := Ao H
       refine Ab ?_
       exact ⟨gf, F.sub ⟨rfl, rfl, rfl, rfl, rfl, rfl, trivial⟩, s57.f4.f4.f4.f4⟩
      refine Bu F s3o Fx.zero121 rfl rfl fun gg w1f _ F s5b => ?_
      have s5c : SL w FF _ [Blk g9 94 [v3], Sl T_opt_item v3 s6.1, Blk g0 93 [v1], Sl Ty.bool v1 x0] := s5b.drop
      refine Av ⟨s5c, ?_⟩
      refine Bk (i := 12) rfl (by kernel_rfl) ?_
      refine Bt F (Ae rfl) rfl rfl rfl fun _ F => ?_
      have s5d : SL w FF _ [Blk g9 94 [v3], Sl T_opt_item v3 s6.1, Blk g0 93 [v1], Sl Ty.bool v1 x0] := s5b.drop
      refine Av ⟨s5d, ?_⟩
      refine Cj (rs := [13, 14]) (by kernel_rfl) (by decide) (Bs (Br rfl ?_) (Bs (Br rfl ?_) (Cp)))
      ·refine Bt F (As (v := .agg ⟨[.int .i64 xc.1.in_.At, .int .u8 (xc.1.in_.Op.toNat : Int), .int .i64 xc.1.in_.A, .int .i64 xc.1.in_.B, .int .i64 xc.1.to, .bool xc.1.gone]⟩) rfl rfl) rfl rfl rfl fun _ F => ?_
       have s5e : SL w FF _ [Blk g9 94 [v3], Sl T_opt_item v3 s6.1, Blk g0 93 [v1], Sl Ty.bool v1 x0] := s5b.drop
       refine Av ⟨s5e, ?_⟩
       refine Cj (rs := [14, 16]) (by kernel_rfl) (by decide) (Bs (Br rfl ?_) (Bs (Br rfl ?_) (Cp)))
       ·refine Bt F (As (v := .bool xc.2) rfl rfl) rfl rfl rfl fun _ F => ?_
        have s5f : SL w FF _ [Blk g9 94 [v3], Sl T_opt_item v3 s6.1, Blk g0 93 [v1], Sl Ty.bool v1 x0] := s5b.drop
        refine Av ⟨s5f, ?_⟩
        refine Bk (i := 16) rfl (by kernel_rfl) ?_
        have s5g := s5b
        refine Au F s5g rfl rfl Fx.sz121 (Af rfl (Af rfl (Af rfl (Af rfl (Af rfl (Af rfl Bd)))))) (Ah rfl) fun w1g _ F s5h => ?_
        replace s5h : SL w FF w1g [Blk gg 121 [.int .i64 xc.1.in_.At, .int .u8 (xc.1.in_.Op.toNat : Int), .int .i64 xc.1.in_.A, .int .i64 xc.1.in_.B, .int .i64 xc.1.to, .bool xc.1.gone], Blk g9 94 [v3], Sl T_opt_item v3 s6.1, Blk g0 93 [v1], Sl Ty.bool v1 x0] := s5h
        have s5i : SL w FF _ [Blk g9 94 [v3], Sl T_opt_item v3 s6.1, Blk g0 93 [v1], Sl Ty.bool v1 x0] := s5h.drop
        refine Av ⟨s5i, ?_⟩
        refine Bk (i := 17) rfl (by kernel_rfl) ?_
        refine Bt F (Am rfl) rfl rfl rfl fun _ F => ?_
        have s5j : SL w FF _ [Blk g9 94 [v3], Sl T_opt_item v3 s6.1, Blk g0 93 [v1], Sl Ty.bool v1 x0] := s5h.drop
        refine Av ⟨s5j, ?_⟩
        refine Cg (by kernel_rfl) ?_
        obtain rfl := Ao H
        refine Ab ?_
        exact ⟨gg, F.sub ⟨rfl, rfl, rfl, rfl, rfl, rfl, trivial⟩, s5h.f4.f4.f4.f4⟩
       have s5k := s5b
       refine Au F s5k rfl rfl Fx.sz121 (Af rfl (Af rfl (Af rfl (Af rfl (Af rfl (Af rfl Bd)))))) (Ah rfl) fun w1h _ F s5l => ?_
       replace s5l : SL w FF w1h [Blk gg 121 [.int .i64 xc.1.in_.At, .int .u8 (xc.1.in_.Op.toNat : Int), .int .i64 xc.1.in_.A, .int .i64 xc.1.in_.B, .int .i64 xc.1.to, .bool xc.1.gone], Blk g9 94 [v3], Sl T_opt_item v3 s6.1, Blk g0 93 [v1], Sl Ty.bool v1 x0] := s5l
       have s5m : SL w FF _ [Blk g9 94 [v3], Sl T_opt_item v3 s6.1, Blk g0 93 [v1], Sl Ty.bool v1 x0] := s5l.drop
       refine Av ⟨s5m, ?_⟩
       refine Bk (i := 14) rfl (by kernel_rfl) ?_
       refine Bt F (As (v := .bool xc.2) rfl rfl) rfl rfl rfl fun _ F => ?_
       have s5n : SL w FF _ [Blk g9 94 [v3], Sl T_opt_item v3 s6.1, Blk g0 93 [v1], Sl Ty.bool v1 x0] := s5l.drop
       refine Av ⟨s5n, ?_⟩
       refine Bk (i := 17) rfl (by kernel_rfl) ?_
       refine Bt F (Am rfl) rfl rfl rfl fun _ F => ?_
       have s5o : SL w FF _ [Blk g9 94 [v3], Sl T_opt_item v3 s6.1, Blk g0 93 [v1], Sl Ty.bool v1 x0] := s5l.drop
       refine Av ⟨s5o, ?_⟩
       refine Cg (by kernel_rfl) ?_
       obtain rfl := Ao H
       refine Ab ?_
       exact ⟨gg, F.sub ⟨rfl, rfl, rfl, rfl, rfl, rfl, trivial⟩, s5l.f4.f4.f4.f4⟩
      refine Bt F (As (v := .bool xc.2) rfl rfl) rfl rfl rfl fun _ F => ?_
      have s5p : SL w FF _ [Blk g9 94 [v3], Sl T_opt_item v3 s6.1, Blk g0 93 [v1], Sl Ty.bool v1 x0] := s5b.drop
      refine Av ⟨s5p, ?_⟩
      refine Bk (i := 13) rfl (by kernel_rfl) ?_
      refine Bt F (As (v := .agg ⟨[.int .i64 xc.1.in_.At, .int .u8 (xc.1.in_.Op.toNat : Int), .int .i64 xc.1.in_.A, .int .i64 xc.1.in_.B, .int .i64 xc.1.to, .bool xc.1.gone]⟩) rfl rfl) rfl rfl rfl fun _ F => ?_
      have s5q : SL w FF _ [Blk g9 94 [v3], Sl T_opt_item v3 s6.1, Blk g0 93 [v1], Sl Ty.bool v1 x0] := s5b.drop
      refine Av ⟨s5q, ?_⟩
      refine Bk (i := 16) rfl (by kernel_rfl) ?_
      have s5r := s5b
      refine Au F s5r rfl rfl Fx.sz121 (Af rfl (Af rfl (Af rfl (Af rfl (Af rfl (Af rfl Bd)))))) (Ah rfl) fun w1i _ F s5s => ?_
      replace s5s : SL w FF w1i [Blk gg 121 [.int .i64 xc.1.in_.At, .int .u8 (xc.1.in_.Op.toNat : Int), .int .i64 xc.1.in_.A, .int .i64 xc.1.in_.B, .int .i64 xc.1.to, .bool xc.1.gone], Blk g9 94 [v3], Sl T_opt_item v3 s6.1, Blk g0 93 [v1], Sl Ty.bool v1 x0] := s5s
      have s5t : SL w FF _ [Blk g9 94 [v3], Sl T_opt_item v3 s6.1, Blk g0 93 [v1], Sl Ty.bool v1 x0] := s5s.drop
      refine Av ⟨s5t, ?_⟩
      refine Bk (i := 17) rfl (by kernel_rfl) ?_
      refine Bt F (Am rfl) rfl rfl rfl fun _ F => ?_
      have s5u : SL w FF _ [Blk g9 94 [v3], Sl T_opt_item v3 s6.1, Blk g0 93 [v1], Sl Ty.bool v1 x0] := s5s.drop
      refine Av ⟨s5u, ?_⟩
      refine Cg (by kernel_rfl) ?_
      obtain rfl := Ao H
      refine Ab ?_
      exact ⟨gg, F.sub ⟨rfl, rfl, rfl, rfl, rfl, rfl, trivial⟩, s5s.f4.f4.f4.f4⟩
     refine Bu F s3m Fx.zero121 rfl rfl fun gh w1j _ F s5v => ?_
     have s5w : SL w FF _ [Blk g9 94 [v3], Sl T_opt_item v3 s6.1, Blk g0 93 [v1], Sl Ty.bool v1 x0] := s5v.drop
     refine Av ⟨s5w, ?_⟩
     refine Bk (i := 11) rfl (by kernel_rfl) ?_
     refine Bi (args := [.tmp 73, .tmp 79]) F Fx.fn99 rfl (opt_two_c (a0 := (⟨xa.in_.At, xa.in_.Op, xa.in_.A, xa.in_.B⟩ : S_api_Instr)) (a1 := (⟨xb.in_.At, xb.in_.Op, xb.in_.A, xb.in_.B⟩ : S_api_Instr))    h1d) rfl fun va w1k _ h1k F => ?_
     obtain ⟨rfl, h1l⟩ := h1k
     have s5x := s5v.add h1l
     have s5y : SL w FF _ [Blk g9 94 [v3], Sl T_opt_item v3 s6.1, Blk g0 93 [v1], Sl Ty.bool v1 x0] := s5x.drop
     refine Av ⟨s5y, ?_⟩
     refine Bk (i := 12) rfl (by kernel_rfl) ?_
     refine Bt F (Ae rfl) rfl rfl rfl fun _ F => ?_
     have s5z : SL w FF _ [Blk g9 94 [v3], Sl T_opt_item v3 s6.1, Blk g0 93 [v1], Sl Ty.bool v1 x0] := s5x.drop
     refine Av ⟨s5z, ?_⟩
     refine Cj (rs := [13, 14]) (by kernel_rfl) (by decide) (Bs (Br rfl ?_) (Bs (Br rfl ?_) (Cp)))
     ·refine Bt F (As (v := .agg ⟨[.int .i64 xc.1.in_.At, .int .u8 (xc.1.in_.Op.toNat : Int), .int .i64 xc.1.in_.A, .int .i64 xc.1.in_.B, .int .i64 xc.1.to, .bool xc.1.gone]⟩) rfl rfl) rfl rfl rfl fun _ F => ?_
      have s60 : SL w FF _ [Blk g9 94 [v3], Sl T_opt_item v3 s6.1, Blk g0 93 [v1], Sl Ty.bool v1 x0] := s5x.drop
      refine Av ⟨s60, ?_⟩
      refine Cj (rs := [14, 16]) (by kernel_rfl) (by decide) (Bs (Br rfl ?_) (Bs (Br rfl ?_) (Cp)))
      ·refine Bt F (As (v := .bool xc.2) rfl rfl) rfl rfl rfl fun _ F => ?_
       have s61 : SL w FF _ [Blk g9 94 [v3], Sl T_opt_item v3 s6.1, Blk g0 93 [v1], Sl Ty.bool v1 x0] := s5x.drop
       refine Av ⟨s61, ?_⟩
       refine Bk (i := 16) rfl (by kernel_rfl) ?_
       have s62 := s5x
       refine Au F s62 rfl rfl Fx.sz121 (Af rfl (Af rfl (Af rfl (Af rfl (Af rfl (Af rfl Bd)))))) (Ah rfl) fun w1l _ F s65 => ?_
       replace s65 : SL w FF w1l [Blk gh 121 [.int .i64 xc.1.in_.At, .int .u8 (xc.1.in_.Op.toNat : Int), .int .i64 xc.1.in_.A, .int .i64 xc.1.in_.B, .int .i64 xc.1.to, .bool xc.1.gone], Blk g9 94 [v3], Sl T_opt_item v3 s6.1, Blk g0 93 [v1], Sl Ty.bool v1 x0] := s65
       have s66 : SL w FF _ [Blk g9 94 [v3], Sl T_opt_item v3 s6.1, Blk g0 93 [v1], Sl Ty.bool v1 x0] := s65.drop
       refine Av ⟨s66, ?_⟩
       refine Bk (i := 17) rfl (by kernel_rfl) ?_
       refine Bt F (Am rfl) rfl rfl rfl fun _ F => ?_
       have s67 : SL w FF _ [Blk g9 94 [v3], Sl T_opt_item v3 s6.1, Blk g0 93 [v1], Sl Ty.bool v1 x0] := s65.drop
       refine Av ⟨s67, ?_⟩
       refine Cg (by kernel_rfl) ?_
       obtain rfl := Ao H
       refine Ab ?_
       exact ⟨gh, F.sub ⟨rfl, rfl, rfl, rfl, rfl, rfl, trivial⟩, s65.f4.f4.f4.f4⟩
      have s68 := s5x
      refine Au F s68 rfl rfl Fx.sz121 (Af rfl (Af rfl (Af rfl (Af rfl (Af rfl (Af rfl Bd)))))) (Ah rfl) fun w1m _ F s69 => ?_
      replace s69 : SL w FF w1m [Blk gh 121 [.int .i64 xc.1.in_.At, .int .u8 (xc.1.in_.Op.toNat : Int), .int .i64 xc.1.in_.A, .int .i64 xc.1.in_.B, .int .i64 xc.1.to, .bool xc.1.gone], Blk g9 94 [v3], Sl T_opt_item v3 s6.1, Blk g0 93 [v1], Sl Ty.bool v1 x0] := s69
      have s6a : SL w FF _ [Blk g9 94 [v3], Sl T_opt_item v3 s6.1, Blk g0 93 [v1], Sl Ty.bool v1 x0] := s69.drop
      refine Av ⟨s6a, ?_⟩
      refine Bk (i := 14) rfl (by kernel_rfl) ?_
      refine Bt F (As (v := .bool xc.2) rfl rfl) rfl rfl rfl fun _ F => ?_
      have s6b : SL w FF _ [Blk g9 94 [v3], Sl T_opt_item v3 s6.1, Blk g0 93 [v1], Sl Ty.bool v1 x0] := s69.drop
      refine Av ⟨s6b, ?_⟩
      refine Bk (i := 17) rfl (by kernel_rfl) ?_
      refine Bt F (Am rfl) rfl rfl rfl fun _ F => ?_
      have s6c : SL w FF _ [Blk g9 94 [v3], Sl T_opt_item v3 s6.1, Blk g0 93 [v1], Sl Ty.bool v1 x0] := s69.drop
      refine Av ⟨s6c, ?_⟩
      refine Cg (by kernel_rfl) ?_
      obtain rfl := Ao H
      refine Ab ?_
      exact ⟨gh, F.sub ⟨rfl, rfl, rfl, rfl, rfl, rfl, trivial⟩, s69.f4.f4.f4.f4⟩
     refine Bt F (As (v := .bool xc.2) rfl rfl) rfl rfl rfl fun _ F => ?_
     have s6d : SL w FF _ [Blk g9 94 [v3], Sl T_opt_item v3 s6.1, Blk g0 93 [v1], Sl Ty.bool v1 x0] := s5x.drop
     refine Av ⟨s6d, ?_⟩
     refine Bk (i := 13) rfl (by kernel_rfl) ?_
     refine Bt F (As (v := .agg ⟨[.int .i64 xc.1.in_.At, .int .u8 (xc.1.in_.Op.toNat : Int), .int .i64 xc.1.in_.A, .int .i64 xc.1.in_.B, .int .i64 xc.1.to, .bool xc.1.gone]⟩) rfl rfl) rfl rfl rfl fun _ F => ?_
     have s6e : SL w FF _ [Blk g9 94 [v3], Sl T_opt_item v3 s6.1, Blk g0 93 [v1], Sl Ty.bool v1 x0] := s5x.drop
     refine Av ⟨s6e, ?_⟩
     refine Bk (i := 16) rfl (by kernel_rfl) ?_
     have s6f := s5x
     refine Au F s6f rfl rfl Fx.sz121 (Af rfl (Af rfl (Af rfl (Af rfl (Af rfl (Af rfl Bd)))))) (Ah rfl) fun w1n _ F s6g => ?_
     replace s6g : SL w FF w1n [Blk gh 121 [.int .i64 xc.1.in_.At, .int .u8 (xc.1.in_.Op.toNat : Int), .int .i64 xc.1.in_.A, .int .i64 xc.1.in_.B, .int .i64 xc.1.to, .bool xc.1.gone], Blk g9 94 [v3], Sl T_opt_item v3 s6.1, Blk g0 93 [v1], Sl Ty.bool v1 x0] := s6g
     have s6h : SL w FF _ [Blk g9 94 [v3], Sl T_opt_item v3 s6.1, Blk g0 93 [v1], Sl Ty.bool v1 x0] := s6g.drop
     refine Av ⟨s6h, ?_⟩
     refine Bk (i := 17) rfl (by kernel_rfl) ?_
     refine Bt F (Am rfl) rfl rfl rfl fun _ F => ?_
     have s6i : SL w FF _ [Blk g9 94 [v3], Sl T_opt_item v3 s6.1, Blk g0 93 [v1], Sl Ty.bool v1 x0] := s6g.drop
     refine Av ⟨s6i, ?_⟩
     refine Cg (by kernel_rfl) ?_
     obtain rfl := Ao H
     refine Ab ?_
     exact ⟨gh, F.sub ⟨rfl, rfl, rfl, rfl, rfl, rfl, trivial⟩, s6g.f4.f4.f4.f4⟩
    intro _ w1o hJ
    obtain ⟨ga, F, s6j⟩ := hJ
    have H := R4
    clear R4 H4
    refine Ab <| Ai <| Al <| Ak F (Aa (Ae rfl) <| Ad) fun _ F => Aj <| Ab <| Bm F rfl (fun h1m => ?_) (fun h1m => ?_)
    ·replace H := Bb h1m H
     refine Ai ?_
     obtain ⟨xd, h1n, H⟩ := Aq H
     obtain ⟨xe, h1o, H⟩ := Aq H
     refine wp_regh Fx.mixed (fun w_ => SL w FF w_ [Blk g9 94 [v3], Blk g0 93 [v1], Sl Ty.bool v1 x0, Blk ga 121 [.int .i64 o5.1, .int .u8 (o5.2.1.toNat : Int), .int .i64 o5.2.2.1, .int .i64 o5.2.2.2.1, .int .i64 o5.2.2.2.2.1, .bool o5.2.2.2.2.2.1]]) ?_
     have s6k := s6j.drew
     have s6l : SL w FF _ [Blk g9 94 [v3], Blk g0 93 [v1], Sl Ty.bool v1 x0, Blk ga 121 [.int .i64 o5.1, .int .u8 (o5.2.1.toNat : Int), .int .i64 o5.2.2.1, .int .i64 o5.2.2.2.1, .int .i64 o5.2.2.2.2.1, .bool o5.2.2.2.2.2.1]] := s6k.f1.drop
     refine Bv (i := 0) rfl (by kernel_rfl) (by kernel_rfl) (by kernel_rfl) (fun _ hC => Ba Fx.nag94 rfl (hC.blk_cell (.head _) rfl)) rfl rfl rfl F s6l fun _ F => ?_
     refine Bv (i := 1) rfl (by kernel_rfl) (by kernel_rfl) (by kernel_rfl) (fun _ hC => Ae rfl) rfl rfl rfl F s6l fun _ F => ?_
     refine Bv (i := 2) rfl (by kernel_rfl) (by kernel_rfl) (by kernel_rfl) (fun _ hC => Ba Fx.nag94 rfl (hC.blk_cell (.head _) rfl)) rfl rfl rfl F s6l fun _ F => ?_
     refine Bv (i := 3) rfl (by kernel_rfl) (by kernel_rfl) (by kernel_rfl) (fun _ hC => Ae rfl) rfl rfl rfl F s6l fun _ F => ?_
     refine Bv (i := 4) rfl (by kernel_rfl) (by kernel_rfl) (by kernel_rfl) (fun _ hC => Bp rfl rfl) rfl rfl rfl F s6l fun _ F => ?_
     refine Bv (i := 5) rfl (by kernel_rfl) (by kernel_rfl) (by kernel_rfl) (fun _ hC => Bn Fx.agg121 rfl (hC.blk_cells (.tail _ <| .tail _ <| .tail _ <| .head _) (o := 0) (ds := [.int .i64 o5.1, .int .u8 (o5.2.1.toNat : Int), .int .i64 o5.2.2.1, .int .i64 o5.2.2.2.1, .int .i64 o5.2.2.2.2.1, .bool o5.2.2.2.2.2.1]) (fun j u hu => by rw [Nat.zero_add]; exact hu)) rfl) rfl rfl rfl F s6l fun _ F => ?_
     refine Bk (i := 6) rfl (by kernel_rfl) ?_
     obtain ⟨ab, h1p, h1q⟩ := Cf F_opt_item s6k (.tail _ <| .head _) Fx.sl94 rfl h1n
     refine Bt F (h1p _ _ _ _ _ _ _ _ _ _ rfl rfl) rfl rfl rfl fun _ F => ?_
     have s6m : SL w FF _ [Blk g9 94 [v3], Blk g0 93 [v1], Sl Ty.bool v1 x0, Blk ga 121 [.int .i64 o5.1, .int .u8 (o5.2.1.toNat : Int), .int .i64 o5.2.2.1, .int .i64 o5.2.2.2.1, .int .i64 o5.2.2.2.2.1, .bool o5.2.2.2.2.2.1]] := s6k.f1.drop
     refine Av ⟨s6m, ?_⟩
     refine Bk (i := 7) rfl (by kernel_rfl) ?_
     refine Cr (y' := (⟨(⟨o5.1, o5.2.1, o5.2.2.1, o5.2.2.2.1⟩ : S_api_Instr), o5.2.2.2.2.1, o5.2.2.2.2.2.1⟩ : S_opt_item)) F_opt_item F s6k.f1 h1q h1n rfl rfl (by rfl) Fx.sz121 fun w1p _ F s6n => ?_
     have s6o : SL w FF _ [Blk g9 94 [v3], Blk g0 93 [v1], Sl Ty.bool v1 x0, Blk ga 121 [.int .i64 o5.1, .int .u8 (o5.2.1.toNat : Int), .int .i64 o5.2.2.1, .int .i64 o5.2.2.2.1, .int .i64 o5.2.2.2.2.1, .bool o5.2.2.2.2.2.1]] := s6n.drop
     refine Av ⟨s6o, ?_⟩
     refine Bk (i := 8) rfl (by kernel_rfl) ?_
     obtain ⟨ac, h1r, h1s⟩ := Cf F_opt_item s6n (.head _) Fx.sl94 rfl h1o
     refine Bt F (h1r _ _ _ _ _ _ _ _ _ _ rfl rfl) rfl rfl rfl fun _ F => ?_
     have s6p : SL w FF _ [Blk g9 94 [v3], Blk g0 93 [v1], Sl Ty.bool v1 x0, Blk ga 121 [.int .i64 o5.1, .int .u8 (o5.2.1.toNat : Int), .int .i64 o5.2.2.1, .int .i64 o5.2.2.2.1, .int .i64 o5.2.2.2.2.1, .bool o5.2.2.2.2.2.1]] := s6n.drop
     refine Av ⟨s6p, ?_⟩
     refine Bk (i := 9) rfl (by kernel_rfl) ?_
     refine Bt F (Cw Fx.fa121_2 rfl) rfl rfl rfl fun _ F => ?_
     have s6q : SL w FF _ [Blk g9 94 [v3], Blk g0 93 [v1], Sl Ty.bool v1 x0, Blk ga 121 [.int .i64 o5.1, .int .u8 (o5.2.1.toNat : Int), .int .i64 o5.2.2.1, .int .i64 o5.2.2.2.1, .int .i64 o5.2.2.2.2.1, .bool o5.2.2.2.2.2.1]] := s6n.drop
     refine Av ⟨s6q, ?_⟩
     refine Bk (i := 10) rfl (by kernel_rfl) ?_
     refine Dg (y' := (⟨(⟨xe.in_.At, xe.in_.Op, xe.in_.A, xe.in_.B⟩ : S_api_Instr), xe.to, true⟩ : S_opt_item)) (o := 5) (ds := [.bool true]) F_opt_item F s6n h1s h1o rfl rfl (by rfl) Fx.sz4 (by rfl) (Af rfl Bd) (by rfl) fun w1q _ F s6r => ?_
     have s6s : SL w FF _ [Blk g9 94 [v3], Blk g0 93 [v1], Sl Ty.bool v1 x0, Blk ga 121 [.int .i64 o5.1, .int .u8 (o5.2.1.toNat : Int), .int .i64 o5.2.2.1, .int .i64 o5.2.2.2.1, .int .i64 o5.2.2.2.2.1, .bool o5.2.2.2.2.2.1]] := s6r.drop
     refine Av ⟨s6s, ?_⟩
     refine Bk (i := 11) rfl (by kernel_rfl) ?_
     refine Bt F (Am rfl) rfl rfl rfl fun _ F => ?_
     have s6t : SL w FF _ [Blk g9 94 [v3], Blk g0 93 [v1], Sl Ty.bool v1 x0, Blk ga 121 [.int .i64 o5.1, .int .u8 (o5.2.1.toNat : Int), .int .i64 o5.2.2.1, .int .i64 o5.2.2.2.1, .int .i64 o5.2.2.2.2.1, .bool o5.2.2.2.2.2.1]] := s6r.drop
     refine Av ⟨s6t, ?_⟩
     refine Cg (by kernel_rfl) ?_
     refine Ab <| Al <| Ak F (Aa (Ae rfl) <| Aa (Bp rfl rfl) <| Aa (Am rfl) <| Ad) fun _ F => Aj <| By ?_
     obtain rfl := Ao H
     refine Ab ?_
     exact ⟨v3, F.sub ⟨rfl, rfl, rfl, rfl, trivial⟩, s6r.f4.drop.f3.f3.f3⟩
    replace H := Bc h1m H
    refine Aw <| By ?_
    obtain rfl := Ao H
    refine Ab ?_
    exact ⟨v3, F.sub ⟨rfl, rfl, rfl, rfl, trivial⟩, s6j.f4.drop.f1.f3.f3.f3⟩
   intro _ w1r hJ
   obtain ⟨v4, F, s6u⟩ := hJ
   have H := R1
   clear R1 H1
   refine Ab <| Al <| Ak F (Aa (Ae rfl) <| Aa (Bp rfl rfl) <| Aa (Am rfl) <| Ad) fun _ F => Aj ?_
   obtain rfl := Ao H
   refine Ab ?_
   exact ⟨_, rfl, v4, F.sub ⟨rfl, rfl, rfl, rfl, trivial⟩, s6u.f3.f1.f3.f3⟩
  replace H := Bc h4 H
  refine Bz <| Bo <| Bo <| Ca ?_
  obtain rfl := Ao H
  obtain rfl := hr _ rfl
  refine Ab ?_
  exact ⟨v3, F.sub ⟨rfl, rfl, trivial⟩, s7.drop⟩
 intro _ w1s hJ
 obtain ⟨v2, F, s6v⟩ := hJ
 have H := R0
 clear R0 H0
 refine Ab <| Ai <| Al ?_
 obtain ⟨xf, h1t, H⟩ := Aq H
 refine Ak F (Aa (Ba Fx.nag94 rfl (s6v.blk_cell (.tail _ <| .head _) rfl)) <| Ad) fun _ F => Bi (args := [.tmp 95]) F Fx.fn95 rfl (opt_left_c (a0 := o0.1)   (s6v.rd0 (.tail _ <| .tail _ <| .head _)) h1t) rfl fun vb w1t _ h1u F => ?_
 obtain ⟨_, rfl, h1v⟩ := h1u
 have s6w := s6v.add h1v
 refine Ak F (Aa (Ae rfl) <| Aa (Am rfl) <| Aa (Am rfl) <| Ad) fun _ F => Aj <| Ab ?_
 obtain rfl := Ao H
 refine Bf ?_
 refine Ax (rs := [.tmp 2, .tmp 3]) (vs := [vb, .bool o0.2]) F (by rfl) ⟨_, _, rfl, Ay rfl, _, _, rfl, Ay rfl, rfl⟩ ⟨_, rfl, ⟨vb, rfl, s6w.f1.drop.f1.drop.f1.drop⟩⟩
-- proviso/opt.sure
theorem opt_sure_c {w : World} {FF : List Nat} {v0 : Value} {a0 : List S_opt_item} {r : (List S_opt_item) × Bool} (hst : Star [Sl T_opt_item v0 a0] w FF)  (H : opt_sure a0 = some r) :
    Calls Try.prog 67 #[v0] w (Ret fun u_ w_ => ∃ u0 : Value, u_ = .tuple ⟨[u0, .bool r.2]⟩ ∧ SL w FF w_ [Sl T_opt_item u0 r.1]) := by
 have s0 : SL w FF w [Sl T_opt_item v0 a0] := SL.init w FF hst
 refine Bq Try.func67 rfl Try.ntmps67 (Ah rfl) (args := [v0]) fun q0 F0 => ?_
 unfold opt_sure at H
 refine Ai <| Al <| Ak F0 (Aa (Am rfl) <| Aa (Am rfl) <| Ad) fun q3 F4 => Aj <| Ab <| Ai <| Al ?_
 obtain ⟨x0, h0, H⟩ := Aq H
 refine Ak F4 (Aa (Ae rfl) <| Ad) fun _ F => Bi (args := [.tmp 8]) F Fx.fn96 rfl (opt_led_c (a0 := a0)   (s0.rd0 (.head _)) h0) rfl fun v1 w0 _ h1 F => ?_
 obtain ⟨_, rfl, h2⟩ := h1
 have s1 := s0.add h2
 refine Ak F (Aa (Am rfl) <| Ad) fun _ F => Aj <| Ab <| Ai <| Al <| Ak F (Aa (Am rfl) <| Ad) fun _ F => Aj <| Ab <| Ai <| Ai <| Al <| Ak F (Aa (Am rfl) <| Ad) fun _ F => Aj <| Ab ?_
 obtain ⟨o0, H0, R0⟩ := Aq H
 clear H
 refine Bx (fun a w_ => ∃ v2 : Value, Fr a 70 [(0, v2), (5, .bool o0.2)] ∧ SL w FF w_ [Sl T_opt_item v2 o0.1]) ?_ ?_
 ·have H := H0
  refine Be <| Cq (opt_sure_b0 x0) (fun s2 a w_ => ∃ v3 : Value, Fr a 70 [(0, v3), (4, v1), (5, .bool s2.2.1), (6, .int .i64 s2.2.2)] ∧ SL w FF w_ [Sl Ty.bool v1 x0, Sl T_opt_item v3 s2.1]) H ?_ ?_
  ·exact ⟨v0, F.sub ⟨rfl, rfl, rfl, rfl, trivial⟩, s1⟩
  intro s2 _ w1 h3 o1 H hr
  obtain ⟨v3, F, s3⟩ := h3
  replace H : opt_sure_b0 x0 s2 = some o1 := H
  unfold opt_sure_b0 at H
  refine Ai <| Ai <| Al <| Ak F (Aa (Ae rfl) <| Aa (Bp rfl rfl) <| Aa (Ae rfl) <| Aa (Cd rfl Try.underlying94 (Cc (s3.own_rd (.tail _ <| .head _)))) <| Aa (Cn rfl rfl) <| Ad) fun _ F => Aj <| Ab <| Bm F rfl (fun h4 => ?_) (fun h4 => ?_)
  ·replace H := Bb h4 H
   refine Aw <| Ab <| Ai <| Be <| Ai <| Al ?_
   obtain ⟨x1, h5, H⟩ := Aq H
   obtain ⟨a1, h6, h7⟩ := Cf F_opt_item s3 (.tail _ <| .head _) Fx.sl94 rfl h5
   refine Ak F (Aa (Ae rfl) <| Aa (Ae rfl) <| Aa (Bp rfl rfl) <| Aa (h6 _ _ _ _ _ _ _ _ _ _ rfl rfl) <| Aa (Bn Fx.agg121 rfl (SL.elcells F_opt_item s3 (.tail _ <| .head _) h7 h5) rfl) <| Ad) fun _ F => Bu F s3 Fx.zero121 rfl rfl fun g0 w2 _ F s4 => ?_
   have s5 := s4
   refine Au F s5 rfl rfl Fx.sz121 (Af rfl (Af rfl (Af rfl (Af rfl (Af rfl (Af rfl Bd)))))) (Ah rfl) fun w3 _ F s6 => ?_
   replace s6 : SL w FF w3 [Blk g0 121 [.int .i64 x1.in_.At, .int .u8 (x1.in_.Op.toNat : Int), .int .i64 x1.in_.A, .int .i64 x1.in_.B, .int .i64 x1.to, .bool x1.gone], Sl Ty.bool v1 x0, Sl T_opt_item v3 s2.1] := s6
   refine Aj <| Ab <| Ai <| Ai <| Al ?_
   obtain ⟨x2, h8, H⟩ := Aq H
   obtain ⟨a2, h9, ha⟩ := Cf F_opt_item s6 (.tail _ <| .tail _ <| .head _) Fx.sl94 rfl h8
   refine Ak F (Aa (Ae rfl) <| Aa (Ae rfl) <| Aa (h9 _ _ _ _ _ _ _ _ _ _ rfl rfl) <| Aa (Cw Fx.fa121_0 rfl) <| Aa (ex_fae Fx.fa90_1 rfl rfl) <| Aa (Ba Fx.nag5 rfl (Cells.at_ (SL.elcells F_opt_item s6 (.tail _ <| .tail _ <| .head _) ha h8) (o := 1) rfl)) <| Aa (Dd rfl rfl) <| Aa (Ae rfl) <| Ad) fun _ F => Bl ((x2.in_.Op.toNat : Int) != 2) (fun hb => ?_) (fun hb => ?_)
   ·replace H := Bb hb H
    refine Ap F rfl rfl (An rfl hb) Ac rfl rfl fun _ F => Ap F rfl rfl (An rfl hb) Ac rfl rfl fun _ F => Ap F rfl rfl (An rfl hb) Ac rfl rfl fun _ F => Ap F rfl rfl (An rfl hb) Ac rfl rfl fun _ F => Ak F (Aa (Bh (Cb rfl hb) rfl) <| Aa (Ae rfl) <| Ad) fun _ F => Ap F rfl rfl rfl Ac rfl rfl fun _ F => Ap F rfl rfl rfl Ac rfl rfl fun _ F => Ap F rfl rfl rfl Ac rfl rfl fun _ F => Ap F rfl rfl rfl Ac rfl rfl fun _ F => Ap F rfl rfl rfl Ac rfl rfl fun _ F => Ak F (Aa (Bh rfl rfl) <| Ad) fun _ F => Aj <| Ab <| Cy F rfl <| Bz <| Bo <| Ca <| Ab <| Al <| Ak F (Aa (Ae rfl) <| Aa (Bp rfl rfl) <| Aa (Am rfl) <| Ad) fun _ F => Aj ?_
    obtain rfl := Ao H
    refine Ab ?_
    exact ⟨_, rfl, v3, F.sub ⟨rfl, rfl, rfl, rfl, trivial⟩, s6.drop⟩
   replace H := Bc hb H
   refine Ar F rfl rfl (An rfl hb) (Az Fx.fa121_0 rfl rfl) rfl rfl fun _ F => Ar F rfl rfl (An rfl hb) (Az Fx.fa90_1 rfl rfl) rfl rfl fun _ F => Ar F rfl rfl (An rfl hb) (Ba Fx.nag5 rfl (s6.blk_cell (.head _) rfl)) rfl rfl fun _ F => Ar F rfl rfl (An rfl hb) (Dd rfl rfl) rfl rfl fun _ F => Ak F (Aa (Bj (Cb rfl hb) rfl) <| Aa (Ae rfl) <| Ad) fun _ F => Bl ((x1.in_.Op.toNat : Int) != 20) (fun hc => ?_) (fun hc => ?_)
   ·replace H := Bb hc H
    refine Ap F rfl rfl (An rfl hc) Ac rfl rfl fun _ F => Ap F rfl rfl (An rfl hc) Ac rfl rfl fun _ F => Ap F rfl rfl (An rfl hc) Ac rfl rfl fun _ F => Ap F rfl rfl (An rfl hc) Ac rfl rfl fun _ F => Ap F rfl rfl (An rfl hc) Ac rfl rfl fun _ F => Ak F (Aa (Bh (Cb rfl hc) rfl) <| Ad) fun _ F => Aj <| Ab <| Cy F rfl <| Bz <| Bo <| Ca <| Ab <| Al <| Ak F (Aa (Ae rfl) <| Aa (Bp rfl rfl) <| Aa (Am rfl) <| Ad) fun _ F => Aj ?_
    obtain rfl := Ao H
    refine Ab ?_
    exact ⟨_, rfl, v3, F.sub ⟨rfl, rfl, rfl, rfl, trivial⟩, s6.drop⟩
   replace H := Bc hc H
   refine Ar F rfl rfl (An rfl hc) (Ae rfl) rfl rfl fun _ F => Ar F rfl rfl (An rfl hc) (Ae rfl) rfl rfl fun _ F => Ar F rfl rfl (An rfl hc) (Bp rfl rfl) rfl rfl fun _ F => ?_
   obtain ⟨x3, hd, H⟩ := Aq H
   obtain ⟨a3, he, hf⟩ := Cf Flat.bool s6 (.tail _ <| .head _) Fx.sl93 rfl hd
   refine Ar F rfl rfl (An rfl hc) (he _ _ _ _ _ _ _ _ _ _ rfl rfl) rfl rfl fun _ F => Ar F rfl rfl (An rfl hc) (Ba Fx.nag4 rfl (Cells.at_ (SL.elcells Flat.bool s6 (.tail _ <| .head _) hf hd) (o := 0) rfl)) rfl rfl fun _ F => Ak F (Aa (Bj (Cb rfl hc) rfl) <| Ad) fun _ F => Aj <| Ab <| Bm F rfl (fun hg => ?_) (fun hg => ?_)
   ·replace H := Bb hg H
    refine Bz <| Bo <| Ca <| Ab <| Al <| Ak F (Aa (Ae rfl) <| Aa (Bp rfl rfl) <| Aa (Am rfl) <| Ad) fun _ F => Aj ?_
    obtain rfl := Ao H
    refine Ab ?_
    exact ⟨_, rfl, v3, F.sub ⟨rfl, rfl, rfl, rfl, trivial⟩, s6.drop⟩
   replace H := Bc hg H
   refine Aw <| Ab <| Ai <| Ai <| Al ?_
   obtain ⟨x4, hh, H⟩ := Aq H
   obtain ⟨a4, hi, hj⟩ := Cf F_opt_item s6 (.tail _ <| .tail _ <| .head _) Fx.sl94 rfl hh
   refine Ak F (Aa (Ae rfl) <| Aa (Ae rfl) <| Aa (hi _ _ _ _ _ _ _ _ _ _ rfl rfl) <| Aa (Cw Fx.fa121_0 rfl) <| Aa (ex_fae Fx.fa90_2 rfl rfl) <| Aa (Ba Fx.nag3 rfl (Cells.at_ (SL.elcells F_opt_item s6 (.tail _ <| .tail _ <| .head _) hj hh) (o := 2) rfl)) <| Aa (Bw rfl rfl) <| Ad) fun _ F => Aj <| Ab <| Bm F rfl (fun hk => ?_) (fun hk => ?_)
   ·replace H := Bb hk H
    refine Al ?_
    obtain ⟨x5, hl, H⟩ := Aq H
    obtain ⟨a5, hm, hn⟩ := Cf F_opt_item s6 (.tail _ <| .tail _ <| .head _) Fx.sl94 rfl hl
    refine Ak F (Aa (Ae rfl) <| Aa (Ae rfl) <| Aa (Co (vs := [.int .u8 19]) Fx.zero90 Fx.pl90 rfl (cs := [.int .i64 0, .int .u8 19, .int .i64 0, .int .i64 0]) (rfl)) <| Aa (Az Fx.fa121_1 rfl rfl) <| Aa (Ba Fx.nag3 rfl (s6.blk_cell (.head _) rfl)) <| Aa (Co (vs := [.agg ⟨[.int .i64 0, .int .u8 19, .int .i64 0, .int .i64 0]⟩, .int .i64 x1.to]) Fx.zero121 Fx.pl121 rfl (cs := [.int .i64 0, .int .u8 19, .int .i64 0, .int .i64 0, .int .i64 x1.to, .bool false]) (rfl)) <| Aa (hm _ _ _ _ _ _ _ _ _ _ rfl rfl) <| Ad) fun _ F => ?_
    refine Cr (y' := (⟨(⟨0, 19, 0, 0⟩ : S_api_Instr), x1.to, false⟩ : S_opt_item)) F_opt_item F s6.f2 hn hl rfl rfl (by rfl) Fx.sz121 fun w4 _ F s7 => ?_
    refine Aj <| Ab <| Ai <| Al ?_
    obtain ⟨x6, ho, H⟩ := Aq H
    obtain ⟨a6, hp, hq⟩ := Cf F_opt_item s7 (.head _) Fx.sl94 rfl ho
    refine Ak F (Aa (Ae rfl) <| Aa (Ae rfl) <| Aa (Bp rfl rfl) <| Aa (hp _ _ _ _ _ _ _ _ _ _ rfl rfl) <| Aa (Cw Fx.fa121_2 rfl) <| Ad) fun _ F => ?_
    refine Dg (y' := (⟨(⟨x6.in_.At, x6.in_.Op, x6.in_.A, x6.in_.B⟩ : S_api_Instr), x6.to, true⟩ : S_opt_item)) (o := 5) (ds := [.bool true]) F_opt_item F s7 hq ho rfl rfl (by rfl) Fx.sz4 (by rfl) (Af rfl Bd) (by rfl) fun w5 _ F s8 => ?_
    refine Ak F (Aa (Am rfl) <| Ad) fun _ F => Aj <| Ab <| Al <| Ak F (Aa (Ae rfl) <| Aa (Bp rfl rfl) <| Aa (Am rfl) <| Ad) fun _ F => Aj <| By <| Ab <| Al <| Ak F (Aa (Ae rfl) <| Aa (Bp rfl rfl) <| Aa (Am rfl) <| Ad) fun _ F => Aj ?_
    obtain rfl := Ao H
    refine Ab ?_
    exact ⟨_, rfl, v3, F.sub ⟨rfl, rfl, rfl, rfl, trivial⟩, s8.f1.drop.f1⟩
   replace H := Bc hk H
   refine Al ?_
   obtain ⟨x7, hs, H⟩ := Aq H
   obtain ⟨a7, ht, hu⟩ := Cf F_opt_item s6 (.tail _ <| .tail _ <| .head _) Fx.sl94 rfl hs
   refine Ak F (Aa (Ae rfl) <| Aa (Ae rfl) <| Aa (ht _ _ _ _ _ _ _ _ _ _ rfl rfl) <| Aa (Cw Fx.fa121_2 rfl) <| Ad) fun _ F => ?_
   refine Dg (y' := (⟨(⟨x7.in_.At, x7.in_.Op, x7.in_.A, x7.in_.B⟩ : S_api_Instr), x7.to, true⟩ : S_opt_item)) (o := 5) (ds := [.bool true]) F_opt_item F s6.f2 hu hs rfl rfl (by rfl) Fx.sz4 (by rfl) (Af rfl Bd) (by rfl) fun w6 _ F s9 => ?_
   refine Aj <| Ab <| Ai <| Al ?_
   obtain ⟨x8, hv, H⟩ := Aq H
   obtain ⟨a8, hw, hx⟩ := Cf F_opt_item s9 (.head _) Fx.sl94 rfl hv
   refine Ak F (Aa (Ae rfl) <| Aa (Ae rfl) <| Aa (Bp rfl rfl) <| Aa (hw _ _ _ _ _ _ _ _ _ _ rfl rfl) <| Aa (Cw Fx.fa121_2 rfl) <| Ad) fun _ F => ?_
   refine Dg (y' := (⟨(⟨x8.in_.At, x8.in_.Op, x8.in_.A, x8.in_.B⟩ : S_api_Instr), x8.to, true⟩ : S_opt_item)) (o := 5) (ds := [.bool true]) F_opt_item F s9 hx hv rfl rfl (by rfl) Fx.sz4 (by rfl) (Af rfl Bd) (by rfl) fun w7 _ F sa => ?_
   refine Ak F (Aa (Am rfl) <| Ad) fun _ F => Aj <| Ab <| Al <| Ak F (Aa (Ae rfl) <| Aa (Bp rfl rfl) <| Aa (Am rfl) <| Ad) fun _ F => Aj <| By <| Ab <| Al <| Ak F (Aa (Ae rfl) <| Aa (Bp rfl rfl) <| Aa (Am rfl) <| Ad) fun _ F => Aj ?_
   obtain rfl := Ao H
   refine Ab ?_
   exact ⟨_, rfl, v3, F.sub ⟨rfl, rfl, rfl, rfl, trivial⟩, sa.f1.drop.f1⟩
  replace H := Bc h4 H
  refine Bz <| Bo <| Bo <| Ca ?_
  obtain rfl := Ao H
  obtain rfl := hr _ rfl
  refine Ab ?_
  exact ⟨v3, F.sub ⟨rfl, rfl, trivial⟩, s3.drop⟩
 intro _ w8 hJ
 obtain ⟨v2, F, sb⟩ := hJ
 have H := R0
 clear R0 H0
 refine Ab <| Ai <| Al ?_
 obtain ⟨x9, hy, H⟩ := Aq H
 refine Ak F (Aa (Ae rfl) <| Ad) fun _ F => Bi (args := [.tmp 67]) F Fx.fn95 rfl (opt_left_c (a0 := o0.1)   (sb.rd0 (.head _)) hy) rfl fun v4 w9 _ hz F => ?_
 obtain ⟨_, rfl, h10⟩ := hz
 have sc := sb.add h10
 refine Ak F (Aa (Ae rfl) <| Aa (Am rfl) <| Aa (Am rfl) <| Ad) fun _ F => Aj <| Ab ?_
 obtain rfl := Ao H
 refine Bf ?_
 refine Ax (rs := [.tmp 2, .tmp 3]) (vs := [v4, .bool o0.2]) F (by rfl) ⟨_, _, rfl, Ay rfl, _, _, rfl, Ay rfl, rfl⟩ ⟨_, rfl, ⟨v4, rfl, sc.f1.drop⟩⟩
-- proviso/opt.Func
theorem opt_Func_c {w : World} {v0_1 v0_4 : Value} {a0 : S_api_Func} {r : S_api_Func × Int} (hr0_1 : Rd Ty.u8 w [] v0_1 a0.Sig.Params) (hr0_4 : Rd Ty.u8 w [] v0_4 a0.Code) (H : opt_Func a0 = some r) :
    Calls Try.prog 23 #[.agg ⟨[.string ⟨⟨a0.Name⟩⟩, v0_1, .int .u8 (a0.Sig.Result.toNat : Int), .int .i64 a0.Locals, v0_4]⟩] w (Ret fun u_ w_ => ∃ u0 u1 : Value, u_ = .tuple ⟨[.agg ⟨[.string ⟨⟨r.1.Name⟩⟩, u0, .int .u8 (r.1.Sig.Result.toNat : Int), .int .i64 r.1.Locals, u1]⟩, .int .i64 r.2]⟩ ∧ SL w [] w_ [Sl Ty.u8 u0 r.1.Sig.Params, Sl Ty.u8 u1 r.1.Code]) := by
 have s0 : SL w [] w [] := SL.init0 w
 refine Bq Try.func23 rfl Try.ntmps23 (Ah rfl) (args := [.agg ⟨[.string ⟨⟨a0.Name⟩⟩, v0_1, .int .u8 (a0.Sig.Result.toNat : Int), .int .i64 a0.Locals, v0_4]⟩]) fun q0 F0 => ?_
 unfold opt_Func at H
 refine Ai <| Al <| Cz F0 s0 rfl rfl rfl fun g0 w0 _ F s1 => Bu F s1 Fx.zero56 rfl rfl fun g1 w1 _ F s2 => Ak F (Aa (Am rfl) <| Ad) fun _ F => Aj <| Ab <| wp_scope_fwd 0 rfl <| Ai <| Al ?_
 obtain ⟨x0, h0, H⟩ := Aq H
 refine Ak F (Aa (Az Fx.fa56_3 rfl rfl) <| Aa (Ba Fx.nag22 rfl (s2.blk_cell (.tail _ <| .head _) rfl)) <| Ad) fun _ F => Bi (args := [.tmp 16]) F Fx.fn28 rfl (flow_Check_c (a0 := a0.Code)   (hr0_4.pass0 s2) h0) rfl fun v0 w2 _ h1 F => ?_
 obtain ⟨rfl, h2⟩ := h1
 have s3 := s2.add h2
 refine Ak F (Aa (Ae rfl) <| Aa (As (v := .int .i64 x0.1) rfl rfl) <| Aa (As (v := .int .i64 x0.2) rfl rfl) <| Aa (Am rfl) <| Aa (Am rfl) <| Ad) fun _ F => Aj <| Ab <| Ai <| Ai <| Al <| Ak F (Aa (Ae rfl) <| Aa (Dd rfl rfl) <| Ad) fun _ F => Aj <| Ab <| Bm F rfl (fun h3 => ?_) (fun h3 => ?_)
 ·replace H := Bb h3 H
  refine Ai <| Al <| Ak F (Aa (Co (vs := []) Fx.zero56 Fx.pl56 rfl (cs := [.string ⟨⟨[]⟩⟩, .slice none 0 0, .int .u8 0, .int .i64 0, .slice none 0 0]) (rfl)) <| Aa (Ae rfl) <| Ad) fun _ F => ?_
  have s4 := s3
  refine Au F s4 rfl rfl Fx.sz56 (Af rfl (Af rfl (Af rfl (Af rfl (Af rfl Bd))))) (Ah rfl) fun w3 _ F s5 => ?_
  replace s5 : SL w [] w3 [Blk g1 56 [.string ⟨⟨[]⟩⟩, .slice none 0 0, .int .u8 0, .int .i64 0, .slice none 0 0], Blk g0 56 [.string ⟨⟨a0.Name⟩⟩, v0_1, .int .u8 (a0.Sig.Result.toNat : Int), .int .i64 a0.Locals, v0_4]] := s5
  refine Ak F (Aa (Am rfl) <| Ad) fun _ F => Aj <| Ab ?_
  obtain rfl := Ao H
  refine Bf <| Bg <| jmp_r ?_
  refine Ax (rs := [.cell 2 56, .tmp 3]) (vs := [.agg ⟨[.string ⟨⟨[]⟩⟩, .slice none 0 0, .int .u8 0, .int .i64 0, .slice none 0 0]⟩, .int .i64 x0.2]) F (by rfl) ⟨_, _, rfl, Ci s5 (.head _) rfl Fx.agg56 rfl, _, _, rfl, Ay rfl, rfl⟩ ⟨_, rfl, ⟨(.slice none 0 0), (.slice none 0 0), rfl, (SL.nilSl (T := Ty.u8) (SL.nilSl (T := Ty.u8) s5)).f2.drop.f2.drop.f1⟩⟩
 replace H := Bc h3 H
 refine Aw <| Ab <| Ai <| Al ?_
 obtain ⟨x1, h4, H⟩ := Aq H
 refine Ak F (Aa (Az Fx.fa56_3 rfl rfl) <| Aa (Ba Fx.nag22 rfl (s3.blk_cell (.tail _ <| .head _) rfl)) <| Ad) fun _ F => Bi (args := [.tmp 25]) F Fx.fn43 rfl (opt_items_c (a0 := a0.Code)   (hr0_4.pass0 s3) h4) rfl fun v1 w4 _ h5 F => ?_
 obtain ⟨_, rfl, h6⟩ := h5
 have s6 := s3.add h6
 refine Ak F (Aa (Am rfl) <| Ad) fun _ F => Aj <| Ab <| Ai <| wp_label <| Ab <| Ai ?_
 obtain ⟨o0, H0, R0⟩ := Aq H
 clear H
 refine Bx (fun a w_ => ∃ v2 : Value, Fr a 67 [(1, .pointer (some ⟨g0, 0, none⟩)), (2, .pointer (some ⟨g1, 0, none⟩)), (6, v2)] ∧ SL w [] w_ [Blk g1 56 [.string ⟨⟨[]⟩⟩, .slice none 0 0, .int .u8 0, .int .i64 0, .slice none 0 0], Blk g0 56 [.string ⟨⟨a0.Name⟩⟩, v0_1, .int .u8 (a0.Sig.Result.toNat : Int), .int .i64 a0.Locals, v0_4], Sl T_opt_item v2 o0]) ?_ ?_
 ·have H := H0
  refine Be <| Cq (opt_Func_b0) (fun s7 a w_ => ∃ v3 : Value, Fr a 67 [(1, .pointer (some ⟨g0, 0, none⟩)), (2, .pointer (some ⟨g1, 0, none⟩)), (6, v3)] ∧ SL w [] w_ [Blk g1 56 [.string ⟨⟨[]⟩⟩, .slice none 0 0, .int .u8 0, .int .i64 0, .slice none 0 0], Blk g0 56 [.string ⟨⟨a0.Name⟩⟩, v0_1, .int .u8 (a0.Sig.Result.toNat : Int), .int .i64 a0.Locals, v0_4], Sl T_opt_item v3 s7]) H ?_ ?_
  ·exact ⟨v1, F.sub ⟨rfl, rfl, rfl, trivial⟩, s6.f2.f2⟩
  intro s7 _ w5 h7 o1 H hr
  obtain ⟨v3, F, s8⟩ := h7
  replace H : opt_Func_b0 s7 = some o1 := H
  unfold opt_Func_b0 at H
  refine Be <| Ai <| Al <| Ak F (Aa (Am rfl) <| Ad) fun _ F => Aj <| Ab <| Ai <| Ai <| Al ?_
  obtain ⟨x2, h8, H⟩ := Aq H
  refine Bi (args := []) F Fx.fn44 rfl (opt_rules_c     h8) rfl fun v4 w6 _ h9 F => ?_
  obtain ⟨g2, rfl, ha⟩ := h9
  have s9 := s8.add ha
  refine Ak F (Aa (Cd rfl Try.underlying96 ⟨_, _, rfl⟩) <| Aa (Ae rfl) <| Ad) fun _ F => Aj <| Ab <| Be <| wp_loop_rounds 6 <| rounds_step <| Ai <| Al <| Ak F (Aa (Cn rfl rfl) <| Ad) fun _ F => Aj <| Ab <| Ai <| Cy F rfl <| Aw <| Ab <| Ai <| Be <| Ai <| Al ?_
  refine Ak F (Aa (ex_ixlit Fx.sl96 rfl rfl (by decide)) <| Aa (Ba Fx.nag99 rfl (s9.blk_cell (.head _) rfl)) <| Aa (Am rfl) <| Ad) fun _ F => ?_
  refine Aj <| Ab <| Ai <| Al ?_
  obtain ⟨x3, hb, H⟩ := Aq H
  refine Ak F (Aa (Ae rfl) <| Aa (Ae rfl) <| Ad) fun _ F => ?_
  refine st_callf (args := [.tmp 35]) F Fx.fn63 rfl rfl (opt_threads_c (a0 := s7)   (s9.rd0 (.tail _ <| .tail _ <| .tail _ <| .head _)) hb) rfl fun v5 w7 _ hc F => ?_
  obtain ⟨v6, rfl, hd⟩ := hc
  have sa := s9.add hd
  refine Ak F (Aa (Ae rfl) <| Aa (As (v := v6) rfl rfl) <| Aa (As (v := .bool x3.2) rfl rfl) <| Aa (Am rfl) <| Aa (Am rfl) <| Ad) fun _ F => Aj <| Ab <| Al <| Ak F (Aa (Ae rfl) <| Aa (Ae rfl) <| Aa (Ae rfl) <| Ad) fun _ F => Ar F rfl rfl rfl (Ae rfl) rfl rfl fun _ F => Ak F (Aa (Bj rfl rfl) <| Aa (Am rfl) <| Aa (Am rfl) <| Ad) fun _ F => Aj <| By <| Ab <| Al <| Ak F (Aa (Bp rfl rfl) <| Aa (Ae rfl) <| Ad) fun _ F => Aj <| Ab <| rounds_step <| Ai <| Al <| Ak F (Aa (Cn rfl rfl) <| Ad) fun _ F => Aj <| Ab <| Ai <| Cy F rfl <| Aw <| Ab <| Ai ?_
  obtain ⟨o2, H1, R1⟩ := Aq H
  clear H
  refine Bx (fun a w_ => ∃ v7 : Value, Fr a 67 [(1, .pointer (some ⟨g0, 0, none⟩)), (2, .pointer (some ⟨g1, 0, none⟩)), (6, v7), (7, .bool o2.2), (27, .slice (some ⟨g2, 0, none⟩) 5 5), (28, .int .i64 ((5 : Nat) : Int)), (29, .int .i64 1)] ∧ SL w [] w_ [Blk g2 99 [clo 63 [], clo 64 [], clo 65 [], clo 66 [], clo 67 []], Blk g1 56 [.string ⟨⟨[]⟩⟩, .slice none 0 0, .int .u8 0, .int .i64 0, .slice none 0 0], Blk g0 56 [.string ⟨⟨a0.Name⟩⟩, v0_1, .int .u8 (a0.Sig.Result.toNat : Int), .int .i64 a0.Locals, v0_4], Sl T_opt_item v7 o2.1]) ?_ ?_
  ·have H := H1
   refine Be <| Ai <| Al ?_
   refine Ak F (Aa (ex_ixlit Fx.sl96 rfl rfl (by decide)) <| Aa (Ba Fx.nag99 rfl (sa.blk_cell (.tail _ <| .head _) rfl)) <| Aa (Am rfl) <| Ad) fun _ F => ?_
   refine Aj <| Ab <| Ai <| Al ?_
   obtain ⟨x4, he, H⟩ := Aq H
   refine Ak F (Aa (Ae rfl) <| Aa (Ae rfl) <| Ad) fun _ F => ?_
   have sb := sa
   obtain ⟨G0, hf, hg, hh, hi⟩ := SL.open_ (ps := [Sl T_opt_item v6 x3.1]) (rest := [Blk g2 99 [clo 63 [], clo 64 [], clo 65 [], clo 66 [], clo 67 []], Blk g1 56 [.string ⟨⟨[]⟩⟩, .slice none 0 0, .int .u8 0, .int .i64 0, .slice none 0 0], Blk g0 56 [.string ⟨⟨a0.Name⟩⟩, v0_1, .int .u8 (a0.Sig.Result.toNat : Int), .int .i64 a0.Locals, v0_4], Sl T_opt_item v3 s7]) sb
   refine st_callf (args := [.tmp 35]) F Fx.fn64 rfl rfl (opt_dead_c (a0 := x3.1) hf   he) rfl fun v8 w8 _ hj F => ?_
   obtain ⟨v9, rfl, hk⟩ := hj
   have sc := hi _ _ hk
   refine Ak F (Aa (Ae rfl) <| Aa (As (v := v9) rfl rfl) <| Aa (As (v := .bool x4.2) rfl rfl) <| Aa (Am rfl) <| Aa (Am rfl) <| Ad) fun _ F => Aj <| Ab <| Al <| Ak F (Aa (Ae rfl) <| Aa (Ae rfl) <| Aa (Ae rfl) <| Ad) fun _ F => Bl x3.2 (fun hl => ?_) (fun hl => ?_)
   ·replace H := Bb hl H
    refine Ap F rfl rfl (An rfl hl) Ac rfl rfl fun _ F => Ak F (Aa (Bh (Cb rfl hl) rfl) <| Aa (Am rfl) <| Aa (Am rfl) <| Ad) fun _ F => Aj <| By ?_
    obtain rfl := Ao H
    refine Ab ?_
    exact ⟨v9, F.sub ⟨rfl, rfl, rfl, rfl, rfl, rfl, rfl, trivial⟩, sc.f4.drop.f3.f3.f3⟩
   replace H := Bc hl H
   refine Ar F rfl rfl (An rfl hl) (Ae rfl) rfl rfl fun _ F => Ak F (Aa (Bj (Cb rfl hl) rfl) <| Aa (Am rfl) <| Aa (Am rfl) <| Ad) fun _ F => Aj <| By ?_
   obtain rfl := Ao H
   refine Ab ?_
   exact ⟨v9, F.sub ⟨rfl, rfl, rfl, rfl, rfl, rfl, rfl, trivial⟩, sc.f4.drop.f3.f3.f3⟩
  intro _ w9 hJ
  obtain ⟨v7, F, sd⟩ := hJ
  have H := R1
  clear R1 H1
  refine Ab <| Al <| Ak F (Aa (Bp rfl rfl) <| Aa (Ae rfl) <| Ad) fun _ F => Aj <| Ab <| rounds_step <| Ai <| Al <| Ak F (Aa (Cn rfl rfl) <| Ad) fun _ F => Aj <| Ab <| Ai <| Cy F rfl <| Aw <| Ab <| Ai ?_
  obtain ⟨o3, H2, R2⟩ := Aq H
  clear H
  refine Bx (fun a w_ => ∃ va : Value, Fr a 67 [(1, .pointer (some ⟨g0, 0, none⟩)), (2, .pointer (some ⟨g1, 0, none⟩)), (6, va), (7, .bool o3.2), (27, .slice (some ⟨g2, 0, none⟩) 5 5), (28, .int .i64 ((5 : Nat) : Int)), (29, .int .i64 2)] ∧ SL w [] w_ [Blk g2 99 [clo 63 [], clo 64 [], clo 65 [], clo 66 [], clo 67 []], Blk g1 56 [.string ⟨⟨[]⟩⟩, .slice none 0 0, .int .u8 0, .int .i64 0, .slice none 0 0], Blk g0 56 [.string ⟨⟨a0.Name⟩⟩, v0_1, .int .u8 (a0.Sig.Result.toNat : Int), .int .i64 a0.Locals, v0_4], Sl T_opt_item va o3.1]) ?_ ?_
  ·have H := H2
   refine Be <| Ai <| Al ?_
   refine Ak F (Aa (ex_ixlit Fx.sl96 rfl rfl (by decide)) <| Aa (Ba Fx.nag99 rfl (sd.blk_cell (.head _) rfl)) <| Aa (Am rfl) <| Ad) fun _ F => ?_
   refine Aj <| Ab <| Ai <| Al ?_
   obtain ⟨x5, hm, H⟩ := Aq H
   refine Ak F (Aa (Ae rfl) <| Aa (Ae rfl) <| Ad) fun _ F => ?_
   have se := sd.f3
   obtain ⟨G1, hn, ho, hp, hq⟩ := SL.open_ (ps := [Sl T_opt_item v7 o2.1]) (rest := [Blk g2 99 [clo 63 [], clo 64 [], clo 65 [], clo 66 [], clo 67 []], Blk g1 56 [.string ⟨⟨[]⟩⟩, .slice none 0 0, .int .u8 0, .int .i64 0, .slice none 0 0], Blk g0 56 [.string ⟨⟨a0.Name⟩⟩, v0_1, .int .u8 (a0.Sig.Result.toNat : Int), .int .i64 a0.Locals, v0_4]]) se
   refine st_callf (args := [.tmp 35]) F Fx.fn65 rfl rfl (opt_empty_c (a0 := o2.1) hn   hm) rfl fun vb wa _ hs F => ?_
   obtain ⟨vc, rfl, ht⟩ := hs
   have sf := hq _ _ ht
   refine Ak F (Aa (Ae rfl) <| Aa (As (v := vc) rfl rfl) <| Aa (As (v := .bool x5.2) rfl rfl) <| Aa (Am rfl) <| Aa (Am rfl) <| Ad) fun _ F => Aj <| Ab <| Al <| Ak F (Aa (Ae rfl) <| Aa (Ae rfl) <| Aa (Ae rfl) <| Ad) fun _ F => Bl o2.2 (fun hv => ?_) (fun hv => ?_)
   ·replace H := Bb hv H
    refine Ap F rfl rfl (An rfl hv) Ac rfl rfl fun _ F => Ak F (Aa (Bh (Cb rfl hv) rfl) <| Aa (Am rfl) <| Aa (Am rfl) <| Ad) fun _ F => Aj <| By ?_
    obtain rfl := Ao H
    refine Ab ?_
    exact ⟨vc, F.sub ⟨rfl, rfl, rfl, rfl, rfl, rfl, rfl, trivial⟩, sf.f3.f3.f3⟩
   replace H := Bc hv H
   refine Ar F rfl rfl (An rfl hv) (Ae rfl) rfl rfl fun _ F => Ak F (Aa (Bj (Cb rfl hv) rfl) <| Aa (Am rfl) <| Aa (Am rfl) <| Ad) fun _ F => Aj <| By ?_
   obtain rfl := Ao H
   refine Ab ?_
   exact ⟨vc, F.sub ⟨rfl, rfl, rfl, rfl, rfl, rfl, rfl, trivial⟩, sf.f3.f3.f3⟩
  intro _ wb hJ
  obtain ⟨va, F, sg⟩ := hJ
  have H := R2
  clear R2 H2
  refine Ab <| Al <| Ak F (Aa (Bp rfl rfl) <| Aa (Ae rfl) <| Ad) fun _ F => Aj <| Ab <| rounds_step <| Ai <| Al <| Ak F (Aa (Cn rfl rfl) <| Ad) fun _ F => Aj <| Ab <| Ai <| Cy F rfl <| Aw <| Ab <| Ai ?_
  obtain ⟨o4, H3, R3⟩ := Aq H
  clear H
  refine Bx (fun a w_ => ∃ vd : Value, Fr a 67 [(1, .pointer (some ⟨g0, 0, none⟩)), (2, .pointer (some ⟨g1, 0, none⟩)), (6, vd), (7, .bool o4.2), (27, .slice (some ⟨g2, 0, none⟩) 5 5), (28, .int .i64 ((5 : Nat) : Int)), (29, .int .i64 3)] ∧ SL w [] w_ [Blk g2 99 [clo 63 [], clo 64 [], clo 65 [], clo 66 [], clo 67 []], Blk g1 56 [.string ⟨⟨[]⟩⟩, .slice none 0 0, .int .u8 0, .int .i64 0, .slice none 0 0], Blk g0 56 [.string ⟨⟨a0.Name⟩⟩, v0_1, .int .u8 (a0.Sig.Result.toNat : Int), .int .i64 a0.Locals, v0_4], Sl T_opt_item vd o4.1]) ?_ ?_
  ·have H := H3
   refine Be <| Ai <| Al ?_
   refine Ak F (Aa (ex_ixlit Fx.sl96 rfl rfl (by decide)) <| Aa (Ba Fx.nag99 rfl (sg.blk_cell (.head _) rfl)) <| Aa (Am rfl) <| Ad) fun _ F => ?_
   refine Aj <| Ab <| Ai <| Al ?_
   obtain ⟨x6, hw, H⟩ := Aq H
   refine Ak F (Aa (Ae rfl) <| Aa (Ae rfl) <| Ad) fun _ F => ?_
   have sh := sg.f3
   obtain ⟨G2, hx, hy, hz, h10⟩ := SL.open_ (ps := [Sl T_opt_item va o3.1]) (rest := [Blk g2 99 [clo 63 [], clo 64 [], clo 65 [], clo 66 [], clo 67 []], Blk g1 56 [.string ⟨⟨[]⟩⟩, .slice none 0 0, .int .u8 0, .int .i64 0, .slice none 0 0], Blk g0 56 [.string ⟨⟨a0.Name⟩⟩, v0_1, .int .u8 (a0.Sig.Result.toNat : Int), .int .i64 a0.Locals, v0_4]]) sh
   refine st_callf (args := [.tmp 35]) F Fx.fn66 rfl rfl (opt_constants_c (a0 := o3.1) hx   hw) rfl fun ve wc _ h11 F => ?_
   obtain ⟨vf, rfl, h12⟩ := h11
   have si := h10 _ _ h12
   refine Ak F (Aa (Ae rfl) <| Aa (As (v := vf) rfl rfl) <| Aa (As (v := .bool x6.2) rfl rfl) <| Aa (Am rfl) <| Aa (Am rfl) <| Ad) fun _ F => Aj <| Ab <| Al <| Ak F (Aa (Ae rfl) <| Aa (Ae rfl) <| Aa (Ae rfl) <| Ad) fun _ F => Bl o3.2 (fun h13 => ?_) (fun h13 => ?_)
   ·replace H := Bb h13 H
    refine Ap F rfl rfl (An rfl h13) Ac rfl rfl fun _ F => Ak F (Aa (Bh (Cb rfl h13) rfl) <| Aa (Am rfl) <| Aa (Am rfl) <| Ad) fun _ F => Aj <| By ?_
    obtain rfl := Ao H
    refine Ab ?_
    exact ⟨vf, F.sub ⟨rfl, rfl, rfl, rfl, rfl, rfl, rfl, trivial⟩, si.f3.f3.f3⟩
   replace H := Bc h13 H
   refine Ar F rfl rfl (An rfl h13) (Ae rfl) rfl rfl fun _ F => Ak F (Aa (Bj (Cb rfl h13) rfl) <| Aa (Am rfl) <| Aa (Am rfl) <| Ad) fun _ F => Aj <| By ?_
   obtain rfl := Ao H
   refine Ab ?_
   exact ⟨vf, F.sub ⟨rfl, rfl, rfl, rfl, rfl, rfl, rfl, trivial⟩, si.f3.f3.f3⟩
  intro _ wd hJ
  obtain ⟨vd, F, sj⟩ := hJ
  have H := R3
  clear R3 H3
  refine Ab <| Al <| Ak F (Aa (Bp rfl rfl) <| Aa (Ae rfl) <| Ad) fun _ F => Aj <| Ab <| rounds_step <| Ai <| Al <| Ak F (Aa (Cn rfl rfl) <| Ad) fun _ F => Aj <| Ab <| Ai <| Cy F rfl <| Aw <| Ab <| Ai ?_
  obtain ⟨o5, H4, R4⟩ := Aq H
  clear H
  refine Bx (fun a w_ => ∃ vg : Value, Fr a 67 [(1, .pointer (some ⟨g0, 0, none⟩)), (2, .pointer (some ⟨g1, 0, none⟩)), (6, vg), (7, .bool o5.2), (27, .slice (some ⟨g2, 0, none⟩) 5 5), (28, .int .i64 ((5 : Nat) : Int)), (29, .int .i64 4)] ∧ SL w [] w_ [Blk g2 99 [clo 63 [], clo 64 [], clo 65 [], clo 66 [], clo 67 []], Blk g1 56 [.string ⟨⟨[]⟩⟩, .slice none 0 0, .int .u8 0, .int .i64 0, .slice none 0 0], Blk g0 56 [.string ⟨⟨a0.Name⟩⟩, v0_1, .int .u8 (a0.Sig.Result.toNat : Int), .int .i64 a0.Locals, v0_4], Sl T_opt_item vg o5.1]) ?_ ?_
  ·have H := H4
   refine Be <| Ai <| Al ?_
   refine Ak F (Aa (ex_ixlit Fx.sl96 rfl rfl (by decide)) <| Aa (Ba Fx.nag99 rfl (sj.blk_cell (.head _) rfl)) <| Aa (Am rfl) <| Ad) fun _ F => ?_
   refine Aj <| Ab <| Ai <| Al ?_
   obtain ⟨x7, h14, H⟩ := Aq H
   refine Ak F (Aa (Ae rfl) <| Aa (Ae rfl) <| Ad) fun _ F => ?_
   have sk := sj.f3
   obtain ⟨G3, h15, h16, h17, h18⟩ := SL.open_ (ps := [Sl T_opt_item vd o4.1]) (rest := [Blk g2 99 [clo 63 [], clo 64 [], clo 65 [], clo 66 [], clo 67 []], Blk g1 56 [.string ⟨⟨[]⟩⟩, .slice none 0 0, .int .u8 0, .int .i64 0, .slice none 0 0], Blk g0 56 [.string ⟨⟨a0.Name⟩⟩, v0_1, .int .u8 (a0.Sig.Result.toNat : Int), .int .i64 a0.Locals, v0_4]]) sk
   refine st_callf (args := [.tmp 35]) F Fx.fn67 rfl rfl (opt_sure_c (a0 := o4.1) h15   h14) rfl fun vh we _ h19 F => ?_
   obtain ⟨vi, rfl, h1a⟩ := h19
   have sl := h18 _ _ h1a
   refine Ak F (Aa (Ae rfl) <| Aa (As (v := vi) rfl rfl) <| Aa (As (v := .bool x7.2) rfl rfl) <| Aa (Am rfl) <| Aa (Am rfl) <| Ad) fun _ F => Aj <| Ab <| Al <| Ak F (Aa (Ae rfl) <| Aa (Ae rfl) <| Aa (Ae rfl) <| Ad) fun _ F => Bl o4.2 (fun h1b => ?_) (fun h1b => ?_)
   ·replace H := Bb h1b H
    refine Ap F rfl rfl (An rfl h1b) Ac rfl rfl fun _ F => Ak F (Aa (Bh (Cb rfl h1b) rfl) <| Aa (Am rfl) <| Aa (Am rfl) <| Ad) fun _ F => Aj <| By ?_
    obtain rfl := Ao H
    refine Ab ?_
    exact ⟨vi, F.sub ⟨rfl, rfl, rfl, rfl, rfl, rfl, rfl, trivial⟩, sl.f3.f3.f3⟩
   replace H := Bc h1b H
   refine Ar F rfl rfl (An rfl h1b) (Ae rfl) rfl rfl fun _ F => Ak F (Aa (Bj (Cb rfl h1b) rfl) <| Aa (Am rfl) <| Aa (Am rfl) <| Ad) fun _ F => Aj <| By ?_
   obtain rfl := Ao H
   refine Ab ?_
   exact ⟨vi, F.sub ⟨rfl, rfl, rfl, rfl, rfl, rfl, rfl, trivial⟩, sl.f3.f3.f3⟩
  intro _ wf hJ
  obtain ⟨vg, F, sm⟩ := hJ
  have H := R4
  clear R4 H4
  refine Ab <| Al <| Ak F (Aa (Bp rfl rfl) <| Aa (Ae rfl) <| Ad) fun _ F => Aj <| Ab <| rounds_step <| Ai <| Al <| Ak F (Aa (Cn rfl rfl) <| Ad) fun _ F => Aj <| Ab <| Ai <| Cl F rfl <| Bz <| Bo <| Bo <| Ca <| Ab <| Ai <| Al <| Ak F (Aa (Ae rfl) <| Aa (Cx rfl) <| Ad) fun _ F => Aj <| Ab <| Bm F rfl (fun h1c => ?_) (fun h1c => ?_)
  ·replace H := Bb h1c H
   refine Bz <| Db rfl <| Bo <| Ca ?_
   obtain rfl := Ao H
   obtain rfl := hr _ rfl
   refine Ab ?_
   exact ⟨vg, F.sub ⟨rfl, rfl, rfl, trivial⟩, sm.drop⟩
  replace H := Bc h1c H
  refine Aw <| By ?_
  obtain rfl := Ao H
  refine Ab ?_
  exact ⟨_, rfl, vg, F.sub ⟨rfl, rfl, rfl, trivial⟩, sm.drop⟩
 intro _ wg hJ
 obtain ⟨v2, F, sn⟩ := hJ
 have H := R0
 clear R0 H0
 refine Ab <| Ai <| Al ?_
 obtain ⟨x8, h1d, H⟩ := Aq H
 refine Ak F (Aa (Ae rfl) <| Ad) fun _ F => Bi (args := [.tmp 48]) F Fx.fn46 rfl (opt_laid_c (a0 := o0)   (sn.rd0 (.tail _ <| .tail _ <| .head _)) h1d) rfl fun vj wh _ h1e F => ?_
 obtain ⟨_, rfl, h1f⟩ := h1e
 have so := sn.add h1f
 obtain ⟨x9, h1g, H⟩ := Aq H
 refine Bi (args := [.tmp 49]) F Fx.fn45 rfl (code_All_c (a0 := x8)   (so.rd0 (.head _)) h1g) rfl fun vk wi _ h1h F => ?_
 obtain ⟨vl, rfl, h1i⟩ := h1h
 have sp := so.add h1i
 refine Ak F (Aa (Ae rfl) <| Aa (As (v := vl) rfl rfl) <| Aa (As (v := .int .i64 x9.2.1) rfl rfl) <| Aa (As (v := .int .i64 x9.2.2) rfl rfl) <| Aa (Am rfl) <| Aa (Am rfl) <| Aa (Am rfl) <| Ad) fun _ F => Aj <| Ab <| Ai <| Ai <| Al <| Ak F (Aa (Ae rfl) <| Aa (Dd rfl rfl) <| Ad) fun _ F => Aj <| Ab <| Bm F rfl (fun h1j => ?_) (fun h1j => ?_)
 ·replace H := Bb h1j H
  refine Ai <| Al <| Ak F (Aa (Co (vs := []) Fx.zero56 Fx.pl56 rfl (cs := [.string ⟨⟨[]⟩⟩, .slice none 0 0, .int .u8 0, .int .i64 0, .slice none 0 0]) (rfl)) <| Aa (Ae rfl) <| Ad) fun _ F => ?_
  have sq := sp.f2
  refine Au F sq rfl rfl Fx.sz56 (Af rfl (Af rfl (Af rfl (Af rfl (Af rfl Bd))))) (Ah rfl) fun wj _ F sr => ?_
  replace sr : SL w [] wj [Blk g1 56 [.string ⟨⟨[]⟩⟩, .slice none 0 0, .int .u8 0, .int .i64 0, .slice none 0 0], Sl Ty.u8 vl x9.1, Sl T_api_Instr vj x8, Blk g0 56 [.string ⟨⟨a0.Name⟩⟩, v0_1, .int .u8 (a0.Sig.Result.toNat : Int), .int .i64 a0.Locals, v0_4], Sl T_opt_item v2 o0] := sr
  refine Ak F (Aa (Am rfl) <| Ad) fun _ F => Aj <| Ab ?_
  obtain rfl := Ao H
  refine Bf <| Bg <| jmp_r ?_
  refine Ax (rs := [.cell 2 56, .tmp 3]) (vs := [.agg ⟨[.string ⟨⟨[]⟩⟩, .slice none 0 0, .int .u8 0, .int .i64 0, .slice none 0 0]⟩, .int .i64 x9.2.2]) F (by rfl) ⟨_, _, rfl, Ci sr (.head _) rfl Fx.agg56 rfl, _, _, rfl, Ay rfl, rfl⟩ ⟨_, rfl, ⟨(.slice none 0 0), (.slice none 0 0), rfl, (SL.nilSl (T := Ty.u8) (SL.nilSl (T := Ty.u8) sr)).f2.drop.f2.drop.f2.drop.f2.drop.f2.drop.f1⟩⟩
 replace H := Bc h1j H
 refine Aw <| Ab <| Ai <| Al ?_
 obtain ⟨xa, h1k, H⟩ := Aq H
 refine Ak F (Aa (Az Fx.fa56_1 rfl rfl) <| Aa (Az Fx.fa54_0 rfl rfl) <| Aa (Ba Fx.nag51 rfl (sp.blk_cell (.tail _ <| .tail _ <| .tail _ <| .head _) rfl)) <| Ad) fun _ F => ?_
 have ss := (SL.nilSl (T := Ty.u8) sp)
 obtain ⟨_, hr_⟩ := (Cu hr0_1 ss)
 refine Ch Flat.u8 F ss Fx.sl51 rfl rfl rfl rfl hr_ rfl rfl h1k rfl fun vm wk _ F st => Ak F (Aa (Az Fx.fa56_1 rfl rfl) <| Aa (Az Fx.fa54_0 rfl rfl) <| Ad) fun _ F => ?_
 have su := st.f4
 refine Ct F su rfl rfl Fx.sz51 (Da (Cc (su.own_rd (.tail _ <| .head _)))) (Cs (Cc (su.own_rd (.tail _ <| .head _)))) rfl fun wl _ F sv => ?_
 replace sv : SL w [] wl [Blk g0 56 [.string ⟨⟨a0.Name⟩⟩, vm, .int .u8 (a0.Sig.Result.toNat : Int), .int .i64 a0.Locals, v0_4], Sl Ty.u8 vm xa, Sl Ty.u8 vl x9.1, Sl T_api_Instr vj x8, Blk g1 56 [.string ⟨⟨[]⟩⟩, .slice none 0 0, .int .u8 0, .int .i64 0, .slice none 0 0], Sl T_opt_item v2 o0] := sv
 refine Aj <| Ab <| Ai <| Al <| Ak F (Aa (Ae rfl) <| Aa (Az Fx.fa56_3 rfl rfl) <| Ad) fun _ F => ?_
 have sw := sv
 refine Ct F sw rfl rfl Fx.sz22 (Da (Cc (sw.own_rd (.tail _ <| .tail _ <| .head _)))) (Cs (Cc (sw.own_rd (.tail _ <| .tail _ <| .head _)))) rfl fun wm _ F sx => ?_
 replace sx : SL w [] wm [Blk g0 56 [.string ⟨⟨a0.Name⟩⟩, vm, .int .u8 (a0.Sig.Result.toNat : Int), .int .i64 a0.Locals, vl], Sl Ty.u8 vm xa, Sl Ty.u8 vl x9.1, Sl T_api_Instr vj x8, Blk g1 56 [.string ⟨⟨[]⟩⟩, .slice none 0 0, .int .u8 0, .int .i64 0, .slice none 0 0], Sl T_opt_item v2 o0] := sx
 refine Aj <| Ab <| Ai <| Al <| Ak F (Aa (Bn Fx.agg56 rfl (sx.blk_cells (.head _) (o := 0) (ds := [.string ⟨⟨a0.Name⟩⟩, vm, .int .u8 (a0.Sig.Result.toNat : Int), .int .i64 a0.Locals, vl]) (fun j u hu => by rw [Nat.zero_add]; exact hu)) rfl) <| Ad) fun _ F => ?_
 have sy := sx.f4
 refine Au F sy rfl rfl Fx.sz56 (Af rfl (Af (Cs (Cc (sy.own_rd (.tail _ <| .tail _ <| .head _)))) (Af rfl (Af rfl (Af (Cs (Cc (sy.own_rd (.tail _ <| .tail _ <| .tail _ <| .head _)))) Bd))))) (Ah rfl) fun wn _ F sz => ?_
 replace sz : SL w [] wn [Blk g1 56 [.string ⟨⟨a0.Name⟩⟩, vm, .int .u8 (a0.Sig.Result.toNat : Int), .int .i64 a0.Locals, vl], Blk g0 56 [.string ⟨⟨a0.Name⟩⟩, vm, .int .u8 (a0.Sig.Result.toNat : Int), .int .i64 a0.Locals, vl], Sl Ty.u8 vm xa, Sl Ty.u8 vl x9.1, Sl T_api_Instr vj x8, Sl T_opt_item v2 o0] := sz
 refine Ak F (Aa (Am rfl) <| Ad) fun _ F => Aj <| Ab ?_
 obtain rfl := Ao H
 refine Bf <| jmp_r ?_
 refine Ax (rs := [.cell 2 56, .tmp 3]) (vs := [.agg ⟨[.string ⟨⟨a0.Name⟩⟩, vm, .int .u8 (a0.Sig.Result.toNat : Int), .int .i64 a0.Locals, vl]⟩, .int .i64 0]) F (by rfl) ⟨_, _, rfl, Ci sz (.head _) rfl Fx.agg56 rfl, _, _, rfl, Ay rfl, rfl⟩ ⟨_, rfl, ⟨vm, vl, rfl, sz.drop.drop.f2.drop.f2.drop⟩⟩
-- slices.Clone[[]byte,byte]
theorem slices_Clone_byte_byte_c {w : World} {v0 : Value} {a0 : List UInt8} {r : (List UInt8)} (hr0 : Rd Ty.u8 w [] v0 a0) (H : slices_Clone_byte_byte a0 = some r) :
    Calls Try.prog 31 #[v0] w (Ret fun u_ w_ => ∃ u0 : Value, u_ = u0 ∧ SL w [] w_ [Sl Ty.u8 u0 r]) := by
 have s0 : SL w [] w [] := SL.init0 w
 refine Bq Try.func31 rfl Try.ntmps31 (Ah rfl) (args := [v0]) fun q0 F0 => ?_
 unfold slices_Clone_byte_byte at H
 refine Ai <| Al <| Ak F0 (Aa (Am rfl) <| Ad) fun q3 F4 => Aj <| Ab <| Ai <| Ai <| Al ?_
 obtain ⟨A0, c0, h0⟩ := Cc (Cu hr0 s0)
 refine Ak F4 (Aa (Ae rfl) <| Aa (ex_sl_eqf rfl h0 rfl Try.underlying22) <| Ad) fun _ F => Aj <| Ab <| Bm F rfl (fun h1 => ?_) (fun h1 => ?_)
 ·have h2 := nil_of (Cu hr0 s0) h0 (by simpa using h1)
  replace H := nil_conv (B := some ([] : List UInt8)) H (by simp [h2, app])
  refine Ai <| Al <| Ak F (Aa (Am rfl) <| Ad) fun _ F => Aj <| Ab ?_
  obtain rfl := Ao H
  refine Bf <| Bg ?_
  refine Ax (rs := [.tmp 2]) (vs := [.slice none 0 0]) F (by rfl) ⟨_, _, rfl, Ay rfl, rfl⟩ ⟨_, rfl, ⟨(.slice none 0 0), rfl, (SL.nilSl (T := Ty.u8) s0)⟩⟩
 refine Aw <| Ab <| Ai <| Al ?_
 refine Cm (parts := []) Flat.u8 ([] : List UInt8) F s0 Fx.sl22 rfl (by decide) rfl rfl rfl (by simp [Value.cells]) rfl rfl rfl fun v1 w0 _ F s1 => ?_
 obtain ⟨x0, h3, H⟩ := Aq H
 refine Ak F (Aa (Ae rfl) <| Ad) fun _ F => ?_
 have s2 := s1
 obtain ⟨_, hr_⟩ := (Cu hr0 s2)
 refine Ch Flat.u8 F s2 Fx.sl22 rfl rfl rfl rfl hr_ rfl rfl h3 rfl fun v2 w1 _ F s3 => Ak F (Aa (Am rfl) <| Ad) fun _ F => Aj <| Ab ?_
 obtain rfl := Ao H
 refine Bf ?_
 refine Ax (rs := [.tmp 2]) (vs := [v2]) F (by rfl) ⟨_, _, rfl, Ay rfl, rfl⟩ ⟨_, rfl, ⟨v2, rfl, s3⟩⟩
-- slices.Clone[[]proviso/api.Type,proviso/api.Type]
theorem slices_Clone_api_Type_api_Type_c {w : World} {v0 : Value} {a0 : List UInt8} {r : (List UInt8)} (hr0 : Rd Ty.u8 w [] v0 a0) (H : slices_Clone_api_Type_api_Type a0 = some r) :
    Calls Try.prog 37 #[v0] w (Ret fun u_ w_ => ∃ u0 : Value, u_ = u0 ∧ SL w [] w_ [Sl Ty.u8 u0 r]) := by
 have s0 : SL w [] w [] := SL.init0 w
 refine Bq Try.func37 rfl Try.ntmps37 (Ah rfl) (args := [v0]) fun q0 F0 => ?_
 unfold slices_Clone_api_Type_api_Type at H
 refine Ai <| Al <| Ak F0 (Aa (Am rfl) <| Ad) fun q3 F4 => Aj <| Ab <| Ai <| Ai <| Al ?_
 obtain ⟨A0, c0, h0⟩ := Cc (Cu hr0 s0)
 refine Ak F4 (Aa (Ae rfl) <| Aa (ex_sl_eqf rfl h0 rfl Try.underlying51) <| Ad) fun _ F => Aj <| Ab <| Bm F rfl (fun h1 => ?_) (fun h1 => ?_)
 ·have h2 := nil_of (Cu hr0 s0) h0 (by simpa using h1)
  replace H := nil_conv (B := some ([] : List UInt8)) H (by simp [h2, app])
  refine Ai <| Al <| Ak F (Aa (Am rfl) <| Ad) fun _ F => Aj <| Ab ?_
  obtain rfl := Ao H
  refine Bf <| Bg ?_
  refine Ax (rs := [.tmp 2]) (vs := [.slice none 0 0]) F (by rfl) ⟨_, _, rfl, Ay rfl, rfl⟩ ⟨_, rfl, ⟨(.slice none 0 0), rfl, (SL.nilSl (T := Ty.u8) s0)⟩⟩
 refine Aw <| Ab <| Ai <| Al ?_
 refine Cm (parts := []) Flat.u8 ([] : List UInt8) F s0 Fx.sl51 rfl (by decide) rfl rfl rfl (by simp [Value.cells]) rfl rfl rfl fun v1 w0 _ F s1 => ?_
 obtain ⟨x0, h3, H⟩ := Aq H
 refine Ak F (Aa (Ae rfl) <| Ad) fun _ F => ?_
 have s2 := s1
 obtain ⟨_, hr_⟩ := (Cu hr0 s2)
 refine Ch Flat.u8 F s2 Fx.sl51 rfl rfl rfl rfl hr_ rfl rfl h3 rfl fun v2 w1 _ F s3 => Ak F (Aa (Am rfl) <| Ad) fun _ F => Aj <| Ab ?_
 obtain rfl := Ao H
 refine Bf ?_
 refine Ax (rs := [.tmp 2]) (vs := [v2]) F (by rfl) ⟨_, _, rfl, Ay rfl, rfl⟩ ⟨_, rfl, ⟨v2, rfl, s3⟩⟩
-- proviso/provisoplain.Sig
theorem provisoplain_Sig_c {w : World} {v0_0 : Value} {a0 : S_api_Sig} {r : S_api_Sig} (hr0_0 : Rd Ty.u8 w [] v0_0 a0.Params) (H : provisoplain_Sig a0 = some r) :
    Calls Try.prog 35 #[.agg ⟨[v0_0, .int .u8 (a0.Result.toNat : Int)]⟩] w (Ret fun u_ w_ => ∃ u0 : Value, u_ = .agg ⟨[u0, .int .u8 (r.Result.toNat : Int)]⟩ ∧ SL w [] w_ [Sl Ty.u8 u0 r.Params]) := by
 have s0 : SL w [] w [] := SL.init0 w
 refine Bq Try.func35 rfl Try.ntmps35 (Ah rfl) (args := [.agg ⟨[v0_0, .int .u8 (a0.Result.toNat : Int)]⟩]) fun q0 F0 => ?_
 unfold provisoplain_Sig at H
 refine Ai <| Al <| Cz F0 s0 rfl rfl rfl fun g0 w0 _ F s1 => Bu F s1 Fx.zero54 rfl rfl fun g1 w1 _ F s2 => Aj <| Ab <| Ai <| Al ?_
 obtain ⟨x0, h0, H⟩ := Aq H
 refine Ak F (Aa (Az Fx.fa54_0 rfl rfl) <| Aa (Ba Fx.nag51 rfl (s2.blk_cell (.tail _ <| .head _) rfl)) <| Ad) fun _ F => Bi (args := [.tmp 4]) F Fx.fn37 rfl (slices_Clone_api_Type_api_Type_c (a0 := a0.Params)   (hr0_0.pass0 s2) h0) rfl fun v0 w2 _ h1 F => ?_
 obtain ⟨_, rfl, h2⟩ := h1
 have s3 := s2.add h2
 refine Ak F (Aa (Az Fx.fa54_0 rfl rfl) <| Ad) fun _ F => ?_
 have s4 := s3.f2
 refine Ct F s4 rfl rfl Fx.sz51 (Da (Cc (s4.own_rd (.tail _ <| .head _)))) (Cs (Cc (s4.own_rd (.tail _ <| .head _)))) rfl fun w3 _ F s5 => ?_
 replace s5 : SL w [] w3 [Blk g0 54 [v0, .int .u8 (a0.Result.toNat : Int)], Sl Ty.u8 v0 x0, Blk g1 54 [.slice none 0 0, .int .u8 0]] := s5
 refine Aj <| Ab <| Ai <| Al <| Ak F (Aa (Bn Fx.agg54 rfl (s5.blk_cells (.head _) (o := 0) (ds := [v0, .int .u8 (a0.Result.toNat : Int)]) (fun j u hu => by rw [Nat.zero_add]; exact hu)) rfl) <| Ad) fun _ F => ?_
 have s6 := s5.f2
 refine Au F s6 rfl rfl Fx.sz54 (Af (Cs (Cc (s6.own_rd (.tail _ <| .tail _ <| .head _)))) (Af rfl Bd)) (Ah rfl) fun w4 _ F s7 => ?_
 replace s7 : SL w [] w4 [Blk g1 54 [v0, .int .u8 (a0.Result.toNat : Int)], Blk g0 54 [v0, .int .u8 (a0.Result.toNat : Int)], Sl Ty.u8 v0 x0] := s7
 refine Aj <| Ab ?_
 obtain rfl := Ao H
 refine Bf ?_
 refine Ax (rs := [.cell 2 54]) (vs := [.agg ⟨[v0, .int .u8 (a0.Result.toNat : Int)]⟩]) F (by rfl) ⟨_, _, rfl, Ci s7 (.head _) rfl Fx.agg54 rfl, rfl⟩ ⟨_, rfl, ⟨v0, rfl, s7.drop.drop⟩⟩
-- proviso/provisoplain.Func
theorem provisoplain_Func_c {w : World} {v0_1 v0_4 : Value} {a0 : S_api_Func} {r : S_api_Func} (hr0_1 : Rd Ty.u8 w [] v0_1 a0.Sig.Params) (hr0_4 : Rd Ty.u8 w [] v0_4 a0.Code) (H : provisoplain_Func a0 = some r) :
    Calls Try.prog 24 #[.agg ⟨[.string ⟨⟨a0.Name⟩⟩, v0_1, .int .u8 (a0.Sig.Result.toNat : Int), .int .i64 a0.Locals, v0_4]⟩] w (Ret fun u_ w_ => ∃ u0 u1 : Value, u_ = .agg ⟨[.string ⟨⟨r.Name⟩⟩, u0, .int .u8 (r.Sig.Result.toNat : Int), .int .i64 r.Locals, u1]⟩ ∧ SL w [] w_ [Sl Ty.u8 u0 r.Sig.Params, Sl Ty.u8 u1 r.Code]) := by
 have s0 : SL w [] w [] := SL.init0 w
 refine Bq Try.func24 rfl Try.ntmps24 (Ah rfl) (args := [.agg ⟨[.string ⟨⟨a0.Name⟩⟩, v0_1, .int .u8 (a0.Sig.Result.toNat : Int), .int .i64 a0.Locals, v0_4]⟩]) fun q0 F0 => ?_
 unfold provisoplain_Func at H
 refine Ai <| Al <| Cz F0 s0 rfl rfl rfl fun g0 w0 _ F s1 => Bu F s1 Fx.zero56 rfl rfl fun g1 w1 _ F s2 => Aj <| Ab <| Ai <| Al ?_
 obtain ⟨x0, h0, H⟩ := Aq H
 refine Ak F (Aa (Az Fx.fa56_1 rfl rfl) <| Aa (Bn Fx.agg54 rfl (s2.blk_cells (.tail _ <| .head _) (o := 1) (ds := [v0_1, .int .u8 (a0.Sig.Result.toNat : Int)]) (subcells _ rfl)) rfl) <| Ad) fun _ F => Bi (args := [.tmp 4]) F Fx.fn35 rfl (provisoplain_Sig_c (a0 := (⟨a0.Sig.Params, a0.Sig.Result⟩ : S_api_Sig))   (hr0_1.pass0 s2) h0) rfl fun v0 w2 _ h1 F => ?_
 obtain ⟨v1, rfl, h2⟩ := h1
 have s3 := s2.add h2
 refine Ak F (Aa (Az Fx.fa56_1 rfl rfl) <| Ad) fun _ F => ?_
 have s4 := s3.f2
 refine Au F s4 rfl rfl Fx.sz54 (Af (Cs (Cc (s4.own_rd (.tail _ <| .head _)))) (Af rfl Bd)) (Ah rfl) fun w3 _ F s5 => ?_
 replace s5 : SL w [] w3 [Blk g0 56 [.string ⟨⟨a0.Name⟩⟩, v1, .int .u8 (x0.Result.toNat : Int), .int .i64 a0.Locals, v0_4], Sl Ty.u8 v1 x0.Params, Blk g1 56 [.string ⟨⟨[]⟩⟩, .slice none 0 0, .int .u8 0, .int .i64 0, .slice none 0 0]] := s5
 refine Aj <| Ab <| Ai <| Al ?_
 obtain ⟨x1, h3, H⟩ := Aq H
 refine Ak F (Aa (Az Fx.fa56_3 rfl rfl) <| Aa (Ba Fx.nag22 rfl (s5.blk_cell (.head _) rfl)) <| Ad) fun _ F => Bi (args := [.tmp 8]) F Fx.fn31 rfl (slices_Clone_byte_byte_c (a0 := a0.Code)   (hr0_4.pass0 s5) h3) rfl fun v2 w4 _ h4 F => ?_
 obtain ⟨_, rfl, h5⟩ := h4
 have s6 := s5.add h5
 refine Ak F (Aa (Az Fx.fa56_3 rfl rfl) <| Ad) fun _ F => ?_
 have s7 := s6.f1
 refine Ct F s7 rfl rfl Fx.sz22 (Da (Cc (s7.own_rd (.tail _ <| .head _)))) (Cs (Cc (s7.own_rd (.tail _ <| .head _)))) rfl fun w5 _ F s8 => ?_
 replace s8 : SL w [] w5 [Blk g0 56 [.string ⟨⟨a0.Name⟩⟩, v1, .int .u8 (x0.Result.toNat : Int), .int .i64 a0.Locals, v2], Sl Ty.u8 v2 x1, Sl Ty.u8 v1 x0.Params, Blk g1 56 [.string ⟨⟨[]⟩⟩, .slice none 0 0, .int .u8 0, .int .i64 0, .slice none 0 0]] := s8
 refine Aj <| Ab <| Ai <| Al <| Ak F (Aa (Bn Fx.agg56 rfl (s8.blk_cells (.head _) (o := 0) (ds := [.string ⟨⟨a0.Name⟩⟩, v1, .int .u8 (x0.Result.toNat : Int), .int .i64 a0.Locals, v2]) (fun j u hu => by rw [Nat.zero_add]; exact hu)) rfl) <| Ad) fun _ F => ?_
 have s9 := s8.f3
 refine Au F s9 rfl rfl Fx.sz56 (Af rfl (Af (Cs (Cc (s9.own_rd (.tail _ <| .tail _ <| .tail _ <| .head _)))) (Af rfl (Af rfl (Af (Cs (Cc (s9.own_rd (.tail _ <| .tail _ <| .head _)))) Bd))))) (Ah rfl) fun w6 _ F sa => ?_
 replace sa : SL w [] w6 [Blk g1 56 [.string ⟨⟨a0.Name⟩⟩, v1, .int .u8 (x0.Result.toNat : Int), .int .i64 a0.Locals, v2], Blk g0 56 [.string ⟨⟨a0.Name⟩⟩, v1, .int .u8 (x0.Result.toNat : Int), .int .i64 a0.Locals, v2], Sl Ty.u8 v2 x1, Sl Ty.u8 v1 x0.Params] := sa
 refine Aj <| Ab ?_
 obtain rfl := Ao H
 refine Bf ?_
 refine Ax (rs := [.cell 2 56]) (vs := [.agg ⟨[.string ⟨⟨a0.Name⟩⟩, v1, .int .u8 (x0.Result.toNat : Int), .int .i64 a0.Locals, v2]⟩]) F (by rfl) ⟨_, _, rfl, Ci sa (.head _) rfl Fx.agg56 rfl, rfl⟩ ⟨_, rfl, ⟨v1, v2, rfl, sa.drop.drop.f1⟩⟩
-- proviso/provisoref04.wide
theorem provisoref04_wide_c {w : World} {a0 : UInt8} {r : Int × Int}  (H : provisoref04_wide a0 = some r) :
    Calls Try.prog 69 #[.int .u8 (a0.toNat : Int)] w (Ret fun u_ w_ => u_ = .tuple ⟨[.int .i64 r.1, .int .i64 r.2]⟩ ∧ SL w [] w_ []) := by
 have s0 : SL w [] w [] := SL.init0 w
 refine Bq Try.func69 rfl Try.ntmps69 (Ah rfl) (args := [.int .u8 (a0.toNat : Int)]) fun q0 F0 => ?_
 unfold provisoref04_wide at H
 refine Ai <| Al <| Ak F0 (Aa (Am rfl) <| Aa (Am rfl) <| Ad) fun q3 F4 => Aj <| Ab <| Ai <| Ai <| Al <| Ak F4 (Aa (Ae rfl) <| Ad) fun _ F => Aj <| Ab <| Be <| Ai <| Al <| Ak F (Aa (Bw rfl rfl) <| Aa (Am rfl) <| Ad) fun _ F => Aj <| Ab <| Bm F rfl (fun h0 => ?_) (fun h0 => ?_)
 ·replace H := Bb h0 H
  refine Ai <| Al <| Ak F (Aa (Am rfl) <| Aa (Am rfl) <| Ad) fun _ F => Aj <| Ab ?_
  obtain rfl := Ao H
  refine Bf <| blk_r <| Bg ?_
  refine Ax (rs := [.tmp 2, .tmp 3]) (vs := [.int .i64 4, .int .i64 0]) F (by rfl) ⟨_, _, rfl, Ay rfl, _, _, rfl, Ay rfl, rfl⟩ ⟨_, rfl, ⟨rfl, s0⟩⟩
 replace H := Bc h0 H
 refine Ai ?_
 obtain ⟨o0, H0, R0⟩ := Aq H
 clear H
 refine Bx (fun a w_ => Fr a 22 [(4, .int .u8 (a0.toNat : Int)), (7, .bool o0)] ∧ SL w [] w_ []) ?_ ?_
 ·have H := H0
  refine Ai <| Al <| Ak F (Aa (Bw rfl rfl) <| Aa (Am rfl) <| Ad) fun _ F => Aj <| Ab <| Bm F rfl (fun h1 => ?_) (fun h1 => ?_)
  ·replace H := Bb h1 H
   refine Aw ?_
   obtain rfl := Ao H
   refine Ab ?_
   exact ⟨F.sub ⟨rfl, rfl, trivial⟩, s0⟩
  replace H := Bc h1 H
  refine Al <| Ak F (Aa (Bw rfl rfl) <| Aa (Am rfl) <| Ad) fun _ F => Aj ?_
  obtain rfl := Ao H
  refine Ab ?_
  exact ⟨F.sub ⟨rfl, rfl, trivial⟩, s0⟩
 intro _ w0 hJ
 obtain ⟨F, s1⟩ := hJ
 have H := R0
 clear R0 H0
 refine Ab <| Bm F rfl (fun h2 => ?_) (fun h2 => ?_)
 ·replace H := Bb h2 H
  refine Ai <| Al <| Ak F (Aa (Am rfl) <| Aa (Am rfl) <| Ad) fun _ F => Aj <| Ab ?_
  obtain rfl := Ao H
  refine Bf <| blk_r <| Bg ?_
  refine Ax (rs := [.tmp 2, .tmp 3]) (vs := [.int .i64 2, .int .i64 0]) F (by rfl) ⟨_, _, rfl, Ay rfl, _, _, rfl, Ay rfl, rfl⟩ ⟨_, rfl, ⟨rfl, s1⟩⟩
 replace H := Bc h2 H
 refine Ai ?_
 obtain ⟨o1, H1, R1⟩ := Aq H
 clear H
 refine Bx (fun a w_ => Fr a 22 [(4, .int .u8 (a0.toNat : Int)), (10, .bool o1)] ∧ SL w [] w_ []) ?_ ?_
 ·have H := H1
  refine Ai <| Al <| Ak F (Aa (Bw rfl rfl) <| Aa (Am rfl) <| Ad) fun _ F => Aj <| Ab <| Bm F rfl (fun h3 => ?_) (fun h3 => ?_)
  ·replace H := Bb h3 H
   refine Aw ?_
   obtain rfl := Ao H
   refine Ab ?_
   exact ⟨F.sub ⟨rfl, rfl, trivial⟩, s1⟩
  replace H := Bc h3 H
  refine Al <| Ak F (Aa (Bw rfl rfl) <| Aa (Am rfl) <| Ad) fun _ F => Aj ?_
  obtain rfl := Ao H
  refine Ab ?_
  exact ⟨F.sub ⟨rfl, rfl, trivial⟩, s1⟩
 intro _ w1 hJ
 obtain ⟨F, s2⟩ := hJ
 have H := R1
 clear R1 H1
 refine Ab <| Bm F rfl (fun h4 => ?_) (fun h4 => ?_)
 ·replace H := Bb h4 H
  refine Ai <| Al <| Ak F (Aa (Am rfl) <| Aa (Am rfl) <| Ad) fun _ F => Aj <| Ab ?_
  obtain rfl := Ao H
  refine Bf <| blk_r <| Bg ?_
  refine Ax (rs := [.tmp 2, .tmp 3]) (vs := [.int .i64 1, .int .i64 1]) F (by rfl) ⟨_, _, rfl, Ay rfl, _, _, rfl, Ay rfl, rfl⟩ ⟨_, rfl, ⟨rfl, s2⟩⟩
 replace H := Bc h4 H
 refine Ai ?_
 obtain ⟨o2, H2, R2⟩ := Aq H
 clear H
 refine Bx (fun a w_ => Fr a 22 [(13, .bool o2)] ∧ SL w [] w_ []) ?_ ?_
 ·have H := H2
  refine Ai <| Al <| Ak F (Aa (Bw rfl rfl) <| Aa (Am rfl) <| Ad) fun _ F => Aj <| Ab <| Bm F rfl (fun h5 => ?_) (fun h5 => ?_)
  ·replace H := Bb h5 H
   refine Aw ?_
   obtain rfl := Ao H
   refine Ab ?_
   exact ⟨F.sub ⟨rfl, trivial⟩, s2⟩
  replace H := Bc h5 H
  refine Ai <| Al <| Ak F (Aa (Bw rfl rfl) <| Aa (Am rfl) <| Ad) fun _ F => Aj <| Ab <| Bm F rfl (fun h6 => ?_) (fun h6 => ?_)
  ·replace H := Bb h6 H
   refine Aw ?_
   obtain rfl := Ao H
   refine Ab ?_
   exact ⟨F.sub ⟨rfl, trivial⟩, s2⟩
  replace H := Bc h6 H
  refine Ai <| Al <| Ak F (Aa (Bw rfl rfl) <| Aa (Am rfl) <| Ad) fun _ F => Aj <| Ab <| Bm F rfl (fun h7 => ?_) (fun h7 => ?_)
  ·replace H := Bb h7 H
   refine Aw ?_
   obtain rfl := Ao H
   refine Ab ?_
   exact ⟨F.sub ⟨rfl, trivial⟩, s2⟩
  replace H := Bc h7 H
  refine Ai <| Al <| Ak F (Aa (Bw rfl rfl) <| Aa (Am rfl) <| Ad) fun _ F => Aj <| Ab <| Bm F rfl (fun h8 => ?_) (fun h8 => ?_)
  ·replace H := Bb h8 H
   refine Aw ?_
   obtain rfl := Ao H
   refine Ab ?_
   exact ⟨F.sub ⟨rfl, trivial⟩, s2⟩
  replace H := Bc h8 H
  refine Ai <| Al <| Ak F (Aa (Bw rfl rfl) <| Aa (Am rfl) <| Ad) fun _ F => Aj <| Ab <| Bm F rfl (fun h9 => ?_) (fun h9 => ?_)
  ·replace H := Bb h9 H
   refine Aw ?_
   obtain rfl := Ao H
   refine Ab ?_
   exact ⟨F.sub ⟨rfl, trivial⟩, s2⟩
  replace H := Bc h9 H
  refine Ai <| Al <| Ak F (Aa (Bw rfl rfl) <| Aa (Am rfl) <| Ad) fun _ F => Aj <| Ab <| Bm F rfl (fun ha => ?_) (fun ha => ?_)
  ·replace H := Bb ha H
   refine Aw ?_
   obtain rfl := Ao H
   refine Ab ?_
   exact ⟨F.sub ⟨rfl, trivial⟩, s2⟩
  replace H := Bc ha H
  refine Ai <| Al <| Ak F (Aa (Bw rfl rfl) <| Aa (Am rfl) <| Ad) fun _ F => Aj <| Ab <| Bm F rfl (fun hb => ?_) (fun hb => ?_)
  ·replace H := Bb hb H
   refine Aw ?_
   obtain rfl := Ao H
   refine Ab ?_
   exact ⟨F.sub ⟨rfl, trivial⟩, s2⟩
  replace H := Bc hb H
  refine Al <| Ak F (Aa (Bw rfl rfl) <| Aa (Am rfl) <| Ad) fun _ F => Aj ?_
  obtain rfl := Ao H
  refine Ab ?_
  exact ⟨F.sub ⟨rfl, trivial⟩, s2⟩
 intro _ w2 hJ
 obtain ⟨F, s3⟩ := hJ
 have H := R2
 clear R2 H2
 refine Ab <| Bm F rfl (fun hc => ?_) (fun hc => ?_)
 ·replace H := Bb hc H
  refine Ai <| Al <| Ak F (Aa (Am rfl) <| Aa (Am rfl) <| Ad) fun _ F => Aj <| Ab ?_
  obtain rfl := Ao H
  refine Bf <| blk_r <| Bg ?_
  refine Ax (rs := [.tmp 2, .tmp 3]) (vs := [.int .i64 1, .int .i64 0]) F (by rfl) ⟨_, _, rfl, Ay rfl, _, _, rfl, Ay rfl, rfl⟩ ⟨_, rfl, ⟨rfl, s3⟩⟩
 replace H := Bc hc H
 refine Aw <| By <| Ab <| Ai <| Al <| Ak F (Aa (Am rfl) <| Aa (Am rfl) <| Ad) fun _ F => Aj <| Ab ?_
 obtain rfl := Ao H
 refine Bf ?_
 refine Ax (rs := [.tmp 2, .tmp 3]) (vs := [.int .i64 0, .int .i64 0]) F (by rfl) ⟨_, _, rfl, Ay rfl, _, _, rfl, Ay rfl, rfl⟩ ⟨_, rfl, ⟨rfl, s3⟩⟩
-- proviso/provisoref04.Size
theorem provisoref04_Size_c {w : World} {a0 : UInt8} {r : Int}  (H : provisoref04_Size a0 = some r) :
    Calls Try.prog 51 #[.int .u8 (a0.toNat : Int)] w (Ret fun u_ w_ => u_ = .int .i64 r ∧ SL w [] w_ []) := by
 have s0 : SL w [] w [] := SL.init0 w
 refine Bq Try.func51 rfl Try.ntmps51 (Ah rfl) (args := [.int .u8 (a0.toNat : Int)]) fun q0 F0 => ?_
 unfold provisoref04_Size at H
 refine Ai <| Al <| Ak F0 (Aa (Am rfl) <| Ad) fun q3 F4 => Aj <| Ab <| Ai <| Ai <| Al <| Ak F4 (Aa (Ae rfl) <| Aa (ex_ge rfl rfl) <| Ad) fun _ F => Aj <| Ab <| Bm F rfl (fun h0 => ?_) (fun h0 => ?_)
 ·replace H := Bb h0 H
  refine Ai <| Al <| Ak F (Aa (Am rfl) <| Ad) fun _ F => Aj <| Ab ?_
  obtain rfl := Ao H
  refine Bf <| Bg ?_
  refine Ax (rs := [.tmp 2]) (vs := [.int .i64 0]) F (by rfl) ⟨_, _, rfl, Ay rfl, rfl⟩ ⟨_, rfl, ⟨rfl, s0⟩⟩
 replace H := Bc h0 H
 refine Aw <| Ab <| Ai <| Al ?_
 obtain ⟨x0, h1, H⟩ := Aq H
 refine Ak F (Aa (Ae rfl) <| Ad) fun _ F => Bi (args := [.tmp 8]) F Fx.fn69 rfl (provisoref04_wide_c (a0 := a0)    h1) rfl fun v0 w0 _ h2 F => ?_
 obtain ⟨rfl, h3⟩ := h2
 have s1 := s0.add h3
 refine Ak F (Aa (Ae rfl) <| Aa (As (v := .int .i64 x0.1) rfl rfl) <| Aa (As (v := .int .i64 x0.2) rfl rfl) <| Aa (Am rfl) <| Aa (Am rfl) <| Ad) fun _ F => Aj <| Ab <| Ai <| Al <| Ak F (Aa (Ae rfl) <| Aa (Bp rfl rfl) <| Aa (Ae rfl) <| Aa (Bp rfl rfl) <| Aa (Am rfl) <| Ad) fun _ F => Aj <| Ab ?_
 obtain rfl := Ao H
 refine Bf ?_
 refine Ax (rs := [.tmp 2]) (vs := [.int .i64 (wr ((wr (1 + x0.1)) + x0.2))]) F (by rfl) ⟨_, _, rfl, Ay rfl, rfl⟩ ⟨_, rfl, ⟨rfl, s1⟩⟩
-- proviso/provisoref04.take
theorem provisoref04_take_c {w : World} {v0 : Value} {a0 : List UInt8} {a1 : Int} {r : Int} (hr0 : Rd Ty.u8 w [] v0 a0) (H : provisoref04_take a0 a1 = some r) :
    Calls Try.prog 70 #[v0, .int .i64 a1] w (Ret fun u_ w_ => u_ = .int .i64 r ∧ SL w [] w_ []) := by
 have s0 : SL w [] w [] := SL.init0 w
 refine Bq Try.func70 rfl Try.ntmps70 (Ah rfl) (args := [v0, .int .i64 a1]) fun q0 F0 => ?_
 unfold provisoref04_take at H
 refine Ai <| Al <| Ak F0 (Aa (Am rfl) <| Ad) fun q3 F4 => Aj <| Ab <| Ai <| Al <| Ak F4 (Aa (Am rfl) <| Ad) fun q7 F8 => Aj <| Ab <| Ai <| Ai <| Al <| Ak F8 (Aa (Am rfl) <| Ad) fun _ F => Aj <| Ab ?_
 obtain ⟨o0, H0, R0⟩ := Aq H
 clear H
 refine Bx (fun a w_ => Fr a 29 [(1, .int .i64 a1), (5, .int .i64 o0)] ∧ SL w [] w_ []) ?_ ?_
 ·have H := H0
  refine Be <| Cq (provisoref04_take_b0 a0 a1) (fun s1 a w_ => Fr a 29 [(0, v0), (1, .int .i64 a1), (5, .int .i64 s1.1), (6, .int .i64 s1.2)] ∧ SL w [] w_ []) H ?_ ?_
  ·exact ⟨F.sub ⟨rfl, rfl, rfl, rfl, trivial⟩, s0⟩
  intro s1 _ w0 h0 o1 H hr
  obtain ⟨F, s2⟩ := h0
  replace H : provisoref04_take_b0 a0 a1 s1 = some o1 := H
  unfold provisoref04_take_b0 at H
  refine Ai <| Ai <| Al <| Ak F (Aa (Ae rfl) <| Aa (Ae rfl) <| Aa (Cn rfl rfl) <| Ad) fun _ F => Aj <| Ab <| Bm F rfl (fun h1 => ?_) (fun h1 => ?_)
  ·replace H := Bb h1 H
   refine Aw <| Ab <| Ai <| Be <| Al ?_
   obtain ⟨x0, h2, H⟩ := Aq H
   obtain ⟨a2, h3, h4⟩ := Dc Flat.u8 (Cu hr0 s2) Fx.sl22 rfl h2
   refine Ak F (Aa (Ae rfl) <| Aa (ex_mul rfl rfl) <| Aa (Ae rfl) <| Aa (Ae rfl) <| Aa (h3 _ _ _ _ _ _ _ _ _ _ rfl rfl) <| Aa (Ba Fx.nag5 rfl (Cells.at_ h4 (o := 0) rfl)) <| Aa (ex_cv864 rfl Try.underlying5 Try.underlying3) <| Aa (Bp rfl rfl) <| Aa (Am rfl) <| Ad) fun _ F => Aj <| By <| Ab <| Al <| Ak F (Aa (Ae rfl) <| Aa (Bp rfl rfl) <| Aa (Am rfl) <| Ad) fun _ F => Aj ?_
   obtain rfl := Ao H
   refine Ab ?_
   exact ⟨_, rfl, F.sub ⟨rfl, rfl, rfl, rfl, trivial⟩, s2⟩
  replace H := Bc h1 H
  refine Bz <| Bo <| Bo <| Ca ?_
  obtain rfl := Ao H
  obtain rfl := hr _ rfl
  refine Ab ?_
  exact ⟨F.sub ⟨rfl, rfl, trivial⟩, s2⟩
 intro _ w1 hJ
 obtain ⟨F, s3⟩ := hJ
 have H := R0
 clear R0 H0
 refine Ab <| Ai <| Ai <| Al <| Ak F (Aa (Ae rfl) <| Aa (Bw rfl rfl) <| Aa (Ae rfl) <| Ad) fun _ F => Bl (a1 == 4) (fun h5 => ?_) (fun h5 => ?_)
 ·replace H := Bb h5 H
  refine Ar F rfl rfl (An rfl h5) (Ae rfl) rfl rfl fun _ F => Ar F rfl rfl (An rfl h5) (ex_gt rfl rfl) rfl rfl fun _ F => Ak F (Aa (Bh (Cb rfl h5) rfl) <| Ad) fun _ F => Aj <| Ab <| Bm F rfl (fun h6 => ?_) (fun h6 => ?_)
  ·replace H := Bb h6 H
   refine Al <| Ak F (Aa (Ae rfl) <| Aa (ex_sub rfl rfl) <| Aa (Am rfl) <| Ad) fun _ F => Aj <| Ab <| Ai <| Al <| Ak F (Aa (Ae rfl) <| Aa (Am rfl) <| Ad) fun _ F => Aj <| Ab ?_
   obtain rfl := Ao H
   refine Bf ?_
   refine Ax (rs := [.tmp 4]) (vs := [.int .i64 (wr (o0 - 4294967296))]) F (by rfl) ⟨_, _, rfl, Ay rfl, rfl⟩ ⟨_, rfl, ⟨rfl, s3⟩⟩
  replace H := Bc h6 H
  refine Aw <| Ab <| Ai <| Al <| Ak F (Aa (Ae rfl) <| Aa (Am rfl) <| Ad) fun _ F => Aj <| Ab ?_
  obtain rfl := Ao H
  refine Bf ?_
  refine Ax (rs := [.tmp 4]) (vs := [.int .i64 o0]) F (by rfl) ⟨_, _, rfl, Ay rfl, rfl⟩ ⟨_, rfl, ⟨rfl, s3⟩⟩
 replace H := Bc h5 H
 refine Ap F rfl rfl (An rfl h5) Ac rfl rfl fun _ F => Ap F rfl rfl (An rfl h5) Ac rfl rfl fun _ F => Ak F (Aa (Bj (Cb rfl h5) rfl) <| Ad) fun _ F => Aj <| Ab <| Cl F rfl <| Aw <| Ab <| Ai <| Al <| Ak F (Aa (Ae rfl) <| Aa (Am rfl) <| Ad) fun _ F => Aj <| Ab ?_
 obtain rfl := Ao H
 refine Bf ?_
 refine Ax (rs := [.tmp 4]) (vs := [.int .i64 o0]) F (by rfl) ⟨_, _, rfl, Ay rfl, rfl⟩ ⟨_, rfl, ⟨rfl, s3⟩⟩
-- proviso/provisoref04.Decode
theorem provisoref04_Decode_c {w : World} {v0 : Value} {a0 : List UInt8} {a1 : Int} {r : S_api_Instr × Int} (hr0 : Rd Ty.u8 w [] v0 a0) (H : provisoref04_Decode a0 a1 = some r) :
    Calls Try.prog 50 #[v0, .int .i64 a1] w (Ret fun u_ w_ => u_ = .tuple ⟨[.agg ⟨[.int .i64 r.1.At, .int .u8 (r.1.Op.toNat : Int), .int .i64 r.1.A, .int .i64 r.1.B]⟩, .int .i64 r.2]⟩ ∧ SL w [] w_ []) := by
 have s0 : SL w [] w [] := SL.init0 w
 refine Bq Try.func50 rfl Try.ntmps50 (Ah rfl) (args := [v0, .int .i64 a1]) fun q0 F0 => ?_
 unfold provisoref04_Decode at H
 refine Ai <| Al <| Bu F0 s0 Fx.zero90 rfl rfl fun g9 w0 _ F s1 => Ak F (Aa (Am rfl) <| Ad) fun _ F => Aj <| Ab <| Ai <| Al <| Bu F s1 Fx.zero90 rfl rfl fun g0 w1 _ F s2 => Aj <| Ab <| Ai <| Ai <| Al <| Ak F (Aa (Ae rfl) <| Aa (Cn rfl rfl) <| Aa (Ae rfl) <| Ad) fun _ F => Bl (decide (a1 < 0)) (fun h0 => ?_) (fun h0 => ?_)
 ·replace H := Bb h0 H
  refine Ap F rfl rfl (An rfl h0) Ac rfl rfl fun _ F => Ap F rfl rfl (An rfl h0) Ac rfl rfl fun _ F => Ap F rfl rfl (An rfl h0) Ac rfl rfl fun _ F => Ap F rfl rfl (An rfl h0) Ac rfl rfl fun _ F => Ak F (Aa (Bh (Cb rfl h0) rfl) <| Ad) fun _ F => Aj <| Ab <| Cy F rfl <| Ai <| Al <| Ak F (Aa (Bn Fx.agg90 rfl (s2.blk_cells (.head _) (o := 0) (ds := [.int .i64 0, .int .u8 0, .int .i64 0, .int .i64 0]) (fun j u hu => by rw [Nat.zero_add]; exact hu)) rfl) <| Ad) fun _ F => ?_
  have s3 := s2.f1
  refine Au F s3 rfl rfl Fx.sz90 (Af rfl (Af rfl (Af rfl (Af rfl Bd)))) (Ah rfl) fun w2 _ F s4 => ?_
  replace s4 : SL w [] w2 [Blk g9 90 [.int .i64 0, .int .u8 0, .int .i64 0, .int .i64 0], Blk g0 90 [.int .i64 0, .int .u8 0, .int .i64 0, .int .i64 0]] := s4
  refine Ak F (Aa (Am rfl) <| Ad) fun _ F => Aj <| Ab ?_
  obtain rfl := Ao H
  refine Bf <| Bg ?_
  refine Ax (rs := [.cell 4 90, .tmp 5]) (vs := [.agg ⟨[.int .i64 0, .int .u8 0, .int .i64 0, .int .i64 0]⟩, .int .i64 1]) F (by rfl) ⟨_, _, rfl, Ci s4 (.head _) rfl Fx.agg90 rfl, _, _, rfl, Ay rfl, rfl⟩ ⟨_, rfl, ⟨rfl, s4.drop.drop⟩⟩
 replace H := Bc h0 H
 refine Ar F rfl rfl (An rfl h0) (Ae rfl) rfl rfl fun _ F => Ar F rfl rfl (An rfl h0) (Ae rfl) rfl rfl fun _ F => Ar F rfl rfl (An rfl h0) (Cd rfl Try.underlying22 (Cc (Cu hr0 s2))) rfl rfl fun _ F => Ar F rfl rfl (An rfl h0) (ex_gt rfl rfl) rfl rfl fun _ F => Ak F (Aa (Bj (Cb rfl h0) rfl) <| Ad) fun _ F => Aj <| Ab <| Bm F rfl (fun h1 => ?_) (fun h1 => ?_)
 ·replace H := Bb h1 H
  refine Ai <| Al <| Ak F (Aa (Bn Fx.agg90 rfl (s2.blk_cells (.head _) (o := 0) (ds := [.int .i64 0, .int .u8 0, .int .i64 0, .int .i64 0]) (fun j u hu => by rw [Nat.zero_add]; exact hu)) rfl) <| Ad) fun _ F => ?_
  have s5 := s2.f1
  refine Au F s5 rfl rfl Fx.sz90 (Af rfl (Af rfl (Af rfl (Af rfl Bd)))) (Ah rfl) fun w3 _ F s6 => ?_
  replace s6 : SL w [] w3 [Blk g9 90 [.int .i64 0, .int .u8 0, .int .i64 0, .int .i64 0], Blk g0 90 [.int .i64 0, .int .u8 0, .int .i64 0, .int .i64 0]] := s6
  refine Ak F (Aa (Am rfl) <| Ad) fun _ F => Aj <| Ab ?_
  obtain rfl := Ao H
  refine Bf <| Bg ?_
  refine Ax (rs := [.cell 4 90, .tmp 5]) (vs := [.agg ⟨[.int .i64 0, .int .u8 0, .int .i64 0, .int .i64 0]⟩, .int .i64 1]) F (by rfl) ⟨_, _, rfl, Ci s6 (.head _) rfl Fx.agg90 rfl, _, _, rfl, Ay rfl, rfl⟩ ⟨_, rfl, ⟨rfl, s6.drop.drop⟩⟩
 replace H := Bc h1 H
 refine Aw <| Ab <| Ai <| Ai <| Al <| Ak F (Aa (Ae rfl) <| Aa (Ae rfl) <| Aa (Cd rfl Try.underlying22 (Cc (Cu hr0 s2))) <| Aa (Bw rfl rfl) <| Ad) fun _ F => Aj <| Ab <| Bm F rfl (fun h2 => ?_) (fun h2 => ?_)
 ·replace H := Bb h2 H
  refine Ai <| Al <| Ak F (Aa (Bn Fx.agg90 rfl (s2.blk_cells (.head _) (o := 0) (ds := [.int .i64 0, .int .u8 0, .int .i64 0, .int .i64 0]) (fun j u hu => by rw [Nat.zero_add]; exact hu)) rfl) <| Ad) fun _ F => ?_
  have s7 := s2.f1
  refine Au F s7 rfl rfl Fx.sz90 (Af rfl (Af rfl (Af rfl (Af rfl Bd)))) (Ah rfl) fun w4 _ F s8 => ?_
  replace s8 : SL w [] w4 [Blk g9 90 [.int .i64 0, .int .u8 0, .int .i64 0, .int .i64 0], Blk g0 90 [.int .i64 0, .int .u8 0, .int .i64 0, .int .i64 0]] := s8
  refine Ak F (Aa (Am rfl) <| Ad) fun _ F => Aj <| Ab ?_
  obtain rfl := Ao H
  refine Bf <| Bg ?_
  refine Ax (rs := [.cell 4 90, .tmp 5]) (vs := [.agg ⟨[.int .i64 0, .int .u8 0, .int .i64 0, .int .i64 0]⟩, .int .i64 2]) F (by rfl) ⟨_, _, rfl, Ci s8 (.head _) rfl Fx.agg90 rfl, _, _, rfl, Ay rfl, rfl⟩ ⟨_, rfl, ⟨rfl, s8.drop.drop⟩⟩
 replace H := Bc h2 H
 refine Aw <| Ab <| Ai <| Al ?_
 obtain ⟨x0, h3, H⟩ := Aq H
 obtain ⟨a2, h4, h5⟩ := Dc Flat.u8 (Cu hr0 s2) Fx.sl22 rfl h3
 refine Ak F (Aa (Ae rfl) <| Aa (Ae rfl) <| Aa (h4 _ _ _ _ _ _ _ _ _ _ rfl rfl) <| Aa (Ba Fx.nag5 rfl (Cells.at_ h5 (o := 0) rfl)) <| Aa (Am rfl) <| Ad) fun _ F => Aj <| Ab <| Ai <| Al ?_
 obtain ⟨x1, h6, H⟩ := Aq H
 refine Ak F (Aa (Ae rfl) <| Ad) fun _ F => Bi (args := [.tmp 30]) F Fx.fn51 rfl (provisoref04_Size_c (a0 := x0)    h6) rfl fun v1 w5 _ h7 F => ?_
 obtain ⟨rfl, h8⟩ := h7
 have s9 := s2.add h8
 refine Ak F (Aa (Am rfl) <| Ad) fun _ F => Aj <| Ab <| Ai <| Ai <| Al <| Ak F (Aa (Ae rfl) <| Aa (Bw rfl rfl) <| Ad) fun _ F => Aj <| Ab <| Bm F rfl (fun h9 => ?_) (fun h9 => ?_)
 ·replace H := Bb h9 H
  refine Ai <| Al <| Ak F (Aa (Bn Fx.agg90 rfl (s9.blk_cells (.head _) (o := 0) (ds := [.int .i64 0, .int .u8 0, .int .i64 0, .int .i64 0]) (fun j u hu => by rw [Nat.zero_add]; exact hu)) rfl) <| Ad) fun _ F => ?_
  have sa := s9.f1
  refine Au F sa rfl rfl Fx.sz90 (Af rfl (Af rfl (Af rfl (Af rfl Bd)))) (Ah rfl) fun w6 _ F sb => ?_
  replace sb : SL w [] w6 [Blk g9 90 [.int .i64 0, .int .u8 0, .int .i64 0, .int .i64 0], Blk g0 90 [.int .i64 0, .int .u8 0, .int .i64 0, .int .i64 0]] := sb
  refine Ak F (Aa (Am rfl) <| Ad) fun _ F => Aj <| Ab ?_
  obtain rfl := Ao H
  refine Bf <| Bg ?_
  refine Ax (rs := [.cell 4 90, .tmp 5]) (vs := [.agg ⟨[.int .i64 0, .int .u8 0, .int .i64 0, .int .i64 0]⟩, .int .i64 40]) F (by rfl) ⟨_, _, rfl, Ci sb (.head _) rfl Fx.agg90 rfl, _, _, rfl, Ay rfl, rfl⟩ ⟨_, rfl, ⟨rfl, sb.drop.drop⟩⟩
 replace H := Bc h9 H
 refine Aw <| Ab <| Ai <| Ai <| Al <| Ak F (Aa (Ae rfl) <| Aa (Cd rfl Try.underlying22 (Cc (Cu hr0 s9))) <| Aa (Ae rfl) <| Aa (ex_sub rfl rfl) <| Aa (Ae rfl) <| Aa (Cn rfl rfl) <| Ad) fun _ F => Aj <| Ab <| Bm F rfl (fun ha => ?_) (fun ha => ?_)
 ·replace H := Bb ha H
  refine Ai <| Al <| Ak F (Aa (Bn Fx.agg90 rfl (s9.blk_cells (.head _) (o := 0) (ds := [.int .i64 0, .int .u8 0, .int .i64 0, .int .i64 0]) (fun j u hu => by rw [Nat.zero_add]; exact hu)) rfl) <| Ad) fun _ F => ?_
  have sc := s9.f1
  refine Au F sc rfl rfl Fx.sz90 (Af rfl (Af rfl (Af rfl (Af rfl Bd)))) (Ah rfl) fun w7 _ F sd => ?_
  replace sd : SL w [] w7 [Blk g9 90 [.int .i64 0, .int .u8 0, .int .i64 0, .int .i64 0], Blk g0 90 [.int .i64 0, .int .u8 0, .int .i64 0, .int .i64 0]] := sd
  refine Ak F (Aa (Am rfl) <| Ad) fun _ F => Aj <| Ab ?_
  obtain rfl := Ao H
  refine Bf <| Bg ?_
  refine Ax (rs := [.cell 4 90, .tmp 5]) (vs := [.agg ⟨[.int .i64 0, .int .u8 0, .int .i64 0, .int .i64 0]⟩, .int .i64 2]) F (by rfl) ⟨_, _, rfl, Ci sd (.head _) rfl Fx.agg90 rfl, _, _, rfl, Ay rfl, rfl⟩ ⟨_, rfl, ⟨rfl, sd.drop.drop⟩⟩
 replace H := Bc ha H
 refine Aw <| Ab <| Ai <| Al ?_
 obtain ⟨x2, hb, H⟩ := Aq H
 refine Ak F (Aa (Ae rfl) <| Ad) fun _ F => Bi (args := [.tmp 43]) F Fx.fn69 rfl (provisoref04_wide_c (a0 := x0)    hb) rfl fun v2 w8 _ hc F => ?_
 obtain ⟨rfl, hd⟩ := hc
 have se := s9.add hd
 refine Ak F (Aa (Ae rfl) <| Aa (As (v := .int .i64 x2.1) rfl rfl) <| Aa (As (v := .int .i64 x2.2) rfl rfl) <| Aa (Am rfl) <| Aa (Am rfl) <| Ad) fun _ F => Aj <| Ab <| Ai ?_
 obtain ⟨o0, H0, R0⟩ := Aq H
 clear H
 refine Bx (fun a w_ => ∃ g1 : Nat, Fr a 73 [(4, .pointer (some ⟨g9, 0, none⟩)), (6, .pointer (some ⟨g0, 0, none⟩)), (7, .int .u8 (x0.toNat : Int)), (11, .pointer (some ⟨g1, 0, none⟩))] ∧ SL w [] w_ [Blk g0 90 [.int .i64 0, .int .u8 0, .int .i64 0, .int .i64 0], Blk g9 90 [.int .i64 0, .int .u8 0, .int .i64 0, .int .i64 0], Blk g1 90 [.int .i64 a1, .int .u8 (x0.toNat : Int), .int .i64 o0.1, .int .i64 o0.2]]) ?_ ?_
 ·have H := H0
  obtain ⟨x3, he, H⟩ := Aq H
  obtain ⟨x4, hf, H⟩ := Aq H
  obtain ⟨x5, hg, H⟩ := Aq H
  obtain ⟨x6, hh, H⟩ := Aq H
  refine wp_regh Fx.mixed (fun w_ => SL w [] w_ [Blk g0 90 [.int .i64 0, .int .u8 0, .int .i64 0, .int .i64 0], Blk g9 90 [.int .i64 0, .int .u8 0, .int .i64 0, .int .i64 0]]) ?_
  have sf := se.drew
  have sg : SL w [] _ [Blk g0 90 [.int .i64 0, .int .u8 0, .int .i64 0, .int .i64 0], Blk g9 90 [.int .i64 0, .int .u8 0, .int .i64 0, .int .i64 0]] := sf
  refine Bv (i := 0) rfl (by kernel_rfl) (by kernel_rfl) (by kernel_rfl) (fun _ hC => Ae rfl) rfl rfl rfl F sg fun _ F => ?_
  refine Bv (i := 1) rfl (by kernel_rfl) (by kernel_rfl) (by kernel_rfl) (fun _ hC => Ae rfl) rfl rfl rfl F sg fun _ F => ?_
  refine Bv (i := 2) rfl (by kernel_rfl) (by kernel_rfl) (by kernel_rfl) (fun _ hC => Ae rfl) rfl rfl rfl F sg fun _ F => ?_
  refine Bv (i := 3) rfl (by kernel_rfl) (by kernel_rfl) (by kernel_rfl) (fun _ hC => Ae rfl) rfl rfl rfl F sg fun _ F => ?_
  refine Bv (i := 4) rfl (by kernel_rfl) (by kernel_rfl) (by kernel_rfl) (fun _ hC => Bp rfl rfl) rfl rfl rfl F sg fun _ F => ?_
  obtain ⟨v3, hi, hj⟩ := Rd.cut hr0 Fx.sl22 rfl he (some (wr (a1 + 1))) none (.inl rfl) (.inr ⟨rfl, rfl⟩)
  refine Bv (i := 5) rfl (by kernel_rfl) (by kernel_rfl) (by kernel_rfl) (fun _ hC => hi _ _ _ _ _ .i64 .i64 _ _ _ _ _ rfl rfl trivial) rfl rfl rfl F sg fun _ F => ?_
  refine Bv (i := 6) rfl (by kernel_rfl) (by kernel_rfl) (by kernel_rfl) (fun _ hC => Ae rfl) rfl rfl rfl F sg fun _ F => ?_
  refine Bv (i := 8) rfl (by kernel_rfl) (by kernel_rfl) (by kernel_rfl) (fun _ hC => Ae rfl) rfl rfl rfl F sg fun _ F => ?_
  refine Bv (i := 9) rfl (by kernel_rfl) (by kernel_rfl) (by kernel_rfl) (fun _ hC => Ae rfl) rfl rfl rfl F sg fun _ F => ?_
  refine Bv (i := 10) rfl (by kernel_rfl) (by kernel_rfl) (by kernel_rfl) (fun _ hC => Bp rfl rfl) rfl rfl rfl F sg fun _ F => ?_
  refine Bv (i := 11) rfl (by kernel_rfl) (by kernel_rfl) (by kernel_rfl) (fun _ hC => Ae rfl) rfl rfl rfl F sg fun _ F => ?_
  refine Bv (i := 12) rfl (by kernel_rfl) (by kernel_rfl) (by kernel_rfl) (fun _ hC => Bp rfl rfl) rfl rfl rfl F sg fun _ F => ?_
  obtain ⟨v4, hk, hl⟩ := Rd.cut hr0 Fx.sl22 rfl hg (some (wr ((wr (a1 + 1)) + x2.1))) none (.inl rfl) (.inr ⟨rfl, rfl⟩)
  refine Bv (i := 13) rfl (by kernel_rfl) (by kernel_rfl) (by kernel_rfl) (fun _ hC => hk _ _ _ _ _ .i64 .i64 _ _ _ _ _ rfl rfl trivial) rfl rfl rfl F sg fun _ F => ?_
  refine Bv (i := 14) rfl (by kernel_rfl) (by kernel_rfl) (by kernel_rfl) (fun _ hC => Ae rfl) rfl rfl rfl F sg fun _ F => ?_
  refine Cj (rs := [7, 17]) (by kernel_rfl) (by decide) (Bs (Br rfl ?_) (Bs (Br rfl ?_) (Cp)))
  ·refine Bi (args := [.tmp 52, .tmp 53]) F Fx.fn70 rfl (provisoref04_take_c (a0 := x3) (a1 := x2.1)   (hj.pass0 sf) hf) rfl fun v5 w9 _ hm F => ?_
   obtain ⟨rfl, hn⟩ := hm
   have sh := sf.add hn
   have si : SL w [] _ [Blk g0 90 [.int .i64 0, .int .u8 0, .int .i64 0, .int .i64 0], Blk g9 90 [.int .i64 0, .int .u8 0, .int .i64 0, .int .i64 0]] := sh
   refine Av ⟨si, ?_⟩
   refine Cj (rs := [15, 17]) (by kernel_rfl) (by decide) (Bs (Br rfl ?_) (Bs (Br rfl ?_) (Cp)))
   ·refine Bi (args := [.tmp 60, .tmp 61]) F Fx.fn70 rfl (provisoref04_take_c (a0 := x5) (a1 := x2.2)   (hl.pass0 sh) hh) rfl fun v6 wa _ ho F => ?_
    obtain ⟨rfl, hp⟩ := ho
    have sj := sh.add hp
    have sk : SL w [] _ [Blk g0 90 [.int .i64 0, .int .u8 0, .int .i64 0, .int .i64 0], Blk g9 90 [.int .i64 0, .int .u8 0, .int .i64 0, .int .i64 0]] := sj
    refine Av ⟨sk, ?_⟩
    refine Cj (rs := [16, 17]) (by kernel_rfl) (by decide) (Bs (Br rfl ?_) (Bs (Br rfl ?_) (Cp)))
    ·refine Bt F (Co (vs := [.int .i64 a1, .int .u8 (x0.toNat : Int), .int .i64 x4, .int .i64 x6]) Fx.zero90 Fx.pl90 rfl (cs := [.int .i64 a1, .int .u8 (x0.toNat : Int), .int .i64 x4, .int .i64 x6]) (rfl)) rfl rfl rfl fun _ F => ?_
     have sl : SL w [] _ [Blk g0 90 [.int .i64 0, .int .u8 0, .int .i64 0, .int .i64 0], Blk g9 90 [.int .i64 0, .int .u8 0, .int .i64 0, .int .i64 0]] := sj
     refine Av ⟨sl, ?_⟩
     refine Bk (i := 17) rfl (by kernel_rfl) ?_
     refine Bu F sj Fx.zero90 rfl rfl fun g2 wb _ F sm => ?_
     have sn : SL w [] _ [Blk g0 90 [.int .i64 0, .int .u8 0, .int .i64 0, .int .i64 0], Blk g9 90 [.int .i64 0, .int .u8 0, .int .i64 0, .int .i64 0]] := sm.drop
     refine Av ⟨sn, ?_⟩
     refine Bk (i := 18) rfl (by kernel_rfl) ?_
     have so := sm
     refine Au F so rfl rfl Fx.sz90 (Af rfl (Af rfl (Af rfl (Af rfl Bd)))) (Ah rfl) fun wc _ F sp => ?_
     replace sp : SL w [] wc [Blk g2 90 [.int .i64 a1, .int .u8 (x0.toNat : Int), .int .i64 x4, .int .i64 x6], Blk g0 90 [.int .i64 0, .int .u8 0, .int .i64 0, .int .i64 0], Blk g9 90 [.int .i64 0, .int .u8 0, .int .i64 0, .int .i64 0]] := sp
     have sq : SL w [] _ [Blk g0 90 [.int .i64 0, .int .u8 0, .int .i64 0, .int .i64 0], Blk g9 90 [.int .i64 0, .int .u8 0, .int .i64 0, .int .i64 0]] := sp.drop
     refine Av ⟨sq, ?_⟩
     refine Cg (by kernel_rfl) ?_
     obtain rfl := Ao H
     refine Ab ?_
     exact ⟨g2, F.sub ⟨rfl, rfl, rfl, rfl, trivial⟩, sp.f2.f2⟩
    refine Bu F sj Fx.zero90 rfl rfl fun g3 wd _ F sr => ?_
    have ss : SL w [] _ [Blk g0 90 [.int .i64 0, .int .u8 0, .int .i64 0, .int .i64 0], Blk g9 90 [.int .i64 0, .int .u8 0, .int .i64 0, .int .i64 0]] := sr.drop
    refine Av ⟨ss, ?_⟩
    refine Bk (i := 16) rfl (by kernel_rfl) ?_
    refine Bt F (Co (vs := [.int .i64 a1, .int .u8 (x0.toNat : Int), .int .i64 x4, .int .i64 x6]) Fx.zero90 Fx.pl90 rfl (cs := [.int .i64 a1, .int .u8 (x0.toNat : Int), .int .i64 x4, .int .i64 x6]) (rfl)) rfl rfl rfl fun _ F => ?_
    have st : SL w [] _ [Blk g0 90 [.int .i64 0, .int .u8 0, .int .i64 0, .int .i64 0], Blk g9 90 [.int .i64 0, .int .u8 0, .int .i64 0, .int .i64 0]] := sr.drop
    refine Av ⟨st, ?_⟩
    refine Bk (i := 18) rfl (by kernel_rfl) ?_
    have su := sr
    refine Au F su rfl rfl Fx.sz90 (Af rfl (Af rfl (Af rfl (Af rfl Bd)))) (Ah rfl) fun we _ F sv => ?_
    replace sv : SL w [] we [Blk g3 90 [.int .i64 a1, .int .u8 (x0.toNat : Int), .int .i64 x4, .int .i64 x6], Blk g0 90 [.int .i64 0, .int .u8 0, .int .i64 0, .int .i64 0], Blk g9 90 [.int .i64 0, .int .u8 0, .int .i64 0, .int .i64 0]] := sv
    have sw : SL w [] _ [Blk g0 90 [.int .i64 0, .int .u8 0, .int .i64 0, .int .i64 0], Blk g9 90 [.int .i64 0, .int .u8 0, .int .i64 0, .int .i64 0]] := sv.drop
    refine Av ⟨sw, ?_⟩
    refine Cg (by kernel_rfl) ?_
    obtain rfl := Ao H
    refine Ab ?_
    exact ⟨g3, F.sub ⟨rfl, rfl, rfl, rfl, trivial⟩, sv.f2.f2⟩
   refine Bu F sh Fx.zero90 rfl rfl fun g4 wf _ F sx => ?_
   have sy : SL w [] _ [Blk g0 90 [.int .i64 0, .int .u8 0, .int .i64 0, .int .i64 0], Blk g9 90 [.int .i64 0, .int .u8 0, .int .i64 0, .int .i64 0]] := sx.drop
   refine Av ⟨sy, ?_⟩
   refine Bk (i := 15) rfl (by kernel_rfl) ?_
   refine Bi (args := [.tmp 60, .tmp 61]) F Fx.fn70 rfl (provisoref04_take_c (a0 := x5) (a1 := x2.2)   (hl.pass0 sx) hh) rfl fun v7 wg _ hq F => ?_
   obtain ⟨rfl, hr⟩ := hq
   have sz := sx.add hr
   have s10 : SL w [] _ [Blk g0 90 [.int .i64 0, .int .u8 0, .int .i64 0, .int .i64 0], Blk g9 90 [.int .i64 0, .int .u8 0, .int .i64 0, .int .i64 0]] := sz.drop
   refine Av ⟨s10, ?_⟩
   refine Bk (i := 16) rfl (by kernel_rfl) ?_
   refine Bt F (Co (vs := [.int .i64 a1, .int .u8 (x0.toNat : Int), .int .i64 x4, .int .i64 x6]) Fx.zero90 Fx.pl90 rfl (cs := [.int .i64 a1, .int .u8 (x0.toNat : Int), .int .i64 x4, .int .i64 x6]) (rfl)) rfl rfl rfl fun _ F => ?_
   have s11 : SL w [] _ [Blk g0 90 [.int .i64 0, .int .u8 0, .int .i64 0, .int .i64 0], Blk g9 90 [.int .i64 0, .int .u8 0, .int .i64 0, .int .i64 0]] := sz.drop
   refine Av ⟨s11, ?_⟩
   refine Bk (i := 18) rfl (by kernel_rfl) ?_
   have s12 := sz
   refine Au F s12 rfl rfl Fx.sz90 (Af rfl (Af rfl (Af rfl (Af rfl Bd)))) (Ah rfl) fun wh _ F s14 => ?_
   replace s14 : SL w [] wh [Blk g4 90 [.int .i64 a1, .int .u8 (x0.toNat : Int), .int .i64 x4, .int .i64 x6], Blk g0 90 [.int .i64 0, .int .u8 0, .int .i64 0, .int .i64 0], Blk g9 90 [.int .i64 0, .int .u8 0, .int .i64 0, .int .i64 0]] := s14
   have s15 : SL w [] _ [Blk g0 90 [.int .i64 0, .int .u8 0, .int .i64 0, .int .i64 0], Blk g9 90 [.int .i64 0, .int .u8 0, .int .i64 0, .int .i64 0]] := s14.drop
   refine Av ⟨s15, ?_⟩
   refine Cg (by kernel_rfl) ?_
   obtain rfl := Ao H
   refine Ab ?_
   exact ⟨g4, F.sub ⟨rfl, rfl, rfl, rfl, trivial⟩, s14.f2.f2⟩
  refine Bu F sf Fx.zero90 rfl rfl fun g5 wi _ F s16 => ?_
  have s17 : SL w [] _ [Blk g0 90 [.int .i64 0, .int .u8 0, .int .i64 0, .int .i64 0], Blk g9 90 [.int .i64 0, .int .u8 0, .int .i64 0, .int .i64 0]] := s16.drop
  refine Av ⟨s17, ?_⟩
  refine Bk (i := 7) rfl (by kernel_rfl) ?_
  refine Bi (args := [.tmp 52, .tmp 53]) F Fx.fn70 rfl (provisoref04_take_c (a0 := x3) (a1 := x2.1)   (hj.pass0 s16) hf) rfl fun v8 wj _ hs F => ?_
  obtain ⟨rfl, ht⟩ := hs
  have s18 := s16.add ht
  have s19 : SL w [] _ [Blk g0 90 [.int .i64 0, .int .u8 0, .int .i64 0, .int .i64 0], Blk g9 90 [.int .i64 0, .int .u8 0, .int .i64 0, .int .i64 0]] := s18.drop
  refine Av ⟨s19, ?_⟩
  refine Bk (i := 15) rfl (by kernel_rfl) ?_
  refine Bi (args := [.tmp 60, .tmp 61]) F Fx.fn70 rfl (provisoref04_take_c (a0 := x5) (a1 := x2.2)   (hl.pass0 s18) hh) rfl fun v9 wk _ hv F => ?_
  obtain ⟨rfl, hw⟩ := hv
  have s1a := s18.add hw
  have s1b : SL w [] _ [Blk g0 90 [.int .i64 0, .int .u8 0, .int .i64 0, .int .i64 0], Blk g9 90 [.int .i64 0, .int .u8 0, .int .i64 0, .int .i64 0]] := s1a.drop
  refine Av ⟨s1b, ?_⟩
  refine Bk (i := 16) rfl (by kernel_rfl) ?_
  refine Bt F (Co (vs := [.int .i64 a1, .int .u8 (x0.toNat : Int), .int .i64 x4, .int .i64 x6]) Fx.zero90 Fx.pl90 rfl (cs := [.int .i64 a1, .int .u8 (x0.toNat : Int), .int .i64 x4, .int .i64 x6]) (rfl)) rfl rfl rfl fun _ F => ?_
  have s1c : SL w [] _ [Blk g0 90 [.int .i64 0, .int .u8 0, .int .i64 0, .int .i64 0], Blk g9 90 [.int .i64 0, .int .u8 0, .int .i64 0, .int .i64 0]] := s1a.drop
  refine Av ⟨s1c, ?_⟩
  refine Bk (i := 18) rfl (by kernel_rfl) ?_
  have s1d := s1a
  refine Au F s1d rfl rfl Fx.sz90 (Af rfl (Af rfl (Af rfl (Af rfl Bd)))) (Ah rfl) fun wl _ F s1e => ?_
  replace s1e : SL w [] wl [Blk g5 90 [.int .i64 a1, .int .u8 (x0.toNat : Int), .int .i64 x4, .int .i64 x6], Blk g0 90 [.int .i64 0, .int .u8 0, .int .i64 0, .int .i64 0], Blk g9 90 [.int .i64 0, .int .u8 0, .int .i64 0, .int .i64 0]] := s1e
  have s1f : SL w [] _ [Blk g0 90 [.int .i64 0, .int .u8 0, .int .i64 0, .int .i64 0], Blk g9 90 [.int .i64 0, .int .u8 0, .int .i64 0, .int .i64 0]] := s1e.drop
  refine Av ⟨s1f, ?_⟩
  refine Cg (by kernel_rfl) ?_
  obtain rfl := Ao H
  refine Ab ?_
  exact ⟨g5, F.sub ⟨rfl, rfl, rfl, rfl, trivial⟩, s1e.f2.f2⟩
 intro _ wm hJ
 obtain ⟨g1, F, s1g⟩ := hJ
 have H := R0
 clear R0 H0
 refine Ab <| Ai <| Ai <| Al <| Ak F (Aa (Ae rfl) <| Aa (Bw rfl rfl) <| Aa (Ae rfl) <| Ad) fun _ F => Bl ((x0.toNat : Int) == 2) (fun hx => ?_) (fun hx => ?_)
 ·replace H := Bb hx H
  refine Ar F rfl rfl (An rfl hx) (Az Fx.fa90_2 rfl rfl) rfl rfl fun _ F => Ar F rfl rfl (An rfl hx) (Ba Fx.nag3 rfl (s1g.blk_cell (.tail _ <| .tail _ <| .head _) rfl)) rfl rfl fun _ F => Ar F rfl rfl (An rfl hx) (ex_gt rfl rfl) rfl rfl fun _ F => Ak F (Aa (Bh (Cb rfl hx) rfl) <| Ad) fun _ F => Aj <| Ab <| Bm F rfl (fun hy => ?_) (fun hy => ?_)
  ·replace H := Bb hy H
   refine Ai <| Al <| Ak F (Aa (Bn Fx.agg90 rfl (s1g.blk_cells (.head _) (o := 0) (ds := [.int .i64 0, .int .u8 0, .int .i64 0, .int .i64 0]) (fun j u hu => by rw [Nat.zero_add]; exact hu)) rfl) <| Ad) fun _ F => ?_
   have s1h := s1g.f1
   refine Au F s1h rfl rfl Fx.sz90 (Af rfl (Af rfl (Af rfl (Af rfl Bd)))) (Ah rfl) fun wn _ F s1i => ?_
   replace s1i : SL w [] wn [Blk g9 90 [.int .i64 0, .int .u8 0, .int .i64 0, .int .i64 0], Blk g0 90 [.int .i64 0, .int .u8 0, .int .i64 0, .int .i64 0], Blk g1 90 [.int .i64 a1, .int .u8 (x0.toNat : Int), .int .i64 o0.1, .int .i64 o0.2]] := s1i
   refine Ak F (Aa (Am rfl) <| Ad) fun _ F => Aj <| Ab ?_
   obtain rfl := Ao H
   refine Bf <| Bg ?_
   refine Ax (rs := [.cell 4 90, .tmp 5]) (vs := [.agg ⟨[.int .i64 0, .int .u8 0, .int .i64 0, .int .i64 0]⟩, .int .i64 5]) F (by rfl) ⟨_, _, rfl, Ci s1i (.head _) rfl Fx.agg90 rfl, _, _, rfl, Ay rfl, rfl⟩ ⟨_, rfl, ⟨rfl, s1i.drop.drop.drop⟩⟩
  replace H := Bc hy H
  refine Aw <| Ab <| Ai <| Al <| Ak F (Aa (Bn Fx.agg90 rfl (s1g.blk_cells (.tail _ <| .tail _ <| .head _) (o := 0) (ds := [.int .i64 a1, .int .u8 (x0.toNat : Int), .int .i64 o0.1, .int .i64 o0.2]) (fun j u hu => by rw [Nat.zero_add]; exact hu)) rfl) <| Ad) fun _ F => ?_
  have s1j := s1g.f1
  refine Au F s1j rfl rfl Fx.sz90 (Af rfl (Af rfl (Af rfl (Af rfl Bd)))) (Ah rfl) fun wo _ F s1k => ?_
  replace s1k : SL w [] wo [Blk g9 90 [.int .i64 a1, .int .u8 (x0.toNat : Int), .int .i64 o0.1, .int .i64 o0.2], Blk g0 90 [.int .i64 0, .int .u8 0, .int .i64 0, .int .i64 0], Blk g1 90 [.int .i64 a1, .int .u8 (x0.toNat : Int), .int .i64 o0.1, .int .i64 o0.2]] := s1k
  refine Ak F (Aa (Am rfl) <| Ad) fun _ F => Aj <| Ab ?_
  obtain rfl := Ao H
  refine Bf ?_
  refine Ax (rs := [.cell 4 90, .tmp 5]) (vs := [.agg ⟨[.int .i64 a1, .int .u8 (x0.toNat : Int), .int .i64 o0.1, .int .i64 o0.2]⟩, .int .i64 0]) F (by rfl) ⟨_, _, rfl, Ci s1k (.head _) rfl Fx.agg90 rfl, _, _, rfl, Ay rfl, rfl⟩ ⟨_, rfl, ⟨rfl, s1k.drop.drop.drop⟩⟩
 replace H := Bc hx H
 refine Ap F rfl rfl (An rfl hx) Ac rfl rfl fun _ F => Ap F rfl rfl (An rfl hx) Ac rfl rfl fun _ F => Ap F rfl rfl (An rfl hx) Ac rfl rfl fun _ F => Ak F (Aa (Bj (Cb rfl hx) rfl) <| Ad) fun _ F => Aj <| Ab <| Cl F rfl <| Aw <| Ab <| Ai <| Al <| Ak F (Aa (Bn Fx.agg90 rfl (s1g.blk_cells (.tail _ <| .tail _ <| .head _) (o := 0) (ds := [.int .i64 a1, .int .u8 (x0.toNat : Int), .int .i64 o0.1, .int .i64 o0.2]) (fun j u hu => by rw [Nat.zero_add]; exact hu)) rfl) <| Ad) fun _ F => ?_
 have s1l := s1g.f1
 refine Au F s1l rfl rfl Fx.sz90 (Af rfl (Af rfl (Af rfl (Af rfl Bd)))) (Ah rfl) fun wp _ F s1m => ?_
 replace s1m : SL w [] wp [Blk g9 90 [.int .i64 a1, .int .u8 (x0.toNat : Int), .int .i64 o0.1, .int .i64 o0.2], Blk g0 90 [.int .i64 0, .int .u8 0, .int .i64 0, .int .i64 0], Blk g1 90 [.int .i64 a1, .int .u8 (x0.toNat : Int), .int .i64 o0.1, .int .i64 o0.2]] := s1m
 refine Ak F (Aa (Am rfl) <| Ad) fun _ F => Aj <| Ab ?_
 obtain rfl := Ao H
 refine Bf ?_
 refine Ax (rs := [.cell 4 90, .tmp 5]) (vs := [.agg ⟨[.int .i64 a1, .int .u8 (x0.toNat : Int), .int .i64 o0.1, .int .i64 o0.2]⟩, .int .i64 0]) F (by rfl) ⟨_, _, rfl, Ci s1m (.head _) rfl Fx.agg90 rfl, _, _, rfl, Ay rfl, rfl⟩ ⟨_, rfl, ⟨rfl, s1m.drop.drop.drop⟩⟩
-- proviso/provisoref05.Scan
theorem provisoref05_Scan_c {w : World} {v0 : Value} {a0 : List UInt8} {r : (List S_api_Instr) × Int × Int} (hr0 : Rd Ty.u8 w [] v0 a0) (H : provisoref05_Scan a0 = some r) :
    Calls Try.prog 26 #[v0] w (Ret fun u_ w_ => ∃ u0 : Value, u_ = .tuple ⟨[u0, .int .i64 r.2.1, .int .i64 r.2.2]⟩ ∧ SL w [] w_ [Sl T_api_Instr u0 r.1]) := by
 have s0 : SL w [] w [] := SL.init0 w
 refine Bq Try.func26 rfl Try.ntmps26 (Ah rfl) (args := [v0]) fun q0 F0 => ?_
 unfold provisoref05_Scan at H
 refine Ai <| Al <| Ak F0 (Aa (Am rfl) <| Aa (Am rfl) <| Aa (Am rfl) <| Ad) fun q3 F4 => Aj <| Ab <| Ai <| Ai <| Al <| Ak F4 (Aa (Ae rfl) <| Aa (Cd rfl Try.underlying22 (Cc (Cu hr0 s0))) <| Aa (ex_gt rfl rfl) <| Ad) fun _ F => Aj <| Ab <| Bm F rfl (fun h0 => ?_) (fun h0 => ?_)
 ·replace H := Bb h0 H
  refine Ai <| Al <| Ak F (Aa (Am rfl) <| Aa (Am rfl) <| Aa (Am rfl) <| Ad) fun _ F => Aj <| Ab ?_
  obtain rfl := Ao H
  refine Bf <| Bg ?_
  refine Ax (rs := [.tmp 2, .tmp 3, .tmp 4]) (vs := [.slice none 0 0, .int .i64 0, .int .i64 4]) F (by rfl) ⟨_, _, rfl, Ay rfl, _, _, rfl, Ay rfl, _, _, rfl, Ay rfl, rfl⟩ ⟨_, rfl, ⟨(.slice none 0 0), rfl, (SL.nilSl (T := T_api_Instr) s0)⟩⟩
 replace H := Bc h0 H
 refine Aw <| Ab <| Ai <| Al <| Ak F (Aa (Am rfl) <| Ad) fun _ F => Aj <| Ab <| Ai <| Ai <| Al <| Ak F (Aa (Am rfl) <| Ad) fun _ F => Aj <| Ab ?_
 obtain ⟨o0, H0, R0⟩ := Aq H
 clear H
 refine Bx (fun a w_ => ∃ p0 : (List S_api_Instr), o0 = .inr (p0) ∧ ∃ v1 : Value, Fr a 36 [(5, v1)] ∧ SL w [] w_ [Sl T_api_Instr v1 p0]) ?_ ?_
 ·have H := H0
  refine Be <| Cq (provisoref05_Scan_b0 a0) (fun s1 a w_ => ∃ v2 : Value, Fr a 36 [(0, v0), (5, v2), (6, .int .i64 s1.2)] ∧ SL w [] w_ [Sl T_api_Instr v2 s1.1]) H ?_ ?_
  ·exact ⟨(.slice none 0 0), F.sub ⟨rfl, rfl, rfl, trivial⟩, (SL.nilSl (T := T_api_Instr) s0)⟩
  intro s1 _ w0 h1 o1 H hr
  obtain ⟨v2, F, s2⟩ := h1
  replace H : provisoref05_Scan_b0 a0 s1 = some o1 := H
  unfold provisoref05_Scan_b0 at H
  refine Ai <| Ai <| Al <| Ak F (Aa (Ae rfl) <| Aa (Ae rfl) <| Aa (Cd rfl Try.underlying22 (Cc (Cu hr0 s2))) <| Aa (Cn rfl rfl) <| Ad) fun _ F => Aj <| Ab <| Bm F rfl (fun h2 => ?_) (fun h2 => ?_)
  ·replace H := Bb h2 H
   refine Aw <| Ab <| Be <| Ai <| Al ?_
   obtain ⟨x0, h3, H⟩ := Aq H
   refine Ak F (Aa (Ae rfl) <| Aa (Ae rfl) <| Ad) fun _ F => Bi (args := [.tmp 17, .tmp 18]) F Fx.fn50 rfl (provisoref04_Decode_c (a0 := a0) (a1 := s1.2)   (hr0.pass0 s2) h3) rfl fun v3 w1 _ h4 F => ?_
   obtain ⟨rfl, h5⟩ := h4
   have s3 := s2.add h5
   refine Ak F (Aa (Ae rfl) <| Aa (As (v := .agg ⟨[.int .i64 x0.1.At, .int .u8 (x0.1.Op.toNat : Int), .int .i64 x0.1.A, .int .i64 x0.1.B]⟩) rfl rfl) <| Aa (As (v := .int .i64 x0.2) rfl rfl) <| Ad) fun _ F => Bu F s3 Fx.zero90 rfl rfl fun g0 w2 _ F s4 => ?_
   have s5 := s4
   refine Au F s5 rfl rfl Fx.sz90 (Af rfl (Af rfl (Af rfl (Af rfl Bd)))) (Ah rfl) fun w3 _ F s6 => ?_
   replace s6 : SL w [] w3 [Blk g0 90 [.int .i64 x0.1.At, .int .u8 (x0.1.Op.toNat : Int), .int .i64 x0.1.A, .int .i64 x0.1.B], Sl T_api_Instr v2 s1.1] := s6
   refine Ak F (Aa (Am rfl) <| Ad) fun _ F => Aj <| Ab <| Ai <| Ai <| Al <| Ak F (Aa (Ae rfl) <| Aa (Dd rfl rfl) <| Ad) fun _ F => Aj <| Ab <| Bm F rfl (fun h6 => ?_) (fun h6 => ?_)
   ·replace H := Bb h6 H
    refine Ai <| Al <| Ak F (Aa (Ae rfl) <| Aa (Ae rfl) <| Aa (Am rfl) <| Aa (Am rfl) <| Aa (Am rfl) <| Ad) fun _ F => Aj <| Ab ?_
    obtain rfl := Ao H
    obtain rfl := hr _ rfl
    replace H := R0
    try dsimp only at H
    obtain rfl := Ao H
    refine Bf <| Bg <| blk_r <| Bg <| blk_r <| Bg <| Bg ?_
    refine Ax (rs := [.tmp 2, .tmp 3, .tmp 4]) (vs := [.slice none 0 0, .int .i64 s1.2, .int .i64 x0.2]) F (by rfl) ⟨_, _, rfl, Ay rfl, _, _, rfl, Ay rfl, _, _, rfl, Ay rfl, rfl⟩ ⟨_, rfl, ⟨(.slice none 0 0), rfl, (SL.nilSl (T := T_api_Instr) s6).f1.drop.f1.drop⟩⟩
   replace H := Bc h6 H
   refine Aw <| Ab <| Ai <| Al <| Ak F (Aa (Ae rfl) <| Aa (Bn Fx.agg90 rfl (s6.blk_cells (.head _) (o := 0) (ds := [.int .i64 x0.1.At, .int .u8 (x0.1.Op.toNat : Int), .int .i64 x0.1.A, .int .i64 x0.1.B]) (fun j u hu => by rw [Nat.zero_add]; exact hu)) rfl) <| Ad) fun _ F => ?_
   refine Cm (parts := [(0, .tmp 27)]) F_api_Instr ([(⟨x0.1.At, x0.1.Op, x0.1.A, x0.1.B⟩ : S_api_Instr)] : List S_api_Instr) F s6 Fx.sl67 rfl (by decide) rfl rfl rfl (by simp [Value.cells]) rfl rfl rfl fun v4 w4 _ F s7 => ?_
   obtain ⟨x1, h7, H⟩ := Aq H
   have s8 := s7.f2
   obtain ⟨_, hr_⟩ := (s8.own_rd (.tail _ <| .head _))
   refine Ch F_api_Instr F s8 Fx.sl67 rfl rfl rfl rfl hr_ rfl rfl h7 rfl fun v5 w5 _ F s9 => ?_
   have s3245' := s9.f1.drop
   refine Ak F (Aa (Am rfl) <| Ad) fun _ F => Aj <| Ab <| Al ?_
   obtain ⟨x2, h8, H⟩ := Aq H
   refine Ak F (Aa (Ae rfl) <| Aa (Az Fx.fa90_1 rfl rfl) <| Aa (Ba Fx.nag5 rfl (s3245'.blk_cell (.tail _ <| .head _) rfl)) <| Ad) fun _ F => Bi (args := [.tmp 32]) F Fx.fn51 rfl (provisoref04_Size_c (a0 := x0.1.Op)    h8) rfl fun v6 w6 _ h9 F => ?_
   obtain ⟨rfl, ha⟩ := h9
   have sa := s3245'.add ha
   refine Ak F (Aa (Bp rfl rfl) <| Aa (Am rfl) <| Ad) fun _ F => Aj <| By ?_
   obtain rfl := Ao H
   refine Ab ?_
   exact ⟨_, rfl, v5, F.sub ⟨rfl, rfl, rfl, trivial⟩, sa.f1.drop⟩
  replace H := Bc h2 H
  refine Bz <| Bo <| Bo <| Ca ?_
  obtain rfl := Ao H
  obtain rfl := hr _ rfl
  refine Ab ?_
  exact ⟨_, rfl, v2, F.sub ⟨rfl, trivial⟩, s2⟩
 intro _ w7 hJ
 obtain ⟨p0, rfl, v1, F, sb⟩ := hJ
 have H := R0
 clear R0 H0
 try dsimp only at H
 refine Ab <| Ai <| Al <| Ak F (Aa (Ae rfl) <| Aa (Am rfl) <| Aa (Am rfl) <| Aa (Am rfl) <| Ad) fun _ F => Aj <| Ab ?_
 obtain rfl := Ao H
 refine Bf ?_
 refine Ax (rs := [.tmp 2, .tmp 3, .tmp 4]) (vs := [v1, .int .i64 0, .int .i64 0]) F (by rfl) ⟨_, _, rfl, Ay rfl, _, _, rfl, Ay rfl, _, _, rfl, Ay rfl, rfl⟩ ⟨_, rfl, ⟨v1, rfl, sb⟩⟩
-- proviso/provisoref04.Jumps
theorem provisoref04_Jumps_c {w : World} {a0 : UInt8} {r : Bool}  (H : provisoref04_Jumps a0 = some r) :
    Calls Try.prog 47 #[.int .u8 (a0.toNat : Int)] w (Ret fun u_ w_ => u_ = .bool r ∧ SL w [] w_ []) := by
 have s0 : SL w [] w [] := SL.init0 w
 refine Bq Try.func47 rfl Try.ntmps47 (Ah rfl) (args := [.int .u8 (a0.toNat : Int)]) fun q0 F0 => ?_
 unfold provisoref04_Jumps at H
 refine Ai <| Al <| Ak F0 (Aa (Am rfl) <| Ad) fun q3 F4 => Aj <| Ab <| Ai <| Al <| Ak F4 (Aa (Ae rfl) <| Aa (Bw rfl rfl) <| Aa (Ae rfl) <| Ad) fun _ F => Bl ((a0.toNat : Int) == 19) (fun h0 => ?_) (fun h0 => ?_)
 ·replace H := Bb h0 H
  refine Ap F rfl rfl (An rfl h0) Ac rfl rfl fun _ F => Ap F rfl rfl (An rfl h0) Ac rfl rfl fun _ F => Ak F (Aa (Bh (Cb rfl h0) rfl) <| Aa (Am rfl) <| Ad) fun _ F => Aj <| Ab ?_
  obtain rfl := Ao H
  refine Bf ?_
  refine Ax (rs := [.tmp 2]) (vs := [.bool true]) F (by rfl) ⟨_, _, rfl, Ay rfl, rfl⟩ ⟨_, rfl, ⟨rfl, s0⟩⟩
 replace H := Bc h0 H
 refine Ar F rfl rfl (An rfl h0) (Ae rfl) rfl rfl fun _ F => Ar F rfl rfl (An rfl h0) (Bw rfl rfl) rfl rfl fun _ F => Ak F (Aa (Bj (Cb rfl h0) rfl) <| Aa (Am rfl) <| Ad) fun _ F => Aj <| Ab ?_
 obtain rfl := Ao H
 refine Bf ?_
 refine Ax (rs := [.tmp 2]) (vs := [.bool ((a0.toNat : Int) == 20)]) F (by rfl) ⟨_, _, rfl, Ay rfl, rfl⟩ ⟨_, rfl, ⟨rfl, s0⟩⟩
-- proviso/provisoref05.Place
theorem provisoref05_Place_c {w : World} {v0 : Value} {a0 : List S_api_Instr} {a1 : Int} {r : Int} (hr0 : Rd T_api_Instr w [] v0 a0) (H : provisoref05_Place a0 a1 = some r) :
    Calls Try.prog 48 #[v0, .int .i64 a1] w (Ret fun u_ w_ => u_ = .int .i64 r ∧ SL w [] w_ []) := by
 have s0 : SL w [] w [] := SL.init0 w
 refine Bq Try.func48 rfl Try.ntmps48 (Ah rfl) (args := [v0, .int .i64 a1]) fun q0 F0 => ?_
 unfold provisoref05_Place at H
 refine Ai <| Al <| Ak F0 (Aa (Am rfl) <| Ad) fun q3 F4 => Aj <| Ab <| Ai <| Ai <| Al <| Ak F4 (Aa (Ae rfl) <| Aa (Cd rfl Try.underlying67 (Cc (Cu hr0 s0))) <| Aa (Ae rfl) <| Ad) fun _ F => Aj <| Ab ?_
 obtain ⟨o0, H0, R0⟩ := Aq H
 clear H
 refine Bx (fun a w_ => ∃ p0 : Unit, o0 = .inr (p0) ∧ Fr a 20 [] ∧ SL w [] w_ []) ?_ ?_
 ·have H := H0
  refine Be <| Cq (provisoref05_Place_b0 a0 a1) (fun s1 a w_ => Fr a 20 [(1, .int .i64 a1), (7, v0), (8, .int .i64 (a0.length : Int)), (9, .int .i64 s1)] ∧ SL w [] w_ []) H ?_ ?_
  ·exact ⟨F.sub ⟨rfl, rfl, rfl, rfl, trivial⟩, s0⟩
  intro s1 _ w0 h0 o1 H hr
  obtain ⟨F, s2⟩ := h0
  replace H : provisoref05_Place_b0 a0 a1 s1 = some o1 := H
  unfold provisoref05_Place_b0 at H
  refine Ai <| Al <| Ak F (Aa (Cn rfl rfl) <| Ad) fun _ F => Aj <| Ab <| Ai <| Bm F rfl (fun h1 => ?_) (fun h1 => ?_)
  ·replace H := Bb h1 H
   refine Aw <| Ab <| Ai <| Be <| Ai <| Al ?_
   obtain ⟨x0, h2, H⟩ := Aq H
   obtain ⟨a2, h3, h4⟩ := Dc F_api_Instr (Cu hr0 s2) Fx.sl67 rfl h2
   refine Ak F (Aa (Ae rfl) <| Aa (h3 _ _ _ _ _ _ _ _ _ _ rfl rfl) <| Aa (Bn Fx.agg90 rfl h4 rfl) <| Ad) fun _ F => Bu F s2 Fx.zero90 rfl rfl fun g0 w1 _ F s3 => Ak F (Aa (Am rfl) <| Ad) fun _ F => ?_
   have s4 := s3
   refine Au F s4 rfl rfl Fx.sz90 (Af rfl (Af rfl (Af rfl (Af rfl Bd)))) (Ah rfl) fun w2 _ F s5 => ?_
   replace s5 : SL w [] w2 [Blk g0 90 [.int .i64 x0.At, .int .u8 (x0.Op.toNat : Int), .int .i64 x0.A, .int .i64 x0.B]] := s5
   refine Aj <| Ab <| Ai <| Al <| Ak F (Aa (Az Fx.fa90_0 rfl rfl) <| Aa (Ba Fx.nag3 rfl (s5.blk_cell (.head _) rfl)) <| Aa (Ae rfl) <| Aa (Bw rfl rfl) <| Ad) fun _ F => Aj <| Ab <| Bm F rfl (fun h5 => ?_) (fun h5 => ?_)
   ·replace H := Bb h5 H
    refine Ai <| Al <| Ak F (Aa (Ae rfl) <| Aa (Am rfl) <| Ad) fun _ F => Aj <| Ab ?_
    obtain rfl := Ao H
    obtain rfl := hr _ rfl
    replace H := R0
    try dsimp only at H
    obtain rfl := Ao H
    refine Bf <| blk_r <| Bg <| Bg <| blk_r <| Bg <| Bg ?_
    refine Ax (rs := [.tmp 4]) (vs := [.int .i64 s1]) F (by rfl) ⟨_, _, rfl, Ay rfl, rfl⟩ ⟨_, rfl, ⟨rfl, s5.drop⟩⟩
   replace H := Bc h5 H
   refine Aw <| By <| Ab <| Al <| Ak F (Aa (Bp rfl rfl) <| Aa (Ae rfl) <| Ad) fun _ F => Aj ?_
   obtain rfl := Ao H
   refine Ab ?_
   exact ⟨_, rfl, F.sub ⟨rfl, rfl, rfl, rfl, trivial⟩, s5.drop⟩
  replace H := Bc h1 H
  refine Bz <| Bo <| Bo <| Ca ?_
  obtain rfl := Ao H
  obtain rfl := hr _ rfl
  refine Ab ?_
  exact ⟨_, rfl, F.sub trivial, s2⟩
 intro _ w3 hJ
 obtain ⟨p0, rfl, F, s6⟩ := hJ
 have H := R0
 clear R0 H0
 try dsimp only at H
 refine Ab <| Ai <| Al <| Ak F (Aa (Am rfl) <| Ad) fun _ F => Aj <| Ab ?_
 obtain rfl := Ao H
 refine Bf ?_
 refine Ax (rs := [.tmp 4]) (vs := [.int .i64 (-1)]) F (by rfl) ⟨_, _, rfl, Ay rfl, rfl⟩ ⟨_, rfl, ⟨rfl, s6⟩⟩
-- proviso/provisoref04.Ends
theorem provisoref04_Ends_c {w : World} {a0 : UInt8} {r : Bool}  (H : provisoref04_Ends a0 = some r) :
    Calls Try.prog 49 #[.int .u8 (a0.toNat : Int)] w (Ret fun u_ w_ => u_ = .bool r ∧ SL w [] w_ []) := by
 have s0 : SL w [] w [] := SL.init0 w
 refine Bq Try.func49 rfl Try.ntmps49 (Ah rfl) (args := [.int .u8 (a0.toNat : Int)]) fun q0 F0 => ?_
 unfold provisoref04_Ends at H
 refine Ai <| Al <| Ak F0 (Aa (Am rfl) <| Ad) fun q3 F4 => Aj <| Ab <| Ai <| Al <| Ak F4 (Aa (Ae rfl) <| Aa (Bw rfl rfl) <| Aa (Ae rfl) <| Ad) fun _ F => Bl ((a0.toNat : Int) == 19) (fun h0 => ?_) (fun h0 => ?_)
 ·replace H := Bb h0 H
  refine Ap F rfl rfl (An rfl h0) Ac rfl rfl fun _ F => Ap F rfl rfl (An rfl h0) Ac rfl rfl fun _ F => Ak F (Aa (Bh (Cb rfl h0) rfl) <| Aa (Ae rfl) <| Ad) fun _ F => Ap F rfl rfl rfl Ac rfl rfl fun _ F => Ap F rfl rfl rfl Ac rfl rfl fun _ F => Ak F (Aa (Bh rfl rfl) <| Aa (Am rfl) <| Ad) fun _ F => Aj <| Ab ?_
  obtain rfl := Ao H
  refine Bf ?_
  refine Ax (rs := [.tmp 2]) (vs := [.bool true]) F (by rfl) ⟨_, _, rfl, Ay rfl, rfl⟩ ⟨_, rfl, ⟨rfl, s0⟩⟩
 replace H := Bc h0 H
 refine Ar F rfl rfl (An rfl h0) (Ae rfl) rfl rfl fun _ F => Ar F rfl rfl (An rfl h0) (Bw rfl rfl) rfl rfl fun _ F => Ak F (Aa (Bj (Cb rfl h0) rfl) <| Aa (Ae rfl) <| Ad) fun _ F => Bl ((a0.toNat : Int) == 22) (fun h1 => ?_) (fun h1 => ?_)
 ·replace H := Bb h1 H
  refine Ap F rfl rfl (An rfl h1) Ac rfl rfl fun _ F => Ap F rfl rfl (An rfl h1) Ac rfl rfl fun _ F => Ak F (Aa (Bh (Cb rfl h1) rfl) <| Aa (Am rfl) <| Ad) fun _ F => Aj <| Ab ?_
  obtain rfl := Ao H
  refine Bf ?_
  refine Ax (rs := [.tmp 2]) (vs := [.bool true]) F (by rfl) ⟨_, _, rfl, Ay rfl, rfl⟩ ⟨_, rfl, ⟨rfl, s0⟩⟩
 replace H := Bc h1 H
 refine Ar F rfl rfl (An rfl h1) (Ae rfl) rfl rfl fun _ F => Ar F rfl rfl (An rfl h1) (Bw rfl rfl) rfl rfl fun _ F => Ak F (Aa (Bj (Cb rfl h1) rfl) <| Aa (Am rfl) <| Ad) fun _ F => Aj <| Ab ?_
 obtain rfl := Ao H
 refine Bf ?_
 refine Ax (rs := [.tmp 2]) (vs := [.bool ((a0.toNat : Int) == 32)]) F (by rfl) ⟨_, _, rfl, Ay rfl, rfl⟩ ⟨_, rfl, ⟨rfl, s0⟩⟩
-- proviso/provisoref05.Check
theorem provisoref05_Check_c {w : World} {v0 : Value} {a0 : List UInt8} {r : Int × Int} (hr0 : Rd Ty.u8 w [] v0 a0) (H : provisoref05_Check a0 = some r) :
    Calls Try.prog 25 #[v0] w (Ret fun u_ w_ => u_ = .tuple ⟨[.int .i64 r.1, .int .i64 r.2]⟩ ∧ SL w [] w_ []) := by
 have s0 : SL w [] w [] := SL.init0 w
 refine Bq Try.func25 rfl Try.ntmps25 (Ah rfl) (args := [v0]) fun q0 F0 => ?_
 unfold provisoref05_Check at H
 refine Ai <| Al <| Ak F0 (Aa (Am rfl) <| Aa (Am rfl) <| Ad) fun q3 F4 => Aj <| Ab <| Ai <| Al ?_
 obtain ⟨x0, h0, H⟩ := Aq H
 refine Ak F4 (Aa (Ae rfl) <| Ad) fun _ F => Bi (args := [.tmp 11]) F Fx.fn26 rfl (provisoref05_Scan_c (a0 := a0)   (hr0.pass0 s0) h0) rfl fun v1 w0 _ h1 F => ?_
 obtain ⟨v2, rfl, h2⟩ := h1
 have s1 := s0.add h2
 refine Ak F (Aa (Ae rfl) <| Aa (As (v := v2) rfl rfl) <| Aa (As (v := .int .i64 x0.2.1) rfl rfl) <| Aa (As (v := .int .i64 x0.2.2) rfl rfl) <| Aa (Am rfl) <| Aa (Am rfl) <| Aa (Am rfl) <| Ad) fun _ F => Aj <| Ab <| Ai <| Ai <| Al <| Ak F (Aa (Ae rfl) <| Aa (Dd rfl rfl) <| Ad) fun _ F => Aj <| Ab <| Bm F rfl (fun h3 => ?_) (fun h3 => ?_)
 ·replace H := Bb h3 H
  refine Ai <| Al <| Ak F (Aa (Ae rfl) <| Aa (Ae rfl) <| Aa (Am rfl) <| Aa (Am rfl) <| Ad) fun _ F => Aj <| Ab ?_
  obtain rfl := Ao H
  refine Bf <| Bg ?_
  refine Ax (rs := [.tmp 2, .tmp 3]) (vs := [.int .i64 x0.2.1, .int .i64 x0.2.2]) F (by rfl) ⟨_, _, rfl, Ay rfl, _, _, rfl, Ay rfl, rfl⟩ ⟨_, rfl, ⟨rfl, s1.drop⟩⟩
 replace H := Bc h3 H
 refine Aw <| Ab <| Ai <| Ai <| Al <| Ak F (Aa (Ae rfl) <| Aa (Cd rfl Try.underlying67 (Cc (s1.own_rd (.head _)))) <| Aa (Ae rfl) <| Ad) fun _ F => Aj <| Ab ?_
 obtain ⟨o0, H0, R0⟩ := Aq H
 clear H
 refine Bx (fun a w_ => ∃ p0 : Unit, o0 = .inr (p0) ∧ Fr a 54 [(4, v2)] ∧ SL w [] w_ [Sl T_api_Instr v2 x0.1]) ?_ ?_
 ·have H := H0
  refine Be <| Cq (provisoref05_Check_b0 x0) (fun s2 a w_ => Fr a 54 [(4, v2), (20, v2), (21, .int .i64 (x0.1.length : Int)), (22, .int .i64 s2)] ∧ SL w [] w_ [Sl T_api_Instr v2 x0.1]) H ?_ ?_
  ·exact ⟨F.sub ⟨rfl, rfl, rfl, rfl, trivial⟩, s1⟩
  intro s2 _ w1 h4 o1 H hr
  obtain ⟨F, s3⟩ := h4
  replace H : provisoref05_Check_b0 x0 s2 = some o1 := H
  unfold provisoref05_Check_b0 at H
  refine Ai <| Al <| Ak F (Aa (Cn rfl rfl) <| Ad) fun _ F => Aj <| Ab <| Ai <| Bm F rfl (fun h5 => ?_) (fun h5 => ?_)
  ·replace H := Bb h5 H
   refine Aw <| Ab <| Ai <| Be <| Ai <| Al ?_
   obtain ⟨x1, h6, H⟩ := Aq H
   obtain ⟨a2, h7, h8⟩ := Cf F_api_Instr s3 (.head _) Fx.sl67 rfl h6
   refine Ak F (Aa (h7 _ _ _ _ _ _ _ _ _ _ rfl rfl) <| Aa (Bn Fx.agg90 rfl (SL.elcells F_api_Instr s3 (.head _) h8 h6) rfl) <| Ad) fun _ F => Bu F s3 Fx.zero90 rfl rfl fun g0 w2 _ F s4 => ?_
   have s5 := s4
   refine Au F s5 rfl rfl Fx.sz90 (Af rfl (Af rfl (Af rfl (Af rfl Bd)))) (Ah rfl) fun w3 _ F s6 => ?_
   replace s6 : SL w [] w3 [Blk g0 90 [.int .i64 x1.At, .int .u8 (x1.Op.toNat : Int), .int .i64 x1.A, .int .i64 x1.B], Sl T_api_Instr v2 x0.1] := s6
   refine Aj <| Ab <| Ai <| Al ?_
   obtain ⟨x2, h9, H⟩ := Aq H
   refine Ak F (Aa (Az Fx.fa90_1 rfl rfl) <| Aa (Ba Fx.nag5 rfl (s6.blk_cell (.head _) rfl)) <| Ad) fun _ F => Bi (args := [.tmp 27]) F Fx.fn47 rfl (provisoref04_Jumps_c (a0 := x1.Op)    h9) rfl fun v3 w4 _ ha F => ?_
   obtain ⟨rfl, hb⟩ := ha
   have s7 := s6.add hb
   refine Ak F (Aa (Ae rfl) <| Ad) fun _ F => Bl x2 (fun hc => ?_) (fun hc => ?_)
   ·replace H := Bb hc H
    refine Ar F rfl rfl (An rfl hc) (Ae rfl) rfl rfl fun _ F => Ar F rfl rfl (An rfl hc) (Az Fx.fa90_2 rfl rfl) rfl rfl fun _ F => Ar F rfl rfl (An rfl hc) (Ba Fx.nag3 rfl (s7.blk_cell (.head _) rfl)) rfl rfl fun _ F => ?_
    obtain ⟨x3, hd, H⟩ := Aq H
    refine st_ungd F rfl (An rfl hc) <| Bi (args := [.tmp 30, .tmp 32]) F Fx.fn48 rfl (provisoref05_Place_c (a0 := x0.1) (a1 := x1.A)   (s7.rd0 (.tail _ <| .head _)) hd) rfl fun v4 w5 _ he F => ?_
    obtain ⟨rfl, hf⟩ := he
    have s8 := s7.add hf
    refine Ar F rfl rfl (An rfl hc) (Cn rfl rfl) rfl rfl fun _ F => Ak F (Aa (Bh (Cb rfl hc) rfl) <| Ad) fun _ F => Aj <| Ab <| Bm F rfl (fun hg => ?_) (fun hg => ?_)
    ·replace H := Bb hg H
     refine Ai <| Al <| Ak F (Aa (Az Fx.fa90_0 rfl rfl) <| Aa (Ba Fx.nag3 rfl (s8.blk_cell (.head _) rfl)) <| Aa (Am rfl) <| Aa (Am rfl) <| Ad) fun _ F => Aj <| Ab ?_
     obtain rfl := Ao H
     obtain rfl := hr _ rfl
     replace H := R0
     try dsimp only at H
     obtain rfl := Ao H
     refine Bf <| blk_r <| Bg <| Bg <| blk_r <| Bg <| Bg ?_
     refine Ax (rs := [.tmp 2, .tmp 3]) (vs := [.int .i64 x1.At, .int .i64 50]) F (by rfl) ⟨_, _, rfl, Ay rfl, _, _, rfl, Ay rfl, rfl⟩ ⟨_, rfl, ⟨rfl, s8.drop.drop⟩⟩
    replace H := Bc hg H
    refine Aw <| By <| Ab <| Al <| Ak F (Aa (Bp rfl rfl) <| Aa (Ae rfl) <| Ad) fun _ F => Aj ?_
    obtain rfl := Ao H
    refine Ab ?_
    exact ⟨_, rfl, F.sub ⟨rfl, rfl, rfl, rfl, trivial⟩, s8.drop⟩
   replace H := Bc hc H
   refine Ap F rfl rfl (An rfl hc) Ac rfl rfl fun _ F => Ap F rfl rfl (An rfl hc) Ac rfl rfl fun _ F => Ap F rfl rfl (An rfl hc) Ac rfl rfl fun _ F => Ap F rfl rfl (An rfl hc) Ac rfl rfl fun _ F => Ap F rfl rfl (An rfl hc) Ac rfl rfl fun _ F => Ak F (Aa (Bj (Cb rfl hc) rfl) <| Ad) fun _ F => Aj <| Ab <| Cl F rfl <| Aw <| By <| Ab <| Al <| Ak F (Aa (Bp rfl rfl) <| Aa (Ae rfl) <| Ad) fun _ F => Aj ?_
   obtain rfl := Ao H
   refine Ab ?_
   exact ⟨_, rfl, F.sub ⟨rfl, rfl, rfl, rfl, trivial⟩, s7.drop⟩
  replace H := Bc h5 H
  refine Bz <| Bo <| Bo <| Ca ?_
  obtain rfl := Ao H
  obtain rfl := hr _ rfl
  refine Ab ?_
  exact ⟨_, rfl, F.sub ⟨rfl, trivial⟩, s3⟩
 intro _ w6 hJ
 obtain ⟨p0, rfl, F, s9⟩ := hJ
 have H := R0
 clear R0 H0
 try dsimp only at H
 refine Ab <| Ai <| Ai <| Al <| Ak F (Aa (Ae rfl) <| Aa (Cd rfl Try.underlying67 (Cc (s9.own_rd (.head _)))) <| Aa (Bw rfl rfl) <| Ad) fun _ F => Aj <| Ab <| Bm F rfl (fun hh => ?_) (fun hh => ?_)
 ·replace H := Bb hh H
  refine Ai <| Al <| Ak F (Aa (Am rfl) <| Aa (Am rfl) <| Ad) fun _ F => Aj <| Ab ?_
  obtain rfl := Ao H
  refine Bf <| Bg ?_
  refine Ax (rs := [.tmp 2, .tmp 3]) (vs := [.int .i64 0, .int .i64 51]) F (by rfl) ⟨_, _, rfl, Ay rfl, _, _, rfl, Ay rfl, rfl⟩ ⟨_, rfl, ⟨rfl, s9.drop⟩⟩
 replace H := Bc hh H
 refine Aw <| Ab <| Ai <| Ai <| Al ?_
 obtain ⟨x4, hi, H⟩ := Aq H
 obtain ⟨a3, hj, hk⟩ := Cf F_api_Instr s9 (.head _) Fx.sl67 rfl hi
 refine Ak F (Aa (Ae rfl) <| Aa (Ae rfl) <| Aa (Cd rfl Try.underlying67 (Cc (s9.own_rd (.head _)))) <| Aa (ex_sub rfl rfl) <| Aa (hj _ _ _ _ _ _ _ _ _ _ rfl rfl) <| Aa (Bn Fx.agg90 rfl (SL.elcells F_api_Instr s9 (.head _) hk hi) rfl) <| Ad) fun _ F => Bu F s9 Fx.zero90 rfl rfl fun g1 w7 _ F sa => ?_
 have sb := sa
 refine Au F sb rfl rfl Fx.sz90 (Af rfl (Af rfl (Af rfl (Af rfl Bd)))) (Ah rfl) fun w8 _ F sc => ?_
 replace sc : SL w [] w8 [Blk g1 90 [.int .i64 x4.At, .int .u8 (x4.Op.toNat : Int), .int .i64 x4.A, .int .i64 x4.B], Sl T_api_Instr v2 x0.1] := sc
 refine Aj <| Ab <| Ai <| Al ?_
 obtain ⟨x5, hl, H⟩ := Aq H
 refine Ak F (Aa (Az Fx.fa90_1 rfl rfl) <| Aa (Ba Fx.nag5 rfl (sc.blk_cell (.head _) rfl)) <| Ad) fun _ F => Bi (args := [.tmp 49]) F Fx.fn49 rfl (provisoref04_Ends_c (a0 := x4.Op)    hl) rfl fun v5 w9 _ hm F => ?_
 obtain ⟨rfl, hn⟩ := hm
 have sd := sc.add hn
 refine Ak F (Aa (Cx rfl) <| Ad) fun _ F => Aj <| Ab <| Bm F rfl (fun ho => ?_) (fun ho => ?_)
 ·replace H := Bb ho H
  refine Ai <| Al <| Ak F (Aa (Az Fx.fa90_0 rfl rfl) <| Aa (Ba Fx.nag3 rfl (sd.blk_cell (.head _) rfl)) <| Aa (Am rfl) <| Aa (Am rfl) <| Ad) fun _ F => Aj <| Ab ?_
  obtain rfl := Ao H
  refine Bf <| Bg ?_
  refine Ax (rs := [.tmp 2, .tmp 3]) (vs := [.int .i64 x4.At, .int .i64 51]) F (by rfl) ⟨_, _, rfl, Ay rfl, _, _, rfl, Ay rfl, rfl⟩ ⟨_, rfl, ⟨rfl, sd.drop.drop⟩⟩
 replace H := Bc ho H
 refine Aw <| Ab <| Ai <| Al <| Ak F (Aa (Am rfl) <| Aa (Am rfl) <| Ad) fun _ F => Aj <| Ab ?_
 obtain rfl := Ao H
 refine Bf ?_
 refine Ax (rs := [.tmp 2, .tmp 3]) (vs := [.int .i64 0, .int .i64 0]) F (by rfl) ⟨_, _, rfl, Ay rfl, _, _, rfl, Ay rfl, rfl⟩ ⟨_, rfl, ⟨rfl, sd.drop.drop⟩⟩
-- proviso/provisoref19.read
theorem provisoref19_read_c {w : World} {v0 : Value} {a0 : List UInt8} {r : (List S_provisoref19_ins)} (hr0 : Rd Ty.u8 w [] v0 a0) (H : provisoref19_read a0 = some r) :
    Calls Try.prog 73 #[v0] w (Ret fun u_ w_ => ∃ u0 : Value, u_ = u0 ∧ SL w [] w_ [Sl T_provisoref19_ins u0 r]) := by
 have s0 : SL w [] w [] := SL.init0 w
 refine Bq Try.func73 rfl Try.ntmps73 (Ah rfl) (args := [v0]) fun q0 F0 => ?_
 unfold provisoref19_read at H
 refine Ai <| Al <| Ak F0 (Aa (Am rfl) <| Ad) fun q3 F4 => Aj <| Ab <| Ai <| Al ?_
 obtain ⟨x0, h0, H⟩ := Aq H
 refine Ak F4 (Aa (Ae rfl) <| Ad) fun _ F => Bi (args := [.tmp 11]) F Fx.fn26 rfl (provisoref05_Scan_c (a0 := a0)   (hr0.pass0 s0) h0) rfl fun v1 w0 _ h1 F => ?_
 obtain ⟨v2, rfl, h2⟩ := h1
 have s1 := s0.add h2
 refine Ak F (Aa (Ae rfl) <| Aa (As (v := v2) rfl rfl) <| Aa (As (v := .int .i64 x0.2.1) rfl rfl) <| Aa (As (v := .int .i64 x0.2.2) rfl rfl) <| Aa (Am rfl) <| Aa (Am rfl) <| Aa (Am rfl) <| Ad) fun _ F => Aj <| Ab <| Ai <| Al <| Ak F (Aa (Am rfl) <| Ad) fun _ F => Aj <| Ab <| Ai <| Ai <| Al <| Ak F (Aa (Ae rfl) <| Aa (Cd rfl Try.underlying67 (Cc (s1.own_rd (.head _)))) <| Aa (Ae rfl) <| Ad) fun _ F => Aj <| Ab ?_
 obtain ⟨o0, H0, R0⟩ := Aq H
 clear H
 refine Bx (fun a w_ => ∃ v3 : Value, Fr a 44 [(6, v3)] ∧ SL w [] w_ [Sl T_provisoref19_ins v3 o0]) ?_ ?_
 ·have H := H0
  refine Be <| Cq (provisoref19_read_b0 x0) (fun s2 a w_ => ∃ v4 : Value, Fr a 44 [(3, v2), (6, v4), (16, v2), (17, .int .i64 (x0.1.length : Int)), (18, .int .i64 s2.2)] ∧ SL w [] w_ [Sl T_api_Instr v2 x0.1, Sl T_provisoref19_ins v4 s2.1]) H ?_ ?_
  ·exact ⟨(.slice none 0 0), F.sub ⟨rfl, rfl, rfl, rfl, rfl, trivial⟩, (SL.nilSl (T := T_provisoref19_ins) s1).f1⟩
  intro s2 _ w1 h3 o1 H hr
  obtain ⟨v4, F, s3⟩ := h3
  replace H : provisoref19_read_b0 x0 s2 = some o1 := H
  unfold provisoref19_read_b0 at H
  refine Ai <| Al <| Ak F (Aa (Cn rfl rfl) <| Ad) fun _ F => Aj <| Ab <| Ai <| Bm F rfl (fun h4 => ?_) (fun h4 => ?_)
  ·replace H := Bb h4 H
   refine Aw <| Ab <| Ai <| Be <| Ai <| Al ?_
   obtain ⟨x1, h5, H⟩ := Aq H
   obtain ⟨a2, h6, h7⟩ := Cf F_api_Instr s3 (.head _) Fx.sl67 rfl h5
   refine Ak F (Aa (h6 _ _ _ _ _ _ _ _ _ _ rfl rfl) <| Aa (Bn Fx.agg90 rfl (SL.elcells F_api_Instr s3 (.head _) h7 h5) rfl) <| Ad) fun _ F => Bu F s3 Fx.zero90 rfl rfl fun g0 w2 _ F s4 => ?_
   have s5 := s4
   refine Au F s5 rfl rfl Fx.sz90 (Af rfl (Af rfl (Af rfl (Af rfl Bd)))) (Ah rfl) fun w3 _ F s6 => ?_
   replace s6 : SL w [] w3 [Blk g0 90 [.int .i64 x1.At, .int .u8 (x1.Op.toNat : Int), .int .i64 x1.A, .int .i64 x1.B], Sl T_api_Instr v2 x0.1, Sl T_provisoref19_ins v4 s2.1] := s6
   refine Aj <| Ab <| Ai <| Al <| Ak F (Aa (Az Fx.fa90_1 rfl rfl) <| Aa (Ba Fx.nag5 rfl (s6.blk_cell (.head _) rfl)) <| Aa (Az Fx.fa90_2 rfl rfl) <| Aa (Ba Fx.nag3 rfl (s6.blk_cell (.head _) rfl)) <| Aa (Az Fx.fa90_3 rfl rfl) <| Aa (Ba Fx.nag3 rfl (s6.blk_cell (.head _) rfl)) <| Aa (Co (vs := [.int .u8 (x1.Op.toNat : Int), .int .i64 x1.A, .int .i64 x1.B, .int .i64 (-1)]) Fx.zero156 Fx.pl156 rfl (cs := [.int .u8 (x1.Op.toNat : Int), .int .i64 x1.A, .int .i64 x1.B, .int .i64 (-1)]) (rfl)) <| Ad) fun _ F => Bu F s6 Fx.zero156 rfl rfl fun g1 w4 _ F s7 => ?_
   have s8 := s7
   refine Au F s8 rfl rfl Fx.sz156 (Af rfl (Af rfl (Af rfl (Af rfl Bd)))) (Ah rfl) fun w5 _ F s9 => ?_
   replace s9 : SL w [] w5 [Blk g1 156 [.int .u8 (x1.Op.toNat : Int), .int .i64 x1.A, .int .i64 x1.B, .int .i64 (-1)], Blk g0 90 [.int .i64 x1.At, .int .u8 (x1.Op.toNat : Int), .int .i64 x1.A, .int .i64 x1.B], Sl T_api_Instr v2 x0.1, Sl T_provisoref19_ins v4 s2.1] := s9
   refine Aj <| Ab <| Ai <| Ai <| Al ?_
   obtain ⟨x2, h8, H⟩ := Aq H
   refine Ak F (Aa (Az Fx.fa90_1 rfl rfl) <| Aa (Ba Fx.nag5 rfl (s9.blk_cell (.tail _ <| .head _) rfl)) <| Ad) fun _ F => Bi (args := [.tmp 30]) F Fx.fn47 rfl (provisoref04_Jumps_c (a0 := x1.Op)    h8) rfl fun v5 w6 _ h9 F => ?_
   obtain ⟨rfl, ha⟩ := h9
   have sa := s9.add ha
   refine Aj <| Ab <| Bm F rfl (fun hb => ?_) (fun hb => ?_)
   ·replace H := Bb hb H
    refine Ai <| Al ?_
    obtain ⟨x3, hc, H⟩ := Aq H
    refine Ak F (Aa (Ae rfl) <| Aa (Az Fx.fa90_2 rfl rfl) <| Aa (Ba Fx.nag3 rfl (sa.blk_cell (.tail _ <| .head _) rfl)) <| Ad) fun _ F => Bi (args := [.tmp 32, .tmp 34]) F Fx.fn48 rfl (provisoref05_Place_c (a0 := x0.1) (a1 := x1.A)   (sa.rd0 (.tail _ <| .tail _ <| .head _)) hc) rfl fun v6 w7 _ hd F => ?_
    obtain ⟨rfl, he⟩ := hd
    have sb := sa.add he
    refine Ak F (Aa (Az Fx.fa156_3 rfl rfl) <| Ad) fun _ F => ?_
    have sc := sb
    refine Ct F sc rfl rfl Fx.sz3 rfl rfl rfl fun w8 _ F sd => ?_
    replace sd : SL w [] w8 [Blk g1 156 [.int .u8 (x1.Op.toNat : Int), .int .i64 x1.A, .int .i64 x1.B, .int .i64 x3], Blk g0 90 [.int .i64 x1.At, .int .u8 (x1.Op.toNat : Int), .int .i64 x1.A, .int .i64 x1.B], Sl T_api_Instr v2 x0.1, Sl T_provisoref19_ins v4 s2.1] := sd
    refine Aj <| Ab <| Al <| Ak F (Aa (Az Fx.fa156_1 rfl rfl) <| Ad) fun _ F => ?_
    have se := sd
    refine Ct F se rfl rfl Fx.sz3 rfl rfl rfl fun w9 _ F sf => ?_
    replace sf : SL w [] w9 [Blk g1 156 [.int .u8 (x1.Op.toNat : Int), .int .i64 0, .int .i64 x1.B, .int .i64 x3], Blk g0 90 [.int .i64 x1.At, .int .u8 (x1.Op.toNat : Int), .int .i64 x1.A, .int .i64 x1.B], Sl T_api_Instr v2 x0.1, Sl T_provisoref19_ins v4 s2.1] := sf
    refine Aj <| Ab <| Al <| Ak F (Aa (Ae rfl) <| Aa (Bn Fx.agg156 rfl (sf.blk_cells (.head _) (o := 0) (ds := [.int .u8 (x1.Op.toNat : Int), .int .i64 0, .int .i64 x1.B, .int .i64 x3]) (fun j u hu => by rw [Nat.zero_add]; exact hu)) rfl) <| Ad) fun _ F => ?_
    refine Cm (parts := [(0, .tmp 39)]) F_provisoref19_ins ([(⟨x1.Op, 0, x1.B, x3⟩ : S_provisoref19_ins)] : List S_provisoref19_ins) F sf Fx.sl126 rfl (by decide) rfl rfl rfl (by simp [Value.cells]) rfl rfl rfl fun v7 wa _ F sg => ?_
    obtain ⟨x4, hf, H⟩ := Aq H
    have sh := sg.f4
    obtain ⟨_, hr_⟩ := (sh.own_rd (.tail _ <| .head _))
    refine Ch F_provisoref19_ins F sh Fx.sl126 rfl rfl rfl rfl hr_ rfl rfl hf rfl fun v8 wb _ F si => ?_
    have s11441' := si.f1.drop
    refine Ak F (Aa (Am rfl) <| Ad) fun _ F => Aj <| By <| Ab <| Al <| Ak F (Aa (Bp rfl rfl) <| Aa (Ae rfl) <| Ad) fun _ F => Aj ?_
    obtain rfl := Ao H
    refine Ab ?_
    exact ⟨_, rfl, v8, F.sub ⟨rfl, rfl, rfl, rfl, rfl, trivial⟩, s11441'.f1.drop.f1.drop.f1⟩
   replace H := Bc hb H
   refine Aw <| Ab <| Al <| Ak F (Aa (Ae rfl) <| Aa (Bn Fx.agg156 rfl (sa.blk_cells (.head _) (o := 0) (ds := [.int .u8 (x1.Op.toNat : Int), .int .i64 x1.A, .int .i64 x1.B, .int .i64 (-1)]) (fun j u hu => by rw [Nat.zero_add]; exact hu)) rfl) <| Ad) fun _ F => ?_
   refine Cm (parts := [(0, .tmp 39)]) F_provisoref19_ins ([(⟨x1.Op, x1.A, x1.B, (-1)⟩ : S_provisoref19_ins)] : List S_provisoref19_ins) F sa Fx.sl126 rfl (by decide) rfl rfl rfl (by simp [Value.cells]) rfl rfl rfl fun v9 wc _ F sj => ?_
   obtain ⟨x5, hg, H⟩ := Aq H
   have sk := sj.f4
   obtain ⟨_, hr_⟩ := (sk.own_rd (.tail _ <| .head _))
   refine Ch F_provisoref19_ins F sk Fx.sl126 rfl rfl rfl rfl hr_ rfl rfl hg rfl fun va wd _ F sl => ?_
   have s11461' := sl.f1.drop
   refine Ak F (Aa (Am rfl) <| Ad) fun _ F => Aj <| By <| Ab <| Al <| Ak F (Aa (Bp rfl rfl) <| Aa (Ae rfl) <| Ad) fun _ F => Aj ?_
   obtain rfl := Ao H
   refine Ab ?_
   exact ⟨_, rfl, va, F.sub ⟨rfl, rfl, rfl, rfl, rfl, trivial⟩, s11461'.f1.drop.f1.drop.f1⟩
  replace H := Bc h4 H
  refine Bz <| Bo <| Bo <| Ca ?_
  obtain rfl := Ao H
  obtain rfl := hr _ rfl
  refine Ab ?_
  exact ⟨v4, F.sub ⟨rfl, trivial⟩, s3.drop⟩
 intro _ we hJ
 obtain ⟨v3, F, sm⟩ := hJ
 have H := R0
 clear R0 H0
 refine Ab <| Ai <| Al <| Ak F (Aa (Ae rfl) <| Aa (Am rfl) <| Ad) fun _ F => Aj <| Ab ?_
 obtain rfl := Ao H
 refine Bf ?_
 refine Ax (rs := [.tmp 2]) (vs := [v3]) F (by rfl) ⟨_, _, rfl, Ay rfl, rfl⟩ ⟨_, rfl, ⟨v3, rfl, sm⟩⟩
-- proviso/provisoref19.led
theorem provisoref19_led_c {w : World} {v0 : Value} {a0 : List S_provisoref19_ins} {r : (List Bool)} (hr0 : Rd T_provisoref19_ins w [] v0 a0) (H : provisoref19_led a0 = some r) :
    Calls Try.prog 102 #[v0] w (Ret fun u_ w_ => ∃ u0 : Value, u_ = u0 ∧ SL w [] w_ [Sl Ty.bool u0 r]) := by
 have s0 : SL w [] w [] := SL.init0 w
 refine Bq Try.func102 rfl Try.ntmps102 (Ah rfl) (args := [v0]) fun q0 F0 => ?_
 unfold provisoref19_led at H
 refine Ai <| Al <| Ak F0 (Aa (Am rfl) <| Ad) fun q3 F4 => Aj <| Ab <| Ai <| Al ?_
 obtain ⟨x0, h0, H⟩ := Aq H
 refine Ak F4 (Aa (Ae rfl) <| Aa (Cd rfl Try.underlying126 (Cc (Cu hr0 s0))) <| Ad) fun _ F => st_make Flat.bool false F s0 Fx.sl93 rfl rfl Fx.zero4 rfl rfl rfl h0 rfl fun v1 w0 _ F s1 => Ak F (Aa (Am rfl) <| Ad) fun _ F => Aj <| Ab <| Ai <| Ai <| Al <| Ak F (Aa (Ae rfl) <| Aa (Cd rfl Try.underlying126 (Cc (Cu hr0 s1))) <| Aa (Ae rfl) <| Ad) fun _ F => Aj <| Ab ?_
 obtain ⟨o0, H0, R0⟩ := Aq H
 clear H
 refine Bx (fun a w_ => ∃ v2 : Value, Fr a 24 [(3, v2)] ∧ SL w [] w_ [Sl Ty.bool v2 o0]) ?_ ?_
 ·have H := H0
  refine Be <| Cq (provisoref19_led_b0 a0) (fun s2 a w_ => ∃ v3 : Value, Fr a 24 [(3, v3), (9, v0), (10, .int .i64 (a0.length : Int)), (11, .int .i64 s2.2)] ∧ SL w [] w_ [Sl Ty.bool v3 s2.1]) H ?_ ?_
  ·exact ⟨v1, F.sub ⟨rfl, rfl, rfl, rfl, trivial⟩, s1⟩
  intro s2 _ w1 h1 o1 H hr
  obtain ⟨v3, F, s3⟩ := h1
  replace H : provisoref19_led_b0 a0 s2 = some o1 := H
  unfold provisoref19_led_b0 at H
  refine Ai <| Al <| Ak F (Aa (Cn rfl rfl) <| Ad) fun _ F => Aj <| Ab <| Ai <| Bm F rfl (fun h2 => ?_) (fun h2 => ?_)
  ·replace H := Bb h2 H
   refine Aw <| Ab <| Ai <| Be <| Ai <| Al ?_
   obtain ⟨x1, h3, H⟩ := Aq H
   obtain ⟨a1, h4, h5⟩ := Dc F_provisoref19_ins (Cu hr0 s3) Fx.sl126 rfl h3
   refine Ak F (Aa (h4 _ _ _ _ _ _ _ _ _ _ rfl rfl) <| Aa (Bn Fx.agg156 rfl h5 rfl) <| Ad) fun _ F => Bu F s3 Fx.zero156 rfl rfl fun g0 w2 _ F s4 => ?_
   have s5 := s4
   refine Au F s5 rfl rfl Fx.sz156 (Af rfl (Af rfl (Af rfl (Af rfl Bd)))) (Ah rfl) fun w3 _ F s6 => ?_
   replace s6 : SL w [] w3 [Blk g0 156 [.int .u8 (x1.op.toNat : Int), .int .i64 x1.a, .int .i64 x1.b, .int .i64 x1.to], Sl Ty.bool v3 s2.1] := s6
   refine Aj <| Ab <| Ai <| Al <| Ak F (Aa (Az Fx.fa156_3 rfl rfl) <| Aa (Ba Fx.nag3 rfl (s6.blk_cell (.head _) rfl)) <| Aa (ex_ge rfl rfl) <| Ad) fun _ F => Aj <| Ab <| Bm F rfl (fun h6 => ?_) (fun h6 => ?_)
   ·replace H := Bb h6 H
    refine Al ?_
    obtain ⟨x2, h7, H⟩ := Aq H
    obtain ⟨a2, h8, h9⟩ := Cf Flat.bool s6 (.tail _ <| .head _) Fx.sl93 rfl h7
    refine Ak F (Aa (Ae rfl) <| Aa (Az Fx.fa156_3 rfl rfl) <| Aa (Ba Fx.nag3 rfl (s6.blk_cell (.head _) rfl)) <| Aa (h8 _ _ _ _ _ _ _ _ _ _ rfl rfl) <| Ad) fun _ F => ?_
    refine Cr (y' := true) Flat.bool F s6.f1 h9 h7 rfl rfl (by rfl) Fx.sz4 fun w4 _ F s7 => ?_
    refine Aj <| By <| Ab <| Al <| Ak F (Aa (Bp rfl rfl) <| Aa (Ae rfl) <| Ad) fun _ F => Aj ?_
    obtain rfl := Ao H
    refine Ab ?_
    exact ⟨_, rfl, v3, F.sub ⟨rfl, rfl, rfl, rfl, trivial⟩, s7.f1.drop⟩
   replace H := Bc h6 H
   refine Aw <| By <| Ab <| Al <| Ak F (Aa (Bp rfl rfl) <| Aa (Ae rfl) <| Ad) fun _ F => Aj ?_
   obtain rfl := Ao H
   refine Ab ?_
   exact ⟨_, rfl, v3, F.sub ⟨rfl, rfl, rfl, rfl, trivial⟩, s6.drop⟩
  replace H := Bc h2 H
  refine Bz <| Bo <| Bo <| Ca ?_
  obtain rfl := Ao H
  obtain rfl := hr _ rfl
  refine Ab ?_
  exact ⟨v3, F.sub ⟨rfl, trivial⟩, s3⟩
 intro _ w5 hJ
 obtain ⟨v2, F, s8⟩ := hJ
 have H := R0
 clear R0 H0
 refine Ab <| Ai <| Al <| Ak F (Aa (Ae rfl) <| Aa (Am rfl) <| Ad) fun _ F => Aj <| Ab ?_
 obtain rfl := Ao H
 refine Bf ?_
 refine Ax (rs := [.tmp 2]) (vs := [v2]) F (by rfl) ⟨_, _, rfl, Ay rfl, rfl⟩ ⟨_, rfl, ⟨v2, rfl, s8⟩⟩
-- proviso/provisoref19.left
theorem provisoref19_left_c {w : World} {v0 v1 : Value} {a0 : List S_provisoref19_ins} {a1 : List Bool} {r : (List S_provisoref19_ins)} (hr0 : Rd T_provisoref19_ins w [] v0 a0) (hr1 : Rd Ty.bool w [] v1 a1) (H : provisoref19_left a0 a1 = some r) :
    Calls Try.prog 103 #[v0, v1] w (Ret fun u_ w_ => ∃ u0 : Value, u_ = u0 ∧ SL w [] w_ [Sl T_provisoref19_ins u0 r]) := by
 have s0 : SL w [] w [] := SL.init0 w
 refine Bq Try.func103 rfl Try.ntmps103 (Ah rfl) (args := [v0, v1]) fun q0 F0 => ?_
 unfold provisoref19_left at H
 refine Ai <| Al <| Ak F0 (Aa (Am rfl) <| Ad) fun q3 F4 => Aj <| Ab <| Ai <| Al ?_
 obtain ⟨x0, h0, H⟩ := Aq H
 refine Ak F4 (Aa (Ae rfl) <| Aa (Cd rfl Try.underlying126 (Cc (Cu hr0 s0))) <| Ad) fun _ F => st_make (Flat.int .i64) (0 : Int) F s0 Fx.sl57 rfl rfl Fx.zero3 rfl rfl rfl h0 rfl fun v2 w0 _ F s1 => Ak F (Aa (Am rfl) <| Ad) fun _ F => Aj <| Ab <| Ai <| Al <| Ak F (Aa (Am rfl) <| Ad) fun _ F => Aj <| Ab <| Ai <| Ai <| Al <| Ak F (Aa (Ae rfl) <| Aa (Cd rfl Try.underlying126 (Cc (Cu hr0 s1))) <| Aa (Ae rfl) <| Ad) fun _ F => Aj <| Ab ?_
 obtain ⟨o0, H0, R0⟩ := Aq H
 clear H
 refine Bx (fun a w_ => ∃ v3 : Value, Fr a 58 [(0, v0), (1, v1), (5, v3)] ∧ SL w [] w_ [Sl (Ty.int .i64) v3 o0]) ?_ ?_
 ·have H := H0
  refine Be <| Cq (provisoref19_left_b0 a0 a1) (fun s2 a w_ => ∃ v4 : Value, Fr a 58 [(0, v0), (1, v1), (5, v4), (6, .int .i64 s2.2.1), (15, .int .i64 (a0.length : Int)), (16, .int .i64 s2.2.2)] ∧ SL w [] w_ [Sl (Ty.int .i64) v4 s2.1]) H ?_ ?_
  ·exact ⟨v2, F.sub ⟨rfl, rfl, rfl, rfl, rfl, rfl, trivial⟩, s1⟩
  intro s2 _ w1 h1 o1 H hr
  obtain ⟨v4, F, s3⟩ := h1
  replace H : provisoref19_left_b0 a0 a1 s2 = some o1 := H
  unfold provisoref19_left_b0 at H
  refine Ai <| Al <| Ak F (Aa (Cn rfl rfl) <| Ad) fun _ F => Aj <| Ab <| Ai <| Bm F rfl (fun h2 => ?_) (fun h2 => ?_)
  ·replace H := Bb h2 H
   refine Aw <| Ab <| Ai <| Be <| Ai <| Al <| Ak F (Aa (Ae rfl) <| Aa (Am rfl) <| Ad) fun _ F => Aj <| Ab <| Ai <| Al ?_
   obtain ⟨x1, h3, H⟩ := Aq H
   obtain ⟨a2, h4, h5⟩ := Cf (Flat.int .i64) s3 (.head _) Fx.sl57 rfl h3
   refine Ak F (Aa (Ae rfl) <| Aa (Ae rfl) <| Aa (Ae rfl) <| Aa (h4 _ _ _ _ _ _ _ _ _ _ rfl rfl) <| Ad) fun _ F => ?_
   refine Cr (y' := s2.2.1) (Flat.int .i64) F s3 h5 h3 rfl rfl (by rfl) Fx.sz3 fun w2 _ F s4 => ?_
   refine Aj <| Ab <| Ai <| Al ?_
   obtain ⟨x2, h6, H⟩ := Aq H
   obtain ⟨a3, h7, h8⟩ := Dc Flat.bool (Cu hr1 s4) Fx.sl93 rfl h6
   refine Ak F (Aa (Ae rfl) <| Aa (Ae rfl) <| Aa (h7 _ _ _ _ _ _ _ _ _ _ rfl rfl) <| Aa (Ba Fx.nag4 rfl (Cells.at_ h8 (o := 0) rfl)) <| Aa (Cx rfl) <| Ad) fun _ F => Aj <| Ab <| Bm F rfl (fun h9 => ?_) (fun h9 => ?_)
   ·replace H := Bb h9 H
    refine Al <| Ak F (Aa (Ae rfl) <| Aa (Bp rfl rfl) <| Aa (Am rfl) <| Ad) fun _ F => Aj <| By <| Ab <| Al <| Ak F (Aa (Bp rfl rfl) <| Aa (Ae rfl) <| Ad) fun _ F => Aj ?_
    obtain rfl := Ao H
    refine Ab ?_
    exact ⟨_, rfl, v4, F.sub ⟨rfl, rfl, rfl, rfl, rfl, rfl, trivial⟩, s4⟩
   replace H := Bc h9 H
   refine Aw <| By <| Ab <| Al <| Ak F (Aa (Bp rfl rfl) <| Aa (Ae rfl) <| Ad) fun _ F => Aj ?_
   obtain rfl := Ao H
   refine Ab ?_
   exact ⟨_, rfl, v4, F.sub ⟨rfl, rfl, rfl, rfl, rfl, rfl, trivial⟩, s4⟩
  replace H := Bc h2 H
  refine Bz <| Bo <| Bo <| Ca ?_
  obtain rfl := Ao H
  obtain rfl := hr _ rfl
  refine Ab ?_
  exact ⟨v4, F.sub ⟨rfl, rfl, rfl, trivial⟩, s3⟩
 intro _ w3 hJ
 obtain ⟨v3, F, s5⟩ := hJ
 have H := R0
 clear R0 H0
 refine Ab <| Ai <| Al <| Ak F (Aa (Am rfl) <| Ad) fun _ F => Aj <| Ab <| Ai <| Ai <| Al <| Ak F (Aa (Ae rfl) <| Aa (Cd rfl Try.underlying126 (Cc (Cu hr0 s5))) <| Aa (Ae rfl) <| Ad) fun _ F => Aj <| Ab ?_
 obtain ⟨o2, H1, R1⟩ := Aq H
 clear H
 refine Bx (fun a w_ => ∃ v5 : Value, Fr a 58 [(8, v5)] ∧ SL w [] w_ [Sl T_provisoref19_ins v5 o2]) ?_ ?_
 ·have H := H1
  refine Be <| Cq (provisoref19_left_b1 a0 a1 o0) (fun s6 a w_ => ∃ v6 : Value, Fr a 58 [(1, v1), (5, v3), (8, v6), (31, v0), (32, .int .i64 (a0.length : Int)), (33, .int .i64 s6.2)] ∧ SL w [] w_ [Sl (Ty.int .i64) v3 o0, Sl T_provisoref19_ins v6 s6.1]) H ?_ ?_
  ·exact ⟨(.slice none 0 0), F.sub ⟨rfl, rfl, rfl, rfl, rfl, rfl, trivial⟩, (SL.nilSl (T := T_provisoref19_ins) s5).f1⟩
  intro s6 _ w4 ha o3 H hr
  obtain ⟨v6, F, s7⟩ := ha
  replace H : provisoref19_left_b1 a0 a1 o0 s6 = some o3 := H
  unfold provisoref19_left_b1 at H
  refine Ai <| Al <| Ak F (Aa (Cn rfl rfl) <| Ad) fun _ F => Aj <| Ab <| Ai <| Bm F rfl (fun hb => ?_) (fun hb => ?_)
  ·replace H := Bb hb H
   refine Aw <| Ab <| Ai <| Be <| Ai <| Al ?_
   obtain ⟨x3, hc, H⟩ := Aq H
   obtain ⟨a4, hd, he⟩ := Dc F_provisoref19_ins (Cu hr0 s7) Fx.sl126 rfl hc
   refine Ak F (Aa (Ae rfl) <| Aa (hd _ _ _ _ _ _ _ _ _ _ rfl rfl) <| Aa (Bn Fx.agg156 rfl he rfl) <| Ad) fun _ F => Bu F s7 Fx.zero156 rfl rfl fun g0 w5 _ F s8 => Ak F (Aa (Am rfl) <| Ad) fun _ F => ?_
   have s9 := s8
   refine Au F s9 rfl rfl Fx.sz156 (Af rfl (Af rfl (Af rfl (Af rfl Bd)))) (Ah rfl) fun w6 _ F sa => ?_
   replace sa : SL w [] w6 [Blk g0 156 [.int .u8 (x3.op.toNat : Int), .int .i64 x3.a, .int .i64 x3.b, .int .i64 x3.to], Sl (Ty.int .i64) v3 o0, Sl T_provisoref19_ins v6 s6.1] := sa
   refine Aj <| Ab <| Ai <| Ai <| Al <| Ak F (Aa (Az Fx.fa156_3 rfl rfl) <| Aa (Ba Fx.nag3 rfl (sa.blk_cell (.head _) rfl)) <| Aa (ex_ge rfl rfl) <| Ad) fun _ F => Aj <| Ab <| Bm F rfl (fun hf => ?_) (fun hf => ?_)
   ·replace H := Bb hf H
    refine Al ?_
    obtain ⟨x4, hg, H⟩ := Aq H
    obtain ⟨a5, hh, hi⟩ := Cf (Flat.int .i64) sa (.tail _ <| .head _) Fx.sl57 rfl hg
    refine Ak F (Aa (Ae rfl) <| Aa (Az Fx.fa156_3 rfl rfl) <| Aa (Ba Fx.nag3 rfl (sa.blk_cell (.head _) rfl)) <| Aa (hh _ _ _ _ _ _ _ _ _ _ rfl rfl) <| Aa (Ba Fx.nag3 rfl (Cells.at_ (SL.elcells (Flat.int .i64) sa (.tail _ <| .head _) hi hg) (o := 0) rfl)) <| Aa (Az Fx.fa156_3 rfl rfl) <| Ad) fun _ F => ?_
    have sb := sa
    refine Ct F sb rfl rfl Fx.sz3 rfl rfl rfl fun w7 _ F sc => ?_
    replace sc : SL w [] w7 [Blk g0 156 [.int .u8 (x3.op.toNat : Int), .int .i64 x3.a, .int .i64 x3.b, .int .i64 x4], Sl (Ty.int .i64) v3 o0, Sl T_provisoref19_ins v6 s6.1] := sc
    refine Aj <| Ab <| Ai <| Al ?_
    obtain ⟨x5, hj, H⟩ := Aq H
    obtain ⟨a6, hk, hl⟩ := Dc Flat.bool (Cu hr1 sc) Fx.sl93 rfl hj
    refine Ak F (Aa (Ae rfl) <| Aa (Ae rfl) <| Aa (hk _ _ _ _ _ _ _ _ _ _ rfl rfl) <| Aa (Ba Fx.nag4 rfl (Cells.at_ hl (o := 0) rfl)) <| Aa (Cx rfl) <| Ad) fun _ F => Aj <| Ab <| Bm F rfl (fun hm => ?_) (fun hm => ?_)
    ·replace H := Bb hm H
     refine Al <| Ak F (Aa (Ae rfl) <| Aa (Bn Fx.agg156 rfl (sc.blk_cells (.head _) (o := 0) (ds := [.int .u8 (x3.op.toNat : Int), .int .i64 x3.a, .int .i64 x3.b, .int .i64 x4]) (fun j u hu => by rw [Nat.zero_add]; exact hu)) rfl) <| Ad) fun _ F => ?_
     refine Cm (parts := [(0, .tmp 53)]) F_provisoref19_ins ([(⟨x3.op, x3.a, x3.b, x4⟩ : S_provisoref19_ins)] : List S_provisoref19_ins) F sc Fx.sl126 rfl (by decide) rfl rfl rfl (by simp [Value.cells]) rfl rfl rfl fun v7 w8 _ F sd => ?_
     obtain ⟨x6, hn, H⟩ := Aq H
     have se := sd.f3
     obtain ⟨_, hr_⟩ := (se.own_rd (.tail _ <| .head _))
     refine Ch F_provisoref19_ins F se Fx.sl126 rfl rfl rfl rfl hr_ rfl rfl hn rfl fun v8 w9 _ F sf => ?_
     have s9628' := sf.f1.drop
     refine Ak F (Aa (Am rfl) <| Ad) fun _ F => Aj <| By <| Ab <| Al <| Ak F (Aa (Bp rfl rfl) <| Aa (Ae rfl) <| Ad) fun _ F => Aj ?_
     obtain rfl := Ao H
     refine Ab ?_
     exact ⟨_, rfl, v8, F.sub ⟨rfl, rfl, rfl, rfl, rfl, rfl, trivial⟩, s9628'.f1.drop.f1⟩
    replace H := Bc hm H
    refine Aw <| By <| Ab <| Al <| Ak F (Aa (Bp rfl rfl) <| Aa (Ae rfl) <| Ad) fun _ F => Aj ?_
    obtain rfl := Ao H
    refine Ab ?_
    exact ⟨_, rfl, v6, F.sub ⟨rfl, rfl, rfl, rfl, rfl, rfl, trivial⟩, sc.drop⟩
   replace H := Bc hf H
   refine Aw <| Ab <| Ai <| Al ?_
   obtain ⟨x7, ho, H⟩ := Aq H
   obtain ⟨a7, hp, hq⟩ := Dc Flat.bool (Cu hr1 sa) Fx.sl93 rfl ho
   refine Ak F (Aa (Ae rfl) <| Aa (Ae rfl) <| Aa (hp _ _ _ _ _ _ _ _ _ _ rfl rfl) <| Aa (Ba Fx.nag4 rfl (Cells.at_ hq (o := 0) rfl)) <| Aa (Cx rfl) <| Ad) fun _ F => Aj <| Ab <| Bm F rfl (fun hs => ?_) (fun hs => ?_)
   ·replace H := Bb hs H
    refine Al <| Ak F (Aa (Ae rfl) <| Aa (Bn Fx.agg156 rfl (sa.blk_cells (.head _) (o := 0) (ds := [.int .u8 (x3.op.toNat : Int), .int .i64 x3.a, .int .i64 x3.b, .int .i64 x3.to]) (fun j u hu => by rw [Nat.zero_add]; exact hu)) rfl) <| Ad) fun _ F => ?_
    refine Cm (parts := [(0, .tmp 53)]) F_provisoref19_ins ([(⟨x3.op, x3.a, x3.b, x3.to⟩ : S_provisoref19_ins)] : List S_provisoref19_ins) F sa Fx.sl126 rfl (by decide) rfl rfl rfl (by simp [Value.cells]) rfl rfl rfl fun v9 wa _ F sg => ?_
    obtain ⟨x8, ht, H⟩ := Aq H
    have sh := sg.f3
    obtain ⟨_, hr_⟩ := (sh.own_rd (.tail _ <| .head _))
    refine Ch F_provisoref19_ins F sh Fx.sl126 rfl rfl rfl rfl hr_ rfl rfl ht rfl fun va wb _ F si => ?_
    have s9665' := si.f1.drop
    refine Ak F (Aa (Am rfl) <| Ad) fun _ F => Aj <| By <| Ab <| Al <| Ak F (Aa (Bp rfl rfl) <| Aa (Ae rfl) <| Ad) fun _ F => Aj ?_
    obtain rfl := Ao H
    refine Ab ?_
    exact ⟨_, rfl, va, F.sub ⟨rfl, rfl, rfl, rfl, rfl, rfl, trivial⟩, s9665'.f1.drop.f1⟩
   replace H := Bc hs H
   refine Aw <| By <| Ab <| Al <| Ak F (Aa (Bp rfl rfl) <| Aa (Ae rfl) <| Ad) fun _ F => Aj ?_
   obtain rfl := Ao H
   refine Ab ?_
   exact ⟨_, rfl, v6, F.sub ⟨rfl, rfl, rfl, rfl, rfl, rfl, trivial⟩, sa.drop⟩
  replace H := Bc hb H
  refine Bz <| Bo <| Bo <| Ca ?_
  obtain rfl := Ao H
  obtain rfl := hr _ rfl
  refine Ab ?_
  exact ⟨v6, F.sub ⟨rfl, trivial⟩, s7.drop⟩
 intro _ wc hJ
 obtain ⟨v5, F, sj⟩ := hJ
 have H := R1
 clear R1 H1
 refine Ab <| Ai <| Al <| Ak F (Aa (Ae rfl) <| Aa (Am rfl) <| Ad) fun _ F => Aj <| Ab ?_
 obtain rfl := Ao H
 refine Bf ?_
 refine Ax (rs := [.tmp 4]) (vs := [v5]) F (by rfl) ⟨_, _, rfl, Ay rfl, rfl⟩ ⟨_, rfl, ⟨v5, rfl, sj⟩⟩
-- proviso/provisoref19.sure
theorem provisoref19_sure_c {w : World} {v0 : Value} {a0 : List S_provisoref19_ins} {r : (List S_provisoref19_ins)} (hr0 : Rd T_provisoref19_ins w [] v0 a0) (H : provisoref19_sure a0 = some r) :
    Calls Try.prog 74 #[v0] w (Ret fun u_ w_ => ∃ u0 : Value, u_ = u0 ∧ SL w [] w_ [Sl T_provisoref19_ins u0 r]) := by
 have s0 : SL w [] w [] := SL.init0 w
 refine Bq Try.func74 rfl Try.ntmps74 (Ah rfl) (args := [v0]) fun q0 F0 => ?_
 unfold provisoref19_sure at H
 refine Ai <| Al <| Ak F0 (Aa (Am rfl) <| Ad) fun q3 F4 => Aj <| Ab <| Ai <| Al ?_
 obtain ⟨x0, h0, H⟩ := Aq H
 refine Ak F4 (Aa (Ae rfl) <| Ad) fun _ F => Bi (args := [.tmp 7]) F Fx.fn102 rfl (provisoref19_led_c (a0 := a0)   (hr0.pass0 s0) h0) rfl fun v1 w0 _ h1 F => ?_
 obtain ⟨_, rfl, h2⟩ := h1
 have s1 := s0.add h2
 refine Ak F (Aa (Am rfl) <| Ad) fun _ F => Aj <| Ab <| Ai <| Al ?_
 obtain ⟨x1, h3, H⟩ := Aq H
 refine Ak F (Aa (Ae rfl) <| Aa (Cd rfl Try.underlying126 (Cc (Cu hr0 s1))) <| Ad) fun _ F => st_make Flat.bool false F s1 Fx.sl93 rfl rfl Fx.zero4 rfl rfl rfl h3 rfl fun v2 w1 _ F s2 => Ak F (Aa (Am rfl) <| Ad) fun _ F => Aj <| Ab <| Ai <| Al ?_
 refine Cm (parts := []) F_provisoref19_ins ([] : List S_provisoref19_ins) F s2 Fx.sl126 rfl (by decide) rfl rfl rfl (by simp [Value.cells]) rfl rfl rfl fun v3 w2 _ F s3 => ?_
 obtain ⟨x2, h4, H⟩ := Aq H
 refine Ak F (Aa (Ae rfl) <| Ad) fun _ F => ?_
 have s4 := s3
 obtain ⟨_, hr_⟩ := (Cu hr0 s4)
 refine Ch F_provisoref19_ins F s4 Fx.sl126 rfl rfl rfl rfl hr_ rfl rfl h4 rfl fun v4 w3 _ F s5 => Ak F (Aa (Am rfl) <| Ad) fun _ F => Aj <| Ab <| Ai <| Ai <| Al <| Ak F (Aa (Am rfl) <| Ad) fun _ F => Aj <| Ab ?_
 obtain ⟨o0, H0, R0⟩ := Aq H
 clear H
 refine Bx (fun a w_ => ∃ v5 v6 : Value, Fr a 72 [(4, v5), (5, v6)] ∧ SL w [] w_ [Sl Ty.bool v5 o0.1, Sl T_provisoref19_ins v6 o0.2]) ?_ ?_
 ·have H := H0
  refine Be <| Cq (provisoref19_sure_b0 a0 x0) (fun s6 a w_ => ∃ v7 v8 : Value, Fr a 72 [(0, v0), (3, v1), (4, v7), (5, v8), (6, .int .i64 s6.2.2)] ∧ SL w [] w_ [Sl Ty.bool v1 x0, Sl Ty.bool v7 s6.1, Sl T_provisoref19_ins v8 s6.2.1]) H ?_ ?_
  ·exact ⟨v2, v4, F.sub ⟨rfl, rfl, rfl, rfl, rfl, trivial⟩, s5.f1.f2⟩
  intro s6 _ w4 h5 o1 H hr
  obtain ⟨v7, v8, F, s7⟩ := h5
  replace H : provisoref19_sure_b0 a0 x0 s6 = some o1 := H
  unfold provisoref19_sure_b0 at H
  refine Ai <| Ai <| Al <| Ak F (Aa (Ae rfl) <| Aa (Bp rfl rfl) <| Aa (Ae rfl) <| Aa (Cd rfl Try.underlying126 (Cc (Cu hr0 s7))) <| Aa (Cn rfl rfl) <| Ad) fun _ F => Aj <| Ab <| Bm F rfl (fun h6 => ?_) (fun h6 => ?_)
  ·replace H := Bb h6 H
   refine Aw <| Ab <| Ai <| Be <| Ai <| Ai <| Al ?_
   obtain ⟨x3, h7, H⟩ := Aq H
   obtain ⟨a2, h8, h9⟩ := Dc F_provisoref19_ins (Cu hr0 s7) Fx.sl126 rfl h7
   refine Ak F (Aa (Ae rfl) <| Aa (Ae rfl) <| Aa (h8 _ _ _ _ _ _ _ _ _ _ rfl rfl) <| Aa (Cw Fx.fa156_0 rfl) <| Aa (Ba Fx.nag5 rfl (Cells.at_ h9 (o := 0) rfl)) <| Aa (Dd rfl rfl) <| Aa (Ae rfl) <| Ad) fun _ F => Bl ((x3.op.toNat : Int) != 2) (fun ha => ?_) (fun ha => ?_)
   ·replace H := Bb ha H
    refine Ap F rfl rfl (An rfl ha) Ac rfl rfl fun _ F => Ap F rfl rfl (An rfl ha) Ac rfl rfl fun _ F => Ap F rfl rfl (An rfl ha) Ac rfl rfl fun _ F => Ap F rfl rfl (An rfl ha) Ac rfl rfl fun _ F => Ap F rfl rfl (An rfl ha) Ac rfl rfl fun _ F => Ap F rfl rfl (An rfl ha) Ac rfl rfl fun _ F => Ap F rfl rfl (An rfl ha) Ac rfl rfl fun _ F => Ak F (Aa (Bh (Cb rfl ha) rfl) <| Aa (Ae rfl) <| Ad) fun _ F => Ap F rfl rfl rfl Ac rfl rfl fun _ F => Ap F rfl rfl rfl Ac rfl rfl fun _ F => Ap F rfl rfl rfl Ac rfl rfl fun _ F => Ap F rfl rfl rfl Ac rfl rfl fun _ F => Ap F rfl rfl rfl Ac rfl rfl fun _ F => Ak F (Aa (Bh rfl rfl) <| Ad) fun _ F => Aj <| Ab <| Cy F rfl <| Bz <| Bo <| Ca <| Ab <| Al <| Ak F (Aa (Ae rfl) <| Aa (Bp rfl rfl) <| Aa (Am rfl) <| Ad) fun _ F => ?_
    refine Aj ?_
    obtain rfl := Ao H
    refine Ab ?_
    exact ⟨_, rfl, v7, v8, F.sub ⟨rfl, rfl, rfl, rfl, rfl, trivial⟩, s7⟩
   replace H := Bc ha H
   refine Ar F rfl rfl (An rfl ha) (Ae rfl) rfl rfl fun _ F => Ar F rfl rfl (An rfl ha) (Ae rfl) rfl rfl fun _ F => Ar F rfl rfl (An rfl ha) (Bp rfl rfl) rfl rfl fun _ F => ?_
   obtain ⟨x4, hb, H⟩ := Aq H
   obtain ⟨a3, hc, hd⟩ := Dc F_provisoref19_ins (Cu hr0 s7) Fx.sl126 rfl hb
   refine Ar F rfl rfl (An rfl ha) (hc _ _ _ _ _ _ _ _ _ _ rfl rfl) rfl rfl fun _ F => Ar F rfl rfl (An rfl ha) (Cw Fx.fa156_0 rfl) rfl rfl fun _ F => Ar F rfl rfl (An rfl ha) (Ba Fx.nag5 rfl (Cells.at_ hd (o := 0) rfl)) rfl rfl fun _ F => Ar F rfl rfl (An rfl ha) (Dd rfl rfl) rfl rfl fun _ F => Ak F (Aa (Bj (Cb rfl ha) rfl) <| Aa (Ae rfl) <| Ad) fun _ F => Bl ((x4.op.toNat : Int) != 20) (fun he => ?_) (fun he => ?_)
   ·replace H := Bb he H
    refine Ap F rfl rfl (An rfl he) Ac rfl rfl fun _ F => Ap F rfl rfl (An rfl he) Ac rfl rfl fun _ F => Ap F rfl rfl (An rfl he) Ac rfl rfl fun _ F => Ap F rfl rfl (An rfl he) Ac rfl rfl fun _ F => Ap F rfl rfl (An rfl he) Ac rfl rfl fun _ F => Ak F (Aa (Bh (Cb rfl he) rfl) <| Ad) fun _ F => Aj <| Ab <| Cy F rfl <| Bz <| Bo <| Ca <| Ab <| Al <| Ak F (Aa (Ae rfl) <| Aa (Bp rfl rfl) <| Aa (Am rfl) <| Ad) fun _ F => Aj ?_
    obtain rfl := Ao H
    refine Ab ?_
    exact ⟨_, rfl, v7, v8, F.sub ⟨rfl, rfl, rfl, rfl, rfl, trivial⟩, s7⟩
   replace H := Bc he H
   refine Ar F rfl rfl (An rfl he) (Ae rfl) rfl rfl fun _ F => Ar F rfl rfl (An rfl he) (Ae rfl) rfl rfl fun _ F => Ar F rfl rfl (An rfl he) (Bp rfl rfl) rfl rfl fun _ F => ?_
   obtain ⟨x5, hf, H⟩ := Aq H
   obtain ⟨a4, hg, hh⟩ := Cf Flat.bool s7 (.head _) Fx.sl93 rfl hf
   refine Ar F rfl rfl (An rfl he) (hg _ _ _ _ _ _ _ _ _ _ rfl rfl) rfl rfl fun _ F => Ar F rfl rfl (An rfl he) (Ba Fx.nag4 rfl (Cells.at_ (SL.elcells Flat.bool s7 (.head _) hh hf) (o := 0) rfl)) rfl rfl fun _ F => Ak F (Aa (Bj (Cb rfl he) rfl) <| Ad) fun _ F => Aj <| Ab <| Bm F rfl (fun hi => ?_) (fun hi => ?_)
   ·replace H := Bb hi H
    refine Bz <| Bo <| Ca <| Ab <| Al <| Ak F (Aa (Ae rfl) <| Aa (Bp rfl rfl) <| Aa (Am rfl) <| Ad) fun _ F => Aj ?_
    obtain rfl := Ao H
    refine Ab ?_
    exact ⟨_, rfl, v7, v8, F.sub ⟨rfl, rfl, rfl, rfl, rfl, trivial⟩, s7⟩
   replace H := Bc hi H
   refine Aw <| Ab <| Ai <| Al ?_
   obtain ⟨x6, hj, H⟩ := Aq H
   obtain ⟨a5, hk, hl⟩ := Cf Flat.bool s7 (.tail _ <| .head _) Fx.sl93 rfl hj
   refine Ak F (Aa (Ae rfl) <| Aa (Ae rfl) <| Aa (Bp rfl rfl) <| Aa (hk _ _ _ _ _ _ _ _ _ _ rfl rfl) <| Ad) fun _ F => ?_
   refine Cr (y' := true) Flat.bool F s7.f1 hl hj rfl rfl (by rfl) Fx.sz4 fun w5 _ F s8 => ?_
   refine Aj <| Ab <| Ai <| Ai <| Al ?_
   obtain ⟨x7, hm, H⟩ := Aq H
   obtain ⟨a6, hn, ho⟩ := Dc F_provisoref19_ins (Cu hr0 s8) Fx.sl126 rfl hm
   refine Ak F (Aa (Ae rfl) <| Aa (Ae rfl) <| Aa (hn _ _ _ _ _ _ _ _ _ _ rfl rfl) <| Aa (Cw Fx.fa156_1 rfl) <| Aa (Ba Fx.nag3 rfl (Cells.at_ ho (o := 1) rfl)) <| Aa (Bw rfl rfl) <| Ad) fun _ F => Aj <| Ab <| Bm F rfl (fun hp => ?_) (fun hp => ?_)
   ·replace H := Bb hp H
    refine Al ?_
    obtain ⟨x8, hq, H⟩ := Aq H
    obtain ⟨a7, hs, ht⟩ := Cf Flat.bool s8 (.head _) Fx.sl93 rfl hq
    refine Ak F (Aa (Ae rfl) <| Aa (Ae rfl) <| Aa (hs _ _ _ _ _ _ _ _ _ _ rfl rfl) <| Ad) fun _ F => ?_
    refine Cr (y' := true) Flat.bool F s8 ht hq rfl rfl (by rfl) Fx.sz4 fun w6 _ F s9 => ?_
    refine Aj <| Ab <| Al <| Ak F (Aa (Ae rfl) <| Aa (Bp rfl rfl) <| Aa (Am rfl) <| Ad) fun _ F => Aj <| By <| Ab <| Al <| Ak F (Aa (Ae rfl) <| Aa (Bp rfl rfl) <| Aa (Am rfl) <| Ad) fun _ F => Aj ?_
    obtain rfl := Ao H
    refine Ab ?_
    exact ⟨_, rfl, v7, v8, F.sub ⟨rfl, rfl, rfl, rfl, rfl, trivial⟩, s9.f2.f1.f2⟩
   replace H := Bc hp H
   refine Al ?_
   obtain ⟨x9, hu, H⟩ := Aq H
   obtain ⟨a8, hv, hw⟩ := Dc F_provisoref19_ins (Cu hr0 s8) Fx.sl126 rfl hu
   obtain ⟨xa, hx, H⟩ := Aq H
   obtain ⟨a9, hy, hz⟩ := Cf F_provisoref19_ins s8 (.tail _ <| .tail _ <| .head _) Fx.sl126 rfl hx
   refine Ak F (Aa (Ae rfl) <| Aa (Ae rfl) <| Aa (Ae rfl) <| Aa (Ae rfl) <| Aa (Bp rfl rfl) <| Aa (hv _ _ _ _ _ _ _ _ _ _ rfl rfl) <| Aa (Cw Fx.fa156_3 rfl) <| Aa (Ba Fx.nag3 rfl (Cells.at_ hw (o := 3) rfl)) <| Aa (Co (vs := [.int .u8 19, .int .i64 x9.to]) Fx.zero156 Fx.pl156 rfl (cs := [.int .u8 19, .int .i64 0, .int .i64 0, .int .i64 x9.to]) (rfl)) <| Aa (hy _ _ _ _ _ _ _ _ _ _ rfl rfl) <| Ad) fun _ F => ?_
   refine Cr (y' := (⟨19, 0, 0, x9.to⟩ : S_provisoref19_ins)) F_provisoref19_ins F s8.f2 hz hx rfl rfl (by rfl) Fx.sz156 fun w7 _ F sa => ?_
   refine Aj <| Ab <| Al <| Ak F (Aa (Ae rfl) <| Aa (Bp rfl rfl) <| Aa (Am rfl) <| Ad) fun _ F => Aj <| By <| Ab <| Al <| Ak F (Aa (Ae rfl) <| Aa (Bp rfl rfl) <| Aa (Am rfl) <| Ad) fun _ F => Aj ?_
   obtain rfl := Ao H
   refine Ab ?_
   exact ⟨_, rfl, v7, v8, F.sub ⟨rfl, rfl, rfl, rfl, rfl, trivial⟩, sa.f1.f2⟩
  replace H := Bc h6 H
  refine Bz <| Bo <| Bo <| Ca ?_
  obtain rfl := Ao H
  obtain rfl := hr _ rfl
  refine Ab ?_
  exact ⟨v7, v8, F.sub ⟨rfl, rfl, trivial⟩, s7.drop⟩
 intro _ w8 hJ
 obtain ⟨v5, v6, F, sb⟩ := hJ
 have H := R0
 clear R0 H0
 refine Ab <| Ai <| Al ?_
 obtain ⟨xb, h10, H⟩ := Aq H
 refine Ak F (Aa (Ae rfl) <| Aa (Ae rfl) <| Ad) fun _ F => Bi (args := [.tmp 69, .tmp 70]) F Fx.fn103 rfl (provisoref19_left_c (a0 := o0.2) (a1 := o0.1)   (sb.rd0 (.tail _ <| .head _)) (sb.rd0 (.head _)) h10) rfl fun v9 w9 _ h11 F => ?_
 obtain ⟨_, rfl, h12⟩ := h11
 have sc := sb.add h12
 refine Ak F (Aa (Am rfl) <| Ad) fun _ F => Aj <| Ab ?_
 obtain rfl := Ao H
 refine Bf ?_
 refine Ax (rs := [.tmp 2]) (vs := [v9]) F (by rfl) ⟨_, _, rfl, Ay rfl, rfl⟩ ⟨_, rfl, ⟨v9, rfl, sc.f1.drop.f1.drop⟩⟩
-- proviso/provisoref15.Wrap
theorem provisoref15_Wrap_c {w : World} {a0 : Int} {r : Int}  (H : provisoref15_Wrap a0 = some r) :
    Calls Try.prog 117 #[.int .i64 a0] w (Ret fun u_ w_ => u_ = .int .i64 r ∧ SL w [] w_ []) := by
 have s0 : SL w [] w [] := SL.init0 w
 refine Bq Try.func117 rfl Try.ntmps117 (Ah rfl) (args := [.int .i64 a0]) fun q0 F0 => ?_
 unfold provisoref15_Wrap at H
 refine Ai <| Al <| Ak F0 (Aa (Am rfl) <| Ad) fun q3 F4 => Aj <| Ab <| Ai <| Al <| Ak F4 (Aa (Ae rfl) <| Aa (ex_conv rfl Try.underlying3 Try.underlying21) <| Aa (ex_conv rfl Try.underlying21 Try.underlying3) <| Aa (Am rfl) <| Ad) fun q7 F8 => Aj <| Ab ?_
 obtain rfl := Ao H
 refine Bf ?_
 refine Ax (rs := [.tmp 2]) (vs := [.int .i64 (wr (IntKind.i32.wrap a0))]) F8 (by rfl) ⟨_, _, rfl, Ay rfl, rfl⟩ ⟨_, rfl, ⟨rfl, s0⟩⟩
-- proviso/provisoref19.truth
theorem provisoref19_truth_c {w : World} {a0 : Bool} {r : S_provisoref19_ins}  (H : provisoref19_truth a0 = some r) :
    Calls Try.prog 118 #[.bool a0] w (Ret fun u_ w_ => u_ = .agg ⟨[.int .u8 (r.op.toNat : Int), .int .i64 r.a, .int .i64 r.b, .int .i64 r.to]⟩ ∧ SL w [] w_ []) := by
 have s0 : SL w [] w [] := SL.init0 w
 refine Bq Try.func118 rfl Try.ntmps118 (Ah rfl) (args := [.bool a0]) fun q0 F0 => ?_
 unfold provisoref19_truth at H
 refine Ai <| Al <| Bu F0 s0 Fx.zero156 rfl rfl fun g7 w8 q9 F s1 => Aj <| Ab <| Ai <| Al <| Ak F (Aa (Co (vs := [.int .u8 2, .int .i64 (-1)]) Fx.zero156 Fx.pl156 rfl (cs := [.int .u8 2, .int .i64 0, .int .i64 0, .int .i64 (-1)]) (rfl)) <| Ad) fun _ F => Bu F s1 Fx.zero156 rfl rfl fun g0 w0 _ F s2 => ?_
 have s3 := s2
 refine Au F s3 rfl rfl Fx.sz156 (Af rfl (Af rfl (Af rfl (Af rfl Bd)))) (Ah rfl) fun w1 _ F s4 => ?_
 replace s4 : SL w [] w1 [Blk g0 156 [.int .u8 2, .int .i64 0, .int .i64 0, .int .i64 (-1)], Blk g7 156 [.int .u8 0, .int .i64 0, .int .i64 0, .int .i64 0]] := s4
 refine Aj <| Ab <| Ai <| Ai <| Al <| Ak F (Aa (Ae rfl) <| Ad) fun _ F => Aj <| Ab <| Bm F rfl (fun h0 => ?_) (fun h0 => ?_)
 ·replace H := Bb h0 H
  refine Al <| Ak F (Aa (Az Fx.fa156_1 rfl rfl) <| Ad) fun _ F => ?_
  have s5 := s4
  refine Ct F s5 rfl rfl Fx.sz3 rfl rfl rfl fun w2 _ F s6 => ?_
  replace s6 : SL w [] w2 [Blk g0 156 [.int .u8 2, .int .i64 1, .int .i64 0, .int .i64 (-1)], Blk g7 156 [.int .u8 0, .int .i64 0, .int .i64 0, .int .i64 0]] := s6
  refine Aj <| Ab <| Ai <| Al <| Ak F (Aa (Bn Fx.agg156 rfl (s6.blk_cells (.head _) (o := 0) (ds := [.int .u8 2, .int .i64 1, .int .i64 0, .int .i64 (-1)]) (fun j u hu => by rw [Nat.zero_add]; exact hu)) rfl) <| Ad) fun _ F => ?_
  have s7 := s6.f1
  refine Au F s7 rfl rfl Fx.sz156 (Af rfl (Af rfl (Af rfl (Af rfl Bd)))) (Ah rfl) fun w3 _ F s8 => ?_
  replace s8 : SL w [] w3 [Blk g7 156 [.int .u8 2, .int .i64 1, .int .i64 0, .int .i64 (-1)], Blk g0 156 [.int .u8 2, .int .i64 1, .int .i64 0, .int .i64 (-1)]] := s8
  refine Aj <| Ab ?_
  obtain rfl := Ao H
  refine Bf ?_
  refine Ax (rs := [.cell 2 156]) (vs := [.agg ⟨[.int .u8 2, .int .i64 1, .int .i64 0, .int .i64 (-1)]⟩]) F (by rfl) ⟨_, _, rfl, Ci s8 (.head _) rfl Fx.agg156 rfl, rfl⟩ ⟨_, rfl, ⟨rfl, s8.drop.drop⟩⟩
 replace H := Bc h0 H
 refine Aw <| Ab <| Ai <| Al <| Ak F (Aa (Bn Fx.agg156 rfl (s4.blk_cells (.head _) (o := 0) (ds := [.int .u8 2, .int .i64 0, .int .i64 0, .int .i64 (-1)]) (fun j u hu => by rw [Nat.zero_add]; exact hu)) rfl) <| Ad) fun _ F => ?_
 have s9 := s4.f1
 refine Au F s9 rfl rfl Fx.sz156 (Af rfl (Af rfl (Af rfl (Af rfl Bd)))) (Ah rfl) fun w4 _ F sa => ?_
 replace sa : SL w [] w4 [Blk g7 156 [.int .u8 2, .int .i64 0, .int .i64 0, .int .i64 (-1)], Blk g0 156 [.int .u8 2, .int .i64 0, .int .i64 0, .int .i64 (-1)]] := sa
 refine Aj <| Ab ?_
 obtain rfl := Ao H
 refine Bf ?_
 refine Ax (rs := [.cell 2 156]) (vs := [.agg ⟨[.int .u8 2, .int .i64 0, .int .i64 0, .int .i64 (-1)]⟩]) F (by rfl) ⟨_, _, rfl, Ci sa (.head _) rfl Fx.agg156 rfl, rfl⟩ ⟨_, rfl, ⟨rfl, sa.drop.drop⟩⟩
-- proviso/provisoref19.three
theorem provisoref19_three_c {w : World} {a0 : S_provisoref19_ins} {a1 : S_provisoref19_ins} {a2 : S_provisoref19_ins} {r : S_provisoref19_ins × Bool}  (H : provisoref19_three a0 a1 a2 = some r) :
    Calls Try.prog 104 #[.agg ⟨[.int .u8 (a0.op.toNat : Int), .int .i64 a0.a, .int .i64 a0.b, .int .i64 a0.to]⟩, .agg ⟨[.int .u8 (a1.op.toNat : Int), .int .i64 a1.a, .int .i64 a1.b, .int .i64 a1.to]⟩, .agg ⟨[.int .u8 (a2.op.toNat : Int), .int .i64 a2.a, .int .i64 a2.b, .int .i64 a2.to]⟩] w (Ret fun u_ w_ => u_ = .tuple ⟨[.agg ⟨[.int .u8 (r.1.op.toNat : Int), .int .i64 r.1.a, .int .i64 r.1.b, .int .i64 r.1.to]⟩, .bool r.2]⟩ ∧ SL w [] w_ []) := by
 have s0 : SL w [] w [] := SL.init0 w
 refine Bq Try.func104 rfl Try.ntmps104 (Ah rfl) (args := [.agg ⟨[.int .u8 (a0.op.toNat : Int), .int .i64 a0.a, .int .i64 a0.b, .int .i64 a0.to]⟩, .agg ⟨[.int .u8 (a1.op.toNat : Int), .int .i64 a1.a, .int .i64 a1.b, .int .i64 a1.to]⟩, .agg ⟨[.int .u8 (a2.op.toNat : Int), .int .i64 a2.a, .int .i64 a2.b, .int .i64 a2.to]⟩]) fun q0 F0 => ?_
 unfold provisoref19_three at H
 refine Ai <| Al <| Cz F0 s0 rfl rfl rfl fun g0 w0 _ F s1 => Cz F s1 rfl rfl rfl fun g1 w1 _ F s2 => Cz F s2 rfl rfl rfl fun g2 w2 _ F s3 => Bu F s3 Fx.zero156 rfl rfl fun g3 w3 _ F s4 => Ak F (Aa (Am rfl) <| Ad) fun _ F => Aj <| Ab <| Ai ?_
 obtain ⟨o0, H0, R0⟩ := Aq H
 clear H
 refine Bx (fun a w_ => Fr a 99 [(3, .pointer (some ⟨g0, 0, none⟩)), (4, .pointer (some ⟨g1, 0, none⟩)), (5, .pointer (some ⟨g2, 0, none⟩)), (6, .pointer (some ⟨g3, 0, none⟩)), (8, .bool o0)] ∧ SL w [] w_ [Blk g3 156 [.int .u8 0, .int .i64 0, .int .i64 0, .int .i64 0], Blk g2 156 [.int .u8 (a2.op.toNat : Int), .int .i64 a2.a, .int .i64 a2.b, .int .i64 a2.to], Blk g1 156 [.int .u8 (a1.op.toNat : Int), .int .i64 a1.a, .int .i64 a1.b, .int .i64 a1.to], Blk g0 156 [.int .u8 (a0.op.toNat : Int), .int .i64 a0.a, .int .i64 a0.b, .int .i64 a0.to]]) ?_ ?_
 ·have H := H0
  refine Al <| Ak F (Aa (Az Fx.fa156_0 rfl rfl) <| Aa (Ba Fx.nag5 rfl (s4.blk_cell (.tail _ <| .tail _ <| .tail _ <| .head _) rfl)) <| Aa (Bw rfl rfl) <| Aa (Ae rfl) <| Ad) fun _ F => Bl ((a0.op.toNat : Int) == 1) (fun h0 => ?_) (fun h0 => ?_)
  ·replace H := Bb h0 H
   refine Ar F rfl rfl (An rfl h0) (Az Fx.fa156_0 rfl rfl) rfl rfl fun _ F => Ar F rfl rfl (An rfl h0) (Ba Fx.nag5 rfl (s4.blk_cell (.tail _ <| .tail _ <| .head _) rfl)) rfl rfl fun _ F => Ar F rfl rfl (An rfl h0) (Bw rfl rfl) rfl rfl fun _ F => Ak F (Aa (Bh (Cb rfl h0) rfl) <| Aa (Am rfl) <| Ad) fun _ F => Aj ?_
   obtain rfl := Ao H
   refine Ab ?_
   exact ⟨F.sub ⟨rfl, rfl, rfl, rfl, rfl, trivial⟩, s4⟩
  replace H := Bc h0 H
  refine Ap F rfl rfl (An rfl h0) Ac rfl rfl fun _ F => Ap F rfl rfl (An rfl h0) Ac rfl rfl fun _ F => Ap F rfl rfl (An rfl h0) Ac rfl rfl fun _ F => Ak F (Aa (Bj (Cb rfl h0) rfl) <| Aa (Am rfl) <| Ad) fun _ F => Aj ?_
  obtain rfl := Ao H
  refine Ab ?_
  exact ⟨F.sub ⟨rfl, rfl, rfl, rfl, rfl, trivial⟩, s4⟩
 intro _ w4 hJ
 obtain ⟨F, s5⟩ := hJ
 have H := R0
 clear R0 H0
 refine Ab <| Ai <| Al <| Ak F (Aa (Co (vs := [.int .u8 1, .int .i64 (-1)]) Fx.zero156 Fx.pl156 rfl (cs := [.int .u8 1, .int .i64 0, .int .i64 0, .int .i64 (-1)]) (rfl)) <| Ad) fun _ F => Bu F s5 Fx.zero156 rfl rfl fun g4 w5 _ F s6 => ?_
 have s7 := s6
 refine Au F s7 rfl rfl Fx.sz156 (Af rfl (Af rfl (Af rfl (Af rfl Bd)))) (Ah rfl) fun w6 _ F s8 => ?_
 replace s8 : SL w [] w6 [Blk g4 156 [.int .u8 1, .int .i64 0, .int .i64 0, .int .i64 (-1)], Blk g3 156 [.int .u8 0, .int .i64 0, .int .i64 0, .int .i64 0], Blk g2 156 [.int .u8 (a2.op.toNat : Int), .int .i64 a2.a, .int .i64 a2.b, .int .i64 a2.to], Blk g1 156 [.int .u8 (a1.op.toNat : Int), .int .i64 a1.a, .int .i64 a1.b, .int .i64 a1.to], Blk g0 156 [.int .u8 (a0.op.toNat : Int), .int .i64 a0.a, .int .i64 a0.b, .int .i64 a0.to]] := s8
 refine Aj <| Ab <| Ai <| Be <| Ai <| Al <| Ak F (Aa (Ae rfl) <| Aa (Ae rfl) <| Ad) fun _ F => Bl o0 (fun h1 => ?_) (fun h1 => ?_)
 ·replace H := Bb h1 H
  refine Ar F rfl rfl (An rfl h1) (Az Fx.fa156_0 rfl rfl) rfl rfl fun _ F => Ar F rfl rfl (An rfl h1) (Ba Fx.nag5 rfl (s8.blk_cell (.tail _ <| .tail _ <| .head _) rfl)) rfl rfl fun _ F => Ar F rfl rfl (An rfl h1) (Bw rfl rfl) rfl rfl fun _ F => Ak F (Aa (Bh (Cb rfl h1) rfl) <| Aa (Am rfl) <| Ad) fun _ F => Aj <| Ab <| Bm F rfl (fun h2 => ?_) (fun h2 => ?_)
  ·replace H := Bb h2 H
   refine Al ?_
   obtain ⟨x0, h3, H⟩ := Aq H
   refine Ak F (Aa (Az Fx.fa156_1 rfl rfl) <| Aa (Ba Fx.nag3 rfl (s8.blk_cell (.tail _ <| .tail _ <| .tail _ <| .tail _ <| .head _) rfl)) <| Aa (Az Fx.fa156_1 rfl rfl) <| Aa (Ba Fx.nag3 rfl (s8.blk_cell (.tail _ <| .tail _ <| .tail _ <| .head _) rfl)) <| Aa (Bp rfl rfl) <| Ad) fun _ F => Bi (args := [.tmp 31]) F Fx.fn117 rfl (provisoref15_Wrap_c (a0 := wr (a0.a + a1.a))    h3) rfl fun v0 w7 _ h4 F => ?_
   obtain ⟨rfl, h5⟩ := h4
   have s9 := s8.add h5
   refine Ak F (Aa (Az Fx.fa156_1 rfl rfl) <| Ad) fun _ F => ?_
   have sa := s9
   refine Ct F sa rfl rfl Fx.sz3 rfl rfl rfl fun w8 _ F sb => ?_
   replace sb : SL w [] w8 [Blk g4 156 [.int .u8 1, .int .i64 x0, .int .i64 0, .int .i64 (-1)], Blk g3 156 [.int .u8 0, .int .i64 0, .int .i64 0, .int .i64 0], Blk g2 156 [.int .u8 (a2.op.toNat : Int), .int .i64 a2.a, .int .i64 a2.b, .int .i64 a2.to], Blk g1 156 [.int .u8 (a1.op.toNat : Int), .int .i64 a1.a, .int .i64 a1.b, .int .i64 a1.to], Blk g0 156 [.int .u8 (a0.op.toNat : Int), .int .i64 a0.a, .int .i64 a0.b, .int .i64 a0.to]] := sb
   refine Aj <| By <| Ab <| Ai <| Al <| Ak F (Aa (Bn Fx.agg156 rfl (sb.blk_cells (.head _) (o := 0) (ds := [.int .u8 1, .int .i64 x0, .int .i64 0, .int .i64 (-1)]) (fun j u hu => by rw [Nat.zero_add]; exact hu)) rfl) <| Ad) fun _ F => ?_
   have sc := sb.f1
   refine Au F sc rfl rfl Fx.sz156 (Af rfl (Af rfl (Af rfl (Af rfl Bd)))) (Ah rfl) fun w9 _ F sd => ?_
   replace sd : SL w [] w9 [Blk g3 156 [.int .u8 1, .int .i64 x0, .int .i64 0, .int .i64 (-1)], Blk g4 156 [.int .u8 1, .int .i64 x0, .int .i64 0, .int .i64 (-1)], Blk g2 156 [.int .u8 (a2.op.toNat : Int), .int .i64 a2.a, .int .i64 a2.b, .int .i64 a2.to], Blk g1 156 [.int .u8 (a1.op.toNat : Int), .int .i64 a1.a, .int .i64 a1.b, .int .i64 a1.to], Blk g0 156 [.int .u8 (a0.op.toNat : Int), .int .i64 a0.a, .int .i64 a0.b, .int .i64 a0.to]] := sd
   refine Ak F (Aa (Am rfl) <| Ad) fun _ F => Aj <| Ab ?_
   obtain rfl := Ao H
   refine Bf ?_
   refine Ax (rs := [.cell 6 156, .tmp 7]) (vs := [.agg ⟨[.int .u8 1, .int .i64 x0, .int .i64 0, .int .i64 (-1)]⟩, .bool true]) F (by rfl) ⟨_, _, rfl, Ci sd (.head _) rfl Fx.agg156 rfl, _, _, rfl, Ay rfl, rfl⟩ ⟨_, rfl, ⟨rfl, sd.drop.drop.drop.drop.drop⟩⟩
  replace H := Bc h2 H
  refine Ai <| Al <| Ak F (Aa (Ae rfl) <| Aa (Ae rfl) <| Ad) fun _ F => Ar F rfl rfl (An rfl h1) (Az Fx.fa156_0 rfl rfl) rfl rfl fun _ F => Ar F rfl rfl (An rfl h1) (Ba Fx.nag5 rfl (s8.blk_cell (.tail _ <| .tail _ <| .head _) rfl)) rfl rfl fun _ F => Ar F rfl rfl (An rfl h1) (Bw rfl rfl) rfl rfl fun _ F => Ak F (Aa (Bh (Cb rfl h1) rfl) <| Aa (Am rfl) <| Ad) fun _ F => Aj <| Ab <| Bm F rfl (fun h6 => ?_) (fun h6 => ?_)
  ·replace H := Bb h6 H
   refine Al ?_
   obtain ⟨x1, h7, H⟩ := Aq H
   refine Ak F (Aa (Az Fx.fa156_1 rfl rfl) <| Aa (Ba Fx.nag3 rfl (s8.blk_cell (.tail _ <| .tail _ <| .tail _ <| .tail _ <| .head _) rfl)) <| Aa (Az Fx.fa156_1 rfl rfl) <| Aa (Ba Fx.nag3 rfl (s8.blk_cell (.tail _ <| .tail _ <| .tail _ <| .head _) rfl)) <| Aa (ex_sub rfl rfl) <| Ad) fun _ F => Bi (args := [.tmp 45]) F Fx.fn117 rfl (provisoref15_Wrap_c (a0 := wr (a0.a - a1.a))    h7) rfl fun v1 wa _ h8 F => ?_
   obtain ⟨rfl, h9⟩ := h8
   have se := s8.add h9
   refine Ak F (Aa (Az Fx.fa156_1 rfl rfl) <| Ad) fun _ F => ?_
   have sf := se
   refine Ct F sf rfl rfl Fx.sz3 rfl rfl rfl fun wb _ F sg => ?_
   replace sg : SL w [] wb [Blk g4 156 [.int .u8 1, .int .i64 x1, .int .i64 0, .int .i64 (-1)], Blk g3 156 [.int .u8 0, .int .i64 0, .int .i64 0, .int .i64 0], Blk g2 156 [.int .u8 (a2.op.toNat : Int), .int .i64 a2.a, .int .i64 a2.b, .int .i64 a2.to], Blk g1 156 [.int .u8 (a1.op.toNat : Int), .int .i64 a1.a, .int .i64 a1.b, .int .i64 a1.to], Blk g0 156 [.int .u8 (a0.op.toNat : Int), .int .i64 a0.a, .int .i64 a0.b, .int .i64 a0.to]] := sg
   refine Aj <| By <| Ab <| Ai <| Al <| Ak F (Aa (Bn Fx.agg156 rfl (sg.blk_cells (.head _) (o := 0) (ds := [.int .u8 1, .int .i64 x1, .int .i64 0, .int .i64 (-1)]) (fun j u hu => by rw [Nat.zero_add]; exact hu)) rfl) <| Ad) fun _ F => ?_
   have sh := sg.f1
   refine Au F sh rfl rfl Fx.sz156 (Af rfl (Af rfl (Af rfl (Af rfl Bd)))) (Ah rfl) fun wc _ F si => ?_
   replace si : SL w [] wc [Blk g3 156 [.int .u8 1, .int .i64 x1, .int .i64 0, .int .i64 (-1)], Blk g4 156 [.int .u8 1, .int .i64 x1, .int .i64 0, .int .i64 (-1)], Blk g2 156 [.int .u8 (a2.op.toNat : Int), .int .i64 a2.a, .int .i64 a2.b, .int .i64 a2.to], Blk g1 156 [.int .u8 (a1.op.toNat : Int), .int .i64 a1.a, .int .i64 a1.b, .int .i64 a1.to], Blk g0 156 [.int .u8 (a0.op.toNat : Int), .int .i64 a0.a, .int .i64 a0.b, .int .i64 a0.to]] := si
   refine Ak F (Aa (Am rfl) <| Ad) fun _ F => Aj <| Ab ?_
   obtain rfl := Ao H
   refine Bf ?_
   refine Ax (rs := [.cell 6 156, .tmp 7]) (vs := [.agg ⟨[.int .u8 1, .int .i64 x1, .int .i64 0, .int .i64 (-1)]⟩, .bool true]) F (by rfl) ⟨_, _, rfl, Ci si (.head _) rfl Fx.agg156 rfl, _, _, rfl, Ay rfl, rfl⟩ ⟨_, rfl, ⟨rfl, si.drop.drop.drop.drop.drop⟩⟩
  replace H := Bc h6 H
  refine Ai <| Al <| Ak F (Aa (Ae rfl) <| Aa (Ae rfl) <| Ad) fun _ F => Ar F rfl rfl (An rfl h1) (Az Fx.fa156_0 rfl rfl) rfl rfl fun _ F => Ar F rfl rfl (An rfl h1) (Ba Fx.nag5 rfl (s8.blk_cell (.tail _ <| .tail _ <| .head _) rfl)) rfl rfl fun _ F => Ar F rfl rfl (An rfl h1) (Bw rfl rfl) rfl rfl fun _ F => Ak F (Aa (Bh (Cb rfl h1) rfl) <| Aa (Am rfl) <| Ad) fun _ F => Aj <| Ab <| Bm F rfl (fun ha => ?_) (fun ha => ?_)
  ·replace H := Bb ha H
   refine Al ?_
   obtain ⟨x2, hb, H⟩ := Aq H
   refine Ak F (Aa (Az Fx.fa156_1 rfl rfl) <| Aa (Ba Fx.nag3 rfl (s8.blk_cell (.tail _ <| .tail _ <| .tail _ <| .tail _ <| .head _) rfl)) <| Aa (Az Fx.fa156_1 rfl rfl) <| Aa (Ba Fx.nag3 rfl (s8.blk_cell (.tail _ <| .tail _ <| .tail _ <| .head _) rfl)) <| Aa (ex_mul rfl rfl) <| Ad) fun _ F => Bi (args := [.tmp 59]) F Fx.fn117 rfl (provisoref15_Wrap_c (a0 := wr (a0.a * a1.a))    hb) rfl fun v2 wd _ hc F => ?_
   obtain ⟨rfl, hd⟩ := hc
   have sj := s8.add hd
   refine Ak F (Aa (Az Fx.fa156_1 rfl rfl) <| Ad) fun _ F => ?_
   have sk := sj
   refine Ct F sk rfl rfl Fx.sz3 rfl rfl rfl fun we _ F sl => ?_
   replace sl : SL w [] we [Blk g4 156 [.int .u8 1, .int .i64 x2, .int .i64 0, .int .i64 (-1)], Blk g3 156 [.int .u8 0, .int .i64 0, .int .i64 0, .int .i64 0], Blk g2 156 [.int .u8 (a2.op.toNat : Int), .int .i64 a2.a, .int .i64 a2.b, .int .i64 a2.to], Blk g1 156 [.int .u8 (a1.op.toNat : Int), .int .i64 a1.a, .int .i64 a1.b, .int .i64 a1.to], Blk g0 156 [.int .u8 (a0.op.toNat : Int), .int .i64 a0.a, .int .i64 a0.b, .int .i64 a0.to]] := sl
   refine Aj <| By <| Ab <| Ai <| Al <| Ak F (Aa (Bn Fx.agg156 rfl (sl.blk_cells (.head _) (o := 0) (ds := [.int .u8 1, .int .i64 x2, .int .i64 0, .int .i64 (-1)]) (fun j u hu => by rw [Nat.zero_add]; exact hu)) rfl) <| Ad) fun _ F => ?_
   have sm := sl.f1
   refine Au F sm rfl rfl Fx.sz156 (Af rfl (Af rfl (Af rfl (Af rfl Bd)))) (Ah rfl) fun wf _ F sn => ?_
   replace sn : SL w [] wf [Blk g3 156 [.int .u8 1, .int .i64 x2, .int .i64 0, .int .i64 (-1)], Blk g4 156 [.int .u8 1, .int .i64 x2, .int .i64 0, .int .i64 (-1)], Blk g2 156 [.int .u8 (a2.op.toNat : Int), .int .i64 a2.a, .int .i64 a2.b, .int .i64 a2.to], Blk g1 156 [.int .u8 (a1.op.toNat : Int), .int .i64 a1.a, .int .i64 a1.b, .int .i64 a1.to], Blk g0 156 [.int .u8 (a0.op.toNat : Int), .int .i64 a0.a, .int .i64 a0.b, .int .i64 a0.to]] := sn
   refine Ak F (Aa (Am rfl) <| Ad) fun _ F => Aj <| Ab ?_
   obtain rfl := Ao H
   refine Bf ?_
   refine Ax (rs := [.cell 6 156, .tmp 7]) (vs := [.agg ⟨[.int .u8 1, .int .i64 x2, .int .i64 0, .int .i64 (-1)]⟩, .bool true]) F (by rfl) ⟨_, _, rfl, Ci sn (.head _) rfl Fx.agg156 rfl, _, _, rfl, Ay rfl, rfl⟩ ⟨_, rfl, ⟨rfl, sn.drop.drop.drop.drop.drop⟩⟩
  replace H := Bc ha H
  refine Ai <| Al <| Ak F (Aa (Ae rfl) <| Aa (Ae rfl) <| Ad) fun _ F => Ar F rfl rfl (An rfl h1) (Az Fx.fa156_0 rfl rfl) rfl rfl fun _ F => Ar F rfl rfl (An rfl h1) (Ba Fx.nag5 rfl (s8.blk_cell (.tail _ <| .tail _ <| .head _) rfl)) rfl rfl fun _ F => Ar F rfl rfl (An rfl h1) (Bw rfl rfl) rfl rfl fun _ F => Ak F (Aa (Bh (Cb rfl h1) rfl) <| Aa (Am rfl) <| Ad) fun _ F => Aj <| Ab <| Bm F rfl (fun he => ?_) (fun he => ?_)
  ·replace H := Bb he H
   refine Ai <| Al ?_
   obtain ⟨x3, hf, H⟩ := Aq H
   refine Ak F (Aa (Az Fx.fa156_1 rfl rfl) <| Aa (Ba Fx.nag3 rfl (s8.blk_cell (.tail _ <| .tail _ <| .tail _ <| .tail _ <| .head _) rfl)) <| Aa (Az Fx.fa156_1 rfl rfl) <| Aa (Ba Fx.nag3 rfl (s8.blk_cell (.tail _ <| .tail _ <| .tail _ <| .head _) rfl)) <| Aa (Cn rfl rfl) <| Ad) fun _ F => Bi (args := [.tmp 73]) F Fx.fn118 rfl (provisoref19_truth_c (a0 := decide (a0.a < a1.a))    hf) rfl fun v3 wg _ hg F => ?_
   obtain ⟨rfl, hh⟩ := hg
   have so := s8.add hh
   have sp := so.f1
   refine Au F sp rfl rfl Fx.sz156 (Af rfl (Af rfl (Af rfl (Af rfl Bd)))) (Ah rfl) fun wh _ F sq => ?_
   replace sq : SL w [] wh [Blk g3 156 [.int .u8 (x3.op.toNat : Int), .int .i64 x3.a, .int .i64 x3.b, .int .i64 x3.to], Blk g4 156 [.int .u8 1, .int .i64 0, .int .i64 0, .int .i64 (-1)], Blk g2 156 [.int .u8 (a2.op.toNat : Int), .int .i64 a2.a, .int .i64 a2.b, .int .i64 a2.to], Blk g1 156 [.int .u8 (a1.op.toNat : Int), .int .i64 a1.a, .int .i64 a1.b, .int .i64 a1.to], Blk g0 156 [.int .u8 (a0.op.toNat : Int), .int .i64 a0.a, .int .i64 a0.b, .int .i64 a0.to]] := sq
   refine Ak F (Aa (Am rfl) <| Ad) fun _ F => Aj <| Ab ?_
   obtain rfl := Ao H
   refine Bf <| blk_r <| Bg ?_
   refine Ax (rs := [.cell 6 156, .tmp 7]) (vs := [.agg ⟨[.int .u8 (x3.op.toNat : Int), .int .i64 x3.a, .int .i64 x3.b, .int .i64 x3.to]⟩, .bool true]) F (by rfl) ⟨_, _, rfl, Ci sq (.head _) rfl Fx.agg156 rfl, _, _, rfl, Ay rfl, rfl⟩ ⟨_, rfl, ⟨rfl, sq.drop.drop.drop.drop.drop⟩⟩
  replace H := Bc he H
  refine Ai <| Al <| Ak F (Aa (Ae rfl) <| Aa (Ae rfl) <| Ad) fun _ F => Ap F rfl rfl (An rfl h1) Ac rfl rfl fun _ F => Ap F rfl rfl (An rfl h1) Ac rfl rfl fun _ F => Ap F rfl rfl (An rfl h1) Ac rfl rfl fun _ F => Ap F rfl rfl (An rfl h1) Ac rfl rfl fun _ F => Ce F rfl rfl rfl rfl rfl fun _ F => Ce F rfl rfl rfl rfl rfl fun _ F => Ce F rfl rfl rfl rfl rfl fun _ F => Ap F rfl rfl (An rfl h1) Ac rfl rfl fun _ F => Ak F (Aa (Bh (Cb rfl h1) rfl) <| Aa (Ae rfl) <| Ad) fun _ F => Ar F rfl rfl rfl (Az Fx.fa156_0 rfl rfl) rfl rfl fun _ F => Ar F rfl rfl rfl (Ba Fx.nag5 rfl (s8.blk_cell (.tail _ <| .tail _ <| .head _) rfl)) rfl rfl fun _ F => Ar F rfl rfl rfl (Bw rfl rfl) rfl rfl fun _ F => Ak F (Aa (Bh rfl rfl) <| Aa (Am rfl) <| Ad) fun _ F => Aj <| Ab <| Bm F rfl (fun hi => ?_) (fun hi => ?_)
  ·replace H := Bb hi H
   refine Ai <| Al ?_
   obtain ⟨x4, hj, H⟩ := Aq H
   refine Ak F (Aa (Az Fx.fa156_1 rfl rfl) <| Aa (Ba Fx.nag3 rfl (s8.blk_cell (.tail _ <| .tail _ <| .tail _ <| .tail _ <| .head _) rfl)) <| Aa (Az Fx.fa156_1 rfl rfl) <| Aa (Ba Fx.nag3 rfl (s8.blk_cell (.tail _ <| .tail _ <| .tail _ <| .head _) rfl)) <| Aa (Bw rfl rfl) <| Ad) fun _ F => Bi (args := [.tmp 96]) F Fx.fn118 rfl (provisoref19_truth_c (a0 := (a0.a == a1.a))    hj) rfl fun v4 wi _ hk F => ?_
   obtain ⟨rfl, hl⟩ := hk
   have sr := s8.add hl
   have ss := sr.f1
   refine Au F ss rfl rfl Fx.sz156 (Af rfl (Af rfl (Af rfl (Af rfl Bd)))) (Ah rfl) fun wj _ F st => ?_
   replace st : SL w [] wj [Blk g3 156 [.int .u8 (x4.op.toNat : Int), .int .i64 x4.a, .int .i64 x4.b, .int .i64 x4.to], Blk g4 156 [.int .u8 1, .int .i64 0, .int .i64 0, .int .i64 (-1)], Blk g2 156 [.int .u8 (a2.op.toNat : Int), .int .i64 a2.a, .int .i64 a2.b, .int .i64 a2.to], Blk g1 156 [.int .u8 (a1.op.toNat : Int), .int .i64 a1.a, .int .i64 a1.b, .int .i64 a1.to], Blk g0 156 [.int .u8 (a0.op.toNat : Int), .int .i64 a0.a, .int .i64 a0.b, .int .i64 a0.to]] := st
   refine Ak F (Aa (Am rfl) <| Ad) fun _ F => Aj <| Ab ?_
   obtain rfl := Ao H
   refine Bf <| blk_r <| Bg ?_
   refine Ax (rs := [.cell 6 156, .tmp 7]) (vs := [.agg ⟨[.int .u8 (x4.op.toNat : Int), .int .i64 x4.a, .int .i64 x4.b, .int .i64 x4.to]⟩, .bool true]) F (by rfl) ⟨_, _, rfl, Ci st (.head _) rfl Fx.agg156 rfl, _, _, rfl, Ay rfl, rfl⟩ ⟨_, rfl, ⟨rfl, st.drop.drop.drop.drop.drop⟩⟩
  replace H := Bc hi H
  refine Ai <| Al <| Ak F (Aa (Bn Fx.agg156 rfl (s8.blk_cells (.head _) (o := 0) (ds := [.int .u8 1, .int .i64 0, .int .i64 0, .int .i64 (-1)]) (fun j u hu => by rw [Nat.zero_add]; exact hu)) rfl) <| Ad) fun _ F => ?_
  have su := s8.f1
  refine Au F su rfl rfl Fx.sz156 (Af rfl (Af rfl (Af rfl (Af rfl Bd)))) (Ah rfl) fun wk _ F sv => ?_
  replace sv : SL w [] wk [Blk g3 156 [.int .u8 1, .int .i64 0, .int .i64 0, .int .i64 (-1)], Blk g4 156 [.int .u8 1, .int .i64 0, .int .i64 0, .int .i64 (-1)], Blk g2 156 [.int .u8 (a2.op.toNat : Int), .int .i64 a2.a, .int .i64 a2.b, .int .i64 a2.to], Blk g1 156 [.int .u8 (a1.op.toNat : Int), .int .i64 a1.a, .int .i64 a1.b, .int .i64 a1.to], Blk g0 156 [.int .u8 (a0.op.toNat : Int), .int .i64 a0.a, .int .i64 a0.b, .int .i64 a0.to]] := sv
  refine Ak F (Aa (Am rfl) <| Ad) fun _ F => Aj <| Ab ?_
  obtain rfl := Ao H
  refine Bf <| blk_r <| Bg ?_
  refine Ax (rs := [.cell 6 156, .tmp 7]) (vs := [.agg ⟨[.int .u8 1, .int .i64 0, .int .i64 0, .int .i64 (-1)]⟩, .bool false]) F (by rfl) ⟨_, _, rfl, Ci sv (.head _) rfl Fx.agg156 rfl, _, _, rfl, Ay rfl, rfl⟩ ⟨_, rfl, ⟨rfl, sv.drop.drop.drop.drop.drop⟩⟩
 replace H := Bc h1 H
 refine Ap F rfl rfl (An rfl h1) Ac rfl rfl fun _ F => Ap F rfl rfl (An rfl h1) Ac rfl rfl fun _ F => Ap F rfl rfl (An rfl h1) Ac rfl rfl fun _ F => Ak F (Aa (Bj (Cb rfl h1) rfl) <| Aa (Am rfl) <| Ad) fun _ F => Aj <| Ab <| Cl F rfl <| Ai <| Al <| Ak F (Aa (Ae rfl) <| Aa (Ae rfl) <| Ad) fun _ F => Ap F rfl rfl (An rfl h1) Ac rfl rfl fun _ F => Ap F rfl rfl (An rfl h1) Ac rfl rfl fun _ F => Ap F rfl rfl (An rfl h1) Ac rfl rfl fun _ F => Ak F (Aa (Bj (Cb rfl h1) rfl) <| Aa (Am rfl) <| Ad) fun _ F => Aj <| Ab <| Cl F rfl <| Ai <| Al <| Ak F (Aa (Ae rfl) <| Aa (Ae rfl) <| Ad) fun _ F => Ap F rfl rfl (An rfl h1) Ac rfl rfl fun _ F => Ap F rfl rfl (An rfl h1) Ac rfl rfl fun _ F => Ap F rfl rfl (An rfl h1) Ac rfl rfl fun _ F => Ak F (Aa (Bj (Cb rfl h1) rfl) <| Aa (Am rfl) <| Ad) fun _ F => ?_
 refine Aj <| Ab <| Cl F rfl <| Ai <| Al <| Ak F (Aa (Ae rfl) <| Aa (Ae rfl) <| Ad) fun _ F => Ap F rfl rfl (An rfl h1) Ac rfl rfl fun _ F => Ap F rfl rfl (An rfl h1) Ac rfl rfl fun _ F => Ap F rfl rfl (An rfl h1) Ac rfl rfl fun _ F => Ak F (Aa (Bj (Cb rfl h1) rfl) <| Aa (Am rfl) <| Ad) fun _ F => Aj <| Ab <| Cl F rfl <| Ai <| Al <| Ak F (Aa (Ae rfl) <| Aa (Ae rfl) <| Ad) fun _ F => Ar F rfl rfl (An rfl h1) (Az Fx.fa156_0 rfl rfl) rfl rfl fun _ F => Ar F rfl rfl (An rfl h1) (Ba Fx.nag5 rfl (s8.blk_cell (.tail _ <| .tail _ <| .tail _ <| .tail _ <| .head _) rfl)) rfl rfl fun _ F => Ar F rfl rfl (An rfl h1) (Bw rfl rfl) rfl rfl fun _ F => Ar F rfl rfl (An rfl h1) (Ae rfl) rfl rfl fun _ F => Bl ((a0.op.toNat : Int) == 2) (fun hm => ?_) (fun hm => ?_)
 ·replace H := Bb hm H
  refine Ar F rfl rfl (An rfl hm) (Az Fx.fa156_0 rfl rfl) rfl rfl fun _ F => Ar F rfl rfl (An rfl hm) (Ba Fx.nag5 rfl (s8.blk_cell (.tail _ <| .tail _ <| .tail _ <| .head _) rfl)) rfl rfl fun _ F => Ar F rfl rfl (An rfl hm) (Bw rfl rfl) rfl rfl fun _ F => Ar F rfl rfl (An rfl h1) (Bh (Cb rfl hm) rfl) rfl rfl fun _ F => Ak F (Aa (Bj (Cb rfl h1) rfl) <| Aa (Ae rfl) <| Ad) fun _ F => Bl ((a1.op.toNat : Int) == 2) (fun hn => ?_) (fun hn => ?_)
  ·replace H := Bb hn H
   refine Ar F rfl rfl (An rfl hn) (Az Fx.fa156_0 rfl rfl) rfl rfl fun _ F => Ar F rfl rfl (An rfl hn) (Ba Fx.nag5 rfl (s8.blk_cell (.tail _ <| .tail _ <| .head _) rfl)) rfl rfl fun _ F => Ar F rfl rfl (An rfl hn) (Bw rfl rfl) rfl rfl fun _ F => Ak F (Aa (Bh (Cb rfl hn) rfl) <| Aa (Am rfl) <| Ad) fun _ F => Aj <| Ab <| Bm F rfl (fun ho => ?_) (fun ho => ?_)
   ·replace H := Bb ho H
    refine Ai <| Al ?_
    obtain ⟨x5, hp, H⟩ := Aq H
    refine Ak F (Aa (Az Fx.fa156_1 rfl rfl) <| Aa (Ba Fx.nag3 rfl (s8.blk_cell (.tail _ <| .tail _ <| .tail _ <| .tail _ <| .head _) rfl)) <| Aa (Az Fx.fa156_1 rfl rfl) <| Aa (Ba Fx.nag3 rfl (s8.blk_cell (.tail _ <| .tail _ <| .tail _ <| .head _) rfl)) <| Aa (Bw rfl rfl) <| Ad) fun _ F => Bi (args := [.tmp 96]) F Fx.fn118 rfl (provisoref19_truth_c (a0 := (a0.a == a1.a))    hp) rfl fun v5 wl _ hq F => ?_
    obtain ⟨rfl, hr⟩ := hq
    have sw := s8.add hr
    have sx := sw.f1
    refine Au F sx rfl rfl Fx.sz156 (Af rfl (Af rfl (Af rfl (Af rfl Bd)))) (Ah rfl) fun wm _ F sy => ?_
    replace sy : SL w [] wm [Blk g3 156 [.int .u8 (x5.op.toNat : Int), .int .i64 x5.a, .int .i64 x5.b, .int .i64 x5.to], Blk g4 156 [.int .u8 1, .int .i64 0, .int .i64 0, .int .i64 (-1)], Blk g2 156 [.int .u8 (a2.op.toNat : Int), .int .i64 a2.a, .int .i64 a2.b, .int .i64 a2.to], Blk g1 156 [.int .u8 (a1.op.toNat : Int), .int .i64 a1.a, .int .i64 a1.b, .int .i64 a1.to], Blk g0 156 [.int .u8 (a0.op.toNat : Int), .int .i64 a0.a, .int .i64 a0.b, .int .i64 a0.to]] := sy
    refine Ak F (Aa (Am rfl) <| Ad) fun _ F => Aj <| Ab ?_
    obtain rfl := Ao H
    refine Bf <| blk_r <| Bg ?_
    refine Ax (rs := [.cell 6 156, .tmp 7]) (vs := [.agg ⟨[.int .u8 (x5.op.toNat : Int), .int .i64 x5.a, .int .i64 x5.b, .int .i64 x5.to]⟩, .bool true]) F (by rfl) ⟨_, _, rfl, Ci sy (.head _) rfl Fx.agg156 rfl, _, _, rfl, Ay rfl, rfl⟩ ⟨_, rfl, ⟨rfl, sy.drop.drop.drop.drop.drop⟩⟩
   replace H := Bc ho H
   refine Ai <| Al <| Ak F (Aa (Bn Fx.agg156 rfl (s8.blk_cells (.head _) (o := 0) (ds := [.int .u8 1, .int .i64 0, .int .i64 0, .int .i64 (-1)]) (fun j u hu => by rw [Nat.zero_add]; exact hu)) rfl) <| Ad) fun _ F => ?_
   have sz := s8.f1
   refine Au F sz rfl rfl Fx.sz156 (Af rfl (Af rfl (Af rfl (Af rfl Bd)))) (Ah rfl) fun wn _ F s10 => ?_
   replace s10 : SL w [] wn [Blk g3 156 [.int .u8 1, .int .i64 0, .int .i64 0, .int .i64 (-1)], Blk g4 156 [.int .u8 1, .int .i64 0, .int .i64 0, .int .i64 (-1)], Blk g2 156 [.int .u8 (a2.op.toNat : Int), .int .i64 a2.a, .int .i64 a2.b, .int .i64 a2.to], Blk g1 156 [.int .u8 (a1.op.toNat : Int), .int .i64 a1.a, .int .i64 a1.b, .int .i64 a1.to], Blk g0 156 [.int .u8 (a0.op.toNat : Int), .int .i64 a0.a, .int .i64 a0.b, .int .i64 a0.to]] := s10
   refine Ak F (Aa (Am rfl) <| Ad) fun _ F => Aj <| Ab ?_
   obtain rfl := Ao H
   refine Bf <| blk_r <| Bg ?_
   refine Ax (rs := [.cell 6 156, .tmp 7]) (vs := [.agg ⟨[.int .u8 1, .int .i64 0, .int .i64 0, .int .i64 (-1)]⟩, .bool false]) F (by rfl) ⟨_, _, rfl, Ci s10 (.head _) rfl Fx.agg156 rfl, _, _, rfl, Ay rfl, rfl⟩ ⟨_, rfl, ⟨rfl, s10.drop.drop.drop.drop.drop⟩⟩
  replace H := Bc hn H
  refine Ap F rfl rfl (An rfl hn) Ac rfl rfl fun _ F => Ap F rfl rfl (An rfl hn) Ac rfl rfl fun _ F => Ap F rfl rfl (An rfl hn) Ac rfl rfl fun _ F => Ak F (Aa (Bj (Cb rfl hn) rfl) <| Aa (Am rfl) <| Ad) fun _ F => Aj <| Ab <| Cl F rfl <| Ai <| Al <| Ak F (Aa (Bn Fx.agg156 rfl (s8.blk_cells (.head _) (o := 0) (ds := [.int .u8 1, .int .i64 0, .int .i64 0, .int .i64 (-1)]) (fun j u hu => by rw [Nat.zero_add]; exact hu)) rfl) <| Ad) fun _ F => ?_
  have s11 := s8.f1
  refine Au F s11 rfl rfl Fx.sz156 (Af rfl (Af rfl (Af rfl (Af rfl Bd)))) (Ah rfl) fun wo _ F s12 => ?_
  replace s12 : SL w [] wo [Blk g3 156 [.int .u8 1, .int .i64 0, .int .i64 0, .int .i64 (-1)], Blk g4 156 [.int .u8 1, .int .i64 0, .int .i64 0, .int .i64 (-1)], Blk g2 156 [.int .u8 (a2.op.toNat : Int), .int .i64 a2.a, .int .i64 a2.b, .int .i64 a2.to], Blk g1 156 [.int .u8 (a1.op.toNat : Int), .int .i64 a1.a, .int .i64 a1.b, .int .i64 a1.to], Blk g0 156 [.int .u8 (a0.op.toNat : Int), .int .i64 a0.a, .int .i64 a0.b, .int .i64 a0.to]] := s12
  refine Ak F (Aa (Am rfl) <| Ad) fun _ F => Aj <| Ab ?_
  obtain rfl := Ao H
  refine Bf <| blk_r <| Bg ?_
  refine Ax (rs := [.cell 6 156, .tmp 7]) (vs := [.agg ⟨[.int .u8 1, .int .i64 0, .int .i64 0, .int .i64 (-1)]⟩, .bool false]) F (by rfl) ⟨_, _, rfl, Ci s12 (.head _) rfl Fx.agg156 rfl, _, _, rfl, Ay rfl, rfl⟩ ⟨_, rfl, ⟨rfl, s12.drop.drop.drop.drop.drop⟩⟩
 replace H := Bc hm H
 refine Ap F rfl rfl (An rfl hm) Ac rfl rfl fun _ F => Ap F rfl rfl (An rfl hm) Ac rfl rfl fun _ F => Ap F rfl rfl (An rfl hm) Ac rfl rfl fun _ F => Ar F rfl rfl (An rfl h1) (Bj (Cb rfl hm) rfl) rfl rfl fun _ F => Ak F (Aa (Bj (Cb rfl h1) rfl) <| Aa (Ae rfl) <| Ad) fun _ F => Ap F rfl rfl rfl Ac rfl rfl fun _ F => Ap F rfl rfl rfl Ac rfl rfl fun _ F => Ap F rfl rfl rfl Ac rfl rfl fun _ F => Ak F (Aa (Bj rfl rfl) <| Aa (Am rfl) <| Ad) fun _ F => Aj <| Ab <| Cl F rfl <| Ai <| Al <| Ak F (Aa (Bn Fx.agg156 rfl (s8.blk_cells (.head _) (o := 0) (ds := [.int .u8 1, .int .i64 0, .int .i64 0, .int .i64 (-1)]) (fun j u hu => by rw [Nat.zero_add]; exact hu)) rfl) <| Ad) fun _ F => ?_
 have s13 := s8.f1
 refine Au F s13 rfl rfl Fx.sz156 (Af rfl (Af rfl (Af rfl (Af rfl Bd)))) (Ah rfl) fun wp _ F s14 => ?_
 replace s14 : SL w [] wp [Blk g3 156 [.int .u8 1, .int .i64 0, .int .i64 0, .int .i64 (-1)], Blk g4 156 [.int .u8 1, .int .i64 0, .int .i64 0, .int .i64 (-1)], Blk g2 156 [.int .u8 (a2.op.toNat : Int), .int .i64 a2.a, .int .i64 a2.b, .int .i64 a2.to], Blk g1 156 [.int .u8 (a1.op.toNat : Int), .int .i64 a1.a, .int .i64 a1.b, .int .i64 a1.to], Blk g0 156 [.int .u8 (a0.op.toNat : Int), .int .i64 a0.a, .int .i64 a0.b, .int .i64 a0.to]] := s14
 refine Ak F (Aa (Am rfl) <| Ad) fun _ F => Aj <| Ab ?_
 obtain rfl := Ao H
 refine Bf <| blk_r <| Bg ?_
 refine Ax (rs := [.cell 6 156, .tmp 7]) (vs := [.agg ⟨[.int .u8 1, .int .i64 0, .int .i64 0, .int .i64 (-1)]⟩, .bool false]) F (by rfl) ⟨_, _, rfl, Ci s14 (.head _) rfl Fx.agg156 rfl, _, _, rfl, Ay rfl, rfl⟩ ⟨_, rfl, ⟨rfl, s14.drop.drop.drop.drop.drop⟩⟩
-- proviso/provisoref19.two
theorem provisoref19_two_c {w : World} {a0 : S_provisoref19_ins} {a1 : S_provisoref19_ins} {r : S_provisoref19_ins × Bool}  (H : provisoref19_two a0 a1 = some r) :
    Calls Try.prog 105 #[.agg ⟨[.int .u8 (a0.op.toNat : Int), .int .i64 a0.a, .int .i64 a0.b, .int .i64 a0.to]⟩, .agg ⟨[.int .u8 (a1.op.toNat : Int), .int .i64 a1.a, .int .i64 a1.b, .int .i64 a1.to]⟩] w (Ret fun u_ w_ => u_ = .tuple ⟨[.agg ⟨[.int .u8 (r.1.op.toNat : Int), .int .i64 r.1.a, .int .i64 r.1.b, .int .i64 r.1.to]⟩, .bool r.2]⟩ ∧ SL w [] w_ []) := by
 have s0 : SL w [] w [] := SL.init0 w
 refine Bq Try.func105 rfl Try.ntmps105 (Ah rfl) (args := [.agg ⟨[.int .u8 (a0.op.toNat : Int), .int .i64 a0.a, .int .i64 a0.b, .int .i64 a0.to]⟩, .agg ⟨[.int .u8 (a1.op.toNat : Int), .int .i64 a1.a, .int .i64 a1.b, .int .i64 a1.to]⟩]) fun q0 F0 => ?_
 unfold provisoref19_two at H
 refine Ai <| Al <| Cz F0 s0 rfl rfl rfl fun g0 w0 _ F s1 => Cz F s1 rfl rfl rfl fun g1 w1 _ F s2 => Bu F s2 Fx.zero156 rfl rfl fun g2 w2 _ F s3 => Ak F (Aa (Am rfl) <| Ad) fun _ F => Aj <| Ab <| Ai <| Al <| Ak F (Aa (Co (vs := [.int .u8 0, .int .i64 (-1)]) Fx.zero156 Fx.pl156 rfl (cs := [.int .u8 0, .int .i64 0, .int .i64 0, .int .i64 (-1)]) (rfl)) <| Ad) fun _ F => Bu F s3 Fx.zero156 rfl rfl fun g3 w3 _ F s4 => ?_
 have s5 := s4
 refine Au F s5 rfl rfl Fx.sz156 (Af rfl (Af rfl (Af rfl (Af rfl Bd)))) (Ah rfl) fun w4 _ F s6 => ?_
 replace s6 : SL w [] w4 [Blk g3 156 [.int .u8 0, .int .i64 0, .int .i64 0, .int .i64 (-1)], Blk g2 156 [.int .u8 0, .int .i64 0, .int .i64 0, .int .i64 0], Blk g1 156 [.int .u8 (a1.op.toNat : Int), .int .i64 a1.a, .int .i64 a1.b, .int .i64 a1.to], Blk g0 156 [.int .u8 (a0.op.toNat : Int), .int .i64 a0.a, .int .i64 a0.b, .int .i64 a0.to]] := s6
 refine Aj <| Ab <| Ai ?_
 obtain ⟨o0, H0, R0⟩ := Aq H
 clear H
 refine Bx (fun a w_ => ∃ p0 : Unit, o0 = .inr (p0) ∧ Fr a 71 [(4, .pointer (some ⟨g2, 0, none⟩)), (6, .pointer (some ⟨g3, 0, none⟩))] ∧ SL w [] w_ [Blk g3 156 [.int .u8 0, .int .i64 0, .int .i64 0, .int .i64 (-1)], Blk g2 156 [.int .u8 0, .int .i64 0, .int .i64 0, .int .i64 0]]) ?_ ?_
 ·have H := H0
  refine Be <| Ai <| Al <| Ak F (Aa (Az Fx.fa156_0 rfl rfl) <| Aa (Ba Fx.nag5 rfl (s6.blk_cell (.tail _ <| .tail _ <| .tail _ <| .head _) rfl)) <| Aa (Bw rfl rfl) <| Aa (Ae rfl) <| Ad) fun _ F => Bl ((a0.op.toNat : Int) == 1) (fun h0 => ?_) (fun h0 => ?_)
  ·replace H := Bb h0 H
   refine Ar F rfl rfl (An rfl h0) (Az Fx.fa156_0 rfl rfl) rfl rfl fun _ F => Ar F rfl rfl (An rfl h0) (Ba Fx.nag5 rfl (s6.blk_cell (.tail _ <| .tail _ <| .head _) rfl)) rfl rfl fun _ F => Ar F rfl rfl (An rfl h0) (Bw rfl rfl) rfl rfl fun _ F => Ak F (Aa (Bh (Cb rfl h0) rfl) <| Aa (Am rfl) <| Ad) fun _ F => Aj <| Ab <| Bm F rfl (fun h1 => ?_) (fun h1 => ?_)
   ·replace H := Bb h1 H
    refine Ai <| Al ?_
    obtain ⟨x0, h2, H⟩ := Aq H
    refine Ak F (Aa (Az Fx.fa156_1 rfl rfl) <| Aa (Ba Fx.nag3 rfl (s6.blk_cell (.tail _ <| .tail _ <| .tail _ <| .head _) rfl)) <| Aa (ex_neg rfl) <| Ad) fun _ F => Bi (args := [.tmp 19]) F Fx.fn117 rfl (provisoref15_Wrap_c (a0 := wr (0 - a0.a))    h2) rfl fun v0 w5 _ h3 F => ?_
    obtain ⟨rfl, h4⟩ := h3
    have s7 := s6.add h4
    refine Ak F (Aa (Co (vs := [.int .u8 1, .int .i64 x0, .int .i64 (-1)]) Fx.zero156 Fx.pl156 rfl (cs := [.int .u8 1, .int .i64 x0, .int .i64 0, .int .i64 (-1)]) (rfl)) <| Ad) fun _ F => ?_
    have s8 := s7.f1
    refine Au F s8 rfl rfl Fx.sz156 (Af rfl (Af rfl (Af rfl (Af rfl Bd)))) (Ah rfl) fun w6 _ F s9 => ?_
    replace s9 : SL w [] w6 [Blk g2 156 [.int .u8 1, .int .i64 x0, .int .i64 0, .int .i64 (-1)], Blk g3 156 [.int .u8 0, .int .i64 0, .int .i64 0, .int .i64 (-1)], Blk g1 156 [.int .u8 (a1.op.toNat : Int), .int .i64 a1.a, .int .i64 a1.b, .int .i64 a1.to], Blk g0 156 [.int .u8 (a0.op.toNat : Int), .int .i64 a0.a, .int .i64 a0.b, .int .i64 a0.to]] := s9
    refine Ak F (Aa (Am rfl) <| Ad) fun _ F => Aj <| Ab ?_
    obtain rfl := Ao H
    replace H := R0
    try dsimp only at H
    obtain rfl := Ao H
    refine Bf <| blk_r <| Bg <| Bg ?_
    refine Ax (rs := [.cell 4 156, .tmp 5]) (vs := [.agg ⟨[.int .u8 1, .int .i64 x0, .int .i64 0, .int .i64 (-1)]⟩, .bool true]) F (by rfl) ⟨_, _, rfl, Ci s9 (.head _) rfl Fx.agg156 rfl, _, _, rfl, Ay rfl, rfl⟩ ⟨_, rfl, ⟨rfl, s9.drop.drop.drop.drop⟩⟩
   replace H := Bc h1 H
   refine Ai <| Al <| Ak F (Aa (Az Fx.fa156_0 rfl rfl) <| Aa (Ba Fx.nag5 rfl (s6.blk_cell (.tail _ <| .tail _ <| .tail _ <| .head _) rfl)) <| Aa (Bw rfl rfl) <| Aa (Ae rfl) <| Ad) fun _ F => Bl ((a0.op.toNat : Int) == 2) (fun h5 => ?_) (fun h5 => ?_)
   ·replace H := Bb h5 H
    refine Ar F rfl rfl (An rfl h5) (Az Fx.fa156_0 rfl rfl) rfl rfl fun _ F => Ar F rfl rfl (An rfl h5) (Ba Fx.nag5 rfl (s6.blk_cell (.tail _ <| .tail _ <| .head _) rfl)) rfl rfl fun _ F => Ar F rfl rfl (An rfl h5) (Bw rfl rfl) rfl rfl fun _ F => Ak F (Aa (Bh (Cb rfl h5) rfl) <| Aa (Am rfl) <| Ad) fun _ F => Aj <| Ab <| Bm F rfl (fun h6 => ?_) (fun h6 => ?_)
    ·replace H := Bb h6 H
     refine Ai <| Al ?_
     obtain ⟨x1, h7, H⟩ := Aq H
     refine Ak F (Aa (Az Fx.fa156_1 rfl rfl) <| Aa (Ba Fx.nag3 rfl (s6.blk_cell (.tail _ <| .tail _ <| .tail _ <| .head _) rfl)) <| Aa (Bw rfl rfl) <| Ad) fun _ F => Bi (args := [.tmp 33]) F Fx.fn118 rfl (provisoref19_truth_c (a0 := (a0.a == 0))    h7) rfl fun v1 w7 _ h8 F => ?_
     obtain ⟨rfl, h9⟩ := h8
     have sa := s6.add h9
     have sb := sa.f1
     refine Au F sb rfl rfl Fx.sz156 (Af rfl (Af rfl (Af rfl (Af rfl Bd)))) (Ah rfl) fun w8 _ F sc => ?_
     replace sc : SL w [] w8 [Blk g2 156 [.int .u8 (x1.op.toNat : Int), .int .i64 x1.a, .int .i64 x1.b, .int .i64 x1.to], Blk g3 156 [.int .u8 0, .int .i64 0, .int .i64 0, .int .i64 (-1)], Blk g1 156 [.int .u8 (a1.op.toNat : Int), .int .i64 a1.a, .int .i64 a1.b, .int .i64 a1.to], Blk g0 156 [.int .u8 (a0.op.toNat : Int), .int .i64 a0.a, .int .i64 a0.b, .int .i64 a0.to]] := sc
     refine Ak F (Aa (Am rfl) <| Ad) fun _ F => Aj <| Ab ?_
     obtain rfl := Ao H
     replace H := R0
     try dsimp only at H
     obtain rfl := Ao H
     refine Bf <| blk_r <| Bg <| Bg ?_
     refine Ax (rs := [.cell 4 156, .tmp 5]) (vs := [.agg ⟨[.int .u8 (x1.op.toNat : Int), .int .i64 x1.a, .int .i64 x1.b, .int .i64 x1.to]⟩, .bool true]) F (by rfl) ⟨_, _, rfl, Ci sc (.head _) rfl Fx.agg156 rfl, _, _, rfl, Ay rfl, rfl⟩ ⟨_, rfl, ⟨rfl, sc.drop.drop.drop.drop⟩⟩
    replace H := Bc h6 H
    refine Ai <| Al <| Ak F (Aa (Az Fx.fa156_0 rfl rfl) <| Aa (Ba Fx.nag5 rfl (s6.blk_cell (.tail _ <| .tail _ <| .head _) rfl)) <| Aa (Bw rfl rfl) <| Aa (Ae rfl) <| Ad) fun _ F => Bl ((a1.op.toNat : Int) == 6) (fun ha => ?_) (fun ha => ?_)
    ·replace H := Bb ha H
     refine Ar F rfl rfl (An rfl ha) (Az Fx.fa156_0 rfl rfl) rfl rfl fun _ F => Ar F rfl rfl (An rfl ha) (Ba Fx.nag5 rfl (s6.blk_cell (.tail _ <| .tail _ <| .tail _ <| .head _) rfl)) rfl rfl fun _ F => Ar F rfl rfl (An rfl ha) (Bw rfl rfl) rfl rfl fun _ F => Ar F rfl rfl (An rfl ha) (Ae rfl) rfl rfl fun _ F => Ap F rfl rfl (An rfl h0) Ac rfl rfl fun _ F => Ap F rfl rfl (An rfl h0) Ac rfl rfl fun _ F => Ap F rfl rfl (An rfl h0) Ac rfl rfl fun _ F => Ar F rfl rfl (An rfl ha) (Bh (Cb rfl h0) rfl) rfl rfl fun _ F => Ar F rfl rfl (An rfl ha) (Ae rfl) rfl rfl fun _ F => Ap F rfl rfl rfl Ac rfl rfl fun _ F => Ap F rfl rfl rfl Ac rfl rfl fun _ F => Ap F rfl rfl rfl Ac rfl rfl fun _ F => Ar F rfl rfl (An rfl ha) (Bh rfl rfl) rfl rfl fun _ F => Ar F rfl rfl (An rfl ha) (Ae rfl) rfl rfl fun _ F => Ap F rfl rfl rfl Ac rfl rfl fun _ F => Ap F rfl rfl rfl Ac rfl rfl fun _ F => ?_
     refine Ap F rfl rfl rfl Ac rfl rfl fun _ F => Ar F rfl rfl (An rfl ha) (Bh rfl rfl) rfl rfl fun _ F => Ak F (Aa (Bh (Cb rfl ha) rfl) <| Aa (Am rfl) <| Ad) fun _ F => Aj <| Ab <| Cy F rfl <| Ai <| Al <| Ak F (Aa (Bn Fx.agg156 rfl (s6.blk_cells (.head _) (o := 0) (ds := [.int .u8 0, .int .i64 0, .int .i64 0, .int .i64 (-1)]) (fun j u hu => by rw [Nat.zero_add]; exact hu)) rfl) <| Ad) fun _ F => ?_
     have sd := s6.f1
     refine Au F sd rfl rfl Fx.sz156 (Af rfl (Af rfl (Af rfl (Af rfl Bd)))) (Ah rfl) fun w9 _ F se => ?_
     replace se : SL w [] w9 [Blk g2 156 [.int .u8 0, .int .i64 0, .int .i64 0, .int .i64 (-1)], Blk g3 156 [.int .u8 0, .int .i64 0, .int .i64 0, .int .i64 (-1)], Blk g1 156 [.int .u8 (a1.op.toNat : Int), .int .i64 a1.a, .int .i64 a1.b, .int .i64 a1.to], Blk g0 156 [.int .u8 (a0.op.toNat : Int), .int .i64 a0.a, .int .i64 a0.b, .int .i64 a0.to]] := se
     refine Ak F (Aa (Am rfl) <| Ad) fun _ F => Aj <| Ab ?_
     obtain rfl := Ao H
     replace H := R0
     try dsimp only at H
     obtain rfl := Ao H
     refine Bf <| blk_r <| Bg <| Bg ?_
     refine Ax (rs := [.cell 4 156, .tmp 5]) (vs := [.agg ⟨[.int .u8 0, .int .i64 0, .int .i64 0, .int .i64 (-1)]⟩, .bool true]) F (by rfl) ⟨_, _, rfl, Ci se (.head _) rfl Fx.agg156 rfl, _, _, rfl, Ay rfl, rfl⟩ ⟨_, rfl, ⟨rfl, se.drop.drop.drop.drop⟩⟩
    replace H := Bc ha H
    refine Ap F rfl rfl (An rfl ha) Ac rfl rfl fun _ F => Ap F rfl rfl (An rfl ha) Ac rfl rfl fun _ F => Ap F rfl rfl (An rfl ha) Ac rfl rfl fun _ F => Ap F rfl rfl (An rfl ha) Ac rfl rfl fun _ F => Ce F rfl rfl rfl rfl rfl fun _ F => Ce F rfl rfl rfl rfl rfl fun _ F => Ce F rfl rfl rfl rfl rfl fun _ F => Ap F rfl rfl (An rfl ha) Ac rfl rfl fun _ F => Ap F rfl rfl (An rfl ha) Ac rfl rfl fun _ F => Ce F rfl rfl rfl rfl rfl fun _ F => Ce F rfl rfl rfl rfl rfl fun _ F => Ce F rfl rfl rfl rfl rfl fun _ F => Ap F rfl rfl (An rfl ha) Ac rfl rfl fun _ F => Ap F rfl rfl (An rfl ha) Ac rfl rfl fun _ F => Ce F rfl rfl rfl rfl rfl fun _ F => Ce F rfl rfl rfl rfl rfl fun _ F => Ce F rfl rfl rfl rfl rfl fun _ F => Ap F rfl rfl (An rfl ha) Ac rfl rfl fun _ F => Ak F (Aa (Bj (Cb rfl ha) rfl) <| Aa (Am rfl) <| Ad) fun _ F => ?_
    refine Aj <| Ab <| Cl F rfl <| Ai <| Al <| Ak F (Aa (Az Fx.fa156_0 rfl rfl) <| Aa (Ba Fx.nag5 rfl (s6.blk_cell (.tail _ <| .tail _ <| .tail _ <| .head _) rfl)) <| Aa (Bw rfl rfl) <| Aa (Ae rfl) <| Ad) fun _ F => Bl ((a0.op.toNat : Int) == 17) (fun hb => ?_) (fun hb => ?_)
    ·replace H := Bb hb H
     refine Ar F rfl rfl (An rfl hb) (Az Fx.fa156_0 rfl rfl) rfl rfl fun _ F => Ar F rfl rfl (An rfl hb) (Ba Fx.nag5 rfl (s6.blk_cell (.tail _ <| .tail _ <| .head _) rfl)) rfl rfl fun _ F => Ar F rfl rfl (An rfl hb) (Bw rfl rfl) rfl rfl fun _ F => Ak F (Aa (Bh (Cb rfl hb) rfl) <| Aa (Am rfl) <| Ad) fun _ F => Aj <| Ab <| Cl F (An rfl h6) <| Aw <| By ?_
     obtain rfl := Ao H
     refine Ab ?_
     exact ⟨_, rfl, F.sub ⟨rfl, rfl, trivial⟩, s6.f2.drop.f2.drop⟩
    replace H := Bc hb H
    refine Ap F rfl rfl (An rfl hb) Ac rfl rfl fun _ F => Ap F rfl rfl (An rfl hb) Ac rfl rfl fun _ F => Ap F rfl rfl (An rfl hb) Ac rfl rfl fun _ F => Ak F (Aa (Bj (Cb rfl hb) rfl) <| Aa (Am rfl) <| Ad) fun _ F => Aj <| Ab <| Cl F rfl <| Aw <| By ?_
    obtain rfl := Ao H
    refine Ab ?_
    exact ⟨_, rfl, F.sub ⟨rfl, rfl, trivial⟩, s6.f2.drop.f2.drop⟩
   replace H := Bc h5 H
   refine Ap F rfl rfl (An rfl h5) Ac rfl rfl fun _ F => Ap F rfl rfl (An rfl h5) Ac rfl rfl fun _ F => Ap F rfl rfl (An rfl h5) Ac rfl rfl fun _ F => Ak F (Aa (Bj (Cb rfl h5) rfl) <| Aa (Am rfl) <| Ad) fun _ F => Aj <| Ab <| Cl F rfl <| Ai <| Al <| Ak F (Aa (Az Fx.fa156_0 rfl rfl) <| Aa (Ba Fx.nag5 rfl (s6.blk_cell (.tail _ <| .tail _ <| .head _) rfl)) <| Aa (Bw rfl rfl) <| Aa (Ae rfl) <| Ad) fun _ F => Bl ((a1.op.toNat : Int) == 6) (fun hc => ?_) (fun hc => ?_)
   ·replace H := Bb hc H
    refine Ar F rfl rfl (An rfl hc) (Az Fx.fa156_0 rfl rfl) rfl rfl fun _ F => Ar F rfl rfl (An rfl hc) (Ba Fx.nag5 rfl (s6.blk_cell (.tail _ <| .tail _ <| .tail _ <| .head _) rfl)) rfl rfl fun _ F => Ar F rfl rfl (An rfl hc) (Bw rfl rfl) rfl rfl fun _ F => Ar F rfl rfl (An rfl hc) (Ae rfl) rfl rfl fun _ F => Ap F rfl rfl (An rfl h0) Ac rfl rfl fun _ F => Ap F rfl rfl (An rfl h0) Ac rfl rfl fun _ F => Ap F rfl rfl (An rfl h0) Ac rfl rfl fun _ F => Ar F rfl rfl (An rfl hc) (Bh (Cb rfl h0) rfl) rfl rfl fun _ F => Ar F rfl rfl (An rfl hc) (Ae rfl) rfl rfl fun _ F => Ap F rfl rfl rfl Ac rfl rfl fun _ F => Ap F rfl rfl rfl Ac rfl rfl fun _ F => Ap F rfl rfl rfl Ac rfl rfl fun _ F => Ar F rfl rfl (An rfl hc) (Bh rfl rfl) rfl rfl fun _ F => Ar F rfl rfl (An rfl hc) (Ae rfl) rfl rfl fun _ F => Ap F rfl rfl rfl Ac rfl rfl fun _ F => Ap F rfl rfl rfl Ac rfl rfl fun _ F => ?_
    refine Ap F rfl rfl rfl Ac rfl rfl fun _ F => Ar F rfl rfl (An rfl hc) (Bh rfl rfl) rfl rfl fun _ F => Ak F (Aa (Bh (Cb rfl hc) rfl) <| Aa (Am rfl) <| Ad) fun _ F => Aj <| Ab <| Cy F rfl <| Ai <| Al <| Ak F (Aa (Bn Fx.agg156 rfl (s6.blk_cells (.head _) (o := 0) (ds := [.int .u8 0, .int .i64 0, .int .i64 0, .int .i64 (-1)]) (fun j u hu => by rw [Nat.zero_add]; exact hu)) rfl) <| Ad) fun _ F => ?_
    have sf := s6.f1
    refine Au F sf rfl rfl Fx.sz156 (Af rfl (Af rfl (Af rfl (Af rfl Bd)))) (Ah rfl) fun wa _ F sg => ?_
    replace sg : SL w [] wa [Blk g2 156 [.int .u8 0, .int .i64 0, .int .i64 0, .int .i64 (-1)], Blk g3 156 [.int .u8 0, .int .i64 0, .int .i64 0, .int .i64 (-1)], Blk g1 156 [.int .u8 (a1.op.toNat : Int), .int .i64 a1.a, .int .i64 a1.b, .int .i64 a1.to], Blk g0 156 [.int .u8 (a0.op.toNat : Int), .int .i64 a0.a, .int .i64 a0.b, .int .i64 a0.to]] := sg
    refine Ak F (Aa (Am rfl) <| Ad) fun _ F => Aj <| Ab ?_
    obtain rfl := Ao H
    replace H := R0
    try dsimp only at H
    obtain rfl := Ao H
    refine Bf <| blk_r <| Bg <| Bg ?_
    refine Ax (rs := [.cell 4 156, .tmp 5]) (vs := [.agg ⟨[.int .u8 0, .int .i64 0, .int .i64 0, .int .i64 (-1)]⟩, .bool true]) F (by rfl) ⟨_, _, rfl, Ci sg (.head _) rfl Fx.agg156 rfl, _, _, rfl, Ay rfl, rfl⟩ ⟨_, rfl, ⟨rfl, sg.drop.drop.drop.drop⟩⟩
   replace H := Bc hc H
   refine Ap F rfl rfl (An rfl hc) Ac rfl rfl fun _ F => Ap F rfl rfl (An rfl hc) Ac rfl rfl fun _ F => Ap F rfl rfl (An rfl hc) Ac rfl rfl fun _ F => Ap F rfl rfl (An rfl hc) Ac rfl rfl fun _ F => Ce F rfl rfl rfl rfl rfl fun _ F => Ce F rfl rfl rfl rfl rfl fun _ F => Ce F rfl rfl rfl rfl rfl fun _ F => Ap F rfl rfl (An rfl hc) Ac rfl rfl fun _ F => Ap F rfl rfl (An rfl hc) Ac rfl rfl fun _ F => Ce F rfl rfl rfl rfl rfl fun _ F => Ce F rfl rfl rfl rfl rfl fun _ F => Ce F rfl rfl rfl rfl rfl fun _ F => Ap F rfl rfl (An rfl hc) Ac rfl rfl fun _ F => Ap F rfl rfl (An rfl hc) Ac rfl rfl fun _ F => Ce F rfl rfl rfl rfl rfl fun _ F => Ce F rfl rfl rfl rfl rfl fun _ F => Ce F rfl rfl rfl rfl rfl fun _ F => Ap F rfl rfl (An rfl hc) Ac rfl rfl fun _ F => Ak F (Aa (Bj (Cb rfl hc) rfl) <| Aa (Am rfl) <| Ad) fun _ F => ?_
   refine Aj <| Ab <| Cl F rfl <| Ai <| Al <| Ak F (Aa (Az Fx.fa156_0 rfl rfl) <| Aa (Ba Fx.nag5 rfl (s6.blk_cell (.tail _ <| .tail _ <| .tail _ <| .head _) rfl)) <| Aa (Bw rfl rfl) <| Aa (Ae rfl) <| Ad) fun _ F => Bl ((a0.op.toNat : Int) == 17) (fun hd => ?_) (fun hd => ?_)
   ·replace H := Bb hd H
    refine Ar F rfl rfl (An rfl hd) (Az Fx.fa156_0 rfl rfl) rfl rfl fun _ F => Ar F rfl rfl (An rfl hd) (Ba Fx.nag5 rfl (s6.blk_cell (.tail _ <| .tail _ <| .head _) rfl)) rfl rfl fun _ F => Ar F rfl rfl (An rfl hd) (Bw rfl rfl) rfl rfl fun _ F => Ak F (Aa (Bh (Cb rfl hd) rfl) <| Aa (Am rfl) <| Ad) fun _ F => Aj <| Ab <| Bm F rfl (fun he => ?_) (fun he => ?_)
    ·replace H := Bb he H
     refine Ai <| Al <| Ak F (Aa (Bn Fx.agg156 rfl (s6.blk_cells (.head _) (o := 0) (ds := [.int .u8 0, .int .i64 0, .int .i64 0, .int .i64 (-1)]) (fun j u hu => by rw [Nat.zero_add]; exact hu)) rfl) <| Ad) fun _ F => ?_
     have sh := s6.f1
     refine Au F sh rfl rfl Fx.sz156 (Af rfl (Af rfl (Af rfl (Af rfl Bd)))) (Ah rfl) fun wb _ F si => ?_
     replace si : SL w [] wb [Blk g2 156 [.int .u8 0, .int .i64 0, .int .i64 0, .int .i64 (-1)], Blk g3 156 [.int .u8 0, .int .i64 0, .int .i64 0, .int .i64 (-1)], Blk g1 156 [.int .u8 (a1.op.toNat : Int), .int .i64 a1.a, .int .i64 a1.b, .int .i64 a1.to], Blk g0 156 [.int .u8 (a0.op.toNat : Int), .int .i64 a0.a, .int .i64 a0.b, .int .i64 a0.to]] := si
     refine Ak F (Aa (Am rfl) <| Ad) fun _ F => Aj <| Ab ?_
     obtain rfl := Ao H
     replace H := R0
     try dsimp only at H
     obtain rfl := Ao H
     refine Bf <| blk_r <| Bg <| Bg ?_
     refine Ax (rs := [.cell 4 156, .tmp 5]) (vs := [.agg ⟨[.int .u8 0, .int .i64 0, .int .i64 0, .int .i64 (-1)]⟩, .bool true]) F (by rfl) ⟨_, _, rfl, Ci si (.head _) rfl Fx.agg156 rfl, _, _, rfl, Ay rfl, rfl⟩ ⟨_, rfl, ⟨rfl, si.drop.drop.drop.drop⟩⟩
    replace H := Bc he H
    refine Aw <| By ?_
    obtain rfl := Ao H
    refine Ab ?_
    exact ⟨_, rfl, F.sub ⟨rfl, rfl, trivial⟩, s6.f2.drop.f2.drop⟩
   replace H := Bc hd H
   refine Ap F rfl rfl (An rfl hd) Ac rfl rfl fun _ F => Ap F rfl rfl (An rfl hd) Ac rfl rfl fun _ F => Ap F rfl rfl (An rfl hd) Ac rfl rfl fun _ F => Ak F (Aa (Bj (Cb rfl hd) rfl) <| Aa (Am rfl) <| Ad) fun _ F => Aj <| Ab <| Cl F rfl <| Aw <| By ?_
   obtain rfl := Ao H
   refine Ab ?_
   exact ⟨_, rfl, F.sub ⟨rfl, rfl, trivial⟩, s6.f2.drop.f2.drop⟩
  replace H := Bc h0 H
  refine Ap F rfl rfl (An rfl h0) Ac rfl rfl fun _ F => Ap F rfl rfl (An rfl h0) Ac rfl rfl fun _ F => Ap F rfl rfl (An rfl h0) Ac rfl rfl fun _ F => Ak F (Aa (Bj (Cb rfl h0) rfl) <| Aa (Am rfl) <| Ad) fun _ F => Aj <| Ab <| Cl F rfl <| Ai <| Al <| Ak F (Aa (Az Fx.fa156_0 rfl rfl) <| Aa (Ba Fx.nag5 rfl (s6.blk_cell (.tail _ <| .tail _ <| .tail _ <| .head _) rfl)) <| Aa (Bw rfl rfl) <| Aa (Ae rfl) <| Ad) fun _ F => Bl ((a0.op.toNat : Int) == 2) (fun hf => ?_) (fun hf => ?_)
  ·replace H := Bb hf H
   refine Ar F rfl rfl (An rfl hf) (Az Fx.fa156_0 rfl rfl) rfl rfl fun _ F => Ar F rfl rfl (An rfl hf) (Ba Fx.nag5 rfl (s6.blk_cell (.tail _ <| .tail _ <| .head _) rfl)) rfl rfl fun _ F => Ar F rfl rfl (An rfl hf) (Bw rfl rfl) rfl rfl fun _ F => Ak F (Aa (Bh (Cb rfl hf) rfl) <| Aa (Am rfl) <| Ad) fun _ F => Aj <| Ab <| Bm F rfl (fun hg => ?_) (fun hg => ?_)
   ·replace H := Bb hg H
    refine Ai <| Al ?_
    obtain ⟨x2, hh, H⟩ := Aq H
    refine Ak F (Aa (Az Fx.fa156_1 rfl rfl) <| Aa (Ba Fx.nag3 rfl (s6.blk_cell (.tail _ <| .tail _ <| .tail _ <| .head _) rfl)) <| Aa (Bw rfl rfl) <| Ad) fun _ F => Bi (args := [.tmp 33]) F Fx.fn118 rfl (provisoref19_truth_c (a0 := (a0.a == 0))    hh) rfl fun v2 wc _ hi F => ?_
    obtain ⟨rfl, hj⟩ := hi
    have sj := s6.add hj
    have sk := sj.f1
    refine Au F sk rfl rfl Fx.sz156 (Af rfl (Af rfl (Af rfl (Af rfl Bd)))) (Ah rfl) fun wd _ F sl => ?_
    replace sl : SL w [] wd [Blk g2 156 [.int .u8 (x2.op.toNat : Int), .int .i64 x2.a, .int .i64 x2.b, .int .i64 x2.to], Blk g3 156 [.int .u8 0, .int .i64 0, .int .i64 0, .int .i64 (-1)], Blk g1 156 [.int .u8 (a1.op.toNat : Int), .int .i64 a1.a, .int .i64 a1.b, .int .i64 a1.to], Blk g0 156 [.int .u8 (a0.op.toNat : Int), .int .i64 a0.a, .int .i64 a0.b, .int .i64 a0.to]] := sl
    refine Ak F (Aa (Am rfl) <| Ad) fun _ F => Aj <| Ab ?_
    obtain rfl := Ao H
    replace H := R0
    try dsimp only at H
    obtain rfl := Ao H
    refine Bf <| blk_r <| Bg <| Bg ?_
    refine Ax (rs := [.cell 4 156, .tmp 5]) (vs := [.agg ⟨[.int .u8 (x2.op.toNat : Int), .int .i64 x2.a, .int .i64 x2.b, .int .i64 x2.to]⟩, .bool true]) F (by rfl) ⟨_, _, rfl, Ci sl (.head _) rfl Fx.agg156 rfl, _, _, rfl, Ay rfl, rfl⟩ ⟨_, rfl, ⟨rfl, sl.drop.drop.drop.drop⟩⟩
   replace H := Bc hg H
   refine Ai <| Al <| Ak F (Aa (Az Fx.fa156_0 rfl rfl) <| Aa (Ba Fx.nag5 rfl (s6.blk_cell (.tail _ <| .tail _ <| .head _) rfl)) <| Aa (Bw rfl rfl) <| Aa (Ae rfl) <| Ad) fun _ F => Bl ((a1.op.toNat : Int) == 6) (fun hk => ?_) (fun hk => ?_)
   ·replace H := Bb hk H
    refine Ar F rfl rfl (An rfl hk) (Az Fx.fa156_0 rfl rfl) rfl rfl fun _ F => Ar F rfl rfl (An rfl hk) (Ba Fx.nag5 rfl (s6.blk_cell (.tail _ <| .tail _ <| .tail _ <| .head _) rfl)) rfl rfl fun _ F => Ar F rfl rfl (An rfl hk) (Bw rfl rfl) rfl rfl fun _ F => Ar F rfl rfl (An rfl hk) (Ae rfl) rfl rfl fun _ F => Ar F rfl rfl (An rfl h0) (Az Fx.fa156_0 rfl rfl) rfl rfl fun _ F => Ar F rfl rfl (An rfl h0) (Ba Fx.nag5 rfl (s6.blk_cell (.tail _ <| .tail _ <| .tail _ <| .head _) rfl)) rfl rfl fun _ F => Ar F rfl rfl (An rfl h0) (Bw rfl rfl) rfl rfl fun _ F => Ar F rfl rfl (An rfl hk) (Bj (Cb rfl h0) rfl) rfl rfl fun _ F => Ar F rfl rfl (An rfl hk) (Ae rfl) rfl rfl fun _ F => Ap F rfl rfl (An rfl hf) Ac rfl rfl fun _ F => Ap F rfl rfl (An rfl hf) Ac rfl rfl fun _ F => Ap F rfl rfl (An rfl hf) Ac rfl rfl fun _ F => Ar F rfl rfl (An rfl hk) (Bh (Cb rfl hf) rfl) rfl rfl fun _ F => Ar F rfl rfl (An rfl hk) (Ae rfl) rfl rfl fun _ F => ?_
    refine Ap F rfl rfl rfl Ac rfl rfl fun _ F => Ap F rfl rfl rfl Ac rfl rfl fun _ F => Ap F rfl rfl rfl Ac rfl rfl fun _ F => Ar F rfl rfl (An rfl hk) (Bh rfl rfl) rfl rfl fun _ F => Ak F (Aa (Bh (Cb rfl hk) rfl) <| Aa (Am rfl) <| Ad) fun _ F => Aj <| Ab <| Cy F rfl <| Ai <| Al <| Ak F (Aa (Bn Fx.agg156 rfl (s6.blk_cells (.head _) (o := 0) (ds := [.int .u8 0, .int .i64 0, .int .i64 0, .int .i64 (-1)]) (fun j u hu => by rw [Nat.zero_add]; exact hu)) rfl) <| Ad) fun _ F => ?_
    have sm := s6.f1
    refine Au F sm rfl rfl Fx.sz156 (Af rfl (Af rfl (Af rfl (Af rfl Bd)))) (Ah rfl) fun we _ F sn => ?_
    replace sn : SL w [] we [Blk g2 156 [.int .u8 0, .int .i64 0, .int .i64 0, .int .i64 (-1)], Blk g3 156 [.int .u8 0, .int .i64 0, .int .i64 0, .int .i64 (-1)], Blk g1 156 [.int .u8 (a1.op.toNat : Int), .int .i64 a1.a, .int .i64 a1.b, .int .i64 a1.to], Blk g0 156 [.int .u8 (a0.op.toNat : Int), .int .i64 a0.a, .int .i64 a0.b, .int .i64 a0.to]] := sn
    refine Ak F (Aa (Am rfl) <| Ad) fun _ F => Aj <| Ab ?_
    obtain rfl := Ao H
    replace H := R0
    try dsimp only at H
    obtain rfl := Ao H
    refine Bf <| blk_r <| Bg <| Bg ?_
    refine Ax (rs := [.cell 4 156, .tmp 5]) (vs := [.agg ⟨[.int .u8 0, .int .i64 0, .int .i64 0, .int .i64 (-1)]⟩, .bool true]) F (by rfl) ⟨_, _, rfl, Ci sn (.head _) rfl Fx.agg156 rfl, _, _, rfl, Ay rfl, rfl⟩ ⟨_, rfl, ⟨rfl, sn.drop.drop.drop.drop⟩⟩
   replace H := Bc hk H
   refine Ap F rfl rfl (An rfl hk) Ac rfl rfl fun _ F => Ap F rfl rfl (An rfl hk) Ac rfl rfl fun _ F => Ap F rfl rfl (An rfl hk) Ac rfl rfl fun _ F => Ap F rfl rfl (An rfl hk) Ac rfl rfl fun _ F => Ce F rfl rfl rfl rfl rfl fun _ F => Ce F rfl rfl rfl rfl rfl fun _ F => Ce F rfl rfl rfl rfl rfl fun _ F => Ap F rfl rfl (An rfl hk) Ac rfl rfl fun _ F => Ap F rfl rfl (An rfl hk) Ac rfl rfl fun _ F => Ce F rfl rfl rfl rfl rfl fun _ F => Ce F rfl rfl rfl rfl rfl fun _ F => Ce F rfl rfl rfl rfl rfl fun _ F => Ap F rfl rfl (An rfl hk) Ac rfl rfl fun _ F => Ap F rfl rfl (An rfl hk) Ac rfl rfl fun _ F => Ce F rfl rfl rfl rfl rfl fun _ F => Ce F rfl rfl rfl rfl rfl fun _ F => Ce F rfl rfl rfl rfl rfl fun _ F => Ap F rfl rfl (An rfl hk) Ac rfl rfl fun _ F => Ak F (Aa (Bj (Cb rfl hk) rfl) <| Aa (Am rfl) <| Ad) fun _ F => ?_
   refine Aj <| Ab <| Cl F rfl <| Ai <| Al <| Ak F (Aa (Az Fx.fa156_0 rfl rfl) <| Aa (Ba Fx.nag5 rfl (s6.blk_cell (.tail _ <| .tail _ <| .tail _ <| .head _) rfl)) <| Aa (Bw rfl rfl) <| Aa (Ae rfl) <| Ad) fun _ F => Bl ((a0.op.toNat : Int) == 17) (fun hl => ?_) (fun hl => ?_)
   ·replace H := Bb hl H
    refine Ar F rfl rfl (An rfl hl) (Az Fx.fa156_0 rfl rfl) rfl rfl fun _ F => Ar F rfl rfl (An rfl hl) (Ba Fx.nag5 rfl (s6.blk_cell (.tail _ <| .tail _ <| .head _) rfl)) rfl rfl fun _ F => Ar F rfl rfl (An rfl hl) (Bw rfl rfl) rfl rfl fun _ F => Ak F (Aa (Bh (Cb rfl hl) rfl) <| Aa (Am rfl) <| Ad) fun _ F => Aj <| Ab <| Cl F (An rfl hg) <| Aw <| By ?_
    obtain rfl := Ao H
    refine Ab ?_
    exact ⟨_, rfl, F.sub ⟨rfl, rfl, trivial⟩, s6.f2.drop.f2.drop⟩
   replace H := Bc hl H
   refine Ap F rfl rfl (An rfl hl) Ac rfl rfl fun _ F => Ap F rfl rfl (An rfl hl) Ac rfl rfl fun _ F => Ap F rfl rfl (An rfl hl) Ac rfl rfl fun _ F => Ak F (Aa (Bj (Cb rfl hl) rfl) <| Aa (Am rfl) <| Ad) fun _ F => Aj <| Ab <| Cl F rfl <| Aw <| By ?_
   obtain rfl := Ao H
   refine Ab ?_
   exact ⟨_, rfl, F.sub ⟨rfl, rfl, trivial⟩, s6.f2.drop.f2.drop⟩
  replace H := Bc hf H
  refine Ap F rfl rfl (An rfl hf) Ac rfl rfl fun _ F => Ap F rfl rfl (An rfl hf) Ac rfl rfl fun _ F => Ap F rfl rfl (An rfl hf) Ac rfl rfl fun _ F => Ak F (Aa (Bj (Cb rfl hf) rfl) <| Aa (Am rfl) <| Ad) fun _ F => Aj <| Ab <| Cl F rfl <| Ai <| Al <| Ak F (Aa (Az Fx.fa156_0 rfl rfl) <| Aa (Ba Fx.nag5 rfl (s6.blk_cell (.tail _ <| .tail _ <| .head _) rfl)) <| Aa (Bw rfl rfl) <| Aa (Ae rfl) <| Ad) fun _ F => Bl ((a1.op.toNat : Int) == 6) (fun hm => ?_) (fun hm => ?_)
  ·replace H := Bb hm H
   refine Ar F rfl rfl (An rfl hm) (Az Fx.fa156_0 rfl rfl) rfl rfl fun _ F => Ar F rfl rfl (An rfl hm) (Ba Fx.nag5 rfl (s6.blk_cell (.tail _ <| .tail _ <| .tail _ <| .head _) rfl)) rfl rfl fun _ F => Ar F rfl rfl (An rfl hm) (Bw rfl rfl) rfl rfl fun _ F => Ar F rfl rfl (An rfl hm) (Ae rfl) rfl rfl fun _ F => Ar F rfl rfl (An rfl h0) (Az Fx.fa156_0 rfl rfl) rfl rfl fun _ F => Ar F rfl rfl (An rfl h0) (Ba Fx.nag5 rfl (s6.blk_cell (.tail _ <| .tail _ <| .tail _ <| .head _) rfl)) rfl rfl fun _ F => Ar F rfl rfl (An rfl h0) (Bw rfl rfl) rfl rfl fun _ F => Ar F rfl rfl (An rfl hm) (Bj (Cb rfl h0) rfl) rfl rfl fun _ F => Ar F rfl rfl (An rfl hm) (Ae rfl) rfl rfl fun _ F => Ar F rfl rfl (An rfl hf) (Az Fx.fa156_0 rfl rfl) rfl rfl fun _ F => Ar F rfl rfl (An rfl hf) (Ba Fx.nag5 rfl (s6.blk_cell (.tail _ <| .tail _ <| .tail _ <| .head _) rfl)) rfl rfl fun _ F => Ar F rfl rfl (An rfl hf) (Bw rfl rfl) rfl rfl fun _ F => Ar F rfl rfl (An rfl hm) (Bj (Cb rfl hf) rfl) rfl rfl fun _ F => ?_
   refine Ar F rfl rfl (An rfl hm) (Ae rfl) rfl rfl fun _ F => Bl ((a0.op.toNat : Int) == 3) (fun hn => ?_) (fun hn => ?_)
   ·replace H := Bb hn H
    refine Ap F rfl rfl (An rfl hn) Ac rfl rfl fun _ F => Ap F rfl rfl (An rfl hn) Ac rfl rfl fun _ F => Ap F rfl rfl (An rfl hn) Ac rfl rfl fun _ F => Ar F rfl rfl (An rfl hm) (Bh (Cb rfl hn) rfl) rfl rfl fun _ F => Ak F (Aa (Bh (Cb rfl hm) rfl) <| Aa (Am rfl) <| Ad) fun _ F => Aj <| Ab <| Cy F rfl <| Ai <| Al <| Ak F (Aa (Bn Fx.agg156 rfl (s6.blk_cells (.head _) (o := 0) (ds := [.int .u8 0, .int .i64 0, .int .i64 0, .int .i64 (-1)]) (fun j u hu => by rw [Nat.zero_add]; exact hu)) rfl) <| Ad) fun _ F => ?_
    have so := s6.f1
    refine Au F so rfl rfl Fx.sz156 (Af rfl (Af rfl (Af rfl (Af rfl Bd)))) (Ah rfl) fun wf _ F sp => ?_
    replace sp : SL w [] wf [Blk g2 156 [.int .u8 0, .int .i64 0, .int .i64 0, .int .i64 (-1)], Blk g3 156 [.int .u8 0, .int .i64 0, .int .i64 0, .int .i64 (-1)], Blk g1 156 [.int .u8 (a1.op.toNat : Int), .int .i64 a1.a, .int .i64 a1.b, .int .i64 a1.to], Blk g0 156 [.int .u8 (a0.op.toNat : Int), .int .i64 a0.a, .int .i64 a0.b, .int .i64 a0.to]] := sp
    refine Ak F (Aa (Am rfl) <| Ad) fun _ F => Aj <| Ab ?_
    obtain rfl := Ao H
    replace H := R0
    try dsimp only at H
    obtain rfl := Ao H
    refine Bf <| blk_r <| Bg <| Bg ?_
    refine Ax (rs := [.cell 4 156, .tmp 5]) (vs := [.agg ⟨[.int .u8 0, .int .i64 0, .int .i64 0, .int .i64 (-1)]⟩, .bool true]) F (by rfl) ⟨_, _, rfl, Ci sp (.head _) rfl Fx.agg156 rfl, _, _, rfl, Ay rfl, rfl⟩ ⟨_, rfl, ⟨rfl, sp.drop.drop.drop.drop⟩⟩
   replace H := Bc hn H
   refine Ar F rfl rfl (An rfl hn) (Az Fx.fa156_0 rfl rfl) rfl rfl fun _ F => Ar F rfl rfl (An rfl hn) (Ba Fx.nag5 rfl (s6.blk_cell (.tail _ <| .tail _ <| .tail _ <| .head _) rfl)) rfl rfl fun _ F => Ar F rfl rfl (An rfl hn) (Bw rfl rfl) rfl rfl fun _ F => Ar F rfl rfl (An rfl hm) (Bj (Cb rfl hn) rfl) rfl rfl fun _ F => Ak F (Aa (Bh (Cb rfl hm) rfl) <| Aa (Am rfl) <| Ad) fun _ F => Aj <| Ab <| Bm F rfl (fun ho => ?_) (fun ho => ?_)
   ·replace H := Bb ho H
    refine Ai <| Al <| Ak F (Aa (Bn Fx.agg156 rfl (s6.blk_cells (.head _) (o := 0) (ds := [.int .u8 0, .int .i64 0, .int .i64 0, .int .i64 (-1)]) (fun j u hu => by rw [Nat.zero_add]; exact hu)) rfl) <| Ad) fun _ F => ?_
    have sq := s6.f1
    refine Au F sq rfl rfl Fx.sz156 (Af rfl (Af rfl (Af rfl (Af rfl Bd)))) (Ah rfl) fun wg _ F sr => ?_
    replace sr : SL w [] wg [Blk g2 156 [.int .u8 0, .int .i64 0, .int .i64 0, .int .i64 (-1)], Blk g3 156 [.int .u8 0, .int .i64 0, .int .i64 0, .int .i64 (-1)], Blk g1 156 [.int .u8 (a1.op.toNat : Int), .int .i64 a1.a, .int .i64 a1.b, .int .i64 a1.to], Blk g0 156 [.int .u8 (a0.op.toNat : Int), .int .i64 a0.a, .int .i64 a0.b, .int .i64 a0.to]] := sr
    refine Ak F (Aa (Am rfl) <| Ad) fun _ F => Aj <| Ab ?_
    obtain rfl := Ao H
    replace H := R0
    try dsimp only at H
    obtain rfl := Ao H
    refine Bf <| blk_r <| Bg <| Bg ?_
    refine Ax (rs := [.cell 4 156, .tmp 5]) (vs := [.agg ⟨[.int .u8 0, .int .i64 0, .int .i64 0, .int .i64 (-1)]⟩, .bool true]) F (by rfl) ⟨_, _, rfl, Ci sr (.head _) rfl Fx.agg156 rfl, _, _, rfl, Ay rfl, rfl⟩ ⟨_, rfl, ⟨rfl, sr.drop.drop.drop.drop⟩⟩
   replace H := Bc ho H
   refine Ai <| Al <| Ak F (Aa (Az Fx.fa156_0 rfl rfl) <| Aa (Ba Fx.nag5 rfl (s6.blk_cell (.tail _ <| .tail _ <| .tail _ <| .head _) rfl)) <| Aa (Bw rfl rfl) <| Aa (Ae rfl) <| Ad) fun _ F => Bl ((a0.op.toNat : Int) == 17) (fun hp => ?_) (fun hp => ?_)
   ·replace H := Bb hp H
    refine Ar F rfl rfl (An rfl hp) (Az Fx.fa156_0 rfl rfl) rfl rfl fun _ F => Ar F rfl rfl (An rfl hp) (Ba Fx.nag5 rfl (s6.blk_cell (.tail _ <| .tail _ <| .head _) rfl)) rfl rfl fun _ F => Ar F rfl rfl (An rfl hp) (Bw rfl rfl) rfl rfl fun _ F => Ak F (Aa (Bh (Cb rfl hp) rfl) <| Aa (Am rfl) <| Ad) fun _ F => Aj <| Ab <| Bm F rfl (fun hq => ?_) (fun hq => ?_)
    ·replace H := Bb hq H
     refine Ai <| Al <| Ak F (Aa (Bn Fx.agg156 rfl (s6.blk_cells (.head _) (o := 0) (ds := [.int .u8 0, .int .i64 0, .int .i64 0, .int .i64 (-1)]) (fun j u hu => by rw [Nat.zero_add]; exact hu)) rfl) <| Ad) fun _ F => ?_
     have ss := s6.f1
     refine Au F ss rfl rfl Fx.sz156 (Af rfl (Af rfl (Af rfl (Af rfl Bd)))) (Ah rfl) fun wh _ F st => ?_
     replace st : SL w [] wh [Blk g2 156 [.int .u8 0, .int .i64 0, .int .i64 0, .int .i64 (-1)], Blk g3 156 [.int .u8 0, .int .i64 0, .int .i64 0, .int .i64 (-1)], Blk g1 156 [.int .u8 (a1.op.toNat : Int), .int .i64 a1.a, .int .i64 a1.b, .int .i64 a1.to], Blk g0 156 [.int .u8 (a0.op.toNat : Int), .int .i64 a0.a, .int .i64 a0.b, .int .i64 a0.to]] := st
     refine Ak F (Aa (Am rfl) <| Ad) fun _ F => Aj <| Ab ?_
     obtain rfl := Ao H
     replace H := R0
     try dsimp only at H
     obtain rfl := Ao H
     refine Bf <| blk_r <| Bg <| Bg ?_
     refine Ax (rs := [.cell 4 156, .tmp 5]) (vs := [.agg ⟨[.int .u8 0, .int .i64 0, .int .i64 0, .int .i64 (-1)]⟩, .bool true]) F (by rfl) ⟨_, _, rfl, Ci st (.head _) rfl Fx.agg156 rfl, _, _, rfl, Ay rfl, rfl⟩ ⟨_, rfl, ⟨rfl, st.drop.drop.drop.drop⟩⟩
    replace H := Bc hq H
    refine Aw <| By ?_
    obtain rfl := Ao H
    refine Ab ?_
    exact ⟨_, rfl, F.sub ⟨rfl, rfl, trivial⟩, s6.f2.drop.f2.drop⟩
   replace H := Bc hp H
   refine Ap F rfl rfl (An rfl hp) Ac rfl rfl fun _ F => Ap F rfl rfl (An rfl hp) Ac rfl rfl fun _ F => Ap F rfl rfl (An rfl hp) Ac rfl rfl fun _ F => Ak F (Aa (Bj (Cb rfl hp) rfl) <| Aa (Am rfl) <| Ad) fun _ F => Aj <| Ab <| Cl F rfl <| Aw <| By ?_
   obtain rfl := Ao H
   refine Ab ?_
   exact ⟨_, rfl, F.sub ⟨rfl, rfl, trivial⟩, s6.f2.drop.f2.drop⟩
  replace H := Bc hm H
  refine Ap F rfl rfl (An rfl hm) Ac rfl rfl fun _ F => Ap F rfl rfl (An rfl hm) Ac rfl rfl fun _ F => Ap F rfl rfl (An rfl hm) Ac rfl rfl fun _ F => Ap F rfl rfl (An rfl hm) Ac rfl rfl fun _ F => Ce F rfl rfl rfl rfl rfl fun _ F => Ce F rfl rfl rfl rfl rfl fun _ F => Ce F rfl rfl rfl rfl rfl fun _ F => Ap F rfl rfl (An rfl hm) Ac rfl rfl fun _ F => Ap F rfl rfl (An rfl hm) Ac rfl rfl fun _ F => Ce F rfl rfl rfl rfl rfl fun _ F => Ce F rfl rfl rfl rfl rfl fun _ F => Ce F rfl rfl rfl rfl rfl fun _ F => Ap F rfl rfl (An rfl hm) Ac rfl rfl fun _ F => Ap F rfl rfl (An rfl hm) Ac rfl rfl fun _ F => Ce F rfl rfl rfl rfl rfl fun _ F => Ce F rfl rfl rfl rfl rfl fun _ F => Ce F rfl rfl rfl rfl rfl fun _ F => Ap F rfl rfl (An rfl hm) Ac rfl rfl fun _ F => Ak F (Aa (Bj (Cb rfl hm) rfl) <| Aa (Am rfl) <| Ad) fun _ F => ?_
  refine Aj <| Ab <| Cl F rfl <| Ai <| Al <| Ak F (Aa (Az Fx.fa156_0 rfl rfl) <| Aa (Ba Fx.nag5 rfl (s6.blk_cell (.tail _ <| .tail _ <| .tail _ <| .head _) rfl)) <| Aa (Bw rfl rfl) <| Aa (Ae rfl) <| Ad) fun _ F => Bl ((a0.op.toNat : Int) == 17) (fun hr => ?_) (fun hr => ?_)
  ·replace H := Bb hr H
   refine Ar F rfl rfl (An rfl hr) (Az Fx.fa156_0 rfl rfl) rfl rfl fun _ F => Ar F rfl rfl (An rfl hr) (Ba Fx.nag5 rfl (s6.blk_cell (.tail _ <| .tail _ <| .head _) rfl)) rfl rfl fun _ F => Ar F rfl rfl (An rfl hr) (Bw rfl rfl) rfl rfl fun _ F => Ak F (Aa (Bh (Cb rfl hr) rfl) <| Aa (Am rfl) <| Ad) fun _ F => Aj <| Ab <| Bm F rfl (fun hs => ?_) (fun hs => ?_)
   ·replace H := Bb hs H
    refine Ai <| Al <| Ak F (Aa (Bn Fx.agg156 rfl (s6.blk_cells (.head _) (o := 0) (ds := [.int .u8 0, .int .i64 0, .int .i64 0, .int .i64 (-1)]) (fun j u hu => by rw [Nat.zero_add]; exact hu)) rfl) <| Ad) fun _ F => ?_
    have su := s6.f1
    refine Au F su rfl rfl Fx.sz156 (Af rfl (Af rfl (Af rfl (Af rfl Bd)))) (Ah rfl) fun wi _ F sv => ?_
    replace sv : SL w [] wi [Blk g2 156 [.int .u8 0, .int .i64 0, .int .i64 0, .int .i64 (-1)], Blk g3 156 [.int .u8 0, .int .i64 0, .int .i64 0, .int .i64 (-1)], Blk g1 156 [.int .u8 (a1.op.toNat : Int), .int .i64 a1.a, .int .i64 a1.b, .int .i64 a1.to], Blk g0 156 [.int .u8 (a0.op.toNat : Int), .int .i64 a0.a, .int .i64 a0.b, .int .i64 a0.to]] := sv
    refine Ak F (Aa (Am rfl) <| Ad) fun _ F => Aj <| Ab ?_
    obtain rfl := Ao H
    replace H := R0
    try dsimp only at H
    obtain rfl := Ao H
    refine Bf <| blk_r <| Bg <| Bg ?_
    refine Ax (rs := [.cell 4 156, .tmp 5]) (vs := [.agg ⟨[.int .u8 0, .int .i64 0, .int .i64 0, .int .i64 (-1)]⟩, .bool true]) F (by rfl) ⟨_, _, rfl, Ci sv (.head _) rfl Fx.agg156 rfl, _, _, rfl, Ay rfl, rfl⟩ ⟨_, rfl, ⟨rfl, sv.drop.drop.drop.drop⟩⟩
   replace H := Bc hs H
   refine Aw <| By ?_
   obtain rfl := Ao H
   refine Ab ?_
   exact ⟨_, rfl, F.sub ⟨rfl, rfl, trivial⟩, s6.f2.drop.f2.drop⟩
  replace H := Bc hr H
  refine Ap F rfl rfl (An rfl hr) Ac rfl rfl fun _ F => Ap F rfl rfl (An rfl hr) Ac rfl rfl fun _ F => Ap F rfl rfl (An rfl hr) Ac rfl rfl fun _ F => Ak F (Aa (Bj (Cb rfl hr) rfl) <| Aa (Am rfl) <| Ad) fun _ F => Aj <| Ab <| Cl F rfl <| Aw <| By ?_
  obtain rfl := Ao H
  refine Ab ?_
  exact ⟨_, rfl, F.sub ⟨rfl, rfl, trivial⟩, s6.f2.drop.f2.drop⟩
 intro _ wj hJ
 obtain ⟨p0, rfl, F, sw⟩ := hJ
 have H := R0
 clear R0 H0
 try dsimp only at H
 refine Ab <| Ai <| Al <| Ak F (Aa (Bn Fx.agg156 rfl (sw.blk_cells (.head _) (o := 0) (ds := [.int .u8 0, .int .i64 0, .int .i64 0, .int .i64 (-1)]) (fun j u hu => by rw [Nat.zero_add]; exact hu)) rfl) <| Ad) fun _ F => ?_
 have sx := sw.f1
 refine Au F sx rfl rfl Fx.sz156 (Af rfl (Af rfl (Af rfl (Af rfl Bd)))) (Ah rfl) fun wk _ F sy => ?_
 replace sy : SL w [] wk [Blk g2 156 [.int .u8 0, .int .i64 0, .int .i64 0, .int .i64 (-1)], Blk g3 156 [.int .u8 0, .int .i64 0, .int .i64 0, .int .i64 (-1)]] := sy
 refine Ak F (Aa (Am rfl) <| Ad) fun _ F => Aj <| Ab ?_
 obtain rfl := Ao H
 refine Bf ?_
 refine Ax (rs := [.cell 4 156, .tmp 5]) (vs := [.agg ⟨[.int .u8 0, .int .i64 0, .int .i64 0, .int .i64 (-1)]⟩, .bool false]) F (by rfl) ⟨_, _, rfl, Ci sy (.head _) rfl Fx.agg156 rfl, _, _, rfl, Ay rfl, rfl⟩ ⟨_, rfl, ⟨rfl, sy.drop.drop⟩⟩
end Go.Proofs.Ytmeodoidfpcjlaa
