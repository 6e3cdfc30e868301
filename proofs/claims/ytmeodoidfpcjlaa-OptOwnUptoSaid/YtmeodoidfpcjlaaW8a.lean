/- Walks, merged. -/
import Derived.Test.YtmeodoidfpcjlaaFx
import Derived.Test.YtmeodoidfpcjlaaDf
import Derived.Test.YtmeodoidfpcjlaaPvs
import Derived.Test.YtmeodoidfpcjlaaHs
import Derived.Test.YtmeodoidfpcjlaaPvo
set_option linter.unusedVariables false
set_option linter.unusedSimpArgs false
namespace Go.Proofs.Ytmeodoidfpcjlaa
open Go Go.RowKit Go.Pv
open Go.Pv.PR renaming op → Aa, nil → Ad
open Go.Pv renaming then_n → Ab, ex_move → Ae, one_cons → Af, st_end → Aj, st_pr → Ak, wp_reg → Al, ex_asg → Am, look_b → An, some_ok → Ao, st_gskip → Ap, bind_ok → Aq, st_gop → Ar, ex_extract → As, st_storea → Au, kq_end → Av, ret_gen → Ax, ex_fab → Az, ex_ld → Ba, ite_t → Bb, ite_f → Bc, one_nil → Bd, then_r → Bg, ex_pick_t → Bh, st_call → Bi, ex_pick_f → Bj, hd_one → Bk, bool_split → Bl, wp_if → Bm, ex_ldagg → Bn, then_x → Bo, ex_add → Bp, call_enter → Bq, wpOp_of → Br, hd_cons → Bs, st_op → Bt, st_alloc → Bu, hd_take → Bv, ex_eq → Bw, wp_cutn → Bx, blk_n → By, blk_hit → Ca, ev_b → Cb, formL → Cc, ex_len → Cd, st_gskip' → Ce, own_idx → Cf, hd_done → Cg, st_append_rd → Ch, hd_many → Cj, wp_if_f → Cl, st_bslice → Cm, ex_lt → Cn, ex_build → Co, hd_nil → Cp, wp_lp → Cq, st_setel → Cr, form_one → Cs, st_store → Ct, rdL → Cu, ex_nilcheck → Cv, ex_fa → Cw, ex_not → Cx, wp_if_t → Cy, st_box → Cz, form_cells → Da, blk_miss → Db, idxL → Dc, ex_ne → Dd, st_setfld → Dg
open Bool renaming noConfusion → Ac
open Nat renaming le_of_ble_eq_true → Ah
open Go renaming wp_seq → Ai, wp_skip → Aw, wp_block → Be, wp_ret → Bf, wp_exit → Bz
open Go.Pv.RV renaming tmp → Ay, blk → Ci
open Go.Pv.QR renaming op → De
-- (*proviso/provisoplain.Shelf).Bytes
theorem provisoplain_Shelf_Bytes_c {w : World} {FF : List Nat} {g0 : Nat} {v0_0 v0_1 v1 : Value} {a0 : S_provisoplain_Shelf} {a1 : List UInt8} {r : S_provisoplain_Shelf} (hst : Star [Blk g0 32 [v0_0, v0_1], Sl (Ty.slice Ty.u8) v0_0 a0.bytes, Sl (Ty.slice (Ty.int .i64)) v0_1 a0.ints, Sl Ty.u8 v1 a1] w FF)  (H : provisoplain_Shelf_Bytes a0 a1 = some r) :
    Calls Try.prog 13 #[.pointer (some ⟨g0, 0, none⟩), v1] w (Ret fun u_ w_ => ∃ u0 u1 : Value, u_ = .tuple ⟨[]⟩ ∧ SL w FF w_ [Blk g0 32 [u0, u1], Sl (Ty.slice Ty.u8) u0 r.bytes, Sl (Ty.slice (Ty.int .i64)) u1 r.ints]) := by
 have s0 : SL w FF w [Blk g0 32 [v0_0, v0_1], Sl (Ty.slice Ty.u8) v0_0 a0.bytes, Sl (Ty.slice (Ty.int .i64)) v0_1 a0.ints, Sl Ty.u8 v1 a1] := SL.init w FF hst
 refine Bq Try.func13 rfl Try.ntmps13 (Ah rfl) (args := [.pointer (some ⟨g0, 0, none⟩), v1]) fun q0 F0 => ?_
 unfold provisoplain_Shelf_Bytes at H
 refine Al <| Ak F0 (Aa (Ae rfl) <| Aa (Ae rfl) <| Aa (Cv rfl) <| Aa (Az Fx.fa32_0 rfl rfl) <| Aa (Ba Fx.nag29 rfl (s0.blk_cell (.head _) rfl)) <| Aa (Ae rfl) <| Ad) fun q1 F2 => ?_
 have hv9 := (Cc (s0.own_rd (.tail _ <| .tail _ <| .tail _ <| .head _)))
 have s1 : SL w FF _ (Dt (Ty.slice Ty.u8) a1 [v1] :: [Blk g0 32 [v0_0, v0_1], Sl (Ty.slice Ty.u8) v0_0 a0.bytes, Sl (Ty.slice (Ty.int .i64)) v0_1 a0.ints]) := (SL.dsl s0.f3)
 refine st_bslice1 F2 s1 Fx.sl29 rfl (by decide) rfl (Da hv9) rfl fun v3 w4 q5 F6 s7 => ?_
 obtain ⟨x0, h0, H⟩ := Aq H
 refine st_append_own F6 s7.f2 Fx.sl29 rfl rfl rfl rfl rfl rfl h0 rfl fun v0 w0 _ F s2 => Ak F (Aa (Cv rfl) <| Aa (Az Fx.fa32_0 rfl rfl) <| Ad) fun _ F => ?_
 have s3 := s2.f1
 refine Ct F s3 rfl rfl Fx.sz29 (Da (Cc (s3.own_rd (.tail _ <| .head _)))) (Cs (Cc (s3.own_rd (.tail _ <| .head _)))) rfl fun w1 _ F s4 => ?_
 replace s4 : SL w FF w1 [Blk g0 32 [v0, v0_1], Sl (Ty.slice Ty.u8) v0 x0, Sl (Ty.slice (Ty.int .i64)) v0_1 a0.ints] := s4
 refine Aj ?_
 obtain rfl := Ao H
 exact end_gen F (by rfl) ⟨_, rfl, ⟨v0, v0_1, rfl, s4⟩⟩
-- proviso/provisoplain.mark
theorem provisoplain_mark_c {w : World} {a0 : Int} {r : Int}  (H : provisoplain_mark a0 = some r) :
    Calls Try.prog 33 #[.int .i64 a0] w (Ret fun u_ w_ => u_ = .int .i64 r ∧ SL w [] w_ []) := by
 have s0 : SL w [] w [] := SL.init0 w
 refine Bq Try.func33 rfl Try.ntmps33 (Ah rfl) (args := [.int .i64 a0]) fun q0 F0 => ?_
 unfold provisoplain_mark at H
 refine Ai <| Al <| Ak F0 (Aa (Am rfl) <| Ad) fun q3 F4 => Aj <| Ab <| Ai <| Al <| Ak F4 (Aa (Ae rfl) <| Aa (ex_rem rfl rfl rfl) <| Aa (Bp rfl rfl) <| Aa (Am rfl) <| Ad) fun q7 F8 => Aj <| Ab ?_
 obtain rfl := Ao H
 refine Bf ?_
 refine Ax (rs := [.tmp 2]) (vs := [.int .i64 (wr ((Int.tmod a0 250) + 1))]) F8 (by rfl) ⟨_, _, rfl, Ay rfl, rfl⟩ ⟨_, rfl, ⟨rfl, s0⟩⟩
-- (*proviso/provisoplain.Shelf).marked
theorem provisoplain_Shelf_marked_bpp_c {w : World} {FF : List Nat} {g0 : Nat} {v0_0 v0_1 v1 v2 : Value} {a0 : S_provisoplain_Shelf} {a1 : List (List UInt8)} {a2 : List (List Int)} {r : Bool} (hst : Star [Blk g0 32 [v0_0, v0_1]] w FF) (hr0_0 : Rd (Ty.slice Ty.u8) w FF v0_0 a0.bytes) (hr0_1 : Rd (Ty.slice (Ty.int .i64)) w FF v0_1 a0.ints) (hr1 : Rd (Ty.slice Ty.u8) w FF v1 a1) (hr2 : Rd (Ty.slice (Ty.int .i64)) w FF v2 a2) (H : provisoplain_Shelf_marked_bpp a0 a1 a2 = some r) :
    Calls Try.prog 34 #[.pointer (some ⟨g0, 0, none⟩), v1, v2] w (Ret fun u_ w_ => u_ = .bool r ∧ SL w FF w_ [Blk g0 32 [v0_0, v0_1]]) := by
 have s0 : SL w FF w [Blk g0 32 [v0_0, v0_1]] := SL.init w FF hst
 refine Bq Try.func34 rfl Try.ntmps34 (Ah rfl) (args := [.pointer (some ⟨g0, 0, none⟩), v1, v2]) fun q0 F0 => ?_
 unfold provisoplain_Shelf_marked_bpp at H
 refine Ai <| Al <| Ak F0 (Aa (Am rfl) <| Ad) fun q3 F4 => Aj <| Ab <| Ai <| Ai <| Al <| Ak F4 (Aa (Ae rfl) <| Aa (Cv rfl) <| Aa (Az Fx.fa32_0 rfl rfl) <| Aa (Ba Fx.nag29 rfl (s0.blk_cell (.head _) rfl)) <| Aa (Cd rfl Try.underlying29 (Cc (Cu hr0_0 s0))) <| Aa (Ae rfl) <| Ad) fun _ F => Aj <| Ab ?_
 obtain ⟨o0, H0, R0⟩ := Aq H
 clear H
 refine Bx (fun a w_ => ∃ p0 : Unit, o0 = .inr (p0) ∧ Fr a 93 [(0, .pointer (some ⟨g0, 0, none⟩)), (2, v2)] ∧ SL w FF w_ [Blk g0 32 [v0_0, v0_1]]) ?_ ?_
 ·have H := H0
  refine Be <| Cq (provisoplain_Shelf_marked_bpp_b2 a0 a1) (fun s1 a w_ => Fr a 93 [(0, .pointer (some ⟨g0, 0, none⟩)), (1, v1), (2, v2), (22, v0_0), (23, .int .i64 (a0.bytes.length : Int)), (24, .int .i64 s1)] ∧ SL w FF w_ [Blk g0 32 [v0_0, v0_1]]) H ?_ ?_
  ·exact ⟨F.sub ⟨rfl, rfl, rfl, rfl, rfl, rfl, trivial⟩, s0⟩
  intro s1 _ w0 h0 o1 H hr
  obtain ⟨F, s2⟩ := h0
  replace H : provisoplain_Shelf_marked_bpp_b2 a0 a1 s1 = some o1 := H
  unfold provisoplain_Shelf_marked_bpp_b2 at H
  refine Ai <| Al <| Ak F (Aa (Cn rfl rfl) <| Ad) fun _ F => Aj <| Ab <| Ai <| Bm F rfl (fun h1 => ?_) (fun h1 => ?_)
  ·replace H := Bb h1 H
   refine Aw <| Ab <| Ai <| Be <| Ai <| Al ?_
   obtain ⟨x0, h2, H⟩ := Aq H
   obtain ⟨a3, c0, G0, h3, h4, h5, h6⟩ := Rd.idx hr0_0 Fx.sl29 rfl h2
   obtain ⟨v0, rfl, h7⟩ := (rd_sl h5 h6)
   replace h4 := h4 _ _ s2
   refine Ak F (Aa (Ae rfl) <| Aa (h3 _ _ _ _ _ _ _ _ _ _ rfl rfl) <| Aa (Ba Fx.nag22 rfl (Cells.at_ h4 (o := 0) rfl)) <| Aa (Am rfl) <| Aa (Am rfl) <| Ad) fun _ F => Aj <| Ab <| Ai <| Ai <| Al <| Ak F (Aa (Ae rfl) <| Aa (Cd rfl Try.underlying22 (Cc (Cu h7 s2))) <| Aa (Ae rfl) <| Ad) fun _ F => Aj <| Ab ?_
   obtain ⟨o2, H1, R1⟩ := Aq H
   clear H
   refine Bx (fun a w_ => ∃ p1 : Unit, o2 = .inr (p1) ∧ Fr a 93 [(0, .pointer (some ⟨g0, 0, none⟩)), (1, v1), (2, v2), (7, .int .i64 s1), (22, v0_0), (23, .int .i64 (a0.bytes.length : Int)), (24, .int .i64 s1)] ∧ SL w FF w_ [Blk g0 32 [v0_0, v0_1]]) ?_ ?_
   ·have H := H1
    refine Be <| Cq (provisoplain_Shelf_marked_bpp_b0 s1 x0) (fun s3 a w_ => Fr a 93 [(0, .pointer (some ⟨g0, 0, none⟩)), (1, v1), (2, v2), (7, .int .i64 s1), (22, v0_0), (23, .int .i64 (a0.bytes.length : Int)), (24, .int .i64 s1), (29, v0), (30, .int .i64 (x0.length : Int)), (31, .int .i64 s3)] ∧ SL w FF w_ [Blk g0 32 [v0_0, v0_1]]) H ?_ ?_
    ·exact ⟨F.sub ⟨rfl, rfl, rfl, rfl, rfl, rfl, rfl, rfl, rfl, rfl, trivial⟩, s2⟩
    intro s3 _ w1 h8 o3 H hr
    obtain ⟨F, s4⟩ := h8
    replace H : provisoplain_Shelf_marked_bpp_b0 s1 x0 s3 = some o3 := H
    unfold provisoplain_Shelf_marked_bpp_b0 at H
    refine Ai <| Al <| Ak F (Aa (Cn rfl rfl) <| Ad) fun _ F => Aj <| Ab <| Ai <| Bm F rfl (fun h9 => ?_) (fun h9 => ?_)
    ·replace H := Bb h9 H
     refine Aw <| Ab <| Ai <| Be <| Ai <| Al ?_
     obtain ⟨x1, ha, H⟩ := Aq H
     obtain ⟨a4, hb, hc⟩ := Dc Flat.u8 (Cu h7 s4) Fx.sl22 rfl ha
     refine Ak F (Aa (hb _ _ _ _ _ _ _ _ _ _ rfl rfl) <| Aa (Ba Fx.nag5 rfl (Cells.at_ hc (o := 0) rfl)) <| Aa (Am rfl) <| Ad) fun _ F => Aj <| Ab <| Ai <| Al ?_
     obtain ⟨x2, hd, H⟩ := Aq H
     refine Ak F (Aa (Ae rfl) <| Aa (Ae rfl) <| Ad) fun _ F => Bi (args := [.tmp 36]) F Fx.fn33 rfl (provisoplain_mark_c (a0 := s1)    hd) rfl fun v3 w2 _ he F => ?_
     obtain ⟨rfl, hf⟩ := he
     have s5 := s4.add hf
     refine Ak F (Aa (ex_cv8 rfl Try.underlying3 Try.underlying5) <| Aa (Dd rfl rfl) <| Ad) fun _ F => Aj <| Ab <| Bm F rfl (fun hg => ?_) (fun hg => ?_)
     ·replace H := Bb hg H
      refine Ai <| Al <| Ak F (Aa (Am rfl) <| Ad) fun _ F => Aj <| Ab ?_
      obtain rfl := Ao H
      obtain rfl := hr _ rfl
      replace H := R1
      try dsimp only at H
      obtain rfl := Ao H
      obtain rfl := hr _ rfl
      replace H := R0
      try dsimp only at H
      obtain rfl := Ao H
      refine Bf <| blk_r <| Bg <| Bg <| blk_r <| Bg <| Bg <| blk_r <| Bg <| Bg <| blk_r <| Bg <| Bg ?_
      refine Ax (rs := [.tmp 6]) (vs := [.bool false]) F (by rfl) ⟨_, _, rfl, Ay rfl, rfl⟩ ⟨_, rfl, ⟨rfl, s5⟩⟩
     replace H := Bc hg H
     refine Aw <| By <| Ab <| Al <| Ak F (Aa (Bp rfl rfl) <| Aa (Ae rfl) <| Ad) fun _ F => Aj ?_
     obtain rfl := Ao H
     refine Ab ?_
     exact ⟨_, rfl, F.sub ⟨rfl, rfl, rfl, rfl, rfl, rfl, rfl, rfl, rfl, rfl, trivial⟩, s5⟩
    replace H := Bc h9 H
    refine Bz <| Bo <| Bo <| Ca ?_
    obtain rfl := Ao H
    obtain rfl := hr _ rfl
    refine Ab ?_
    exact ⟨_, rfl, F.sub ⟨rfl, rfl, rfl, rfl, rfl, rfl, rfl, trivial⟩, s4⟩
   intro _ w3 hJ
   obtain ⟨p1, rfl, F, s6⟩ := hJ
   have H := R1
   clear R1 H1
   try dsimp only at H
   refine Ab <| Ai <| Al ?_
   obtain ⟨x3, hh, H⟩ := Aq H
   obtain ⟨a5, c1, G1, hi, hj, hk, hl⟩ := Rd.idx hr1 Fx.sl29 rfl hh
   obtain ⟨v4, rfl, hm⟩ := (rd_sl hk hl)
   replace hj := hj _ _ s6
   refine Ak F (Aa (Ae rfl) <| Aa (Ae rfl) <| Aa (hi _ _ _ _ _ _ _ _ _ _ rfl rfl) <| Aa (Ba Fx.nag22 rfl (Cells.at_ hj (o := 0) rfl)) <| Aa (Cd rfl Try.underlying22 (Cc (Cu hm s6))) <| Aa (Ae rfl) <| Ad) fun _ F => Aj <| Ab ?_
   obtain ⟨o4, H2, R2⟩ := Aq H
   clear H
   refine Bx (fun a w_ => ∃ p2 : Unit, o4 = .inr (p2) ∧ Fr a 93 [(0, .pointer (some ⟨g0, 0, none⟩)), (1, v1), (2, v2), (22, v0_0), (23, .int .i64 (a0.bytes.length : Int)), (24, .int .i64 s1)] ∧ SL w FF w_ [Blk g0 32 [v0_0, v0_1]]) ?_ ?_
   ·have H := H2
    refine Be <| Cq (provisoplain_Shelf_marked_bpp_b1 s1 x3) (fun s7 a w_ => Fr a 93 [(0, .pointer (some ⟨g0, 0, none⟩)), (1, v1), (2, v2), (7, .int .i64 s1), (22, v0_0), (23, .int .i64 (a0.bytes.length : Int)), (24, .int .i64 s1), (44, v4), (45, .int .i64 (x3.length : Int)), (46, .int .i64 s7)] ∧ SL w FF w_ [Blk g0 32 [v0_0, v0_1]]) H ?_ ?_
    ·exact ⟨F.sub ⟨rfl, rfl, rfl, rfl, rfl, rfl, rfl, rfl, rfl, rfl, trivial⟩, s6⟩
    intro s7 _ w4 hn o5 H hr
    obtain ⟨F, s8⟩ := hn
    replace H : provisoplain_Shelf_marked_bpp_b1 s1 x3 s7 = some o5 := H
    unfold provisoplain_Shelf_marked_bpp_b1 at H
    refine Ai <| Al <| Ak F (Aa (Cn rfl rfl) <| Ad) fun _ F => Aj <| Ab <| Ai <| Bm F rfl (fun ho => ?_) (fun ho => ?_)
    ·replace H := Bb ho H
     refine Aw <| Ab <| Ai <| Be <| Ai <| Al ?_
     obtain ⟨x4, hp, H⟩ := Aq H
     obtain ⟨a6, hq, hs⟩ := Dc Flat.u8 (Cu hm s8) Fx.sl22 rfl hp
     refine Ak F (Aa (hq _ _ _ _ _ _ _ _ _ _ rfl rfl) <| Aa (Ba Fx.nag5 rfl (Cells.at_ hs (o := 0) rfl)) <| Aa (Am rfl) <| Ad) fun _ F => Aj <| Ab <| Ai <| Al ?_
     obtain ⟨x5, ht, H⟩ := Aq H
     refine Ak F (Aa (Ae rfl) <| Aa (Ae rfl) <| Ad) fun _ F => Bi (args := [.tmp 51]) F Fx.fn33 rfl (provisoplain_mark_c (a0 := s1)    ht) rfl fun v5 w5 _ hu F => ?_
     obtain ⟨rfl, hv⟩ := hu
     have s9 := s8.add hv
     refine Ak F (Aa (ex_cv8 rfl Try.underlying3 Try.underlying5) <| Aa (Dd rfl rfl) <| Ad) fun _ F => Aj <| Ab <| Bm F rfl (fun hw => ?_) (fun hw => ?_)
     ·replace H := Bb hw H
      refine Ai <| Al <| Ak F (Aa (Am rfl) <| Ad) fun _ F => Aj <| Ab ?_
      obtain rfl := Ao H
      obtain rfl := hr _ rfl
      replace H := R2
      try dsimp only at H
      obtain rfl := Ao H
      obtain rfl := hr _ rfl
      replace H := R0
      try dsimp only at H
      obtain rfl := Ao H
      refine Bf <| blk_r <| Bg <| Bg <| blk_r <| Bg <| blk_r <| Bg <| Bg <| blk_r <| Bg <| Bg ?_
      refine Ax (rs := [.tmp 6]) (vs := [.bool false]) F (by rfl) ⟨_, _, rfl, Ay rfl, rfl⟩ ⟨_, rfl, ⟨rfl, s9⟩⟩
     replace H := Bc hw H
     refine Aw <| By <| Ab <| Al <| Ak F (Aa (Bp rfl rfl) <| Aa (Ae rfl) <| Ad) fun _ F => Aj ?_
     obtain rfl := Ao H
     refine Ab ?_
     exact ⟨_, rfl, F.sub ⟨rfl, rfl, rfl, rfl, rfl, rfl, rfl, rfl, rfl, rfl, trivial⟩, s9⟩
    replace H := Bc ho H
    refine Bz <| Bo <| Bo <| Ca ?_
    obtain rfl := Ao H
    obtain rfl := hr _ rfl
    refine Ab ?_
    exact ⟨_, rfl, F.sub ⟨rfl, rfl, rfl, rfl, rfl, rfl, trivial⟩, s8⟩
   intro _ w6 hJ
   obtain ⟨p2, rfl, F, sa⟩ := hJ
   have H := R2
   clear R2 H2
   try dsimp only at H
   refine By <| Ab <| Al <| Ak F (Aa (Bp rfl rfl) <| Aa (Ae rfl) <| Ad) fun _ F => Aj ?_
   obtain rfl := Ao H
   refine Ab ?_
   exact ⟨_, rfl, F.sub ⟨rfl, rfl, rfl, rfl, rfl, rfl, trivial⟩, sa⟩
  replace H := Bc h1 H
  refine Bz <| Bo <| Bo <| Ca ?_
  obtain rfl := Ao H
  obtain rfl := hr _ rfl
  refine Ab ?_
  exact ⟨_, rfl, F.sub ⟨rfl, rfl, trivial⟩, s2⟩
 intro _ w7 hJ
 obtain ⟨p0, rfl, F, sb⟩ := hJ
 have H := R0
 clear R0 H0
 try dsimp only at H
 refine Ab <| Ai <| Ai <| Al <| Ak F (Aa (Ae rfl) <| Aa (Cv rfl) <| Aa (Az Fx.fa32_1 rfl rfl) <| Aa (Ba Fx.nag30 rfl (sb.blk_cell (.head _) rfl)) <| Aa (Cd rfl Try.underlying30 (Cc (Cu hr0_1 sb))) <| Aa (Ae rfl) <| Ad) fun _ F => Aj <| Ab ?_
 obtain ⟨o6, H3, R3⟩ := Aq H
 clear H
 refine Bx (fun a w_ => ∃ p3 : Unit, o6 = .inr (p3) ∧ Fr a 93 [] ∧ SL w FF w_ [Blk g0 32 [v0_0, v0_1]]) ?_ ?_
 ·have H := H3
  refine Be <| Cq (provisoplain_Shelf_marked_bpp_b5 a0 a2) (fun sc a w_ => Fr a 93 [(2, v2), (60, v0_1), (61, .int .i64 (a0.ints.length : Int)), (62, .int .i64 sc)] ∧ SL w FF w_ [Blk g0 32 [v0_0, v0_1]]) H ?_ ?_
  ·exact ⟨F.sub ⟨rfl, rfl, rfl, rfl, trivial⟩, sb⟩
  intro sc _ w8 hx o7 H hr
  obtain ⟨F, sd⟩ := hx
  replace H : provisoplain_Shelf_marked_bpp_b5 a0 a2 sc = some o7 := H
  unfold provisoplain_Shelf_marked_bpp_b5 at H
  refine Ai <| Al <| Ak F (Aa (Cn rfl rfl) <| Ad) fun _ F => Aj <| Ab <| Ai <| Bm F rfl (fun hy => ?_) (fun hy => ?_)
  ·replace H := Bb hy H
   refine Aw <| Ab <| Ai <| Be <| Ai <| Al ?_
   obtain ⟨x6, hz, H⟩ := Aq H
   obtain ⟨a7, c2, G2, h10, h11, h12, h13⟩ := Rd.idx hr0_1 Fx.sl30 rfl hz
   obtain ⟨v6, rfl, h14⟩ := (rd_sl h12 h13)
   replace h11 := h11 _ _ sd
   refine Ak F (Aa (Ae rfl) <| Aa (h10 _ _ _ _ _ _ _ _ _ _ rfl rfl) <| Aa (Ba Fx.nag57 rfl (Cells.at_ h11 (o := 0) rfl)) <| Aa (Am rfl) <| Aa (Am rfl) <| Ad) fun _ F => Aj <| Ab <| Ai <| Ai <| Al <| Ak F (Aa (Ae rfl) <| Aa (Cd rfl Try.underlying57 (Cc (Cu h14 sd))) <| Aa (Ae rfl) <| Ad) fun _ F => Aj <| Ab ?_
   obtain ⟨o8, H4, R4⟩ := Aq H
   clear H
   refine Bx (fun a w_ => ∃ p4 : Unit, o8 = .inr (p4) ∧ Fr a 93 [(2, v2), (13, .int .i64 sc), (60, v0_1), (61, .int .i64 (a0.ints.length : Int)), (62, .int .i64 sc)] ∧ SL w FF w_ [Blk g0 32 [v0_0, v0_1]]) ?_ ?_
   ·have H := H4
    refine Be <| Cq (provisoplain_Shelf_marked_bpp_b3 sc x6) (fun se a w_ => Fr a 93 [(2, v2), (13, .int .i64 sc), (60, v0_1), (61, .int .i64 (a0.ints.length : Int)), (62, .int .i64 sc), (67, v6), (68, .int .i64 (x6.length : Int)), (69, .int .i64 se)] ∧ SL w FF w_ [Blk g0 32 [v0_0, v0_1]]) H ?_ ?_
    ·exact ⟨F.sub ⟨rfl, rfl, rfl, rfl, rfl, rfl, rfl, rfl, trivial⟩, sd⟩
    intro se _ w9 h15 o9 H hr
    obtain ⟨F, sf⟩ := h15
    replace H : provisoplain_Shelf_marked_bpp_b3 sc x6 se = some o9 := H
    unfold provisoplain_Shelf_marked_bpp_b3 at H
    refine Ai <| Al <| Ak F (Aa (Cn rfl rfl) <| Ad) fun _ F => Aj <| Ab <| Ai <| Bm F rfl (fun h16 => ?_) (fun h16 => ?_)
    ·replace H := Bb h16 H
     refine Aw <| Ab <| Ai <| Be <| Ai <| Al ?_
     obtain ⟨x7, h17, H⟩ := Aq H
     obtain ⟨a8, h18, h19⟩ := Dc (Flat.int .i64) (Cu h14 sf) Fx.sl57 rfl h17
     refine Ak F (Aa (h18 _ _ _ _ _ _ _ _ _ _ rfl rfl) <| Aa (Ba Fx.nag3 rfl (Cells.at_ h19 (o := 0) rfl)) <| Aa (Am rfl) <| Ad) fun _ F => Aj <| Ab <| Ai <| Al ?_
     obtain ⟨x8, h1a, H⟩ := Aq H
     refine Ak F (Aa (Ae rfl) <| Aa (Ae rfl) <| Ad) fun _ F => Bi (args := [.tmp 74]) F Fx.fn33 rfl (provisoplain_mark_c (a0 := sc)    h1a) rfl fun v7 wa _ h1b F => ?_
     obtain ⟨rfl, h1c⟩ := h1b
     have sg := sf.add h1c
     refine Ak F (Aa (Dd rfl rfl) <| Ad) fun _ F => Aj <| Ab <| Bm F rfl (fun h1d => ?_) (fun h1d => ?_)
     ·replace H := Bb h1d H
      refine Ai <| Al <| Ak F (Aa (Am rfl) <| Ad) fun _ F => Aj <| Ab ?_
      obtain rfl := Ao H
      obtain rfl := hr _ rfl
      replace H := R4
      try dsimp only at H
      obtain rfl := Ao H
      obtain rfl := hr _ rfl
      replace H := R3
      try dsimp only at H
      obtain rfl := Ao H
      refine Bf <| blk_r <| Bg <| Bg <| blk_r <| Bg <| Bg <| blk_r <| Bg <| Bg <| blk_r <| Bg <| Bg ?_
      refine Ax (rs := [.tmp 6]) (vs := [.bool false]) F (by rfl) ⟨_, _, rfl, Ay rfl, rfl⟩ ⟨_, rfl, ⟨rfl, sg⟩⟩
     replace H := Bc h1d H
     refine Aw <| By <| Ab <| Al <| Ak F (Aa (Bp rfl rfl) <| Aa (Ae rfl) <| Ad) fun _ F => Aj ?_
     obtain rfl := Ao H
     refine Ab ?_
     exact ⟨_, rfl, F.sub ⟨rfl, rfl, rfl, rfl, rfl, rfl, rfl, rfl, trivial⟩, sg⟩
    replace H := Bc h16 H
    refine Bz <| Bo <| Bo <| Ca ?_
    obtain rfl := Ao H
    obtain rfl := hr _ rfl
    refine Ab ?_
    exact ⟨_, rfl, F.sub ⟨rfl, rfl, rfl, rfl, rfl, trivial⟩, sf⟩
   intro _ wb hJ
   obtain ⟨p4, rfl, F, sh⟩ := hJ
   have H := R4
   clear R4 H4
   try dsimp only at H
   refine Ab <| Ai <| Al ?_
   obtain ⟨x9, h1e, H⟩ := Aq H
   obtain ⟨a9, c3, G3, h1f, h1g, h1h, h1i⟩ := Rd.idx hr2 Fx.sl30 rfl h1e
   obtain ⟨v8, rfl, h1j⟩ := (rd_sl h1h h1i)
   replace h1g := h1g _ _ sh
   refine Ak F (Aa (Ae rfl) <| Aa (Ae rfl) <| Aa (h1f _ _ _ _ _ _ _ _ _ _ rfl rfl) <| Aa (Ba Fx.nag57 rfl (Cells.at_ h1g (o := 0) rfl)) <| Aa (Cd rfl Try.underlying57 (Cc (Cu h1j sh))) <| Aa (Ae rfl) <| Ad) fun _ F => Aj <| Ab ?_
   obtain ⟨oa, H5, R5⟩ := Aq H
   clear H
   refine Bx (fun a w_ => ∃ p5 : Unit, oa = .inr (p5) ∧ Fr a 93 [(2, v2), (60, v0_1), (61, .int .i64 (a0.ints.length : Int)), (62, .int .i64 sc)] ∧ SL w FF w_ [Blk g0 32 [v0_0, v0_1]]) ?_ ?_
   ·have H := H5
    refine Be <| Cq (provisoplain_Shelf_marked_bpp_b4 sc x9) (fun si a w_ => Fr a 93 [(2, v2), (13, .int .i64 sc), (60, v0_1), (61, .int .i64 (a0.ints.length : Int)), (62, .int .i64 sc), (81, v8), (82, .int .i64 (x9.length : Int)), (83, .int .i64 si)] ∧ SL w FF w_ [Blk g0 32 [v0_0, v0_1]]) H ?_ ?_
    ·exact ⟨F.sub ⟨rfl, rfl, rfl, rfl, rfl, rfl, rfl, rfl, trivial⟩, sh⟩
    intro si _ wc h1k ob H hr
    obtain ⟨F, sj⟩ := h1k
    replace H : provisoplain_Shelf_marked_bpp_b4 sc x9 si = some ob := H
    unfold provisoplain_Shelf_marked_bpp_b4 at H
    refine Ai <| Al <| Ak F (Aa (Cn rfl rfl) <| Ad) fun _ F => Aj <| Ab <| Ai <| Bm F rfl (fun h1l => ?_) (fun h1l => ?_)
    ·replace H := Bb h1l H
     refine Aw <| Ab <| Ai <| Be <| Ai <| Al ?_
     obtain ⟨xa, h1m, H⟩ := Aq H
     obtain ⟨aa, h1n, h1o⟩ := Dc (Flat.int .i64) (Cu h1j sj) Fx.sl57 rfl h1m
     refine Ak F (Aa (h1n _ _ _ _ _ _ _ _ _ _ rfl rfl) <| Aa (Ba Fx.nag3 rfl (Cells.at_ h1o (o := 0) rfl)) <| Aa (Am rfl) <| Ad) fun _ F => Aj <| Ab <| Ai <| Al ?_
     obtain ⟨xb, h1p, H⟩ := Aq H
     refine Ak F (Aa (Ae rfl) <| Aa (Ae rfl) <| Ad) fun _ F => Bi (args := [.tmp 88]) F Fx.fn33 rfl (provisoplain_mark_c (a0 := sc)    h1p) rfl fun v9 wd _ h1q F => ?_
     obtain ⟨rfl, h1r⟩ := h1q
     have sk := sj.add h1r
     refine Ak F (Aa (Dd rfl rfl) <| Ad) fun _ F => Aj <| Ab <| Bm F rfl (fun h1s => ?_) (fun h1s => ?_)
     ·replace H := Bb h1s H
      refine Ai <| Al <| Ak F (Aa (Am rfl) <| Ad) fun _ F => Aj <| Ab ?_
      obtain rfl := Ao H
      obtain rfl := hr _ rfl
      replace H := R5
      try dsimp only at H
      obtain rfl := Ao H
      obtain rfl := hr _ rfl
      replace H := R3
      try dsimp only at H
      obtain rfl := Ao H
      refine Bf <| blk_r <| Bg <| Bg <| blk_r <| Bg <| blk_r <| Bg <| Bg <| blk_r <| Bg <| Bg ?_
      refine Ax (rs := [.tmp 6]) (vs := [.bool false]) F (by rfl) ⟨_, _, rfl, Ay rfl, rfl⟩ ⟨_, rfl, ⟨rfl, sk⟩⟩
     replace H := Bc h1s H
     refine Aw <| By <| Ab <| Al <| Ak F (Aa (Bp rfl rfl) <| Aa (Ae rfl) <| Ad) fun _ F => Aj ?_
     obtain rfl := Ao H
     refine Ab ?_
     exact ⟨_, rfl, F.sub ⟨rfl, rfl, rfl, rfl, rfl, rfl, rfl, rfl, trivial⟩, sk⟩
    replace H := Bc h1l H
    refine Bz <| Bo <| Bo <| Ca ?_
    obtain rfl := Ao H
    obtain rfl := hr _ rfl
    refine Ab ?_
    exact ⟨_, rfl, F.sub ⟨rfl, rfl, rfl, rfl, trivial⟩, sj⟩
   intro _ we hJ
   obtain ⟨p5, rfl, F, sl⟩ := hJ
   have H := R5
   clear R5 H5
   try dsimp only at H
   refine By <| Ab <| Al <| Ak F (Aa (Bp rfl rfl) <| Aa (Ae rfl) <| Ad) fun _ F => Aj ?_
   obtain rfl := Ao H
   refine Ab ?_
   exact ⟨_, rfl, F.sub ⟨rfl, rfl, rfl, rfl, trivial⟩, sl⟩
  replace H := Bc hy H
  refine Bz <| Bo <| Bo <| Ca ?_
  obtain rfl := Ao H
  obtain rfl := hr _ rfl
  refine Ab ?_
  exact ⟨_, rfl, F.sub trivial, sd⟩
 intro _ wf hJ
 obtain ⟨p3, rfl, F, sm⟩ := hJ
 have H := R3
 clear R3 H3
 try dsimp only at H
 refine Ab <| Ai <| Al <| Ak F (Aa (Am rfl) <| Ad) fun _ F => Aj <| Ab ?_
 obtain rfl := Ao H
 refine Bf ?_
 refine Ax (rs := [.tmp 6]) (vs := [.bool true]) F (by rfl) ⟨_, _, rfl, Ay rfl, rfl⟩ ⟨_, rfl, ⟨rfl, sm⟩⟩
-- (*proviso/provisoplain.Shelf).Own
theorem app_ok_ {α : Type} {lim : Nat} {l m : List α} (h : l.length + m.length ≤ lim) : app lim l m = some (l ++ m) := by unfold app; rw [if_pos h]
theorem provisoplain_Shelf_Own_c {w : World} {FF : List Nat} {g0 : Nat} {v0_0 v0_1 : Value} {a0 : S_provisoplain_Shelf} {r : Bool} (hst : Star [Blk g0 32 [v0_0, v0_1], Sl (Ty.slice Ty.u8) v0_0 a0.bytes, Sl (Ty.slice (Ty.int .i64)) v0_1 a0.ints] w FF) (H : provisoplain_Shelf_Own a0 = some r) :
    Calls Try.prog 14 #[.pointer (some ⟨g0, 0, none⟩)] w (Ret fun u_ w_ => u_ = .bool r ∧ SL w FF w_ []) := by
 have s : SL w FF w [Blk g0 32 [v0_0, v0_1], Sl (Ty.slice Ty.u8) v0_0 a0.bytes, Sl (Ty.slice (Ty.int .i64)) v0_1 a0.ints] := SL.init w FF hst
 unfold provisoplain_Shelf_Own at H
 split at H
 case isFalse => cases H
 rename_i hC
 obtain ⟨hC1, hC2, hC3, hC4⟩ := hC
 obtain ⟨lb, hlb, s⟩ := s.f1.rows_open
 obtain ⟨li, hli, s⟩ := s.f3.rows_open
 have hx : ∀ x ∈ lb, x.2.length + 80 ≤ 140737488355328 := fun x h => hC1 x.2 (by rw [← hlb]; exact List.mem_map_of_mem h)
 have hy : ∀ x ∈ li, x.2.length + 80 ≤ 17592186044416 := fun x h => hC2 x.2 (by rw [← hli]; exact List.mem_map_of_mem h)
 have hlbl : lb.length ≤ 1048576000 := by rw [← hlb, List.length_map] at hC3; exact hC3
 have hlil : li.length ≤ 1048576000 := by rw [← hli, List.length_map] at hC4; exact hC4
 have hmlb : (mkd fB 0 lb).length = lb.length := by have := congrArg List.length (mkd_fst fB lb 0); simpa using this
 have hmli : (mkd fI 0 li).length = li.length := by have := congrArg List.length (mkd_fst fI li 0); simpa using this
 have s : SL w FF w [Rws Ty.u8 lb, Sl Ty.val v0_0 (lb.map Prod.fst), Rws (Ty.int .i64) li, Sl Ty.val v0_1 (li.map Prod.fst), Blk g0 32 [v0_0, v0_1]] := s.f1.f2.f3
 refine Bq Try.func14 rfl Try.ntmps14 (Ah rfl) (args := [.pointer (some ⟨g0, 0, none⟩)]) fun q0 F => Ai <| Al <| Ak F (Aa (Am rfl) <| Ad) fun _ F => Aj <| Ab <| Ai <| Bx (fun a w_ => Fr a 115 [(0, .pointer (some ⟨g0, 0, none⟩)), (2, .bool false)] ∧ SL w FF w_ [Rws Ty.u8 (mkd fB 0 lb), Sl Ty.val v0_0 (lb.map Prod.fst), Rws (Ty.int .i64) li, Sl Ty.val v0_1 (li.map Prod.fst), Blk g0 32 [v0_0, v0_1]]) ?_ ?_
 ·refine Ai <| Al <| Ak F (Aa (Ae rfl) <| Aa (Cv rfl) <| Aa (Az Fx.fa32_0 rfl rfl) <| Aa (Ba Fx.nag29 rfl (s.blk_cell (.tail _ <| .tail _ <| .tail _ <| .tail _ <| .head _) rfl)) <| Aa (Cd rfl Try.underlying29 (Cc (s.own_rd (.tail _ <| .head _)))) <| Aa (Ae rfl) <| Ad) fun _ F => Aj <| Ab <| Be <| wp_cnt lb.length (fun i a w_ => Fr a 115 [(0, .pointer (some ⟨g0, 0, none⟩)), (2, .bool false), (20, v0_0), (21, .int .i64 ((lb.map Prod.fst).length : Int)), (22, .int .i64 (i : Int))] ∧ ∃ pre todo, lb = pre ++ todo ∧ pre.length = i ∧ SL w FF w_ [Rws Ty.u8 (mkd fB 0 pre), Rws Ty.u8 todo, Sl Ty.val v0_0 (lb.map Prod.fst), Rws (Ty.int .i64) li, Sl Ty.val v0_1 (li.map Prod.fst), Blk g0 32 [v0_0, v0_1]]) ?_ ?_
  ·exact ⟨F.sub ⟨rfl, rfl, rfl, rfl, rfl, trivial⟩, [], lb, rfl, rfl, s.rows_nil⟩
  rintro i a w_ hi ⟨F, pre, todo, e1, e2, s⟩
  have hlen : (lb.map Prod.fst).length = pre.length + todo.length := by rw [e1]; simp
  rw [hlen, e2] at F
  refine Ai <| Al <| Ak F (Aa (Cn rfl rfl) <| Ad) fun _ F => Aj <| Ab <| Ai <| Bm F rfl (fun hb => ?_) (fun hb => ?_)
  ·have hlt : i < i + todo.length := by have := of_decide_eq_true hb; omega
   obtain ⟨x, r, rfl⟩ : ∃ x r, todo = x :: r := by
     cases todo with
     | nil => simp at hlt
     | cons x r => exact ⟨x, r, rfl⟩
   have hN : i < lb.length := by rw [e1, List.length_append, List.length_cons]; omega
   refine Aw <| Ab <| Ai <| Be <| Ai <| Al ?_
   obtain ⟨ad, hi2, hc⟩ := hd_idx (i := (i : Int)) (x := x.1) s (.tail _ <| .tail _ <| .head _) Fx.sl29 (by rw [e1, List.map_append, List.map_cons]; exact idx_mid (by rw [List.length_map]; exact e2))
   refine Ak F (Aa (Ae rfl) <| Aa (hi2 _ _ _ _ _ _ _ _ _ _ rfl rfl) <| Aa (Ba Fx.nag22 rfl hc) <| Aa (Am rfl) <| Aa (Am rfl) <| Ad) fun _ F => Aj <| Ab ?_
   have s := s.f1.rows_pop
   refine Ai <| Al <| Ak F (Aa (Ae rfl) <| Aa (Cd rfl Try.underlying22 (Cc (s.own_rd (.head _)))) <| Aa (Ae rfl) <| Ad) fun _ F => Aj <| Ab <| Be <| wp_cnt x.2.length (fun k a w_ => Fr a 115 [(0, .pointer (some ⟨g0, 0, none⟩)), (2, .bool false), (20, v0_0), (21, .int .i64 ((i + (x :: r).length : Nat) : Int)), (22, .int .i64 (i : Int)), (3, .int .i64 (i : Int)), (4, x.1.1), (27, x.1.1), (28, .int .i64 (x.2.length : Int)), (29, .int .i64 (k : Int))] ∧ SL w FF w_ [Sl Ty.u8 x.1.1 (List.replicate k (fB i) ++ x.2.drop k), Rws Ty.u8 r, Rws Ty.u8 (mkd fB 0 pre), Sl Ty.val v0_0 (lb.map Prod.fst), Rws (Ty.int .i64) li, Sl Ty.val v0_1 (li.map Prod.fst), Blk g0 32 [v0_0, v0_1]]) ?_ ?_
   ·exact ⟨F.sub ⟨rfl, rfl, rfl, rfl, rfl, rfl, rfl, rfl, rfl, rfl, trivial⟩, s⟩
   rintro k a w_ hk ⟨F, s⟩
   refine Ai <| Al <| Ak F (Aa (Cn rfl rfl) <| Ad) fun _ F => Aj <| Ab <| Ai <| Bm F rfl (fun hb => ?_) (fun hb => ?_)
   ·have hk2 : k < x.2.length := by have := of_decide_eq_true hb; omega
    have hx2 : x.2.length + 80 ≤ 140737488355328 := hx x (by rw [e1]; simp)
    refine Aw <| Ab <| Ai <| Be <| Ai <| Al <| Ak F (Aa (Ae rfl) <| Aa (Am rfl) <| Ad) fun _ F => Aj <| Ab <| Al <| Ak F (Aa (Ae rfl) <| Aa (Ae rfl) <| Aa (Ae rfl) <| Ad) fun _ F => Bi (args := [.tmp 34]) F Fx.fn33 rfl (provisoplain_mark_c (a0 := (i : Int)) rfl) rfl fun u w2 _ hS F => ?_
    obtain ⟨rfl, hq⟩ := hS
    have s := s.add hq
    refine Ak F (Aa (ex_cv8 rfl Try.underlying3 Try.underlying5) <| Ad) fun _ F => ?_
    obtain ⟨ad2, hi3, he⟩ := Cf Flat.u8 s (.head _) Fx.sl22 rfl (idx_mark hk2)
    refine Ak F (Aa (hi3 _ _ _ _ _ _ _ _ _ _ rfl rfl) <| Ad) fun _ F => ?_
    refine Cr (y' := fB i) Flat.u8 F s he (idx_mark hk2) rfl rfl (by rfl) Fx.sz5 fun w3 _ F s => ?_
    rw [set_mark hk2] at s
    refine Aj <| By <| Ab <| Al <| Ak F (Aa (Bp rfl rfl) <| Aa (Ae rfl) <| Ad) fun _ F => Aj ?_
    rw [show IntKind.i64.wrap ((k : Int) + 1) = ((k + 1 : Nat) : Int) from by rw [wrap_small (n := (k : Int) + 1) (by omega) (by omega)]; omega] at F
    refine Ab ?_
    exact ⟨hk2, F.sub ⟨rfl, rfl, rfl, rfl, rfl, rfl, rfl, rfl, rfl, rfl, trivial⟩, s⟩
   have hk2 : k = x.2.length := by have := of_decide_eq_false hb; omega
   refine Bz <| Bo <| Bo <| Ca ?_
   rw [end_mark hk2] at s
   have s := s.f2.f1.rows_push
   rw [show mkd fB 0 pre ++ [(x.1, List.replicate x.2.length (fB i))] = mkd fB 0 (pre ++ [x]) from by rw [mkd_snoc, Nat.zero_add, e2]] at s
   refine By <| Ab <| Al <| Ak F (Aa (Bp rfl rfl) <| Aa (Ae rfl) <| Ad) fun _ F => Aj <| Ab ?_
   rw [show IntKind.i64.wrap ((i : Int) + 1) = ((i + 1 : Nat) : Int) from by rw [wrap_small (n := (i : Int) + 1) (by omega) (by omega)]; omega] at F
   rw [show ((i + (x :: r).length : Nat) : Int) = ((lb.map Prod.fst).length : Int) from by rw [hlen, e2]] at F
   exact ⟨hN, F.sub ⟨rfl, rfl, rfl, rfl, rfl, trivial⟩, pre ++ [x], r, by rw [e1]; simp, by simp [e2], s⟩
  have h0 : todo = [] := by
    have := of_decide_eq_false hb
    exact List.eq_nil_of_length_eq_zero (by omega)
  subst h0
  obtain rfl : lb = pre := by rw [e1, List.append_nil]
  refine Bz <| Bo <| Bo <| Ca <| Ab ?_
  exact ⟨F.sub ⟨rfl, rfl, trivial⟩, s.f1.drop⟩
 intro a w_ hJ
 obtain ⟨F, s⟩ := hJ
 refine Ab ?_
 have hxB := hx
 clear hx
 have hx := hy
 have s : SL w FF w_ [Rws (Ty.int .i64) li, Sl Ty.val v0_1 (li.map Prod.fst), Rws Ty.u8 (mkd fB 0 lb), Sl Ty.val v0_0 (lb.map Prod.fst), Blk g0 32 [v0_0, v0_1]] := s.f3.f3
 refine Ai <| Bx (fun a w_ => Fr a 115 [(0, .pointer (some ⟨g0, 0, none⟩)), (2, .bool false)] ∧ SL w FF w_ [Rws (Ty.int .i64) (mkd fI 0 li), Sl Ty.val v0_1 (li.map Prod.fst), Rws Ty.u8 (mkd fB 0 lb), Sl Ty.val v0_0 (lb.map Prod.fst), Blk g0 32 [v0_0, v0_1]]) ?_ ?_
 ·refine Ai <| Al <| Ak F (Aa (Ae rfl) <| Aa (Cv rfl) <| Aa (Az Fx.fa32_1 rfl rfl) <| Aa (Ba Fx.nag30 rfl (s.blk_cell (.tail _ <| .tail _ <| .tail _ <| .tail _ <| .head _) rfl)) <| Aa (Cd rfl Try.underlying30 (Cc (s.own_rd (.tail _ <| .head _)))) <| Aa (Ae rfl) <| Ad) fun _ F => Aj <| Ab <| Be <| wp_cnt li.length (fun i a w_ => Fr a 115 [(0, .pointer (some ⟨g0, 0, none⟩)), (2, .bool false), (43, v0_1), (44, .int .i64 ((li.map Prod.fst).length : Int)), (45, .int .i64 (i : Int))] ∧ ∃ pre todo, li = pre ++ todo ∧ pre.length = i ∧ SL w FF w_ [Rws (Ty.int .i64) (mkd fI 0 pre), Rws (Ty.int .i64) todo, Sl Ty.val v0_1 (li.map Prod.fst), Rws Ty.u8 (mkd fB 0 lb), Sl Ty.val v0_0 (lb.map Prod.fst), Blk g0 32 [v0_0, v0_1]]) ?_ ?_
  ·exact ⟨F.sub ⟨rfl, rfl, rfl, rfl, rfl, trivial⟩, [], li, rfl, rfl, s.rows_nil⟩
  rintro i a w_ hi ⟨F, pre, todo, e1, e2, s⟩
  have hlen : (li.map Prod.fst).length = pre.length + todo.length := by rw [e1]; simp
  rw [hlen, e2] at F
  refine Ai <| Al <| Ak F (Aa (Cn rfl rfl) <| Ad) fun _ F => Aj <| Ab <| Ai <| Bm F rfl (fun hb => ?_) (fun hb => ?_)
  ·have hlt : i < i + todo.length := by have := of_decide_eq_true hb; omega
   obtain ⟨x, r, rfl⟩ : ∃ x r, todo = x :: r := by
     cases todo with
     | nil => simp at hlt
     | cons x r => exact ⟨x, r, rfl⟩
   have hN : i < li.length := by rw [e1, List.length_append, List.length_cons]; omega
   refine Aw <| Ab <| Ai <| Be <| Ai <| Al ?_
   obtain ⟨ad, hi2, hc⟩ := hd_idx (i := (i : Int)) (x := x.1) s (.tail _ <| .tail _ <| .head _) Fx.sl30 (by rw [e1, List.map_append, List.map_cons]; exact idx_mid (by rw [List.length_map]; exact e2))
   refine Ak F (Aa (Ae rfl) <| Aa (hi2 _ _ _ _ _ _ _ _ _ _ rfl rfl) <| Aa (Ba Fx.nag57 rfl hc) <| Aa (Am rfl) <| Aa (Am rfl) <| Ad) fun _ F => Aj <| Ab ?_
   have s := s.f1.rows_pop
   refine Ai <| Al <| Ak F (Aa (Ae rfl) <| Aa (Cd rfl Try.underlying57 (Cc (s.own_rd (.head _)))) <| Aa (Ae rfl) <| Ad) fun _ F => Aj <| Ab <| Be <| wp_cnt x.2.length (fun k a w_ => Fr a 115 [(0, .pointer (some ⟨g0, 0, none⟩)), (2, .bool false), (43, v0_1), (44, .int .i64 ((i + (x :: r).length : Nat) : Int)), (45, .int .i64 (i : Int)), (6, .int .i64 (i : Int)), (7, x.1.1), (50, x.1.1), (51, .int .i64 (x.2.length : Int)), (52, .int .i64 (k : Int))] ∧ SL w FF w_ [Sl (Ty.int .i64) x.1.1 (List.replicate k (fI i) ++ x.2.drop k), Rws (Ty.int .i64) r, Rws (Ty.int .i64) (mkd fI 0 pre), Sl Ty.val v0_1 (li.map Prod.fst), Rws Ty.u8 (mkd fB 0 lb), Sl Ty.val v0_0 (lb.map Prod.fst), Blk g0 32 [v0_0, v0_1]]) ?_ ?_
   ·exact ⟨F.sub ⟨rfl, rfl, rfl, rfl, rfl, rfl, rfl, rfl, rfl, rfl, trivial⟩, s⟩
   rintro k a w_ hk ⟨F, s⟩
   refine Ai <| Al <| Ak F (Aa (Cn rfl rfl) <| Ad) fun _ F => Aj <| Ab <| Ai <| Bm F rfl (fun hb => ?_) (fun hb => ?_)
   ·have hk2 : k < x.2.length := by have := of_decide_eq_true hb; omega
    have hx2 : x.2.length + 80 ≤ 17592186044416 := hx x (by rw [e1]; simp)
    refine Aw <| Ab <| Ai <| Be <| Ai <| Al <| Ak F (Aa (Ae rfl) <| Aa (Am rfl) <| Ad) fun _ F => Aj <| Ab <| Al <| Ak F (Aa (Ae rfl) <| Aa (Ae rfl) <| Aa (Ae rfl) <| Ad) fun _ F => Bi (args := [.tmp 57]) F Fx.fn33 rfl (provisoplain_mark_c (a0 := (i : Int)) rfl) rfl fun u w2 _ hS F => ?_
    obtain ⟨rfl, hq⟩ := hS
    have s := s.add hq
    obtain ⟨ad2, hi3, he⟩ := Cf (Flat.int .i64) s (.head _) Fx.sl57 rfl (idx_mark hk2)
    refine Ak F (Aa (hi3 _ _ _ _ _ _ _ _ _ _ rfl rfl) <| Ad) fun _ F => ?_
    refine Cr (y' := fI i) (Flat.int .i64) F s he (idx_mark hk2) rfl rfl (by rfl) Fx.sz3 fun w3 _ F s => ?_
    rw [set_mark hk2] at s
    refine Aj <| By <| Ab <| Al <| Ak F (Aa (Bp rfl rfl) <| Aa (Ae rfl) <| Ad) fun _ F => Aj ?_
    rw [show IntKind.i64.wrap ((k : Int) + 1) = ((k + 1 : Nat) : Int) from by rw [wrap_small (n := (k : Int) + 1) (by omega) (by omega)]; omega] at F
    refine Ab ?_
    exact ⟨hk2, F.sub ⟨rfl, rfl, rfl, rfl, rfl, rfl, rfl, rfl, rfl, rfl, trivial⟩, s⟩
   have hk2 : k = x.2.length := by have := of_decide_eq_false hb; omega
   refine Bz <| Bo <| Bo <| Ca ?_
   rw [end_mark hk2] at s
   have s := s.f2.f1.rows_push
   rw [show mkd fI 0 pre ++ [(x.1, List.replicate x.2.length (fI i))] = mkd fI 0 (pre ++ [x]) from by rw [mkd_snoc, Nat.zero_add, e2]] at s
   refine By <| Ab <| Al <| Ak F (Aa (Bp rfl rfl) <| Aa (Ae rfl) <| Ad) fun _ F => Aj <| Ab ?_
   rw [show IntKind.i64.wrap ((i : Int) + 1) = ((i + 1 : Nat) : Int) from by rw [wrap_small (n := (i : Int) + 1) (by omega) (by omega)]; omega] at F
   rw [show ((i + (x :: r).length : Nat) : Int) = ((li.map Prod.fst).length : Int) from by rw [hlen, e2]] at F
   exact ⟨hN, F.sub ⟨rfl, rfl, rfl, rfl, rfl, trivial⟩, pre ++ [x], r, by rw [e1]; simp, by simp [e2], s⟩
  have h0 : todo = [] := by
    have := of_decide_eq_false hb
    exact List.eq_nil_of_length_eq_zero (by omega)
  subst h0
  obtain rfl : li = pre := by rw [e1, List.append_nil]
  refine Bz <| Bo <| Bo <| Ca <| Ab ?_
  exact ⟨F.sub ⟨rfl, rfl, trivial⟩, s.f1.drop⟩
 intro a w_ hJ
 obtain ⟨F, s⟩ := hJ
 refine Ab <| Ai <| Al <| Ak F (Aa (Am rfl) <| Ad) fun _ F => Aj <| Ab <| Ai <| Al <| Ak F (Aa (Am rfl) <| Ad) fun _ F => Aj <| Ab ?_
 clear hx
 have hx := hxB
 have s : SL w FF w_ [Rws Ty.u8 (mkd fB 0 lb), Sl Ty.val v0_0 (lb.map Prod.fst), Rws (Ty.int .i64) (mkd fI 0 li), Sl Ty.val v0_1 (li.map Prod.fst), Blk g0 32 [v0_0, v0_1]] := s.f3.f3
 refine Ai <| Bx (fun a w_ => ∃ (vm : Value) (d : List ((V1 × List UInt8) × (V1 × List UInt8))), Fr a 115 [(0, .pointer (some ⟨g0, 0, none⟩)), (2, .bool false), (10, .slice none 0 0), (9, vm)] ∧ d.map Prod.fst = (mkd fB 0 lb) ∧ (d.map fun y => y.2.2) = mores fB 0 ((mkd fB 0 lb).map Prod.snd) ∧ SL w FF w_ [Sl Ty.val vm (d.map fun y => y.2.1), Twos Ty.u8 d, Sl Ty.val v0_0 (lb.map Prod.fst), Rws (Ty.int .i64) (mkd fI 0 li), Sl Ty.val v0_1 (li.map Prod.fst), Blk g0 32 [v0_0, v0_1]]) ?_ ?_
 ·refine Ai <| Al <| Ak F (Aa (Ae rfl) <| Aa (Cv rfl) <| Aa (Az Fx.fa32_0 rfl rfl) <| Aa (Ba Fx.nag29 rfl (s.blk_cell (.tail _ <| .tail _ <| .tail _ <| .tail _ <| .head _) rfl)) <| Aa (Cd rfl Try.underlying29 (Cc (s.own_rd (.tail _ <| .head _)))) <| Aa (Ae rfl) <| Ad) fun _ F => Aj <| Ab <| Be <| wp_cnt (mkd fB 0 lb).length (fun i a w_ => ∃ (vm : Value) (d : List ((V1 × List UInt8) × (V1 × List UInt8))) (pre todo : List (V1 × List UInt8)), Fr a 115 [(0, .pointer (some ⟨g0, 0, none⟩)), (2, .bool false), (10, .slice none 0 0), (65, v0_0), (66, .int .i64 ((lb.map Prod.fst).length : Int)), (67, .int .i64 (i : Int)), (9, vm)] ∧ (mkd fB 0 lb) = pre ++ todo ∧ pre.length = i ∧ d.map Prod.fst = pre ∧ (d.map fun y => y.2.2) = mores fB 0 (pre.map Prod.snd) ∧ SL w FF w_ [Sl Ty.val vm (d.map fun y => y.2.1), Twos Ty.u8 d, Rws Ty.u8 todo, Sl Ty.val v0_0 (lb.map Prod.fst), Rws (Ty.int .i64) (mkd fI 0 li), Sl Ty.val v0_1 (li.map Prod.fst), Blk g0 32 [v0_0, v0_1]]) ?_ ?_
  ·exact ⟨.slice none 0 0, [], [], (mkd fB 0 lb), F.sub ⟨rfl, rfl, rfl, rfl, rfl, rfl, rfl, trivial⟩, rfl, rfl, rfl, rfl, SL.nilSl s.twos_nil⟩
  rintro i a w_ hi ⟨vm, d, pre, todo, F, e1, e2, e3, e4, s⟩
  have hmf : (mkd fB 0 lb).map Prod.fst = lb.map Prod.fst := mkd_fst _ _ _
  have hlen : (lb.map Prod.fst).length = pre.length + todo.length := by rw [← hmf, e1]; simp
  rw [hlen, e2] at F
  refine Ai <| Al <| Ak F (Aa (Cn rfl rfl) <| Ad) fun _ F => Aj <| Ab <| Ai <| Bm F rfl (fun hb => ?_) (fun hb => ?_)
  ·have hlt : i < i + todo.length := by have := of_decide_eq_true hb; omega
   obtain ⟨x, r, rfl⟩ : ∃ x r, todo = x :: r := by
     cases todo with
     | nil => simp at hlt
     | cons x r => exact ⟨x, r, rfl⟩
   have hN : i < (mkd fB 0 lb).length := by rw [e1, List.length_append, List.length_cons]; omega
   have hNl : (mkd fB 0 lb).length = lb.length := by have := congrArg List.length hmf; simpa using this
   have hx2 : x.2.length + 80 ≤ 140737488355328 := by
     obtain ⟨y, hy, hyl⟩ := marks_len fB (lb.map Prod.snd) 0 x.2 (by rw [← mkd_snd, e1]; simp)
     obtain ⟨z, hz, rfl⟩ := List.mem_map.1 hy
     have := hx z hz
     omega
   refine Aw <| Ab <| Ai <| Be <| Ai <| Al ?_
   obtain ⟨ad, hi2, hc⟩ := hd_idx (i := (i : Int)) (x := x.1) s (.tail _ <| .tail _ <| .tail _ <| .head _) Fx.sl29 (by rw [← hmf, e1, List.map_append, List.map_cons]; exact idx_mid (by rw [List.length_map]; exact e2))
   refine Ak F (Aa (Ae rfl) <| Aa (hi2 _ _ _ _ _ _ _ _ _ _ rfl rfl) <| Aa (Ba Fx.nag22 rfl hc) <| Aa (Am rfl) <| Aa (Am rfl) <| Ad) fun _ F => Aj <| Ab ?_
   have s := s.f2.rows_pop.gw_init
   refine Ai <| Al <| Ak F (Aa (Ae rfl) <| Aa (Am rfl) <| Ad) fun _ F => Aj <| Ab <| Ai <| Bx (fun a w_ => ∃ vg : Value, Fr a 115 [(0, .pointer (some ⟨g0, 0, none⟩)), (2, .bool false), (10, .slice none 0 0), (65, v0_0), (9, vm), (66, .int .i64 ((i + (x :: r).length : Nat) : Int)), (67, .int .i64 (i : Int)), (11, .int .i64 (i : Int)), (13, vg)] ∧ SL w FF w_ [Gw Ty.u8 x.1.1 x.2 vg (x.2 ++ List.replicate 80 (fB i)), Rws Ty.u8 r, Sl Ty.val vm (d.map fun y => y.2.1), Twos Ty.u8 d, Sl Ty.val v0_0 (lb.map Prod.fst), Rws (Ty.int .i64) (mkd fI 0 li), Sl Ty.val v0_1 (li.map Prod.fst), Blk g0 32 [v0_0, v0_1]]) ?_ ?_
   ·refine Ai <| Al <| Ak F (Aa (Ae rfl) <| Ad) fun _ F => Aj <| Ab <| Be <| wp_cnt 80 (fun k a w_ => ∃ vg : Value, Fr a 115 [(0, .pointer (some ⟨g0, 0, none⟩)), (2, .bool false), (10, .slice none 0 0), (65, v0_0), (9, vm), (66, .int .i64 ((i + (x :: r).length : Nat) : Int)), (67, .int .i64 (i : Int)), (11, .int .i64 (i : Int)), (13, vg), (73, .int .i64 (k : Int))] ∧ SL w FF w_ [Gw Ty.u8 x.1.1 x.2 vg (x.2 ++ List.replicate k (fB i)), Rws Ty.u8 r, Sl Ty.val vm (d.map fun y => y.2.1), Twos Ty.u8 d, Sl Ty.val v0_0 (lb.map Prod.fst), Rws (Ty.int .i64) (mkd fI 0 li), Sl Ty.val v0_1 (li.map Prod.fst), Blk g0 32 [v0_0, v0_1]]) ?_ ?_
    ·exact ⟨x.1.1, F.sub ⟨rfl, rfl, rfl, rfl, rfl, rfl, rfl, rfl, rfl, rfl, trivial⟩, by simpa using s⟩
    rintro k a w_ hk ⟨vg, F, s⟩
    refine Ai <| Al <| Ak F (Aa (Cn rfl rfl) <| Ad) fun _ F => Aj <| Ab <| Ai <| Bm F rfl (fun hb => ?_) (fun hb => ?_)
    ·have hk2 : k < 80 := by have := of_decide_eq_true hb; omega
     refine Aw <| Ab <| Ai <| Be <| Al <| Ak F (Aa (Ae rfl) <| Aa (Ae rfl) <| Ad) fun _ F => Bi (args := [.tmp 76]) F Fx.fn33 rfl (provisoplain_mark_c (a0 := (i : Int)) rfl) rfl fun u w2 _ hS F => ?_
     obtain ⟨rfl, hq⟩ := hS
     have s := s.add hq
     refine Ak F (Aa (ex_cv8 rfl Try.underlying3 Try.underlying5) <| Ad) fun _ F => ?_
     refine Cm (parts := [(0, .tmp 78)]) Flat.u8 [fB i] F s Fx.sl22 rfl (by decide) rfl rfl rfl (by simp [Value.cells]) rfl rfl rfl fun vn w3 _ F s => ?_
     obtain ⟨_, hr_⟩ := s.own_rd (.head _)
     have s := s.f1
     refine st_append_gw Flat.u8 F s Fx.sl22 rfl rfl rfl rfl hr_ rfl rfl (lim := 140737488355328) (s := x.2 ++ List.replicate (k + 1) (fB i)) (by unfold app; rw [if_pos (by simp; omega), List.append_assoc, List.replicate_succ']) rfl fun vg w4 _ F s => ?_
     have s := s.f1.drop
     refine Ak F (Aa (Am rfl) <| Ad) fun _ F => Aj <| By <| Ab <| Al <| Ak F (Aa (Bp rfl rfl) <| Aa (Ae rfl) <| Ad) fun _ F => Aj <| Ab ?_
     rw [show IntKind.i64.wrap ((k : Int) + 1) = ((k + 1 : Nat) : Int) from by rw [wrap_small (n := (k : Int) + 1) (by omega) (by omega)]; omega] at F
     exact ⟨hk2, vg, F.sub ⟨rfl, rfl, rfl, rfl, rfl, rfl, rfl, rfl, rfl, rfl, trivial⟩, s⟩
    have hk2 : k = 80 := by have := of_decide_eq_false hb; omega
    subst hk2
    refine Bz <| Bo <| Bo <| Ca <| Ab ?_
    exact ⟨vg, F.sub ⟨rfl, rfl, rfl, rfl, rfl, rfl, rfl, rfl, rfl, trivial⟩, s⟩
   intro a w_ hJ
   obtain ⟨vg, F, s⟩ := hJ
   refine Ab ?_
   obtain ⟨Ag, cg, hvg⟩ := s.gw_form
   have h1g : vg.oneCell' = true := by rw [hvg]; rfl
   have hcg : vg.cells = ⟨[vg]⟩ := by rw [hvg]; rfl
   refine Al <| Ak F (Aa (Ae rfl) <| Aa (Ae rfl) <| Ad) fun _ F => ?_
   refine Cm (parts := [(0, .tmp 83)]) (vs := [vg]) Flat.val [⟨vg, h1g⟩] F s Fx.sl29 rfl (by decide) rfl rfl rfl (by simp [hcg]) (by simp [hcg]) rfl rfl fun vn w3 _ F s => ?_
   obtain ⟨_, hr_⟩ := s.own_rd (.head _)
   have s := s.f3
   refine Ch Flat.val F s Fx.sl29 rfl rfl rfl rfl hr_ rfl rfl (lim := 5864062014805) (app_ok_ (by rw [List.length_map]; have := congrArg List.length e3; rw [List.length_map] at this; simp only [List.length_cons, List.length_nil]; omega)) rfl fun vm2 w4 _ F s => ?_
   have s := s.f1.drop
   have s := s.f3.f2.gw_two (u := x.1) (v := ⟨vg, h1g⟩)
   refine Ak F (Aa (Am rfl) <| Ad) fun _ F => Aj <| By <| Ab <| Al <| Ak F (Aa (Bp rfl rfl) <| Aa (Ae rfl) <| Ad) fun _ F => Aj <| Ab ?_
   rw [show IntKind.i64.wrap ((i : Int) + 1) = ((i + 1 : Nat) : Int) from by rw [wrap_small (n := (i : Int) + 1) (by omega) (by omega)]; omega] at F
   rw [show ((i + (x :: r).length : Nat) : Int) = ((lb.map Prod.fst).length : Int) from by rw [hlen, e2]] at F
   obtain ⟨g1, g2⟩ := dt_snoc (x := x) (vg := ⟨vg, h1g⟩) e3 e4 e2
   exact ⟨hN, vm2, _, pre ++ [x], r, F.sub ⟨rfl, rfl, rfl, rfl, rfl, rfl, rfl, trivial⟩, by rw [e1]; simp, by simp [e2], g1, g2, by rw [List.map_append]; exact s.f1⟩
  have h0 : todo = [] := by
    have := of_decide_eq_false hb
    exact List.eq_nil_of_length_eq_zero (by omega)
  subst h0
  obtain rfl : (mkd fB 0 lb) = pre := by rw [e1, List.append_nil]
  refine Bz <| Bo <| Bo <| Ca <| Ab ?_
  exact ⟨vm, d, F.sub ⟨rfl, rfl, rfl, rfl, trivial⟩, e3, e4, s.f2.drop⟩
 intro a w_ hJ
 obtain ⟨vmb, db, F, e3b, e4b, s⟩ := hJ
 refine Ab ?_
 clear hx
 have hx := hy
 have s := s.f3.f4
 have s : SL w FF w_ [Rws (Ty.int .i64) (mkd fI 0 li), Sl Ty.val v0_1 (li.map Prod.fst), Sl Ty.val vmb (db.map fun y => y.2.1), Twos Ty.u8 db, Sl Ty.val v0_0 (lb.map Prod.fst), Blk g0 32 [v0_0, v0_1]] := s.f1
 refine Ai <| Bx (fun a w_ => ∃ (vm : Value) (d : List ((V1 × List Int) × (V1 × List Int))), Fr a 115 [(0, .pointer (some ⟨g0, 0, none⟩)), (2, .bool false), (9, vmb), (10, vm)] ∧ d.map Prod.fst = (mkd fI 0 li) ∧ (d.map fun y => y.2.2) = mores fI 0 ((mkd fI 0 li).map Prod.snd) ∧ SL w FF w_ [Sl Ty.val vm (d.map fun y => y.2.1), Twos (Ty.int .i64) d, Sl Ty.val v0_1 (li.map Prod.fst), Sl Ty.val vmb (db.map fun y => y.2.1), Twos Ty.u8 db, Sl Ty.val v0_0 (lb.map Prod.fst), Blk g0 32 [v0_0, v0_1]]) ?_ ?_
 ·refine Ai <| Al <| Ak F (Aa (Ae rfl) <| Aa (Cv rfl) <| Aa (Az Fx.fa32_1 rfl rfl) <| Aa (Ba Fx.nag30 rfl (s.blk_cell (.tail _ <| .tail _ <| .tail _ <| .tail _ <| .tail _ <| .head _) rfl)) <| Aa (Cd rfl Try.underlying30 (Cc (s.own_rd (.tail _ <| .head _)))) <| Aa (Ae rfl) <| Ad) fun _ F => Aj <| Ab <| Be <| wp_cnt (mkd fI 0 li).length (fun i a w_ => ∃ (vm : Value) (d : List ((V1 × List Int) × (V1 × List Int))) (pre todo : List (V1 × List Int)), Fr a 115 [(0, .pointer (some ⟨g0, 0, none⟩)), (2, .bool false), (9, vmb), (90, v0_1), (91, .int .i64 ((li.map Prod.fst).length : Int)), (92, .int .i64 (i : Int)), (10, vm)] ∧ (mkd fI 0 li) = pre ++ todo ∧ pre.length = i ∧ d.map Prod.fst = pre ∧ (d.map fun y => y.2.2) = mores fI 0 (pre.map Prod.snd) ∧ SL w FF w_ [Sl Ty.val vm (d.map fun y => y.2.1), Twos (Ty.int .i64) d, Rws (Ty.int .i64) todo, Sl Ty.val v0_1 (li.map Prod.fst), Sl Ty.val vmb (db.map fun y => y.2.1), Twos Ty.u8 db, Sl Ty.val v0_0 (lb.map Prod.fst), Blk g0 32 [v0_0, v0_1]]) ?_ ?_
  ·exact ⟨.slice none 0 0, [], [], (mkd fI 0 li), F.sub ⟨rfl, rfl, rfl, rfl, rfl, rfl, rfl, trivial⟩, rfl, rfl, rfl, rfl, SL.nilSl s.twos_nil⟩
  rintro i a w_ hi ⟨vm, d, pre, todo, F, e1, e2, e3, e4, s⟩
  have hmf : (mkd fI 0 li).map Prod.fst = li.map Prod.fst := mkd_fst _ _ _
  have hlen : (li.map Prod.fst).length = pre.length + todo.length := by rw [← hmf, e1]; simp
  rw [hlen, e2] at F
  refine Ai <| Al <| Ak F (Aa (Cn rfl rfl) <| Ad) fun _ F => Aj <| Ab <| Ai <| Bm F rfl (fun hb => ?_) (fun hb => ?_)
  ·have hlt : i < i + todo.length := by have := of_decide_eq_true hb; omega
   obtain ⟨x, r, rfl⟩ : ∃ x r, todo = x :: r := by
     cases todo with
     | nil => simp at hlt
     | cons x r => exact ⟨x, r, rfl⟩
   have hN : i < (mkd fI 0 li).length := by rw [e1, List.length_append, List.length_cons]; omega
   have hNl : (mkd fI 0 li).length = li.length := by have := congrArg List.length hmf; simpa using this
   have hx2 : x.2.length + 80 ≤ 17592186044416 := by
     obtain ⟨y, hy, hyl⟩ := marks_len fI (li.map Prod.snd) 0 x.2 (by rw [← mkd_snd, e1]; simp)
     obtain ⟨z, hz, rfl⟩ := List.mem_map.1 hy
     have := hx z hz
     omega
   refine Aw <| Ab <| Ai <| Be <| Ai <| Al ?_
   obtain ⟨ad, hi2, hc⟩ := hd_idx (i := (i : Int)) (x := x.1) s (.tail _ <| .tail _ <| .tail _ <| .head _) Fx.sl30 (by rw [← hmf, e1, List.map_append, List.map_cons]; exact idx_mid (by rw [List.length_map]; exact e2))
   refine Ak F (Aa (Ae rfl) <| Aa (hi2 _ _ _ _ _ _ _ _ _ _ rfl rfl) <| Aa (Ba Fx.nag57 rfl hc) <| Aa (Am rfl) <| Aa (Am rfl) <| Ad) fun _ F => Aj <| Ab ?_
   have s := s.f2.rows_pop.gw_init
   refine Ai <| Al <| Ak F (Aa (Ae rfl) <| Aa (Am rfl) <| Ad) fun _ F => Aj <| Ab <| Ai <| Bx (fun a w_ => ∃ vg : Value, Fr a 115 [(0, .pointer (some ⟨g0, 0, none⟩)), (2, .bool false), (9, vmb), (90, v0_1), (10, vm), (91, .int .i64 ((i + (x :: r).length : Nat) : Int)), (92, .int .i64 (i : Int)), (14, .int .i64 (i : Int)), (16, vg)] ∧ SL w FF w_ [Gw (Ty.int .i64) x.1.1 x.2 vg (x.2 ++ List.replicate 80 (fI i)), Rws (Ty.int .i64) r, Sl Ty.val vm (d.map fun y => y.2.1), Twos (Ty.int .i64) d, Sl Ty.val v0_1 (li.map Prod.fst), Sl Ty.val vmb (db.map fun y => y.2.1), Twos Ty.u8 db, Sl Ty.val v0_0 (lb.map Prod.fst), Blk g0 32 [v0_0, v0_1]]) ?_ ?_
   ·refine Ai <| Al <| Ak F (Aa (Ae rfl) <| Ad) fun _ F => Aj <| Ab <| Be <| wp_cnt 80 (fun k a w_ => ∃ vg : Value, Fr a 115 [(0, .pointer (some ⟨g0, 0, none⟩)), (2, .bool false), (9, vmb), (90, v0_1), (10, vm), (91, .int .i64 ((i + (x :: r).length : Nat) : Int)), (92, .int .i64 (i : Int)), (14, .int .i64 (i : Int)), (16, vg), (98, .int .i64 (k : Int))] ∧ SL w FF w_ [Gw (Ty.int .i64) x.1.1 x.2 vg (x.2 ++ List.replicate k (fI i)), Rws (Ty.int .i64) r, Sl Ty.val vm (d.map fun y => y.2.1), Twos (Ty.int .i64) d, Sl Ty.val v0_1 (li.map Prod.fst), Sl Ty.val vmb (db.map fun y => y.2.1), Twos Ty.u8 db, Sl Ty.val v0_0 (lb.map Prod.fst), Blk g0 32 [v0_0, v0_1]]) ?_ ?_
    ·exact ⟨x.1.1, F.sub ⟨rfl, rfl, rfl, rfl, rfl, rfl, rfl, rfl, rfl, rfl, trivial⟩, by simpa using s⟩
    rintro k a w_ hk ⟨vg, F, s⟩
    refine Ai <| Al <| Ak F (Aa (Cn rfl rfl) <| Ad) fun _ F => Aj <| Ab <| Ai <| Bm F rfl (fun hb => ?_) (fun hb => ?_)
    ·have hk2 : k < 80 := by have := of_decide_eq_true hb; omega
     refine Aw <| Ab <| Ai <| Be <| Al <| Ak F (Aa (Ae rfl) <| Aa (Ae rfl) <| Ad) fun _ F => Bi (args := [.tmp 101]) F Fx.fn33 rfl (provisoplain_mark_c (a0 := (i : Int)) rfl) rfl fun u w2 _ hS F => ?_
     obtain ⟨rfl, hq⟩ := hS
     have s := s.add hq
     refine Cm (parts := [(0, .tmp 102)]) (Flat.int .i64) [fI i] F s Fx.sl57 rfl (by decide) rfl rfl rfl (by simp [Value.cells]) rfl rfl rfl fun vn w3 _ F s => ?_
     obtain ⟨_, hr_⟩ := s.own_rd (.head _)
     have s := s.f1
     refine st_append_gw (Flat.int .i64) F s Fx.sl57 rfl rfl rfl rfl hr_ rfl rfl (lim := 17592186044416) (s := x.2 ++ List.replicate (k + 1) (fI i)) (by unfold app; rw [if_pos (by simp; omega), List.append_assoc, List.replicate_succ']) rfl fun vg w4 _ F s => ?_
     have s := s.f1.drop
     refine Ak F (Aa (Am rfl) <| Ad) fun _ F => Aj <| By <| Ab <| Al <| Ak F (Aa (Bp rfl rfl) <| Aa (Ae rfl) <| Ad) fun _ F => Aj <| Ab ?_
     rw [show IntKind.i64.wrap ((k : Int) + 1) = ((k + 1 : Nat) : Int) from by rw [wrap_small (n := (k : Int) + 1) (by omega) (by omega)]; omega] at F
     exact ⟨hk2, vg, F.sub ⟨rfl, rfl, rfl, rfl, rfl, rfl, rfl, rfl, rfl, rfl, trivial⟩, s⟩
    have hk2 : k = 80 := by have := of_decide_eq_false hb; omega
    subst hk2
    refine Bz <| Bo <| Bo <| Ca <| Ab ?_
    exact ⟨vg, F.sub ⟨rfl, rfl, rfl, rfl, rfl, rfl, rfl, rfl, rfl, trivial⟩, s⟩
   intro a w_ hJ
   obtain ⟨vg, F, s⟩ := hJ
   refine Ab ?_
   obtain ⟨Ag, cg, hvg⟩ := s.gw_form
   have h1g : vg.oneCell' = true := by rw [hvg]; rfl
   have hcg : vg.cells = ⟨[vg]⟩ := by rw [hvg]; rfl
   refine Al <| Ak F (Aa (Ae rfl) <| Aa (Ae rfl) <| Ad) fun _ F => ?_
   refine Cm (parts := [(0, .tmp 107)]) (vs := [vg]) Flat.val [⟨vg, h1g⟩] F s Fx.sl30 rfl (by decide) rfl rfl rfl (by simp [hcg]) (by simp [hcg]) rfl rfl fun vn w3 _ F s => ?_
   obtain ⟨_, hr_⟩ := s.own_rd (.head _)
   have s := s.f3
   refine Ch Flat.val F s Fx.sl30 rfl rfl rfl rfl hr_ rfl rfl (lim := 5864062014805) (app_ok_ (by rw [List.length_map]; have := congrArg List.length e3; rw [List.length_map] at this; simp only [List.length_cons, List.length_nil]; omega)) rfl fun vm2 w4 _ F s => ?_
   have s := s.f1.drop
   have s := s.f3.f2.gw_two (u := x.1) (v := ⟨vg, h1g⟩)
   refine Ak F (Aa (Am rfl) <| Ad) fun _ F => Aj <| By <| Ab <| Al <| Ak F (Aa (Bp rfl rfl) <| Aa (Ae rfl) <| Ad) fun _ F => Aj <| Ab ?_
   rw [show IntKind.i64.wrap ((i : Int) + 1) = ((i + 1 : Nat) : Int) from by rw [wrap_small (n := (i : Int) + 1) (by omega) (by omega)]; omega] at F
   rw [show ((i + (x :: r).length : Nat) : Int) = ((li.map Prod.fst).length : Int) from by rw [hlen, e2]] at F
   obtain ⟨g1, g2⟩ := dt_snoc (x := x) (vg := ⟨vg, h1g⟩) e3 e4 e2
   exact ⟨hN, vm2, _, pre ++ [x], r, F.sub ⟨rfl, rfl, rfl, rfl, rfl, rfl, rfl, trivial⟩, by rw [e1]; simp, by simp [e2], g1, g2, by rw [List.map_append]; exact s.f1⟩
  have h0 : todo = [] := by
    have := of_decide_eq_false hb
    exact List.eq_nil_of_length_eq_zero (by omega)
  subst h0
  obtain rfl : (mkd fI 0 li) = pre := by rw [e1, List.append_nil]
  refine Bz <| Bo <| Bo <| Ca <| Ab ?_
  exact ⟨vm, d, F.sub ⟨rfl, rfl, rfl, rfl, trivial⟩, e3, e4, s.f2.drop⟩
 intro a w_ hJ
 obtain ⟨vmi, di, F, e3i, e4i, s⟩ := hJ
 refine Ab ?_
 have fstb : lb.map Prod.fst = db.map fun y : (V1 × List UInt8) × (V1 × List UInt8) => y.1.1 := by
   rw [← mkd_fst fB lb 0, ← e3b, List.map_map]; rfl
 have fsti : li.map Prod.fst = di.map fun y : (V1 × List Int) × (V1 × List Int) => y.1.1 := by
   rw [← mkd_fst fI li 0, ← e3i, List.map_map]; rfl
 have s := SL.bo (u := vmi) s.f2 fsti rfl
 have s := SL.bo (u := vmb) s.f2.f2.f3 fstb rfl
 have e5b : (db.map fun y : (V1 × List UInt8) × (V1 × List UInt8) => y.1.2) = marks fB 0 a0.bytes := by
   rw [← hlb, ← mkd_snd, ← e3b, List.map_map]; rfl
 have e5i : (di.map fun y : (V1 × List Int) × (V1 × List Int) => y.1.2) = marks fI 0 a0.ints := by
   rw [← hli, ← mkd_snd, ← e3i, List.map_map]; rfl
 rw [e5b, e4b, mkd_snd, hlb, e5i, e4i, mkd_snd, hli] at s
 have s := s.f2
 refine Ai <| Al <| Ak F (Aa (Ae rfl) <| Aa (Ae rfl) <| Aa (Ae rfl) <| Ad) fun _ F => ?_
 obtain ⟨G_, hst_, hF_, hG_, hcl_⟩ := SL.open_ (ps := [Blk g0 32 [v0_0, v0_1]]) s
 have rB := bo_rd (v := v0_0) (.head _) hG_
 have rI := bo_rd (v := v0_1) (.tail _ (.head _)) hG_
 refine Bi (args := [.tmp 111, .tmp 112, .tmp 113]) F Fx.fn34 rfl (provisoplain_Shelf_marked_bpp_c (a0 := ⟨marks fB 0 a0.bytes, marks fI 0 a0.ints⟩) hst_ rB.1 rI.1 rB.2 rI.2 H) rfl fun u w2 _ hS F => ?_
 obtain ⟨rfl, hq⟩ := hS
 have s := hcl_ _ _ hq
 refine Ak F (Aa (Am rfl) <| Ad) fun _ F => Aj <| Ab <| Bf ?_
 refine Ax (rs := [.tmp 2]) (vs := [.bool r]) F (by rfl) ⟨_, _, rfl, Ay rfl, rfl⟩ ⟨_, rfl, rfl, s.drop.drop.drop⟩
-- proviso/code.widths
theorem code_widths_c {w : World} {a0 : UInt8} {r : Int × Int}  (H : code_widths a0 = some r) :
    Calls Try.prog 72 #[.int .u8 (a0.toNat : Int)] w (Ret fun u_ w_ => u_ = .tuple ⟨[.int .i64 r.1, .int .i64 r.2]⟩ ∧ SL w [] w_ []) := by
 have s0 : SL w [] w [] := SL.init0 w
 refine Bq Try.func72 rfl Try.ntmps72 (Ah rfl) (args := [.int .u8 (a0.toNat : Int)]) fun q0 F0 => ?_
 unfold code_widths at H
 refine Ai <| Al <| Ak F0 (Aa (Am rfl) <| Aa (Am rfl) <| Ad) fun q3 F4 => Aj <| Ab <| Ai <| Ai <| Al <| Ak F4 (Aa (Ae rfl) <| Ad) fun _ F => Aj <| Ab <| Be <| Ai <| Be <| Be <| Ai <| Be <| Ai <| Be <| Ai <| Be <| Ai <| Ai <| Ai <| Al <| Ak F (Aa (Bw rfl rfl) <| Aa (Am rfl) <| Ad) fun _ F => Aj <| Ab <| Bm F rfl (fun h0 => ?_) (fun h0 => ?_)
 ·replace H := Bb h0 H
  refine Bz <| Bo <| Bo <| Ca <| Ab <| Ai <| Ai <| Al <| Ak F (Aa (Am rfl) <| Aa (Am rfl) <| Ad) fun _ F => Aj <| Ab ?_
  obtain rfl := Ao H
  refine Bf <| Bg <| blk_r <| Bg <| blk_r <| Bg <| blk_r <| blk_r <| Bg <| blk_r <| Bg ?_
  refine Ax (rs := [.tmp 2, .tmp 3]) (vs := [.int .i64 4, .int .i64 0]) F (by rfl) ⟨_, _, rfl, Ay rfl, _, _, rfl, Ay rfl, rfl⟩ ⟨_, rfl, ⟨rfl, s0⟩⟩
 replace H := Bc h0 H
 refine Aw <| Ab <| Ai <| Ai ?_
 obtain ⟨o0, H0, R0⟩ := Aq H
 clear H
 refine Bx (fun a w_ => Fr a 23 [(4, .int .u8 (a0.toNat : Int)), (7, .bool o0)] ∧ SL w [] w_ []) ?_ ?_
 ·have H := H0
  refine Ai <| Al <| Ak F (Aa (Bw rfl rfl) <| Aa (Am rfl) <| Ad) fun _ F => Aj <| Ab <| Bm F rfl (fun h1 => ?_) (fun h1 => ?_)
  ·replace H := Bb h1 H
   refine Aw ?_
   obtain rfl := Ao H
   refine Ab ?_
   exact ⟨F.sub ⟨rfl, rfl, trivial⟩, s0⟩
  replace H := Bc h1 H
  refine Al <| Ak F (Aa (Bw rfl rfl) <| Aa (Am rfl) <| Ad) fun _ F => Aj ?_
  obtain rfl := Ao H
  refine Ab ?_
  exact ⟨F.sub ⟨rfl, rfl, trivial⟩, s0⟩
 intro _ w0 hJ
 obtain ⟨F, s1⟩ := hJ
 have H := R0
 clear R0 H0
 refine Ab <| Bm F rfl (fun h2 => ?_) (fun h2 => ?_)
 ·replace H := Bb h2 H
  refine Bz <| Bo <| Bo <| Db rfl <| Bo <| Ca <| Ab <| Ai <| Ai <| Al <| Ak F (Aa (Am rfl) <| Aa (Am rfl) <| Ad) fun _ F => Aj <| Ab ?_
  obtain rfl := Ao H
  refine Bf <| Bg <| blk_r <| Bg <| blk_r <| blk_r <| Bg <| blk_r <| Bg ?_
  refine Ax (rs := [.tmp 2, .tmp 3]) (vs := [.int .i64 2, .int .i64 0]) F (by rfl) ⟨_, _, rfl, Ay rfl, _, _, rfl, Ay rfl, rfl⟩ ⟨_, rfl, ⟨rfl, s1⟩⟩
 replace H := Bc h2 H
 refine Aw <| Ab <| Ai <| Ai ?_
 obtain ⟨o1, H1, R1⟩ := Aq H
 clear H
 refine Bx (fun a w_ => Fr a 23 [(4, .int .u8 (a0.toNat : Int)), (10, .bool o1)] ∧ SL w [] w_ []) ?_ ?_
 ·have H := H1
  refine Ai <| Al <| Ak F (Aa (Bw rfl rfl) <| Aa (Am rfl) <| Ad) fun _ F => Aj <| Ab <| Bm F rfl (fun h3 => ?_) (fun h3 => ?_)
  ·replace H := Bb h3 H
   refine Aw ?_
   obtain rfl := Ao H
   refine Ab ?_
   exact ⟨F.sub ⟨rfl, rfl, trivial⟩, s1⟩
  replace H := Bc h3 H
  refine Al <| Ak F (Aa (Bw rfl rfl) <| Aa (Am rfl) <| Ad) fun _ F => Aj ?_
  obtain rfl := Ao H
  refine Ab ?_
  exact ⟨F.sub ⟨rfl, rfl, trivial⟩, s1⟩
 intro _ w1 hJ
 obtain ⟨F, s2⟩ := hJ
 have H := R1
 clear R1 H1
 refine Ab <| Bm F rfl (fun h4 => ?_) (fun h4 => ?_)
 ·replace H := Bb h4 H
  refine Bz <| Bo <| Bo <| Db rfl <| Bo <| Db rfl <| Bo <| Ca <| Ab <| Ai <| Ai <| Al <| Ak F (Aa (Am rfl) <| Aa (Am rfl) <| Ad) fun _ F => Aj <| Ab ?_
  obtain rfl := Ao H
  refine Bf <| Bg <| blk_r <| blk_r <| Bg <| blk_r <| Bg ?_
  refine Ax (rs := [.tmp 2, .tmp 3]) (vs := [.int .i64 1, .int .i64 1]) F (by rfl) ⟨_, _, rfl, Ay rfl, _, _, rfl, Ay rfl, rfl⟩ ⟨_, rfl, ⟨rfl, s2⟩⟩
 replace H := Bc h4 H
 refine Aw <| Ab <| Ai <| Ai ?_
 obtain ⟨o2, H2, R2⟩ := Aq H
 clear H
 refine Bx (fun a w_ => Fr a 23 [(4, .int .u8 (a0.toNat : Int)), (13, .bool o2)] ∧ SL w [] w_ []) ?_ ?_
 ·have H := H2
  refine Ai <| Al <| Ak F (Aa (Bw rfl rfl) <| Aa (Am rfl) <| Ad) fun _ F => Aj <| Ab <| Bm F rfl (fun h5 => ?_) (fun h5 => ?_)
  ·replace H := Bb h5 H
   refine Aw ?_
   obtain rfl := Ao H
   refine Ab ?_
   exact ⟨F.sub ⟨rfl, rfl, trivial⟩, s2⟩
  replace H := Bc h5 H
  refine Ai <| Al <| Ak F (Aa (Bw rfl rfl) <| Aa (Am rfl) <| Ad) fun _ F => Aj <| Ab <| Bm F rfl (fun h6 => ?_) (fun h6 => ?_)
  ·replace H := Bb h6 H
   refine Aw ?_
   obtain rfl := Ao H
   refine Ab ?_
   exact ⟨F.sub ⟨rfl, rfl, trivial⟩, s2⟩
  replace H := Bc h6 H
  refine Al <| Ak F (Aa (Bw rfl rfl) <| Aa (Am rfl) <| Ad) fun _ F => Aj ?_
  obtain rfl := Ao H
  refine Ab ?_
  exact ⟨F.sub ⟨rfl, rfl, trivial⟩, s2⟩
 intro _ w2 hJ
 obtain ⟨F, s3⟩ := hJ
 have H := R2
 clear R2 H2
 refine Ab <| Bm F rfl (fun h7 => ?_) (fun h7 => ?_)
 ·replace H := Bb h7 H
  refine Bz <| Bo <| Bo <| Db rfl <| Bo <| Db rfl <| Bo <| Db rfl <| Bo <| Ca <| By <| Ab <| Ai <| Ai <| Al <| Ak F (Aa (Am rfl) <| Aa (Am rfl) <| Ad) fun _ F => Aj <| Ab ?_
  obtain rfl := Ao H
  refine Bf <| Bg <| blk_r <| Bg ?_
  refine Ax (rs := [.tmp 2, .tmp 3]) (vs := [.int .i64 1, .int .i64 0]) F (by rfl) ⟨_, _, rfl, Ay rfl, _, _, rfl, Ay rfl, rfl⟩ ⟨_, rfl, ⟨rfl, s3⟩⟩
 replace H := Bc h7 H
 refine Aw <| Ab <| Ai ?_
 obtain ⟨o3, H3, R3⟩ := Aq H
 clear H
 refine Bx (fun a w_ => Fr a 23 [(17, .bool o3)] ∧ SL w [] w_ []) ?_ ?_
 ·have H := H3
  refine Ai <| Al <| Ak F (Aa (Bw rfl rfl) <| Aa (Am rfl) <| Ad) fun _ F => Aj <| Ab <| Bm F rfl (fun h8 => ?_) (fun h8 => ?_)
  ·replace H := Bb h8 H
   refine Aw ?_
   obtain rfl := Ao H
   refine Ab ?_
   exact ⟨F.sub ⟨rfl, trivial⟩, s3⟩
  replace H := Bc h8 H
  refine Ai <| Al <| Ak F (Aa (Bw rfl rfl) <| Aa (Am rfl) <| Ad) fun _ F => Aj <| Ab <| Bm F rfl (fun h9 => ?_) (fun h9 => ?_)
  ·replace H := Bb h9 H
   refine Aw ?_
   obtain rfl := Ao H
   refine Ab ?_
   exact ⟨F.sub ⟨rfl, trivial⟩, s3⟩
  replace H := Bc h9 H
  refine Ai <| Al <| Ak F (Aa (Bw rfl rfl) <| Aa (Am rfl) <| Ad) fun _ F => Aj <| Ab <| Bm F rfl (fun ha => ?_) (fun ha => ?_)
  ·replace H := Bb ha H
   refine Aw ?_
   obtain rfl := Ao H
   refine Ab ?_
   exact ⟨F.sub ⟨rfl, trivial⟩, s3⟩
  replace H := Bc ha H
  refine Ai <| Al <| Ak F (Aa (Bw rfl rfl) <| Aa (Am rfl) <| Ad) fun _ F => Aj <| Ab <| Bm F rfl (fun hb => ?_) (fun hb => ?_)
  ·replace H := Bb hb H
   refine Aw ?_
   obtain rfl := Ao H
   refine Ab ?_
   exact ⟨F.sub ⟨rfl, trivial⟩, s3⟩
  replace H := Bc hb H
  refine Al <| Ak F (Aa (Bw rfl rfl) <| Aa (Am rfl) <| Ad) fun _ F => Aj ?_
  obtain rfl := Ao H
  refine Ab ?_
  exact ⟨F.sub ⟨rfl, trivial⟩, s3⟩
 intro _ w3 hJ
 obtain ⟨F, s4⟩ := hJ
 have H := R3
 clear R3 H3
 refine Ab <| Bm F rfl (fun hc => ?_) (fun hc => ?_)
 ·replace H := Bb hc H
  refine Bz <| Bo <| Db rfl <| Bo <| Db rfl <| Bo <| Db rfl <| Bo <| Db rfl <| Ca <| Ab <| Ai <| Ai <| Al <| Ak F (Aa (Am rfl) <| Aa (Am rfl) <| Ad) fun _ F => Aj <| Ab ?_
  obtain rfl := Ao H
  refine Bf <| Bg <| blk_r <| Bg ?_
  refine Ax (rs := [.tmp 2, .tmp 3]) (vs := [.int .i64 1, .int .i64 0]) F (by rfl) ⟨_, _, rfl, Ay rfl, _, _, rfl, Ay rfl, rfl⟩ ⟨_, rfl, ⟨rfl, s4⟩⟩
 replace H := Bc hc H
 refine Aw <| Ab <| Bz <| Db rfl <| Bo <| Db rfl <| Bo <| Db rfl <| Bo <| Db rfl <| Db rfl <| Bo <| Ca <| Ab <| Ai <| Al <| Ak F (Aa (Am rfl) <| Aa (Am rfl) <| Ad) fun _ F => Aj <| Ab ?_
 obtain rfl := Ao H
 refine Bf ?_
 refine Ax (rs := [.tmp 2, .tmp 3]) (vs := [.int .i64 0, .int .i64 0]) F (by rfl) ⟨_, _, rfl, Ay rfl, _, _, rfl, Ay rfl, rfl⟩ ⟨_, rfl, ⟨rfl, s4⟩⟩
-- proviso/code.Size
theorem code_Size_c {w : World} {a0 : UInt8} {r : Int}  (H : code_Size a0 = some r) :
    Calls Try.prog 53 #[.int .u8 (a0.toNat : Int)] w (Ret fun u_ w_ => u_ = .int .i64 r ∧ SL w [] w_ []) := by
 have s0 : SL w [] w [] := SL.init0 w
 refine Bq Try.func53 rfl Try.ntmps53 (Ah rfl) (args := [.int .u8 (a0.toNat : Int)]) fun q0 F0 => ?_
 unfold code_Size at H
 refine Ai <| Al <| Ak F0 (Aa (Am rfl) <| Ad) fun q3 F4 => Aj <| Ab <| Ai <| Ai <| Al <| Ak F4 (Aa (Ae rfl) <| Aa (ex_ge rfl rfl) <| Ad) fun _ F => Aj <| Ab <| Bm F rfl (fun h0 => ?_) (fun h0 => ?_)
 ·replace H := Bb h0 H
  refine Ai <| Al <| Ak F (Aa (Am rfl) <| Ad) fun _ F => Aj <| Ab ?_
  obtain rfl := Ao H
  refine Bf <| Bg ?_
  refine Ax (rs := [.tmp 2]) (vs := [.int .i64 0]) F (by rfl) ⟨_, _, rfl, Ay rfl, rfl⟩ ⟨_, rfl, ⟨rfl, s0⟩⟩
 replace H := Bc h0 H
 refine Aw <| Ab <| Ai <| Al ?_
 obtain ⟨x0, h1, H⟩ := Aq H
 refine Ak F (Aa (Ae rfl) <| Ad) fun _ F => Bi (args := [.tmp 8]) F Fx.fn72 rfl (code_widths_c (a0 := a0)    h1) rfl fun v0 w0 _ h2 F => ?_
 obtain ⟨rfl, h3⟩ := h2
 have s1 := s0.add h3
 refine Ak F (Aa (Ae rfl) <| Aa (As (v := .int .i64 x0.1) rfl rfl) <| Aa (As (v := .int .i64 x0.2) rfl rfl) <| Aa (Am rfl) <| Aa (Am rfl) <| Ad) fun _ F => Aj <| Ab <| Ai <| Al <| Ak F (Aa (Ae rfl) <| Aa (Bp rfl rfl) <| Aa (Ae rfl) <| Aa (Bp rfl rfl) <| Aa (Am rfl) <| Ad) fun _ F => Aj <| Ab ?_
 obtain rfl := Ao H
 refine Bf ?_
 refine Ax (rs := [.tmp 2]) (vs := [.int .i64 (wr ((wr (1 + x0.1)) + x0.2))]) F (by rfl) ⟨_, _, rfl, Ay rfl, rfl⟩ ⟨_, rfl, ⟨rfl, s1⟩⟩
-- proviso/code.Decode$1
theorem code_Decode_1_s0_c {w : World} {FF : List Nat} {g1 : Nat} {v1_0 : Value} {a0 : Int} {a1 : List UInt8} {r : Int × (List UInt8)} (hst : Star [Blk g1 22 [v1_0]] w FF) (hr1_0 : Rd Ty.u8 w FF v1_0 a1) (H : code_Decode_1_s0 a0 a1 = some r) :
    Calls Try.prog 71 #[.int .i64 a0, .pointer (some ⟨g1, 0, none⟩)] w (Ret fun u_ w_ => ∃ u0 : Value, u_ = .int .i64 r.1 ∧ View Ty.u8 v1_0 a1 u0 r.2 ∧ SL w FF w_ [Blk g1 22 [u0]]) := by
 have s0 : SL w FF w [Blk g1 22 [v1_0]] := SL.init w FF hst
 refine Bq Try.func71 rfl Try.ntmps71 (Ah rfl) (args := [.int .i64 a0, .pointer (some ⟨g1, 0, none⟩)]) fun q0 F0 => ?_
 unfold code_Decode_1_s0 at H
 refine Ai <| Al <| Ak F0 (Aa (Am rfl) <| Ad) fun q3 F4 => Aj <| Ab <| Ai <| Al <| Ak F4 (Aa (Am rfl) <| Ad) fun q7 F8 => Aj <| Ab <| Ai <| Ai <| Al ?_
 obtain ⟨x0, h0, H⟩ := Aq H
 obtain ⟨v0, h1, h2⟩ := cut_view (Cu hr1_0 s0) Fx.sl22 rfl h0 none (some a0) (.inr ⟨rfl, rfl⟩) (.inl rfl)
 have h3 := View.refl.trans h2
 have h4 := View.rd h2 hr1_0
 refine Ak F8 (Aa (Ba Fx.nag22 rfl (s0.blk_cell (.head _) rfl)) <| Aa (Ae rfl) <| Aa (h1 _ _ _ _ _ .i64 .i64 _ _ _ _ _ rfl trivial rfl) <| Aa (Cd rfl Try.underlying22 (Cc (Cu h4 s0))) <| Aa (Ae rfl) <| Ad) fun _ F => Aj <| Ab ?_
 obtain ⟨o0, H0, R0⟩ := Aq H
 clear H
 refine Bx (fun a w_ => Fr a 30 [(0, .int .i64 a0), (1, .pointer (some ⟨g1, 0, none⟩)), (4, .int .i64 o0)] ∧ SL w FF w_ [Blk g1 22 [v1_0]]) ?_ ?_
 ·have H := H0
  refine Be <| Cq (code_Decode_1_s0_b0 x0) (fun s1 a w_ => Fr a 30 [(0, .int .i64 a0), (1, .pointer (some ⟨g1, 0, none⟩)), (4, .int .i64 s1.1), (9, v0), (10, .int .i64 (x0.length : Int)), (11, .int .i64 s1.2)] ∧ SL w FF w_ [Blk g1 22 [v1_0]]) H ?_ ?_
  ·exact ⟨F.sub ⟨rfl, rfl, rfl, rfl, rfl, rfl, trivial⟩, s0⟩
  intro s1 _ w0 h5 o1 H hr
  obtain ⟨F, s2⟩ := h5
  replace H : code_Decode_1_s0_b0 x0 s1 = some o1 := H
  unfold code_Decode_1_s0_b0 at H
  refine Ai <| Al <| Ak F (Aa (Cn rfl rfl) <| Ad) fun _ F => Aj <| Ab <| Ai <| Bm F rfl (fun h6 => ?_) (fun h6 => ?_)
  ·replace H := Bb h6 H
   refine Aw <| Ab <| Ai <| Be <| Ai <| Al ?_
   obtain ⟨x1, h7, H⟩ := Aq H
   obtain ⟨a2, h8, h9⟩ := Dc Flat.u8 (Cu h4 s2) Fx.sl22 rfl h7
   refine Ak F (Aa (h8 _ _ _ _ _ _ _ _ _ _ rfl rfl) <| Aa (Ba Fx.nag5 rfl (Cells.at_ h9 (o := 0) rfl)) <| Aa (Am rfl) <| Ad) fun _ F => Aj <| Ab <| Al <| Ak F (Aa (Ae rfl) <| Aa (ex_shl rfl rfl rfl) <| Aa (Ae rfl) <| Aa (ex_cv864 rfl Try.underlying5 Try.underlying3) <| Aa (ex_or rfl rfl) <| Aa (Am rfl) <| Ad) fun _ F => Aj <| By <| Ab <| Al <| Ak F (Aa (Bp rfl rfl) <| Aa (Ae rfl) <| Ad) fun _ F => Aj ?_
   obtain rfl := Ao H
   refine Ab ?_
   exact ⟨_, rfl, F.sub ⟨rfl, rfl, rfl, rfl, rfl, rfl, trivial⟩, s2⟩
  replace H := Bc h6 H
  refine Bz <| Bo <| Bo <| Ca ?_
  obtain rfl := Ao H
  obtain rfl := hr _ rfl
  refine Ab ?_
  exact ⟨F.sub ⟨rfl, rfl, rfl, trivial⟩, s2⟩
 intro _ w1 hJ
 obtain ⟨F, s3⟩ := hJ
 have H := R0
 clear R0 H0
 refine Ab <| Ai <| Al ?_
 obtain ⟨x2, ha, H⟩ := Aq H
 obtain ⟨v1, hb, hc⟩ := cut_view (Cu hr1_0 s3) Fx.sl22 rfl ha (some a0) none (.inl rfl) (.inr ⟨rfl, rfl⟩)
 have hd := View.refl.trans hc
 have he := View.rd hc hr1_0
 refine Ak F (Aa (Ba Fx.nag22 rfl (s3.blk_cell (.head _) rfl)) <| Aa (Ae rfl) <| Aa (hb _ _ _ _ _ .i64 .i64 _ _ _ _ _ rfl rfl trivial) <| Ad) fun _ F => ?_
 have s4 := s3
 refine Ct F s4 rfl rfl Fx.sz22 (Da (Cc (Cu he s4))) (Cs (Cc (Cu he s4))) rfl fun w2 _ F s5 => ?_
 replace s5 : SL w FF w2 [Blk g1 22 [v1]] := s5
 refine Aj <| Ab <| Ai <| Ai <| Al <| Ak F (Aa (Ae rfl) <| Aa (Bw rfl rfl) <| Ad) fun _ F => Aj <| Ab <| Bm F rfl (fun hf => ?_) (fun hf => ?_)
 ·replace H := Bb hf H
  refine Ai <| Al <| Ak F (Aa (Ae rfl) <| Aa (ex_conv rfl Try.underlying3 Try.underlying21) <| Aa (ex_conv rfl Try.underlying21 Try.underlying3) <| Aa (Am rfl) <| Ad) fun _ F => Aj <| Ab ?_
  obtain rfl := Ao H
  refine Bf <| Bg ?_
  refine Ax (rs := [.tmp 3]) (vs := [.int .i64 (wr (IntKind.i32.wrap o0))]) F (by rfl) ⟨_, _, rfl, Ay rfl, rfl⟩ ⟨_, rfl, ⟨v1, rfl, hd, s5⟩⟩
 replace H := Bc hf H
 refine Aw <| Ab <| Ai <| Al <| Ak F (Aa (Ae rfl) <| Aa (Am rfl) <| Ad) fun _ F => Aj <| Ab ?_
 obtain rfl := Ao H
 refine Bf ?_
 refine Ax (rs := [.tmp 3]) (vs := [.int .i64 o0]) F (by rfl) ⟨_, _, rfl, Ay rfl, rfl⟩ ⟨_, rfl, ⟨v1, rfl, hd, s5⟩⟩
-- proviso/code.Decode
theorem code_Decode_c {w : World} {v0 : Value} {a0 : List UInt8} {a1 : Int} {r : S_api_Instr × Int} (hr0 : Rd Ty.u8 w [] v0 a0) (H : code_Decode a0 a1 = some r) :
    Calls Try.prog 52 #[v0, .int .i64 a1] w (Ret fun u_ w_ => u_ = .tuple ⟨[.agg ⟨[.int .i64 r.1.At, .int .u8 (r.1.Op.toNat : Int), .int .i64 r.1.A, .int .i64 r.1.B]⟩, .int .i64 r.2]⟩ ∧ SL w [] w_ []) := by
 have s0 : SL w [] w [] := SL.init0 w
 refine Bq Try.func52 rfl Try.ntmps52 (Ah rfl) (args := [v0, .int .i64 a1]) fun q0 F0 => ?_
 unfold code_Decode at H
 refine Ai <| Al <| Bu F0 s0 Fx.zero90 rfl rfl fun g9 w0 _ F s1 => Ak F (Aa (Am rfl) <| Ad) fun _ F => Aj <| Ab <| Ai <| Al <| Ak F (Aa (Co (vs := []) Fx.zero90 Fx.pl90 rfl (cs := [.int .i64 0, .int .u8 0, .int .i64 0, .int .i64 0]) (rfl)) <| Ad) fun _ F => Bu F s1 Fx.zero90 rfl rfl fun g32 w1 _ F s2 => ?_
 have s3 := s2
 refine Au F s3 rfl rfl Fx.sz90 (Af rfl (Af rfl (Af rfl (Af rfl Bd)))) (Ah rfl) fun w2 _ F s4 => ?_
 replace s4 : SL w [] w2 [Blk g32 90 [.int .i64 0, .int .u8 0, .int .i64 0, .int .i64 0], Blk g9 90 [.int .i64 0, .int .u8 0, .int .i64 0, .int .i64 0]] := s4
 refine Aj <| Ab <| Ai <| Be <| Ai <| Al <| Ak F (Aa (Ae rfl) <| Aa (Cn rfl rfl) <| Aa (Ae rfl) <| Ad) fun _ F => Bl (decide (a1 < 0)) (fun h0 => ?_) (fun h0 => ?_)
 ·replace H := Bb h0 H
  refine Ap F rfl rfl (An rfl h0) Ac rfl rfl fun _ F => Ap F rfl rfl (An rfl h0) Ac rfl rfl fun _ F => Ap F rfl rfl (An rfl h0) Ac rfl rfl fun _ F => Ap F rfl rfl (An rfl h0) Ac rfl rfl fun _ F => Ak F (Aa (Bh (Cb rfl h0) rfl) <| Aa (Am rfl) <| Ad) fun _ F => Aj <| Ab <| Cy F rfl <| Ai <| Al <| Ak F (Aa (Bn Fx.agg90 rfl (s4.blk_cells (.head _) (o := 0) (ds := [.int .i64 0, .int .u8 0, .int .i64 0, .int .i64 0]) (fun j u hu => by rw [Nat.zero_add]; exact hu)) rfl) <| Ad) fun _ F => ?_
  have s5 := s4.f1
  refine Au F s5 rfl rfl Fx.sz90 (Af rfl (Af rfl (Af rfl (Af rfl Bd)))) (Ah rfl) fun w3 _ F s6 => ?_
  replace s6 : SL w [] w3 [Blk g9 90 [.int .i64 0, .int .u8 0, .int .i64 0, .int .i64 0], Blk g32 90 [.int .i64 0, .int .u8 0, .int .i64 0, .int .i64 0]] := s6
  refine Ak F (Aa (Am rfl) <| Ad) fun _ F => Aj <| Ab ?_
  obtain rfl := Ao H
  refine Bf <| blk_r <| Bg ?_
  refine Ax (rs := [.cell 4 90, .tmp 5]) (vs := [.agg ⟨[.int .i64 0, .int .u8 0, .int .i64 0, .int .i64 0]⟩, .int .i64 1]) F (by rfl) ⟨_, _, rfl, Ci s6 (.head _) rfl Fx.agg90 rfl, _, _, rfl, Ay rfl, rfl⟩ ⟨_, rfl, ⟨rfl, s6.drop.drop⟩⟩
 replace H := Bc h0 H
 refine Ar F rfl rfl (An rfl h0) (Ae rfl) rfl rfl fun _ F => Ar F rfl rfl (An rfl h0) (Ae rfl) rfl rfl fun _ F => Ar F rfl rfl (An rfl h0) (Cd rfl Try.underlying22 (Cc (Cu hr0 s4))) rfl rfl fun _ F => Ar F rfl rfl (An rfl h0) (ex_gt rfl rfl) rfl rfl fun _ F => Ak F (Aa (Bj (Cb rfl h0) rfl) <| Aa (Am rfl) <| Ad) fun _ F => Aj <| Ab <| Bm F rfl (fun h1 => ?_) (fun h1 => ?_)
 ·replace H := Bb h1 H
  refine Ai <| Al <| Ak F (Aa (Bn Fx.agg90 rfl (s4.blk_cells (.head _) (o := 0) (ds := [.int .i64 0, .int .u8 0, .int .i64 0, .int .i64 0]) (fun j u hu => by rw [Nat.zero_add]; exact hu)) rfl) <| Ad) fun _ F => ?_
  have s7 := s4.f1
  refine Au F s7 rfl rfl Fx.sz90 (Af rfl (Af rfl (Af rfl (Af rfl Bd)))) (Ah rfl) fun w4 _ F s8 => ?_
  replace s8 : SL w [] w4 [Blk g9 90 [.int .i64 0, .int .u8 0, .int .i64 0, .int .i64 0], Blk g32 90 [.int .i64 0, .int .u8 0, .int .i64 0, .int .i64 0]] := s8
  refine Ak F (Aa (Am rfl) <| Ad) fun _ F => Aj <| Ab ?_
  obtain rfl := Ao H
  refine Bf <| blk_r <| Bg ?_
  refine Ax (rs := [.cell 4 90, .tmp 5]) (vs := [.agg ⟨[.int .i64 0, .int .u8 0, .int .i64 0, .int .i64 0]⟩, .int .i64 1]) F (by rfl) ⟨_, _, rfl, Ci s8 (.head _) rfl Fx.agg90 rfl, _, _, rfl, Ay rfl, rfl⟩ ⟨_, rfl, ⟨rfl, s8.drop.drop⟩⟩
 replace H := Bc h1 H
 refine Ai <| Al <| Ak F (Aa (Ae rfl) <| Aa (Ae rfl) <| Aa (Cd rfl Try.underlying22 (Cc (Cu hr0 s4))) <| Aa (Bw rfl rfl) <| Aa (Am rfl) <| Ad) fun _ F => Aj <| Ab <| Bm F rfl (fun h2 => ?_) (fun h2 => ?_)
 ·replace H := Bb h2 H
  refine Ai <| Al <| Ak F (Aa (Bn Fx.agg90 rfl (s4.blk_cells (.head _) (o := 0) (ds := [.int .i64 0, .int .u8 0, .int .i64 0, .int .i64 0]) (fun j u hu => by rw [Nat.zero_add]; exact hu)) rfl) <| Ad) fun _ F => ?_
  have s9 := s4.f1
  refine Au F s9 rfl rfl Fx.sz90 (Af rfl (Af rfl (Af rfl (Af rfl Bd)))) (Ah rfl) fun w5 _ F sa => ?_
  replace sa : SL w [] w5 [Blk g9 90 [.int .i64 0, .int .u8 0, .int .i64 0, .int .i64 0], Blk g32 90 [.int .i64 0, .int .u8 0, .int .i64 0, .int .i64 0]] := sa
  refine Ak F (Aa (Am rfl) <| Ad) fun _ F => Aj <| Ab ?_
  obtain rfl := Ao H
  refine Bf <| blk_r <| Bg ?_
  refine Ax (rs := [.cell 4 90, .tmp 5]) (vs := [.agg ⟨[.int .i64 0, .int .u8 0, .int .i64 0, .int .i64 0]⟩, .int .i64 2]) F (by rfl) ⟨_, _, rfl, Ci sa (.head _) rfl Fx.agg90 rfl, _, _, rfl, Ay rfl, rfl⟩ ⟨_, rfl, ⟨rfl, sa.drop.drop⟩⟩
 replace H := Bc h2 H
 refine Ai <| Al ?_
 obtain ⟨x0, h3, H⟩ := Aq H
 obtain ⟨a2, h4, h5⟩ := Dc Flat.u8 (Cu hr0 s4) Fx.sl22 rfl h3
 obtain ⟨x1, h6, H⟩ := Aq H
 refine Ak F (Aa (Ae rfl) <| Aa (Ae rfl) <| Aa (h4 _ _ _ _ _ _ _ _ _ _ rfl rfl) <| Aa (Ba Fx.nag5 rfl (Cells.at_ h5 (o := 0) rfl)) <| Ad) fun _ F => Bi (args := [.tmp 33]) F Fx.fn53 rfl (code_Size_c (a0 := x0)    h6) rfl fun v1 w6 _ h7 F => ?_
 obtain ⟨rfl, h8⟩ := h7
 have sb := s4.add h8
 refine Ak F (Aa (Bw rfl rfl) <| Aa (Am rfl) <| Ad) fun _ F => Aj <| Ab <| Bm F rfl (fun h9 => ?_) (fun h9 => ?_)
 ·replace H := Bb h9 H
  refine Ai <| Al <| Ak F (Aa (Bn Fx.agg90 rfl (sb.blk_cells (.head _) (o := 0) (ds := [.int .i64 0, .int .u8 0, .int .i64 0, .int .i64 0]) (fun j u hu => by rw [Nat.zero_add]; exact hu)) rfl) <| Ad) fun _ F => ?_
  have sc := sb.f1
  refine Au F sc rfl rfl Fx.sz90 (Af rfl (Af rfl (Af rfl (Af rfl Bd)))) (Ah rfl) fun w7 _ F sd => ?_
  replace sd : SL w [] w7 [Blk g9 90 [.int .i64 0, .int .u8 0, .int .i64 0, .int .i64 0], Blk g32 90 [.int .i64 0, .int .u8 0, .int .i64 0, .int .i64 0]] := sd
  refine Ak F (Aa (Am rfl) <| Ad) fun _ F => Aj <| Ab ?_
  obtain rfl := Ao H
  refine Bf <| blk_r <| Bg ?_
  refine Ax (rs := [.cell 4 90, .tmp 5]) (vs := [.agg ⟨[.int .i64 0, .int .u8 0, .int .i64 0, .int .i64 0]⟩, .int .i64 40]) F (by rfl) ⟨_, _, rfl, Ci sd (.head _) rfl Fx.agg90 rfl, _, _, rfl, Ay rfl, rfl⟩ ⟨_, rfl, ⟨rfl, sd.drop.drop⟩⟩
 replace H := Bc h9 H
 refine Ai <| Al ?_
 obtain ⟨x2, ha, H⟩ := Aq H
 obtain ⟨a3, hb, hc⟩ := Dc Flat.u8 (Cu hr0 sb) Fx.sl22 rfl ha
 obtain ⟨x3, hd, H⟩ := Aq H
 refine Ak F (Aa (Ae rfl) <| Aa (Cd rfl Try.underlying22 (Cc (Cu hr0 sb))) <| Aa (Ae rfl) <| Aa (ex_sub rfl rfl) <| Aa (Ae rfl) <| Aa (Ae rfl) <| Aa (hb _ _ _ _ _ _ _ _ _ _ rfl rfl) <| Aa (Ba Fx.nag5 rfl (Cells.at_ hc (o := 0) rfl)) <| Ad) fun _ F => Bi (args := [.tmp 45]) F Fx.fn53 rfl (code_Size_c (a0 := x2)    hd) rfl fun v2 w8 _ he F => ?_
 obtain ⟨rfl, hf⟩ := he
 have se := sb.add hf
 refine Ak F (Aa (Cn rfl rfl) <| Aa (Am rfl) <| Ad) fun _ F => Aj <| Ab <| Bm F rfl (fun hg => ?_) (fun hg => ?_)
 ·replace H := Bb hg H
  refine Ai <| Al <| Ak F (Aa (Bn Fx.agg90 rfl (se.blk_cells (.head _) (o := 0) (ds := [.int .i64 0, .int .u8 0, .int .i64 0, .int .i64 0]) (fun j u hu => by rw [Nat.zero_add]; exact hu)) rfl) <| Ad) fun _ F => ?_
  have sf := se.f1
  refine Au F sf rfl rfl Fx.sz90 (Af rfl (Af rfl (Af rfl (Af rfl Bd)))) (Ah rfl) fun w9 _ F sg => ?_
  replace sg : SL w [] w9 [Blk g9 90 [.int .i64 0, .int .u8 0, .int .i64 0, .int .i64 0], Blk g32 90 [.int .i64 0, .int .u8 0, .int .i64 0, .int .i64 0]] := sg
  refine Ak F (Aa (Am rfl) <| Ad) fun _ F => Aj <| Ab ?_
  obtain rfl := Ao H
  refine Bf <| blk_r <| Bg ?_
  refine Ax (rs := [.cell 4 90, .tmp 5]) (vs := [.agg ⟨[.int .i64 0, .int .u8 0, .int .i64 0, .int .i64 0]⟩, .int .i64 2]) F (by rfl) ⟨_, _, rfl, Ci sg (.head _) rfl Fx.agg90 rfl, _, _, rfl, Ay rfl, rfl⟩ ⟨_, rfl, ⟨rfl, sg.drop.drop⟩⟩
 replace H := Bc hg H
 refine Aw <| By <| Ab <| Ai <| Al ?_
 obtain ⟨x4, hh, H⟩ := Aq H
 obtain ⟨a4, hi, hj⟩ := Dc Flat.u8 (Cu hr0 se) Fx.sl22 rfl hh
 refine Ak F (Aa (Ae rfl) <| Aa (Ae rfl) <| Aa (Ae rfl) <| Aa (hi _ _ _ _ _ _ _ _ _ _ rfl rfl) <| Aa (Ba Fx.nag5 rfl (Cells.at_ hj (o := 0) rfl)) <| Aa (Co (vs := [.int .i64 a1, .int .u8 (x4.toNat : Int)]) Fx.zero90 Fx.pl90 rfl (cs := [.int .i64 a1, .int .u8 (x4.toNat : Int), .int .i64 0, .int .i64 0]) (rfl)) <| Ad) fun _ F => Bu F se Fx.zero90 rfl rfl fun g0 wa _ F sh => ?_
 have si := sh
 refine Au F si rfl rfl Fx.sz90 (Af rfl (Af rfl (Af rfl (Af rfl Bd)))) (Ah rfl) fun wb _ F sj => ?_
 replace sj : SL w [] wb [Blk g0 90 [.int .i64 a1, .int .u8 (x4.toNat : Int), .int .i64 0, .int .i64 0], Blk g32 90 [.int .i64 0, .int .u8 0, .int .i64 0, .int .i64 0], Blk g9 90 [.int .i64 0, .int .u8 0, .int .i64 0, .int .i64 0]] := sj
 refine Aj <| Ab <| Ai <| Al ?_
 obtain ⟨x5, hk, H⟩ := Aq H
 obtain ⟨v3, hl, hm⟩ := Rd.cut hr0 Fx.sl22 rfl hk (some (wr (a1 + 1))) none (.inl rfl) (.inr ⟨rfl, rfl⟩)
 refine Ak F (Aa (Ae rfl) <| Aa (Ae rfl) <| Aa (Bp rfl rfl) <| Aa (hl _ _ _ _ _ .i64 .i64 _ _ _ _ _ rfl rfl trivial) <| Ad) fun _ F => Bu F sj Fx.zero22 rfl rfl fun g1 wc _ F sk => ?_
 have sl := sk
 refine Ct F sl rfl rfl Fx.sz22 (Da (Cc (Cu hm sl))) (Cs (Cc (Cu hm sl))) rfl fun wd _ F sm => ?_
 replace sm : SL w [] wd [Blk g1 22 [v3], Blk g0 90 [.int .i64 a1, .int .u8 (x4.toNat : Int), .int .i64 0, .int .i64 0], Blk g32 90 [.int .i64 0, .int .u8 0, .int .i64 0, .int .i64 0], Blk g9 90 [.int .i64 0, .int .u8 0, .int .i64 0, .int .i64 0]] := sm
 refine Aj <| Ab <| Ai <| Al <| Ak F (Aa (ex_mkfunc (cs := [.tmp 8]) (vs := [.pointer (some ⟨g1, 0, none⟩)]) rfl) <| Aa (Am rfl) <| Ad) fun _ F => Aj <| Ab <| Ai <| Al ?_
 obtain ⟨x6, hn, H⟩ := Aq H
 refine Ak F (Aa (Az Fx.fa90_1 rfl rfl) <| Aa (Ba Fx.nag5 rfl (sm.blk_cell (.tail _ <| .head _) rfl)) <| Ad) fun _ F => Bi (args := [.tmp 62]) F Fx.fn72 rfl (code_widths_c (a0 := x4)    hn) rfl fun v4 we _ ho F => ?_
 obtain ⟨rfl, hp⟩ := ho
 have sn := sm.add hp
 refine Ak F (Aa (Ae rfl) <| Aa (As (v := .int .i64 x6.1) rfl rfl) <| Aa (As (v := .int .i64 x6.2) rfl rfl) <| Aa (Am rfl) <| Aa (Am rfl) <| Ad) fun _ F => Aj <| Ab <| Ai <| Al ?_
 obtain ⟨x7, hq, H⟩ := Aq H
 refine Ak F (Aa (Ae rfl) <| Aa (Ae rfl) <| Ad) fun _ F => ?_
 have so := sn
 obtain ⟨G0, hr, hs, ht, hv⟩ := SL.open_ (ps := [Blk g1 22 [v3]]) (rest := [Blk g0 90 [.int .i64 a1, .int .u8 (x4.toNat : Int), .int .i64 0, .int .i64 0], Blk g32 90 [.int .i64 0, .int .u8 0, .int .i64 0, .int .i64 0], Blk g9 90 [.int .i64 0, .int .u8 0, .int .i64 0, .int .i64 0]]) so
 refine st_callf (args := [.tmp 67]) F Fx.fn71 rfl rfl (code_Decode_1_s0_c (a0 := x6.1) (a1 := x5) hr  (hm.pass so hs) hq) rfl fun v5 wf _ hw F => ?_
 obtain ⟨v6, rfl, hx, hy⟩ := hw
 have sp := hv _ _ hy
 have hz := View.rd hx hm
 refine Ak F (Aa (Az Fx.fa90_2 rfl rfl) <| Ad) fun _ F => ?_
 have sq := sp.f1
 refine Ct F sq rfl rfl Fx.sz3 rfl rfl rfl fun wg _ F sr => ?_
 replace sr : SL w [] wg [Blk g0 90 [.int .i64 a1, .int .u8 (x4.toNat : Int), .int .i64 x7.1, .int .i64 0], Blk g1 22 [v6], Blk g32 90 [.int .i64 0, .int .u8 0, .int .i64 0, .int .i64 0], Blk g9 90 [.int .i64 0, .int .u8 0, .int .i64 0, .int .i64 0]] := sr
 refine Aj <| Ab <| Ai <| Al ?_
 obtain ⟨x8, h10, H⟩ := Aq H
 refine Ak F (Aa (Ae rfl) <| Aa (Ae rfl) <| Ad) fun _ F => ?_
 have ss := sr.f1
 obtain ⟨G1, h11, h12, h13, h14⟩ := SL.open_ (ps := [Blk g1 22 [v6]]) (rest := [Blk g0 90 [.int .i64 a1, .int .u8 (x4.toNat : Int), .int .i64 x7.1, .int .i64 0], Blk g32 90 [.int .i64 0, .int .u8 0, .int .i64 0, .int .i64 0], Blk g9 90 [.int .i64 0, .int .u8 0, .int .i64 0, .int .i64 0]]) ss
 refine st_callf (args := [.tmp 71]) F Fx.fn71 rfl rfl (code_Decode_1_s0_c (a0 := x6.2) (a1 := x7.2) h11  (hz.pass ss h12) h10) rfl fun v7 wh _ h15 F => ?_
 obtain ⟨v8, rfl, h16, h17⟩ := h15
 have st := h14 _ _ h17
 have h18 := View.rd h16 hz
 refine Ak F (Aa (Az Fx.fa90_3 rfl rfl) <| Ad) fun _ F => ?_
 have su := st.f1
 refine Ct F su rfl rfl Fx.sz3 rfl rfl rfl fun wi _ F sv => ?_
 replace sv : SL w [] wi [Blk g0 90 [.int .i64 a1, .int .u8 (x4.toNat : Int), .int .i64 x7.1, .int .i64 x8.1], Blk g1 22 [v8], Blk g32 90 [.int .i64 0, .int .u8 0, .int .i64 0, .int .i64 0], Blk g9 90 [.int .i64 0, .int .u8 0, .int .i64 0, .int .i64 0]] := sv
 refine Aj <| Ab <| Ai <| Ai <| Al <| Ak F (Aa (Az Fx.fa90_1 rfl rfl) <| Aa (Ba Fx.nag5 rfl (sv.blk_cell (.head _) rfl)) <| Aa (Bw rfl rfl) <| Aa (Ae rfl) <| Ad) fun _ F => Bl ((x4.toNat : Int) == 2) (fun h19 => ?_) (fun h19 => ?_)
 ·replace H := Bb h19 H
  refine Ar F rfl rfl (An rfl h19) (Az Fx.fa90_2 rfl rfl) rfl rfl fun _ F => Ar F rfl rfl (An rfl h19) (Ba Fx.nag3 rfl (sv.blk_cell (.head _) rfl)) rfl rfl fun _ F => Ar F rfl rfl (An rfl h19) (ex_gt rfl rfl) rfl rfl fun _ F => Ak F (Aa (Bh (Cb rfl h19) rfl) <| Ad) fun _ F => Aj <| Ab <| Bm F rfl (fun h1a => ?_) (fun h1a => ?_)
  ·replace H := Bb h1a H
   refine Ai <| Al <| Ak F (Aa (Bn Fx.agg90 rfl (sv.blk_cells (.tail _ <| .tail _ <| .head _) (o := 0) (ds := [.int .i64 0, .int .u8 0, .int .i64 0, .int .i64 0]) (fun j u hu => by rw [Nat.zero_add]; exact hu)) rfl) <| Ad) fun _ F => ?_
   have sw := sv.f3
   refine Au F sw rfl rfl Fx.sz90 (Af rfl (Af rfl (Af rfl (Af rfl Bd)))) (Ah rfl) fun wj _ F sx => ?_
   replace sx : SL w [] wj [Blk g9 90 [.int .i64 0, .int .u8 0, .int .i64 0, .int .i64 0], Blk g0 90 [.int .i64 a1, .int .u8 (x4.toNat : Int), .int .i64 x7.1, .int .i64 x8.1], Blk g1 22 [v8], Blk g32 90 [.int .i64 0, .int .u8 0, .int .i64 0, .int .i64 0]] := sx
   refine Ak F (Aa (Am rfl) <| Ad) fun _ F => Aj <| Ab ?_
   obtain rfl := Ao H
   refine Bf <| Bg ?_
   refine Ax (rs := [.cell 4 90, .tmp 5]) (vs := [.agg ⟨[.int .i64 0, .int .u8 0, .int .i64 0, .int .i64 0]⟩, .int .i64 5]) F (by rfl) ⟨_, _, rfl, Ci sx (.head _) rfl Fx.agg90 rfl, _, _, rfl, Ay rfl, rfl⟩ ⟨_, rfl, ⟨rfl, sx.drop.drop.drop.drop⟩⟩
  replace H := Bc h1a H
  refine Aw <| Ab <| Ai <| Al <| Ak F (Aa (Bn Fx.agg90 rfl (sv.blk_cells (.head _) (o := 0) (ds := [.int .i64 a1, .int .u8 (x4.toNat : Int), .int .i64 x7.1, .int .i64 x8.1]) (fun j u hu => by rw [Nat.zero_add]; exact hu)) rfl) <| Ad) fun _ F => ?_
  have sy := sv.f3
  refine Au F sy rfl rfl Fx.sz90 (Af rfl (Af rfl (Af rfl (Af rfl Bd)))) (Ah rfl) fun wk _ F sz => ?_
  replace sz : SL w [] wk [Blk g9 90 [.int .i64 a1, .int .u8 (x4.toNat : Int), .int .i64 x7.1, .int .i64 x8.1], Blk g0 90 [.int .i64 a1, .int .u8 (x4.toNat : Int), .int .i64 x7.1, .int .i64 x8.1], Blk g1 22 [v8], Blk g32 90 [.int .i64 0, .int .u8 0, .int .i64 0, .int .i64 0]] := sz
  refine Ak F (Aa (Am rfl) <| Ad) fun _ F => Aj <| Ab ?_
  obtain rfl := Ao H
  refine Bf ?_
  refine Ax (rs := [.cell 4 90, .tmp 5]) (vs := [.agg ⟨[.int .i64 a1, .int .u8 (x4.toNat : Int), .int .i64 x7.1, .int .i64 x8.1]⟩, .int .i64 0]) F (by rfl) ⟨_, _, rfl, Ci sz (.head _) rfl Fx.agg90 rfl, _, _, rfl, Ay rfl, rfl⟩ ⟨_, rfl, ⟨rfl, sz.drop.drop.drop.drop⟩⟩
 replace H := Bc h19 H
 refine Ap F rfl rfl (An rfl h19) Ac rfl rfl fun _ F => Ap F rfl rfl (An rfl h19) Ac rfl rfl fun _ F => Ap F rfl rfl (An rfl h19) Ac rfl rfl fun _ F => Ak F (Aa (Bj (Cb rfl h19) rfl) <| Ad) fun _ F => Aj <| Ab <| Cl F rfl <| Aw <| Ab <| Ai <| Al <| Ak F (Aa (Bn Fx.agg90 rfl (sv.blk_cells (.head _) (o := 0) (ds := [.int .i64 a1, .int .u8 (x4.toNat : Int), .int .i64 x7.1, .int .i64 x8.1]) (fun j u hu => by rw [Nat.zero_add]; exact hu)) rfl) <| Ad) fun _ F => ?_
 have s10 := sv.f3
 refine Au F s10 rfl rfl Fx.sz90 (Af rfl (Af rfl (Af rfl (Af rfl Bd)))) (Ah rfl) fun wl _ F s11 => ?_
 replace s11 : SL w [] wl [Blk g9 90 [.int .i64 a1, .int .u8 (x4.toNat : Int), .int .i64 x7.1, .int .i64 x8.1], Blk g0 90 [.int .i64 a1, .int .u8 (x4.toNat : Int), .int .i64 x7.1, .int .i64 x8.1], Blk g1 22 [v8], Blk g32 90 [.int .i64 0, .int .u8 0, .int .i64 0, .int .i64 0]] := s11
 refine Ak F (Aa (Am rfl) <| Ad) fun _ F => Aj <| Ab ?_
 obtain rfl := Ao H
 refine Bf ?_
 refine Ax (rs := [.cell 4 90, .tmp 5]) (vs := [.agg ⟨[.int .i64 a1, .int .u8 (x4.toNat : Int), .int .i64 x7.1, .int .i64 x8.1]⟩, .int .i64 0]) F (by rfl) ⟨_, _, rfl, Ci s11 (.head _) rfl Fx.agg90 rfl, _, _, rfl, Ay rfl, rfl⟩ ⟨_, rfl, ⟨rfl, s11.drop.drop.drop.drop⟩⟩
-- proviso/flow.Scan
theorem flow_Scan_c {w : World} {v0 : Value} {a0 : List UInt8} {r : (List S_api_Instr) × Int × Int} (hr0 : Rd Ty.u8 w [] v0 a0) (H : flow_Scan a0 = some r) :
    Calls Try.prog 27 #[v0] w (Ret fun u_ w_ => ∃ u0 : Value, u_ = .tuple ⟨[u0, .int .i64 r.2.1, .int .i64 r.2.2]⟩ ∧ SL w [] w_ [Sl T_api_Instr u0 r.1]) := by
 have s0 : SL w [] w [] := SL.init0 w
 refine Bq Try.func27 rfl Try.ntmps27 (Ah rfl) (args := [v0]) fun q0 F0 => ?_
 unfold flow_Scan at H
 refine Ai <| Al <| Ak F0 (Aa (Am rfl) <| Aa (Am rfl) <| Aa (Am rfl) <| Ad) fun q3 F4 => Aj <| Ab <| Ai <| Ai <| Al <| Ak F4 (Aa (Ae rfl) <| Aa (Cd rfl Try.underlying22 (Cc (Cu hr0 s0))) <| Aa (ex_gt rfl rfl) <| Ad) fun _ F => Aj <| Ab <| Bm F rfl (fun h0 => ?_) (fun h0 => ?_)
 ·replace H := Bb h0 H
  refine Ai <| Al <| Ak F (Aa (Am rfl) <| Aa (Am rfl) <| Aa (Am rfl) <| Ad) fun _ F => Aj <| Ab ?_
  obtain rfl := Ao H
  refine Bf <| Bg ?_
  refine Ax (rs := [.tmp 2, .tmp 3, .tmp 4]) (vs := [.slice none 0 0, .int .i64 0, .int .i64 4]) F (by rfl) ⟨_, _, rfl, Ay rfl, _, _, rfl, Ay rfl, _, _, rfl, Ay rfl, rfl⟩ ⟨_, rfl, ⟨(.slice none 0 0), rfl, (SL.nilSl (T := T_api_Instr) s0)⟩⟩
 replace H := Bc h0 H
 refine Aw <| Ab <| Ai <| Al <| Ak F (Aa (Am rfl) <| Ad) fun _ F => Aj <| Ab <| Ai <| Ai <| Al <| Ak F (Aa (Am rfl) <| Ad) fun _ F => Aj <| Ab ?_
 obtain ⟨o0, H0, R0⟩ := Aq H
 clear H
 refine Bx (fun a w_ => ∃ p0 : (List S_api_Instr), o0 = .inr (p0) ∧ ∃ v1 : Value, Fr a 36 [(5, v1)] ∧ SL w [] w_ [Sl T_api_Instr v1 p0]) ?_ ?_
 ·have H := H0
  refine Be <| Cq (flow_Scan_b0 a0) (fun s1 a w_ => ∃ v2 : Value, Fr a 36 [(0, v0), (5, v2), (6, .int .i64 s1.2)] ∧ SL w [] w_ [Sl T_api_Instr v2 s1.1]) H ?_ ?_
  ·exact ⟨(.slice none 0 0), F.sub ⟨rfl, rfl, rfl, trivial⟩, (SL.nilSl (T := T_api_Instr) s0)⟩
  intro s1 _ w0 h1 o1 H hr
  obtain ⟨v2, F, s2⟩ := h1
  replace H : flow_Scan_b0 a0 s1 = some o1 := H
  unfold flow_Scan_b0 at H
  refine Ai <| Ai <| Al <| Ak F (Aa (Ae rfl) <| Aa (Ae rfl) <| Aa (Cd rfl Try.underlying22 (Cc (Cu hr0 s2))) <| Aa (Cn rfl rfl) <| Ad) fun _ F => Aj <| Ab <| Bm F rfl (fun h2 => ?_) (fun h2 => ?_)
  ·replace H := Bb h2 H
   refine Aw <| Ab <| Be <| Ai <| Al ?_
   obtain ⟨x0, h3, H⟩ := Aq H
   refine Ak F (Aa (Ae rfl) <| Aa (Ae rfl) <| Ad) fun _ F => Bi (args := [.tmp 17, .tmp 18]) F Fx.fn52 rfl (code_Decode_c (a0 := a0) (a1 := s1.2)   (hr0.pass0 s2) h3) rfl fun v3 w1 _ h4 F => ?_
   obtain ⟨rfl, h5⟩ := h4
   have s3 := s2.add h5
   refine Ak F (Aa (Ae rfl) <| Aa (As (v := .agg ⟨[.int .i64 x0.1.At, .int .u8 (x0.1.Op.toNat : Int), .int .i64 x0.1.A, .int .i64 x0.1.B]⟩) rfl rfl) <| Aa (As (v := .int .i64 x0.2) rfl rfl) <| Ad) fun _ F => Bu F s3 Fx.zero90 rfl rfl fun g0 w2 _ F s4 => ?_
   have s5 := s4
   refine Au F s5 rfl rfl Fx.sz90 (Af rfl (Af rfl (Af rfl (Af rfl Bd)))) (Ah rfl) fun w3 _ F s6 => ?_
   replace s6 : SL w [] w3 [Blk g0 90 [.int .i64 x0.1.At, .int .u8 (x0.1.Op.toNat : Int), .int .i64 x0.1.A, .int .i64 x0.1.B], Sl T_api_Instr v2 s1.1] := s6
   refine Ak F (Aa (Am rfl) <| Ad) fun _ F => Aj <| Ab <| Ai <| Ai <| Al <| Ak F (Aa (Ae rfl) <| Aa (Dd rfl rfl) <| Ad) fun _ F => Aj <| Ab <| Bm F rfl (fun h6 => ?_) (fun h6 => ?_)
   ·replace H := Bb h6 H
    refine Ai <| Al <| Ak F (Aa (Ae rfl) <| Aa (Ae rfl) <| Aa (Am rfl) <| Aa (Am rfl) <| Aa (Am rfl) <| Ad) fun _ F => Aj <| Ab ?_
    obtain rfl := Ao H
    obtain rfl := hr _ rfl
    replace H := R0
    try dsimp only at H
    obtain rfl := Ao H
    refine Bf <| Bg <| blk_r <| Bg <| blk_r <| Bg <| Bg ?_
    refine Ax (rs := [.tmp 2, .tmp 3, .tmp 4]) (vs := [.slice none 0 0, .int .i64 s1.2, .int .i64 x0.2]) F (by rfl) ⟨_, _, rfl, Ay rfl, _, _, rfl, Ay rfl, _, _, rfl, Ay rfl, rfl⟩ ⟨_, rfl, ⟨(.slice none 0 0), rfl, (SL.nilSl (T := T_api_Instr) s6).f1.drop.f1.drop⟩⟩
   replace H := Bc h6 H
   refine Aw <| Ab <| Ai <| Al <| Ak F (Aa (Ae rfl) <| Aa (Bn Fx.agg90 rfl (s6.blk_cells (.head _) (o := 0) (ds := [.int .i64 x0.1.At, .int .u8 (x0.1.Op.toNat : Int), .int .i64 x0.1.A, .int .i64 x0.1.B]) (fun j u hu => by rw [Nat.zero_add]; exact hu)) rfl) <| Ad) fun _ F => ?_
   refine Cm (parts := [(0, .tmp 27)]) F_api_Instr ([(⟨x0.1.At, x0.1.Op, x0.1.A, x0.1.B⟩ : S_api_Instr)] : List S_api_Instr) F s6 Fx.sl67 rfl (by decide) rfl rfl rfl (by simp [Value.cells]) rfl rfl rfl fun v4 w4 _ F s7 => ?_
   obtain ⟨x1, h7, H⟩ := Aq H
   have s8 := s7.f2
   obtain ⟨_, hr_⟩ := (s8.own_rd (.tail _ <| .head _))
   refine Ch F_api_Instr F s8 Fx.sl67 rfl rfl rfl rfl hr_ rfl rfl h7 rfl fun v5 w5 _ F s9 => ?_
   have s3245' := s9.f1.drop
   refine Ak F (Aa (Am rfl) <| Ad) fun _ F => Aj <| Ab <| Al ?_
   obtain ⟨x2, h8, H⟩ := Aq H
   refine Ak F (Aa (Ae rfl) <| Aa (Az Fx.fa90_1 rfl rfl) <| Aa (Ba Fx.nag5 rfl (s3245'.blk_cell (.tail _ <| .head _) rfl)) <| Ad) fun _ F => Bi (args := [.tmp 32]) F Fx.fn53 rfl (code_Size_c (a0 := x0.1.Op)    h8) rfl fun v6 w6 _ h9 F => ?_
   obtain ⟨rfl, ha⟩ := h9
   have sa := s3245'.add ha
   refine Ak F (Aa (Bp rfl rfl) <| Aa (Am rfl) <| Ad) fun _ F => Aj <| By ?_
   obtain rfl := Ao H
   refine Ab ?_
   exact ⟨_, rfl, v5, F.sub ⟨rfl, rfl, rfl, trivial⟩, sa.f1.drop⟩
  replace H := Bc h2 H
  refine Bz <| Bo <| Bo <| Ca ?_
  obtain rfl := Ao H
  obtain rfl := hr _ rfl
  refine Ab ?_
  exact ⟨_, rfl, v2, F.sub ⟨rfl, trivial⟩, s2⟩
 intro _ w7 hJ
 obtain ⟨p0, rfl, v1, F, sb⟩ := hJ
 have H := R0
 clear R0 H0
 try dsimp only at H
 refine Ab <| Ai <| Al <| Ak F (Aa (Ae rfl) <| Aa (Am rfl) <| Aa (Am rfl) <| Aa (Am rfl) <| Ad) fun _ F => Aj <| Ab ?_
 obtain rfl := Ao H
 refine Bf ?_
 refine Ax (rs := [.tmp 2, .tmp 3, .tmp 4]) (vs := [v1, .int .i64 0, .int .i64 0]) F (by rfl) ⟨_, _, rfl, Ay rfl, _, _, rfl, Ay rfl, _, _, rfl, Ay rfl, rfl⟩ ⟨_, rfl, ⟨v1, rfl, sb⟩⟩
-- proviso/flow.addresses
theorem flow_addresses_c {w : World} {v0 : Value} {a0 : List S_api_Instr} {r : (List (Int × Int))} (hr0 : Rd T_api_Instr w [] v0 a0) (H : flow_addresses a0 = some r) :
    Calls Try.prog 54 #[v0] w (Ret fun u_ w_ => ∃ k0 : Nat, u_ = .map (some k0) ∧ SL w [] w_ [Mp (Value.int .i64) (Value.int .i64) k0 r]) := by
 have s0 : SL w [] w [] := SL.init0 w
 refine Bq Try.func54 rfl Try.ntmps54 (Ah rfl) (args := [v0]) fun q0 F0 => ?_
 unfold flow_addresses at H
 refine Ai <| Al <| Ak F0 (Aa (Am rfl) <| Ad) fun q3 F4 => Aj <| Ab <| Ai <| Al <| st_mkmap (Value.int .i64) (Value.int .i64) F4 s0 rfl fun g0 w0 _ F s1 => Ak F (Aa (Am rfl) <| Ad) fun _ F => Aj <| Ab <| Ai <| Ai <| Al <| Ak F (Aa (Ae rfl) <| Aa (Cd rfl Try.underlying67 (Cc (Cu hr0 s1))) <| Aa (Ae rfl) <| Ad) fun _ F => Aj <| Ab ?_
 obtain ⟨o0, H0, R0⟩ := Aq H
 clear H
 refine Bx (fun a w_ => Fr a 31 [(3, .map (some g0))] ∧ SL w [] w_ [Mp (Value.int .i64) (Value.int .i64) g0 o0]) ?_ ?_
 ·have H := H0
  refine Be <| Cq (flow_addresses_b0 a0) (fun s2 a w_ => Fr a 31 [(3, .map (some g0)), (9, v0), (10, .int .i64 (a0.length : Int)), (11, .int .i64 s2.2)] ∧ SL w [] w_ [Mp (Value.int .i64) (Value.int .i64) g0 s2.1]) H ?_ ?_
  ·exact ⟨F.sub ⟨rfl, rfl, rfl, rfl, trivial⟩, s1⟩
  intro s2 _ w1 h0 o1 H hr
  obtain ⟨F, s3⟩ := h0
  replace H : flow_addresses_b0 a0 s2 = some o1 := H
  unfold flow_addresses_b0 at H
  refine Ai <| Al <| Ak F (Aa (Cn rfl rfl) <| Ad) fun _ F => Aj <| Ab <| Ai <| Bm F rfl (fun h1 => ?_) (fun h1 => ?_)
  ·replace H := Bb h1 H
   refine Aw <| Ab <| Ai <| Be <| Ai <| Al ?_
   obtain ⟨x0, h2, H⟩ := Aq H
   obtain ⟨a1, h3, h4⟩ := Dc F_api_Instr (Cu hr0 s3) Fx.sl67 rfl h2
   refine Ak F (Aa (Ae rfl) <| Aa (h3 _ _ _ _ _ _ _ _ _ _ rfl rfl) <| Aa (Bn Fx.agg90 rfl h4 rfl) <| Ad) fun _ F => Bu F s3 Fx.zero90 rfl rfl fun g1 w2 _ F s4 => Ak F (Aa (Am rfl) <| Ad) fun _ F => ?_
   have s5 := s4
   refine Au F s5 rfl rfl Fx.sz90 (Af rfl (Af rfl (Af rfl (Af rfl Bd)))) (Ah rfl) fun w3 _ F s6 => ?_
   replace s6 : SL w [] w3 [Blk g1 90 [.int .i64 x0.At, .int .u8 (x0.Op.toNat : Int), .int .i64 x0.A, .int .i64 x0.B], Mp (Value.int .i64) (Value.int .i64) g0 s2.1] := s6
   refine Aj <| Ab <| Ai <| Al <| Ak F (Aa (Ae rfl) <| Aa (Az Fx.fa90_0 rfl rfl) <| Aa (Ba Fx.nag3 rfl (s6.blk_cell (.head _) rfl)) <| Aa (ex_lookup2 (k := x0.At) (z0 := (0 : Int)) s6 (.tail _ <| .head _) Try.underlying109 Fx.key3 Fx.mz3 rfl rfl) <| Aa (Ae rfl) <| Aa (As (v := .int .i64 ((mget s2.1 x0.At).getD (0 : Int))) rfl rfl) <| Aa (As (v := .bool ((mget s2.1 x0.At).isSome)) rfl rfl) <| Aa (Am rfl) <| Aa (Am rfl) <| Ad) fun _ F => Aj <| Ab <| Ai <| Al <| Ak F (Aa (Ae rfl) <| Aa (Cx rfl) <| Ad) fun _ F => Aj <| Ab <| Bm F rfl (fun h5 => ?_) (fun h5 => ?_)
   ·replace H := Bb h5 H
    refine Al <| Ak F (Aa (Ae rfl) <| Aa (Az Fx.fa90_0 rfl rfl) <| Aa (Ba Fx.nag3 rfl (s6.blk_cell (.head _) rfl)) <| Aa (Ae rfl) <| Ad) fun _ F => st_mapset (k := x0.At) (u := s2.2) F s6.f1 Try.underlying109 Fx.key3 rfl rfl rfl fun w4 _ F s7 => Aj <| By <| Ab <| Al <| Ak F (Aa (Bp rfl rfl) <| Aa (Ae rfl) <| Ad) fun _ F => Aj ?_
    obtain rfl := Ao H
    refine Ab ?_
    exact ⟨_, rfl, F.sub ⟨rfl, rfl, rfl, rfl, trivial⟩, s7.f1.drop⟩
   replace H := Bc h5 H
   refine Aw <| By <| Ab <| Al <| Ak F (Aa (Bp rfl rfl) <| Aa (Ae rfl) <| Ad) fun _ F => Aj ?_
   obtain rfl := Ao H
   refine Ab ?_
   exact ⟨_, rfl, F.sub ⟨rfl, rfl, rfl, rfl, trivial⟩, s6.drop⟩
  replace H := Bc h1 H
  refine Bz <| Bo <| Bo <| Ca ?_
  obtain rfl := Ao H
  obtain rfl := hr _ rfl
  refine Ab ?_
  exact ⟨F.sub ⟨rfl, trivial⟩, s3⟩
 intro _ w5 hJ
 obtain ⟨F, s8⟩ := hJ
 have H := R0
 clear R0 H0
 refine Ab <| Ai <| Al <| Ak F (Aa (Ae rfl) <| Aa (Am rfl) <| Ad) fun _ F => Aj <| Ab ?_
 obtain rfl := Ao H
 refine Bf ?_
 refine Ax (rs := [.tmp 2]) (vs := [.map (some g0)]) F (by rfl) ⟨_, _, rfl, Ay rfl, rfl⟩ ⟨_, rfl, ⟨g0, rfl, s8⟩⟩
-- proviso/code.Jumps
theorem code_Jumps_c {w : World} {a0 : UInt8} {r : Bool}  (H : code_Jumps a0 = some r) :
    Calls Try.prog 55 #[.int .u8 (a0.toNat : Int)] w (Ret fun u_ w_ => u_ = .bool r ∧ SL w [] w_ []) := by
 have s0 : SL w [] w [] := SL.init0 w
 refine Bq Try.func55 rfl Try.ntmps55 (Ah rfl) (args := [.int .u8 (a0.toNat : Int)]) fun q0 F0 => ?_
 unfold code_Jumps at H
 refine Ai <| Al <| Ak F0 (Aa (Am rfl) <| Ad) fun q3 F4 => Aj <| Ab <| Ai <| Al <| Ak F4 (Aa (Ae rfl) <| Aa (Bw rfl rfl) <| Aa (Ae rfl) <| Ad) fun _ F => Bl ((a0.toNat : Int) == 19) (fun h0 => ?_) (fun h0 => ?_)
 ·replace H := Bb h0 H
  refine Ap F rfl rfl (An rfl h0) Ac rfl rfl fun _ F => Ap F rfl rfl (An rfl h0) Ac rfl rfl fun _ F => Ak F (Aa (Bh (Cb rfl h0) rfl) <| Aa (Am rfl) <| Ad) fun _ F => Aj <| Ab ?_
  obtain rfl := Ao H
  refine Bf ?_
  refine Ax (rs := [.tmp 2]) (vs := [.bool true]) F (by rfl) ⟨_, _, rfl, Ay rfl, rfl⟩ ⟨_, rfl, ⟨rfl, s0⟩⟩
 replace H := Bc h0 H
 refine Ar F rfl rfl (An rfl h0) (Ae rfl) rfl rfl fun _ F => Ar F rfl rfl (An rfl h0) (Bw rfl rfl) rfl rfl fun _ F => Ak F (Aa (Bj (Cb rfl h0) rfl) <| Aa (Am rfl) <| Ad) fun _ F => Aj <| Ab ?_
 obtain rfl := Ao H
 refine Bf ?_
 refine Ax (rs := [.tmp 2]) (vs := [.bool ((a0.toNat : Int) == 20)]) F (by rfl) ⟨_, _, rfl, Ay rfl, rfl⟩ ⟨_, rfl, ⟨rfl, s0⟩⟩
-- proviso/code.Ends
theorem code_Ends_c {w : World} {a0 : UInt8} {r : Bool}  (H : code_Ends a0 = some r) :
    Calls Try.prog 56 #[.int .u8 (a0.toNat : Int)] w (Ret fun u_ w_ => u_ = .bool r ∧ SL w [] w_ []) := by
 have s0 : SL w [] w [] := SL.init0 w
 refine Bq Try.func56 rfl Try.ntmps56 (Ah rfl) (args := [.int .u8 (a0.toNat : Int)]) fun q0 F0 => ?_
 unfold code_Ends at H
 refine Ai <| Al <| Ak F0 (Aa (Am rfl) <| Ad) fun q3 F4 => Aj <| Ab <| Ai <| Al <| Ak F4 (Aa (Ae rfl) <| Aa (Bw rfl rfl) <| Aa (Ae rfl) <| Ad) fun _ F => Bl ((a0.toNat : Int) == 19) (fun h0 => ?_) (fun h0 => ?_)
 ·replace H := Bb h0 H
  refine Ap F rfl rfl (An rfl h0) Ac rfl rfl fun _ F => Ap F rfl rfl (An rfl h0) Ac rfl rfl fun _ F => Ak F (Aa (Bh (Cb rfl h0) rfl) <| Aa (Ae rfl) <| Ad) fun _ F => Ap F rfl rfl rfl Ac rfl rfl fun _ F => Ap F rfl rfl rfl Ac rfl rfl fun _ F => Ak F (Aa (Bh rfl rfl) <| Aa (Am rfl) <| Ad) fun _ F => Aj <| Ab ?_
  obtain rfl := Ao H
  refine Bf ?_
  refine Ax (rs := [.tmp 2]) (vs := [.bool true]) F (by rfl) ⟨_, _, rfl, Ay rfl, rfl⟩ ⟨_, rfl, ⟨rfl, s0⟩⟩
 replace H := Bc h0 H
 refine Ar F rfl rfl (An rfl h0) (Ae rfl) rfl rfl fun _ F => Ar F rfl rfl (An rfl h0) (Bw rfl rfl) rfl rfl fun _ F => Ak F (Aa (Bj (Cb rfl h0) rfl) <| Aa (Ae rfl) <| Ad) fun _ F => Bl ((a0.toNat : Int) == 22) (fun h1 => ?_) (fun h1 => ?_)
 ·replace H := Bb h1 H
  refine Ap F rfl rfl (An rfl h1) Ac rfl rfl fun _ F => Ap F rfl rfl (An rfl h1) Ac rfl rfl fun _ F => Ak F (Aa (Bh (Cb rfl h1) rfl) <| Aa (Am rfl) <| Ad) fun _ F => Aj <| Ab ?_
  obtain rfl := Ao H
  refine Bf ?_
  refine Ax (rs := [.tmp 2]) (vs := [.bool true]) F (by rfl) ⟨_, _, rfl, Ay rfl, rfl⟩ ⟨_, rfl, ⟨rfl, s0⟩⟩
 replace H := Bc h1 H
 refine Ar F rfl rfl (An rfl h1) (Ae rfl) rfl rfl fun _ F => Ar F rfl rfl (An rfl h1) (Bw rfl rfl) rfl rfl fun _ F => Ak F (Aa (Bj (Cb rfl h1) rfl) <| Aa (Am rfl) <| Ad) fun _ F => Aj <| Ab ?_
 obtain rfl := Ao H
 refine Bf ?_
 refine Ax (rs := [.tmp 2]) (vs := [.bool ((a0.toNat : Int) == 32)]) F (by rfl) ⟨_, _, rfl, Ay rfl, rfl⟩ ⟨_, rfl, ⟨rfl, s0⟩⟩
-- proviso/flow.Check
theorem flow_Check_c {w : World} {v0 : Value} {a0 : List UInt8} {r : Int × Int} (hr0 : Rd Ty.u8 w [] v0 a0) (H : flow_Check a0 = some r) :
    Calls Try.prog 28 #[v0] w (Ret fun u_ w_ => u_ = .tuple ⟨[.int .i64 r.1, .int .i64 r.2]⟩ ∧ SL w [] w_ []) := by
 have s0 : SL w [] w [] := SL.init0 w
 refine Bq Try.func28 rfl Try.ntmps28 (Ah rfl) (args := [v0]) fun q0 F0 => ?_
 unfold flow_Check at H
 refine Ai <| Al <| Ak F0 (Aa (Am rfl) <| Aa (Am rfl) <| Ad) fun q3 F4 => Aj <| Ab <| Ai <| Al ?_
 obtain ⟨x0, h0, H⟩ := Aq H
 refine Ak F4 (Aa (Ae rfl) <| Ad) fun _ F => Bi (args := [.tmp 14]) F Fx.fn27 rfl (flow_Scan_c (a0 := a0)   (hr0.pass0 s0) h0) rfl fun v1 w0 _ h1 F => ?_
 obtain ⟨v2, rfl, h2⟩ := h1
 have s1 := s0.add h2
 refine Ak F (Aa (Ae rfl) <| Aa (As (v := v2) rfl rfl) <| Aa (As (v := .int .i64 x0.2.1) rfl rfl) <| Aa (As (v := .int .i64 x0.2.2) rfl rfl) <| Aa (Am rfl) <| Aa (Am rfl) <| Aa (Am rfl) <| Ad) fun _ F => Aj <| Ab <| Ai <| Ai <| Al <| Ak F (Aa (Ae rfl) <| Aa (Dd rfl rfl) <| Ad) fun _ F => Aj <| Ab <| Bm F rfl (fun h3 => ?_) (fun h3 => ?_)
 ·replace H := Bb h3 H
  refine Ai <| Al <| Ak F (Aa (Ae rfl) <| Aa (Ae rfl) <| Aa (Am rfl) <| Aa (Am rfl) <| Ad) fun _ F => Aj <| Ab ?_
  obtain rfl := Ao H
  refine Bf <| Bg ?_
  refine Ax (rs := [.tmp 2, .tmp 3]) (vs := [.int .i64 x0.2.1, .int .i64 x0.2.2]) F (by rfl) ⟨_, _, rfl, Ay rfl, _, _, rfl, Ay rfl, rfl⟩ ⟨_, rfl, ⟨rfl, s1.drop⟩⟩
 replace H := Bc h3 H
 refine Aw <| Ab <| Ai <| Al ?_
 obtain ⟨x1, h4, H⟩ := Aq H
 refine Ak F (Aa (Ae rfl) <| Ad) fun _ F => Bi (args := [.tmp 23]) F Fx.fn54 rfl (flow_addresses_c (a0 := x0.1)   (s1.rd0 (.head _)) h4) rfl fun v3 w1 _ h5 F => ?_
 obtain ⟨g0, rfl, h6⟩ := h5
 have s2 := s1.add h6
 refine Ak F (Aa (Am rfl) <| Ad) fun _ F => Aj <| Ab <| Ai <| Ai <| Al <| Ak F (Aa (Ae rfl) <| Aa (Cd rfl Try.underlying67 (Cc (s2.own_rd (.tail _ <| .head _)))) <| Aa (Ae rfl) <| Ad) fun _ F => Aj <| Ab ?_
 obtain ⟨o0, H0, R0⟩ := Aq H
 clear H
 refine Bx (fun a w_ => ∃ p0 : Unit, o0 = .inr (p0) ∧ Fr a 63 [(4, v2)] ∧ SL w [] w_ [Sl T_api_Instr v2 x0.1]) ?_ ?_
 ·have H := H0
  refine Be <| Cq (flow_Check_b0 x0 x1) (fun s3 a w_ => Fr a 63 [(4, v2), (7, .map (some g0)), (25, v2), (26, .int .i64 (x0.1.length : Int)), (27, .int .i64 s3)] ∧ SL w [] w_ [Mp (Value.int .i64) (Value.int .i64) g0 x1, Sl T_api_Instr v2 x0.1]) H ?_ ?_
  ·exact ⟨F.sub ⟨rfl, rfl, rfl, rfl, rfl, trivial⟩, s2⟩
  intro s3 _ w2 h7 o1 H hr
  obtain ⟨F, s4⟩ := h7
  replace H : flow_Check_b0 x0 x1 s3 = some o1 := H
  unfold flow_Check_b0 at H
  refine Ai <| Al <| Ak F (Aa (Cn rfl rfl) <| Ad) fun _ F => Aj <| Ab <| Ai <| Bm F rfl (fun h8 => ?_) (fun h8 => ?_)
  ·replace H := Bb h8 H
   refine Aw <| Ab <| Ai <| Be <| Ai <| Al ?_
   obtain ⟨x2, h9, H⟩ := Aq H
   obtain ⟨a1, ha, hb⟩ := Cf F_api_Instr s4 (.tail _ <| .head _) Fx.sl67 rfl h9
   refine Ak F (Aa (ha _ _ _ _ _ _ _ _ _ _ rfl rfl) <| Aa (Bn Fx.agg90 rfl (SL.elcells F_api_Instr s4 (.tail _ <| .head _) hb h9) rfl) <| Ad) fun _ F => Bu F s4 Fx.zero90 rfl rfl fun g1 w3 _ F s5 => ?_
   have s6 := s5
   refine Au F s6 rfl rfl Fx.sz90 (Af rfl (Af rfl (Af rfl (Af rfl Bd)))) (Ah rfl) fun w4 _ F s7 => ?_
   replace s7 : SL w [] w4 [Blk g1 90 [.int .i64 x2.At, .int .u8 (x2.Op.toNat : Int), .int .i64 x2.A, .int .i64 x2.B], Mp (Value.int .i64) (Value.int .i64) g0 x1, Sl T_api_Instr v2 x0.1] := s7
   refine Aj <| Ab <| Ai <| Al <| Ak F (Aa (Ae rfl) <| Aa (Az Fx.fa90_2 rfl rfl) <| Aa (Ba Fx.nag3 rfl (s7.blk_cell (.head _) rfl)) <| Aa (ex_lookup2 (k := x2.A) (z0 := (0 : Int)) s7 (.tail _ <| .head _) Try.underlying109 Fx.key3 Fx.mz3 rfl rfl) <| Aa (Ae rfl) <| Aa (As (v := .int .i64 ((mget x1 x2.A).getD (0 : Int))) rfl rfl) <| Aa (As (v := .bool ((mget x1 x2.A).isSome)) rfl rfl) <| Aa (Am rfl) <| Aa (Am rfl) <| Ad) fun _ F => Aj <| Ab <| Ai <| Al ?_
   obtain ⟨x3, hc, H⟩ := Aq H
   refine Ak F (Aa (Az Fx.fa90_1 rfl rfl) <| Aa (Ba Fx.nag5 rfl (s7.blk_cell (.head _) rfl)) <| Ad) fun _ F => Bi (args := [.tmp 39]) F Fx.fn55 rfl (code_Jumps_c (a0 := x2.Op)    hc) rfl fun v4 w5 _ hd F => ?_
   obtain ⟨rfl, he⟩ := hd
   have s8 := s7.add he
   refine Ak F (Aa (Ae rfl) <| Ad) fun _ F => Bl x3 (fun hf => ?_) (fun hf => ?_)
   ·replace H := Bb hf H
    refine Ar F rfl rfl (An rfl hf) (Ae rfl) rfl rfl fun _ F => Ar F rfl rfl (An rfl hf) (Cx rfl) rfl rfl fun _ F => Ak F (Aa (Bh (Cb rfl hf) rfl) <| Ad) fun _ F => Aj <| Ab <| Bm F rfl (fun hg => ?_) (fun hg => ?_)
    ·replace H := Bb hg H
     refine Ai <| Al <| Ak F (Aa (Az Fx.fa90_0 rfl rfl) <| Aa (Ba Fx.nag3 rfl (s8.blk_cell (.head _) rfl)) <| Aa (Am rfl) <| Aa (Am rfl) <| Ad) fun _ F => Aj <| Ab ?_
     obtain rfl := Ao H
     obtain rfl := hr _ rfl
     replace H := R0
     try dsimp only at H
     obtain rfl := Ao H
     refine Bf <| blk_r <| Bg <| Bg <| blk_r <| Bg <| Bg ?_
     refine Ax (rs := [.tmp 2, .tmp 3]) (vs := [.int .i64 x2.At, .int .i64 50]) F (by rfl) ⟨_, _, rfl, Ay rfl, _, _, rfl, Ay rfl, rfl⟩ ⟨_, rfl, ⟨rfl, s8.drop.drop.drop⟩⟩
    replace H := Bc hg H
    refine Aw <| By <| Ab <| Al <| Ak F (Aa (Bp rfl rfl) <| Aa (Ae rfl) <| Ad) fun _ F => Aj ?_
    obtain rfl := Ao H
    refine Ab ?_
    exact ⟨_, rfl, F.sub ⟨rfl, rfl, rfl, rfl, rfl, trivial⟩, s8.drop⟩
   replace H := Bc hf H
   refine Ap F rfl rfl (An rfl hf) Ac rfl rfl fun _ F => Ap F rfl rfl (An rfl hf) Ac rfl rfl fun _ F => Ak F (Aa (Bj (Cb rfl hf) rfl) <| Ad) fun _ F => Aj <| Ab <| Cl F rfl <| Aw <| By <| Ab <| Al <| Ak F (Aa (Bp rfl rfl) <| Aa (Ae rfl) <| Ad) fun _ F => Aj ?_
   obtain rfl := Ao H
   refine Ab ?_
   exact ⟨_, rfl, F.sub ⟨rfl, rfl, rfl, rfl, rfl, trivial⟩, s8.drop⟩
  replace H := Bc h8 H
  refine Bz <| Bo <| Bo <| Ca ?_
  obtain rfl := Ao H
  obtain rfl := hr _ rfl
  refine Ab ?_
  exact ⟨_, rfl, F.sub ⟨rfl, trivial⟩, s4.drop⟩
 intro _ w6 hJ
 obtain ⟨p0, rfl, F, s9⟩ := hJ
 have H := R0
 clear R0 H0
 try dsimp only at H
 refine Ab <| Ai <| Ai <| Al <| Ak F (Aa (Ae rfl) <| Aa (Cd rfl Try.underlying67 (Cc (s9.own_rd (.head _)))) <| Aa (Bw rfl rfl) <| Ad) fun _ F => Aj <| Ab <| Bm F rfl (fun hh => ?_) (fun hh => ?_)
 ·replace H := Bb hh H
  refine Ai <| Al <| Ak F (Aa (Am rfl) <| Aa (Am rfl) <| Ad) fun _ F => Aj <| Ab ?_
  obtain rfl := Ao H
  refine Bf <| Bg ?_
  refine Ax (rs := [.tmp 2, .tmp 3]) (vs := [.int .i64 0, .int .i64 51]) F (by rfl) ⟨_, _, rfl, Ay rfl, _, _, rfl, Ay rfl, rfl⟩ ⟨_, rfl, ⟨rfl, s9.drop⟩⟩
 replace H := Bc hh H
 refine Aw <| Ab <| Ai <| Al ?_
 obtain ⟨x4, hi, H⟩ := Aq H
 obtain ⟨a2, hj, hk⟩ := Cf F_api_Instr s9 (.head _) Fx.sl67 rfl hi
 refine Ak F (Aa (Ae rfl) <| Aa (Ae rfl) <| Aa (Cd rfl Try.underlying67 (Cc (s9.own_rd (.head _)))) <| Aa (ex_sub rfl rfl) <| Aa (hj _ _ _ _ _ _ _ _ _ _ rfl rfl) <| Aa (Bn Fx.agg90 rfl (SL.elcells F_api_Instr s9 (.head _) hk hi) rfl) <| Ad) fun _ F => Bu F s9 Fx.zero90 rfl rfl fun g2 w7 _ F sa => ?_
 have sb := sa
 refine Au F sb rfl rfl Fx.sz90 (Af rfl (Af rfl (Af rfl (Af rfl Bd)))) (Ah rfl) fun w8 _ F sc => ?_
 replace sc : SL w [] w8 [Blk g2 90 [.int .i64 x4.At, .int .u8 (x4.Op.toNat : Int), .int .i64 x4.A, .int .i64 x4.B], Sl T_api_Instr v2 x0.1] := sc
 refine Aj <| Ab <| Ai <| Ai <| Al ?_
 obtain ⟨x5, hl, H⟩ := Aq H
 refine Ak F (Aa (Az Fx.fa90_1 rfl rfl) <| Aa (Ba Fx.nag5 rfl (sc.blk_cell (.head _) rfl)) <| Ad) fun _ F => Bi (args := [.tmp 58]) F Fx.fn56 rfl (code_Ends_c (a0 := x4.Op)    hl) rfl fun v5 w9 _ hm F => ?_
 obtain ⟨rfl, hn⟩ := hm
 have sd := sc.add hn
 refine Ak F (Aa (Cx rfl) <| Ad) fun _ F => Aj <| Ab <| Bm F rfl (fun ho => ?_) (fun ho => ?_)
 ·replace H := Bb ho H
  refine Ai <| Al <| Ak F (Aa (Az Fx.fa90_0 rfl rfl) <| Aa (Ba Fx.nag3 rfl (sd.blk_cell (.head _) rfl)) <| Aa (Am rfl) <| Aa (Am rfl) <| Ad) fun _ F => Aj <| Ab ?_
  obtain rfl := Ao H
  refine Bf <| Bg ?_
  refine Ax (rs := [.tmp 2, .tmp 3]) (vs := [.int .i64 x4.At, .int .i64 51]) F (by rfl) ⟨_, _, rfl, Ay rfl, _, _, rfl, Ay rfl, rfl⟩ ⟨_, rfl, ⟨rfl, sd.drop.drop⟩⟩
 replace H := Bc ho H
 refine Aw <| Ab <| Ai <| Al <| Ak F (Aa (Am rfl) <| Aa (Am rfl) <| Ad) fun _ F => Aj <| Ab ?_
 obtain rfl := Ao H
 refine Bf ?_
 refine Ax (rs := [.tmp 2, .tmp 3]) (vs := [.int .i64 0, .int .i64 0]) F (by rfl) ⟨_, _, rfl, Ay rfl, _, _, rfl, Ay rfl, rfl⟩ ⟨_, rfl, ⟨rfl, sd.drop.drop⟩⟩
-- proviso/opt.items
theorem opt_items_c {w : World} {v0 : Value} {a0 : List UInt8} {r : (List S_opt_item)} (hr0 : Rd Ty.u8 w [] v0 a0) (H : opt_items a0 = some r) :
    Calls Try.prog 43 #[v0] w (Ret fun u_ w_ => ∃ u0 : Value, u_ = u0 ∧ SL w [] w_ [Sl T_opt_item u0 r]) := by
 have s0 : SL w [] w [] := SL.init0 w
 refine Bq Try.func43 rfl Try.ntmps43 (Ah rfl) (args := [v0]) fun q0 F0 => ?_
 unfold opt_items at H
 refine Ai <| Al <| Ak F0 (Aa (Am rfl) <| Ad) fun q3 F4 => Aj <| Ab <| Ai <| Al ?_
 obtain ⟨x0, h0, H⟩ := Aq H
 refine Ak F4 (Aa (Ae rfl) <| Ad) fun _ F => Bi (args := [.tmp 14]) F Fx.fn27 rfl (flow_Scan_c (a0 := a0)   (hr0.pass0 s0) h0) rfl fun v1 w0 _ h1 F => ?_
 obtain ⟨v2, rfl, h2⟩ := h1
 have s1 := s0.add h2
 refine Ak F (Aa (Ae rfl) <| Aa (As (v := v2) rfl rfl) <| Aa (As (v := .int .i64 x0.2.1) rfl rfl) <| Aa (As (v := .int .i64 x0.2.2) rfl rfl) <| Aa (Am rfl) <| Aa (Am rfl) <| Aa (Am rfl) <| Ad) fun _ F => Aj <| Ab <| Ai <| Al <| st_mkmap (Value.int .i64) (Value.int .i64) F s1 rfl fun g0 w1 _ F s2 => Ak F (Aa (Am rfl) <| Ad) fun _ F => Aj <| Ab <| Ai <| Ai <| Al <| Ak F (Aa (Ae rfl) <| Aa (Cd rfl Try.underlying67 (Cc (s2.own_rd (.tail _ <| .head _)))) <| Aa (Ae rfl) <| Ad) fun _ F => Aj <| Ab ?_
 obtain ⟨o0, H0, R0⟩ := Aq H
 clear H
 refine Bx (fun a w_ => Fr a 54 [(3, v2), (6, .map (some g0))] ∧ SL w [] w_ [Mp (Value.int .i64) (Value.int .i64) g0 o0, Sl T_api_Instr v2 x0.1]) ?_ ?_
 ·have H := H0
  refine Be <| Cq (opt_items_b0 x0) (fun s3 a w_ => Fr a 54 [(3, v2), (6, .map (some g0)), (20, v2), (21, .int .i64 (x0.1.length : Int)), (22, .int .i64 s3.2)] ∧ SL w [] w_ [Mp (Value.int .i64) (Value.int .i64) g0 s3.1, Sl T_api_Instr v2 x0.1]) H ?_ ?_
  ·exact ⟨F.sub ⟨rfl, rfl, rfl, rfl, rfl, trivial⟩, s2⟩
  intro s3 _ w2 h3 o1 H hr
  obtain ⟨F, s4⟩ := h3
  replace H : opt_items_b0 x0 s3 = some o1 := H
  unfold opt_items_b0 at H
  refine Ai <| Al <| Ak F (Aa (Cn rfl rfl) <| Ad) fun _ F => Aj <| Ab <| Ai <| Bm F rfl (fun h4 => ?_) (fun h4 => ?_)
  ·replace H := Bb h4 H
   refine Aw <| Ab <| Ai <| Be <| Ai <| Al ?_
   obtain ⟨x1, h5, H⟩ := Aq H
   obtain ⟨a1, h6, h7⟩ := Cf F_api_Instr s4 (.tail _ <| .head _) Fx.sl67 rfl h5
   refine Ak F (Aa (Ae rfl) <| Aa (h6 _ _ _ _ _ _ _ _ _ _ rfl rfl) <| Aa (Bn Fx.agg90 rfl (SL.elcells F_api_Instr s4 (.tail _ <| .head _) h7 h5) rfl) <| Ad) fun _ F => Bu F s4 Fx.zero90 rfl rfl fun g1 w3 _ F s5 => Ak F (Aa (Am rfl) <| Ad) fun _ F => ?_
   have s6 := s5
   refine Au F s6 rfl rfl Fx.sz90 (Af rfl (Af rfl (Af rfl (Af rfl Bd)))) (Ah rfl) fun w4 _ F s7 => ?_
   replace s7 : SL w [] w4 [Blk g1 90 [.int .i64 x1.At, .int .u8 (x1.Op.toNat : Int), .int .i64 x1.A, .int .i64 x1.B], Mp (Value.int .i64) (Value.int .i64) g0 s3.1, Sl T_api_Instr v2 x0.1] := s7
   refine Aj <| Ab <| Al <| Ak F (Aa (Ae rfl) <| Aa (Az Fx.fa90_0 rfl rfl) <| Aa (Ba Fx.nag3 rfl (s7.blk_cell (.head _) rfl)) <| Aa (Ae rfl) <| Ad) fun _ F => st_mapset (k := x1.At) (u := s3.2) F s7.f1 Try.underlying109 Fx.key3 rfl rfl rfl fun w5 _ F s8 => Aj <| By <| Ab <| Al <| Ak F (Aa (Bp rfl rfl) <| Aa (Ae rfl) <| Ad) fun _ F => Aj ?_
   obtain rfl := Ao H
   refine Ab ?_
   exact ⟨_, rfl, F.sub ⟨rfl, rfl, rfl, rfl, rfl, trivial⟩, s8.f1.drop⟩
  replace H := Bc h4 H
  refine Bz <| Bo <| Bo <| Ca ?_
  obtain rfl := Ao H
  obtain rfl := hr _ rfl
  refine Ab ?_
  exact ⟨F.sub ⟨rfl, rfl, trivial⟩, s4⟩
 intro _ w6 hJ
 obtain ⟨F, s9⟩ := hJ
 have H := R0
 clear R0 H0
 refine Ab <| Ai <| Al <| Ak F (Aa (Am rfl) <| Ad) fun _ F => Aj <| Ab <| Ai <| Ai <| Al <| Ak F (Aa (Ae rfl) <| Aa (Cd rfl Try.underlying67 (Cc (s9.own_rd (.tail _ <| .head _)))) <| Aa (Ae rfl) <| Ad) fun _ F => Aj <| Ab ?_
 obtain ⟨o2, H1, R1⟩ := Aq H
 clear H
 refine Bx (fun a w_ => ∃ v3 : Value, Fr a 54 [(9, v3)] ∧ SL w [] w_ [Sl T_opt_item v3 o2]) ?_ ?_
 ·have H := H1
  refine Be <| Cq (opt_items_b1 x0 o0) (fun sa a w_ => ∃ v4 : Value, Fr a 54 [(6, .map (some g0)), (9, v4), (32, v2), (33, .int .i64 (x0.1.length : Int)), (34, .int .i64 sa.2)] ∧ SL w [] w_ [Mp (Value.int .i64) (Value.int .i64) g0 o0, Sl T_api_Instr v2 x0.1, Sl T_opt_item v4 sa.1]) H ?_ ?_
  ·exact ⟨(.slice none 0 0), F.sub ⟨rfl, rfl, rfl, rfl, rfl, trivial⟩, (SL.nilSl (T := T_opt_item) s9).f2.f2⟩
  intro sa _ w7 h8 o3 H hr
  obtain ⟨v4, F, sb⟩ := h8
  replace H : opt_items_b1 x0 o0 sa = some o3 := H
  unfold opt_items_b1 at H
  refine Ai <| Al <| Ak F (Aa (Cn rfl rfl) <| Ad) fun _ F => Aj <| Ab <| Ai <| Bm F rfl (fun h9 => ?_) (fun h9 => ?_)
  ·replace H := Bb h9 H
   refine Aw <| Ab <| Ai <| Be <| Ai <| Al ?_
   obtain ⟨x2, ha, H⟩ := Aq H
   obtain ⟨a2, hb, hc⟩ := Cf F_api_Instr sb (.tail _ <| .head _) Fx.sl67 rfl ha
   refine Ak F (Aa (hb _ _ _ _ _ _ _ _ _ _ rfl rfl) <| Aa (Bn Fx.agg90 rfl (SL.elcells F_api_Instr sb (.tail _ <| .head _) hc ha) rfl) <| Ad) fun _ F => Bu F sb Fx.zero90 rfl rfl fun g2 w8 _ F sc => ?_
   have sd := sc
   refine Au F sd rfl rfl Fx.sz90 (Af rfl (Af rfl (Af rfl (Af rfl Bd)))) (Ah rfl) fun w9 _ F se => ?_
   replace se : SL w [] w9 [Blk g2 90 [.int .i64 x2.At, .int .u8 (x2.Op.toNat : Int), .int .i64 x2.A, .int .i64 x2.B], Mp (Value.int .i64) (Value.int .i64) g0 o0, Sl T_api_Instr v2 x0.1, Sl T_opt_item v4 sa.1] := se
   refine Aj <| Ab <| Ai <| Al <| Ak F (Aa (Bn Fx.agg90 rfl (se.blk_cells (.head _) (o := 0) (ds := [.int .i64 x2.At, .int .u8 (x2.Op.toNat : Int), .int .i64 x2.A, .int .i64 x2.B]) (fun j u hu => by rw [Nat.zero_add]; exact hu)) rfl) <| Aa (Co (vs := [.agg ⟨[.int .i64 x2.At, .int .u8 (x2.Op.toNat : Int), .int .i64 x2.A, .int .i64 x2.B]⟩]) Fx.zero121 Fx.pl121 rfl (cs := [.int .i64 x2.At, .int .u8 (x2.Op.toNat : Int), .int .i64 x2.A, .int .i64 x2.B, .int .i64 0, .bool false]) (rfl)) <| Ad) fun _ F => Bu F se Fx.zero121 rfl rfl fun g3 wa _ F sf => ?_
   have sg := sf
   refine Au F sg rfl rfl Fx.sz121 (Af rfl (Af rfl (Af rfl (Af rfl (Af rfl (Af rfl Bd)))))) (Ah rfl) fun wb _ F sh => ?_
   replace sh : SL w [] wb [Blk g3 121 [.int .i64 x2.At, .int .u8 (x2.Op.toNat : Int), .int .i64 x2.A, .int .i64 x2.B, .int .i64 0, .bool false], Blk g2 90 [.int .i64 x2.At, .int .u8 (x2.Op.toNat : Int), .int .i64 x2.A, .int .i64 x2.B], Mp (Value.int .i64) (Value.int .i64) g0 o0, Sl T_api_Instr v2 x0.1, Sl T_opt_item v4 sa.1] := sh
   refine Aj <| Ab <| Ai <| Ai <| Al ?_
   obtain ⟨x3, hd, H⟩ := Aq H
   refine Ak F (Aa (Az Fx.fa90_1 rfl rfl) <| Aa (Ba Fx.nag5 rfl (sh.blk_cell (.tail _ <| .head _) rfl)) <| Ad) fun _ F => Bi (args := [.tmp 41]) F Fx.fn55 rfl (code_Jumps_c (a0 := x2.Op)    hd) rfl fun v5 wc _ he F => ?_
   obtain ⟨rfl, hf⟩ := he
   have si := sh.add hf
   refine Aj <| Ab <| Bm F rfl (fun hg => ?_) (fun hg => ?_)
   ·replace H := Bb hg H
    refine Al <| Ak F (Aa (Ae rfl) <| Aa (Az Fx.fa90_2 rfl rfl) <| Aa (Ba Fx.nag3 rfl (si.blk_cell (.tail _ <| .head _) rfl)) <| Aa (ex_lookup (k := x2.A) (z0 := (0 : Int)) si (.tail _ <| .tail _ <| .head _) Try.underlying109 Fx.key3 Fx.mz3 rfl rfl) <| Aa (Az Fx.fa121_1 rfl rfl) <| Ad) fun _ F => ?_
    have sj := si
    refine Ct F sj rfl rfl Fx.sz3 rfl rfl rfl fun wd _ F sk => ?_
    replace sk : SL w [] wd [Blk g3 121 [.int .i64 x2.At, .int .u8 (x2.Op.toNat : Int), .int .i64 x2.A, .int .i64 x2.B, .int .i64 ((mget o0 x2.A).getD (0 : Int)), .bool false], Blk g2 90 [.int .i64 x2.At, .int .u8 (x2.Op.toNat : Int), .int .i64 x2.A, .int .i64 x2.B], Mp (Value.int .i64) (Value.int .i64) g0 o0, Sl T_api_Instr v2 x0.1, Sl T_opt_item v4 sa.1] := sk
    refine Aj <| Ab <| Al <| Ak F (Aa (Ae rfl) <| Aa (Bn Fx.agg121 rfl (sk.blk_cells (.head _) (o := 0) (ds := [.int .i64 x2.At, .int .u8 (x2.Op.toNat : Int), .int .i64 x2.A, .int .i64 x2.B, .int .i64 ((mget o0 x2.A).getD (0 : Int)), .bool false]) (fun j u hu => by rw [Nat.zero_add]; exact hu)) rfl) <| Ad) fun _ F => ?_
    refine Cm (parts := [(0, .tmp 49)]) F_opt_item ([(⟨(⟨x2.At, x2.Op, x2.A, x2.B⟩ : S_api_Instr), ((mget o0 x2.A).getD (0 : Int)), false⟩ : S_opt_item)] : List S_opt_item) F sk Fx.sl94 rfl (by decide) rfl rfl rfl (by simp [Value.cells]) rfl rfl rfl fun v6 we _ F sl => ?_
    obtain ⟨x4, hh, H⟩ := Aq H
    have sm := sl.f5
    obtain ⟨_, hr_⟩ := (sm.own_rd (.tail _ <| .head _))
    refine Ch F_opt_item F sm Fx.sl94 rfl rfl rfl rfl hr_ rfl rfl hh rfl fun v7 wf _ F sn => ?_
    have s10501' := sn.f1.drop
    refine Ak F (Aa (Am rfl) <| Ad) fun _ F => Aj <| By <| Ab <| Al <| Ak F (Aa (Bp rfl rfl) <| Aa (Ae rfl) <| Ad) fun _ F => Aj ?_
    obtain rfl := Ao H
    refine Ab ?_
    exact ⟨_, rfl, v7, F.sub ⟨rfl, rfl, rfl, rfl, rfl, trivial⟩, s10501'.f1.drop.f1.drop.f2.f2⟩
   replace H := Bc hg H
   refine Aw <| Ab <| Al <| Ak F (Aa (Ae rfl) <| Aa (Bn Fx.agg121 rfl (si.blk_cells (.head _) (o := 0) (ds := [.int .i64 x2.At, .int .u8 (x2.Op.toNat : Int), .int .i64 x2.A, .int .i64 x2.B, .int .i64 0, .bool false]) (fun j u hu => by rw [Nat.zero_add]; exact hu)) rfl) <| Ad) fun _ F => ?_
   refine Cm (parts := [(0, .tmp 49)]) F_opt_item ([(⟨(⟨x2.At, x2.Op, x2.A, x2.B⟩ : S_api_Instr), 0, false⟩ : S_opt_item)] : List S_opt_item) F si Fx.sl94 rfl (by decide) rfl rfl rfl (by simp [Value.cells]) rfl rfl rfl fun v8 wg _ F so => ?_
   obtain ⟨x5, hi, H⟩ := Aq H
   have sp := so.f5
   obtain ⟨_, hr_⟩ := (sp.own_rd (.tail _ <| .head _))
   refine Ch F_opt_item F sp Fx.sl94 rfl rfl rfl rfl hr_ rfl rfl hi rfl fun v9 wh _ F sq => ?_
   have s10521' := sq.f1.drop
   refine Ak F (Aa (Am rfl) <| Ad) fun _ F => Aj <| By <| Ab <| Al <| Ak F (Aa (Bp rfl rfl) <| Aa (Ae rfl) <| Ad) fun _ F => Aj ?_
   obtain rfl := Ao H
   refine Ab ?_
   exact ⟨_, rfl, v9, F.sub ⟨rfl, rfl, rfl, rfl, rfl, trivial⟩, s10521'.f1.drop.f1.drop.f2.f2⟩
  replace H := Bc h9 H
  refine Bz <| Bo <| Bo <| Ca ?_
  obtain rfl := Ao H
  obtain rfl := hr _ rfl
  refine Ab ?_
  exact ⟨v4, F.sub ⟨rfl, trivial⟩, sb.drop.drop⟩
 intro _ wi hJ
 obtain ⟨v3, F, sr⟩ := hJ
 have H := R1
 clear R1 H1
 refine Ab <| Ai <| Al <| Ak F (Aa (Ae rfl) <| Aa (Am rfl) <| Ad) fun _ F => Aj <| Ab ?_
 obtain rfl := Ao H
 refine Bf ?_
 refine Ax (rs := [.tmp 2]) (vs := [v3]) F (by rfl) ⟨_, _, rfl, Ay rfl, rfl⟩ ⟨_, rfl, ⟨v3, rfl, sr⟩⟩
-- proviso/opt.rules
theorem opt_rules_c {w : World} {r : Unit}  (H : opt_rules = some r) :
    Calls Try.prog 44 #[] w (Ret fun u_ w_ => ∃ k0 : Nat, u_ = .slice (some ⟨k0, 0, none⟩) 5 5 ∧ SL w [] w_ [Blk k0 99 [clo 63 [], clo 64 [], clo 65 [], clo 66 [], clo 67 []]]) := by
 have s0 : SL w [] w [] := SL.init0 w
 refine Bq Try.func44 rfl Try.ntmps44 (Ah rfl) (args := []) fun q0 F0 => ?_
 unfold opt_rules at H
 refine Ai <| Al <| Ak F0 (Aa (Am rfl) <| Ad) fun q3 F4 => Aj <| Ab <| Ai <| Al ?_
 refine st_bsliceb (parts := [(0, .func 63), (1, .func 64), (2, .func 65), (3, .func 66), (4, .func 67)]) (vs := [clo 63 [], clo 64 [], clo 65 [], clo 66 [], clo 67 []]) F4 s0 Fx.sl96 rfl (by decide) rfl rfl rfl (one_cells_all (cells1_cons rfl (cells1_cons rfl (cells1_cons rfl (cells1_cons rfl (cells1_cons rfl cells1_nil)))))) rfl fun g0 w0 _ F s1 => ?_
 refine Ak F (Aa (Am rfl) <| Ad) fun _ F => Aj <| Ab ?_
 obtain rfl := Ao H
 refine Bf ?_
 refine Ax (rs := [.tmp 0]) (vs := [.slice (some ⟨g0, 0, none⟩) 5 5]) F (by rfl) ⟨_, _, rfl, Ay rfl, rfl⟩ ⟨_, rfl, ⟨g0, rfl, s1⟩⟩
-- proviso/code.fits
theorem code_fits_c {w : World} {a0 : UInt8} {a1 : Int} {a2 : Int} {r : Bool}  (H : code_fits a0 a1 a2 = some r) :
    Calls Try.prog 100 #[.int .u8 (a0.toNat : Int), .int .i64 a1, .int .i64 a2] w (Ret fun u_ w_ => u_ = .bool r ∧ SL w [] w_ []) := by
 have s0 : SL w [] w [] := SL.init0 w
 refine Bq Try.func100 rfl Try.ntmps100 (Ah rfl) (args := [.int .u8 (a0.toNat : Int), .int .i64 a1, .int .i64 a2]) fun q0 F0 => ?_
 unfold code_fits at H
 refine Ai <| Al <| Ak F0 (Aa (Am rfl) <| Ad) fun q3 F4 => Aj <| Ab <| Ai <| Ai <| Al <| Ak F4 (Aa (Ae rfl) <| Ad) fun _ F => Aj <| Ab <| Be <| Ai <| Al <| Ak F (Aa (Bw rfl rfl) <| Aa (Am rfl) <| Ad) fun _ F => Aj <| Ab <| Bm F rfl (fun h0 => ?_) (fun h0 => ?_)
 ·replace H := Bb h0 H
  refine Ai <| Al <| Ak F (Aa (Ae rfl) <| Aa (Bw rfl rfl) <| Aa (Am rfl) <| Ad) fun _ F => Aj <| Ab ?_
  obtain rfl := Ao H
  refine Bf <| blk_r <| Bg ?_
  refine Ax (rs := [.tmp 6]) (vs := [.bool (a1 == 0)]) F (by rfl) ⟨_, _, rfl, Ay rfl, rfl⟩ ⟨_, rfl, ⟨rfl, s0⟩⟩
 replace H := Bc h0 H
 refine Ai <| Al <| Ak F (Aa (Bw rfl rfl) <| Aa (Am rfl) <| Ad) fun _ F => Aj <| Ab <| Bm F rfl (fun h1 => ?_) (fun h1 => ?_)
 ·replace H := Bb h1 H
  refine Ai <| Al <| Ak F (Aa (Ae rfl) <| Aa (ex_ge rfl rfl) <| Aa (Ae rfl) <| Ad) fun _ F => Bl (decide (a1 ≥ 0)) (fun h2 => ?_) (fun h2 => ?_)
  ·replace H := Bb h2 H
   refine Ar F rfl rfl (An rfl h2) (Ae rfl) rfl rfl fun _ F => Ar F rfl rfl (An rfl h2) (ex_le rfl rfl) rfl rfl fun _ F => Ak F (Aa (Bh (Cb rfl h2) rfl) <| Aa (Ae rfl) <| Ad) fun _ F => Bl (decide (a1 ≤ 255)) (fun h3 => ?_) (fun h3 => ?_)
   ·replace H := Bb h3 H
    refine Ar F rfl rfl (An rfl h3) (Ae rfl) rfl rfl fun _ F => Ar F rfl rfl (An rfl h3) (Dd rfl rfl) rfl rfl fun _ F => Ar F rfl rfl (An rfl h3) (Ae rfl) rfl rfl fun _ F => Bl ((a0.toNat : Int) != 2) (fun h4 => ?_) (fun h4 => ?_)
    ·replace H := Bb h4 H
     refine Ap F rfl rfl (An rfl h4) Ac rfl rfl fun _ F => Ap F rfl rfl (An rfl h4) Ac rfl rfl fun _ F => Ar F rfl rfl (An rfl h3) (Bh (Cb rfl h4) rfl) rfl rfl fun _ F => Ak F (Aa (Bh (Cb rfl h3) rfl) <| Aa (Am rfl) <| Ad) fun _ F => Aj <| Ab ?_
     obtain rfl := Ao H
     refine Bf <| blk_r <| Bg ?_
     refine Ax (rs := [.tmp 6]) (vs := [.bool true]) F (by rfl) ⟨_, _, rfl, Ay rfl, rfl⟩ ⟨_, rfl, ⟨rfl, s0⟩⟩
    replace H := Bc h4 H
    refine Ar F rfl rfl (An rfl h4) (Ae rfl) rfl rfl fun _ F => Ar F rfl rfl (An rfl h4) (ex_le rfl rfl) rfl rfl fun _ F => Ar F rfl rfl (An rfl h3) (Bj (Cb rfl h4) rfl) rfl rfl fun _ F => Ak F (Aa (Bh (Cb rfl h3) rfl) <| Aa (Am rfl) <| Ad) fun _ F => Aj <| Ab ?_
    obtain rfl := Ao H
    refine Bf <| blk_r <| Bg ?_
    refine Ax (rs := [.tmp 6]) (vs := [.bool (decide (a1 ≤ 1))]) F (by rfl) ⟨_, _, rfl, Ay rfl, rfl⟩ ⟨_, rfl, ⟨rfl, s0⟩⟩
   replace H := Bc h3 H
   refine Ap F rfl rfl (An rfl h3) Ac rfl rfl fun _ F => Ap F rfl rfl (An rfl h3) Ac rfl rfl fun _ F => Ap F rfl rfl (An rfl h3) Ac rfl rfl fun _ F => Ce F rfl rfl rfl rfl rfl fun _ F => Ce F rfl rfl rfl rfl rfl fun _ F => Ap F rfl rfl (An rfl h3) Ac rfl rfl fun _ F => Ak F (Aa (Bj (Cb rfl h3) rfl) <| Aa (Am rfl) <| Ad) fun _ F => Aj <| Ab ?_
   obtain rfl := Ao H
   refine Bf <| blk_r <| Bg ?_
   refine Ax (rs := [.tmp 6]) (vs := [.bool false]) F (by rfl) ⟨_, _, rfl, Ay rfl, rfl⟩ ⟨_, rfl, ⟨rfl, s0⟩⟩
  replace H := Bc h2 H
  refine Ap F rfl rfl (An rfl h2) Ac rfl rfl fun _ F => Ap F rfl rfl (An rfl h2) Ac rfl rfl fun _ F => Ak F (Aa (Bj (Cb rfl h2) rfl) <| Aa (Ae rfl) <| Ad) fun _ F => Ap F rfl rfl rfl Ac rfl rfl fun _ F => Ap F rfl rfl rfl Ac rfl rfl fun _ F => Ap F rfl rfl rfl Ac rfl rfl fun _ F => Ce F rfl rfl rfl rfl rfl fun _ F => Ce F rfl rfl rfl rfl rfl fun _ F => Ap F rfl rfl rfl Ac rfl rfl fun _ F => Ak F (Aa (Bj rfl rfl) <| Aa (Am rfl) <| Ad) fun _ F => Aj <| Ab ?_
  obtain rfl := Ao H
  refine Bf <| blk_r <| Bg ?_
  refine Ax (rs := [.tmp 6]) (vs := [.bool false]) F (by rfl) ⟨_, _, rfl, Ay rfl, rfl⟩ ⟨_, rfl, ⟨rfl, s0⟩⟩
 replace H := Bc h1 H
 refine Ai <| Al <| Ak F (Aa (Bw rfl rfl) <| Aa (Am rfl) <| Ad) fun _ F => Aj <| Ab <| Bm F rfl (fun h5 => ?_) (fun h5 => ?_)
 ·replace H := Bb h5 H
  refine Ai <| Al <| Ak F (Aa (Ae rfl) <| Aa (ex_ge rfl rfl) <| Aa (Ae rfl) <| Ad) fun _ F => Bl (decide (a1 ≥ 0)) (fun h6 => ?_) (fun h6 => ?_)
  ·replace H := Bb h6 H
   refine Ar F rfl rfl (An rfl h6) (Ae rfl) rfl rfl fun _ F => Ar F rfl rfl (An rfl h6) (ex_le rfl rfl) rfl rfl fun _ F => Ak F (Aa (Bh (Cb rfl h6) rfl) <| Aa (Am rfl) <| Ad) fun _ F => Aj <| Ab ?_
   obtain rfl := Ao H
   refine Bf <| blk_r <| Bg ?_
   refine Ax (rs := [.tmp 6]) (vs := [.bool (decide (a1 ≤ 65535))]) F (by rfl) ⟨_, _, rfl, Ay rfl, rfl⟩ ⟨_, rfl, ⟨rfl, s0⟩⟩
  replace H := Bc h6 H
  refine Ap F rfl rfl (An rfl h6) Ac rfl rfl fun _ F => Ap F rfl rfl (An rfl h6) Ac rfl rfl fun _ F => Ak F (Aa (Bj (Cb rfl h6) rfl) <| Aa (Am rfl) <| Ad) fun _ F => Aj <| Ab ?_
  obtain rfl := Ao H
  refine Bf <| blk_r <| Bg ?_
  refine Ax (rs := [.tmp 6]) (vs := [.bool false]) F (by rfl) ⟨_, _, rfl, Ay rfl, rfl⟩ ⟨_, rfl, ⟨rfl, s0⟩⟩
 replace H := Bc h5 H
 refine Aw <| By <| Ab <| Ai <| Al <| Ak F (Aa (Ae rfl) <| Aa (ex_ge rfl rfl) <| Aa (Ae rfl) <| Ad) fun _ F => Bl (decide (a1 ≥ (-2147483648))) (fun h7 => ?_) (fun h7 => ?_)
 ·replace H := Bb h7 H
  refine Ar F rfl rfl (An rfl h7) (Ae rfl) rfl rfl fun _ F => Ar F rfl rfl (An rfl h7) (ex_le rfl rfl) rfl rfl fun _ F => Ak F (Aa (Bh (Cb rfl h7) rfl) <| Aa (Am rfl) <| Ad) fun _ F => Aj <| Ab ?_
  obtain rfl := Ao H
  refine Bf ?_
  refine Ax (rs := [.tmp 6]) (vs := [.bool (decide (a1 ≤ 2147483647))]) F (by rfl) ⟨_, _, rfl, Ay rfl, rfl⟩ ⟨_, rfl, ⟨rfl, s0⟩⟩
 replace H := Bc h7 H
 refine Ap F rfl rfl (An rfl h7) Ac rfl rfl fun _ F => Ap F rfl rfl (An rfl h7) Ac rfl rfl fun _ F => Ak F (Aa (Bj (Cb rfl h7) rfl) <| Aa (Am rfl) <| Ad) fun _ F => Aj <| Ab ?_
 obtain rfl := Ao H
 refine Bf ?_
 refine Ax (rs := [.tmp 6]) (vs := [.bool false]) F (by rfl) ⟨_, _, rfl, Ay rfl, rfl⟩ ⟨_, rfl, ⟨rfl, s0⟩⟩
-- proviso/code.put
theorem code_put_c {w : World} {FF : List Nat} {v0 : Value} {a0 : List UInt8} {a1 : Int} {a2 : Int} {r : (List UInt8)} (hst : Star [Sl Ty.u8 v0 a0] w FF)  (H : code_put a0 a1 a2 = some r) :
    Calls Try.prog 101 #[v0, .int .i64 a1, .int .i64 a2] w (Ret fun u_ w_ => ∃ u0 : Value, u_ = u0 ∧ SL w FF w_ [Sl Ty.u8 u0 r]) := by
 have s0 : SL w FF w [Sl Ty.u8 v0 a0] := SL.init w FF hst
 refine Bq Try.func101 rfl Try.ntmps101 (Ah rfl) (args := [v0, .int .i64 a1, .int .i64 a2]) fun q0 F0 => ?_
 unfold code_put at H
 refine Ai <| Al <| Ak F0 (Aa (Am rfl) <| Ad) fun q3 F4 => Aj <| Ab <| Ai <| Ai <| Al <| Ak F4 (Aa (Ae rfl) <| Aa (ex_sub rfl rfl) <| Aa (Am rfl) <| Ad) fun _ F => Aj <| Ab ?_
 obtain ⟨o0, H0, R0⟩ := Aq H
 clear H
 refine Bx (fun a w_ => ∃ v1 : Value, Fr a 23 [(0, v1)] ∧ SL w FF w_ [Sl Ty.u8 v1 o0]) ?_ ?_
 ·have H := H0
  refine Be <| Cq (code_put_b0 a1) (fun s1 a w_ => ∃ v2 : Value, Fr a 23 [(0, v2), (1, .int .i64 a1), (7, .int .i64 s1.2)] ∧ SL w FF w_ [Sl Ty.u8 v2 s1.1]) H ?_ ?_
  ·exact ⟨v0, F.sub ⟨rfl, rfl, rfl, trivial⟩, s0⟩
  intro s1 _ w0 h0 o1 H hr
  obtain ⟨v2, F, s2⟩ := h0
  replace H : code_put_b0 a1 s1 = some o1 := H
  unfold code_put_b0 at H
  refine Ai <| Ai <| Al <| Ak F (Aa (Ae rfl) <| Aa (ex_ge rfl rfl) <| Ad) fun _ F => Aj <| Ab <| Bm F rfl (fun h1 => ?_) (fun h1 => ?_)
  ·replace H := Bb h1 H
   refine Aw <| Ab <| Ai <| Be <| Al ?_
   obtain ⟨h2, H⟩ := none_else H
   refine Ak F (Aa (Ae rfl) <| Aa (Ae rfl) <| Aa (Ae rfl) <| Aa (ex_mul rfl rfl) <| Aa (ex_shr rfl rfl h2) <| Aa (ex_cv8 rfl Try.underlying3 Try.underlying5) <| Ad) fun _ F => ?_
   refine Cm (parts := [(0, .tmp 19)]) Flat.u8 ([toU8 (sShr .i64 a1 (wr (8 * s1.2)))] : List UInt8) F s2 Fx.sl22 rfl (by decide) rfl rfl rfl (by simp [Value.cells]) rfl rfl rfl fun v3 w1 _ F s3 => ?_
   obtain ⟨x0, h3, H⟩ := Aq H
   have s4 := s3.f1
   obtain ⟨_, hr_⟩ := (s4.own_rd (.tail _ <| .head _))
   refine Ch Flat.u8 F s4 Fx.sl22 rfl rfl rfl rfl hr_ rfl rfl h3 rfl fun v4 w2 _ F s5 => ?_
   have s1323' := s5.f1.drop
   refine Ak F (Aa (Am rfl) <| Ad) fun _ F => Aj <| By <| Ab <| Al <| Ak F (Aa (Ae rfl) <| Aa (ex_sub rfl rfl) <| Aa (Am rfl) <| Ad) fun _ F => Aj ?_
   obtain rfl := Ao H
   refine Ab ?_
   exact ⟨_, rfl, v4, F.sub ⟨rfl, rfl, rfl, trivial⟩, s1323'⟩
  replace H := Bc h1 H
  refine Bz <| Bo <| Bo <| Ca ?_
  obtain rfl := Ao H
  obtain rfl := hr _ rfl
  refine Ab ?_
  exact ⟨v2, F.sub ⟨rfl, trivial⟩, s2⟩
 intro _ w3 hJ
 obtain ⟨v1, F, s6⟩ := hJ
 have H := R0
 clear R0 H0
 refine Ab <| Ai <| Al <| Ak F (Aa (Ae rfl) <| Aa (Am rfl) <| Ad) fun _ F => Aj <| Ab ?_
 obtain rfl := Ao H
 refine Bf ?_
 refine Ax (rs := [.tmp 6]) (vs := [v1]) F (by rfl) ⟨_, _, rfl, Ay rfl, rfl⟩ ⟨_, rfl, ⟨v1, rfl, s6⟩⟩
-- proviso/code.Encode
theorem code_Encode_c {w : World} {a0 : S_api_Instr} {r : (List UInt8) × Int}  (H : code_Encode a0 = some r) :
    Calls Try.prog 68 #[.agg ⟨[.int .i64 a0.At, .int .u8 (a0.Op.toNat : Int), .int .i64 a0.A, .int .i64 a0.B]⟩] w (Ret fun u_ w_ => ∃ u0 : Value, u_ = .tuple ⟨[u0, .int .i64 r.2]⟩ ∧ SL w [] w_ [Sl Ty.u8 u0 r.1]) := by
 have s0 : SL w [] w [] := SL.init0 w
 refine Bq Try.func68 rfl Try.ntmps68 (Ah rfl) (args := [.agg ⟨[.int .i64 a0.At, .int .u8 (a0.Op.toNat : Int), .int .i64 a0.A, .int .i64 a0.B]⟩]) fun q0 F0 => ?_
 unfold code_Encode at H
 refine Ai <| Al <| Cz F0 s0 rfl rfl rfl fun g9 w0 _ F s1 => Ak F (Aa (Am rfl) <| Aa (Am rfl) <| Ad) fun _ F => Aj <| Ab <| Ai <| Ai <| Al ?_
 obtain ⟨x0, h0, H⟩ := Aq H
 refine Ak F (Aa (Az Fx.fa90_1 rfl rfl) <| Aa (Ba Fx.nag5 rfl (s1.blk_cell (.head _) rfl)) <| Ad) fun _ F => Bi (args := [.tmp 7]) F Fx.fn53 rfl (code_Size_c (a0 := a0.Op)    h0) rfl fun v0 w1 _ h1 F => ?_
 obtain ⟨rfl, h2⟩ := h1
 have s2 := s1.add h2
 refine Ak F (Aa (Bw rfl rfl) <| Ad) fun _ F => Aj <| Ab <| Bm F rfl (fun h3 => ?_) (fun h3 => ?_)
 ·replace H := Bb h3 H
  refine Ai <| Al <| Ak F (Aa (Am rfl) <| Aa (Am rfl) <| Ad) fun _ F => Aj <| Ab ?_
  obtain rfl := Ao H
  refine Bf <| Bg ?_
  refine Ax (rs := [.tmp 2, .tmp 3]) (vs := [.slice none 0 0, .int .i64 40]) F (by rfl) ⟨_, _, rfl, Ay rfl, _, _, rfl, Ay rfl, rfl⟩ ⟨_, rfl, ⟨(.slice none 0 0), rfl, (SL.nilSl (T := Ty.u8) s2).f1.drop⟩⟩
 replace H := Bc h3 H
 refine Aw <| Ab <| Ai <| Al ?_
 obtain ⟨x1, h4, H⟩ := Aq H
 refine Ak F (Aa (Az Fx.fa90_1 rfl rfl) <| Aa (Ba Fx.nag5 rfl (s2.blk_cell (.head _) rfl)) <| Ad) fun _ F => Bi (args := [.tmp 12]) F Fx.fn72 rfl (code_widths_c (a0 := a0.Op)    h4) rfl fun v1 w2 _ h5 F => ?_
 obtain ⟨rfl, h6⟩ := h5
 have s3 := s2.add h6
 refine Ak F (Aa (Ae rfl) <| Aa (As (v := .int .i64 x1.1) rfl rfl) <| Aa (As (v := .int .i64 x1.2) rfl rfl) <| Aa (Am rfl) <| Aa (Am rfl) <| Ad) fun _ F => Aj <| Ab <| Ai <| Ai <| Al ?_
 obtain ⟨x2, h7, H⟩ := Aq H
 refine Ak F (Aa (Az Fx.fa90_1 rfl rfl) <| Aa (Ba Fx.nag5 rfl (s3.blk_cell (.head _) rfl)) <| Aa (Az Fx.fa90_2 rfl rfl) <| Aa (Ba Fx.nag3 rfl (s3.blk_cell (.head _) rfl)) <| Aa (Ae rfl) <| Ad) fun _ F => Bi (args := [.tmp 17, .tmp 19, .tmp 20]) F Fx.fn100 rfl (code_fits_c (a0 := a0.Op) (a1 := a0.A) (a2 := x1.1)    h7) rfl fun v2 w3 _ h8 F => ?_
 obtain ⟨rfl, h9⟩ := h8
 have s4 := s3.add h9
 refine Ak F (Aa (Cx rfl) <| Aa (Ae rfl) <| Ad) fun _ F => Bl (!x2) (fun ha => ?_) (fun ha => ?_)
 ·replace H := Bb ha H
  refine Ap F rfl rfl (An rfl ha) Ac rfl rfl fun _ F => Ap F rfl rfl (An rfl ha) Ac rfl rfl fun _ F => Ap F rfl rfl (An rfl ha) Ac rfl rfl fun _ F => Ap F rfl rfl (An rfl ha) Ac rfl rfl fun _ F => Ap F rfl rfl (An rfl ha) Ac rfl rfl fun _ F => Ap F rfl rfl (An rfl ha) Ac rfl rfl fun _ F => Ap F rfl rfl (An rfl ha) Ac rfl rfl fun _ F => Ak F (Aa (Bh (Cb rfl ha) rfl) <| Ad) fun _ F => Aj <| Ab <| Cy F rfl <| Ai <| Al <| Ak F (Aa (Am rfl) <| Aa (Am rfl) <| Ad) fun _ F => Aj <| Ab ?_
  obtain rfl := Ao H
  refine Bf <| Bg ?_
  refine Ax (rs := [.tmp 2, .tmp 3]) (vs := [.slice none 0 0, .int .i64 5]) F (by rfl) ⟨_, _, rfl, Ay rfl, _, _, rfl, Ay rfl, rfl⟩ ⟨_, rfl, ⟨(.slice none 0 0), rfl, (SL.nilSl (T := Ty.u8) s4).f1.drop⟩⟩
 replace H := Bc ha H
 refine Ar F rfl rfl (An rfl ha) (Az Fx.fa90_1 rfl rfl) rfl rfl fun _ F => Ar F rfl rfl (An rfl ha) (Ba Fx.nag5 rfl (s4.blk_cell (.head _) rfl)) rfl rfl fun _ F => Ar F rfl rfl (An rfl ha) (Az Fx.fa90_3 rfl rfl) rfl rfl fun _ F => Ar F rfl rfl (An rfl ha) (Ba Fx.nag3 rfl (s4.blk_cell (.head _) rfl)) rfl rfl fun _ F => Ar F rfl rfl (An rfl ha) (Ae rfl) rfl rfl fun _ F => ?_
 obtain ⟨x3, hb, H⟩ := Aq H
 refine st_ungd F rfl (An rfl ha) <| Bi (args := [.tmp 25, .tmp 27, .tmp 28]) F Fx.fn100 rfl (code_fits_c (a0 := a0.Op) (a1 := a0.B) (a2 := x1.2)    hb) rfl fun v3 w4 _ hc F => ?_
 obtain ⟨rfl, hd⟩ := hc
 have s5 := s4.add hd
 refine Ar F rfl rfl (An rfl ha) (Cx rfl) rfl rfl fun _ F => Ak F (Aa (Bj (Cb rfl ha) rfl) <| Ad) fun _ F => Aj <| Ab <| Bm F rfl (fun he => ?_) (fun he => ?_)
 ·replace H := Bb he H
  refine Ai <| Al <| Ak F (Aa (Am rfl) <| Aa (Am rfl) <| Ad) fun _ F => Aj <| Ab ?_
  obtain rfl := Ao H
  refine Bf <| Bg ?_
  refine Ax (rs := [.tmp 2, .tmp 3]) (vs := [.slice none 0 0, .int .i64 5]) F (by rfl) ⟨_, _, rfl, Ay rfl, _, _, rfl, Ay rfl, rfl⟩ ⟨_, rfl, ⟨(.slice none 0 0), rfl, (SL.nilSl (T := Ty.u8) s5).f1.drop⟩⟩
 replace H := Bc he H
 refine Aw <| Ab <| Ai ?_
 obtain ⟨x4, hf, H⟩ := Aq H
 obtain ⟨x5, hg, H⟩ := Aq H
 refine wp_regh Fx.mixed (fun w_ => SL w [] w_ [Blk g9 90 [.int .i64 a0.At, .int .u8 (a0.Op.toNat : Int), .int .i64 a0.A, .int .i64 a0.B]]) ?_
 have s6 := s5.drew
 have s7 : SL w [] _ [Blk g9 90 [.int .i64 a0.At, .int .u8 (a0.Op.toNat : Int), .int .i64 a0.A, .int .i64 a0.B]] := s6
 refine Bv (i := 0) rfl (by kernel_rfl) (by kernel_rfl) (by kernel_rfl) (fun _ hC => Az Fx.fa90_1 rfl rfl) rfl rfl rfl F s7 fun _ F => ?_
 refine Bv (i := 1) rfl (by kernel_rfl) (by kernel_rfl) (by kernel_rfl) (fun _ hC => Ba Fx.nag5 rfl (hC.blk_cell (.head _) rfl)) rfl rfl rfl F s7 fun _ F => ?_
 refine Bv (i := 3) rfl (by kernel_rfl) (by kernel_rfl) (by kernel_rfl) (fun _ hC => Az Fx.fa90_2 rfl rfl) rfl rfl rfl F s7 fun _ F => ?_
 refine Bv (i := 4) rfl (by kernel_rfl) (by kernel_rfl) (by kernel_rfl) (fun _ hC => Ba Fx.nag3 rfl (hC.blk_cell (.head _) rfl)) rfl rfl rfl F s7 fun _ F => ?_
 refine Bv (i := 5) rfl (by kernel_rfl) (by kernel_rfl) (by kernel_rfl) (fun _ hC => Ae rfl) rfl rfl rfl F s7 fun _ F => ?_
 refine Bv (i := 7) rfl (by kernel_rfl) (by kernel_rfl) (by kernel_rfl) (fun _ hC => Az Fx.fa90_3 rfl rfl) rfl rfl rfl F s7 fun _ F => ?_
 refine Bv (i := 8) rfl (by kernel_rfl) (by kernel_rfl) (by kernel_rfl) (fun _ hC => Ba Fx.nag3 rfl (hC.blk_cell (.head _) rfl)) rfl rfl rfl F s7 fun _ F => ?_
 refine Bv (i := 9) rfl (by kernel_rfl) (by kernel_rfl) (by kernel_rfl) (fun _ hC => Ae rfl) rfl rfl rfl F s7 fun _ F => ?_
 refine Bk (i := 2) rfl (by kernel_rfl) ?_
 refine Cm (parts := [(0, .tmp 33)]) Flat.u8 ([a0.Op] : List UInt8) F s6 Fx.sl22 rfl (by decide) rfl rfl rfl (by simp [Value.cells]) rfl rfl rfl fun v4 w5 _ F s8 => ?_
 have s9 : SL w [] _ [Blk g9 90 [.int .i64 a0.At, .int .u8 (a0.Op.toNat : Int), .int .i64 a0.A, .int .i64 a0.B]] := s8.drop
 refine Av ⟨s9, ?_⟩
 refine Bk (i := 6) rfl (by kernel_rfl) ?_
 have sa := s8
 obtain ⟨G0, hh, hi, hj, hk⟩ := SL.open_ (ps := [Sl Ty.u8 v4 ([a0.Op] : List UInt8)]) (rest := [Blk g9 90 [.int .i64 a0.At, .int .u8 (a0.Op.toNat : Int), .int .i64 a0.A, .int .i64 a0.B]]) sa
 refine Bi (args := [.tmp 34, .tmp 36, .tmp 37]) F Fx.fn101 rfl (code_put_c (a0 := ([a0.Op] : List UInt8)) (a1 := a0.A) (a2 := x1.1) hh   hf) rfl fun v5 w6 _ hl F => ?_
 obtain ⟨_, rfl, hm⟩ := hl
 have sb := hk _ _ hm
 have sc : SL w [] _ [Blk g9 90 [.int .i64 a0.At, .int .u8 (a0.Op.toNat : Int), .int .i64 a0.A, .int .i64 a0.B]] := sb.drop
 refine Av ⟨sc, ?_⟩
 refine Bk (i := 10) rfl (by kernel_rfl) ?_
 have sd := sb
 obtain ⟨G1, hn, ho, hp, hq⟩ := SL.open_ (ps := [Sl Ty.u8 v5 x4]) (rest := [Blk g9 90 [.int .i64 a0.At, .int .u8 (a0.Op.toNat : Int), .int .i64 a0.A, .int .i64 a0.B]]) sd
 refine Bi (args := [.tmp 38, .tmp 40, .tmp 41]) F Fx.fn101 rfl (code_put_c (a0 := x4) (a1 := a0.B) (a2 := x1.2) hn   hg) rfl fun v6 w7 _ hr F => ?_
 obtain ⟨_, rfl, hs⟩ := hr
 have se := hq _ _ hs
 have sf : SL w [] _ [Blk g9 90 [.int .i64 a0.At, .int .u8 (a0.Op.toNat : Int), .int .i64 a0.A, .int .i64 a0.B]] := se.drop
 refine Av ⟨sf, ?_⟩
 refine Bk (i := 11) rfl (by kernel_rfl) ?_
 refine Bt F (Am rfl) rfl rfl rfl fun _ F => ?_
 have sg : SL w [] _ [Blk g9 90 [.int .i64 a0.At, .int .u8 (a0.Op.toNat : Int), .int .i64 a0.A, .int .i64 a0.B]] := se.drop
 refine Av ⟨sg, ?_⟩
 refine Bk (i := 12) rfl (by kernel_rfl) ?_
 refine Bt F (Am rfl) rfl rfl rfl fun _ F => ?_
 have sh : SL w [] _ [Blk g9 90 [.int .i64 a0.At, .int .u8 (a0.Op.toNat : Int), .int .i64 a0.A, .int .i64 a0.B]] := se.drop
 refine Av ⟨sh, ?_⟩
 refine Cg (by kernel_rfl) ?_
 refine Ab ?_
 obtain rfl := Ao H
 refine Bf ?_
 refine Ax (rs := [.tmp 2, .tmp 3]) (vs := [v6, .int .i64 0]) F (by rfl) ⟨_, _, rfl, Ay rfl, _, _, rfl, Ay rfl, rfl⟩ ⟨_, rfl, ⟨v6, rfl, se.f1.drop⟩⟩
-- proviso/code.All
theorem code_All_c {w : World} {v0 : Value} {a0 : List S_api_Instr} {r : (List UInt8) × Int × Int} (hr0 : Rd T_api_Instr w [] v0 a0) (H : code_All a0 = some r) :
    Calls Try.prog 45 #[v0] w (Ret fun u_ w_ => ∃ u0 : Value, u_ = .tuple ⟨[u0, .int .i64 r.2.1, .int .i64 r.2.2]⟩ ∧ SL w [] w_ [Sl Ty.u8 u0 r.1]) := by
 have s0 : SL w [] w [] := SL.init0 w
 refine Bq Try.func45 rfl Try.ntmps45 (Ah rfl) (args := [v0]) fun q0 F0 => ?_
 unfold code_All at H
 refine Ai <| Al <| Ak F0 (Aa (Am rfl) <| Aa (Am rfl) <| Aa (Am rfl) <| Ad) fun q3 F4 => Aj <| Ab <| Ai <| Al <| Ak F4 (Aa (Am rfl) <| Ad) fun q7 F8 => Aj <| Ab <| Ai <| Ai <| Al <| Ak F8 (Aa (Ae rfl) <| Aa (Cd rfl Try.underlying67 (Cc (Cu hr0 s0))) <| Aa (Ae rfl) <| Ad) fun _ F => Aj <| Ab ?_
 obtain ⟨o0, H0, R0⟩ := Aq H
 clear H
 refine Bx (fun a w_ => ∃ p0 : (List UInt8), o0 = .inr (p0) ∧ ∃ v1 : Value, Fr a 41 [(5, v1)] ∧ SL w [] w_ [Sl Ty.u8 v1 p0]) ?_ ?_
 ·have H := H0
  refine Be <| Cq (code_All_b0 a0) (fun s1 a w_ => ∃ v2 : Value, Fr a 41 [(5, v2), (10, v0), (11, .int .i64 (a0.length : Int)), (12, .int .i64 s1.2)] ∧ SL w [] w_ [Sl Ty.u8 v2 s1.1]) H ?_ ?_
  ·exact ⟨(.slice none 0 0), F.sub ⟨rfl, rfl, rfl, rfl, trivial⟩, (SL.nilSl (T := Ty.u8) s0)⟩
  intro s1 _ w0 h0 o1 H hr
  obtain ⟨v2, F, s2⟩ := h0
  replace H : code_All_b0 a0 s1 = some o1 := H
  unfold code_All_b0 at H
  refine Ai <| Al <| Ak F (Aa (Cn rfl rfl) <| Ad) fun _ F => Aj <| Ab <| Ai <| Bm F rfl (fun h1 => ?_) (fun h1 => ?_)
  ·replace H := Bb h1 H
   refine Aw <| Ab <| Ai <| Be <| Ai <| Al ?_
   obtain ⟨x0, h2, H⟩ := Aq H
   obtain ⟨a1, h3, h4⟩ := Dc F_api_Instr (Cu hr0 s2) Fx.sl67 rfl h2
   refine Ak F (Aa (Ae rfl) <| Aa (h3 _ _ _ _ _ _ _ _ _ _ rfl rfl) <| Aa (Bn Fx.agg90 rfl h4 rfl) <| Ad) fun _ F => Bu F s2 Fx.zero90 rfl rfl fun g0 w1 _ F s3 => Ak F (Aa (Am rfl) <| Ad) fun _ F => ?_
   have s4 := s3
   refine Au F s4 rfl rfl Fx.sz90 (Af rfl (Af rfl (Af rfl (Af rfl Bd)))) (Ah rfl) fun w2 _ F s5 => ?_
   replace s5 : SL w [] w2 [Blk g0 90 [.int .i64 x0.At, .int .u8 (x0.Op.toNat : Int), .int .i64 x0.A, .int .i64 x0.B], Sl Ty.u8 v2 s1.1] := s5
   refine Aj <| Ab <| Ai <| Al ?_
   obtain ⟨x1, h5, H⟩ := Aq H
   refine Ak F (Aa (Bn Fx.agg90 rfl (s5.blk_cells (.head _) (o := 0) (ds := [.int .i64 x0.At, .int .u8 (x0.Op.toNat : Int), .int .i64 x0.A, .int .i64 x0.B]) (fun j u hu => by rw [Nat.zero_add]; exact hu)) rfl) <| Ad) fun _ F => Bi (args := [.tmp 18]) F Fx.fn68 rfl (code_Encode_c (a0 := (⟨x0.At, x0.Op, x0.A, x0.B⟩ : S_api_Instr))    h5) rfl fun v3 w3 _ h6 F => ?_
   obtain ⟨v4, rfl, h7⟩ := h6
   have s6 := s5.add h7
   refine Ak F (Aa (Ae rfl) <| Aa (As (v := v4) rfl rfl) <| Aa (As (v := .int .i64 x1.2) rfl rfl) <| Aa (Am rfl) <| Aa (Am rfl) <| Ad) fun _ F => Aj <| Ab <| Ai ?_
   obtain ⟨o2, H1, R1⟩ := Aq H
   clear H
   refine Bx (fun a w_ => Fr a 41 [(5, v2), (6, .int .i64 s1.2), (8, v4), (9, .int .i64 o2), (10, v0), (11, .int .i64 (a0.length : Int)), (12, .int .i64 s1.2)] ∧ SL w [] w_ [Sl Ty.u8 v4 x1.1, Sl Ty.u8 v2 s1.1]) ?_ ?_
   ·have H := H1
    refine Ai <| Al <| Ak F (Aa (Ae rfl) <| Aa (Bw rfl rfl) <| Aa (Ae rfl) <| Ad) fun _ F => Bl (x1.2 == 0) (fun h8 => ?_) (fun h8 => ?_)
    ·replace H := Bb h8 H
     refine Ar F rfl rfl (An rfl h8) (Ae rfl) rfl rfl fun _ F => Ar F rfl rfl (An rfl h8) (Cd rfl Try.underlying22 (Cc (s6.own_rd (.tail _ <| .tail _ <| .head _)))) rfl rfl fun _ F => Ar F rfl rfl (An rfl h8) (Ae rfl) rfl rfl fun _ F => Ar F rfl rfl (An rfl h8) (Cd rfl Try.underlying22 (Cc (s6.own_rd (.head _)))) rfl rfl fun _ F => Ar F rfl rfl (An rfl h8) (Bp rfl rfl) rfl rfl fun _ F => Ar F rfl rfl (An rfl h8) (ex_gt rfl rfl) rfl rfl fun _ F => Ak F (Aa (Bh (Cb rfl h8) rfl) <| Ad) fun _ F => Aj <| Ab <| Bm F rfl (fun h9 => ?_) (fun h9 => ?_)
     ·replace H := Bb h9 H
      refine Al <| Ak F (Aa (Am rfl) <| Ad) fun _ F => Aj ?_
      obtain rfl := Ao H
      refine Ab ?_
      exact ⟨F.sub ⟨rfl, rfl, rfl, rfl, rfl, rfl, rfl, trivial⟩, s6.f1.drop⟩
     replace H := Bc h9 H
     refine Aw ?_
     obtain rfl := Ao H
     refine Ab ?_
     exact ⟨F.sub ⟨rfl, rfl, rfl, rfl, rfl, rfl, rfl, trivial⟩, s6.f1.drop⟩
    replace H := Bc h8 H
    refine Ap F rfl rfl (An rfl h8) Ac rfl rfl fun _ F => Ap F rfl rfl (An rfl h8) Ac rfl rfl fun _ F => Ap F rfl rfl (An rfl h8) Ac rfl rfl fun _ F => Ap F rfl rfl (An rfl h8) Ac rfl rfl fun _ F => Ap F rfl rfl (An rfl h8) Ac rfl rfl fun _ F => Ap F rfl rfl (An rfl h8) Ac rfl rfl fun _ F => Ak F (Aa (Bj (Cb rfl h8) rfl) <| Ad) fun _ F => Aj <| Ab <| Cl F rfl <| Aw ?_
    obtain rfl := Ao H
    refine Ab ?_
    exact ⟨F.sub ⟨rfl, rfl, rfl, rfl, rfl, rfl, rfl, trivial⟩, s6.f1.drop⟩
   intro _ w4 hJ
   obtain ⟨F, s7⟩ := hJ
   have H := R1
   clear R1 H1
   refine Ab <| Ai <| Ai <| Al <| Ak F (Aa (Ae rfl) <| Aa (Dd rfl rfl) <| Ad) fun _ F => Aj <| Ab <| Bm F rfl (fun ha => ?_) (fun ha => ?_)
   ·replace H := Bb ha H
    refine Ai <| Al <| Ak F (Aa (Ae rfl) <| Aa (Ae rfl) <| Aa (Am rfl) <| Aa (Am rfl) <| Aa (Am rfl) <| Ad) fun _ F => Aj <| Ab ?_
    obtain rfl := Ao H
    obtain rfl := hr _ rfl
    replace H := R0
    try dsimp only at H
    obtain rfl := Ao H
    refine Bf <| Bg <| blk_r <| Bg <| Bg <| blk_r <| Bg <| Bg ?_
    refine Ax (rs := [.tmp 2, .tmp 3, .tmp 4]) (vs := [.slice none 0 0, .int .i64 s1.2, .int .i64 o2]) F (by rfl) ⟨_, _, rfl, Ay rfl, _, _, rfl, Ay rfl, _, _, rfl, Ay rfl, rfl⟩ ⟨_, rfl, ⟨(.slice none 0 0), rfl, (SL.nilSl (T := Ty.u8) s7).f1.drop.f1.drop⟩⟩
   replace H := Bc ha H
   refine Aw <| Ab <| Al ?_
   obtain ⟨x2, hb, H⟩ := Aq H
   refine Ak F (Aa (Ae rfl) <| Aa (Ae rfl) <| Ad) fun _ F => ?_
   have s8 := s7.f1
   obtain ⟨_, hr_⟩ := (s8.own_rd (.tail _ <| .head _))
   refine Ch Flat.u8 F s8 Fx.sl22 rfl rfl rfl rfl hr_ rfl rfl hb rfl fun v5 w5 _ F s9 => Ak F (Aa (Am rfl) <| Ad) fun _ F => Aj <| By <| Ab <| Al <| Ak F (Aa (Bp rfl rfl) <| Aa (Ae rfl) <| Ad) fun _ F => Aj ?_
   obtain rfl := Ao H
   refine Ab ?_
   exact ⟨_, rfl, v5, F.sub ⟨rfl, rfl, rfl, rfl, trivial⟩, s9.f1.drop⟩
  replace H := Bc h1 H
  refine Bz <| Bo <| Bo <| Ca ?_
  obtain rfl := Ao H
  obtain rfl := hr _ rfl
  refine Ab ?_
  exact ⟨_, rfl, v2, F.sub ⟨rfl, trivial⟩, s2⟩
 intro _ w6 hJ
 obtain ⟨p0, rfl, v1, F, sa⟩ := hJ
 have H := R0
 clear R0 H0
 try dsimp only at H
 refine Ab <| Ai <| Al <| Ak F (Aa (Ae rfl) <| Aa (Am rfl) <| Aa (Am rfl) <| Aa (Am rfl) <| Ad) fun _ F => Aj <| Ab ?_
 obtain rfl := Ao H
 refine Bf ?_
 refine Ax (rs := [.tmp 2, .tmp 3, .tmp 4]) (vs := [v1, .int .i64 0, .int .i64 0]) F (by rfl) ⟨_, _, rfl, Ay rfl, _, _, rfl, Ay rfl, _, _, rfl, Ay rfl, rfl⟩ ⟨_, rfl, ⟨v1, rfl, sa⟩⟩
-- proviso/opt.laid
theorem opt_laid_c {w : World} {v0 : Value} {a0 : List S_opt_item} {r : (List S_api_Instr)} (hr0 : Rd T_opt_item w [] v0 a0) (H : opt_laid a0 = some r) :
    Calls Try.prog 46 #[v0] w (Ret fun u_ w_ => ∃ u0 : Value, u_ = u0 ∧ SL w [] w_ [Sl T_api_Instr u0 r]) := by
 have s0 : SL w [] w [] := SL.init0 w
 refine Bq Try.func46 rfl Try.ntmps46 (Ah rfl) (args := [v0]) fun q0 F0 => ?_
 unfold opt_laid at H
 refine Ai <| Al <| Ak F0 (Aa (Am rfl) <| Ad) fun q3 F4 => Aj <| Ab <| Ai <| Al <| Ak F4 (Aa (Am rfl) <| Ad) fun q7 F8 => Aj <| Ab <| Ai <| Al <| Ak F8 (Aa (Am rfl) <| Ad) fun _ F => Aj <| Ab <| Ai <| Ai <| Al <| Ak F (Aa (Ae rfl) <| Aa (Cd rfl Try.underlying94 (Cc (Cu hr0 s0))) <| Aa (Ae rfl) <| Ad) fun _ F => Aj <| Ab ?_
 obtain ⟨o0, H0, R0⟩ := Aq H
 clear H
 refine Bx (fun a w_ => ∃ v1 : Value, Fr a 53 [(0, v0), (3, v1)] ∧ SL w [] w_ [Sl T_api_Instr v1 o0]) ?_ ?_
 ·have H := H0
  refine Be <| Cq (opt_laid_b0 a0) (fun s1 a w_ => ∃ v2 : Value, Fr a 53 [(0, v0), (3, v2), (4, .int .i64 s1.2.1), (9, v0), (10, .int .i64 (a0.length : Int)), (11, .int .i64 s1.2.2)] ∧ SL w [] w_ [Sl T_api_Instr v2 s1.1]) H ?_ ?_
  ·exact ⟨(.slice none 0 0), F.sub ⟨rfl, rfl, rfl, rfl, rfl, rfl, trivial⟩, (SL.nilSl (T := T_api_Instr) s0)⟩
  intro s1 _ w0 h0 o1 H hr
  obtain ⟨v2, F, s2⟩ := h0
  replace H : opt_laid_b0 a0 s1 = some o1 := H
  unfold opt_laid_b0 at H
  refine Ai <| Al <| Ak F (Aa (Cn rfl rfl) <| Ad) fun _ F => Aj <| Ab <| Ai <| Bm F rfl (fun h1 => ?_) (fun h1 => ?_)
  ·replace H := Bb h1 H
   refine Aw <| Ab <| Ai <| Be <| Ai <| Al ?_
   obtain ⟨x0, h2, H⟩ := Aq H
   obtain ⟨a1, h3, h4⟩ := Dc F_opt_item (Cu hr0 s2) Fx.sl94 rfl h2
   refine Ak F (Aa (h3 _ _ _ _ _ _ _ _ _ _ rfl rfl) <| Aa (Bn Fx.agg121 rfl h4 rfl) <| Ad) fun _ F => Bu F s2 Fx.zero121 rfl rfl fun g0 w1 _ F s3 => ?_
   have s4 := s3
   refine Au F s4 rfl rfl Fx.sz121 (Af rfl (Af rfl (Af rfl (Af rfl (Af rfl (Af rfl Bd)))))) (Ah rfl) fun w2 _ F s5 => ?_
   replace s5 : SL w [] w2 [Blk g0 121 [.int .i64 x0.in_.At, .int .u8 (x0.in_.Op.toNat : Int), .int .i64 x0.in_.A, .int .i64 x0.in_.B, .int .i64 x0.to, .bool x0.gone], Sl T_api_Instr v2 s1.1] := s5
   refine Aj <| Ab <| Ai <| Al <| Ak F (Aa (Ae rfl) <| Aa (Az Fx.fa121_0 rfl rfl) <| Aa (Az Fx.fa90_0 rfl rfl) <| Ad) fun _ F => ?_
   have s6 := s5
   refine Ct F s6 rfl rfl Fx.sz3 rfl rfl rfl fun w3 _ F s7 => ?_
   replace s7 : SL w [] w3 [Blk g0 121 [.int .i64 s1.2.1, .int .u8 (x0.in_.Op.toNat : Int), .int .i64 x0.in_.A, .int .i64 x0.in_.B, .int .i64 x0.to, .bool x0.gone], Sl T_api_Instr v2 s1.1] := s7
   refine Aj <| Ab <| Ai <| Al <| Ak F (Aa (Ae rfl) <| Aa (Az Fx.fa121_0 rfl rfl) <| Aa (Bn Fx.agg90 rfl (s7.blk_cells (.head _) (o := 0) (ds := [.int .i64 s1.2.1, .int .u8 (x0.in_.Op.toNat : Int), .int .i64 x0.in_.A, .int .i64 x0.in_.B]) (subcells _ rfl)) rfl) <| Ad) fun _ F => ?_
   refine Cm (parts := [(0, .tmp 20)]) F_api_Instr ([(⟨s1.2.1, x0.in_.Op, x0.in_.A, x0.in_.B⟩ : S_api_Instr)] : List S_api_Instr) F s7 Fx.sl67 rfl (by decide) rfl rfl rfl (by simp [Value.cells]) rfl rfl rfl fun v3 w4 _ F s8 => ?_
   obtain ⟨x1, h5, H⟩ := Aq H
   have s9 := s8.f2
   obtain ⟨_, hr_⟩ := (s9.own_rd (.tail _ <| .head _))
   refine Ch F_api_Instr F s9 Fx.sl67 rfl rfl rfl rfl hr_ rfl rfl h5 rfl fun v4 w5 _ F sa => ?_
   have s5086' := sa.f1.drop
   refine Ak F (Aa (Am rfl) <| Ad) fun _ F => Aj <| Ab <| Al ?_
   obtain ⟨x2, h6, H⟩ := Aq H
   refine Ak F (Aa (Ae rfl) <| Aa (Az Fx.fa121_0 rfl rfl) <| Aa (Az Fx.fa90_1 rfl rfl) <| Aa (Ba Fx.nag5 rfl (s5086'.blk_cell (.tail _ <| .head _) rfl)) <| Ad) fun _ F => Bi (args := [.tmp 26]) F Fx.fn53 rfl (code_Size_c (a0 := x0.in_.Op)    h6) rfl fun v5 w6 _ h7 F => ?_
   obtain ⟨rfl, h8⟩ := h7
   have sb := s5086'.add h8
   refine Ak F (Aa (Bp rfl rfl) <| Aa (Am rfl) <| Ad) fun _ F => Aj <| By <| Ab <| Al <| Ak F (Aa (Bp rfl rfl) <| Aa (Ae rfl) <| Ad) fun _ F => Aj ?_
   obtain rfl := Ao H
   refine Ab ?_
   exact ⟨_, rfl, v4, F.sub ⟨rfl, rfl, rfl, rfl, rfl, rfl, trivial⟩, sb.f1.drop⟩
  replace H := Bc h1 H
  refine Bz <| Bo <| Bo <| Ca ?_
  obtain rfl := Ao H
  obtain rfl := hr _ rfl
  refine Ab ?_
  exact ⟨v2, F.sub ⟨rfl, rfl, trivial⟩, s2⟩
 intro _ w7 hJ
 obtain ⟨v1, F, sc⟩ := hJ
 have H := R0
 clear R0 H0
 refine Ab <| Ai <| Ai <| Al <| Ak F (Aa (Ae rfl) <| Aa (Cd rfl Try.underlying94 (Cc (Cu hr0 sc))) <| Aa (Ae rfl) <| Ad) fun _ F => Aj <| Ab ?_
 obtain ⟨o2, H1, R1⟩ := Aq H
 clear H
 refine Bx (fun a w_ => ∃ v6 : Value, Fr a 53 [(3, v6)] ∧ SL w [] w_ [Sl T_api_Instr v6 o2]) ?_ ?_
 ·have H := H1
  refine Be <| Cq (opt_laid_b1 a0) (fun sd a w_ => ∃ v7 : Value, Fr a 53 [(3, v7), (30, v0), (31, .int .i64 (a0.length : Int)), (32, .int .i64 sd.2)] ∧ SL w [] w_ [Sl T_api_Instr v7 sd.1]) H ?_ ?_
  ·exact ⟨v1, F.sub ⟨rfl, rfl, rfl, rfl, trivial⟩, sc⟩
  intro sd _ w8 h9 o3 H hr
  obtain ⟨v7, F, se⟩ := h9
  replace H : opt_laid_b1 a0 sd = some o3 := H
  unfold opt_laid_b1 at H
  refine Ai <| Al <| Ak F (Aa (Cn rfl rfl) <| Ad) fun _ F => Aj <| Ab <| Ai <| Bm F rfl (fun ha => ?_) (fun ha => ?_)
  ·replace H := Bb ha H
   refine Aw <| Ab <| Ai <| Be <| Ai <| Al ?_
   obtain ⟨x3, hb, H⟩ := Aq H
   obtain ⟨a2, hc, hd⟩ := Dc F_opt_item (Cu hr0 se) Fx.sl94 rfl hb
   refine Ak F (Aa (Ae rfl) <| Aa (hc _ _ _ _ _ _ _ _ _ _ rfl rfl) <| Aa (Bn Fx.agg121 rfl hd rfl) <| Ad) fun _ F => Bu F se Fx.zero121 rfl rfl fun g1 w9 _ F sf => Ak F (Aa (Am rfl) <| Ad) fun _ F => ?_
   have sg := sf
   refine Au F sg rfl rfl Fx.sz121 (Af rfl (Af rfl (Af rfl (Af rfl (Af rfl (Af rfl Bd)))))) (Ah rfl) fun wa _ F sh => ?_
   replace sh : SL w [] wa [Blk g1 121 [.int .i64 x3.in_.At, .int .u8 (x3.in_.Op.toNat : Int), .int .i64 x3.in_.A, .int .i64 x3.in_.B, .int .i64 x3.to, .bool x3.gone], Sl T_api_Instr v7 sd.1] := sh
   refine Aj <| Ab <| Ai <| Al ?_
   obtain ⟨x4, he, H⟩ := Aq H
   refine Ak F (Aa (Az Fx.fa121_0 rfl rfl) <| Aa (Az Fx.fa90_1 rfl rfl) <| Aa (Ba Fx.nag5 rfl (sh.blk_cell (.head _) rfl)) <| Ad) fun _ F => Bi (args := [.tmp 39]) F Fx.fn55 rfl (code_Jumps_c (a0 := x3.in_.Op)    he) rfl fun v8 wb _ hf F => ?_
   obtain ⟨rfl, hg⟩ := hf
   have si := sh.add hg
   refine Aj <| Ab <| Bm F rfl (fun hh => ?_) (fun hh => ?_)
   ·replace H := Bb hh H
    refine Al ?_
    obtain ⟨x5, hi, H⟩ := Aq H
    obtain ⟨a3, hj, hk⟩ := Cf F_api_Instr si (.tail _ <| .head _) Fx.sl67 rfl hi
    obtain ⟨x6, hl, H⟩ := Aq H
    obtain ⟨a4, hm, hn⟩ := Cf F_api_Instr si (.tail _ <| .head _) Fx.sl67 rfl hl
    refine Ak F (Aa (Ae rfl) <| Aa (Ae rfl) <| Aa (Ae rfl) <| Aa (Az Fx.fa121_1 rfl rfl) <| Aa (Ba Fx.nag3 rfl (si.blk_cell (.head _) rfl)) <| Aa (hj _ _ _ _ _ _ _ _ _ _ rfl rfl) <| Aa (Cw Fx.fa90_0 rfl) <| Aa (Ba Fx.nag3 rfl (Cells.at_ (SL.elcells F_api_Instr si (.tail _ <| .head _) hk hi) (o := 0) rfl)) <| Aa (hm _ _ _ _ _ _ _ _ _ _ rfl rfl) <| Aa (Cw Fx.fa90_2 rfl) <| Ad) fun _ F => ?_
    refine Dg (y' := (⟨x6.At, x6.Op, x5.At, x6.B⟩ : S_api_Instr)) (o := 2) (ds := [.int .i64 x5.At]) F_api_Instr F si.f1 hn hl rfl rfl (by rfl) Fx.sz3 (by rfl) (Af rfl Bd) (by rfl) fun wc _ F sj => ?_
    refine Aj <| By <| Ab <| Al <| Ak F (Aa (Bp rfl rfl) <| Aa (Ae rfl) <| Ad) fun _ F => Aj ?_
    obtain rfl := Ao H
    refine Ab ?_
    exact ⟨_, rfl, v7, F.sub ⟨rfl, rfl, rfl, rfl, trivial⟩, sj.f1.drop⟩
   replace H := Bc hh H
   refine Aw <| By <| Ab <| Al <| Ak F (Aa (Bp rfl rfl) <| Aa (Ae rfl) <| Ad) fun _ F => Aj ?_
   obtain rfl := Ao H
   refine Ab ?_
   exact ⟨_, rfl, v7, F.sub ⟨rfl, rfl, rfl, rfl, trivial⟩, si.drop⟩
  replace H := Bc ha H
  refine Bz <| Bo <| Bo <| Ca ?_
  obtain rfl := Ao H
  obtain rfl := hr _ rfl
  refine Ab ?_
  exact ⟨v7, F.sub ⟨rfl, trivial⟩, se⟩
 intro _ wd hJ
 obtain ⟨v6, F, sk⟩ := hJ
 have H := R1
 clear R1 H1
 refine Ab <| Ai <| Al <| Ak F (Aa (Ae rfl) <| Aa (Am rfl) <| Ad) fun _ F => Aj <| Ab ?_
 obtain rfl := Ao H
 refine Bf ?_
 refine Ax (rs := [.tmp 2]) (vs := [v6]) F (by rfl) ⟨_, _, rfl, Ay rfl, rfl⟩ ⟨_, rfl, ⟨v6, rfl, sk⟩⟩
-- proviso/opt.end
theorem opt_end_c {w : World} {v0 : Value} {a0 : List S_opt_item} {a1 : Int} {r : Int} (hr0 : Rd T_opt_item w [] v0 a0) (H : opt_end a0 a1 = some r) :
    Calls Try.prog 93 #[v0, .int .i64 a1] w (Ret fun u_ w_ => u_ = .int .i64 r ∧ SL w [] w_ []) := by
 have s0 : SL w [] w [] := SL.init0 w
 refine Bq Try.func93 rfl Try.ntmps93 (Ah rfl) (args := [v0, .int .i64 a1]) fun q0 F0 => ?_
 unfold opt_end at H
 refine Ai <| Al <| Ak F0 (Aa (Am rfl) <| Ad) fun q3 F4 => Aj <| Ab <| Ai <| Al <| st_mkmap (Value.int .i64) (Value.int .i64) F4 s0 rfl fun g0 w0 _ F s1 => Ak F (Aa (Am rfl) <| Ad) fun _ F => Aj <| Ab <| Ai <| Al ?_
 obtain ⟨x0, h0, H⟩ := Aq H
 obtain ⟨a2, h1, h2⟩ := Dc F_opt_item (Cu hr0 s1) Fx.sl94 rfl h0
 refine Ak F (Aa (Ae rfl) <| Aa (Ae rfl) <| Aa (h1 _ _ _ _ _ _ _ _ _ _ rfl rfl) <| Aa (Cw Fx.fa121_1 rfl) <| Aa (Ba Fx.nag3 rfl (Cells.at_ h2 (o := 4) rfl)) <| Aa (Am rfl) <| Ad) fun _ F => Aj <| Ab <| Ai <| Ai <| Al <| Ak F (Aa (Ae rfl) <| Aa (Ae rfl) <| Aa (Bw rfl rfl) <| Aa (Ae rfl) <| Ad) fun _ F => Bl (x0.to == a1) (fun h3 => ?_) (fun h3 => ?_)
 ·replace H := Bb h3 H
  refine Ap F rfl rfl (An rfl h3) Ac rfl rfl fun _ F => Ap F rfl rfl (An rfl h3) Ac rfl rfl fun _ F => Ap F rfl rfl (An rfl h3) Ac rfl rfl fun _ F => Ap F rfl rfl (An rfl h3) Ac rfl rfl fun _ F => Ap F rfl rfl (An rfl h3) Ac rfl rfl fun _ F => Ap F rfl rfl (An rfl h3) Ac rfl rfl fun _ F => Ap F rfl rfl (An rfl h3) Ac rfl rfl fun _ F => Ak F (Aa (Bh (Cb rfl h3) rfl) <| Ad) fun _ F => Aj <| Ab <| Cy F rfl <| Ai <| Al <| Ak F (Aa (Ae rfl) <| Aa (Am rfl) <| Ad) fun _ F => Aj <| Ab ?_
  obtain rfl := Ao H
  refine Bf <| Bg ?_
  refine Ax (rs := [.tmp 4]) (vs := [.int .i64 x0.to]) F (by rfl) ⟨_, _, rfl, Ay rfl, rfl⟩ ⟨_, rfl, ⟨rfl, s1.drop⟩⟩
 replace H := Bc h3 H
 refine Ar F rfl rfl (An rfl h3) (Ae rfl) rfl rfl fun _ F => Ar F rfl rfl (An rfl h3) (Ae rfl) rfl rfl fun _ F => ?_
 obtain ⟨x1, h4, H⟩ := Aq H
 obtain ⟨a3, h5, h6⟩ := Dc F_opt_item (Cu hr0 s1) Fx.sl94 rfl h4
 refine Ar F rfl rfl (An rfl h3) (h5 _ _ _ _ _ _ _ _ _ _ rfl rfl) rfl rfl fun _ F => Ar F rfl rfl (An rfl h3) (Cw Fx.fa121_0 rfl) rfl rfl fun _ F => Ar F rfl rfl (An rfl h3) (ex_fae Fx.fa90_1 rfl rfl) rfl rfl fun _ F => Ar F rfl rfl (An rfl h3) (Ba Fx.nag5 rfl (Cells.at_ h6 (o := 1) rfl)) rfl rfl fun _ F => Ar F rfl rfl (An rfl h3) (Dd rfl rfl) rfl rfl fun _ F => Ak F (Aa (Bj (Cb rfl h3) rfl) <| Ad) fun _ F => Aj <| Ab <| Bm F rfl (fun h7 => ?_) (fun h7 => ?_)
 ·replace H := Bb h7 H
  refine Ai <| Al <| Ak F (Aa (Ae rfl) <| Aa (Am rfl) <| Ad) fun _ F => Aj <| Ab ?_
  obtain rfl := Ao H
  refine Bf <| Bg ?_
  refine Ax (rs := [.tmp 4]) (vs := [.int .i64 x0.to]) F (by rfl) ⟨_, _, rfl, Ay rfl, rfl⟩ ⟨_, rfl, ⟨rfl, s1.drop⟩⟩
 replace H := Bc h7 H
 refine Aw <| Ab <| Ai ?_
 obtain ⟨o0, H0, R0⟩ := Aq H
 clear H
 refine Bx (fun a w_ => ∃ p0 : (List (Int × Int)) × Int, o0 = .inr (p0) ∧ Fr a 50 [(6, .int .i64 p0.2)] ∧ SL w [] w_ []) ?_ ?_
 ·have H := H0
  refine Be <| Cq (opt_end_b0 a0 a1) (fun s2 a w_ => Fr a 50 [(0, v0), (1, .int .i64 a1), (5, .map (some g0)), (6, .int .i64 s2.2)] ∧ SL w [] w_ [Mp (Value.int .i64) (Value.int .i64) g0 s2.1]) H ?_ ?_
  ·exact ⟨F.sub ⟨rfl, rfl, rfl, rfl, trivial⟩, s1⟩
  intro s2 _ w1 h8 o1 H hr
  obtain ⟨F, s3⟩ := h8
  replace H : opt_end_b0 a0 a1 s2 = some o1 := H
  unfold opt_end_b0 at H
  refine Ai <| Ai <| Al ?_
  obtain ⟨x2, h9, H⟩ := Aq H
  obtain ⟨a4, ha, hb⟩ := Dc F_opt_item (Cu hr0 s3) Fx.sl94 rfl h9
  refine Ak F (Aa (Ae rfl) <| Aa (Ae rfl) <| Aa (ha _ _ _ _ _ _ _ _ _ _ rfl rfl) <| Aa (Cw Fx.fa121_0 rfl) <| Aa (ex_fae Fx.fa90_1 rfl rfl) <| Aa (Ba Fx.nag5 rfl (Cells.at_ hb (o := 1) rfl)) <| Aa (Bw rfl rfl) <| Ad) fun _ F => Aj <| Ab <| Bm F rfl (fun hc => ?_) (fun hc => ?_)
  ·replace H := Bb hc H
   refine Aw <| Ab <| Be <| Ai <| Ai <| Al <| Ak F (Aa (Ae rfl) <| Aa (Ae rfl) <| Aa (ex_lookup (k := s2.2) (z0 := (0 : Int)) s3 (.head _) Try.underlying109 Fx.key3 Fx.mz3 rfl rfl) <| Aa (ex_gt rfl rfl) <| Ad) fun _ F => Aj <| Ab <| Bm F rfl (fun hd => ?_) (fun hd => ?_)
   ·replace H := Bb hd H
    refine Ai <| Al ?_
    obtain ⟨x3, he, H⟩ := Aq H
    obtain ⟨a5, hf, hg⟩ := Dc F_opt_item (Cu hr0 s3) Fx.sl94 rfl he
    refine Ak F (Aa (Ae rfl) <| Aa (Ae rfl) <| Aa (hf _ _ _ _ _ _ _ _ _ _ rfl rfl) <| Aa (Cw Fx.fa121_1 rfl) <| Aa (Ba Fx.nag3 rfl (Cells.at_ hg (o := 4) rfl)) <| Aa (Am rfl) <| Ad) fun _ F => Aj <| Ab ?_
    obtain rfl := Ao H
    obtain rfl := hr _ rfl
    replace H := R0
    try dsimp only at H
    obtain rfl := Ao H
    refine Bf <| Bg <| blk_r <| Bg <| blk_r <| Bg <| Bg ?_
    refine Ax (rs := [.tmp 4]) (vs := [.int .i64 x3.to]) F (by rfl) ⟨_, _, rfl, Ay rfl, rfl⟩ ⟨_, rfl, ⟨rfl, s3.drop⟩⟩
   replace H := Bc hd H
   refine Aw <| Ab <| Ai <| Al <| Ak F (Aa (Ae rfl) <| Aa (Ae rfl) <| Ad) fun _ F => st_mapset (k := s2.2) (u := 1) F s3 Try.underlying109 Fx.key3 rfl rfl rfl fun w2 _ F s4 => Aj <| Ab <| Al ?_
   obtain ⟨x4, hh, H⟩ := Aq H
   obtain ⟨a6, hi, hj⟩ := Dc F_opt_item (Cu hr0 s4) Fx.sl94 rfl hh
   refine Ak F (Aa (Ae rfl) <| Aa (Ae rfl) <| Aa (hi _ _ _ _ _ _ _ _ _ _ rfl rfl) <| Aa (Cw Fx.fa121_1 rfl) <| Aa (Ba Fx.nag3 rfl (Cells.at_ hj (o := 4) rfl)) <| Aa (Am rfl) <| Ad) fun _ F => Aj <| By ?_
   obtain rfl := Ao H
   refine Ab ?_
   exact ⟨_, rfl, F.sub ⟨rfl, rfl, rfl, rfl, trivial⟩, s4⟩
  replace H := Bc hc H
  refine Bz <| Bo <| Bo <| Ca ?_
  obtain rfl := Ao H
  obtain rfl := hr _ rfl
  refine Ab ?_
  exact ⟨_, rfl, F.sub ⟨rfl, trivial⟩, s3.drop⟩
 intro _ w3 hJ
 obtain ⟨p0, rfl, F, s5⟩ := hJ
 have H := R0
 clear R0 H0
 try dsimp only at H
 refine Ab <| Ai <| Al <| Ak F (Aa (Ae rfl) <| Aa (Am rfl) <| Ad) fun _ F => Aj <| Ab ?_
 obtain rfl := Ao H
 refine Bf ?_
 refine Ax (rs := [.tmp 4]) (vs := [.int .i64 p0.2]) F (by rfl) ⟨_, _, rfl, Ay rfl, rfl⟩ ⟨_, rfl, ⟨rfl, s5⟩⟩
-- proviso/opt.threads
theorem opt_threads_c {w : World} {v0 : Value} {a0 : List S_opt_item} {r : (List S_opt_item) × Bool} (hr0 : Rd T_opt_item w [] v0 a0) (H : opt_threads a0 = some r) :
    Calls Try.prog 63 #[v0] w (Ret fun u_ w_ => ∃ u0 : Value, u_ = .tuple ⟨[u0, .bool r.2]⟩ ∧ SL w [] w_ [Sl T_opt_item u0 r.1]) := by
 have s0 : SL w [] w [] := SL.init0 w
 refine Bq Try.func63 rfl Try.ntmps63 (Ah rfl) (args := [v0]) fun q0 F0 => ?_
 unfold opt_threads at H
 refine Ai <| Al <| Ak F0 (Aa (Am rfl) <| Aa (Am rfl) <| Ad) fun q3 F4 => Aj <| Ab <| Ai <| Al <| Ak F4 (Aa (Am rfl) <| Ad) fun q7 F8 => Aj <| Ab <| Ai <| Al ?_
 obtain ⟨x0, h0, H⟩ := Aq H
 refine Ak F8 (Aa (Ae rfl) <| Ad) fun _ F => ?_
 have s1 := (SL.nilSl (T := T_opt_item) s0)
 obtain ⟨_, hr_⟩ := (Cu hr0 s1)
 refine Ch F_opt_item F s1 Fx.sl94 rfl rfl rfl rfl hr_ rfl rfl h0 rfl fun v1 w0 _ F s2 => Ak F (Aa (Am rfl) <| Ad) fun _ F => Aj <| Ab <| Ai <| Ai <| Al <| Ak F (Aa (Ae rfl) <| Aa (Cd rfl Try.underlying94 (Cc (Cu hr0 s2))) <| Aa (Ae rfl) <| Ad) fun _ F => Aj <| Ab ?_
 obtain ⟨o0, H0, R0⟩ := Aq H
 clear H
 refine Bx (fun a w_ => ∃ v2 : Value, Fr a 41 [(4, .bool o0.1), (5, v2)] ∧ SL w [] w_ [Sl T_opt_item v2 o0.2]) ?_ ?_
 ·have H := H0
  refine Be <| Cq (opt_threads_b0 a0) (fun s3 a w_ => ∃ v3 : Value, Fr a 41 [(0, v0), (4, .bool s3.1), (5, v3), (11, v0), (12, .int .i64 (a0.length : Int)), (13, .int .i64 s3.2.2)] ∧ SL w [] w_ [Sl T_opt_item v3 s3.2.1]) H ?_ ?_
  ·exact ⟨v1, F.sub ⟨rfl, rfl, rfl, rfl, rfl, rfl, trivial⟩, s2⟩
  intro s3 _ w1 h1 o1 H hr
  obtain ⟨v3, F, s4⟩ := h1
  replace H : opt_threads_b0 a0 s3 = some o1 := H
  unfold opt_threads_b0 at H
  refine Ai <| Al <| Ak F (Aa (Cn rfl rfl) <| Ad) fun _ F => Aj <| Ab <| Ai <| Bm F rfl (fun h2 => ?_) (fun h2 => ?_)
  ·replace H := Bb h2 H
   refine Aw <| Ab <| Ai <| Be <| Ai <| Al ?_
   obtain ⟨x1, h3, H⟩ := Aq H
   obtain ⟨a2, h4, h5⟩ := Dc F_opt_item (Cu hr0 s4) Fx.sl94 rfl h3
   refine Ak F (Aa (Ae rfl) <| Aa (h4 _ _ _ _ _ _ _ _ _ _ rfl rfl) <| Aa (Bn Fx.agg121 rfl h5 rfl) <| Ad) fun _ F => Bu F s4 Fx.zero121 rfl rfl fun g0 w2 _ F s5 => Ak F (Aa (Am rfl) <| Ad) fun _ F => ?_
   have s6 := s5
   refine Au F s6 rfl rfl Fx.sz121 (Af rfl (Af rfl (Af rfl (Af rfl (Af rfl (Af rfl Bd)))))) (Ah rfl) fun w3 _ F s7 => ?_
   replace s7 : SL w [] w3 [Blk g0 121 [.int .i64 x1.in_.At, .int .u8 (x1.in_.Op.toNat : Int), .int .i64 x1.in_.A, .int .i64 x1.in_.B, .int .i64 x1.to, .bool x1.gone], Sl T_opt_item v3 s3.2.1] := s7
   refine Aj <| Ab <| Ai <| Ai <| Al ?_
   obtain ⟨x2, h6, H⟩ := Aq H
   refine Ak F (Aa (Az Fx.fa121_0 rfl rfl) <| Aa (Az Fx.fa90_1 rfl rfl) <| Aa (Ba Fx.nag5 rfl (s7.blk_cell (.head _) rfl)) <| Ad) fun _ F => Bi (args := [.tmp 20]) F Fx.fn55 rfl (code_Jumps_c (a0 := x1.in_.Op)    h6) rfl fun v4 w4 _ h7 F => ?_
   obtain ⟨rfl, h8⟩ := h7
   have s8 := s7.add h8
   refine Ak F (Aa (Cx rfl) <| Ad) fun _ F => Aj <| Ab <| Bm F rfl (fun h9 => ?_) (fun h9 => ?_)
   ·replace H := Bb h9 H
    refine Bz <| Bo <| Ca <| Ab <| Al <| Ak F (Aa (Bp rfl rfl) <| Aa (Ae rfl) <| Ad) fun _ F => Aj ?_
    obtain rfl := Ao H
    refine Ab ?_
    exact ⟨_, rfl, v3, F.sub ⟨rfl, rfl, rfl, rfl, rfl, rfl, trivial⟩, s8.drop⟩
   replace H := Bc h9 H
   refine Aw <| Ab <| Ai <| Al ?_
   obtain ⟨x3, ha, H⟩ := Aq H
   refine Ak F (Aa (Ae rfl) <| Aa (Ae rfl) <| Ad) fun _ F => Bi (args := [.tmp 23, .tmp 24]) F Fx.fn93 rfl (opt_end_c (a0 := a0) (a1 := s3.2.2)   (hr0.pass0 s8) ha) rfl fun v5 w5 _ hb F => ?_
   obtain ⟨rfl, hc⟩ := hb
   have s9 := s8.add hc
   refine Ak F (Aa (Am rfl) <| Ad) fun _ F => Aj <| Ab <| Ai <| Al <| Ak F (Aa (Ae rfl) <| Aa (Ae rfl) <| Ad) fun _ F => Bl s3.1 (fun hd => ?_) (fun hd => ?_)
   ·replace H := Bb hd H
    refine Ap F rfl rfl (An rfl hd) Ac rfl rfl fun _ F => Ap F rfl rfl (An rfl hd) Ac rfl rfl fun _ F => Ap F rfl rfl (An rfl hd) Ac rfl rfl fun _ F => Ap F rfl rfl (An rfl hd) Ac rfl rfl fun _ F => Ak F (Aa (Bh (Cb rfl hd) rfl) <| Aa (Am rfl) <| Ad) fun _ F => Aj <| Ab <| Al ?_
    obtain ⟨x4, he, H⟩ := Aq H
    obtain ⟨a3, hf, hg⟩ := Cf F_opt_item s9 (.tail _ <| .head _) Fx.sl94 rfl he
    refine Ak F (Aa (Ae rfl) <| Aa (Ae rfl) <| Aa (Ae rfl) <| Aa (hf _ _ _ _ _ _ _ _ _ _ rfl rfl) <| Aa (Cw Fx.fa121_1 rfl) <| Ad) fun _ F => ?_
    refine Dg (y' := (⟨(⟨x4.in_.At, x4.in_.Op, x4.in_.A, x4.in_.B⟩ : S_api_Instr), x3, x4.gone⟩ : S_opt_item)) (o := 4) (ds := [.int .i64 x3]) F_opt_item F s9.f1 hg he rfl rfl (by rfl) Fx.sz3 (by rfl) (Af rfl Bd) (by rfl) fun w6 _ F sa => ?_
    refine Aj <| By <| Ab <| Al <| Ak F (Aa (Bp rfl rfl) <| Aa (Ae rfl) <| Ad) fun _ F => Aj ?_
    obtain rfl := Ao H
    refine Ab ?_
    exact ⟨_, rfl, v3, F.sub ⟨rfl, rfl, rfl, rfl, rfl, rfl, trivial⟩, sa.f1.drop⟩
   replace H := Bc hd H
   refine Ar F rfl rfl (An rfl hd) (Ae rfl) rfl rfl fun _ F => Ar F rfl rfl (An rfl hd) (Az Fx.fa121_1 rfl rfl) rfl rfl fun _ F => Ar F rfl rfl (An rfl hd) (Ba Fx.nag3 rfl (s9.blk_cell (.head _) rfl)) rfl rfl fun _ F => Ar F rfl rfl (An rfl hd) (Dd rfl rfl) rfl rfl fun _ F => Ak F (Aa (Bj (Cb rfl hd) rfl) <| Aa (Am rfl) <| Ad) fun _ F => Aj <| Ab <| Al ?_
   obtain ⟨x5, hh, H⟩ := Aq H
   obtain ⟨a4, hi, hj⟩ := Cf F_opt_item s9 (.tail _ <| .head _) Fx.sl94 rfl hh
   refine Ak F (Aa (Ae rfl) <| Aa (Ae rfl) <| Aa (Ae rfl) <| Aa (hi _ _ _ _ _ _ _ _ _ _ rfl rfl) <| Aa (Cw Fx.fa121_1 rfl) <| Ad) fun _ F => ?_
   refine Dg (y' := (⟨(⟨x5.in_.At, x5.in_.Op, x5.in_.A, x5.in_.B⟩ : S_api_Instr), x3, x5.gone⟩ : S_opt_item)) (o := 4) (ds := [.int .i64 x3]) F_opt_item F s9.f1 hj hh rfl rfl (by rfl) Fx.sz3 (by rfl) (Af rfl Bd) (by rfl) fun w7 _ F sb => ?_
   refine Aj <| By <| Ab <| Al <| Ak F (Aa (Bp rfl rfl) <| Aa (Ae rfl) <| Ad) fun _ F => Aj ?_
   obtain rfl := Ao H
   refine Ab ?_
   exact ⟨_, rfl, v3, F.sub ⟨rfl, rfl, rfl, rfl, rfl, rfl, trivial⟩, sb.f1.drop⟩
  replace H := Bc h2 H
  refine Bz <| Bo <| Bo <| Ca ?_
  obtain rfl := Ao H
  obtain rfl := hr _ rfl
  refine Ab ?_
  exact ⟨v3, F.sub ⟨rfl, rfl, trivial⟩, s4⟩
 intro _ w8 hJ
 obtain ⟨v2, F, sc⟩ := hJ
 have H := R0
 clear R0 H0
 refine Ab <| Ai <| Al <| Ak F (Aa (Ae rfl) <| Aa (Ae rfl) <| Aa (Am rfl) <| Aa (Am rfl) <| Ad) fun _ F => Aj <| Ab ?_
 obtain rfl := Ao H
 refine Bf ?_
 refine Ax (rs := [.tmp 2, .tmp 3]) (vs := [v2, .bool o0.1]) F (by rfl) ⟨_, _, rfl, Ay rfl, _, _, rfl, Ay rfl, rfl⟩ ⟨_, rfl, ⟨v2, rfl, sc⟩⟩
-- C114
theorem perm_sortI {l l' : List Int} (h : l.Perm l') : sortI l = sortI l' := by
  unfold sortI
  exact List.Perm.eq_of_pairwise (le := fun a b => decide (a ≤ b) = true) (fun a b _ _ h1 h2 => by simp at h1 h2; omega) (List.pairwise_mergeSort (fun a b c h1 h2 => by simp at h1 h2 ⊢; omega) (fun a b => by simp; omega) _) (List.pairwise_mergeSort (fun a b c h1 h2 => by simp at h1 h2 ⊢; omega) (fun a b => by simp; omega) _) ((List.mergeSort_perm _ _).trans (h.trans (List.mergeSort_perm _ _).symm))
theorem flow_rising_int_c {w : World} {FF : List Nat} {g0 : Nat} {a0 : List (Int × Int)} {r : List Int} (hst : Star [Mp (Value.int .i64) (Value.int .i64) g0 a0] w FF) (H : flow_rising_int a0 = some r) :
    Calls Try.prog 114 #[.map (some g0)] w (Ret fun u_ w_ => ∃ u0 : Value, u_ = u0 ∧ SL w FF w_ [Mp (Value.int .i64) (Value.int .i64) g0 a0, Sl (Ty.int .i64) u0 r]) := by
  have s0 : SL w FF w [Mp (Value.int .i64) (Value.int .i64) g0 a0] := SL.init w FF hst
  unfold flow_rising_int at H
  split at H
  · rename_i hlen
    obtain rfl := some_ok H
    refine call_enter Try.func114 rfl Try.ntmps114 (Nat.le_of_ble_eq_true rfl) (args := [.map (some g0)]) fun q0 F0 => ?_
    refine wp_seq ?_
    refine wp_reg ?_
    refine st_pr F0 (PR.op (ex_asg rfl) <| PR.nil) fun q1 F1 => ?_
    refine st_end ?_
    refine then_n ?_
    refine wp_seq ?_
    refine wp_reg ?_
    refine st_pr F1 (PR.op (ex_asg rfl) <| PR.nil) fun q2 F2 => ?_
    refine st_end ?_
    refine then_n ?_
    refine wp_seq ?_
    refine wp_cutn (fun a w_ => ∃ (v : Value) (js : List Nat), js.Perm (List.range a0.length) ∧ Fr a 18 [(3, v)] ∧ SL w FF w_ [Sl (Ty.int .i64) v ((pick a0 js).map Prod.fst), Mp (Value.int .i64) (Value.int .i64) g0 a0]) ?_ ?_
    · refine wp_seq ?_
      refine wp_reg ?_
      refine st_pr F2 (PR.op (ex_move rfl) <| PR.nil) fun q3 F3 => ?_
      refine st_range F3 s0 Try.underlying109 rfl rfl fun it w4 q4 F4 s4 => ?_
      refine st_end ?_
      refine then_n ?_
      refine wp_block ?_
      refine wp_lp (S := Nat) (R := Unit) (fun s => if s = 0 then some (.inr ()) else some (.inl (s - 1))) (fun s a w_ => ∃ (v : Value) (js : List Nat), js.Nodup ∧ (∀ j ∈ js, j < a0.length) ∧ js.length + s = a0.length ∧ Fr a 18 [(3, v), (6, .pointer (some ⟨it, 0, none⟩))] ∧ SL w FF w_ [Sl (Ty.int .i64) v ((pick a0 js).map Prod.fst), MpIt (Value.int .i64) (Value.int .i64) g0 it a0 js]) (s := a0.length) (r := ()) ?_ ?_ ?_
      · have : ∀ k, loopO (fun s : Nat => if s = 0 then some (.inr ()) else some (.inl (s - 1))) k = some () := by
          intro k
          induction k with
          | zero => rw [loopO_eq]; rfl
          | succ k ih => rw [loopO_eq, if_neg (by omega)]; exact ih
        exact this _
      · exact ⟨.slice none 0 0, [], by simp, by simp, by simp, F4.sub ⟨rfl, rfl, trivial⟩, SL.nilSl s4⟩
      · rintro s a w_ ⟨v, js, hn, hl, hls, F5, s5⟩ o ho hr
        refine wp_seq ?_
        refine wp_reg ?_
        refine st_next F5 s5.f1 rfl rfl (fun q6 hperm F6 => ?_) (fun j p w6 q6 hp hn' hl' F6 s6 => ?_)
        · have h0 : s = 0 := by
            have := hperm.length_eq
            rw [List.length_range] at this
            omega
          subst h0
          obtain rfl : .inr () = o := some_ok ho
          refine st_pr F6 (PR.op (ex_extract (v := .bool false) rfl rfl) <| PR.nil) fun q7 F7 => ?_
          refine st_end ?_
          refine then_n ?_
          refine wp_seq ?_
          refine wp_if_f F7 rfl ?_
          refine wp_exit ?_
          refine then_x <| then_x <| blk_hit ?_
          exact ⟨v, js, hperm, F7.sub ⟨rfl, trivial⟩, s5.f1.unit.f1⟩
        · have hs : s ≠ 0 := by
            intro h0
            have h7 := rest_perm hn' hl'
            have h8 := h7.length_eq
            rw [List.length_append, List.length_append, List.length_range] at h8
            simp only [List.length_cons, List.length_nil] at h8
            omega
          obtain ⟨s', rfl⟩ : ∃ s', s = s' + 1 := ⟨s - 1, by omega⟩
          rw [if_neg (by omega)] at ho
          obtain rfl : .inl (s' + 1 - 1) = o := some_ok ho
          refine st_pr F6 (PR.op (ex_extract (v := .bool true) rfl rfl) <| PR.nil) fun q7 F7 => ?_
          refine st_end ?_
          refine then_n ?_
          refine wp_seq ?_
          refine wp_if_t F7 rfl ?_
          refine wp_skip ?_
          refine then_n ?_
          refine wp_block ?_
          refine wp_seq ?_
          refine wp_reg ?_
          refine st_pr F7 (PR.op (ex_entry s6 (.head _) hp rfl) <| PR.op (ex_extract (v := .int .i64 p.1) rfl rfl) <| PR.op (ex_asg rfl) <| PR.nil) fun q8 F8 => ?_
          refine st_end ?_
          refine then_n ?_
          refine wp_reg ?_
          refine st_pr F8 (PR.op (ex_move rfl) <| PR.op (ex_move rfl) <| PR.nil) fun q9 F9 => ?_
          refine st_bslice (parts := [(0, .tmp 12)]) (Flat.int .i64) ([p.1] : List Int) F9 s6 Fx.sl57 rfl (by decide) rfl rfl rfl (by simp [Value.cells]) rfl rfl rfl fun v10 w10 q10 F10 s10 => ?_
          have s11 := s10.f2
          obtain ⟨_, hr_⟩ := (s11.own_rd (.tail _ <| .head _))
          have happ : app 17592186044416 ((pick a0 js).map Prod.fst) [p.1] = some ((pick a0 (js ++ [j])).map Prod.fst) := by
            have h7 : (pick a0 js).length ≤ js.length := List.length_filterMap_le _ _
            unfold app
            rw [if_pos (by simp; omega), pick_snoc hp, List.map_append]
            rfl
          refine st_append_rd (Flat.int .i64) F10 s11 Fx.sl57 rfl rfl rfl rfl hr_ rfl rfl happ rfl fun v12 w12 q12 F12 s12 => ?_
          refine st_pr F12 (PR.op (ex_asg rfl) <| PR.nil) fun q13 F13 => ?_
          refine st_end ?_
          refine blk_n <| then_n ?_
          refine ⟨s' + 1 - 1, rfl, v12, js ++ [j], hn', hl', by simp; omega, F13.sub ⟨rfl, rfl, trivial⟩, s12.f1.drop⟩
    · rintro a14 w14 ⟨v, js, hperm, F14, s14⟩
      have hk : ((pick a0 js).map Prod.fst).Perm (a0.map Prod.fst) := (pick_perm hperm).map _
      have hlen2 := hk.length_eq
      rw [List.length_map, List.length_map] at hlen2
      have hsort : sortO ((pick a0 js).map Prod.fst) = some (sortI (a0.map Prod.fst)) := by
        unfold sortO
        rw [if_pos (by rw [List.length_map]; omega), perm_sortI hk]
      refine wp_seq ?_
      refine wp_reg ?_
      refine st_pr F14 (PR.op (ex_move rfl) <| PR.nil) fun q15 F15 => ?_
      obtain ⟨G16, hst16, hF16, hG16, hcl16⟩ := SL.open_ (ps := [Sl (Ty.int .i64) v ((pick a0 js).map Prod.fst)]) (rest := [Mp (Value.int .i64) (Value.int .i64) g0 a0]) s14
      refine st_call (args := [.tmp 15]) F15 Fx.fn42 rfl (sort_own lays_sort hst16 hsort) rfl fun v17 w17 q17 hS17 F17 => ?_
      obtain ⟨rfl, hq17⟩ := hS17
      have s18 := hcl16 _ _ hq17
      refine st_end ?_
      refine then_n ?_
      refine wp_seq ?_
      refine wp_reg ?_
      refine st_pr F17 (PR.op (ex_move rfl) <| PR.op (ex_asg rfl) <| PR.nil) fun q19 F19 => ?_
      refine st_end ?_
      refine then_n ?_
      refine wp_ret ?_
      refine ret_gen (rs := [.tmp 2]) (vs := [v]) F19 (by rfl) ⟨_, _, rfl, RV.tmp rfl, rfl⟩ ⟨_, rfl, v, rfl, s18.f1⟩
  · cases H
-- proviso/flow.placed
theorem flow_placed_c {w : World} {a0 : S_api_Instr} {r : Bool}  (H : flow_placed a0 = some r) :
    Calls Try.prog 122 #[.agg ⟨[.int .i64 a0.At, .int .u8 (a0.Op.toNat : Int), .int .i64 a0.A, .int .i64 a0.B]⟩] w (Ret fun u_ w_ => u_ = .bool r ∧ SL w [] w_ []) := by
 have s0 : SL w [] w [] := SL.init0 w
 refine Bq Try.func122 rfl Try.ntmps122 (Ah rfl) (args := [.agg ⟨[.int .i64 a0.At, .int .u8 (a0.Op.toNat : Int), .int .i64 a0.A, .int .i64 a0.B]⟩]) fun q0 F0 => ?_
 unfold flow_placed at H
 refine Ai <| Al <| Cz F0 s0 rfl rfl rfl fun g9 w0 _ F s1 => Ak F (Aa (Am rfl) <| Ad) fun _ F => Aj <| Ab <| Ai <| Al <| Ak F (Aa (Az Fx.fa90_0 rfl rfl) <| Aa (Ba Fx.nag3 rfl (s1.blk_cell (.head _) rfl)) <| Aa (ex_ge rfl rfl) <| Aa (Ae rfl) <| Ad) fun _ F => Bl (decide (a0.At ≥ 0)) (fun h0 => ?_) (fun h0 => ?_)
 ·replace H := Bb h0 H
  refine Ar F rfl rfl (An rfl h0) (Az Fx.fa90_0 rfl rfl) rfl rfl fun _ F => Ar F rfl rfl (An rfl h0) (Ba Fx.nag3 rfl (s1.blk_cell (.head _) rfl)) rfl rfl fun _ F => Ar F rfl rfl (An rfl h0) (Cn rfl rfl) rfl rfl fun _ F => Ak F (Aa (Bh (Cb rfl h0) rfl) <| Aa (Am rfl) <| Ad) fun _ F => Aj <| Ab ?_
  obtain rfl := Ao H
  refine Bf ?_
  refine Ax (rs := [.tmp 2]) (vs := [.bool (decide (a0.At < 4096))]) F (by rfl) ⟨_, _, rfl, Ay rfl, rfl⟩ ⟨_, rfl, ⟨rfl, s1.drop⟩⟩
 replace H := Bc h0 H
 refine Ap F rfl rfl (An rfl h0) Ac rfl rfl fun _ F => Ap F rfl rfl (An rfl h0) Ac rfl rfl fun _ F => Ap F rfl rfl (An rfl h0) Ac rfl rfl fun _ F => Ak F (Aa (Bj (Cb rfl h0) rfl) <| Aa (Am rfl) <| Ad) fun _ F => Aj <| Ab ?_
 obtain rfl := Ao H
 refine Bf ?_
 refine Ax (rs := [.tmp 2]) (vs := [.bool false]) F (by rfl) ⟨_, _, rfl, Ay rfl, rfl⟩ ⟨_, rfl, ⟨rfl, s1.drop⟩⟩
-- proviso/flow.Next
theorem flow_Next_c {w : World} {a0 : S_api_Instr} {r : (List Int)}  (H : flow_Next a0 = some r) :
    Calls Try.prog 113 #[.agg ⟨[.int .i64 a0.At, .int .u8 (a0.Op.toNat : Int), .int .i64 a0.A, .int .i64 a0.B]⟩] w (Ret fun u_ w_ => ∃ u0 : Value, u_ = u0 ∧ SL w [] w_ [Sl (Ty.int .i64) u0 r]) := by
 have s0 : SL w [] w [] := SL.init0 w
 refine Bq Try.func113 rfl Try.ntmps113 (Ah rfl) (args := [.agg ⟨[.int .i64 a0.At, .int .u8 (a0.Op.toNat : Int), .int .i64 a0.A, .int .i64 a0.B]⟩]) fun q0 F0 => ?_
 unfold flow_Next at H
 refine Ai <| Al <| Cz F0 s0 rfl rfl rfl fun g9 w0 _ F s1 => Ak F (Aa (Am rfl) <| Ad) fun _ F => Aj <| Ab <| Ai <| Ai <| Al ?_
 obtain ⟨x0, h0, H⟩ := Aq H
 refine Ak F (Aa (Az Fx.fa90_1 rfl rfl) <| Aa (Ba Fx.nag5 rfl (s1.blk_cell (.head _) rfl)) <| Ad) fun _ F => Bi (args := [.tmp 5]) F Fx.fn53 rfl (code_Size_c (a0 := a0.Op)    h0) rfl fun v0 w1 _ h1 F => ?_
 obtain ⟨rfl, h2⟩ := h1
 have s2 := s1.add h2
 refine Ak F (Aa (Bw rfl rfl) <| Aa (Ae rfl) <| Ad) fun _ F => Bl (x0 == 0) (fun h3 => ?_) (fun h3 => ?_)
 ·replace H := Bb h3 H
  refine Ap F rfl rfl (An rfl h3) Ac rfl rfl fun _ F => Ap F rfl rfl (An rfl h3) Ac rfl rfl fun _ F => Ap F rfl rfl (An rfl h3) Ac rfl rfl fun _ F => Ak F (Aa (Bh (Cb rfl h3) rfl) <| Ad) fun _ F => Aj <| Ab <| Cy F rfl <| Ai <| Al <| Ak F (Aa (Am rfl) <| Ad) fun _ F => Aj <| Ab ?_
  obtain rfl := Ao H
  refine Bf <| Bg ?_
  refine Ax (rs := [.tmp 2]) (vs := [.slice none 0 0]) F (by rfl) ⟨_, _, rfl, Ay rfl, rfl⟩ ⟨_, rfl, ⟨(.slice none 0 0), rfl, (SL.nilSl (T := (Ty.int .i64)) s2).f1.drop⟩⟩
 replace H := Bc h3 H
 refine Ar F rfl rfl (An rfl h3) (Bn Fx.agg90 rfl (s2.blk_cells (.head _) (o := 0) (ds := [.int .i64 a0.At, .int .u8 (a0.Op.toNat : Int), .int .i64 a0.A, .int .i64 a0.B]) (fun j u hu => by rw [Nat.zero_add]; exact hu)) rfl) rfl rfl fun _ F => ?_
 obtain ⟨x1, h4, H⟩ := Aq H
 refine st_ungd F rfl (An rfl h3) <| Bi (args := [.tmp 9]) F Fx.fn122 rfl (flow_placed_c (a0 := (⟨a0.At, a0.Op, a0.A, a0.B⟩ : S_api_Instr))    h4) rfl fun v1 w2 _ h5 F => ?_
 obtain ⟨rfl, h6⟩ := h5
 have s3 := s2.add h6
 refine Ar F rfl rfl (An rfl h3) (Cx rfl) rfl rfl fun _ F => Ak F (Aa (Bj (Cb rfl h3) rfl) <| Ad) fun _ F => Aj <| Ab <| Bm F rfl (fun h7 => ?_) (fun h7 => ?_)
 ·replace H := Bb h7 H
  refine Ai <| Al <| Ak F (Aa (Am rfl) <| Ad) fun _ F => Aj <| Ab ?_
  obtain rfl := Ao H
  refine Bf <| Bg ?_
  refine Ax (rs := [.tmp 2]) (vs := [.slice none 0 0]) F (by rfl) ⟨_, _, rfl, Ay rfl, rfl⟩ ⟨_, rfl, ⟨(.slice none 0 0), rfl, (SL.nilSl (T := (Ty.int .i64)) s3).f1.drop⟩⟩
 replace H := Bc h7 H
 refine Aw <| Ab <| Ai <| Al <| st_mkmap (Value.int .i64) (Value.int .i64) F s3 rfl fun g0 w3 _ F s4 => Ak F (Aa (Am rfl) <| Ad) fun _ F => Aj <| Ab <| Ai <| Ai <| Al ?_
 obtain ⟨x2, h8, H⟩ := Aq H
 refine Ak F (Aa (Az Fx.fa90_1 rfl rfl) <| Aa (Ba Fx.nag5 rfl (s4.blk_cell (.tail _ <| .head _) rfl)) <| Ad) fun _ F => Bi (args := [.tmp 15]) F Fx.fn56 rfl (code_Ends_c (a0 := a0.Op)    h8) rfl fun v2 w4 _ h9 F => ?_
 obtain ⟨rfl, ha⟩ := h9
 have s5 := s4.add ha
 refine Ak F (Aa (Cx rfl) <| Ad) fun _ F => Aj <| Ab <| Bm F rfl (fun hb => ?_) (fun hb => ?_)
 ·replace H := Bb hb H
  obtain ⟨x3, hc, H⟩ := Aq H
  refine wp_regh Fx.mixed (fun w_ => SL w [] w_ [Blk g9 90 [.int .i64 a0.At, .int .u8 (a0.Op.toNat : Int), .int .i64 a0.A, .int .i64 a0.B]]) ?_
  have s6 := s5.drew
  have s7 : SL w [] _ [Blk g9 90 [.int .i64 a0.At, .int .u8 (a0.Op.toNat : Int), .int .i64 a0.A, .int .i64 a0.B]] := s6.drop
  refine Bv (i := 0) rfl (by kernel_rfl) (by kernel_rfl) (by kernel_rfl) (fun _ hC => Ae rfl) rfl rfl rfl F s7 fun _ F => ?_
  refine Bv (i := 1) rfl (by kernel_rfl) (by kernel_rfl) (by kernel_rfl) (fun _ hC => Az Fx.fa90_0 rfl rfl) rfl rfl rfl F s7 fun _ F => ?_
  refine Bv (i := 2) rfl (by kernel_rfl) (by kernel_rfl) (by kernel_rfl) (fun _ hC => Ba Fx.nag3 rfl (hC.blk_cell (.head _) rfl)) rfl rfl rfl F s7 fun _ F => ?_
  refine Bv (i := 3) rfl (by kernel_rfl) (by kernel_rfl) (by kernel_rfl) (fun _ hC => Az Fx.fa90_1 rfl rfl) rfl rfl rfl F s7 fun _ F => ?_
  refine Bv (i := 4) rfl (by kernel_rfl) (by kernel_rfl) (by kernel_rfl) (fun _ hC => Ba Fx.nag5 rfl (hC.blk_cell (.head _) rfl)) rfl rfl rfl F s7 fun _ F => ?_
  refine Bk (i := 5) rfl (by kernel_rfl) ?_
  refine Bi (args := [.tmp 22]) F Fx.fn53 rfl (code_Size_c (a0 := a0.Op)    hc) rfl fun v3 w5 _ hd F => ?_
  obtain ⟨rfl, he⟩ := hd
  have s8 := s6.add he
  have s9 : SL w [] _ [Blk g9 90 [.int .i64 a0.At, .int .u8 (a0.Op.toNat : Int), .int .i64 a0.A, .int .i64 a0.B]] := s8.drop
  refine Av ⟨s9, ?_⟩
  refine Bk (i := 6) rfl (by kernel_rfl) ?_
  refine Bt F (Bp rfl rfl) rfl rfl rfl fun _ F => ?_
  have sa : SL w [] _ [Blk g9 90 [.int .i64 a0.At, .int .u8 (a0.Op.toNat : Int), .int .i64 a0.A, .int .i64 a0.B]] := s8.drop
  refine Av ⟨sa, ?_⟩
  refine Bk (i := 7) rfl (by kernel_rfl) ?_
  refine st_mapset (k := wr (a0.At + x3)) (u := 1) F s8 Try.underlying109 Fx.key3 rfl rfl rfl fun w6 _ F sb => ?_
  have sc : SL w [] _ [Blk g9 90 [.int .i64 a0.At, .int .u8 (a0.Op.toNat : Int), .int .i64 a0.A, .int .i64 a0.B]] := sb.drop
  refine Av ⟨sc, ?_⟩
  refine Cg (by kernel_rfl) ?_
  refine Ab <| Ai <| Ai <| Al ?_
  obtain ⟨x4, hf, H⟩ := Aq H
  refine Ak F (Aa (Az Fx.fa90_1 rfl rfl) <| Aa (Ba Fx.nag5 rfl (sb.blk_cell (.tail _ <| .head _) rfl)) <| Ad) fun _ F => Bi (args := [.tmp 26]) F Fx.fn55 rfl (code_Jumps_c (a0 := a0.Op)    hf) rfl fun v4 w7 _ hg F => ?_
  obtain ⟨rfl, hh⟩ := hg
  have sd := sb.add hh
  refine Aj <| Ab <| Bm F rfl (fun hi => ?_) (fun hi => ?_)
  ·replace H := Bb hi H
   refine Al <| Ak F (Aa (Ae rfl) <| Aa (Az Fx.fa90_2 rfl rfl) <| Aa (Ba Fx.nag3 rfl (sd.blk_cell (.tail _ <| .head _) rfl)) <| Ad) fun _ F => st_mapset (k := a0.A) (u := 1) F sd Try.underlying109 Fx.key3 rfl rfl rfl fun w8 _ F se => Aj <| Ab <| Ai <| Al ?_
   obtain ⟨x5, hj, H⟩ := Aq H
   refine Ak F (Aa (Ae rfl) <| Ad) fun _ F => ?_
   have sf := se
   obtain ⟨G0, hk, hl, hm, hn⟩ := SL.open_ (ps := [Mp (Value.int .i64) (Value.int .i64) g0 (mset (mset ([] : List (Int × Int)) (wr (a0.At + x3)) 1) a0.A 1)]) (rest := [Blk g9 90 [.int .i64 a0.At, .int .u8 (a0.Op.toNat : Int), .int .i64 a0.A, .int .i64 a0.B]]) sf
   refine Bi (args := [.tmp 31]) F Fx.fn114 rfl (flow_rising_int_c (a0 := (mset (mset ([] : List (Int × Int)) (wr (a0.At + x3)) 1) a0.A 1)) hk   hj) rfl fun v5 w9 _ ho F => ?_
   obtain ⟨_, rfl, hp⟩ := ho
   have sg := hn _ _ hp
   refine Ak F (Aa (Am rfl) <| Ad) fun _ F => Aj <| Ab ?_
   obtain rfl := Ao H
   refine Bf ?_
   refine Ax (rs := [.tmp 2]) (vs := [v5]) F (by rfl) ⟨_, _, rfl, Ay rfl, rfl⟩ ⟨_, rfl, ⟨v5, rfl, sg.drop.f1.drop⟩⟩
  replace H := Bc hi H
  refine Aw <| Ab <| Ai <| Al ?_
  obtain ⟨x6, hq, H⟩ := Aq H
  refine Ak F (Aa (Ae rfl) <| Ad) fun _ F => ?_
  have sh := sd
  obtain ⟨G1, hr, hs, ht, hv⟩ := SL.open_ (ps := [Mp (Value.int .i64) (Value.int .i64) g0 (mset ([] : List (Int × Int)) (wr (a0.At + x3)) 1)]) (rest := [Blk g9 90 [.int .i64 a0.At, .int .u8 (a0.Op.toNat : Int), .int .i64 a0.A, .int .i64 a0.B]]) sh
  refine Bi (args := [.tmp 31]) F Fx.fn114 rfl (flow_rising_int_c (a0 := (mset ([] : List (Int × Int)) (wr (a0.At + x3)) 1)) hr   hq) rfl fun v6 wa _ hw F => ?_
  obtain ⟨_, rfl, hx⟩ := hw
  have si := hv _ _ hx
  refine Ak F (Aa (Am rfl) <| Ad) fun _ F => Aj <| Ab ?_
  obtain rfl := Ao H
  refine Bf ?_
  refine Ax (rs := [.tmp 2]) (vs := [v6]) F (by rfl) ⟨_, _, rfl, Ay rfl, rfl⟩ ⟨_, rfl, ⟨v6, rfl, si.drop.f1.drop⟩⟩
 replace H := Bc hb H
 refine Aw <| Ab <| Ai <| Ai <| Al ?_
 obtain ⟨x7, hy, H⟩ := Aq H
 refine Ak F (Aa (Az Fx.fa90_1 rfl rfl) <| Aa (Ba Fx.nag5 rfl (s5.blk_cell (.tail _ <| .head _) rfl)) <| Ad) fun _ F => Bi (args := [.tmp 26]) F Fx.fn55 rfl (code_Jumps_c (a0 := a0.Op)    hy) rfl fun v7 wb _ hz F => ?_
 obtain ⟨rfl, h10⟩ := hz
 have sj := s5.add h10
 refine Aj <| Ab <| Bm F rfl (fun h11 => ?_) (fun h11 => ?_)
 ·replace H := Bb h11 H
  refine Al <| Ak F (Aa (Ae rfl) <| Aa (Az Fx.fa90_2 rfl rfl) <| Aa (Ba Fx.nag3 rfl (sj.blk_cell (.tail _ <| .head _) rfl)) <| Ad) fun _ F => st_mapset (k := a0.A) (u := 1) F sj Try.underlying109 Fx.key3 rfl rfl rfl fun wc _ F sk => Aj <| Ab <| Ai <| Al ?_
  obtain ⟨x8, h12, H⟩ := Aq H
  refine Ak F (Aa (Ae rfl) <| Ad) fun _ F => ?_
  have sl := sk
  obtain ⟨G2, h13, h14, h15, h16⟩ := SL.open_ (ps := [Mp (Value.int .i64) (Value.int .i64) g0 (mset ([] : List (Int × Int)) a0.A 1)]) (rest := [Blk g9 90 [.int .i64 a0.At, .int .u8 (a0.Op.toNat : Int), .int .i64 a0.A, .int .i64 a0.B]]) sl
  refine Bi (args := [.tmp 31]) F Fx.fn114 rfl (flow_rising_int_c (a0 := (mset ([] : List (Int × Int)) a0.A 1)) h13   h12) rfl fun v8 wd _ h17 F => ?_
  obtain ⟨_, rfl, h18⟩ := h17
  have sm := h16 _ _ h18
  refine Ak F (Aa (Am rfl) <| Ad) fun _ F => Aj <| Ab ?_
  obtain rfl := Ao H
  refine Bf ?_
  refine Ax (rs := [.tmp 2]) (vs := [v8]) F (by rfl) ⟨_, _, rfl, Ay rfl, rfl⟩ ⟨_, rfl, ⟨v8, rfl, sm.drop.f1.drop⟩⟩
 replace H := Bc h11 H
 refine Aw <| Ab <| Ai <| Al ?_
 obtain ⟨x9, h19, H⟩ := Aq H
 refine Ak F (Aa (Ae rfl) <| Ad) fun _ F => ?_
 have sn := sj
 obtain ⟨G3, h1a, h1b, h1c, h1d⟩ := SL.open_ (ps := [Mp (Value.int .i64) (Value.int .i64) g0 ([] : List (Int × Int))]) (rest := [Blk g9 90 [.int .i64 a0.At, .int .u8 (a0.Op.toNat : Int), .int .i64 a0.A, .int .i64 a0.B]]) sn
 refine Bi (args := [.tmp 31]) F Fx.fn114 rfl (flow_rising_int_c (a0 := ([] : List (Int × Int))) h1a   h19) rfl fun v9 we _ h1e F => ?_
 obtain ⟨_, rfl, h1f⟩ := h1e
 have so := h1d _ _ h1f
 refine Ak F (Aa (Am rfl) <| Ad) fun _ F => Aj <| Ab ?_
 obtain rfl := Ao H
 refine Bf ?_
 refine Ax (rs := [.tmp 2]) (vs := [v9]) F (by rfl) ⟨_, _, rfl, Ay rfl, rfl⟩ ⟨_, rfl, ⟨v9, rfl, so.drop.f1.drop⟩⟩
-- proviso/flow.Reach
theorem flow_Reach_c {w : World} {v0 : Value} {a0 : List S_api_Instr} {a1 : Int} {r : (List Int)} (hr0 : Rd T_api_Instr w [] v0 a0) (H : flow_Reach a0 a1 = some r) :
    Calls Try.prog 94 #[v0, .int .i64 a1] w (Ret fun u_ w_ => ∃ u0 : Value, u_ = u0 ∧ SL w [] w_ [Sl (Ty.int .i64) u0 r]) := by
 have s0 : SL w [] w [] := SL.init0 w
 refine Bq Try.func94 rfl Try.ntmps94 (Ah rfl) (args := [v0, .int .i64 a1]) fun q0 F0 => ?_
 unfold flow_Reach at H
 refine Ai <| Al <| Ak F0 (Aa (Am rfl) <| Ad) fun q3 F4 => Aj <| Ab <| Ai <| Al ?_
 obtain ⟨x0, h0, H⟩ := Aq H
 refine Ak F4 (Aa (Ae rfl) <| Ad) fun _ F => Bi (args := [.tmp 11]) F Fx.fn54 rfl (flow_addresses_c (a0 := a0)   (hr0.pass0 s0) h0) rfl fun v1 w0 _ h1 F => ?_
 obtain ⟨g0, rfl, h2⟩ := h1
 have s1 := s0.add h2
 refine Ak F (Aa (Am rfl) <| Ad) fun _ F => Aj <| Ab <| Ai <| Al <| st_mkmap (Value.int .i64) (Value.int .i64) F s1 rfl fun g1 w1 _ F s2 => Ak F (Aa (Am rfl) <| Ad) fun _ F => Aj <| Ab <| Ai <| Al <| Ak F (Aa (Ae rfl) <| Ad) fun _ F => ?_
 refine Cm (parts := [(0, .tmp 14)]) (Flat.int .i64) ([a1] : List Int) F s2 Fx.sl57 rfl (by decide) rfl rfl rfl (by simp [Value.cells]) rfl rfl rfl fun v2 w2 _ F s3 => ?_
 refine Ak F (Aa (Am rfl) <| Ad) fun _ F => Aj <| Ab <| Ai ?_
 obtain ⟨o0, H0, R0⟩ := Aq H
 clear H
 refine Bx (fun a w_ => Fr a 55 [(6, .map (some g1))] ∧ SL w [] w_ [Mp (Value.int .i64) (Value.int .i64) g1 o0]) ?_ ?_
 ·have H := H0
  refine Be <| Cq (flow_Reach_b0 a0 x0) (fun s4 a w_ => ∃ v3 : Value, Fr a 55 [(0, v0), (5, .map (some g0)), (6, .map (some g1)), (7, v3)] ∧ SL w [] w_ [Mp (Value.int .i64) (Value.int .i64) g1 s4.1, Mp (Value.int .i64) (Value.int .i64) g0 x0, Sl (Ty.int .i64) v3 s4.2]) H ?_ ?_
  ·exact ⟨v2, F.sub ⟨rfl, rfl, rfl, rfl, trivial⟩, s3.f2.f2⟩
  intro s4 _ w3 h3 o1 H hr
  obtain ⟨v3, F, s5⟩ := h3
  replace H : flow_Reach_b0 a0 x0 s4 = some o1 := H
  unfold flow_Reach_b0 at H
  refine Ai <| Ai <| Al <| Ak F (Aa (Ae rfl) <| Aa (Cd rfl Try.underlying57 (Cc (s5.own_rd (.tail _ <| .tail _ <| .head _)))) <| Aa (ex_gt rfl rfl) <| Ad) fun _ F => Aj <| Ab <| Bm F rfl (fun h4 => ?_) (fun h4 => ?_)
  ·replace H := Bb h4 H
   refine Aw <| Ab <| Be <| Ai <| Al ?_
   obtain ⟨x1, h5, H⟩ := Aq H
   obtain ⟨a2, h6, h7⟩ := Cf (Flat.int .i64) s5 (.tail _ <| .tail _ <| .head _) Fx.sl57 rfl h5
   refine Ak F (Aa (Ae rfl) <| Aa (Ae rfl) <| Aa (Cd rfl Try.underlying57 (Cc (s5.own_rd (.tail _ <| .tail _ <| .head _)))) <| Aa (ex_sub rfl rfl) <| Aa (h6 _ _ _ _ _ _ _ _ _ _ rfl rfl) <| Aa (Ba Fx.nag3 rfl (Cells.at_ (SL.elcells (Flat.int .i64) s5 (.tail _ <| .tail _ <| .head _) h7 h5) (o := 0) rfl)) <| Aa (Am rfl) <| Ad) fun _ F => Aj <| Ab <| Ai <| Al ?_
   obtain ⟨x2, h8, H⟩ := Aq H
   refine Ak F (Aa (Ae rfl) <| Aa (Ae rfl) <| Aa (Cd rfl Try.underlying57 (Cc (s5.own_rd (.tail _ <| .tail _ <| .head _)))) <| Aa (ex_sub rfl rfl) <| Ad) fun _ F => ?_
   obtain ⟨v4, h9, s6⟩ := SL.cutown s5.f2 Fx.sl57 rfl h8 none (some (wr ((s4.2.length : Int) - 1))) (.inr ⟨rfl, rfl⟩) (.inl rfl)
   refine Bt F (h9 _ _ _ _ _ .i64 .i64 _ _ _ _ _ rfl trivial rfl) rfl rfl rfl fun _ F => Ak F (Aa (Am rfl) <| Ad) fun _ F => Aj <| Ab <| Ai <| Al <| Ak F (Aa (Ae rfl) <| Aa (Ae rfl) <| Aa (ex_lookup2 (k := x1) (z0 := (0 : Int)) s6 (.tail _ <| .tail _ <| .head _) Try.underlying109 Fx.key3 Fx.mz3 rfl rfl) <| Aa (Ae rfl) <| Aa (As (v := .int .i64 ((mget x0 x1).getD (0 : Int))) rfl rfl) <| Aa (As (v := .bool ((mget x0 x1).isSome)) rfl rfl) <| Aa (Am rfl) <| Aa (Am rfl) <| Ad) fun _ F => Aj <| Ab <| Ai <| Ai <| Al <| Ak F (Aa (Ae rfl) <| Aa (Cx rfl) <| Aa (Ae rfl) <| Ad) fun _ F => Bl (!((mget x0 x1).isSome)) (fun ha => ?_) (fun ha => ?_)
   ·replace H := Bb ha H
    refine Ap F rfl rfl (An rfl ha) Ac rfl rfl fun _ F => Ap F rfl rfl (An rfl ha) Ac rfl rfl fun _ F => Ap F rfl rfl (An rfl ha) Ac rfl rfl fun _ F => Ap F rfl rfl (An rfl ha) Ac rfl rfl fun _ F => Ak F (Aa (Bh (Cb rfl ha) rfl) <| Ad) fun _ F => Aj <| Ab <| Cy F rfl <| Bz <| Bo <| Ca ?_
    obtain rfl := Ao H
    refine Ab ?_
    exact ⟨_, rfl, v4, F.sub ⟨rfl, rfl, rfl, rfl, trivial⟩, s6.f2.f2⟩
   replace H := Bc ha H
   refine Ar F rfl rfl (An rfl ha) (Ae rfl) rfl rfl fun _ F => Ar F rfl rfl (An rfl ha) (Ae rfl) rfl rfl fun _ F => Ar F rfl rfl (An rfl ha) (ex_lookup (k := x1) (z0 := (0 : Int)) s6 (.tail _ <| .head _) Try.underlying109 Fx.key3 Fx.mz3 rfl rfl) rfl rfl fun _ F => Ar F rfl rfl (An rfl ha) (ex_gt rfl rfl) rfl rfl fun _ F => Ak F (Aa (Bj (Cb rfl ha) rfl) <| Ad) fun _ F => Aj <| Ab <| Bm F rfl (fun hb => ?_) (fun hb => ?_)
   ·replace H := Bb hb H
    refine Bz <| Bo <| Ca ?_
    obtain rfl := Ao H
    refine Ab ?_
    exact ⟨_, rfl, v4, F.sub ⟨rfl, rfl, rfl, rfl, trivial⟩, s6.f2.f2⟩
   replace H := Bc hb H
   refine Aw <| Ab <| Ai <| Al <| Ak F (Aa (Ae rfl) <| Aa (Ae rfl) <| Ad) fun _ F => st_mapset (k := x1) (u := 1) F s6.f1 Try.underlying109 Fx.key3 rfl rfl rfl fun w4 _ F s7 => Aj <| Ab <| Al ?_
   obtain ⟨x3, hc, H⟩ := Aq H
   obtain ⟨a3, hd, he⟩ := Dc F_api_Instr (Cu hr0 s7) Fx.sl67 rfl hc
   obtain ⟨x4, hf, H⟩ := Aq H
   refine Ak F (Aa (Ae rfl) <| Aa (Ae rfl) <| Aa (Ae rfl) <| Aa (hd _ _ _ _ _ _ _ _ _ _ rfl rfl) <| Aa (Bn Fx.agg90 rfl he rfl) <| Ad) fun _ F => Bi (args := [.tmp 50]) F Fx.fn113 rfl (flow_Next_c (a0 := x3)    hf) rfl fun v5 w5 _ hg F => ?_
   obtain ⟨_, rfl, hh⟩ := hg
   have s8 := s7.add hh
   obtain ⟨x5, hi, H⟩ := Aq H
   have s9 := s8.f2
   obtain ⟨_, hr_⟩ := (s9.own_rd (.tail _ <| .head _))
   refine Ch (Flat.int .i64) F s9 Fx.sl57 rfl rfl rfl rfl hr_ rfl rfl hi rfl fun v6 w6 _ F sa => ?_
   have s1801' := sa.f1.drop
   refine Ak F (Aa (Am rfl) <| Ad) fun _ F => Aj <| By ?_
   obtain rfl := Ao H
   refine Ab ?_
   exact ⟨_, rfl, v6, F.sub ⟨rfl, rfl, rfl, rfl, trivial⟩, s1801'.f2.f2⟩
  replace H := Bc h4 H
  refine Bz <| Bo <| Bo <| Ca ?_
  obtain rfl := Ao H
  obtain rfl := hr _ rfl
  refine Ab ?_
  exact ⟨F.sub ⟨rfl, trivial⟩, s5.f1.drop.f1.drop⟩
 intro _ w7 hJ
 obtain ⟨F, sb⟩ := hJ
 have H := R0
 clear R0 H0
 refine Ab <| Ai <| Al ?_
 obtain ⟨x6, hj, H⟩ := Aq H
 refine Ak F (Aa (Ae rfl) <| Ad) fun _ F => ?_
 have sc := sb
 obtain ⟨G0, hk, hl, hm, hn⟩ := SL.open_ (ps := [Mp (Value.int .i64) (Value.int .i64) g1 o0]) (rest := []) sc
 refine Bi (args := [.tmp 53]) F Fx.fn114 rfl (flow_rising_int_c (a0 := o0) hk   hj) rfl fun v7 w8 _ ho F => ?_
 obtain ⟨_, rfl, hp⟩ := ho
 have sd := hn _ _ hp
 refine Ak F (Aa (Am rfl) <| Ad) fun _ F => Aj <| Ab ?_
 obtain rfl := Ao H
 refine Bf ?_
 refine Ax (rs := [.tmp 4]) (vs := [v7]) F (by rfl) ⟨_, _, rfl, Ay rfl, rfl⟩ ⟨_, rfl, ⟨v7, rfl, sd.drop⟩⟩
-- proviso/opt.left
theorem opt_left_c {w : World} {v0 : Value} {a0 : List S_opt_item} {r : (List S_opt_item)} (hr0 : Rd T_opt_item w [] v0 a0) (H : opt_left a0 = some r) :
    Calls Try.prog 95 #[v0] w (Ret fun u_ w_ => ∃ u0 : Value, u_ = u0 ∧ SL w [] w_ [Sl T_opt_item u0 r]) := by
 have s0 : SL w [] w [] := SL.init0 w
 refine Bq Try.func95 rfl Try.ntmps95 (Ah rfl) (args := [v0]) fun q0 F0 => ?_
 unfold opt_left at H
 refine Ai <| Al <| Ak F0 (Aa (Am rfl) <| Ad) fun q3 F4 => Aj <| Ab <| Ai <| Al ?_
 obtain ⟨x0, h0, H⟩ := Aq H
 refine Ak F4 (Aa (Ae rfl) <| Aa (Cd rfl Try.underlying94 (Cc (Cu hr0 s0))) <| Aa (Bp rfl rfl) <| Ad) fun _ F => st_make (Flat.int .i64) (0 : Int) F s0 Fx.sl57 rfl rfl Fx.zero3 rfl rfl rfl h0 rfl fun v1 w0 _ F s1 => Ak F (Aa (Am rfl) <| Ad) fun _ F => Aj <| Ab <| Ai <| Al <| Ak F (Aa (Am rfl) <| Ad) fun _ F => Aj <| Ab <| Ai <| Ai <| Al <| Ak F (Aa (Ae rfl) <| Aa (Cd rfl Try.underlying94 (Cc (Cu hr0 s1))) <| Aa (Ae rfl) <| Ad) fun _ F => Aj <| Ab ?_
 obtain ⟨o0, H0, R0⟩ := Aq H
 clear H
 refine Bx (fun a w_ => ∃ v2 : Value, Fr a 56 [(0, v0), (3, v2), (4, .int .i64 o0.2)] ∧ SL w [] w_ [Sl (Ty.int .i64) v2 o0.1]) ?_ ?_
 ·have H := H0
  refine Be <| Cq (opt_left_b0 a0) (fun s2 a w_ => ∃ v3 : Value, Fr a 56 [(0, v0), (3, v3), (4, .int .i64 s2.2.1), (14, v0), (15, .int .i64 (a0.length : Int)), (16, .int .i64 s2.2.2)] ∧ SL w [] w_ [Sl (Ty.int .i64) v3 s2.1]) H ?_ ?_
  ·exact ⟨v1, F.sub ⟨rfl, rfl, rfl, rfl, rfl, rfl, trivial⟩, s1⟩
  intro s2 _ w1 h1 o1 H hr
  obtain ⟨v3, F, s3⟩ := h1
  replace H : opt_left_b0 a0 s2 = some o1 := H
  unfold opt_left_b0 at H
  refine Ai <| Al <| Ak F (Aa (Cn rfl rfl) <| Ad) fun _ F => Aj <| Ab <| Ai <| Bm F rfl (fun h2 => ?_) (fun h2 => ?_)
  ·replace H := Bb h2 H
   refine Aw <| Ab <| Ai <| Be <| Ai <| Al ?_
   obtain ⟨x1, h3, H⟩ := Aq H
   obtain ⟨a1, h4, h5⟩ := Dc F_opt_item (Cu hr0 s3) Fx.sl94 rfl h3
   refine Ak F (Aa (Ae rfl) <| Aa (h4 _ _ _ _ _ _ _ _ _ _ rfl rfl) <| Aa (Bn Fx.agg121 rfl h5 rfl) <| Ad) fun _ F => Bu F s3 Fx.zero121 rfl rfl fun g0 w2 _ F s4 => Ak F (Aa (Am rfl) <| Ad) fun _ F => ?_
   have s5 := s4
   refine Au F s5 rfl rfl Fx.sz121 (Af rfl (Af rfl (Af rfl (Af rfl (Af rfl (Af rfl Bd)))))) (Ah rfl) fun w3 _ F s6 => ?_
   replace s6 : SL w [] w3 [Blk g0 121 [.int .i64 x1.in_.At, .int .u8 (x1.in_.Op.toNat : Int), .int .i64 x1.in_.A, .int .i64 x1.in_.B, .int .i64 x1.to, .bool x1.gone], Sl (Ty.int .i64) v3 s2.1] := s6
   refine Aj <| Ab <| Ai <| Al ?_
   obtain ⟨x2, h6, H⟩ := Aq H
   obtain ⟨a2, h7, h8⟩ := Cf (Flat.int .i64) s6 (.tail _ <| .head _) Fx.sl57 rfl h6
   refine Ak F (Aa (Ae rfl) <| Aa (Ae rfl) <| Aa (Ae rfl) <| Aa (h7 _ _ _ _ _ _ _ _ _ _ rfl rfl) <| Ad) fun _ F => ?_
   refine Cr (y' := s2.2.1) (Flat.int .i64) F s6.f1 h8 h6 rfl rfl (by rfl) Fx.sz3 fun w4 _ F s7 => ?_
   refine Aj <| Ab <| Ai <| Al <| Ak F (Aa (Az Fx.fa121_2 rfl rfl) <| Aa (Ba Fx.nag4 rfl (s7.blk_cell (.tail _ <| .head _) rfl)) <| Aa (Cx rfl) <| Ad) fun _ F => Aj <| Ab <| Bm F rfl (fun h9 => ?_) (fun h9 => ?_)
   ·replace H := Bb h9 H
    refine Al <| Ak F (Aa (Ae rfl) <| Aa (Bp rfl rfl) <| Aa (Am rfl) <| Ad) fun _ F => Aj <| By <| Ab <| Al <| Ak F (Aa (Bp rfl rfl) <| Aa (Ae rfl) <| Ad) fun _ F => Aj ?_
    obtain rfl := Ao H
    refine Ab ?_
    exact ⟨_, rfl, v3, F.sub ⟨rfl, rfl, rfl, rfl, rfl, rfl, trivial⟩, s7.f1.drop⟩
   replace H := Bc h9 H
   refine Aw <| By <| Ab <| Al <| Ak F (Aa (Bp rfl rfl) <| Aa (Ae rfl) <| Ad) fun _ F => Aj ?_
   obtain rfl := Ao H
   refine Ab ?_
   exact ⟨_, rfl, v3, F.sub ⟨rfl, rfl, rfl, rfl, rfl, rfl, trivial⟩, s7.f1.drop⟩
  replace H := Bc h2 H
  refine Bz <| Bo <| Bo <| Ca ?_
  obtain rfl := Ao H
  obtain rfl := hr _ rfl
  refine Ab ?_
  exact ⟨v3, F.sub ⟨rfl, rfl, rfl, trivial⟩, s3⟩
 intro _ w5 hJ
 obtain ⟨v2, F, s8⟩ := hJ
 have H := R0
 clear R0 H0
 refine Ab <| Ai <| Al ?_
 obtain ⟨x3, ha, H⟩ := Aq H
 obtain ⟨a3, hb, hc⟩ := Cf (Flat.int .i64) s8 (.head _) Fx.sl57 rfl ha
 refine Ak F (Aa (Ae rfl) <| Aa (Ae rfl) <| Aa (Cd rfl Try.underlying94 (Cc (Cu hr0 s8))) <| Aa (Ae rfl) <| Aa (hb _ _ _ _ _ _ _ _ _ _ rfl rfl) <| Ad) fun _ F => ?_
 refine Cr (y' := o0.2) (Flat.int .i64) F s8 hc ha rfl rfl (by rfl) Fx.sz3 fun w6 _ F s9 => ?_
 refine Aj <| Ab <| Ai <| Al <| Ak F (Aa (Am rfl) <| Ad) fun _ F => Aj <| Ab <| Ai <| Ai <| Al <| Ak F (Aa (Ae rfl) <| Aa (Cd rfl Try.underlying94 (Cc (Cu hr0 s9))) <| Aa (Ae rfl) <| Ad) fun _ F => Aj <| Ab ?_
 obtain ⟨o2, H1, R1⟩ := Aq H
 clear H
 refine Bx (fun a w_ => ∃ v4 : Value, Fr a 56 [(7, v4)] ∧ SL w [] w_ [Sl T_opt_item v4 o2]) ?_ ?_
 ·have H := H1
  refine Be <| Cq (opt_left_b1 a0 o0) (fun sa a w_ => ∃ v5 : Value, Fr a 56 [(3, v2), (7, v5), (36, v0), (37, .int .i64 (a0.length : Int)), (38, .int .i64 sa.2)] ∧ SL w [] w_ [Sl (Ty.int .i64) v2 (o0.1.set (a0.length : Int).toNat o0.2), Sl T_opt_item v5 sa.1]) H ?_ ?_
  ·exact ⟨(.slice none 0 0), F.sub ⟨rfl, rfl, rfl, rfl, rfl, trivial⟩, (SL.nilSl (T := T_opt_item) s9).f1⟩
  intro sa _ w7 hd o3 H hr
  obtain ⟨v5, F, sb⟩ := hd
  replace H : opt_left_b1 a0 o0 sa = some o3 := H
  unfold opt_left_b1 at H
  refine Ai <| Al <| Ak F (Aa (Cn rfl rfl) <| Ad) fun _ F => Aj <| Ab <| Ai <| Bm F rfl (fun he => ?_) (fun he => ?_)
  ·replace H := Bb he H
   refine Aw <| Ab <| Ai <| Be <| Ai <| Al ?_
   obtain ⟨x4, hf, H⟩ := Aq H
   obtain ⟨a4, hg, hh⟩ := Dc F_opt_item (Cu hr0 sb) Fx.sl94 rfl hf
   refine Ak F (Aa (hg _ _ _ _ _ _ _ _ _ _ rfl rfl) <| Aa (Bn Fx.agg121 rfl hh rfl) <| Ad) fun _ F => Bu F sb Fx.zero121 rfl rfl fun g1 w8 _ F sc => ?_
   have sd := sc
   refine Au F sd rfl rfl Fx.sz121 (Af rfl (Af rfl (Af rfl (Af rfl (Af rfl (Af rfl Bd)))))) (Ah rfl) fun w9 _ F se => ?_
   replace se : SL w [] w9 [Blk g1 121 [.int .i64 x4.in_.At, .int .u8 (x4.in_.Op.toNat : Int), .int .i64 x4.in_.A, .int .i64 x4.in_.B, .int .i64 x4.to, .bool x4.gone], Sl (Ty.int .i64) v2 (o0.1.set (a0.length : Int).toNat o0.2), Sl T_opt_item v5 sa.1] := se
   refine Aj <| Ab <| Ai <| Ai <| Al <| Ak F (Aa (Az Fx.fa121_2 rfl rfl) <| Aa (Ba Fx.nag4 rfl (se.blk_cell (.head _) rfl)) <| Ad) fun _ F => Aj <| Ab <| Bm F rfl (fun hi => ?_) (fun hi => ?_)
   ·replace H := Bb hi H
    refine Bz <| Bo <| Ca <| Ab <| Al <| Ak F (Aa (Bp rfl rfl) <| Aa (Ae rfl) <| Ad) fun _ F => Aj ?_
    obtain rfl := Ao H
    refine Ab ?_
    exact ⟨_, rfl, v5, F.sub ⟨rfl, rfl, rfl, rfl, rfl, trivial⟩, se.drop⟩
   replace H := Bc hi H
   refine Aw <| Ab <| Ai <| Al ?_
   obtain ⟨x5, hj, H⟩ := Aq H
   obtain ⟨a5, hk, hl⟩ := Cf (Flat.int .i64) se (.tail _ <| .head _) Fx.sl57 rfl hj
   refine Ak F (Aa (Ae rfl) <| Aa (Az Fx.fa121_1 rfl rfl) <| Aa (Ba Fx.nag3 rfl (se.blk_cell (.head _) rfl)) <| Aa (hk _ _ _ _ _ _ _ _ _ _ rfl rfl) <| Aa (Ba Fx.nag3 rfl (Cells.at_ (SL.elcells (Flat.int .i64) se (.tail _ <| .head _) hl hj) (o := 0) rfl)) <| Aa (Az Fx.fa121_1 rfl rfl) <| Ad) fun _ F => ?_
   have sf := se
   refine Ct F sf rfl rfl Fx.sz3 rfl rfl rfl fun wa _ F sg => ?_
   replace sg : SL w [] wa [Blk g1 121 [.int .i64 x4.in_.At, .int .u8 (x4.in_.Op.toNat : Int), .int .i64 x4.in_.A, .int .i64 x4.in_.B, .int .i64 x5, .bool x4.gone], Sl (Ty.int .i64) v2 (o0.1.set (a0.length : Int).toNat o0.2), Sl T_opt_item v5 sa.1] := sg
   refine Aj <| Ab <| Al <| Ak F (Aa (Ae rfl) <| Aa (Bn Fx.agg121 rfl (sg.blk_cells (.head _) (o := 0) (ds := [.int .i64 x4.in_.At, .int .u8 (x4.in_.Op.toNat : Int), .int .i64 x4.in_.A, .int .i64 x4.in_.B, .int .i64 x5, .bool x4.gone]) (fun j u hu => by rw [Nat.zero_add]; exact hu)) rfl) <| Ad) fun _ F => ?_
   refine Cm (parts := [(0, .tmp 51)]) F_opt_item ([(⟨(⟨x4.in_.At, x4.in_.Op, x4.in_.A, x4.in_.B⟩ : S_api_Instr), x5, x4.gone⟩ : S_opt_item)] : List S_opt_item) F sg Fx.sl94 rfl (by decide) rfl rfl rfl (by simp [Value.cells]) rfl rfl rfl fun v6 wb _ F sh => ?_
   obtain ⟨x6, hm, H⟩ := Aq H
   have si := sh.f3
   obtain ⟨_, hr_⟩ := (si.own_rd (.tail _ <| .head _))
   refine Ch F_opt_item F si Fx.sl94 rfl rfl rfl rfl hr_ rfl rfl hm rfl fun v7 wc _ F sj => ?_
   have s8333' := sj.f1.drop
   refine Ak F (Aa (Am rfl) <| Ad) fun _ F => Aj <| By <| Ab <| Al <| Ak F (Aa (Bp rfl rfl) <| Aa (Ae rfl) <| Ad) fun _ F => Aj ?_
   obtain rfl := Ao H
   refine Ab ?_
   exact ⟨_, rfl, v7, F.sub ⟨rfl, rfl, rfl, rfl, rfl, trivial⟩, s8333'.f1.drop.f1⟩
  replace H := Bc he H
  refine Bz <| Bo <| Bo <| Ca ?_
  obtain rfl := Ao H
  obtain rfl := hr _ rfl
  refine Ab ?_
  exact ⟨v5, F.sub ⟨rfl, trivial⟩, sb.drop⟩
 intro _ wd hJ
 obtain ⟨v4, F, sk⟩ := hJ
 have H := R1
 clear R1 H1
 refine Ab <| Ai <| Al <| Ak F (Aa (Ae rfl) <| Aa (Am rfl) <| Ad) fun _ F => Aj <| Ab ?_
 obtain rfl := Ao H
 refine Bf ?_
 refine Ax (rs := [.tmp 2]) (vs := [v4]) F (by rfl) ⟨_, _, rfl, Ay rfl, rfl⟩ ⟨_, rfl, ⟨v4, rfl, sk⟩⟩
-- proviso/opt.dead
theorem opt_dead_c {w : World} {FF : List Nat} {v0 : Value} {a0 : List S_opt_item} {r : (List S_opt_item) × Bool} (hst : Star [Sl T_opt_item v0 a0] w FF)  (H : opt_dead a0 = some r) :
    Calls Try.prog 64 #[v0] w (Ret fun u_ w_ => ∃ u0 : Value, u_ = .tuple ⟨[u0, .bool r.2]⟩ ∧ SL w FF w_ [Sl T_opt_item u0 r.1]) := by
 have s0 : SL w FF w [Sl T_opt_item v0 a0] := SL.init w FF hst
 refine Bq Try.func64 rfl Try.ntmps64 (Ah rfl) (args := [v0]) fun q0 F0 => ?_
 unfold opt_dead at H
 refine Ai <| Al <| Ak F0 (Aa (Am rfl) <| Aa (Am rfl) <| Ad) fun q3 F4 => Aj <| Ab <| Ai <| Al ?_
 obtain ⟨x0, h0, H⟩ := Aq H
 refine Ak F4 (Aa (Ae rfl) <| Ad) fun _ F => Bi (args := [.tmp 10]) F Fx.fn46 rfl (opt_laid_c (a0 := a0)   (s0.rd0 (.head _)) h0) rfl fun v1 w0 _ h1 F => ?_
 obtain ⟨_, rfl, h2⟩ := h1
 have s1 := s0.add h2
 refine Ak F (Aa (Am rfl) <| Ad) fun _ F => Aj <| Ab <| Ai <| Al <| st_mkmap (Value.int .i64) (Value.int .i64) F s1 rfl fun g0 w1 _ F s2 => Ak F (Aa (Am rfl) <| Ad) fun _ F => Aj <| Ab <| Ai <| Ai <| Al ?_
 obtain ⟨x1, h3, H⟩ := Aq H
 refine Ak F (Aa (Ae rfl) <| Ad) fun _ F => Bi (args := [.tmp 13, .const (.int .i64 0)]) F Fx.fn94 rfl (flow_Reach_c (a0 := x0) (a1 := 0)   (s2.rd0 (.tail _ <| .head _)) h3) rfl fun v2 w2 _ h4 F => ?_
 obtain ⟨_, rfl, h5⟩ := h4
 have s3 := s2.add h5
 refine Ak F (Aa (Cd rfl Try.underlying57 (Cc (s3.own_rd (.head _)))) <| Aa (Ae rfl) <| Ad) fun _ F => Aj <| Ab ?_
 obtain ⟨o0, H0, R0⟩ := Aq H
 clear H
 refine Bx (fun a w_ => Fr a 52 [(0, v0), (4, v1), (5, .map (some g0))] ∧ SL w FF w_ [Mp (Value.int .i64) (Value.int .i64) g0 o0, Sl T_api_Instr v1 x0, Sl T_opt_item v0 a0]) ?_ ?_
 ·have H := H0
  refine Be <| Cq (opt_dead_b0 x1) (fun s4 a w_ => Fr a 52 [(0, v0), (4, v1), (5, .map (some g0)), (14, v2), (15, .int .i64 (x1.length : Int)), (16, .int .i64 s4.2)] ∧ SL w FF w_ [Sl (Ty.int .i64) v2 x1, Mp (Value.int .i64) (Value.int .i64) g0 s4.1, Sl T_api_Instr v1 x0, Sl T_opt_item v0 a0]) H ?_ ?_
  ·exact ⟨F.sub ⟨rfl, rfl, rfl, rfl, rfl, rfl, trivial⟩, s3⟩
  intro s4 _ w3 h6 o1 H hr
  obtain ⟨F, s5⟩ := h6
  replace H : opt_dead_b0 x1 s4 = some o1 := H
  unfold opt_dead_b0 at H
  refine Ai <| Al <| Ak F (Aa (Cn rfl rfl) <| Ad) fun _ F => Aj <| Ab <| Ai <| Bm F rfl (fun h7 => ?_) (fun h7 => ?_)
  ·replace H := Bb h7 H
   refine Aw <| Ab <| Ai <| Be <| Ai <| Al ?_
   obtain ⟨x2, h8, H⟩ := Aq H
   obtain ⟨a2, h9, ha⟩ := Cf (Flat.int .i64) s5 (.head _) Fx.sl57 rfl h8
   refine Ak F (Aa (h9 _ _ _ _ _ _ _ _ _ _ rfl rfl) <| Aa (Ba Fx.nag3 rfl (Cells.at_ (SL.elcells (Flat.int .i64) s5 (.head _) ha h8) (o := 0) rfl)) <| Aa (Am rfl) <| Ad) fun _ F => Aj <| Ab <| Al <| Ak F (Aa (Ae rfl) <| Aa (Ae rfl) <| Ad) fun _ F => st_mapset (k := x2) (u := 1) F s5.f1 Try.underlying109 Fx.key3 rfl rfl rfl fun w4 _ F s6 => Aj <| By <| Ab <| Al <| Ak F (Aa (Bp rfl rfl) <| Aa (Ae rfl) <| Ad) fun _ F => Aj ?_
   obtain rfl := Ao H
   refine Ab ?_
   exact ⟨_, rfl, F.sub ⟨rfl, rfl, rfl, rfl, rfl, rfl, trivial⟩, s6.f3.f3.f2.f3⟩
  replace H := Bc h7 H
  refine Bz <| Bo <| Bo <| Ca ?_
  obtain rfl := Ao H
  obtain rfl := hr _ rfl
  refine Ab ?_
  exact ⟨F.sub ⟨rfl, rfl, rfl, trivial⟩, s5.drop⟩
 intro _ w5 hJ
 obtain ⟨F, s7⟩ := hJ
 have H := R0
 clear R0 H0
 refine Ab <| Ai <| Al <| Ak F (Aa (Am rfl) <| Ad) fun _ F => Aj <| Ab <| Ai <| Ai <| Al <| Ak F (Aa (Ae rfl) <| Aa (Cd rfl Try.underlying94 (Cc (s7.own_rd (.tail _ <| .tail _ <| .head _)))) <| Aa (Ae rfl) <| Ad) fun _ F => Aj <| Ab ?_
 obtain ⟨o2, H1, R1⟩ := Aq H
 clear H
 refine Bx (fun a w_ => ∃ v3 : Value, Fr a 52 [(0, v3), (8, .bool o2.2)] ∧ SL w FF w_ [Sl T_opt_item v3 o2.1]) ?_ ?_
 ·have H := H1
  refine Be <| Cq (opt_dead_b1 a0 x0 o0) (fun s8 a w_ => ∃ v4 : Value, Fr a 52 [(0, v4), (4, v1), (5, .map (some g0)), (8, .bool s8.2.1), (24, .int .i64 (a0.length : Int)), (25, .int .i64 s8.2.2)] ∧ SL w FF w_ [Mp (Value.int .i64) (Value.int .i64) g0 o0, Sl T_api_Instr v1 x0, Sl T_opt_item v4 s8.1]) H ?_ ?_
  ·exact ⟨v0, F.sub ⟨rfl, rfl, rfl, rfl, rfl, rfl, trivial⟩, s7⟩
  intro s8 _ w6 hb o3 H hr
  obtain ⟨v4, F, s9⟩ := hb
  replace H : opt_dead_b1 a0 x0 o0 s8 = some o3 := H
  unfold opt_dead_b1 at H
  refine Ai <| Al <| Ak F (Aa (Cn rfl rfl) <| Ad) fun _ F => Aj <| Ab <| Ai <| Bm F rfl (fun hc => ?_) (fun hc => ?_)
  ·replace H := Bb hc H
   refine Aw <| Ab <| Ai <| Be <| Ai <| Al <| Ak F (Aa (Ae rfl) <| Aa (Am rfl) <| Ad) fun _ F => Aj <| Ab <| Ai <| Al ?_
   obtain ⟨x3, hd, H⟩ := Aq H
   obtain ⟨a3, he, hf⟩ := Cf F_api_Instr s9 (.tail _ <| .head _) Fx.sl67 rfl hd
   obtain ⟨x4, hg, H⟩ := Aq H
   obtain ⟨a4, hh, hi⟩ := Cf F_opt_item s9 (.tail _ <| .tail _ <| .head _) Fx.sl94 rfl hg
   refine Ak F (Aa (Ae rfl) <| Aa (Ae rfl) <| Aa (Ae rfl) <| Aa (Ae rfl) <| Aa (Ae rfl) <| Aa (he _ _ _ _ _ _ _ _ _ _ rfl rfl) <| Aa (Cw Fx.fa90_0 rfl) <| Aa (Ba Fx.nag3 rfl (Cells.at_ (SL.elcells F_api_Instr s9 (.tail _ <| .head _) hf hd) (o := 0) rfl)) <| Aa (ex_lookup (k := x3.At) (z0 := (0 : Int)) s9 (.head _) Try.underlying109 Fx.key3 Fx.mz3 rfl rfl) <| Aa (Bw rfl rfl) <| Aa (hh _ _ _ _ _ _ _ _ _ _ rfl rfl) <| Aa (Cw Fx.fa121_2 rfl) <| Ad) fun _ F => ?_
   refine Dg (y' := (⟨(⟨x4.in_.At, x4.in_.Op, x4.in_.A, x4.in_.B⟩ : S_api_Instr), x4.to, (((mget o0 x3.At).getD (0 : Int)) == 0)⟩ : S_opt_item)) (o := 5) (ds := [.bool (((mget o0 x3.At).getD (0 : Int)) == 0)]) F_opt_item F s9.f2 hi hg rfl rfl (by rfl) Fx.sz4 (by rfl) (Af rfl Bd) (by rfl) fun w7 _ F sa => ?_
   refine Aj <| Ab <| Al <| Ak F (Aa (Ae rfl) <| Aa (Ae rfl) <| Ad) fun _ F => Bl s8.2.1 (fun hj => ?_) (fun hj => ?_)
   ·replace H := Bb hj H
    refine Ap F rfl rfl (An rfl hj) Ac rfl rfl fun _ F => Ap F rfl rfl (An rfl hj) Ac rfl rfl fun _ F => Ap F rfl rfl (An rfl hj) Ac rfl rfl fun _ F => Ap F rfl rfl (An rfl hj) Ac rfl rfl fun _ F => Ap F rfl rfl (An rfl hj) Ac rfl rfl fun _ F => Ak F (Aa (Bh (Cb rfl hj) rfl) <| Aa (Am rfl) <| Ad) fun _ F => Aj <| By <| Ab <| Al <| Ak F (Aa (Bp rfl rfl) <| Aa (Ae rfl) <| Ad) fun _ F => Aj ?_
    obtain rfl := Ao H
    refine Ab ?_
    exact ⟨_, rfl, v4, F.sub ⟨rfl, rfl, rfl, rfl, rfl, rfl, trivial⟩, sa.f2.f2⟩
   replace H := Bc hj H
   refine Ar F rfl rfl (An rfl hj) (Ae rfl) rfl rfl fun _ F => Ar F rfl rfl (An rfl hj) (Ae rfl) rfl rfl fun _ F => ?_
   obtain ⟨x5, hk, H⟩ := Aq H
   obtain ⟨a5, hl, hm⟩ := Cf F_opt_item sa (.head _) Fx.sl94 rfl hk
   refine Ar F rfl rfl (An rfl hj) (hl _ _ _ _ _ _ _ _ _ _ rfl rfl) rfl rfl fun _ F => Ar F rfl rfl (An rfl hj) (Cw Fx.fa121_2 rfl) rfl rfl fun _ F => Ar F rfl rfl (An rfl hj) (Ba Fx.nag4 rfl (Cells.at_ (SL.elcells F_opt_item sa (.head _) hm hk) (o := 5) rfl)) rfl rfl fun _ F => Ak F (Aa (Bj (Cb rfl hj) rfl) <| Aa (Am rfl) <| Ad) fun _ F => Aj <| By <| Ab <| Al <| Ak F (Aa (Bp rfl rfl) <| Aa (Ae rfl) <| Ad) fun _ F => Aj ?_
   obtain rfl := Ao H
   refine Ab ?_
   exact ⟨_, rfl, v4, F.sub ⟨rfl, rfl, rfl, rfl, rfl, rfl, trivial⟩, sa.f2.f2⟩
  replace H := Bc hc H
  refine Bz <| Bo <| Bo <| Ca ?_
  obtain rfl := Ao H
  obtain rfl := hr _ rfl
  refine Ab ?_
  exact ⟨v4, F.sub ⟨rfl, rfl, trivial⟩, s9.drop.drop⟩
 intro _ w8 hJ
 obtain ⟨v3, F, sb⟩ := hJ
 have H := R1
 clear R1 H1
 refine Ab <| Ai <| Al ?_
 obtain ⟨x6, hn, H⟩ := Aq H
 refine Ak F (Aa (Ae rfl) <| Ad) fun _ F => Bi (args := [.tmp 49]) F Fx.fn95 rfl (opt_left_c (a0 := o2.1)   (sb.rd0 (.head _)) hn) rfl fun v5 w9 _ ho F => ?_
 obtain ⟨_, rfl, hp⟩ := ho
 have sc := sb.add hp
 refine Ak F (Aa (Ae rfl) <| Aa (Am rfl) <| Aa (Am rfl) <| Ad) fun _ F => Aj <| Ab ?_
 obtain rfl := Ao H
 refine Bf ?_
 refine Ax (rs := [.tmp 2, .tmp 3]) (vs := [v5, .bool o2.2]) F (by rfl) ⟨_, _, rfl, Ay rfl, _, _, rfl, Ay rfl, rfl⟩ ⟨_, rfl, ⟨v5, rfl, sc.f1.drop⟩⟩
-- proviso/opt.empty
theorem opt_empty_c {w : World} {FF : List Nat} {v0 : Value} {a0 : List S_opt_item} {r : (List S_opt_item) × Bool} (hst : Star [Sl T_opt_item v0 a0] w FF)  (H : opt_empty a0 = some r) :
    Calls Try.prog 65 #[v0] w (Ret fun u_ w_ => ∃ u0 : Value, u_ = .tuple ⟨[u0, .bool r.2]⟩ ∧ SL w FF w_ [Sl T_opt_item u0 r.1]) := by
 have s0 : SL w FF w [Sl T_opt_item v0 a0] := SL.init w FF hst
 refine Bq Try.func65 rfl Try.ntmps65 (Ah rfl) (args := [v0]) fun q0 F0 => ?_
 unfold opt_empty at H
 refine Ai <| Al <| Ak F0 (Aa (Am rfl) <| Aa (Am rfl) <| Ad) fun q3 F4 => Aj <| Ab <| Ai <| Al <| Ak F4 (Aa (Am rfl) <| Ad) fun q7 F8 => Aj <| Ab <| Ai <| Ai <| Al <| Ak F8 (Aa (Ae rfl) <| Aa (Cd rfl Try.underlying94 (Cc (s0.own_rd (.head _)))) <| Aa (Ae rfl) <| Ad) fun _ F => Aj <| Ab ?_
 obtain ⟨o0, H0, R0⟩ := Aq H
 clear H
 refine Bx (fun a w_ => ∃ v1 : Value, Fr a 60 [(0, v1), (4, .bool o0.2)] ∧ SL w FF w_ [Sl T_opt_item v1 o0.1]) ?_ ?_
 ·have H := H0
  refine Be <| Cq (opt_empty_b0 a0) (fun s1 a w_ => ∃ v2 : Value, Fr a 60 [(0, v2), (4, .bool s1.2.1), (9, .int .i64 (a0.length : Int)), (10, .int .i64 s1.2.2)] ∧ SL w FF w_ [Sl T_opt_item v2 s1.1]) H ?_ ?_
  ·exact ⟨v0, F.sub ⟨rfl, rfl, rfl, rfl, trivial⟩, s0⟩
  intro s1 _ w0 h0 o1 H hr
  obtain ⟨v2, F, s2⟩ := h0
  replace H : opt_empty_b0 a0 s1 = some o1 := H
  unfold opt_empty_b0 at H
  refine Ai <| Al <| Ak F (Aa (Cn rfl rfl) <| Ad) fun _ F => Aj <| Ab <| Ai <| Bm F rfl (fun h1 => ?_) (fun h1 => ?_)
  ·replace H := Bb h1 H
   refine Aw <| Ab <| Ai <| Be <| Ai <| Al <| Ak F (Aa (Ae rfl) <| Aa (Am rfl) <| Ad) fun _ F => Aj <| Ab <| Ai <| Al ?_
   obtain ⟨x0, h2, H⟩ := Aq H
   obtain ⟨a1, h3, h4⟩ := Cf F_opt_item s2 (.head _) Fx.sl94 rfl h2
   refine Ak F (Aa (Ae rfl) <| Aa (Ae rfl) <| Aa (h3 _ _ _ _ _ _ _ _ _ _ rfl rfl) <| Aa (Am rfl) <| Ad) fun _ F => Aj <| Ab <| Ai <| Al <| Ak F (Aa (Ae rfl) <| Aa (Cv rfl) <| Aa (Cw Fx.fa121_1 rfl) <| Aa (Ba Fx.nag3 rfl (Cells.at_ (SL.elcells F_opt_item s2 (.head _) h4 h2) (o := 4) rfl)) <| Aa (Ae rfl) <| Aa (Bp rfl rfl) <| Aa (Bw rfl rfl) <| Aa (Am rfl) <| Ad) fun _ F => Aj <| Ab <| Be <| Ai ?_
   obtain ⟨o2, H1, R1⟩ := Aq H
   clear H
   refine Bx (fun a w_ => Fr a 60 [(0, v2), (4, .bool s1.2.1), (6, .pointer (some a1)), (7, .bool (x0.to == (wr (s1.2.2 + 1)))), (9, .int .i64 (a0.length : Int)), (10, .int .i64 s1.2.2), (23, .bool o2)] ∧ SL w FF w_ [Sl T_opt_item v2 s1.1]) ?_ ?_
   ·have H := H1
    refine Ai <| Al <| Ak F (Aa (Ae rfl) <| Aa (Cv rfl) <| Aa (Cw Fx.fa121_0 rfl) <| Aa (ex_fae Fx.fa90_1 rfl rfl) <| Aa (Ba Fx.nag5 rfl (Cells.at_ (SL.elcells F_opt_item s2 (.head _) h4 h2) (o := 1) rfl)) <| Aa (Bw rfl rfl) <| Aa (Am rfl) <| Ad) fun _ F => Aj <| Ab <| Bm F rfl (fun h5 => ?_) (fun h5 => ?_)
    ·replace H := Bb h5 H
     refine Aw ?_
     obtain rfl := Ao H
     refine Ab ?_
     exact ⟨F.sub ⟨rfl, rfl, rfl, rfl, rfl, rfl, rfl, trivial⟩, s2⟩
    replace H := Bc h5 H
    refine Al <| Ak F (Aa (Ae rfl) <| Aa (Cv rfl) <| Aa (Cw Fx.fa121_0 rfl) <| Aa (ex_fae Fx.fa90_1 rfl rfl) <| Aa (Ba Fx.nag5 rfl (Cells.at_ (SL.elcells F_opt_item s2 (.head _) h4 h2) (o := 1) rfl)) <| Aa (Bw rfl rfl) <| Aa (Ae rfl) <| Ad) fun _ F => Bl ((x0.in_.Op.toNat : Int) == 19) (fun h6 => ?_) (fun h6 => ?_)
    ·replace H := Bb h6 H
     refine Ar F rfl rfl (An rfl h6) (Ae rfl) rfl rfl fun _ F => Ak F (Aa (Bh (Cb rfl h6) rfl) <| Aa (Am rfl) <| Ad) fun _ F => Aj ?_
     obtain rfl := Ao H
     refine Ab ?_
     exact ⟨F.sub ⟨rfl, rfl, rfl, rfl, rfl, rfl, rfl, trivial⟩, s2⟩
    replace H := Bc h6 H
    refine Ap F rfl rfl (An rfl h6) Ac rfl rfl fun _ F => Ak F (Aa (Bj (Cb rfl h6) rfl) <| Aa (Am rfl) <| Ad) fun _ F => Aj ?_
    obtain rfl := Ao H
    refine Ab ?_
    exact ⟨F.sub ⟨rfl, rfl, rfl, rfl, rfl, rfl, rfl, trivial⟩, s2⟩
   intro _ w1 hJ
   obtain ⟨F, s3⟩ := hJ
   have H := R1
   clear R1 H1
   refine Ab <| Bm F rfl (fun h7 => ?_) (fun h7 => ?_)
   ·replace H := Bb h7 H
    refine Al ?_
    obtain ⟨x1, h8, H⟩ := Aq H
    refine Ak F (Aa (Ae rfl) <| Aa (Cv rfl) <| Aa (Cw Fx.fa121_2 rfl) <| Ad) fun _ F => ?_
    refine Dg (y' := (⟨(⟨x1.in_.At, x1.in_.Op, x1.in_.A, x1.in_.B⟩ : S_api_Instr), x1.to, true⟩ : S_opt_item)) (o := 5) (ds := [.bool true]) F_opt_item F s3 h4 h8 rfl rfl (by rfl) Fx.sz4 (by rfl) (Af rfl Bd) (by rfl) fun w2 _ F s4 => ?_
    refine Ak F (Aa (Am rfl) <| Ad) fun _ F => Aj <| By <| By <| Ab <| Al <| Ak F (Aa (Bp rfl rfl) <| Aa (Ae rfl) <| Ad) fun _ F => Aj ?_
    obtain rfl := Ao H
    refine Ab ?_
    exact ⟨_, rfl, v2, F.sub ⟨rfl, rfl, rfl, rfl, trivial⟩, s4⟩
   replace H := Bc h7 H
   refine Ai <| Al ?_
   obtain ⟨x2, h9, H⟩ := Aq H
   refine Ak F (Aa (Ae rfl) <| Aa (Cv rfl) <| Aa (Cw Fx.fa121_0 rfl) <| Aa (ex_fae Fx.fa90_1 rfl rfl) <| Aa (Ba Fx.nag5 rfl (Cells.at_ (SL.elcells F_opt_item s3 (.head _) h4 h9) (o := 1) rfl)) <| Aa (Bw rfl rfl) <| Aa (Ae rfl) <| Ad) fun _ F => Bl ((x2.in_.Op.toNat : Int) == 20) (fun ha => ?_) (fun ha => ?_)
   ·replace H := Bb ha H
    refine Ar F rfl rfl (An rfl ha) (Ae rfl) rfl rfl fun _ F => Ak F (Aa (Bh (Cb rfl ha) rfl) <| Aa (Am rfl) <| Ad) fun _ F => Aj <| Ab <| Bm F rfl (fun hb => ?_) (fun hb => ?_)
    ·replace H := Bb hb H
     refine Ai <| Al ?_
     obtain ⟨x3, hc, H⟩ := Aq H
     refine Ak F (Aa (Ae rfl) <| Aa (Co (vs := [.int .u8 6]) Fx.zero90 Fx.pl90 rfl (cs := [.int .i64 0, .int .u8 6, .int .i64 0, .int .i64 0]) (rfl)) <| Aa (Co (vs := [.agg ⟨[.int .i64 0, .int .u8 6, .int .i64 0, .int .i64 0]⟩]) Fx.zero121 Fx.pl121 rfl (cs := [.int .i64 0, .int .u8 6, .int .i64 0, .int .i64 0, .int .i64 0, .bool false]) (rfl)) <| Aa (Cv rfl) <| Ad) fun _ F => ?_
     refine Cr (y' := (⟨(⟨0, 6, 0, 0⟩ : S_api_Instr), 0, false⟩ : S_opt_item)) F_opt_item F s3 h4 hc rfl rfl (by rfl) Fx.sz121 fun w3 _ F s5 => ?_
     refine Aj <| Ab <| Al <| Ak F (Aa (Am rfl) <| Ad) fun _ F => Aj <| By <| By <| Ab <| Al <| Ak F (Aa (Bp rfl rfl) <| Aa (Ae rfl) <| Ad) fun _ F => Aj ?_
     obtain rfl := Ao H
     refine Ab ?_
     exact ⟨_, rfl, v2, F.sub ⟨rfl, rfl, rfl, rfl, trivial⟩, s5⟩
    replace H := Bc hb H
    refine Aw <| By <| By <| Ab <| Al <| Ak F (Aa (Bp rfl rfl) <| Aa (Ae rfl) <| Ad) fun _ F => Aj ?_
    obtain rfl := Ao H
    refine Ab ?_
    exact ⟨_, rfl, v2, F.sub ⟨rfl, rfl, rfl, rfl, trivial⟩, s3⟩
   replace H := Bc ha H
   refine Ap F rfl rfl (An rfl ha) Ac rfl rfl fun _ F => Ak F (Aa (Bj (Cb rfl ha) rfl) <| Aa (Am rfl) <| Ad) fun _ F => Aj <| Ab <| Cl F rfl <| Aw <| By <| By <| Ab <| Al <| Ak F (Aa (Bp rfl rfl) <| Aa (Ae rfl) <| Ad) fun _ F => Aj ?_
   obtain rfl := Ao H
   refine Ab ?_
   exact ⟨_, rfl, v2, F.sub ⟨rfl, rfl, rfl, rfl, trivial⟩, s3⟩
  replace H := Bc h1 H
  refine Bz <| Bo <| Bo <| Ca ?_
  obtain rfl := Ao H
  obtain rfl := hr _ rfl
  refine Ab ?_
  exact ⟨v2, F.sub ⟨rfl, rfl, trivial⟩, s2⟩
 intro _ w4 hJ
 obtain ⟨v1, F, s6⟩ := hJ
 have H := R0
 clear R0 H0
 refine Ab <| Ai <| Al ?_
 obtain ⟨x4, hd, H⟩ := Aq H
 refine Ak F (Aa (Ae rfl) <| Ad) fun _ F => Bi (args := [.tmp 57]) F Fx.fn95 rfl (opt_left_c (a0 := o0.1)   (s6.rd0 (.head _)) hd) rfl fun v3 w5 _ he F => ?_
 obtain ⟨_, rfl, hf⟩ := he
 have s7 := s6.add hf
 refine Ak F (Aa (Ae rfl) <| Aa (Am rfl) <| Aa (Am rfl) <| Ad) fun _ F => Aj <| Ab ?_
 obtain rfl := Ao H
 refine Bf ?_
 refine Ax (rs := [.tmp 2, .tmp 3]) (vs := [v3, .bool o0.2]) F (by rfl) ⟨_, _, rfl, Ay rfl, _, _, rfl, Ay rfl, rfl⟩ ⟨_, rfl, ⟨v3, rfl, s7.f1.drop⟩⟩
-- proviso/opt.led
theorem opt_led_c {w : World} {v0 : Value} {a0 : List S_opt_item} {r : (List Bool)} (hr0 : Rd T_opt_item w [] v0 a0) (H : opt_led a0 = some r) :
    Calls Try.prog 96 #[v0] w (Ret fun u_ w_ => ∃ u0 : Value, u_ = u0 ∧ SL w [] w_ [Sl Ty.bool u0 r]) := by
 have s0 : SL w [] w [] := SL.init0 w
 refine Bq Try.func96 rfl Try.ntmps96 (Ah rfl) (args := [v0]) fun q0 F0 => ?_
 unfold opt_led at H
 refine Ai <| Al <| Ak F0 (Aa (Am rfl) <| Ad) fun q3 F4 => Aj <| Ab <| Ai <| Al ?_
 obtain ⟨x0, h0, H⟩ := Aq H
 refine Ak F4 (Aa (Ae rfl) <| Aa (Cd rfl Try.underlying94 (Cc (Cu hr0 s0))) <| Ad) fun _ F => st_make Flat.bool false F s0 Fx.sl93 rfl rfl Fx.zero4 rfl rfl rfl h0 rfl fun v1 w0 _ F s1 => Ak F (Aa (Am rfl) <| Ad) fun _ F => Aj <| Ab <| Ai <| Ai <| Al <| Ak F (Aa (Ae rfl) <| Aa (Cd rfl Try.underlying94 (Cc (Cu hr0 s1))) <| Aa (Ae rfl) <| Ad) fun _ F => Aj <| Ab ?_
 obtain ⟨o0, H0, R0⟩ := Aq H
 clear H
 refine Bx (fun a w_ => ∃ v2 : Value, Fr a 25 [(3, v2)] ∧ SL w [] w_ [Sl Ty.bool v2 o0]) ?_ ?_
 ·have H := H0
  refine Be <| Cq (opt_led_b0 a0) (fun s2 a w_ => ∃ v3 : Value, Fr a 25 [(3, v3), (9, v0), (10, .int .i64 (a0.length : Int)), (11, .int .i64 s2.2)] ∧ SL w [] w_ [Sl Ty.bool v3 s2.1]) H ?_ ?_
  ·exact ⟨v1, F.sub ⟨rfl, rfl, rfl, rfl, trivial⟩, s1⟩
  intro s2 _ w1 h1 o1 H hr
  obtain ⟨v3, F, s3⟩ := h1
  replace H : opt_led_b0 a0 s2 = some o1 := H
  unfold opt_led_b0 at H
  refine Ai <| Al <| Ak F (Aa (Cn rfl rfl) <| Ad) fun _ F => Aj <| Ab <| Ai <| Bm F rfl (fun h2 => ?_) (fun h2 => ?_)
  ·replace H := Bb h2 H
   refine Aw <| Ab <| Ai <| Be <| Ai <| Al ?_
   obtain ⟨x1, h3, H⟩ := Aq H
   obtain ⟨a1, h4, h5⟩ := Dc F_opt_item (Cu hr0 s3) Fx.sl94 rfl h3
   refine Ak F (Aa (h4 _ _ _ _ _ _ _ _ _ _ rfl rfl) <| Aa (Bn Fx.agg121 rfl h5 rfl) <| Ad) fun _ F => Bu F s3 Fx.zero121 rfl rfl fun g0 w2 _ F s4 => ?_
   have s5 := s4
   refine Au F s5 rfl rfl Fx.sz121 (Af rfl (Af rfl (Af rfl (Af rfl (Af rfl (Af rfl Bd)))))) (Ah rfl) fun w3 _ F s6 => ?_
   replace s6 : SL w [] w3 [Blk g0 121 [.int .i64 x1.in_.At, .int .u8 (x1.in_.Op.toNat : Int), .int .i64 x1.in_.A, .int .i64 x1.in_.B, .int .i64 x1.to, .bool x1.gone], Sl Ty.bool v3 s2.1] := s6
   refine Aj <| Ab <| Ai <| Al ?_
   obtain ⟨x2, h6, H⟩ := Aq H
   refine Ak F (Aa (Az Fx.fa121_0 rfl rfl) <| Aa (Az Fx.fa90_1 rfl rfl) <| Aa (Ba Fx.nag5 rfl (s6.blk_cell (.head _) rfl)) <| Ad) fun _ F => Bi (args := [.tmp 17]) F Fx.fn55 rfl (code_Jumps_c (a0 := x1.in_.Op)    h6) rfl fun v4 w4 _ h7 F => ?_
   obtain ⟨rfl, h8⟩ := h7
   have s7 := s6.add h8
   refine Aj <| Ab <| Bm F rfl (fun h9 => ?_) (fun h9 => ?_)
   ·replace H := Bb h9 H
    refine Al ?_
    obtain ⟨x3, ha, H⟩ := Aq H
    obtain ⟨a2, hb, hc⟩ := Cf Flat.bool s7 (.tail _ <| .head _) Fx.sl93 rfl ha
    refine Ak F (Aa (Ae rfl) <| Aa (Az Fx.fa121_1 rfl rfl) <| Aa (Ba Fx.nag3 rfl (s7.blk_cell (.head _) rfl)) <| Aa (hb _ _ _ _ _ _ _ _ _ _ rfl rfl) <| Ad) fun _ F => ?_
    refine Cr (y' := true) Flat.bool F s7.f1 hc ha rfl rfl (by rfl) Fx.sz4 fun w5 _ F s8 => ?_
    refine Aj <| By <| Ab <| Al <| Ak F (Aa (Bp rfl rfl) <| Aa (Ae rfl) <| Ad) fun _ F => Aj ?_
    obtain rfl := Ao H
    refine Ab ?_
    exact ⟨_, rfl, v3, F.sub ⟨rfl, rfl, rfl, rfl, trivial⟩, s8.f1.drop⟩
   replace H := Bc h9 H
   refine Aw <| By <| Ab <| Al <| Ak F (Aa (Bp rfl rfl) <| Aa (Ae rfl) <| Ad) fun _ F => Aj ?_
   obtain rfl := Ao H
   refine Ab ?_
   exact ⟨_, rfl, v3, F.sub ⟨rfl, rfl, rfl, rfl, trivial⟩, s7.drop⟩
  replace H := Bc h2 H
  refine Bz <| Bo <| Bo <| Ca ?_
  obtain rfl := Ao H
  obtain rfl := hr _ rfl
  refine Ab ?_
  exact ⟨v3, F.sub ⟨rfl, trivial⟩, s3⟩
 intro _ w6 hJ
 obtain ⟨v2, F, s9⟩ := hJ
 have H := R0
 clear R0 H0
 refine Ab <| Ai <| Al <| Ak F (Aa (Ae rfl) <| Aa (Am rfl) <| Ad) fun _ F => Aj <| Ab ?_
 obtain rfl := Ao H
 refine Bf ?_
 refine Ax (rs := [.tmp 2]) (vs := [v2]) F (by rfl) ⟨_, _, rfl, Ay rfl, rfl⟩ ⟨_, rfl, ⟨v2, rfl, s9⟩⟩
-- proviso/opt.constants$1
theorem opt_constants_1_s2_c {w : World} {FF : List Nat} {g1 g2 : Nat} {v1_0 v2_0 : Value} {a0 : Int} {a1 : List S_opt_item} {a2 : List Bool} {r : Bool} (hst : Star [Blk g1 94 [v1_0], Sl T_opt_item v1_0 a1, Blk g2 93 [v2_0], Sl Ty.bool v2_0 a2] w FF)  (H : opt_constants_1_s2 a0 a1 a2 = some r) :
    Calls Try.prog 97 #[.int .i64 a0, .pointer (some ⟨g1, 0, none⟩), .pointer (some ⟨g2, 0, none⟩)] w (Ret fun u_ w_ => u_ = .bool r ∧ SL w FF w_ [Blk g1 94 [v1_0], Sl T_opt_item v1_0 a1, Blk g2 93 [v2_0], Sl Ty.bool v2_0 a2]) := by
 have s0 : SL w FF w [Blk g1 94 [v1_0], Sl T_opt_item v1_0 a1, Blk g2 93 [v2_0], Sl Ty.bool v2_0 a2] := SL.init w FF hst
 refine Bq Try.func97 rfl Try.ntmps97 (Ah rfl) (args := [.int .i64 a0, .pointer (some ⟨g1, 0, none⟩), .pointer (some ⟨g2, 0, none⟩)]) fun q0 F0 => ?_
 unfold opt_constants_1_s2 at H
 refine Ai <| Al <| Ak F0 (Aa (Am rfl) <| Ad) fun q3 F4 => Aj <| Ab <| Ai <| Al <| Ak F4 (Aa (Ae rfl) <| Aa (Ba Fx.nag94 rfl (s0.blk_cell (.head _) rfl)) <| Aa (Cd rfl Try.underlying94 (Cc (s0.own_rd (.tail _ <| .head _)))) <| Aa (Cn rfl rfl) <| Aa (Ae rfl) <| Ad) fun _ F => Bl (decide (a0 < (a1.length : Int))) (fun h0 => ?_) (fun h0 => ?_)
 ·replace H := Bb h0 H
  refine Ar F rfl rfl (An rfl h0) (Ba Fx.nag93 rfl (s0.blk_cell (.tail _ <| .tail _ <| .head _) rfl)) rfl rfl fun _ F => Ar F rfl rfl (An rfl h0) (Ae rfl) rfl rfl fun _ F => ?_
  obtain ⟨x0, h1, H⟩ := Aq H
  obtain ⟨a3, h2, h3⟩ := Cf Flat.bool s0 (.tail _ <| .tail _ <| .tail _ <| .head _) Fx.sl93 rfl h1
  refine Ar F rfl rfl (An rfl h0) (h2 _ _ _ _ _ _ _ _ _ _ rfl rfl) rfl rfl fun _ F => Ar F rfl rfl (An rfl h0) (Ba Fx.nag4 rfl (Cells.at_ (SL.elcells Flat.bool s0 (.tail _ <| .tail _ <| .tail _ <| .head _) h3 h1) (o := 0) rfl)) rfl rfl fun _ F => Ar F rfl rfl (An rfl h0) (Cx rfl) rfl rfl fun _ F => Ak F (Aa (Bh (Cb rfl h0) rfl) <| Aa (Am rfl) <| Ad) fun _ F => Aj <| Ab ?_
  obtain rfl := Ao H
  refine Bf ?_
  refine Ax (rs := [.tmp 4]) (vs := [.bool (!x0)]) F (by rfl) ⟨_, _, rfl, Ay rfl, rfl⟩ ⟨_, rfl, ⟨rfl, s0⟩⟩
 replace H := Bc h0 H
 refine Ap F rfl rfl (An rfl h0) Ac rfl rfl fun _ F => Ap F rfl rfl (An rfl h0) Ac rfl rfl fun _ F => Ap F rfl rfl (An rfl h0) Ac rfl rfl fun _ F => Ap F rfl rfl (An rfl h0) Ac rfl rfl fun _ F => Ap F rfl rfl (An rfl h0) Ac rfl rfl fun _ F => Ak F (Aa (Bj (Cb rfl h0) rfl) <| Aa (Am rfl) <| Ad) fun _ F => Aj <| Ab ?_
 obtain rfl := Ao H
 refine Bf ?_
 refine Ax (rs := [.tmp 4]) (vs := [.bool false]) F (by rfl) ⟨_, _, rfl, Ay rfl, rfl⟩ ⟨_, rfl, ⟨rfl, s0⟩⟩
-- proviso/opt.number
theorem opt_number_c {w : World} {a0 : Int} {r : S_opt_item}  (H : opt_number a0 = some r) :
    Calls Try.prog 115 #[.int .i64 a0] w (Ret fun u_ w_ => u_ = .agg ⟨[.int .i64 r.in_.At, .int .u8 (r.in_.Op.toNat : Int), .int .i64 r.in_.A, .int .i64 r.in_.B, .int .i64 r.to, .bool r.gone]⟩ ∧ SL w [] w_ []) := by
 have s0 : SL w [] w [] := SL.init0 w
 refine Bq Try.func115 rfl Try.ntmps115 (Ah rfl) (args := [.int .i64 a0]) fun q0 F0 => ?_
 unfold opt_number at H
 refine Ai <| Al <| Bu F0 s0 Fx.zero121 rfl rfl fun g7 w8 q9 F s1 => Aj <| Ab <| Ai <| Al <| Ak F (Aa (Ae rfl) <| Aa (ex_conv rfl Try.underlying3 Try.underlying21) <| Aa (ex_conv rfl Try.underlying21 Try.underlying3) <| Aa (Co (vs := [.int .u8 1, .int .i64 (wr (IntKind.i32.wrap a0))]) Fx.zero90 Fx.pl90 rfl (cs := [.int .i64 0, .int .u8 1, .int .i64 (wr (IntKind.i32.wrap a0)), .int .i64 0]) (rfl)) <| Aa (Co (vs := [.agg ⟨[.int .i64 0, .int .u8 1, .int .i64 (wr (IntKind.i32.wrap a0)), .int .i64 0]⟩]) Fx.zero121 Fx.pl121 rfl (cs := [.int .i64 0, .int .u8 1, .int .i64 (wr (IntKind.i32.wrap a0)), .int .i64 0, .int .i64 0, .bool false]) (rfl)) <| Ad) fun _ F => ?_
 have s2 := s1
 refine Au F s2 rfl rfl Fx.sz121 (Af rfl (Af rfl (Af rfl (Af rfl (Af rfl (Af rfl Bd)))))) (Ah rfl) fun w0 _ F s3 => ?_
 replace s3 : SL w [] w0 [Blk g7 121 [.int .i64 0, .int .u8 1, .int .i64 (wr (IntKind.i32.wrap a0)), .int .i64 0, .int .i64 0, .bool false]] := s3
 refine Aj <| Ab ?_
 obtain rfl := Ao H
 refine Bf ?_
 refine Ax (rs := [.cell 2 121]) (vs := [.agg ⟨[.int .i64 0, .int .u8 1, .int .i64 (wr (IntKind.i32.wrap a0)), .int .i64 0, .int .i64 0, .bool false]⟩]) F (by rfl) ⟨_, _, rfl, Ci s3 (.head _) rfl Fx.agg121 rfl, rfl⟩ ⟨_, rfl, ⟨rfl, s3.drop⟩⟩
-- proviso/opt.truth
theorem opt_truth_c {w : World} {a0 : Bool} {r : S_opt_item}  (H : opt_truth a0 = some r) :
    Calls Try.prog 116 #[.bool a0] w (Ret fun u_ w_ => u_ = .agg ⟨[.int .i64 r.in_.At, .int .u8 (r.in_.Op.toNat : Int), .int .i64 r.in_.A, .int .i64 r.in_.B, .int .i64 r.to, .bool r.gone]⟩ ∧ SL w [] w_ []) := by
 have s0 : SL w [] w [] := SL.init0 w
 refine Bq Try.func116 rfl Try.ntmps116 (Ah rfl) (args := [.bool a0]) fun q0 F0 => ?_
 unfold opt_truth at H
 refine Ai <| Al <| Bu F0 s0 Fx.zero121 rfl rfl fun g7 w8 q9 F s1 => Aj <| Ab <| Ai <| Al <| Ak F (Aa (Co (vs := [.int .u8 2]) Fx.zero90 Fx.pl90 rfl (cs := [.int .i64 0, .int .u8 2, .int .i64 0, .int .i64 0]) (rfl)) <| Aa (Co (vs := [.agg ⟨[.int .i64 0, .int .u8 2, .int .i64 0, .int .i64 0]⟩]) Fx.zero121 Fx.pl121 rfl (cs := [.int .i64 0, .int .u8 2, .int .i64 0, .int .i64 0, .int .i64 0, .bool false]) (rfl)) <| Ad) fun _ F => Bu F s1 Fx.zero121 rfl rfl fun g0 w0 _ F s2 => ?_
 have s3 := s2
 refine Au F s3 rfl rfl Fx.sz121 (Af rfl (Af rfl (Af rfl (Af rfl (Af rfl (Af rfl Bd)))))) (Ah rfl) fun w1 _ F s4 => ?_
 replace s4 : SL w [] w1 [Blk g0 121 [.int .i64 0, .int .u8 2, .int .i64 0, .int .i64 0, .int .i64 0, .bool false], Blk g7 121 [.int .i64 0, .int .u8 0, .int .i64 0, .int .i64 0, .int .i64 0, .bool false]] := s4
 refine Aj <| Ab <| Ai <| Ai <| Al <| Ak F (Aa (Ae rfl) <| Ad) fun _ F => Aj <| Ab <| Bm F rfl (fun h0 => ?_) (fun h0 => ?_)
 ·replace H := Bb h0 H
  refine Al <| Ak F (Aa (Az Fx.fa121_0 rfl rfl) <| Aa (Az Fx.fa90_2 rfl rfl) <| Ad) fun _ F => ?_
  have s5 := s4
  refine Ct F s5 rfl rfl Fx.sz3 rfl rfl rfl fun w2 _ F s6 => ?_
  replace s6 : SL w [] w2 [Blk g0 121 [.int .i64 0, .int .u8 2, .int .i64 1, .int .i64 0, .int .i64 0, .bool false], Blk g7 121 [.int .i64 0, .int .u8 0, .int .i64 0, .int .i64 0, .int .i64 0, .bool false]] := s6
  refine Aj <| Ab <| Ai <| Al <| Ak F (Aa (Bn Fx.agg121 rfl (s6.blk_cells (.head _) (o := 0) (ds := [.int .i64 0, .int .u8 2, .int .i64 1, .int .i64 0, .int .i64 0, .bool false]) (fun j u hu => by rw [Nat.zero_add]; exact hu)) rfl) <| Ad) fun _ F => ?_
  have s7 := s6.f1
  refine Au F s7 rfl rfl Fx.sz121 (Af rfl (Af rfl (Af rfl (Af rfl (Af rfl (Af rfl Bd)))))) (Ah rfl) fun w3 _ F s8 => ?_
  replace s8 : SL w [] w3 [Blk g7 121 [.int .i64 0, .int .u8 2, .int .i64 1, .int .i64 0, .int .i64 0, .bool false], Blk g0 121 [.int .i64 0, .int .u8 2, .int .i64 1, .int .i64 0, .int .i64 0, .bool false]] := s8
  refine Aj <| Ab ?_
  obtain rfl := Ao H
  refine Bf ?_
  refine Ax (rs := [.cell 2 121]) (vs := [.agg ⟨[.int .i64 0, .int .u8 2, .int .i64 1, .int .i64 0, .int .i64 0, .bool false]⟩]) F (by rfl) ⟨_, _, rfl, Ci s8 (.head _) rfl Fx.agg121 rfl, rfl⟩ ⟨_, rfl, ⟨rfl, s8.drop.drop⟩⟩
 replace H := Bc h0 H
 refine Aw <| Ab <| Ai <| Al <| Ak F (Aa (Bn Fx.agg121 rfl (s4.blk_cells (.head _) (o := 0) (ds := [.int .i64 0, .int .u8 2, .int .i64 0, .int .i64 0, .int .i64 0, .bool false]) (fun j u hu => by rw [Nat.zero_add]; exact hu)) rfl) <| Ad) fun _ F => ?_
 have s9 := s4.f1
 refine Au F s9 rfl rfl Fx.sz121 (Af rfl (Af rfl (Af rfl (Af rfl (Af rfl (Af rfl Bd)))))) (Ah rfl) fun w4 _ F sa => ?_
 replace sa : SL w [] w4 [Blk g7 121 [.int .i64 0, .int .u8 2, .int .i64 0, .int .i64 0, .int .i64 0, .bool false], Blk g0 121 [.int .i64 0, .int .u8 2, .int .i64 0, .int .i64 0, .int .i64 0, .bool false]] := sa
 refine Aj <| Ab ?_
 obtain rfl := Ao H
 refine Bf ?_
 refine Ax (rs := [.cell 2 121]) (vs := [.agg ⟨[.int .i64 0, .int .u8 2, .int .i64 0, .int .i64 0, .int .i64 0, .bool false]⟩]) F (by rfl) ⟨_, _, rfl, Ci sa (.head _) rfl Fx.agg121 rfl, rfl⟩ ⟨_, rfl, ⟨rfl, sa.drop.drop⟩⟩
-- proviso/opt.three
theorem opt_three_c {w : World} {a0 : S_api_Instr} {a1 : S_api_Instr} {a2 : S_api_Instr} {r : S_opt_item × Bool}  (H : opt_three a0 a1 a2 = some r) :
    Calls Try.prog 98 #[.agg ⟨[.int .i64 a0.At, .int .u8 (a0.Op.toNat : Int), .int .i64 a0.A, .int .i64 a0.B]⟩, .agg ⟨[.int .i64 a1.At, .int .u8 (a1.Op.toNat : Int), .int .i64 a1.A, .int .i64 a1.B]⟩, .agg ⟨[.int .i64 a2.At, .int .u8 (a2.Op.toNat : Int), .int .i64 a2.A, .int .i64 a2.B]⟩] w (Ret fun u_ w_ => u_ = .tuple ⟨[.agg ⟨[.int .i64 r.1.in_.At, .int .u8 (r.1.in_.Op.toNat : Int), .int .i64 r.1.in_.A, .int .i64 r.1.in_.B, .int .i64 r.1.to, .bool r.1.gone]⟩, .bool r.2]⟩ ∧ SL w [] w_ []) := by
 have s0 : SL w [] w [] := SL.init0 w
 refine Bq Try.func98 rfl Try.ntmps98 (Ah rfl) (args := [.agg ⟨[.int .i64 a0.At, .int .u8 (a0.Op.toNat : Int), .int .i64 a0.A, .int .i64 a0.B]⟩, .agg ⟨[.int .i64 a1.At, .int .u8 (a1.Op.toNat : Int), .int .i64 a1.A, .int .i64 a1.B]⟩, .agg ⟨[.int .i64 a2.At, .int .u8 (a2.Op.toNat : Int), .int .i64 a2.A, .int .i64 a2.B]⟩]) fun q0 F0 => ?_
 unfold opt_three at H
 refine Ai <| Al <| Cz F0 s0 rfl rfl rfl fun g0 w0 _ F s1 => Cz F s1 rfl rfl rfl fun g1 w1 _ F s2 => Cz F s2 rfl rfl rfl fun g2 w2 _ F s3 => Bu F s3 Fx.zero121 rfl rfl fun g3 w3 _ F s4 => Ak F (Aa (Am rfl) <| Ad) fun _ F => Aj <| Ab <| Ai ?_
 obtain ⟨o0, H0, R0⟩ := Aq H
 clear H
 refine Bx (fun a w_ => Fr a 95 [(3, .pointer (some ⟨g0, 0, none⟩)), (4, .pointer (some ⟨g1, 0, none⟩)), (5, .pointer (some ⟨g2, 0, none⟩)), (6, .pointer (some ⟨g3, 0, none⟩)), (8, .bool o0)] ∧ SL w [] w_ [Blk g3 121 [.int .i64 0, .int .u8 0, .int .i64 0, .int .i64 0, .int .i64 0, .bool false], Blk g2 90 [.int .i64 a2.At, .int .u8 (a2.Op.toNat : Int), .int .i64 a2.A, .int .i64 a2.B], Blk g1 90 [.int .i64 a1.At, .int .u8 (a1.Op.toNat : Int), .int .i64 a1.A, .int .i64 a1.B], Blk g0 90 [.int .i64 a0.At, .int .u8 (a0.Op.toNat : Int), .int .i64 a0.A, .int .i64 a0.B]]) ?_ ?_
 ·have H := H0
  refine Al <| Ak F (Aa (Az Fx.fa90_1 rfl rfl) <| Aa (Ba Fx.nag5 rfl (s4.blk_cell (.tail _ <| .tail _ <| .tail _ <| .head _) rfl)) <| Aa (Bw rfl rfl) <| Aa (Ae rfl) <| Ad) fun _ F => Bl ((a0.Op.toNat : Int) == 1) (fun h0 => ?_) (fun h0 => ?_)
  ·replace H := Bb h0 H
   refine Ar F rfl rfl (An rfl h0) (Az Fx.fa90_1 rfl rfl) rfl rfl fun _ F => Ar F rfl rfl (An rfl h0) (Ba Fx.nag5 rfl (s4.blk_cell (.tail _ <| .tail _ <| .head _) rfl)) rfl rfl fun _ F => Ar F rfl rfl (An rfl h0) (Bw rfl rfl) rfl rfl fun _ F => Ak F (Aa (Bh (Cb rfl h0) rfl) <| Aa (Am rfl) <| Ad) fun _ F => Aj ?_
   obtain rfl := Ao H
   refine Ab ?_
   exact ⟨F.sub ⟨rfl, rfl, rfl, rfl, rfl, trivial⟩, s4⟩
  replace H := Bc h0 H
  refine Ap F rfl rfl (An rfl h0) Ac rfl rfl fun _ F => Ap F rfl rfl (An rfl h0) Ac rfl rfl fun _ F => Ap F rfl rfl (An rfl h0) Ac rfl rfl fun _ F => Ak F (Aa (Bj (Cb rfl h0) rfl) <| Aa (Am rfl) <| Ad) fun _ F => Aj ?_
  obtain rfl := Ao H
  refine Ab ?_
  exact ⟨F.sub ⟨rfl, rfl, rfl, rfl, rfl, trivial⟩, s4⟩
 intro _ w4 hJ
 obtain ⟨F, s5⟩ := hJ
 have H := R0
 clear R0 H0
 refine Ab <| Ai ?_
 obtain ⟨o1, H1, R1⟩ := Aq H
 clear H
 refine Bx (fun a w_ => Fr a 95 [(3, .pointer (some ⟨g0, 0, none⟩)), (4, .pointer (some ⟨g1, 0, none⟩)), (5, .pointer (some ⟨g2, 0, none⟩)), (6, .pointer (some ⟨g3, 0, none⟩)), (8, .bool o0), (9, .bool o1)] ∧ SL w [] w_ [Blk g3 121 [.int .i64 0, .int .u8 0, .int .i64 0, .int .i64 0, .int .i64 0, .bool false], Blk g2 90 [.int .i64 a2.At, .int .u8 (a2.Op.toNat : Int), .int .i64 a2.A, .int .i64 a2.B], Blk g1 90 [.int .i64 a1.At, .int .u8 (a1.Op.toNat : Int), .int .i64 a1.A, .int .i64 a1.B], Blk g0 90 [.int .i64 a0.At, .int .u8 (a0.Op.toNat : Int), .int .i64 a0.A, .int .i64 a0.B]]) ?_ ?_
 ·have H := H1
  refine Al <| Ak F (Aa (Az Fx.fa90_1 rfl rfl) <| Aa (Ba Fx.nag5 rfl (s5.blk_cell (.tail _ <| .tail _ <| .tail _ <| .head _) rfl)) <| Aa (Bw rfl rfl) <| Aa (Ae rfl) <| Ad) fun _ F => Bl ((a0.Op.toNat : Int) == 2) (fun h1 => ?_) (fun h1 => ?_)
  ·replace H := Bb h1 H
   refine Ar F rfl rfl (An rfl h1) (Az Fx.fa90_1 rfl rfl) rfl rfl fun _ F => Ar F rfl rfl (An rfl h1) (Ba Fx.nag5 rfl (s5.blk_cell (.tail _ <| .tail _ <| .head _) rfl)) rfl rfl fun _ F => Ar F rfl rfl (An rfl h1) (Bw rfl rfl) rfl rfl fun _ F => Ak F (Aa (Bh (Cb rfl h1) rfl) <| Aa (Am rfl) <| Ad) fun _ F => Aj ?_
   obtain rfl := Ao H
   refine Ab ?_
   exact ⟨F.sub ⟨rfl, rfl, rfl, rfl, rfl, rfl, trivial⟩, s5⟩
  replace H := Bc h1 H
  refine Ap F rfl rfl (An rfl h1) Ac rfl rfl fun _ F => Ap F rfl rfl (An rfl h1) Ac rfl rfl fun _ F => Ap F rfl rfl (An rfl h1) Ac rfl rfl fun _ F => Ak F (Aa (Bj (Cb rfl h1) rfl) <| Aa (Am rfl) <| Ad) fun _ F => Aj ?_
  obtain rfl := Ao H
  refine Ab ?_
  exact ⟨F.sub ⟨rfl, rfl, rfl, rfl, rfl, rfl, trivial⟩, s5⟩
 intro _ w5 hJ
 obtain ⟨F, s6⟩ := hJ
 have H := R1
 clear R1 H1
 refine Ab <| Ai <| Be <| Ai <| Al <| Ak F (Aa (Ae rfl) <| Aa (Ae rfl) <| Ad) fun _ F => Bl o0 (fun h2 => ?_) (fun h2 => ?_)
 ·replace H := Bb h2 H
  refine Ar F rfl rfl (An rfl h2) (Az Fx.fa90_1 rfl rfl) rfl rfl fun _ F => Ar F rfl rfl (An rfl h2) (Ba Fx.nag5 rfl (s6.blk_cell (.tail _ <| .head _) rfl)) rfl rfl fun _ F => Ar F rfl rfl (An rfl h2) (Bw rfl rfl) rfl rfl fun _ F => Ak F (Aa (Bh (Cb rfl h2) rfl) <| Aa (Am rfl) <| Ad) fun _ F => Aj <| Ab <| Bm F rfl (fun h3 => ?_) (fun h3 => ?_)
  ·replace H := Bb h3 H
   refine Ai <| Al ?_
   obtain ⟨x0, h4, H⟩ := Aq H
   refine Ak F (Aa (Az Fx.fa90_2 rfl rfl) <| Aa (Ba Fx.nag3 rfl (s6.blk_cell (.tail _ <| .tail _ <| .tail _ <| .head _) rfl)) <| Aa (Az Fx.fa90_2 rfl rfl) <| Aa (Ba Fx.nag3 rfl (s6.blk_cell (.tail _ <| .tail _ <| .head _) rfl)) <| Aa (Bp rfl rfl) <| Ad) fun _ F => Bi (args := [.tmp 37]) F Fx.fn115 rfl (opt_number_c (a0 := wr (a0.A + a1.A))    h4) rfl fun v0 w6 _ h5 F => ?_
   obtain ⟨rfl, h6⟩ := h5
   have s7 := s6.add h6
   have s8 := s7
   refine Au F s8 rfl rfl Fx.sz121 (Af rfl (Af rfl (Af rfl (Af rfl (Af rfl (Af rfl Bd)))))) (Ah rfl) fun w7 _ F s9 => ?_
   replace s9 : SL w [] w7 [Blk g3 121 [.int .i64 x0.in_.At, .int .u8 (x0.in_.Op.toNat : Int), .int .i64 x0.in_.A, .int .i64 x0.in_.B, .int .i64 x0.to, .bool x0.gone], Blk g2 90 [.int .i64 a2.At, .int .u8 (a2.Op.toNat : Int), .int .i64 a2.A, .int .i64 a2.B], Blk g1 90 [.int .i64 a1.At, .int .u8 (a1.Op.toNat : Int), .int .i64 a1.A, .int .i64 a1.B], Blk g0 90 [.int .i64 a0.At, .int .u8 (a0.Op.toNat : Int), .int .i64 a0.A, .int .i64 a0.B]] := s9
   refine Ak F (Aa (Am rfl) <| Ad) fun _ F => Aj <| Ab ?_
   obtain rfl := Ao H
   refine Bf <| blk_r <| Bg ?_
   refine Ax (rs := [.cell 6 121, .tmp 7]) (vs := [.agg ⟨[.int .i64 x0.in_.At, .int .u8 (x0.in_.Op.toNat : Int), .int .i64 x0.in_.A, .int .i64 x0.in_.B, .int .i64 x0.to, .bool x0.gone]⟩, .bool true]) F (by rfl) ⟨_, _, rfl, Ci s9 (.head _) rfl Fx.agg121 rfl, _, _, rfl, Ay rfl, rfl⟩ ⟨_, rfl, ⟨rfl, s9.drop.drop.drop.drop⟩⟩
  replace H := Bc h3 H
  refine Ai <| Al <| Ak F (Aa (Ae rfl) <| Aa (Ae rfl) <| Ad) fun _ F => Ar F rfl rfl (An rfl h2) (Az Fx.fa90_1 rfl rfl) rfl rfl fun _ F => Ar F rfl rfl (An rfl h2) (Ba Fx.nag5 rfl (s6.blk_cell (.tail _ <| .head _) rfl)) rfl rfl fun _ F => Ar F rfl rfl (An rfl h2) (Bw rfl rfl) rfl rfl fun _ F => Ak F (Aa (Bh (Cb rfl h2) rfl) <| Aa (Am rfl) <| Ad) fun _ F => Aj <| Ab <| Bm F rfl (fun h7 => ?_) (fun h7 => ?_)
  ·replace H := Bb h7 H
   refine Ai <| Al ?_
   obtain ⟨x1, h8, H⟩ := Aq H
   refine Ak F (Aa (Az Fx.fa90_2 rfl rfl) <| Aa (Ba Fx.nag3 rfl (s6.blk_cell (.tail _ <| .tail _ <| .tail _ <| .head _) rfl)) <| Aa (Az Fx.fa90_2 rfl rfl) <| Aa (Ba Fx.nag3 rfl (s6.blk_cell (.tail _ <| .tail _ <| .head _) rfl)) <| Aa (ex_sub rfl rfl) <| Ad) fun _ F => Bi (args := [.tmp 50]) F Fx.fn115 rfl (opt_number_c (a0 := wr (a0.A - a1.A))    h8) rfl fun v1 w8 _ h9 F => ?_
   obtain ⟨rfl, ha⟩ := h9
   have sa := s6.add ha
   have sb := sa
   refine Au F sb rfl rfl Fx.sz121 (Af rfl (Af rfl (Af rfl (Af rfl (Af rfl (Af rfl Bd)))))) (Ah rfl) fun w9 _ F sc => ?_
   replace sc : SL w [] w9 [Blk g3 121 [.int .i64 x1.in_.At, .int .u8 (x1.in_.Op.toNat : Int), .int .i64 x1.in_.A, .int .i64 x1.in_.B, .int .i64 x1.to, .bool x1.gone], Blk g2 90 [.int .i64 a2.At, .int .u8 (a2.Op.toNat : Int), .int .i64 a2.A, .int .i64 a2.B], Blk g1 90 [.int .i64 a1.At, .int .u8 (a1.Op.toNat : Int), .int .i64 a1.A, .int .i64 a1.B], Blk g0 90 [.int .i64 a0.At, .int .u8 (a0.Op.toNat : Int), .int .i64 a0.A, .int .i64 a0.B]] := sc
   refine Ak F (Aa (Am rfl) <| Ad) fun _ F => Aj <| Ab ?_
   obtain rfl := Ao H
   refine Bf <| blk_r <| Bg ?_
   refine Ax (rs := [.cell 6 121, .tmp 7]) (vs := [.agg ⟨[.int .i64 x1.in_.At, .int .u8 (x1.in_.Op.toNat : Int), .int .i64 x1.in_.A, .int .i64 x1.in_.B, .int .i64 x1.to, .bool x1.gone]⟩, .bool true]) F (by rfl) ⟨_, _, rfl, Ci sc (.head _) rfl Fx.agg121 rfl, _, _, rfl, Ay rfl, rfl⟩ ⟨_, rfl, ⟨rfl, sc.drop.drop.drop.drop⟩⟩
  replace H := Bc h7 H
  refine Ai <| Al <| Ak F (Aa (Ae rfl) <| Aa (Ae rfl) <| Ad) fun _ F => Ar F rfl rfl (An rfl h2) (Az Fx.fa90_1 rfl rfl) rfl rfl fun _ F => Ar F rfl rfl (An rfl h2) (Ba Fx.nag5 rfl (s6.blk_cell (.tail _ <| .head _) rfl)) rfl rfl fun _ F => Ar F rfl rfl (An rfl h2) (Bw rfl rfl) rfl rfl fun _ F => Ak F (Aa (Bh (Cb rfl h2) rfl) <| Aa (Am rfl) <| Ad) fun _ F => Aj <| Ab <| Bm F rfl (fun hb => ?_) (fun hb => ?_)
  ·replace H := Bb hb H
   refine Ai <| Al ?_
   obtain ⟨x2, hc, H⟩ := Aq H
   refine Ak F (Aa (Az Fx.fa90_2 rfl rfl) <| Aa (Ba Fx.nag3 rfl (s6.blk_cell (.tail _ <| .tail _ <| .tail _ <| .head _) rfl)) <| Aa (Az Fx.fa90_2 rfl rfl) <| Aa (Ba Fx.nag3 rfl (s6.blk_cell (.tail _ <| .tail _ <| .head _) rfl)) <| Aa (ex_mul rfl rfl) <| Ad) fun _ F => Bi (args := [.tmp 63]) F Fx.fn115 rfl (opt_number_c (a0 := wr (a0.A * a1.A))    hc) rfl fun v2 wa _ hd F => ?_
   obtain ⟨rfl, he⟩ := hd
   have sd := s6.add he
   have se := sd
   refine Au F se rfl rfl Fx.sz121 (Af rfl (Af rfl (Af rfl (Af rfl (Af rfl (Af rfl Bd)))))) (Ah rfl) fun wb _ F sf => ?_
   replace sf : SL w [] wb [Blk g3 121 [.int .i64 x2.in_.At, .int .u8 (x2.in_.Op.toNat : Int), .int .i64 x2.in_.A, .int .i64 x2.in_.B, .int .i64 x2.to, .bool x2.gone], Blk g2 90 [.int .i64 a2.At, .int .u8 (a2.Op.toNat : Int), .int .i64 a2.A, .int .i64 a2.B], Blk g1 90 [.int .i64 a1.At, .int .u8 (a1.Op.toNat : Int), .int .i64 a1.A, .int .i64 a1.B], Blk g0 90 [.int .i64 a0.At, .int .u8 (a0.Op.toNat : Int), .int .i64 a0.A, .int .i64 a0.B]] := sf
   refine Ak F (Aa (Am rfl) <| Ad) fun _ F => Aj <| Ab ?_
   obtain rfl := Ao H
   refine Bf <| blk_r <| Bg ?_
   refine Ax (rs := [.cell 6 121, .tmp 7]) (vs := [.agg ⟨[.int .i64 x2.in_.At, .int .u8 (x2.in_.Op.toNat : Int), .int .i64 x2.in_.A, .int .i64 x2.in_.B, .int .i64 x2.to, .bool x2.gone]⟩, .bool true]) F (by rfl) ⟨_, _, rfl, Ci sf (.head _) rfl Fx.agg121 rfl, _, _, rfl, Ay rfl, rfl⟩ ⟨_, rfl, ⟨rfl, sf.drop.drop.drop.drop⟩⟩
  replace H := Bc hb H
  refine Ai <| Al <| Ak F (Aa (Ae rfl) <| Aa (Ae rfl) <| Ad) fun _ F => Ar F rfl rfl (An rfl h2) (Az Fx.fa90_1 rfl rfl) rfl rfl fun _ F => Ar F rfl rfl (An rfl h2) (Ba Fx.nag5 rfl (s6.blk_cell (.tail _ <| .head _) rfl)) rfl rfl fun _ F => Ar F rfl rfl (An rfl h2) (Bw rfl rfl) rfl rfl fun _ F => Ak F (Aa (Bh (Cb rfl h2) rfl) <| Aa (Am rfl) <| Ad) fun _ F => Aj <| Ab <| Bm F rfl (fun hf => ?_) (fun hf => ?_)
  ·replace H := Bb hf H
   refine Ai <| Al ?_
   obtain ⟨x3, hg, H⟩ := Aq H
   refine Ak F (Aa (Az Fx.fa90_2 rfl rfl) <| Aa (Ba Fx.nag3 rfl (s6.blk_cell (.tail _ <| .tail _ <| .tail _ <| .head _) rfl)) <| Aa (Az Fx.fa90_2 rfl rfl) <| Aa (Ba Fx.nag3 rfl (s6.blk_cell (.tail _ <| .tail _ <| .head _) rfl)) <| Aa (Cn rfl rfl) <| Ad) fun _ F => Bi (args := [.tmp 76]) F Fx.fn116 rfl (opt_truth_c (a0 := decide (a0.A < a1.A))    hg) rfl fun v3 wc _ hh F => ?_
   obtain ⟨rfl, hi⟩ := hh
   have sg := s6.add hi
   have sh := sg
   refine Au F sh rfl rfl Fx.sz121 (Af rfl (Af rfl (Af rfl (Af rfl (Af rfl (Af rfl Bd)))))) (Ah rfl) fun wd _ F si => ?_
   replace si : SL w [] wd [Blk g3 121 [.int .i64 x3.in_.At, .int .u8 (x3.in_.Op.toNat : Int), .int .i64 x3.in_.A, .int .i64 x3.in_.B, .int .i64 x3.to, .bool x3.gone], Blk g2 90 [.int .i64 a2.At, .int .u8 (a2.Op.toNat : Int), .int .i64 a2.A, .int .i64 a2.B], Blk g1 90 [.int .i64 a1.At, .int .u8 (a1.Op.toNat : Int), .int .i64 a1.A, .int .i64 a1.B], Blk g0 90 [.int .i64 a0.At, .int .u8 (a0.Op.toNat : Int), .int .i64 a0.A, .int .i64 a0.B]] := si
   refine Ak F (Aa (Am rfl) <| Ad) fun _ F => Aj <| Ab ?_
   obtain rfl := Ao H
   refine Bf <| blk_r <| Bg ?_
   refine Ax (rs := [.cell 6 121, .tmp 7]) (vs := [.agg ⟨[.int .i64 x3.in_.At, .int .u8 (x3.in_.Op.toNat : Int), .int .i64 x3.in_.A, .int .i64 x3.in_.B, .int .i64 x3.to, .bool x3.gone]⟩, .bool true]) F (by rfl) ⟨_, _, rfl, Ci si (.head _) rfl Fx.agg121 rfl, _, _, rfl, Ay rfl, rfl⟩ ⟨_, rfl, ⟨rfl, si.drop.drop.drop.drop⟩⟩
  replace H := Bc hf H
  refine Ai <| Al <| Ak F (Aa (Ae rfl) <| Aa (Ae rfl) <| Ad) fun _ F => Ap F rfl rfl (An rfl h2) Ac rfl rfl fun _ F => Ak F (Aa (Bh (Cb rfl h2) rfl) <| Aa (Ae rfl) <| Ad) fun _ F => Ar F rfl rfl rfl (Az Fx.fa90_1 rfl rfl) rfl rfl fun _ F => Ar F rfl rfl rfl (Ba Fx.nag5 rfl (s6.blk_cell (.tail _ <| .head _) rfl)) rfl rfl fun _ F => Ar F rfl rfl rfl (Bw rfl rfl) rfl rfl fun _ F => Ak F (Aa (Bh rfl rfl) <| Aa (Am rfl) <| Ad) fun _ F => Aj <| Ab <| Bm F rfl (fun hj => ?_) (fun hj => ?_)
  ·replace H := Bb hj H
   refine Ai <| Al ?_
   obtain ⟨x4, hk, H⟩ := Aq H
   refine Ak F (Aa (Az Fx.fa90_2 rfl rfl) <| Aa (Ba Fx.nag3 rfl (s6.blk_cell (.tail _ <| .tail _ <| .tail _ <| .head _) rfl)) <| Aa (Az Fx.fa90_2 rfl rfl) <| Aa (Ba Fx.nag3 rfl (s6.blk_cell (.tail _ <| .tail _ <| .head _) rfl)) <| Aa (Bw rfl rfl) <| Ad) fun _ F => Bi (args := [.tmp 92]) F Fx.fn116 rfl (opt_truth_c (a0 := (a0.A == a1.A))    hk) rfl fun v4 we _ hl F => ?_
   obtain ⟨rfl, hm⟩ := hl
   have sj := s6.add hm
   have sk := sj
   refine Au F sk rfl rfl Fx.sz121 (Af rfl (Af rfl (Af rfl (Af rfl (Af rfl (Af rfl Bd)))))) (Ah rfl) fun wf _ F sl => ?_
   replace sl : SL w [] wf [Blk g3 121 [.int .i64 x4.in_.At, .int .u8 (x4.in_.Op.toNat : Int), .int .i64 x4.in_.A, .int .i64 x4.in_.B, .int .i64 x4.to, .bool x4.gone], Blk g2 90 [.int .i64 a2.At, .int .u8 (a2.Op.toNat : Int), .int .i64 a2.A, .int .i64 a2.B], Blk g1 90 [.int .i64 a1.At, .int .u8 (a1.Op.toNat : Int), .int .i64 a1.A, .int .i64 a1.B], Blk g0 90 [.int .i64 a0.At, .int .u8 (a0.Op.toNat : Int), .int .i64 a0.A, .int .i64 a0.B]] := sl
   refine Ak F (Aa (Am rfl) <| Ad) fun _ F => Aj <| Ab ?_
   obtain rfl := Ao H
   refine Bf <| blk_r <| Bg ?_
   refine Ax (rs := [.cell 6 121, .tmp 7]) (vs := [.agg ⟨[.int .i64 x4.in_.At, .int .u8 (x4.in_.Op.toNat : Int), .int .i64 x4.in_.A, .int .i64 x4.in_.B, .int .i64 x4.to, .bool x4.gone]⟩, .bool true]) F (by rfl) ⟨_, _, rfl, Ci sl (.head _) rfl Fx.agg121 rfl, _, _, rfl, Ay rfl, rfl⟩ ⟨_, rfl, ⟨rfl, sl.drop.drop.drop.drop⟩⟩
  replace H := Bc hj H
  refine Aw <| By <| Ab <| Ai <| Al <| Ak F (Aa (Co (vs := []) Fx.zero121 Fx.pl121 rfl (cs := [.int .i64 0, .int .u8 0, .int .i64 0, .int .i64 0, .int .i64 0, .bool false]) (rfl)) <| Ad) fun _ F => ?_
  have sm := s6
  refine Au F sm rfl rfl Fx.sz121 (Af rfl (Af rfl (Af rfl (Af rfl (Af rfl (Af rfl Bd)))))) (Ah rfl) fun wg _ F sn => ?_
  replace sn : SL w [] wg [Blk g3 121 [.int .i64 0, .int .u8 0, .int .i64 0, .int .i64 0, .int .i64 0, .bool false], Blk g2 90 [.int .i64 a2.At, .int .u8 (a2.Op.toNat : Int), .int .i64 a2.A, .int .i64 a2.B], Blk g1 90 [.int .i64 a1.At, .int .u8 (a1.Op.toNat : Int), .int .i64 a1.A, .int .i64 a1.B], Blk g0 90 [.int .i64 a0.At, .int .u8 (a0.Op.toNat : Int), .int .i64 a0.A, .int .i64 a0.B]] := sn
  refine Ak F (Aa (Am rfl) <| Ad) fun _ F => Aj <| Ab ?_
  obtain rfl := Ao H
  refine Bf ?_
  refine Ax (rs := [.cell 6 121, .tmp 7]) (vs := [.agg ⟨[.int .i64 0, .int .u8 0, .int .i64 0, .int .i64 0, .int .i64 0, .bool false]⟩, .bool false]) F (by rfl) ⟨_, _, rfl, Ci sn (.head _) rfl Fx.agg121 rfl, _, _, rfl, Ay rfl, rfl⟩ ⟨_, rfl, ⟨rfl, sn.drop.drop.drop.drop⟩⟩
 replace H := Bc h2 H
 refine Ap F rfl rfl (An rfl h2) Ac rfl rfl fun _ F => Ap F rfl rfl (An rfl h2) Ac rfl rfl fun _ F => Ap F rfl rfl (An rfl h2) Ac rfl rfl fun _ F => Ak F (Aa (Bj (Cb rfl h2) rfl) <| Aa (Am rfl) <| Ad) fun _ F => Aj <| Ab <| Cl F rfl <| Ai <| Al <| Ak F (Aa (Ae rfl) <| Aa (Ae rfl) <| Ad) fun _ F => Ap F rfl rfl (An rfl h2) Ac rfl rfl fun _ F => Ap F rfl rfl (An rfl h2) Ac rfl rfl fun _ F => Ap F rfl rfl (An rfl h2) Ac rfl rfl fun _ F => Ak F (Aa (Bj (Cb rfl h2) rfl) <| Aa (Am rfl) <| Ad) fun _ F => Aj <| Ab <| Cl F rfl <| Ai <| Al <| Ak F (Aa (Ae rfl) <| Aa (Ae rfl) <| Ad) fun _ F => Ap F rfl rfl (An rfl h2) Ac rfl rfl fun _ F => Ap F rfl rfl (An rfl h2) Ac rfl rfl fun _ F => Ap F rfl rfl (An rfl h2) Ac rfl rfl fun _ F => Ak F (Aa (Bj (Cb rfl h2) rfl) <| Aa (Am rfl) <| Ad) fun _ F => ?_
 refine Aj <| Ab <| Cl F rfl <| Ai <| Al <| Ak F (Aa (Ae rfl) <| Aa (Ae rfl) <| Ad) fun _ F => Ap F rfl rfl (An rfl h2) Ac rfl rfl fun _ F => Ap F rfl rfl (An rfl h2) Ac rfl rfl fun _ F => Ap F rfl rfl (An rfl h2) Ac rfl rfl fun _ F => Ak F (Aa (Bj (Cb rfl h2) rfl) <| Aa (Am rfl) <| Ad) fun _ F => Aj <| Ab <| Cl F rfl <| Ai <| Al <| Ak F (Aa (Ae rfl) <| Aa (Ae rfl) <| Ad) fun _ F => Ar F rfl rfl (An rfl h2) (Ae rfl) rfl rfl fun _ F => Ak F (Aa (Bj (Cb rfl h2) rfl) <| Aa (Ae rfl) <| Ad) fun _ F => Bl o1 (fun hn => ?_) (fun hn => ?_)
 ·replace H := Bb hn H
  refine Ar F rfl rfl (An rfl hn) (Az Fx.fa90_1 rfl rfl) rfl rfl fun _ F => Ar F rfl rfl (An rfl hn) (Ba Fx.nag5 rfl (s6.blk_cell (.tail _ <| .head _) rfl)) rfl rfl fun _ F => Ar F rfl rfl (An rfl hn) (Bw rfl rfl) rfl rfl fun _ F => Ak F (Aa (Bh (Cb rfl hn) rfl) <| Aa (Am rfl) <| Ad) fun _ F => Aj <| Ab <| Bm F rfl (fun ho => ?_) (fun ho => ?_)
  ·replace H := Bb ho H
   refine Ai <| Al ?_
   obtain ⟨x5, hp, H⟩ := Aq H
   refine Ak F (Aa (Az Fx.fa90_2 rfl rfl) <| Aa (Ba Fx.nag3 rfl (s6.blk_cell (.tail _ <| .tail _ <| .tail _ <| .head _) rfl)) <| Aa (Az Fx.fa90_2 rfl rfl) <| Aa (Ba Fx.nag3 rfl (s6.blk_cell (.tail _ <| .tail _ <| .head _) rfl)) <| Aa (Bw rfl rfl) <| Ad) fun _ F => Bi (args := [.tmp 92]) F Fx.fn116 rfl (opt_truth_c (a0 := (a0.A == a1.A))    hp) rfl fun v5 wh _ hq F => ?_
   obtain ⟨rfl, hr⟩ := hq
   have so := s6.add hr
   have sp := so
   refine Au F sp rfl rfl Fx.sz121 (Af rfl (Af rfl (Af rfl (Af rfl (Af rfl (Af rfl Bd)))))) (Ah rfl) fun wi _ F sq => ?_
   replace sq : SL w [] wi [Blk g3 121 [.int .i64 x5.in_.At, .int .u8 (x5.in_.Op.toNat : Int), .int .i64 x5.in_.A, .int .i64 x5.in_.B, .int .i64 x5.to, .bool x5.gone], Blk g2 90 [.int .i64 a2.At, .int .u8 (a2.Op.toNat : Int), .int .i64 a2.A, .int .i64 a2.B], Blk g1 90 [.int .i64 a1.At, .int .u8 (a1.Op.toNat : Int), .int .i64 a1.A, .int .i64 a1.B], Blk g0 90 [.int .i64 a0.At, .int .u8 (a0.Op.toNat : Int), .int .i64 a0.A, .int .i64 a0.B]] := sq
   refine Ak F (Aa (Am rfl) <| Ad) fun _ F => Aj <| Ab ?_
   obtain rfl := Ao H
   refine Bf <| blk_r <| Bg ?_
   refine Ax (rs := [.cell 6 121, .tmp 7]) (vs := [.agg ⟨[.int .i64 x5.in_.At, .int .u8 (x5.in_.Op.toNat : Int), .int .i64 x5.in_.A, .int .i64 x5.in_.B, .int .i64 x5.to, .bool x5.gone]⟩, .bool true]) F (by rfl) ⟨_, _, rfl, Ci sq (.head _) rfl Fx.agg121 rfl, _, _, rfl, Ay rfl, rfl⟩ ⟨_, rfl, ⟨rfl, sq.drop.drop.drop.drop⟩⟩
  replace H := Bc ho H
  refine Aw <| By <| Ab <| Ai <| Al <| Ak F (Aa (Co (vs := []) Fx.zero121 Fx.pl121 rfl (cs := [.int .i64 0, .int .u8 0, .int .i64 0, .int .i64 0, .int .i64 0, .bool false]) (rfl)) <| Ad) fun _ F => ?_
  have sr := s6
  refine Au F sr rfl rfl Fx.sz121 (Af rfl (Af rfl (Af rfl (Af rfl (Af rfl (Af rfl Bd)))))) (Ah rfl) fun wj _ F ss => ?_
  replace ss : SL w [] wj [Blk g3 121 [.int .i64 0, .int .u8 0, .int .i64 0, .int .i64 0, .int .i64 0, .bool false], Blk g2 90 [.int .i64 a2.At, .int .u8 (a2.Op.toNat : Int), .int .i64 a2.A, .int .i64 a2.B], Blk g1 90 [.int .i64 a1.At, .int .u8 (a1.Op.toNat : Int), .int .i64 a1.A, .int .i64 a1.B], Blk g0 90 [.int .i64 a0.At, .int .u8 (a0.Op.toNat : Int), .int .i64 a0.A, .int .i64 a0.B]] := ss
  refine Ak F (Aa (Am rfl) <| Ad) fun _ F => Aj <| Ab ?_
  obtain rfl := Ao H
  refine Bf ?_
  refine Ax (rs := [.cell 6 121, .tmp 7]) (vs := [.agg ⟨[.int .i64 0, .int .u8 0, .int .i64 0, .int .i64 0, .int .i64 0, .bool false]⟩, .bool false]) F (by rfl) ⟨_, _, rfl, Ci ss (.head _) rfl Fx.agg121 rfl, _, _, rfl, Ay rfl, rfl⟩ ⟨_, rfl, ⟨rfl, ss.drop.drop.drop.drop⟩⟩
 replace H := Bc hn H
 refine Ap F rfl rfl (An rfl hn) Ac rfl rfl fun _ F => Ap F rfl rfl (An rfl hn) Ac rfl rfl fun _ F => Ap F rfl rfl (An rfl hn) Ac rfl rfl fun _ F => Ak F (Aa (Bj (Cb rfl hn) rfl) <| Aa (Am rfl) <| Ad) fun _ F => Aj <| Ab <| Cl F rfl <| Aw <| By <| Ab <| Ai <| Al <| Ak F (Aa (Co (vs := []) Fx.zero121 Fx.pl121 rfl (cs := [.int .i64 0, .int .u8 0, .int .i64 0, .int .i64 0, .int .i64 0, .bool false]) (rfl)) <| Ad) fun _ F => ?_
 have st := s6
 refine Au F st rfl rfl Fx.sz121 (Af rfl (Af rfl (Af rfl (Af rfl (Af rfl (Af rfl Bd)))))) (Ah rfl) fun wk _ F su => ?_
 replace su : SL w [] wk [Blk g3 121 [.int .i64 0, .int .u8 0, .int .i64 0, .int .i64 0, .int .i64 0, .bool false], Blk g2 90 [.int .i64 a2.At, .int .u8 (a2.Op.toNat : Int), .int .i64 a2.A, .int .i64 a2.B], Blk g1 90 [.int .i64 a1.At, .int .u8 (a1.Op.toNat : Int), .int .i64 a1.A, .int .i64 a1.B], Blk g0 90 [.int .i64 a0.At, .int .u8 (a0.Op.toNat : Int), .int .i64 a0.A, .int .i64 a0.B]] := su
 refine Ak F (Aa (Am rfl) <| Ad) fun _ F => Aj <| Ab ?_
 obtain rfl := Ao H
 refine Bf ?_
 refine Ax (rs := [.cell 6 121, .tmp 7]) (vs := [.agg ⟨[.int .i64 0, .int .u8 0, .int .i64 0, .int .i64 0, .int .i64 0, .bool false]⟩, .bool false]) F (by rfl) ⟨_, _, rfl, Ci su (.head _) rfl Fx.agg121 rfl, _, _, rfl, Ay rfl, rfl⟩ ⟨_, rfl, ⟨rfl, su.drop.drop.drop.drop⟩⟩
-- proviso/opt.two
theorem opt_two_c {w : World} {a0 : S_api_Instr} {a1 : S_api_Instr} {r : S_opt_item × Bool}  (H : opt_two a0 a1 = some r) :
    Calls Try.prog 99 #[.agg ⟨[.int .i64 a0.At, .int .u8 (a0.Op.toNat : Int), .int .i64 a0.A, .int .i64 a0.B]⟩, .agg ⟨[.int .i64 a1.At, .int .u8 (a1.Op.toNat : Int), .int .i64 a1.A, .int .i64 a1.B]⟩] w (Ret fun u_ w_ => u_ = .tuple ⟨[.agg ⟨[.int .i64 r.1.in_.At, .int .u8 (r.1.in_.Op.toNat : Int), .int .i64 r.1.in_.A, .int .i64 r.1.in_.B, .int .i64 r.1.to, .bool r.1.gone]⟩, .bool r.2]⟩ ∧ SL w [] w_ []) := by
 have s0 : SL w [] w [] := SL.init0 w
 refine Bq Try.func99 rfl Try.ntmps99 (Ah rfl) (args := [.agg ⟨[.int .i64 a0.At, .int .u8 (a0.Op.toNat : Int), .int .i64 a0.A, .int .i64 a0.B]⟩, .agg ⟨[.int .i64 a1.At, .int .u8 (a1.Op.toNat : Int), .int .i64 a1.A, .int .i64 a1.B]⟩]) fun q0 F0 => ?_
 unfold opt_two at H
 refine Ai <| Al <| Cz F0 s0 rfl rfl rfl fun g0 w0 _ F s1 => Cz F s1 rfl rfl rfl fun g1 w1 _ F s2 => Bu F s2 Fx.zero121 rfl rfl fun g2 w2 _ F s3 => Ak F (Aa (Am rfl) <| Ad) fun _ F => Aj <| Ab <| Ai ?_
 obtain ⟨o0, H0, R0⟩ := Aq H
 clear H
 refine Bx (fun a w_ => ∃ p0 : Unit, o0 = .inr (p0) ∧ Fr a 55 [(2, .pointer (some ⟨g0, 0, none⟩)), (3, .pointer (some ⟨g1, 0, none⟩)), (4, .pointer (some ⟨g2, 0, none⟩))] ∧ SL w [] w_ [Blk g2 121 [.int .i64 0, .int .u8 0, .int .i64 0, .int .i64 0, .int .i64 0, .bool false], Blk g1 90 [.int .i64 a1.At, .int .u8 (a1.Op.toNat : Int), .int .i64 a1.A, .int .i64 a1.B], Blk g0 90 [.int .i64 a0.At, .int .u8 (a0.Op.toNat : Int), .int .i64 a0.A, .int .i64 a0.B]]) ?_ ?_
 ·have H := H0
  refine Be <| Ai <| Al <| Ak F (Aa (Az Fx.fa90_1 rfl rfl) <| Aa (Ba Fx.nag5 rfl (s3.blk_cell (.tail _ <| .tail _ <| .head _) rfl)) <| Aa (Bw rfl rfl) <| Aa (Ae rfl) <| Ad) fun _ F => Bl ((a0.Op.toNat : Int) == 1) (fun h0 => ?_) (fun h0 => ?_)
  ·replace H := Bb h0 H
   refine Ar F rfl rfl (An rfl h0) (Az Fx.fa90_1 rfl rfl) rfl rfl fun _ F => Ar F rfl rfl (An rfl h0) (Ba Fx.nag5 rfl (s3.blk_cell (.tail _ <| .head _) rfl)) rfl rfl fun _ F => Ar F rfl rfl (An rfl h0) (Bw rfl rfl) rfl rfl fun _ F => Ak F (Aa (Bh (Cb rfl h0) rfl) <| Aa (Am rfl) <| Ad) fun _ F => Aj <| Ab <| Bm F rfl (fun h1 => ?_) (fun h1 => ?_)
   ·replace H := Bb h1 H
    refine Ai <| Al ?_
    obtain ⟨x0, h2, H⟩ := Aq H
    refine Ak F (Aa (Az Fx.fa90_2 rfl rfl) <| Aa (Ba Fx.nag3 rfl (s3.blk_cell (.tail _ <| .tail _ <| .head _) rfl)) <| Aa (ex_neg rfl) <| Ad) fun _ F => Bi (args := [.tmp 17]) F Fx.fn115 rfl (opt_number_c (a0 := wr (0 - a0.A))    h2) rfl fun v0 w3 _ h3 F => ?_
    obtain ⟨rfl, h4⟩ := h3
    have s4 := s3.add h4
    have s5 := s4
    refine Au F s5 rfl rfl Fx.sz121 (Af rfl (Af rfl (Af rfl (Af rfl (Af rfl (Af rfl Bd)))))) (Ah rfl) fun w4 _ F s6 => ?_
    replace s6 : SL w [] w4 [Blk g2 121 [.int .i64 x0.in_.At, .int .u8 (x0.in_.Op.toNat : Int), .int .i64 x0.in_.A, .int .i64 x0.in_.B, .int .i64 x0.to, .bool x0.gone], Blk g1 90 [.int .i64 a1.At, .int .u8 (a1.Op.toNat : Int), .int .i64 a1.A, .int .i64 a1.B], Blk g0 90 [.int .i64 a0.At, .int .u8 (a0.Op.toNat : Int), .int .i64 a0.A, .int .i64 a0.B]] := s6
    refine Ak F (Aa (Am rfl) <| Ad) fun _ F => Aj <| Ab ?_
    obtain rfl := Ao H
    replace H := R0
    try dsimp only at H
    obtain rfl := Ao H
    refine Bf <| blk_r <| Bg <| Bg ?_
    refine Ax (rs := [.cell 4 121, .tmp 5]) (vs := [.agg ⟨[.int .i64 x0.in_.At, .int .u8 (x0.in_.Op.toNat : Int), .int .i64 x0.in_.A, .int .i64 x0.in_.B, .int .i64 x0.to, .bool x0.gone]⟩, .bool true]) F (by rfl) ⟨_, _, rfl, Ci s6 (.head _) rfl Fx.agg121 rfl, _, _, rfl, Ay rfl, rfl⟩ ⟨_, rfl, ⟨rfl, s6.drop.drop.drop⟩⟩
   replace H := Bc h1 H
   refine Ai <| Al <| Ak F (Aa (Az Fx.fa90_1 rfl rfl) <| Aa (Ba Fx.nag5 rfl (s3.blk_cell (.tail _ <| .tail _ <| .head _) rfl)) <| Aa (Bw rfl rfl) <| Aa (Ae rfl) <| Ad) fun _ F => Bl ((a0.Op.toNat : Int) == 2) (fun h5 => ?_) (fun h5 => ?_)
   ·replace H := Bb h5 H
    refine Ar F rfl rfl (An rfl h5) (Az Fx.fa90_1 rfl rfl) rfl rfl fun _ F => Ar F rfl rfl (An rfl h5) (Ba Fx.nag5 rfl (s3.blk_cell (.tail _ <| .head _) rfl)) rfl rfl fun _ F => Ar F rfl rfl (An rfl h5) (Bw rfl rfl) rfl rfl fun _ F => Ak F (Aa (Bh (Cb rfl h5) rfl) <| Aa (Am rfl) <| Ad) fun _ F => Aj <| Ab <| Bm F rfl (fun h6 => ?_) (fun h6 => ?_)
    ·replace H := Bb h6 H
     refine Ai <| Al ?_
     obtain ⟨x1, h7, H⟩ := Aq H
     refine Ak F (Aa (Az Fx.fa90_2 rfl rfl) <| Aa (Ba Fx.nag3 rfl (s3.blk_cell (.tail _ <| .tail _ <| .head _) rfl)) <| Aa (Bw rfl rfl) <| Ad) fun _ F => Bi (args := [.tmp 30]) F Fx.fn116 rfl (opt_truth_c (a0 := (a0.A == 0))    h7) rfl fun v1 w5 _ h8 F => ?_
     obtain ⟨rfl, h9⟩ := h8
     have s7 := s3.add h9
     have s8 := s7
     refine Au F s8 rfl rfl Fx.sz121 (Af rfl (Af rfl (Af rfl (Af rfl (Af rfl (Af rfl Bd)))))) (Ah rfl) fun w6 _ F s9 => ?_
     replace s9 : SL w [] w6 [Blk g2 121 [.int .i64 x1.in_.At, .int .u8 (x1.in_.Op.toNat : Int), .int .i64 x1.in_.A, .int .i64 x1.in_.B, .int .i64 x1.to, .bool x1.gone], Blk g1 90 [.int .i64 a1.At, .int .u8 (a1.Op.toNat : Int), .int .i64 a1.A, .int .i64 a1.B], Blk g0 90 [.int .i64 a0.At, .int .u8 (a0.Op.toNat : Int), .int .i64 a0.A, .int .i64 a0.B]] := s9
     refine Ak F (Aa (Am rfl) <| Ad) fun _ F => Aj <| Ab ?_
     obtain rfl := Ao H
     replace H := R0
     try dsimp only at H
     obtain rfl := Ao H
     refine Bf <| blk_r <| Bg <| Bg ?_
     refine Ax (rs := [.cell 4 121, .tmp 5]) (vs := [.agg ⟨[.int .i64 x1.in_.At, .int .u8 (x1.in_.Op.toNat : Int), .int .i64 x1.in_.A, .int .i64 x1.in_.B, .int .i64 x1.to, .bool x1.gone]⟩, .bool true]) F (by rfl) ⟨_, _, rfl, Ci s9 (.head _) rfl Fx.agg121 rfl, _, _, rfl, Ay rfl, rfl⟩ ⟨_, rfl, ⟨rfl, s9.drop.drop.drop⟩⟩
    replace H := Bc h6 H
    refine Ai <| Al <| Ak F (Aa (Az Fx.fa90_1 rfl rfl) <| Aa (Ba Fx.nag5 rfl (s3.blk_cell (.tail _ <| .tail _ <| .head _) rfl)) <| Aa (Bw rfl rfl) <| Aa (Ae rfl) <| Ad) fun _ F => Bl ((a0.Op.toNat : Int) == 17) (fun ha => ?_) (fun ha => ?_)
    ·replace H := Bb ha H
     refine Ar F rfl rfl (An rfl ha) (Az Fx.fa90_1 rfl rfl) rfl rfl fun _ F => Ar F rfl rfl (An rfl ha) (Ba Fx.nag5 rfl (s3.blk_cell (.tail _ <| .head _) rfl)) rfl rfl fun _ F => Ar F rfl rfl (An rfl ha) (Bw rfl rfl) rfl rfl fun _ F => Ak F (Aa (Bh (Cb rfl ha) rfl) <| Aa (Am rfl) <| Ad) fun _ F => Aj <| Ab <| Cl F (An rfl h6) <| Aw <| By ?_
     obtain rfl := Ao H
     refine Ab ?_
     exact ⟨_, rfl, F.sub ⟨rfl, rfl, rfl, trivial⟩, s3⟩
    replace H := Bc ha H
    refine Ap F rfl rfl (An rfl ha) Ac rfl rfl fun _ F => Ap F rfl rfl (An rfl ha) Ac rfl rfl fun _ F => Ap F rfl rfl (An rfl ha) Ac rfl rfl fun _ F => Ak F (Aa (Bj (Cb rfl ha) rfl) <| Aa (Am rfl) <| Ad) fun _ F => Aj <| Ab <| Cl F rfl <| Aw <| By ?_
    obtain rfl := Ao H
    refine Ab ?_
    exact ⟨_, rfl, F.sub ⟨rfl, rfl, rfl, trivial⟩, s3⟩
   replace H := Bc h5 H
   refine Ap F rfl rfl (An rfl h5) Ac rfl rfl fun _ F => Ap F rfl rfl (An rfl h5) Ac rfl rfl fun _ F => Ap F rfl rfl (An rfl h5) Ac rfl rfl fun _ F => Ak F (Aa (Bj (Cb rfl h5) rfl) <| Aa (Am rfl) <| Ad) fun _ F => Aj <| Ab <| Cl F rfl <| Ai <| Al <| Ak F (Aa (Az Fx.fa90_1 rfl rfl) <| Aa (Ba Fx.nag5 rfl (s3.blk_cell (.tail _ <| .tail _ <| .head _) rfl)) <| Aa (Bw rfl rfl) <| Aa (Ae rfl) <| Ad) fun _ F => Bl ((a0.Op.toNat : Int) == 17) (fun hb => ?_) (fun hb => ?_)
   ·replace H := Bb hb H
    refine Ar F rfl rfl (An rfl hb) (Az Fx.fa90_1 rfl rfl) rfl rfl fun _ F => Ar F rfl rfl (An rfl hb) (Ba Fx.nag5 rfl (s3.blk_cell (.tail _ <| .head _) rfl)) rfl rfl fun _ F => Ar F rfl rfl (An rfl hb) (Bw rfl rfl) rfl rfl fun _ F => Ak F (Aa (Bh (Cb rfl hb) rfl) <| Aa (Am rfl) <| Ad) fun _ F => Aj <| Ab <| Bm F rfl (fun hc => ?_) (fun hc => ?_)
    ·replace H := Bb hc H
     refine Ai <| Al <| Ak F (Aa (Co (vs := [.bool true]) Fx.zero121 Fx.pl121 rfl (cs := [.int .i64 0, .int .u8 0, .int .i64 0, .int .i64 0, .int .i64 0, .bool true]) (rfl)) <| Ad) fun _ F => ?_
     have sa := s3
     refine Au F sa rfl rfl Fx.sz121 (Af rfl (Af rfl (Af rfl (Af rfl (Af rfl (Af rfl Bd)))))) (Ah rfl) fun w7 _ F sb => ?_
     replace sb : SL w [] w7 [Blk g2 121 [.int .i64 0, .int .u8 0, .int .i64 0, .int .i64 0, .int .i64 0, .bool true], Blk g1 90 [.int .i64 a1.At, .int .u8 (a1.Op.toNat : Int), .int .i64 a1.A, .int .i64 a1.B], Blk g0 90 [.int .i64 a0.At, .int .u8 (a0.Op.toNat : Int), .int .i64 a0.A, .int .i64 a0.B]] := sb
     refine Ak F (Aa (Am rfl) <| Ad) fun _ F => Aj <| Ab ?_
     obtain rfl := Ao H
     replace H := R0
     try dsimp only at H
     obtain rfl := Ao H
     refine Bf <| blk_r <| Bg <| Bg ?_
     refine Ax (rs := [.cell 4 121, .tmp 5]) (vs := [.agg ⟨[.int .i64 0, .int .u8 0, .int .i64 0, .int .i64 0, .int .i64 0, .bool true]⟩, .bool true]) F (by rfl) ⟨_, _, rfl, Ci sb (.head _) rfl Fx.agg121 rfl, _, _, rfl, Ay rfl, rfl⟩ ⟨_, rfl, ⟨rfl, sb.drop.drop.drop⟩⟩
    replace H := Bc hc H
    refine Aw <| By ?_
    obtain rfl := Ao H
    refine Ab ?_
    exact ⟨_, rfl, F.sub ⟨rfl, rfl, rfl, trivial⟩, s3⟩
   replace H := Bc hb H
   refine Ap F rfl rfl (An rfl hb) Ac rfl rfl fun _ F => Ap F rfl rfl (An rfl hb) Ac rfl rfl fun _ F => Ap F rfl rfl (An rfl hb) Ac rfl rfl fun _ F => Ak F (Aa (Bj (Cb rfl hb) rfl) <| Aa (Am rfl) <| Ad) fun _ F => Aj <| Ab <| Cl F rfl <| Aw <| By ?_
   obtain rfl := Ao H
   refine Ab ?_
   exact ⟨_, rfl, F.sub ⟨rfl, rfl, rfl, trivial⟩, s3⟩
  replace H := Bc h0 H
  refine Ap F rfl rfl (An rfl h0) Ac rfl rfl fun _ F => Ap F rfl rfl (An rfl h0) Ac rfl rfl fun _ F => Ap F rfl rfl (An rfl h0) Ac rfl rfl fun _ F => Ak F (Aa (Bj (Cb rfl h0) rfl) <| Aa (Am rfl) <| Ad) fun _ F => Aj <| Ab <| Cl F rfl <| Ai <| Al <| Ak F (Aa (Az Fx.fa90_1 rfl rfl) <| Aa (Ba Fx.nag5 rfl (s3.blk_cell (.tail _ <| .tail _ <| .head _) rfl)) <| Aa (Bw rfl rfl) <| Aa (Ae rfl) <| Ad) fun _ F => Bl ((a0.Op.toNat : Int) == 2) (fun hd => ?_) (fun hd => ?_)
  ·replace H := Bb hd H
   refine Ar F rfl rfl (An rfl hd) (Az Fx.fa90_1 rfl rfl) rfl rfl fun _ F => Ar F rfl rfl (An rfl hd) (Ba Fx.nag5 rfl (s3.blk_cell (.tail _ <| .head _) rfl)) rfl rfl fun _ F => Ar F rfl rfl (An rfl hd) (Bw rfl rfl) rfl rfl fun _ F => Ak F (Aa (Bh (Cb rfl hd) rfl) <| Aa (Am rfl) <| Ad) fun _ F => Aj <| Ab <| Bm F rfl (fun he => ?_) (fun he => ?_)
   ·replace H := Bb he H
    refine Ai <| Al ?_
    obtain ⟨x2, hf, H⟩ := Aq H
    refine Ak F (Aa (Az Fx.fa90_2 rfl rfl) <| Aa (Ba Fx.nag3 rfl (s3.blk_cell (.tail _ <| .tail _ <| .head _) rfl)) <| Aa (Bw rfl rfl) <| Ad) fun _ F => Bi (args := [.tmp 30]) F Fx.fn116 rfl (opt_truth_c (a0 := (a0.A == 0))    hf) rfl fun v2 w8 _ hg F => ?_
    obtain ⟨rfl, hh⟩ := hg
    have sc := s3.add hh
    have sd := sc
    refine Au F sd rfl rfl Fx.sz121 (Af rfl (Af rfl (Af rfl (Af rfl (Af rfl (Af rfl Bd)))))) (Ah rfl) fun w9 _ F se => ?_
    replace se : SL w [] w9 [Blk g2 121 [.int .i64 x2.in_.At, .int .u8 (x2.in_.Op.toNat : Int), .int .i64 x2.in_.A, .int .i64 x2.in_.B, .int .i64 x2.to, .bool x2.gone], Blk g1 90 [.int .i64 a1.At, .int .u8 (a1.Op.toNat : Int), .int .i64 a1.A, .int .i64 a1.B], Blk g0 90 [.int .i64 a0.At, .int .u8 (a0.Op.toNat : Int), .int .i64 a0.A, .int .i64 a0.B]] := se
    refine Ak F (Aa (Am rfl) <| Ad) fun _ F => Aj <| Ab ?_
    obtain rfl := Ao H
    replace H := R0
    try dsimp only at H
    obtain rfl := Ao H
    refine Bf <| blk_r <| Bg <| Bg ?_
    refine Ax (rs := [.cell 4 121, .tmp 5]) (vs := [.agg ⟨[.int .i64 x2.in_.At, .int .u8 (x2.in_.Op.toNat : Int), .int .i64 x2.in_.A, .int .i64 x2.in_.B, .int .i64 x2.to, .bool x2.gone]⟩, .bool true]) F (by rfl) ⟨_, _, rfl, Ci se (.head _) rfl Fx.agg121 rfl, _, _, rfl, Ay rfl, rfl⟩ ⟨_, rfl, ⟨rfl, se.drop.drop.drop⟩⟩
   replace H := Bc he H
   refine Ai <| Al <| Ak F (Aa (Az Fx.fa90_1 rfl rfl) <| Aa (Ba Fx.nag5 rfl (s3.blk_cell (.tail _ <| .tail _ <| .head _) rfl)) <| Aa (Bw rfl rfl) <| Aa (Ae rfl) <| Ad) fun _ F => Bl ((a0.Op.toNat : Int) == 17) (fun hi => ?_) (fun hi => ?_)
   ·replace H := Bb hi H
    refine Ar F rfl rfl (An rfl hi) (Az Fx.fa90_1 rfl rfl) rfl rfl fun _ F => Ar F rfl rfl (An rfl hi) (Ba Fx.nag5 rfl (s3.blk_cell (.tail _ <| .head _) rfl)) rfl rfl fun _ F => Ar F rfl rfl (An rfl hi) (Bw rfl rfl) rfl rfl fun _ F => Ak F (Aa (Bh (Cb rfl hi) rfl) <| Aa (Am rfl) <| Ad) fun _ F => Aj <| Ab <| Cl F (An rfl he) <| Aw <| By ?_
    obtain rfl := Ao H
    refine Ab ?_
    exact ⟨_, rfl, F.sub ⟨rfl, rfl, rfl, trivial⟩, s3⟩
   replace H := Bc hi H
   refine Ap F rfl rfl (An rfl hi) Ac rfl rfl fun _ F => Ap F rfl rfl (An rfl hi) Ac rfl rfl fun _ F => Ap F rfl rfl (An rfl hi) Ac rfl rfl fun _ F => Ak F (Aa (Bj (Cb rfl hi) rfl) <| Aa (Am rfl) <| Ad) fun _ F => Aj <| Ab <| Cl F rfl <| Aw <| By ?_
   obtain rfl := Ao H
   refine Ab ?_
   exact ⟨_, rfl, F.sub ⟨rfl, rfl, rfl, trivial⟩, s3⟩
  replace H := Bc hd H
  refine Ap F rfl rfl (An rfl hd) Ac rfl rfl fun _ F => Ap F rfl rfl (An rfl hd) Ac rfl rfl fun _ F => Ap F rfl rfl (An rfl hd) Ac rfl rfl fun _ F => Ak F (Aa (Bj (Cb rfl hd) rfl) <| Aa (Am rfl) <| Ad) fun _ F => Aj <| Ab <| Cl F rfl <| Ai <| Al <| Ak F (Aa (Az Fx.fa90_1 rfl rfl) <| Aa (Ba Fx.nag5 rfl (s3.blk_cell (.tail _ <| .tail _ <| .head _) rfl)) <| Aa (Bw rfl rfl) <| Aa (Ae rfl) <| Ad) fun _ F => Bl ((a0.Op.toNat : Int) == 17) (fun hj => ?_) (fun hj => ?_)
  ·replace H := Bb hj H
   refine Ar F rfl rfl (An rfl hj) (Az Fx.fa90_1 rfl rfl) rfl rfl fun _ F => Ar F rfl rfl (An rfl hj) (Ba Fx.nag5 rfl (s3.blk_cell (.tail _ <| .head _) rfl)) rfl rfl fun _ F => Ar F rfl rfl (An rfl hj) (Bw rfl rfl) rfl rfl fun _ F => Ak F (Aa (Bh (Cb rfl hj) rfl) <| Aa (Am rfl) <| Ad) fun _ F => Aj <| Ab <| Bm F rfl (fun hk => ?_) (fun hk => ?_)
   ·replace H := Bb hk H
    refine Ai <| Al <| Ak F (Aa (Co (vs := [.bool true]) Fx.zero121 Fx.pl121 rfl (cs := [.int .i64 0, .int .u8 0, .int .i64 0, .int .i64 0, .int .i64 0, .bool true]) (rfl)) <| Ad) fun _ F => ?_
    have sf := s3
    refine Au F sf rfl rfl Fx.sz121 (Af rfl (Af rfl (Af rfl (Af rfl (Af rfl (Af rfl Bd)))))) (Ah rfl) fun wa _ F sg => ?_
    replace sg : SL w [] wa [Blk g2 121 [.int .i64 0, .int .u8 0, .int .i64 0, .int .i64 0, .int .i64 0, .bool true], Blk g1 90 [.int .i64 a1.At, .int .u8 (a1.Op.toNat : Int), .int .i64 a1.A, .int .i64 a1.B], Blk g0 90 [.int .i64 a0.At, .int .u8 (a0.Op.toNat : Int), .int .i64 a0.A, .int .i64 a0.B]] := sg
    refine Ak F (Aa (Am rfl) <| Ad) fun _ F => Aj <| Ab ?_
    obtain rfl := Ao H
    replace H := R0
    try dsimp only at H
    obtain rfl := Ao H
    refine Bf <| blk_r <| Bg <| Bg ?_
    refine Ax (rs := [.cell 4 121, .tmp 5]) (vs := [.agg ⟨[.int .i64 0, .int .u8 0, .int .i64 0, .int .i64 0, .int .i64 0, .bool true]⟩, .bool true]) F (by rfl) ⟨_, _, rfl, Ci sg (.head _) rfl Fx.agg121 rfl, _, _, rfl, Ay rfl, rfl⟩ ⟨_, rfl, ⟨rfl, sg.drop.drop.drop⟩⟩
   replace H := Bc hk H
   refine Aw <| By ?_
   obtain rfl := Ao H
   refine Ab ?_
   exact ⟨_, rfl, F.sub ⟨rfl, rfl, rfl, trivial⟩, s3⟩
  replace H := Bc hj H
  refine Ap F rfl rfl (An rfl hj) Ac rfl rfl fun _ F => Ap F rfl rfl (An rfl hj) Ac rfl rfl fun _ F => Ap F rfl rfl (An rfl hj) Ac rfl rfl fun _ F => Ak F (Aa (Bj (Cb rfl hj) rfl) <| Aa (Am rfl) <| Ad) fun _ F => Aj <| Ab <| Cl F rfl <| Aw <| By ?_
  obtain rfl := Ao H
  refine Ab ?_
  exact ⟨_, rfl, F.sub ⟨rfl, rfl, rfl, trivial⟩, s3⟩
 intro _ wb hJ
 obtain ⟨p0, rfl, F, sh⟩ := hJ
 have H := R0
 clear R0 H0
 try dsimp only at H
 refine Ab <| Ai <| Ai <| Al <| Ak F (Aa (Az Fx.fa90_1 rfl rfl) <| Aa (Ba Fx.nag5 rfl (sh.blk_cell (.tail _ <| .head _) rfl)) <| Aa (Dd rfl rfl) <| Ad) fun _ F => Aj <| Ab <| Bm F rfl (fun hl => ?_) (fun hl => ?_)
 ·replace H := Bb hl H
  refine Ai <| Al <| Ak F (Aa (Co (vs := []) Fx.zero121 Fx.pl121 rfl (cs := [.int .i64 0, .int .u8 0, .int .i64 0, .int .i64 0, .int .i64 0, .bool false]) (rfl)) <| Ad) fun _ F => ?_
  have si := sh
  refine Au F si rfl rfl Fx.sz121 (Af rfl (Af rfl (Af rfl (Af rfl (Af rfl (Af rfl Bd)))))) (Ah rfl) fun wc _ F sj => ?_
  replace sj : SL w [] wc [Blk g2 121 [.int .i64 0, .int .u8 0, .int .i64 0, .int .i64 0, .int .i64 0, .bool false], Blk g1 90 [.int .i64 a1.At, .int .u8 (a1.Op.toNat : Int), .int .i64 a1.A, .int .i64 a1.B], Blk g0 90 [.int .i64 a0.At, .int .u8 (a0.Op.toNat : Int), .int .i64 a0.A, .int .i64 a0.B]] := sj
  refine Ak F (Aa (Am rfl) <| Ad) fun _ F => Aj <| Ab ?_
  obtain rfl := Ao H
  refine Bf <| Bg ?_
  refine Ax (rs := [.cell 4 121, .tmp 5]) (vs := [.agg ⟨[.int .i64 0, .int .u8 0, .int .i64 0, .int .i64 0, .int .i64 0, .bool false]⟩, .bool false]) F (by rfl) ⟨_, _, rfl, Ci sj (.head _) rfl Fx.agg121 rfl, _, _, rfl, Ay rfl, rfl⟩ ⟨_, rfl, ⟨rfl, sj.drop.drop.drop⟩⟩
 replace H := Bc hl H
 refine Aw <| Ab <| Ai <| Ai <| Al <| Ak F (Aa (Az Fx.fa90_1 rfl rfl) <| Aa (Ba Fx.nag5 rfl (sh.blk_cell (.tail _ <| .tail _ <| .head _) rfl)) <| Ad) fun _ F => Aj <| Ab <| Be <| Ai ?_
 obtain ⟨o1, H1, R1⟩ := Aq H
 clear H
 refine Bx (fun a w_ => Fr a 55 [(4, .pointer (some ⟨g2, 0, none⟩)), (48, .bool o1)] ∧ SL w [] w_ [Blk g2 121 [.int .i64 0, .int .u8 0, .int .i64 0, .int .i64 0, .int .i64 0, .bool false]]) ?_ ?_
 ·have H := H1
  refine Ai <| Al <| Ak F (Aa (Bw rfl rfl) <| Aa (Am rfl) <| Ad) fun _ F => Aj <| Ab <| Bm F rfl (fun hm => ?_) (fun hm => ?_)
  ·replace H := Bb hm H
   refine Aw ?_
   obtain rfl := Ao H
   refine Ab ?_
   exact ⟨F.sub ⟨rfl, rfl, trivial⟩, sh.f1.drop.f1.drop⟩
  replace H := Bc hm H
  refine Ai <| Al <| Ak F (Aa (Bw rfl rfl) <| Aa (Am rfl) <| Ad) fun _ F => Aj <| Ab <| Bm F rfl (fun hn => ?_) (fun hn => ?_)
  ·replace H := Bb hn H
   refine Aw ?_
   obtain rfl := Ao H
   refine Ab ?_
   exact ⟨F.sub ⟨rfl, rfl, trivial⟩, sh.f1.drop.f1.drop⟩
  replace H := Bc hn H
  refine Ai <| Al <| Ak F (Aa (Bw rfl rfl) <| Aa (Am rfl) <| Ad) fun _ F => Aj <| Ab <| Bm F rfl (fun ho => ?_) (fun ho => ?_)
  ·replace H := Bb ho H
   refine Aw ?_
   obtain rfl := Ao H
   refine Ab ?_
   exact ⟨F.sub ⟨rfl, rfl, trivial⟩, sh.f1.drop.f1.drop⟩
  replace H := Bc ho H
  refine Al <| Ak F (Aa (Bw rfl rfl) <| Aa (Am rfl) <| Ad) fun _ F => Aj ?_
  obtain rfl := Ao H
  refine Ab ?_
  exact ⟨F.sub ⟨rfl, rfl, trivial⟩, sh.f1.drop.f1.drop⟩
 intro _ wd hJ
 obtain ⟨F, sk⟩ := hJ
 have H := R1
 clear R1 H1
 refine Ab <| Bm F rfl (fun hp => ?_) (fun hp => ?_)
 ·replace H := Bb hp H
  refine Ai <| Al <| Ak F (Aa (Co (vs := [.bool true]) Fx.zero121 Fx.pl121 rfl (cs := [.int .i64 0, .int .u8 0, .int .i64 0, .int .i64 0, .int .i64 0, .bool true]) (rfl)) <| Ad) fun _ F => ?_
  have sl := sk
  refine Au F sl rfl rfl Fx.sz121 (Af rfl (Af rfl (Af rfl (Af rfl (Af rfl (Af rfl Bd)))))) (Ah rfl) fun we _ F sm => ?_
  replace sm : SL w [] we [Blk g2 121 [.int .i64 0, .int .u8 0, .int .i64 0, .int .i64 0, .int .i64 0, .bool true]] := sm
  refine Ak F (Aa (Am rfl) <| Ad) fun _ F => Aj <| Ab ?_
  obtain rfl := Ao H
  refine Bf <| blk_r <| Bg ?_
  refine Ax (rs := [.cell 4 121, .tmp 5]) (vs := [.agg ⟨[.int .i64 0, .int .u8 0, .int .i64 0, .int .i64 0, .int .i64 0, .bool true]⟩, .bool true]) F (by rfl) ⟨_, _, rfl, Ci sm (.head _) rfl Fx.agg121 rfl, _, _, rfl, Ay rfl, rfl⟩ ⟨_, rfl, ⟨rfl, sm.drop⟩⟩
 replace H := Bc hp H
 refine Aw <| By <| Ab <| Ai <| Al <| Ak F (Aa (Co (vs := []) Fx.zero121 Fx.pl121 rfl (cs := [.int .i64 0, .int .u8 0, .int .i64 0, .int .i64 0, .int .i64 0, .bool false]) (rfl)) <| Ad) fun _ F => ?_
 have sn := sk
 refine Au F sn rfl rfl Fx.sz121 (Af rfl (Af rfl (Af rfl (Af rfl (Af rfl (Af rfl Bd)))))) (Ah rfl) fun wf _ F so => ?_
 replace so : SL w [] wf [Blk g2 121 [.int .i64 0, .int .u8 0, .int .i64 0, .int .i64 0, .int .i64 0, .bool false]] := so
 refine Ak F (Aa (Am rfl) <| Ad) fun _ F => Aj <| Ab ?_
 obtain rfl := Ao H
 refine Bf ?_
 refine Ax (rs := [.cell 4 121, .tmp 5]) (vs := [.agg ⟨[.int .i64 0, .int .u8 0, .int .i64 0, .int .i64 0, .int .i64 0, .bool false]⟩, .bool false]) F (by rfl) ⟨_, _, rfl, Ci so (.head _) rfl Fx.agg121 rfl, _, _, rfl, Ay rfl, rfl⟩ ⟨_, rfl, ⟨rfl, so.drop⟩⟩
end Go.Proofs.Ytmeodoidfpcjlaa
