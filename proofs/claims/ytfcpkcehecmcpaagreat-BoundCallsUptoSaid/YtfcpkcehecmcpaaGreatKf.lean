/- Lemmas, walks and laws that the row of this claim rests on, merged into few texts: part 6. -/
import Derived.Test.YtfcpkcehecmcpaaGreatKe
set_option linter.unusedVariables false
set_option linter.unusedSimpArgs false
namespace Go.Proofs.YtfcpkcehecmcpaaGreat
open Go Go.RowKit Go.Pv Go.Proofs.Tryz
open Go.Pv renaming bind_ok → Aa, Ug → Ab, Pq → Ae, Ut → Af, QY → Ag, XJ → Ah, Pw → Ai, WL → Aj, K7 → Ak, Uj → Al, Va → An, VG → Ap, Up → Aq, MP → Ar, OI → As, Vu → Au, Nw → Av, Nj → Aw, VI → Ax, Pe → Ay, LG → Az, U4 → Ba, Uu → Bc, QP → Bd, bool_split → Be, Vx → Bf, Pt → Bg, Om → Bh, TT → Bi, Pg → Bj, P4 → Bk
open Nat renaming le_of_ble_eq_true → Ac
open Bool renaming noConfusion → Ad
open Go.Pv.RV renaming blk → Am, tmp → Ao
open Go.Pv.QR renaming nil → Bb
theorem MS {w : World} {v0_0 v0_1 : Value} {a0 : AA} {a1 : A4} {a2 : A9} {r : A4 × Int} (hr0_0 : Rd AB w [] v0_0 a0.Classes) (hr0_1 : Rd B8 w [] v0_1 a0.AQ) (H : GH a0 a1 a2 = some r) :
    Calls prog 149 #[.agg ⟨[v0_0, v0_1, jI a0.Fn]⟩, .agg ⟨(jI a1.Locals :: jI a1.Height :: AU a1.Slots)⟩, .agg ⟨[jI a2.At, jU (a2.Op.toNat : Int), jI a2.A, jI a2.B]⟩] w (B9 fun u_ w_ => u_ = .tuple ⟨[.agg ⟨(jI r.1.Locals :: jI r.1.Height :: AU r.1.Slots)⟩, jI r.2]⟩ ∧ SL w [] w_ []) := by
 have s0 : SL w [] w [] := SL.Bt w
 refine BD func149 ntmps149 2 rfl rfl rfl fun _ F0 => ?_
 unfold GH at H
 refine Ar F0 s0 rfl rfl rfl fun g0 w0 _ F s1 => Ar F s1 rfl rfl rfl fun g32 w1 _ F s2 => Ar F s2 rfl rfl rfl fun g1 w2 _ F s3 => Af F s3 AO rfl rfl fun g2 w3 _ F s4 => gw 5 F rfl fun _ F => gx F (Al (vs := []) AO Ch rfl (cs := jZ) (BG)) 0 rfl rfl fun _ F => Af F s4 AO rfl rfl fun g64 w4 _ F s5 => ?_
 refine AP (ds := jZ) F s5 rfl rfl (by simpa using AX) (Ab rfl (Ab rfl (Bp _))) (by simp) fun w5 _ F s6 => ?_
 obtain ⟨x0, h0, H⟩ := Aa H
 refine gw 4 F rfl fun _ F => AG F s6 m4 0 rfl fun _ F => AG F s6 m2 0 rfl fun _ F => Df F (Qz (a0 := (⟨a0.Classes, a0.AQ, a0.Fn⟩ : AA)) (wb := w) (Fb := []) s6.fm Tb hr0_0 hr0_1 h0) fun v0 w6 _ h1 F => ?_
 obtain ⟨_, rfl, h2⟩ := h1
 have s7 := s6.add h2
 refine gw 7 F rfl fun _ F => AG F s7 m4 1 rfl fun _ F => gx F (Ah rfl underlying47 (JI (s7.Vh m0))) 3 rfl rfl fun _ F => AH F H 2 5 rfl rfl rfl (fun h3 H _ F => ?_) (fun h3 H _ F => ?_)
 ·refine D3 F s7 m1 0 rfl fun _ F => ?_
  refine AP (ds := jZ) F s7.f2 rfl rfl (by simpa using AX) (Ab rfl (Ab rfl (Bp _))) (by simp) fun w7 _ F s8 => ?_
  cases H
  refine gw 5 F rfl fun _ F => ?_
  refine Ak (rs := [.cell 6 118, .tmp 7]) (vs := [.agg ⟨jZ⟩, jI 30]) F (by rfl) ⟨_, _, rfl, Am s8 m0 rfl AZ (by simp), _, _, rfl, Ao rfl, rfl⟩ ⟨_, rfl, ⟨rfl, s8.drop.drop.drop.drop.drop.drop⟩⟩
 refine AG F s7 m4 1 rfl fun _ F => AG F s7 m4 2 rfl fun _ F => gx F (Ah rfl underlying47 (JI (s7.Vh m0))) 13 rfl rfl fun _ F => ?_
 obtain ⟨o0, H0, R0⟩ := Aa H
 clear H
 refine gx F (Ah rfl underlying47 (JI (s7.Vh m0))) 3 rfl rfl fun _ F => BA (fun a w_ => ∃ p0 : (List UInt8), o0 = .inr (p0) ∧ ∃ v1 : Value, Fr a 175 [(3, jP g0), (4, jP g32), (5, jP g1), (6, jP g2), (8, jP g64), (9, v0), (11, v1)] ∧ SL w [] w_ [Mx Ty.u8 w [] v0 x0, A8 g64 118 jZ, A8 g2 118 jZ, A8 g1 79 [jI a2.At, jU (a2.Op.toNat : Int), jI a2.A, jI a2.B], A8 g32 118 (jI a1.Locals :: jI a1.Height :: AU a1.Slots), A8 g0 110 [v0_0, v0_1, jI a0.Fn], Sl Ty.u8 v1 p0]) ?_ ?_
 ·have H := H0
  refine gc 1 F rfl fun _ F => Cy (CY a0 a1 x0) (fun s9 a w_ => ∃ v2 : Value, Fr a 175 [(3, jP g0), (4, jP g32), (5, jP g1), (6, jP g2), (8, jP g64), (9, v0), (10, jI (wr ((wr (a1.Locals + a1.Height)) - (x0.length : Int)))), (11, v2), (38, v0), (39, jI (x0.length : Int)), (40, jI s9.2)] ∧ SL w [] w_ [Mx Ty.u8 w [] v0 x0, A8 g64 118 jZ, A8 g2 118 jZ, A8 g1 79 [jI a2.At, jU (a2.Op.toNat : Int), jI a2.A, jI a2.B], A8 g32 118 (jI a1.Locals :: jI a1.Height :: AU a1.Slots), A8 g0 110 [v0_0, v0_1, jI a0.Fn], Sl Ty.u8 v2 s9.1]) H ?_ ?_
  ·exact ⟨(.slice none 0 0), F.sb, (SL.BI (T := Ty.u8) s7).f6.f6.f6.f6.f6.f6⟩
  intro s9 _ w8 h4 o1 H hr
  obtain ⟨v2, F, sa⟩ := h4
  replace H : CY a0 a1 x0 s9 = some o1 := H
  unfold CY at H
  refine gc 6 F rfl fun _ F => AH F H 7 4 rfl rfl rfl (fun h5 H _ F => ?_) (fun h5 H _ F => ?_)
  ·obtain ⟨x1, h6, H⟩ := Aa H
   obtain ⟨a3, h7, h8⟩ := HM Flat.u8 (sa.Vh m0) Br rfl h6
   refine gi F h7 0 rfl fun _ F => ?_
   obtain ⟨x2, h9, H⟩ := Aa H
   refine gx F (An BF rfl (Bn.at_ h8 (o := 0) rfl)) 10 rfl rfl fun _ F => gx F (Ef Db h9 rfl rfl) 0 rfl rfl fun _ F => ?_
   obtain ⟨x3, ha, H⟩ := Aa H
   refine gx F (An BF rfl (SL.Iu (pre := [jI a1.Locals, jI a1.Height]) sa m4 rfl h9)) 7 rfl rfl fun _ F => AG F sa m5 2 rfl fun _ F => B5 F sa (Qp (hr0_0.AN sa) ha) 3 rfl rfl rfl rfl fun w9 _ F sc => AH F H 2 5 rfl rfl rfl (fun hb H _ F => ?_) (fun hb H _ F => ?_)
   ·refine D3 F sc m1 0 rfl fun _ F => ?_
    refine AP (ds := jZ) F sc.f2 rfl rfl (by simpa using AX) (Ab rfl (Ab rfl (Bp _))) (by simp) fun wa _ F sd => ?_
    cases H
    obtain rfl := hr _ rfl
    replace H := R0
    try dsimp only at H
    cases H
    refine gw 11 F rfl fun _ F => ?_
    refine Ak (rs := [.cell 6 118, .tmp 7]) (vs := [.agg ⟨jZ⟩, jI 70]) F (by rfl) ⟨_, _, rfl, Am sd m0 rfl AZ (by simp), _, _, rfl, Ao rfl, rfl⟩ ⟨_, rfl, ⟨rfl, sd.drop.drop.drop.drop.drop.drop.drop⟩⟩
   refine Ae (parts := [(0, .tmp 59)]) Flat.u8 ([x2] : List UInt8) F sc Br rfl (by decide) rfl rfl rfl (by simp [Value.cells]) rfl rfl rfl fun v3 wc _ F se => ?_
   obtain ⟨x4, hc, H⟩ := Aa H
   obtain ⟨_, hr_⟩ := (se.f7.BK m1)
   refine Aw Flat.u8 F se.f7 Br rfl rfl rfl rfl hr_ rfl rfl hc rfl fun v4 wd _ F sf => ?_
   have s6718' := sf.f1.drop
   cases H
   exact gw 8 F rfl fun _ F => ⟨_, rfl, v4, F.sb, s6718'.f6.f6.f6.f6.f6.f6⟩
  cases H
  obtain rfl := hr _ rfl
  exact ⟨_, rfl, v2, F.sb, sa⟩
 intro _ we hJ
 obtain ⟨p0, rfl, v1, F, sg⟩ := hJ
 have H := R0
 clear R0 H0
 try dsimp only at H
 obtain ⟨o2, H1, R1⟩ := Aa H
 clear H
 refine ge 2 F rfl fun _ F => BA (fun a w_ => ∃ p1 : Unit, o2 = .inr (p1) ∧ Fr a 175 [(3, jP g0), (4, jP g32), (5, jP g1), (6, jP g2), (8, jP g64), (9, v0), (11, v1)] ∧ SL w [] w_ [Mx Ty.u8 w [] v0 x0, A8 g64 118 jZ, A8 g2 118 jZ, A8 g1 79 [jI a2.At, jU (a2.Op.toNat : Int), jI a2.A, jI a2.B], A8 g32 118 (jI a1.Locals :: jI a1.Height :: AU a1.Slots), A8 g0 110 [v0_0, v0_1, jI a0.Fn], Sl Ty.u8 v1 p0]) ?_ ?_
 ·have H := H1
  refine gc 1 F rfl fun _ F => Be ((a2.Op.toNat : Int) == 16) (fun hd => ?_) (fun hd => ?_)
  ·replace H := Mt hd H
   obtain ⟨x5, he, H⟩ := Aa H
   obtain ⟨a4, hf, hg⟩ := FK Flat.u8 (fun _ hC => (hC.BK m6)) sg Br rfl he
   obtain ⟨x6, hh, H⟩ := Aa H
   obtain ⟨a5, hi, hj⟩ := FK Flat.u8 (fun _ hC => (hC.BK m6)) sg Br rfl hh
   refine Be ((x5.toNat : Int) != (x6.toNat : Int)) (fun hk => ?_) (fun hk => ?_)
   ·replace H := Mt hk H
    refine HA Bq sg F (QR.ev 1 rfl <| QR.ld m3 rfl <| QR.ev 2 rfl <| QR.qg (fun _ hC => Az rfl) rfl rfl (Aj rfl hd) rfl rfl <| QR.qg (fun _ hC => hf _ _ _ _ _ _ _ _ _ _ rfl rfl) rfl rfl (Aj rfl hd) rfl rfl <| QR.qg (fun _ hC => An BF rfl (Bn.at_ (hg _ hC) (o := 0) rfl)) rfl rfl (Aj rfl hd) rfl rfl <| QR.qg (fun _ hC => Az rfl) rfl rfl (Aj rfl hd) rfl rfl <| QR.qg (fun _ hC => hi _ _ _ _ _ _ _ _ _ _ rfl rfl) rfl rfl (Aj rfl hd) rfl rfl <| QR.qg (fun _ hC => An BF rfl (Bn.at_ (hj _ hC) (o := 0) rfl)) rfl rfl (Aj rfl hd) rfl rfl <| QR.qg (fun _ hC => Oy rfl rfl) rfl rfl (Aj rfl hd) rfl rfl <| QR.qg (fun _ hC => Az rfl) rfl rfl (Aj rfl hd) rfl rfl <| QR.qs rfl rfl (Aj rfl hk) Ad rfl rfl <| QR.qs rfl rfl (Aj rfl hk) Ad rfl rfl <| QR.qs rfl rfl (Aj rfl hk) Ad rfl rfl <| QR.qs rfl rfl (Aj rfl hk) Ad rfl rfl <| QR.qs rfl rfl (Aj rfl hk) Ad rfl rfl <| QR.qt rfl rfl rfl rfl rfl <| QR.qt rfl rfl rfl rfl rfl <| QR.qt rfl rfl rfl rfl rfl <| QR.qt rfl rfl rfl rfl rfl <| QR.qs rfl rfl (Aj rfl hk) Ad rfl rfl <| QR.qg (fun _ hC => Bg (KC rfl hk) rfl) rfl rfl (Aj rfl hd) rfl rfl <| QR.qo (fun _ hC => Bg (KC rfl hd) rfl) rfl <| Bb) fun wf _ sh F => ?_
    refine ge 4 F rfl fun _ F => D3 F sh m1 0 rfl fun _ F => ?_
    refine AP (ds := jZ) F sh.f2 rfl rfl (by simpa using AX) (Ab rfl (Ab rfl (Bp _))) (by simp) fun wg _ F si => ?_
    cases H
    replace H := R1
    try dsimp only at H
    cases H
    refine gw 6 F rfl fun _ F => ?_
    refine Ak (rs := [.cell 6 118, .tmp 7]) (vs := [.agg ⟨jZ⟩, jI 70]) F (by rfl) ⟨_, _, rfl, Am si m0 rfl AZ (by simp), _, _, rfl, Ao rfl, rfl⟩ ⟨_, rfl, ⟨rfl, si.drop.drop.drop.drop.drop.drop.drop⟩⟩
   replace H := Ms hk H
   obtain ⟨x7, hl, H⟩ := Aa H
   obtain ⟨a6, hm, hn⟩ := FK Flat.u8 (fun _ hC => (hC.BK m6)) sg Br rfl hl
   refine Be ((x7.toNat : Int) != 1) (fun hp => ?_) (fun hp => ?_)
   ·replace H := Mt hp H
    obtain ⟨x8, hs, H⟩ := Aa H
    obtain ⟨a7, ht, hu⟩ := FK Flat.u8 (fun _ hC => (hC.BK m6)) sg Br rfl hs
    refine HA Bq sg F (QR.ev 1 rfl <| QR.ld m3 rfl <| QR.ev 2 rfl <| QR.qg (fun _ hC => Az rfl) rfl rfl (Aj rfl hd) rfl rfl <| QR.qg (fun _ hC => hf _ _ _ _ _ _ _ _ _ _ rfl rfl) rfl rfl (Aj rfl hd) rfl rfl <| QR.qg (fun _ hC => An BF rfl (Bn.at_ (hg _ hC) (o := 0) rfl)) rfl rfl (Aj rfl hd) rfl rfl <| QR.qg (fun _ hC => Az rfl) rfl rfl (Aj rfl hd) rfl rfl <| QR.qg (fun _ hC => hi _ _ _ _ _ _ _ _ _ _ rfl rfl) rfl rfl (Aj rfl hd) rfl rfl <| QR.qg (fun _ hC => An BF rfl (Bn.at_ (hj _ hC) (o := 0) rfl)) rfl rfl (Aj rfl hd) rfl rfl <| QR.qg (fun _ hC => Oy rfl rfl) rfl rfl (Aj rfl hd) rfl rfl <| QR.qg (fun _ hC => Az rfl) rfl rfl (Aj rfl hd) rfl rfl <| QR.qg (fun _ hC => Az rfl) rfl rfl (Aj rfl hk) rfl rfl <| QR.qg (fun _ hC => hm _ _ _ _ _ _ _ _ _ _ rfl rfl) rfl rfl (Aj rfl hk) rfl rfl <| QR.qg (fun _ hC => An BF rfl (Bn.at_ (hn _ hC) (o := 0) rfl)) rfl rfl (Aj rfl hk) rfl rfl <| QR.qg (fun _ hC => Oy rfl rfl) rfl rfl (Aj rfl hk) rfl rfl <| QR.qg (fun _ hC => Az rfl) rfl rfl (Aj rfl hk) rfl rfl <| QR.qg (fun _ hC => Az rfl) rfl rfl (Aj rfl hp) rfl rfl <| QR.qg (fun _ hC => ht _ _ _ _ _ _ _ _ _ _ rfl rfl) rfl rfl (Aj rfl hp) rfl rfl <| QR.qg (fun _ hC => An BF rfl (Bn.at_ (hu _ hC) (o := 0) rfl)) rfl rfl (Aj rfl hp) rfl rfl <| QR.qg (fun _ hC => Oy rfl rfl) rfl rfl (Aj rfl hp) rfl rfl <| QR.qg (fun _ hC => Bg (KC rfl hp) rfl) rfl rfl (Aj rfl hk) rfl rfl <| QR.qg (fun _ hC => Bk (KC rfl hk) rfl) rfl rfl (Aj rfl hd) rfl rfl <| QR.qo (fun _ hC => Bg (KC rfl hd) rfl) rfl <| Bb) fun wh _ sj F => ?_
    refine ge 1 F rfl fun _ F => AH F H 2 1 rfl rfl rfl (fun hv H _ F => ?_) (fun hv H _ F => ?_)
    ·refine D3 F sj m1 0 rfl fun _ F => ?_
     refine AP (ds := jZ) F sj.f2 rfl rfl (by simpa using AX) (Ab rfl (Ab rfl (Bp _))) (by simp) fun wi _ F sk => ?_
     cases H
     replace H := R1
     try dsimp only at H
     cases H
     refine gw 6 F rfl fun _ F => ?_
     refine Ak (rs := [.cell 6 118, .tmp 7]) (vs := [.agg ⟨jZ⟩, jI 70]) F (by rfl) ⟨_, _, rfl, Am sk m0 rfl AZ (by simp), _, _, rfl, Ao rfl, rfl⟩ ⟨_, rfl, ⟨rfl, sk.drop.drop.drop.drop.drop.drop.drop⟩⟩
    cases H
    exact ⟨_, rfl, F.sb, sj⟩
   replace H := Ms hp H
   refine HA Bq sg F (QR.ev 1 rfl <| QR.ld m3 rfl <| QR.ev 2 rfl <| QR.qg (fun _ hC => Az rfl) rfl rfl (Aj rfl hd) rfl rfl <| QR.qg (fun _ hC => hf _ _ _ _ _ _ _ _ _ _ rfl rfl) rfl rfl (Aj rfl hd) rfl rfl <| QR.qg (fun _ hC => An BF rfl (Bn.at_ (hg _ hC) (o := 0) rfl)) rfl rfl (Aj rfl hd) rfl rfl <| QR.qg (fun _ hC => Az rfl) rfl rfl (Aj rfl hd) rfl rfl <| QR.qg (fun _ hC => hi _ _ _ _ _ _ _ _ _ _ rfl rfl) rfl rfl (Aj rfl hd) rfl rfl <| QR.qg (fun _ hC => An BF rfl (Bn.at_ (hj _ hC) (o := 0) rfl)) rfl rfl (Aj rfl hd) rfl rfl <| QR.qg (fun _ hC => Oy rfl rfl) rfl rfl (Aj rfl hd) rfl rfl <| QR.qg (fun _ hC => Az rfl) rfl rfl (Aj rfl hd) rfl rfl <| QR.qg (fun _ hC => Az rfl) rfl rfl (Aj rfl hk) rfl rfl <| QR.qg (fun _ hC => hm _ _ _ _ _ _ _ _ _ _ rfl rfl) rfl rfl (Aj rfl hk) rfl rfl <| QR.qg (fun _ hC => An BF rfl (Bn.at_ (hn _ hC) (o := 0) rfl)) rfl rfl (Aj rfl hk) rfl rfl <| QR.qg (fun _ hC => Oy rfl rfl) rfl rfl (Aj rfl hk) rfl rfl <| QR.qg (fun _ hC => Az rfl) rfl rfl (Aj rfl hk) rfl rfl <| QR.qs rfl rfl (Aj rfl hp) Ad rfl rfl <| QR.qs rfl rfl (Aj rfl hp) Ad rfl rfl <| QR.qs rfl rfl (Aj rfl hp) Ad rfl rfl <| QR.qs rfl rfl (Aj rfl hp) Ad rfl rfl <| QR.qg (fun _ hC => Bk (KC rfl hp) rfl) rfl rfl (Aj rfl hk) rfl rfl <| QR.qg (fun _ hC => Bk (KC rfl hk) rfl) rfl rfl (Aj rfl hd) rfl rfl <| QR.qo (fun _ hC => Bg (KC rfl hd) rfl) rfl <| Bb) fun wj _ sl F => ?_
   cases H
   exact ge 3 F rfl fun _ F => ⟨_, rfl, F.sb, sl⟩
  replace H := Ms hd H
  refine HA Bq sg F (QR.ev 1 rfl <| QR.ld m3 rfl <| QR.ev 2 rfl <| QR.qs rfl rfl (Aj rfl hd) Ad rfl rfl <| QR.qs rfl rfl (Aj rfl hd) Ad rfl rfl <| QR.qs rfl rfl (Aj rfl hd) Ad rfl rfl <| QR.qs rfl rfl (Aj rfl hd) Ad rfl rfl <| QR.qs rfl rfl (Aj rfl hd) Ad rfl rfl <| QR.qs rfl rfl (Aj rfl hd) Ad rfl rfl <| QR.qs rfl rfl (Aj rfl hd) Ad rfl rfl <| QR.qs rfl rfl (Aj rfl hd) Ad rfl rfl <| QR.qt rfl rfl rfl rfl rfl <| QR.qt rfl rfl rfl rfl rfl <| QR.qt rfl rfl rfl rfl rfl <| QR.qt rfl rfl rfl rfl rfl <| QR.qt rfl rfl rfl rfl rfl <| QR.qt rfl rfl rfl rfl rfl <| QR.qt rfl rfl rfl rfl rfl <| QR.qt rfl rfl rfl rfl rfl <| QR.qt rfl rfl rfl rfl rfl <| QR.qt rfl rfl rfl rfl rfl <| QR.qs rfl rfl (Aj rfl hd) Ad rfl rfl <| QR.qo (fun _ hC => Bk (KC rfl hd) rfl) rfl <| Bb) fun wk _ sm F => ?_
  cases H
  exact ge 3 F rfl fun _ F => ⟨_, rfl, F.sb, sm⟩
 intro _ wl hJ
 obtain ⟨p1, rfl, F, sn⟩ := hJ
 have H := R1
 clear R1 H1
 try dsimp only at H
 obtain ⟨x9, hw, H⟩ := Aa H
 refine ge 3 F rfl fun _ F => AG F sn m5 0 rfl fun _ F => AG F sn m3 0 rfl fun _ F => Df F (Q5 (a0 := (⟨a0.Classes, a0.AQ, a0.Fn⟩ : AA)) (hr0_0.AN sn) (hr0_1.AN sn) hw) fun v5 wm _ hx F => ?_
 obtain ⟨_, rfl, hy⟩ := hx
 have so := sn.add hy
 obtain ⟨o3, H2, R2⟩ := Aa H
 clear H
 refine gw 4 F rfl fun _ F => BA (fun a w_ => ∃ p2 : (List UInt8), o3 = .inr (p2) ∧ ∃ v6 : Value, Fr a 175 [(4, jP g32), (5, jP g1), (6, jP g2), (8, jP g64), (9, v0), (11, v1), (15, v6)] ∧ SL w [] w_ [Mx Ty.u8 w [] v0 x0, A8 g64 118 jZ, A8 g2 118 jZ, A8 g1 79 [jI a2.At, jU (a2.Op.toNat : Int), jI a2.A, jI a2.B], A8 g32 118 (jI a1.Locals :: jI a1.Height :: AU a1.Slots), Sl Ty.u8 v1 p0, Sl Ty.u8 v6 p2]) ?_ ?_
 ·have H := H2
  refine gc 3 F rfl fun _ F => AG F so m4 9 rfl fun _ F => AH F H 4 6 rfl rfl rfl (fun hz H _ F => ?_) (fun hz H _ F => ?_)
  ·obtain ⟨xa, h10, H⟩ := Aa H
   refine AG F so m4 1 rfl fun _ F => gx F (Ef Db h10 rfl rfl) 0 rfl rfl fun _ F => gx F (An BF rfl (SL.Iu (pre := [jI a1.Locals, jI a1.Height]) so m5 rfl h10)) 3 rfl rfl fun _ F => AH F H 2 4 rfl rfl rfl (fun h11 H _ F => ?_) (fun h11 H _ F => ?_)
   ·refine D3 F so m2 0 rfl fun _ F => ?_
    refine AP (ds := jZ) F so.f3 rfl rfl (by simpa using AX) (Ab rfl (Ab rfl (Bp _))) (by simp) fun wn _ F sp => ?_
    cases H
    replace H := R2
    try dsimp only at H
    cases H
    refine gw 8 F rfl fun _ F => ?_
    refine Ak (rs := [.cell 6 118, .tmp 7]) (vs := [.agg ⟨jZ⟩, jI 70]) F (by rfl) ⟨_, _, rfl, Am sp m0 rfl AZ (by simp), _, _, rfl, Ao rfl, rfl⟩ ⟨_, rfl, ⟨rfl, sp.drop.drop.drop.drop.drop.drop.drop.drop⟩⟩
   obtain ⟨xb, h12, H⟩ := Aa H
   refine AG F so m4 1 rfl fun _ F => gx F (Ef Db h12 rfl rfl) 0 rfl rfl fun _ F => gx F (An BF rfl (SL.Iu (pre := [jI a1.Locals, jI a1.Height]) so m5 rfl h12)) 0 rfl rfl fun _ F => ?_
   refine Ae (parts := [(0, .tmp 106)]) Flat.u8 ([xb] : List UInt8) F so Br rfl (by decide) rfl rfl rfl (by simp [Value.cells]) rfl rfl rfl fun v7 wo _ F sq => ?_
   cases H
   exact gw 3 F rfl fun _ F => ⟨_, rfl, v7, F.sb, sq.f1.drop.f6.drop.f6.f6.f6.f6.f6.f6⟩
  refine AH F H 0 6 rfl rfl rfl (fun h13 H _ F => ?_) (fun h13 H _ F => ?_)
  ·obtain ⟨xc, h14, H⟩ := Aa H
   obtain ⟨xd, h15, H⟩ := Aa H
   refine Cq Bq so ?_
   obtain ⟨a8, h16, h17⟩ := FK Flat.u8 (fun _ hC => (hC.BK m7)) so.drew Br rfl h14
   obtain ⟨a9, h18, h19⟩ := FK Flat.u8 (fun _ hC => (hC.BK m7)) so.drew Br rfl h15
   refine hq [0, 1, 2, 3, 4, 5] F so.drew (QI.ev 1 rfl <| QI.ix h16 rfl <| QI.op rfl (fun _ hC => An BF rfl (Bn.at_ (h17 _ hC) (o := 0) rfl)) rfl <| QI.ev 1 rfl <| QI.ix h18 rfl <| QI.op rfl (fun _ hC => An BF rfl (Bn.at_ (h19 _ hC) (o := 0) rfl)) rfl <| QI.nil) (by kernel_rfl) fun _ F => ?_
   refine ho 6 rfl (by kernel_rfl) ?_
   refine Ae (parts := [(0, .tmp 112), (1, .tmp 115)]) Flat.u8 ([xc, xd] : List UInt8) F so.drew Br rfl (by decide) rfl rfl rfl (by simp [Value.cells]) rfl rfl rfl fun v8 wp _ F sr => ?_
   refine gw 1 F rfl fun _ F => ⟨sr.drop, ?_⟩
   refine hq [7] F sr.drop (QI.ev 1 rfl <| QI.nil) (by kernel_rfl) fun _ F => ?_
   refine CP (by kernel_rfl) ?_
   cases H
   exact ge 1 F rfl fun _ F => ⟨_, rfl, v8, F.sb, sr.f1.drop.f6.drop.f6.f6.f6.f6.f6.f6⟩
  refine AH F H 0 2 rfl rfl rfl (fun h1a H _ F => ?_) (fun h1a H _ F => ?_)
  ·obtain ⟨xe, h1b, H⟩ := Aa H
   obtain ⟨xf, h1c, H⟩ := Aa H
   refine Cq Bq so ?_
   obtain ⟨aa, h1d, h1e⟩ := FK Flat.u8 (fun _ hC => (hC.BK m7)) so.drew Br rfl h1b
   obtain ⟨ab, h1f, h1g⟩ := FK Flat.u8 (fun _ hC => (hC.BK m7)) so.drew Br rfl h1c
   refine hq [0, 1, 2, 3, 4, 5] F so.drew (QI.ev 1 rfl <| QI.ix h1d rfl <| QI.op rfl (fun _ hC => An BF rfl (Bn.at_ (h1e _ hC) (o := 0) rfl)) rfl <| QI.ev 1 rfl <| QI.ix h1f rfl <| QI.op rfl (fun _ hC => An BF rfl (Bn.at_ (h1g _ hC) (o := 0) rfl)) rfl <| QI.nil) (by kernel_rfl) fun _ F => ?_
   refine ho 6 rfl (by kernel_rfl) ?_
   refine Ae (parts := [(0, .tmp 121), (1, .tmp 124)]) Flat.u8 ([xe, xf] : List UInt8) F so.drew Br rfl (by decide) rfl rfl rfl (by simp [Value.cells]) rfl rfl rfl fun v9 wq _ F ss => ?_
   refine gw 1 F rfl fun _ F => ⟨ss.drop, ?_⟩
   refine hq [7] F ss.drop (QI.ev 1 rfl <| QI.nil) (by kernel_rfl) fun _ F => ?_
   refine CP (by kernel_rfl) ?_
   cases H
   exact ge 1 F rfl fun _ F => ⟨_, rfl, v9, F.sb, ss.f1.drop.f6.drop.f6.f6.f6.f6.f6.f6⟩
  cases H
  exact ⟨_, rfl, v5, F.sb, so.f6.drop.f6.f6.f6.f6.f6.f6⟩
 intro _ ws hJ
 obtain ⟨p2, rfl, v6, F, st⟩ := hJ
 have H := R2
 clear R2 H2
 try dsimp only at H
 refine ge 5 F rfl fun _ F => ?_
 obtain ⟨o4, H3, R3⟩ := Aa H
 clear H
 refine gx F (Ah rfl underlying47 (JI (st.Vh m0))) 3 rfl rfl fun _ F => BA (fun a w_ => Fr a 175 [(4, jP g32), (5, jP g1), (6, jP g2), (8, jP g64), (11, v1), (15, v6)] ∧ SL w [] w_ [A8 g64 118 jZ, A8 g2 118 jZ, A8 g1 79 [jI a2.At, jU (a2.Op.toNat : Int), jI a2.A, jI a2.B], A8 g32 118 (jI o4.1 :: jI o4.2.1 :: AU o4.2.2), Sl Ty.u8 v1 p0, Sl Ty.u8 v6 p2]) ?_ ?_
 ·have H := H3
  refine gc 1 F rfl fun _ F => Cy (Fp x0) (fun su a w_ => Fr a 175 [(4, jP g32), (5, jP g1), (6, jP g2), (8, jP g64), (11, v1), (15, v6), (127, jI (x0.length : Int)), (128, jI su.2.2.2)] ∧ SL w [] w_ [A8 g64 118 jZ, A8 g2 118 jZ, A8 g1 79 [jI a2.At, jU (a2.Op.toNat : Int), jI a2.A, jI a2.B], A8 g32 118 (jI su.1 :: jI su.2.1 :: AU su.2.2.1), Sl Ty.u8 v1 p0, Sl Ty.u8 v6 p2]) H ?_ ?_
  ·exact ⟨F.sb, st.drop⟩
  intro su _ wt h1h o5 H hr
  obtain ⟨F, sv⟩ := h1h
  replace H : Fp x0 su = some o5 := H
  unfold Fp at H
  refine gc 6 F rfl fun _ F => AH F H 5 4 rfl rfl rfl (fun h1i H _ F => ?_) (fun h1i H _ F => ?_)
  ·obtain ⟨xg, h1j, H⟩ := Aa H
   refine D3 F sv m3 0 rfl fun _ F => B5 F sv (Rq h1j) 4 rfl rfl rfl rfl fun wu _ F sw => ?_
   refine AP (ds := (jI xg.1.Locals :: jI xg.1.Height :: AU xg.1.Slots)) F sw.f3 rfl rfl (by simpa using AX) (Ab rfl (Ab rfl (Bp _))) (by simp) fun wv _ F sx => ?_
   cases H
   exact gw 7 F rfl fun _ F => ⟨_, rfl, F.sb, sx.f5.f5.f2.f5.f5.f5⟩
  cases H
  obtain rfl := hr _ rfl
  exact ⟨F.sb, sv⟩
 intro _ ww hJ
 obtain ⟨F, sy⟩ := hJ
 have H := R3
 clear R3 H3
 obtain ⟨o6, H4, R4⟩ := Aa H
 clear H
 refine ge 2 F rfl fun _ F => BA (fun a w_ => ∃ p3 : Unit, o6 = .inr (p3) ∧ Fr a 175 [(4, jP g32), (5, jP g1), (6, jP g2), (8, jP g64), (11, v1), (15, v6)] ∧ SL w [] w_ [A8 g64 118 jZ, A8 g2 118 jZ, A8 g1 79 [jI a2.At, jU (a2.Op.toNat : Int), jI a2.A, jI a2.B], A8 g32 118 (jI o4.1 :: jI o4.2.1 :: AU o4.2.2), Sl Ty.u8 v1 p0, Sl Ty.u8 v6 p2]) ?_ ?_
 ·have H := H4
  refine gc 3 F rfl fun _ F => AG F sy m2 2 rfl fun _ F => BB 140 F H (fun h1k H F => ?_) (fun h1k H F => ?_)
  ·refine gw 1 F rfl fun _ F => AK F rfl rfl <| AG F sy m3 4 rfl fun _ F => AH F H 2 1 rfl rfl rfl (fun h1l H _ F => ?_) (fun h1l H _ F => ?_)
   ·refine D3 F sy m0 0 rfl fun _ F => ?_
    refine AP (ds := jZ) F sy.f1 rfl rfl (by simpa using AX) (Ab rfl (Ab rfl (Bp _))) (by simp) fun wx _ F sz => ?_
    cases H
    replace H := R4
    try dsimp only at H
    cases H
    refine gw 6 F rfl fun _ F => ?_
    refine Ak (rs := [.cell 6 118, .tmp 7]) (vs := [.agg ⟨jZ⟩, jI 73]) F (by rfl) ⟨_, _, rfl, Am sz m0 rfl AZ (by simp), _, _, rfl, Ao rfl, rfl⟩ ⟨_, rfl, ⟨rfl, sz.drop.drop.drop.drop.drop.drop⟩⟩
   cases H
   exact ⟨_, rfl, F.sb, sy⟩
  cases H
  exact gw 8 F rfl fun _ F => ⟨_, rfl, F.sb, sy⟩
 intro _ wy hJ
 obtain ⟨p3, rfl, F, s10⟩ := hJ
 have H := R4
 clear R4 H4
 try dsimp only at H
 obtain ⟨o7, H5, R5⟩ := Aa H
 clear H
 refine ge 2 F rfl fun _ F => BA (fun a w_ => Fr a 175 [(4, jP g32), (6, jP g2), (8, jP g64), (15, v6)] ∧ SL w [] w_ [A8 g32 118 (jI o4.1 :: jI o4.2.1 :: AU o7), A8 g64 118 jZ, A8 g2 118 jZ, Sl Ty.u8 v6 p2]) ?_ ?_
 ·have H := H5
  refine gc 3 F rfl fun _ F => AG F s10 m2 3 rfl fun _ F => AH F H 0 1 rfl rfl rfl (fun h1m H _ F => ?_) (fun h1m H _ F => ?_)
  ·obtain ⟨xh, h1n, H⟩ := Aa H
   obtain ⟨xi, h1o, H⟩ := Aa H
   refine Cq Bq s10.f3.drop ?_
   obtain ⟨ac, h1p, h1q⟩ := FK Flat.u8 (fun _ hC => (hC.BK m3)) s10.drew.f3.drop Br rfl h1n
   refine hq [0, 1, 2, 3, 4, 5] F s10.drew.f3.drop (QI.ev 1 rfl <| QI.ld m2 rfl <| QI.ev 1 rfl <| QI.ix h1p rfl <| QI.op rfl (fun _ hC => An BF rfl (Bn.at_ (h1q _ hC) (o := 0) rfl)) rfl <| QI.ev 1 rfl <| QI.nil) (by kernel_rfl) fun _ F => ?_
   refine ho 6 rfl (by kernel_rfl) ?_
   refine gx F (Ef Db h1o rfl rfl) 1 rfl rfl fun _ F => ⟨s10.drew.f3.drop, ?_⟩
   refine ho 7 rfl (by kernel_rfl) ?_
   refine Jo (y' := xh) (pre := [jI o4.1, jI o4.2.1]) F s10.drew.f3 rfl h1o rfl rfl JL fun wz _ F s11 => gw 1 F rfl fun _ F => ⟨s11.drop, ?_⟩
   refine CP (by kernel_rfl) ?_
   cases H
   exact ⟨F.sb, s11.f3.drop.f3.drop⟩
  cases H
  exact ⟨F.sb, s10.f2.drop.f3.drop.f3.f2.f2.f3⟩
 intro _ w10 hJ
 obtain ⟨F, s12⟩ := hJ
 have H := R5
 clear R5 H5
 refine ge 5 F rfl fun _ F => ?_
 obtain ⟨o8, H6, R6⟩ := Aa H
 clear H
 refine gx F (Ah rfl underlying47 (fO s12 m3)) 3 rfl rfl fun _ F => BA (fun a w_ => ∃ p4 : Int × Int × (Vector UInt8 24), o8 = .inr (p4) ∧ Fr a 175 [(4, jP g32), (6, jP g2)] ∧ SL w [] w_ [A8 g32 118 (jI p4.1 :: jI p4.2.1 :: AU p4.2.2), A8 g2 118 jZ]) ?_ ?_
 ·have H := H6
  refine gc 1 F rfl fun _ F => Cy (DL p2) (fun s13 a w_ => Fr a 175 [(4, jP g32), (6, jP g2), (8, jP g64), (156, v6), (157, jI (p2.length : Int)), (158, jI s13.2.2.2)] ∧ SL w [] w_ [A8 g32 118 (jI s13.1 :: jI s13.2.1 :: AU s13.2.2.1), A8 g64 118 jZ, A8 g2 118 jZ, Sl Ty.u8 v6 p2]) H ?_ ?_
  ·exact ⟨F.sb, s12⟩
  intro s13 _ w11 h1r o9 H hr
  obtain ⟨F, s14⟩ := h1r
  replace H : DL p2 s13 = some o9 := H
  unfold DL at H
  refine gc 6 F rfl fun _ F => AH F H 6 4 rfl rfl rfl (fun h1s H _ F => ?_) (fun h1s H _ F => ?_)
  ·obtain ⟨xj, h1t, H⟩ := Aa H
   obtain ⟨ad, h1u, h1v⟩ := Ax Flat.u8 s14 m3 Br rfl h1t
   refine gi F h1u 0 rfl fun _ F => ?_
   obtain ⟨xk, h1w, H⟩ := Aa H
   refine gx F (An BF rfl (Bn.at_ (SL.C0 Flat.u8 s14 m3 h1v h1t) (o := 0) rfl)) 5 rfl rfl fun _ F => D3 F s14 m0 1 rfl fun _ F => B5 F s14 (Rk h1w) 3 rfl rfl rfl rfl fun w12 _ F s15 => Af F s15 AO rfl rfl fun g3 w13 _ F s16 => ?_
   refine AP (ds := (jI xk.1.Locals :: jI xk.1.Height :: AU xk.1.Slots)) F s16 rfl rfl (by simpa using AX) (Ab rfl (Ab rfl (Bp _))) (by simp) fun w14 _ F s17 => ?_
   refine gw 10 F rfl fun _ F => AH F H 2 3 rfl rfl rfl (fun h1x H _ F => ?_) (fun h1x H _ F => ?_)
   ·refine D3 F s17 m2 1 rfl fun _ F => ?_
    refine AP (ds := jZ) F s17.f3 rfl rfl (by simpa using AX) (Ab rfl (Ab rfl (Bp _))) (by simp) fun w15 _ F s18 => ?_
    cases H
    obtain rfl := hr _ rfl
    replace H := R6
    try dsimp only at H
    cases H
    refine gw 11 F rfl fun _ F => ?_
    refine Ak (rs := [.cell 6 118, .tmp 7]) (vs := [.agg ⟨jZ⟩, jI xk.2]) F (by rfl) ⟨_, _, rfl, Am s18 m0 rfl AZ (by simp), _, _, rfl, Ao rfl, rfl⟩ ⟨_, rfl, ⟨rfl, s18.drop.drop.drop.drop.drop⟩⟩
   refine D3 F s17 m0 0 rfl fun _ F => ?_
   refine AP (ds := (jI xk.1.Locals :: jI xk.1.Height :: AU xk.1.Slots)) F s17.f1 rfl rfl (by simpa using AX) (Ab rfl (Ab rfl (Bp _))) (by simp) fun w16 _ F s19 => ?_
   cases H
   exact gw 7 F rfl fun _ F => ⟨_, rfl, F.sb, s19.f1.drop⟩
  cases H
  obtain rfl := hr _ rfl
  exact ⟨_, rfl, F.sb, s14.f1.drop.f2.drop⟩
 intro _ w17 hJ
 obtain ⟨p4, rfl, F, s1a⟩ := hJ
 have H := R6
 clear R6 H6
 try dsimp only at H
 refine ge 3 F rfl fun _ F => D3 F s1a m0 0 rfl fun _ F => ?_
 refine AP (ds := (jI p4.1 :: jI p4.2.1 :: AU p4.2.2)) F s1a.f1 rfl rfl (by simpa using AX) (Ab rfl (Ab rfl (Bp _))) (by simp) fun w18 _ F s1b => ?_
 cases H
 refine gw 4 F rfl fun _ F => ?_
 refine Ak (rs := [.cell 6 118, .tmp 7]) (vs := [.agg ⟨(jI p4.1 :: jI p4.2.1 :: AU p4.2.2)⟩, jI 0]) F (by rfl) ⟨_, _, rfl, Am s1b m0 rfl AZ (by simp), _, _, rfl, Ao rfl, rfl⟩ ⟨_, rfl, ⟨rfl, s1b.drop.drop⟩⟩
theorem Nt {w : World} {a0 : UInt8} {r : Int × Int} (H : EY a0 = some r) :
    Calls prog 85 #[jU (a0.toNat : Int)] w (B9 fun u_ w_ => u_ = .tuple ⟨[jI r.1, jI r.2]⟩ ∧ SL w [] w_ []) := by
 have s0 : SL w [] w [] := SL.Bt w
 refine BD func85 ntmps85 19 rfl rfl rfl fun _ F => ?_
 unfold EY at H
 refine AH F H 9 1 rfl rfl rfl (fun h0 H _ F => ?_) (fun h0 H _ F => ?_)
 ·cases H
  exact rt F ⟨rfl, s0⟩
 obtain ⟨o0, H0, R0⟩ := Aa H
 clear H
 refine BA (fun a w_ => Fr a 22 [(4, jU (a0.toNat : Int)), (7, .bool o0)] ∧ SL w [] w_ []) ?_ ?_
 ·have H := H0
  refine gc 6 F rfl fun _ F => AH F H 1 4 rfl rfl rfl (fun h1 H _ F => ?_) (fun h1 H _ F => ?_)
  ·cases H
   exact ⟨F.sb, s0⟩
  cases H
  exact ⟨F.sb, s0⟩
 intro _ w0 hJ
 obtain ⟨F, s1⟩ := hJ
 have H := R0
 clear R0 H0
 refine ge 1 F rfl fun _ F => AH F H 9 1 rfl rfl rfl (fun h2 H _ F => ?_) (fun h2 H _ F => ?_)
 ·cases H
  exact rt F ⟨rfl, s1⟩
 obtain ⟨o1, H1, R1⟩ := Aa H
 clear H
 refine BA (fun a w_ => Fr a 22 [(4, jU (a0.toNat : Int)), (10, .bool o1)] ∧ SL w [] w_ []) ?_ ?_
 ·have H := H1
  refine gc 6 F rfl fun _ F => AH F H 1 4 rfl rfl rfl (fun h3 H _ F => ?_) (fun h3 H _ F => ?_)
  ·cases H
   exact ⟨F.sb, s1⟩
  cases H
  exact ⟨F.sb, s1⟩
 intro _ w1 hJ
 obtain ⟨F, s2⟩ := hJ
 have H := R1
 clear R1 H1
 refine ge 1 F rfl fun _ F => AH F H 9 1 rfl rfl rfl (fun h4 H _ F => ?_) (fun h4 H _ F => ?_)
 ·cases H
  exact rt F ⟨rfl, s2⟩
 obtain ⟨o2, H2, R2⟩ := Aa H
 clear H
 refine BA (fun a w_ => Fr a 22 [(13, .bool o2)] ∧ SL w [] w_ []) ?_ ?_
 ·have H := H2
  refine gc 6 F rfl fun _ F => AH F H 1 6 rfl rfl rfl (fun h5 H _ F => ?_) (fun h5 H _ F => ?_)
  ·cases H
   exact ⟨F.sb, s2⟩
  refine AH F H 1 6 rfl rfl rfl (fun h6 H _ F => ?_) (fun h6 H _ F => ?_)
  ·cases H
   exact ⟨F.sb, s2⟩
  refine AH F H 1 6 rfl rfl rfl (fun h7 H _ F => ?_) (fun h7 H _ F => ?_)
  ·cases H
   exact ⟨F.sb, s2⟩
  refine AH F H 1 6 rfl rfl rfl (fun h8 H _ F => ?_) (fun h8 H _ F => ?_)
  ·cases H
   exact ⟨F.sb, s2⟩
  refine AH F H 1 6 rfl rfl rfl (fun h9 H _ F => ?_) (fun h9 H _ F => ?_)
  ·cases H
   exact ⟨F.sb, s2⟩
  refine AH F H 1 6 rfl rfl rfl (fun ha H _ F => ?_) (fun ha H _ F => ?_)
  ·cases H
   exact ⟨F.sb, s2⟩
  refine AH F H 1 4 rfl rfl rfl (fun hb H _ F => ?_) (fun hb H _ F => ?_)
  ·cases H
   exact ⟨F.sb, s2⟩
  cases H
  exact ⟨F.sb, s2⟩
 intro _ w2 hJ
 obtain ⟨F, s3⟩ := hJ
 have H := R2
 clear R2 H2
 refine ge 1 F rfl fun _ F => AH F H 9 10 rfl rfl rfl (fun hc H _ F => ?_) (fun hc H _ F => ?_)
 ·cases H
  exact rt F ⟨rfl, s3⟩
 cases H
 exact rt F ⟨rfl, s3⟩
theorem Ji {w : World} {a0 : UInt8} {r : Int} (H : DR a0 = some r) :
    Calls prog 84 #[jU (a0.toNat : Int)] w (B9 fun u_ w_ => u_ = jI r ∧ SL w [] w_ []) := by
 have s0 : SL w [] w [] := SL.Bt w
 refine BD func84 ntmps84 12 rfl rfl rfl fun _ F => ?_
 unfold DR at H
 refine AH F H 7 5 rfl rfl rfl (fun h0 H _ F => ?_) (fun h0 H _ F => ?_)
 ·cases H
  exact rt F ⟨rfl, s0⟩
 obtain ⟨x0, h1, H⟩ := Aa H
 refine B5 F s0 (Nt h1) 17 rfl rfl rfl rfl fun w0 _ F s1 => ?_
 cases H
 exact rt F ⟨rfl, s1⟩
theorem MK {w : World} {v0_0 v0_1 : Value} {a0 : AA} {a1 : A4} {a2 : A9} {r : A4 × Int} (hr0_0 : Rd AB w [] v0_0 a0.Classes) (hr0_1 : Rd B8 w [] v0_1 a0.AQ) (H : HU a0 a1 a2 = some r) :
    Calls prog 124 #[.agg ⟨[v0_0, v0_1, jI a0.Fn]⟩, .agg ⟨(jI a1.Locals :: jI a1.Height :: AU a1.Slots)⟩, .agg ⟨[jI a2.At, jU (a2.Op.toNat : Int), jI a2.A, jI a2.B]⟩] w (B9 fun u_ w_ => u_ = .tuple ⟨[.agg ⟨(jI r.1.Locals :: jI r.1.Height :: AU r.1.Slots)⟩, jI r.2]⟩ ∧ SL w [] w_ []) := by
 have s0 : SL w [] w [] := SL.Bt w
 refine BD func124 ntmps124 2 rfl rfl rfl fun _ F0 => ?_
 unfold HU at H
 refine Ar F0 s0 rfl rfl rfl fun g0 w0 _ F s1 => Ar F s1 rfl rfl rfl fun g32 w1 _ F s2 => Ar F s2 rfl rfl rfl fun g1 w2 _ F s3 => Af F s3 AO rfl rfl fun g2 w3 _ F s4 => gw 5 F rfl fun _ F => gx F (Al (vs := []) AO Ch rfl (cs := jZ) (BG)) 0 rfl rfl fun _ F => Af F s4 AO rfl rfl fun g64 w4 _ F s5 => ?_
 refine AP (ds := jZ) F s5 rfl rfl (by simpa using AX) (Ab rfl (Ab rfl (Bp _))) (by simp) fun w5 _ F s6 => ?_
 obtain ⟨x0, h0, H⟩ := Aa H
 refine gw 5 F rfl fun _ F => AG F s6 m4 0 rfl fun _ F => B5 F s6 (RO (a0 := (⟨a0.Classes, a0.AQ, a0.Fn⟩ : AA)) (hr0_0.AN s6) (hr0_1.AN s6) h0) 3 rfl rfl rfl rfl fun w6 _ F s7 => AH F H 2 6 rfl rfl rfl (fun h1 H _ F => ?_) (fun h1 H _ F => ?_)
 ·refine D3 F s7 m0 0 rfl fun _ F => ?_
  refine AP (ds := jZ) F s7.f1 rfl rfl (by simpa using AX) (Ab rfl (Ab rfl (Bp _))) (by simp) fun w7 _ F s8 => ?_
  cases H
  refine gw 5 F rfl fun _ F => ?_
  refine Ak (rs := [.cell 6 118, .tmp 7]) (vs := [.agg ⟨jZ⟩, jI 1]) F (by rfl) ⟨_, _, rfl, Am s8 m0 rfl AZ (by simp), _, _, rfl, Ao rfl, rfl⟩ ⟨_, rfl, ⟨rfl, s8.drop.drop.drop.drop.drop⟩⟩
 obtain ⟨x1, h2, H⟩ := Aa H
 refine AG F s7 m4 0 rfl fun _ F => D3 F s7 m3 0 rfl fun _ F => B5 F s7 (Kq (hr0_0.AN s7) h2) 9 rfl rfl rfl rfl fun w8 _ F s9 => AH F H 2 6 rfl rfl rfl (fun h3 H _ F => ?_) (fun h3 H _ F => ?_)
 ·refine D3 F s9 m0 1 rfl fun _ F => ?_
  refine AP (ds := jZ) F s9.f1 rfl rfl (by simpa using AX) (Ab rfl (Ab rfl (Bp _))) (by simp) fun w9 _ F sa => ?_
  cases H
  refine gw 5 F rfl fun _ F => ?_
  refine Ak (rs := [.cell 6 118, .tmp 7]) (vs := [.agg ⟨jZ⟩, jI x1]) F (by rfl) ⟨_, _, rfl, Am sa m0 rfl AZ (by simp), _, _, rfl, Ao rfl, rfl⟩ ⟨_, rfl, ⟨rfl, sa.drop.drop.drop.drop.drop⟩⟩
 obtain ⟨x2, h4, H⟩ := Aa H
 refine AG F s9 m2 0 rfl fun _ F => B5 F s9 (Ji h4) 3 rfl rfl rfl rfl fun wa _ F sc => AH F H 2 3 rfl rfl rfl (fun h5 H _ F => ?_) (fun h5 H _ F => ?_)
 ·refine D3 F sc m0 0 rfl fun _ F => ?_
  refine AP (ds := jZ) F sc.f1 rfl rfl (by simpa using AX) (Ab rfl (Ab rfl (Bp _))) (by simp) fun wb _ F sd => ?_
  cases H
  refine gw 5 F rfl fun _ F => ?_
  refine Ak (rs := [.cell 6 118, .tmp 7]) (vs := [.agg ⟨jZ⟩, jI 40]) F (by rfl) ⟨_, _, rfl, Am sd m0 rfl AZ (by simp), _, _, rfl, Ao rfl, rfl⟩ ⟨_, rfl, ⟨rfl, sd.drop.drop.drop.drop.drop⟩⟩
 obtain ⟨o0, H0, R0⟩ := Aa H
 clear H
 refine BA (fun a w_ => Fr a 65 [(3, jP g0), (4, jP g32), (5, jP g1), (6, jP g2), (8, jP g64), (10, .bool o0)] ∧ SL w [] w_ [A8 g64 118 jZ, A8 g2 118 jZ, A8 g1 79 [jI a2.At, jU (a2.Op.toNat : Int), jI a2.A, jI a2.B], A8 g32 118 (jI a1.Locals :: jI a1.Height :: AU a1.Slots), A8 g0 110 [v0_0, v0_1, jI a0.Fn]]) ?_ ?_
 ·have H := H0
  refine gc 2 F rfl fun _ F => AG F sc m2 2 rfl fun _ F => BB 33 F H (fun h6 H F => ?_) (fun h6 H F => ?_)
  ·cases H
   exact gw 6 F rfl fun _ F => ⟨F.sb, sc⟩
  refine gw 1 F rfl fun _ F => AK F rfl rfl ?_
  cases H
  exact AG F sc m2 4 rfl fun _ F => ⟨F.sb, sc⟩
 intro _ wc hJ
 obtain ⟨F, se⟩ := hJ
 have H := R0
 clear R0 H0
 refine ge 6 F rfl fun _ F => BB 39 F H (fun h7 H F => ?_) (fun h7 H F => ?_)
 ·refine gw 1 F rfl fun _ F => AK F rfl rfl <| AG F se m2 2 rfl fun _ F => BB 43 F H (fun h8 H F => ?_) (fun h8 H F => ?_)
  ·refine gw 12 F rfl fun _ F => D3 F se m0 0 rfl fun _ F => ?_
   refine AP (ds := jZ) F se.f1 rfl rfl (by simpa using AX) (Ab rfl (Ab rfl (Bp _))) (by simp) fun wd _ F sf => ?_
   cases H
   refine gw 5 F rfl fun _ F => ?_
   refine Ak (rs := [.cell 6 118, .tmp 7]) (vs := [.agg ⟨jZ⟩, jI 33]) F (by rfl) ⟨_, _, rfl, Am sf m0 rfl AZ (by simp), _, _, rfl, Ao rfl, rfl⟩ ⟨_, rfl, ⟨rfl, sf.drop.drop.drop.drop.drop⟩⟩
  refine gw 1 F rfl fun _ F => AK F rfl rfl <| AG F se m2 1 rfl fun _ F => AK F rfl rfl <| AG F se m3 5 rfl fun _ F => AH F H 2 5 rfl rfl rfl (fun h9 H _ F => ?_) (fun h9 H _ F => ?_)
  ·refine D3 F se m0 0 rfl fun _ F => ?_
   refine AP (ds := jZ) F se.f1 rfl rfl (by simpa using AX) (Ab rfl (Ab rfl (Bp _))) (by simp) fun we _ F sg => ?_
   cases H
   refine gw 5 F rfl fun _ F => ?_
   refine Ak (rs := [.cell 6 118, .tmp 7]) (vs := [.agg ⟨jZ⟩, jI 33]) F (by rfl) ⟨_, _, rfl, Am sg m0 rfl AZ (by simp), _, _, rfl, Ao rfl, rfl⟩ ⟨_, rfl, ⟨rfl, sg.drop.drop.drop.drop.drop⟩⟩
  obtain ⟨x3, ha, H⟩ := Aa H
  refine AG F se m4 0 rfl fun _ F => AG F se m2 0 rfl fun _ F => B5 F se (LR (a0 := (⟨a0.Classes, a0.AQ, a0.Fn⟩ : AA)) (hr0_0.AN se) (hr0_1.AN se) ha) 9 rfl rfl rfl rfl fun wf _ F sh => AH F H 2 4 rfl rfl rfl (fun hb H _ F => ?_) (fun hb H _ F => ?_)
  ·refine D3 F sh m0 1 rfl fun _ F => ?_
   refine AP (ds := jZ) F sh.f1 rfl rfl (by simpa using AX) (Ab rfl (Ab rfl (Bp _))) (by simp) fun wg _ F si => ?_
   cases H
   refine gw 5 F rfl fun _ F => ?_
   refine Ak (rs := [.cell 6 118, .tmp 7]) (vs := [.agg ⟨jZ⟩, jI x3]) F (by rfl) ⟨_, _, rfl, Am si m0 rfl AZ (by simp), _, _, rfl, Ao rfl, rfl⟩ ⟨_, rfl, ⟨rfl, si.drop.drop.drop.drop.drop⟩⟩
  obtain ⟨x4, hc, H⟩ := Aa H
  refine AG F sh m4 0 rfl fun _ F => D3 F sh m3 0 rfl fun _ F => AG F sh m2 0 rfl fun _ F => B5 F sh (MS (a0 := (⟨a0.Classes, a0.AQ, a0.Fn⟩ : AA)) (hr0_0.AN sh) (hr0_1.AN sh) hc) 2 rfl rfl rfl rfl fun wh _ F sj => ?_
  refine AP (ds := (jI x4.1.Locals :: jI x4.1.Height :: AU x4.1.Slots)) F sj.f1 rfl rfl (by simpa using AX) (Ab rfl (Ab rfl (Bp _))) (by simp) fun wi _ F sk => ?_
  cases H
  refine gw 4 F rfl fun _ F => ?_
  refine Ak (rs := [.cell 6 118, .tmp 7]) (vs := [.agg ⟨(jI x4.1.Locals :: jI x4.1.Height :: AU x4.1.Slots)⟩, jI x4.2]) F (by rfl) ⟨_, _, rfl, Am sk m0 rfl AZ (by simp), _, _, rfl, Ao rfl, rfl⟩ ⟨_, rfl, ⟨rfl, sk.drop.drop.drop.drop.drop⟩⟩
 obtain ⟨x5, hd, H⟩ := Aa H
 refine gw 19 F rfl fun _ F => AG F se m4 0 rfl fun _ F => AG F se m2 0 rfl fun _ F => B5 F se (LR (a0 := (⟨a0.Classes, a0.AQ, a0.Fn⟩ : AA)) (hr0_0.AN se) (hr0_1.AN se) hd) 9 rfl rfl rfl rfl fun wj _ F sl => AH F H 2 4 rfl rfl rfl (fun he H _ F => ?_) (fun he H _ F => ?_)
 ·refine D3 F sl m0 1 rfl fun _ F => ?_
  refine AP (ds := jZ) F sl.f1 rfl rfl (by simpa using AX) (Ab rfl (Ab rfl (Bp _))) (by simp) fun wk _ F sm => ?_
  cases H
  refine gw 5 F rfl fun _ F => ?_
  refine Ak (rs := [.cell 6 118, .tmp 7]) (vs := [.agg ⟨jZ⟩, jI x5]) F (by rfl) ⟨_, _, rfl, Am sm m0 rfl AZ (by simp), _, _, rfl, Ao rfl, rfl⟩ ⟨_, rfl, ⟨rfl, sm.drop.drop.drop.drop.drop⟩⟩
 obtain ⟨x6, hf, H⟩ := Aa H
 refine AG F sl m4 0 rfl fun _ F => D3 F sl m3 0 rfl fun _ F => AG F sl m2 0 rfl fun _ F => B5 F sl (MS (a0 := (⟨a0.Classes, a0.AQ, a0.Fn⟩ : AA)) (hr0_0.AN sl) (hr0_1.AN sl) hf) 2 rfl rfl rfl rfl fun wl _ F sn => ?_
 refine AP (ds := (jI x6.1.Locals :: jI x6.1.Height :: AU x6.1.Slots)) F sn.f1 rfl rfl (by simpa using AX) (Ab rfl (Ab rfl (Bp _))) (by simp) fun wm _ F so => ?_
 cases H
 refine gw 4 F rfl fun _ F => ?_
 refine Ak (rs := [.cell 6 118, .tmp 7]) (vs := [.agg ⟨(jI x6.1.Locals :: jI x6.1.Height :: AU x6.1.Slots)⟩, jI x6.2]) F (by rfl) ⟨_, _, rfl, Am so m0 rfl AZ (by simp), _, _, rfl, Ao rfl, rfl⟩ ⟨_, rfl, ⟨rfl, so.drop.drop.drop.drop.drop⟩⟩
theorem RB {w : World} {v0 : Value} {a0 : List A6} {r : (List UInt8)} (hr0 : Rd AB w [] v0 a0) (H : IP a0 = some r) :
    Calls prog 199 #[v0] w (B9 fun u_ w_ => ∃ u0 : Value, u_ = u0 ∧ SL w [] w_ [Sl Ty.u8 u0 r]) := by
 have s0 : SL w [] w [] := SL.Bt w
 refine BD func199 ntmps199 16 rfl rfl rfl fun _ F => ?_
 unfold IP at H
 obtain ⟨o0, H0, R0⟩ := Aa H
 clear H
 refine BA (fun a w_ => ∃ v1 : Value, Fr a 19 [(3, v1)] ∧ SL w [] w_ [Sl Ty.u8 v1 o0]) ?_ ?_
 ·have H := H0
  refine gc 1 F rfl fun _ F => Cy (Fh a0) (fun s1 a w_ => ∃ v2 : Value, Fr a 19 [(0, v0), (3, v2), (4, jI s1.2)] ∧ SL w [] w_ [Sl Ty.u8 v2 s1.1]) H ?_ ?_
  ·exact ⟨(.slice none 0 0), F.sb, (SL.BI (T := Ty.u8) s0)⟩
  intro s1 _ w0 h0 o1 H hr
  obtain ⟨v2, F, s2⟩ := h0
  replace H : Fh a0 s1 = some o1 := H
  unfold Fh at H
  refine gc 7 F rfl fun _ F => AH F H 8 4 rfl rfl rfl (fun h1 H _ F => ?_) (fun h1 H _ F => ?_)
  ·obtain ⟨x0, h2, H⟩ := Aa H
   refine gx F (RI rfl underlying3 underlying48) 0 rfl rfl fun _ F => B5 F s2 (EH (hr0.AN s2) h2) 2 rfl rfl rfl rfl fun w1 _ F s3 => AH F H 3 8 rfl rfl rfl (fun h3 H _ F => ?_) (fun h3 H _ F => ?_)
   ·refine gx F (RI rfl underlying3 underlying48) 0 rfl rfl fun _ F => ?_
    refine Ae (parts := [(0, .tmp 15)]) Flat.u8 ([Fo s1.2] : List UInt8) F s3 Br rfl (by decide) rfl rfl rfl (by simp [Value.cells]) rfl rfl rfl fun v3 w2 _ F s4 => ?_
    obtain ⟨x1, h4, H⟩ := Aa H
    obtain ⟨_, hr_⟩ := (s4.f1.BK m1)
    refine Aw Flat.u8 F s4.f1 Br rfl rfl rfl rfl hr_ rfl rfl h4 rfl fun v4 w3 _ F s5 => ?_
    have s2340' := s5.f1.drop
    cases H
    exact gw 9 F rfl fun _ F => ⟨_, rfl, v4, F.sb, s2340'⟩
   cases H
   exact ⟨_, rfl, v2, F.sb, s3⟩
  cases H
  obtain rfl := hr _ rfl
  exact ⟨v2, F.sb, s2⟩
 intro _ w4 hJ
 obtain ⟨v1, F, s6⟩ := hJ
 have H := R0
 clear R0 H0
 cases H
 exact ge 8 F rfl fun _ F => rt F ⟨v1, rfl, s6⟩
theorem Q7 {w : World} {v0 : Value} {a0 : List A6} {a1 : UInt8} {a2 : UInt8} {r : UInt8} (hr0 : Rd AB w [] v0 a0) (H : HW a0 a1 a2 = some r) :
    Calls prog 177 #[v0, jU (a1.toNat : Int), jU (a2.toNat : Int)] w (B9 fun u_ w_ => u_ = jU (r.toNat : Int) ∧ SL w [] w_ []) := by
 have s0 : SL w [] w [] := SL.Bt w
 refine BD func177 ntmps177 13 rfl rfl rfl fun _ F => ?_
 unfold HW at H
 obtain ⟨x0, h0, H⟩ := Aa H
 refine Df F (RB (hr0.AN s0) h0) fun v1 w0 _ h1 F => ?_
 obtain ⟨_, rfl, h2⟩ := h1
 have s1 := s0.add h2
 obtain ⟨o0, H0, R0⟩ := Aa H
 clear H
 refine gw 9 F rfl fun _ F => BA (fun a w_ => Fr a 41 [(7, jU (o0.toNat : Int))] ∧ SL w [] w_ []) ?_ ?_
 ·have H := H0
  refine gc 1 F rfl fun _ F => Cy (Ev a0 a1 a2 x0) (fun s2 a w_ => Fr a 41 [(0, v0), (1, jU (a1.toNat : Int)), (2, jU (a2.toNat : Int)), (7, jU (s2.1.toNat : Int)), (8, v1), (9, jI s2.2)] ∧ SL w [] w_ [Sl Ty.u8 v1 x0]) H ?_ ?_
  ·exact ⟨F.sb, s1⟩
  intro s2 _ w1 h3 o1 H hr
  obtain ⟨F, s3⟩ := h3
  replace H : Ev a0 a1 a2 x0 s2 = some o1 := H
  unfold Ev at H
  refine gc 5 F rfl fun _ F => gx F (Ah rfl underlying47 (fO s3 m0)) 3 rfl rfl fun _ F => AH F H 8 4 rfl rfl rfl (fun h4 H _ F => ?_) (fun h4 H _ F => ?_)
  ·obtain ⟨x1, h5, H⟩ := Aa H
   obtain ⟨a3, h6, h7⟩ := Ax Flat.u8 s3 m0 Br rfl h5
   refine gi F h6 0 rfl fun _ F => ?_
   obtain ⟨x2, h8, H⟩ := Aa H
   refine gx F (An BF rfl (Bn.at_ (SL.C0 Flat.u8 s3 m0 h7 h5) (o := 0) rfl)) 8 rfl rfl fun _ F => B5 F s3 (Jt (hr0.AN s3) h8) 1 rfl rfl rfl rfl fun w2 _ F s4 => BB 27 F H (fun h9 H F => ?_) (fun h9 H F => ?_)
   ·obtain ⟨x3, ha, H⟩ := Aa H
    refine gw 3 F rfl fun _ F => AK F rfl rfl <| B5 F s4 (Jt (hr0.AN s4) ha) 2 rfl rfl rfl rfl fun w3 _ F s5 => BB 33 F H (fun hb H F => ?_) (fun hb H F => ?_)
    ·obtain ⟨x4, hc, H⟩ := Aa H
     refine gw 3 F rfl fun _ F => AK F rfl rfl <| B5 F s5 (Jt (hr0.AN s5) hc) 3 rfl rfl rfl rfl fun w4 _ F s6 => AH F H 11 8 rfl rfl rfl (fun hd H _ F => ?_) (fun hd H _ F => ?_)
     ·cases H
      exact ⟨_, rfl, F.sb, s6⟩
     cases H
     exact ⟨_, rfl, F.sb, s6⟩
    cases H
    exact gw 16 F rfl fun _ F => ⟨_, rfl, F.sb, s5⟩
   cases H
   exact gw 22 F rfl fun _ F => ⟨_, rfl, F.sb, s4⟩
  cases H
  obtain rfl := hr _ rfl
  exact ⟨F.sb, s3.drop⟩
 intro _ w5 hJ
 obtain ⟨F, s7⟩ := hJ
 have H := R0
 clear R0 H0
 cases H
 exact ge 8 F rfl fun _ F => rt F ⟨rfl, s7⟩
theorem MO {w : World} {v0 : Value} {a0 : List A6} {a1 : A4} {a2 : A4} {r : A4 × Int} (hr0 : Rd AB w [] v0 a0) (H : HL a0 a1 a2 = some r) :
    Calls prog 150 #[v0, .agg ⟨(jI a1.Locals :: jI a1.Height :: AU a1.Slots)⟩, .agg ⟨(jI a2.Locals :: jI a2.Height :: AU a2.Slots)⟩] w (B9 fun u_ w_ => u_ = .tuple ⟨[.agg ⟨(jI r.1.Locals :: jI r.1.Height :: AU r.1.Slots)⟩, jI r.2]⟩ ∧ SL w [] w_ []) := by
 have s0 : SL w [] w [] := SL.Bt w
 refine BD func150 ntmps150 2 rfl rfl rfl fun _ F0 => ?_
 unfold HL at H
 refine Ar F0 s0 rfl rfl rfl fun g0 w0 _ F s1 => Ar F s1 rfl rfl rfl fun g1 w1 _ F s2 => Af F s2 AO rfl rfl fun g32 w2 _ F s3 => ?_
 obtain ⟨x0, h0, H⟩ := Aa H
 refine gw 7 F rfl fun _ F => D3 F s3 m2 0 rfl fun _ F => B5 F s3 (Kq (hr0.AN s3) h0) 9 rfl rfl rfl rfl fun w3 _ F s4 => AH F H 2 6 rfl rfl rfl (fun h1 H _ F => ?_) (fun h1 H _ F => ?_)
 ·refine gx F (Al (vs := []) AO Ch rfl (cs := jZ) (BG)) 1 rfl rfl fun _ F => ?_
  refine AP (ds := jZ) F s4 rfl rfl (by simpa using AX) (Ab rfl (Ab rfl (Bp _))) (by simp) fun w4 _ F s5 => ?_
  cases H
  refine gw 5 F rfl fun _ F => ?_
  refine Ak (rs := [.cell 6 118, .tmp 7]) (vs := [.agg ⟨jZ⟩, jI x0]) F (by rfl) ⟨_, _, rfl, Am s5 m0 rfl AZ (by simp), _, _, rfl, Ao rfl, rfl⟩ ⟨_, rfl, ⟨rfl, s5.drop.drop.drop⟩⟩
 obtain ⟨x1, h2, H⟩ := Aa H
 refine D3 F s4 m1 0 rfl fun _ F => B5 F s4 (Kq (hr0.AN s4) h2) 9 rfl rfl rfl rfl fun w5 _ F s6 => AH F H 2 6 rfl rfl rfl (fun h3 H _ F => ?_) (fun h3 H _ F => ?_)
 ·refine gx F (Al (vs := []) AO Ch rfl (cs := jZ) (BG)) 1 rfl rfl fun _ F => ?_
  refine AP (ds := jZ) F s6 rfl rfl (by simpa using AX) (Ab rfl (Ab rfl (Bp _))) (by simp) fun w6 _ F s7 => ?_
  cases H
  refine gw 5 F rfl fun _ F => ?_
  refine Ak (rs := [.cell 6 118, .tmp 7]) (vs := [.agg ⟨jZ⟩, jI x1]) F (by rfl) ⟨_, _, rfl, Am s7 m0 rfl AZ (by simp), _, _, rfl, Ao rfl, rfl⟩ ⟨_, rfl, ⟨rfl, s7.drop.drop.drop⟩⟩
 refine AG F s6 m2 1 rfl fun _ F => AG F s6 m1 2 rfl fun _ F => BB 30 F H (fun h4 H F => ?_) (fun h4 H F => ?_)
 ·refine gw 11 F rfl fun _ F => gx F (Al (vs := []) AO Ch rfl (cs := jZ) (BG)) 0 rfl rfl fun _ F => ?_
  refine AP (ds := jZ) F s6 rfl rfl (by simpa using AX) (Ab rfl (Ab rfl (Bp _))) (by simp) fun w7 _ F s8 => ?_
  cases H
  refine gw 5 F rfl fun _ F => ?_
  refine Ak (rs := [.cell 6 118, .tmp 7]) (vs := [.agg ⟨jZ⟩, jI 32]) F (by rfl) ⟨_, _, rfl, Am s8 m0 rfl AZ (by simp), _, _, rfl, Ao rfl, rfl⟩ ⟨_, rfl, ⟨rfl, s8.drop.drop.drop⟩⟩
 refine gw 1 F rfl fun _ F => AK F rfl rfl <| AG F s6 m2 1 rfl fun _ F => AK F rfl rfl <| AG F s6 m1 4 rfl fun _ F => AH F H 2 8 rfl rfl rfl (fun h5 H _ F => ?_) (fun h5 H _ F => ?_)
 ·refine gx F (Al (vs := []) AO Ch rfl (cs := jZ) (BG)) 0 rfl rfl fun _ F => ?_
  refine AP (ds := jZ) F s6 rfl rfl (by simpa using AX) (Ab rfl (Ab rfl (Bp _))) (by simp) fun w8 _ F s9 => ?_
  cases H
  refine gw 5 F rfl fun _ F => ?_
  refine Ak (rs := [.cell 6 118, .tmp 7]) (vs := [.agg ⟨jZ⟩, jI 32]) F (by rfl) ⟨_, _, rfl, Am s9 m0 rfl AZ (by simp), _, _, rfl, Ao rfl, rfl⟩ ⟨_, rfl, ⟨rfl, s9.drop.drop.drop⟩⟩
 obtain ⟨o0, H0, R0⟩ := Aa H
 clear H
 refine BA (fun a w_ => Fr a 61 [(4, jP g0), (6, jP g32)] ∧ SL w [] w_ [A8 g32 118 jZ, A8 g0 118 (jI a1.Locals :: jI a1.Height :: AU o0)]) ?_ ?_
 ·have H := H0
  refine gc 1 F rfl fun _ F => Cy (Fu a0 a1 a2) (fun sa a w_ => Fr a 61 [(0, v0), (4, jP g0), (5, jP g1), (6, jP g32), (10, jI sa.2)] ∧ SL w [] w_ [A8 g32 118 jZ, A8 g1 118 (jI a2.Locals :: jI a2.Height :: AU a2.Slots), A8 g0 118 (jI a1.Locals :: jI a1.Height :: AU sa.1)]) H ?_ ?_
  ·exact ⟨F.sb, s6⟩
  intro sa _ w9 h6 o1 H hr
  obtain ⟨F, sc⟩ := h6
  replace H : Fu a0 a1 a2 sa = some o1 := H
  unfold Fu at H
  refine gc 5 F rfl fun _ F => AG F sc m2 1 rfl fun _ F => AG F sc m2 4 rfl fun _ F => AH F H 4 4 rfl rfl rfl (fun h7 H _ F => ?_) (fun h7 H _ F => ?_)
  ·obtain ⟨x2, h8, H⟩ := Aa H
   obtain ⟨x3, h9, H⟩ := Aa H
   obtain ⟨x4, ha, H⟩ := Aa H
   obtain ⟨x5, hb, H⟩ := Aa H
   refine Cq Bq sc.f2.drop ?_
   have sd := sc.drew
   refine hq [0, 1, 2, 3, 6, 7, 8, 9, 11] F sd.f2.drop (QI.ev 6 rfl <| QI.op rfl (fun _ hC => Ef Db h9 rfl rfl) rfl <| QI.op rfl (fun _ hC => An BF rfl (SL.Iu (pre := [jI a2.Locals, jI a2.Height]) hC m1 rfl h9)) rfl <| QI.ev 1 rfl <| QI.nil) (by kernel_rfl) fun _ F => ?_
   refine ho 4 rfl (by kernel_rfl) ?_
   refine gx F (Ef Db h8 rfl rfl) 1 rfl rfl fun _ F => ⟨sd.f2.drop, ?_⟩
   refine ho 5 rfl (by kernel_rfl) ?_
   refine gx F (An BF rfl (SL.Iu (pre := [jI a1.Locals, jI a1.Height]) sd m2 rfl h8)) 1 rfl rfl fun _ F => ⟨sd.f2.drop, ?_⟩
   refine ho 10 rfl (by kernel_rfl) ?_
   refine B5 F sd (Q7 (hr0.AN sd) ha) 1 rfl rfl rfl rfl fun wa _ F se => ⟨se.f2.drop, ?_⟩
   refine ho 12 rfl (by kernel_rfl) ?_
   refine gx F (Ef Db hb rfl rfl) 1 rfl rfl fun _ F => ⟨se.f2.drop, ?_⟩
   refine ho 13 rfl (by kernel_rfl) ?_
   refine Jo (y' := x4) (pre := [jI a1.Locals, jI a1.Height]) F se.f2 rfl hb rfl rfl JL fun wb _ F sf => gw 1 F rfl fun _ F => ⟨sf.drop, ?_⟩
   refine CP (by kernel_rfl) ?_
   cases H
   exact ge 7 F rfl fun _ F => ⟨_, rfl, F.sb, sf.f2.f2⟩
  cases H
  obtain rfl := hr _ rfl
  exact ⟨F.sb, sc.f1.drop⟩
 intro _ wc hJ
 obtain ⟨F, sg⟩ := hJ
 have H := R0
 clear R0 H0
 refine ge 3 F rfl fun _ F => D3 F sg m1 0 rfl fun _ F => ?_
 refine AP (ds := (jI a1.Locals :: jI a1.Height :: AU o0)) F sg rfl rfl (by simpa using AX) (Ab rfl (Ab rfl (Bp _))) (by simp) fun wd _ F sh => ?_
 cases H
 refine gw 4 F rfl fun _ F => ?_
 refine Ak (rs := [.cell 6 118, .tmp 7]) (vs := [.agg ⟨(jI a1.Locals :: jI a1.Height :: AU o0)⟩, jI 0]) F (by rfl) ⟨_, _, rfl, Am sh m0 rfl AZ (by simp), _, _, rfl, Ao rfl, rfl⟩ ⟨_, rfl, ⟨rfl, sh.drop.drop⟩⟩
theorem O0 {w : World} {FF : List Nat} {v0_0 v0_1 v0_2 v0_3 v1 : Value} {a0 : AM} {a1 : List A6} {a2 : Int} {a3 : A4} {r : Int × AM} (hst : B1 [Sl Ty.bool v0_0 a0.Has, Sl BM v0_1 a0.Frame, Sl Ty.bool v0_2 a0.C2, Sl (Ty.int .i64) v0_3 a0.Taken] w FF) (hr1 : Rd AB w FF v1 a1) (H : FV a0 a1 a2 a3 = some r) :
    Calls prog 125 #[.agg ⟨[v0_0, v0_1, v0_2, v0_3]⟩, v1, jI a2, .agg ⟨(jI a3.Locals :: jI a3.Height :: AU a3.Slots)⟩] w (B9 fun u_ w_ => u_ = jI r.1 ∧ SL w FF w_ [Sl Ty.bool v0_0 r.2.Has, Sl BM v0_1 r.2.Frame, Sl Ty.bool v0_2 r.2.C2, Sl (Ty.int .i64) v0_3 r.2.Taken]) := by
 have s0 : SL w FF w [Sl Ty.bool v0_0 a0.Has, Sl BM v0_1 a0.Frame, Sl Ty.bool v0_2 a0.C2, Sl (Ty.int .i64) v0_3 a0.Taken] := SL.init w FF hst
 refine BD func125 ntmps125 2 rfl rfl rfl fun _ F0 => ?_
 unfold FV at H
 refine Ar F0 s0 rfl rfl rfl fun g0 w0 _ F s1 => Ar F s1 rfl rfl rfl fun g1 w1 _ F s2 => ?_
 obtain ⟨x0, h0, H⟩ := Aa H
 obtain ⟨a4, h1, h2⟩ := Ax Flat.bool s2 m2 Co rfl h0
 refine gw 7 F rfl fun _ F => AG F s2 m1 1 rfl fun _ F => gi F h1 0 rfl fun _ F => gx F (An Vq rfl (Bn.at_ (SL.C0 Flat.bool s2 m2 h2 h0) (o := 0) rfl)) 3 rfl rfl fun _ F => AH F H 1 3 rfl rfl rfl (fun h3 H _ F => ?_) (fun h3 H _ F => ?_)
 ·obtain ⟨x1, h4, H⟩ := Aa H
  obtain ⟨x2, h5, H⟩ := Aa H
  obtain ⟨x3, h6, H⟩ := Aa H
  refine Cq Bq s2.f2.drop.f2.drop.f2.drop ?_
  refine hq [0, 1, 2, 3, 4, 5, 6, 7, 8, 9] F s2.drew.f2.drop.f2.drop.f2.drop (QI.ev 1 rfl <| QI.ld m1 rfl <| QI.ev 2 rfl <| QI.ld m1 rfl <| QI.ev 2 rfl <| QI.ld m1 rfl <| QI.ev 1 rfl <| QI.op rfl (fun _ hC => Av AZ rfl (hC.Dk m0 (o := 0) (ds := (jI a3.Locals :: jI a3.Height :: AU a3.Slots)) (Ib (pre := []) rfl rfl)) (by simp)) rfl <| QI.nil) (by kernel_rfl) fun _ F => ?_
  refine ho 10 rfl (by kernel_rfl) ?_
  obtain ⟨a5, h7, h8⟩ := Ax Flat.bool s2.drew m2 Co rfl h4
  refine gi F h7 1 rfl fun _ F => ⟨s2.drew.f2.drop.f2.drop.f2.drop, ?_⟩
  refine ho 11 rfl (by kernel_rfl) ?_
  refine Bc (y' := true) Flat.bool F s2.drew.f2 h8 h4 rfl rfl (by rfl) NZ fun w2 _ F s3 => ?_
  refine gw 1 F rfl fun _ F => ⟨s3.drop.f2.drop.f2.drop, ?_⟩
  refine ho 12 rfl (by kernel_rfl) ?_
  obtain ⟨a6, h9, ha⟩ := Ax Cj s3 m3 D9 rfl h5
  refine gi F h9 1 rfl fun _ F => ⟨s3.drop.f2.drop.f2.drop, ?_⟩
  refine ho 13 rfl (by kernel_rfl) ?_
  refine Bc (y' := (⟨a3.Locals, a3.Height, a3.Slots⟩ : A4)) Cj F s3.f3 ha h5 rfl rfl (by rfl) AX fun w3 _ F s4 => ?_
  refine gw 1 F rfl fun _ F => ⟨s4.drop.drop.f2.drop, ?_⟩
  refine ho 14 rfl (by kernel_rfl) ?_
  obtain ⟨a7, hb, hc⟩ := Ax Flat.bool s4 m4 Co rfl h6
  refine gi F hb 1 rfl fun _ F => ⟨s4.drop.drop.f2.drop, ?_⟩
  refine ho 15 rfl (by kernel_rfl) ?_
  refine Bc (y' := true) Flat.bool F s4.f4 hc h6 rfl rfl (by rfl) NZ fun w4 _ F s5 => ?_
  refine gw 1 F rfl fun _ F => ⟨s5.drop.drop.drop, ?_⟩
  refine CP (by kernel_rfl) ?_
  cases H
  exact ge 8 F rfl fun _ F => rt F ⟨rfl, s5.f3.drop.f3.drop.f3.f1.f2.f3⟩
 obtain ⟨x4, hd, H⟩ := Aa H
 obtain ⟨x5, he, H⟩ := Aa H
 refine Cq Bq s2 ?_
 obtain ⟨a8, hf, hg⟩ := FK Cj (fun _ hC => (hC.BK m3)) s2.drew D9 rfl hd
 refine hq [0, 1, 2, 3, 4, 5, 6] F s2.drew (QI.ev 2 rfl <| QI.ld m1 rfl <| QI.ev 1 rfl <| QI.ix hf rfl <| QI.op rfl (fun _ hC => Av AZ rfl (hg _ hC) (by simp)) rfl <| QI.op rfl (fun _ hC => Av AZ rfl (hC.Dk m0 (o := 0) (ds := (jI a3.Locals :: jI a3.Height :: AU a3.Slots)) (Ib (pre := []) rfl rfl)) (by simp)) rfl <| QI.nil) (by kernel_rfl) fun _ F => ?_
 refine CJ [0, 1, 2, 3, 4, 5, 6, 7, 8, 9, 10, 11, 12] (fun a w_ => ∃ g2 : Nat, Fr a 60 [(2, jI a2), (4, jP g0), (9, jP g2), (40, jI x5.2)] ∧ SL w FF w_ [A8 g1 118 (jI a3.Locals :: jI a3.Height :: AU a3.Slots), A8 g0 164 [v0_0, v0_1, v0_2, v0_3], Sl Ty.bool v0_0 a0.Has, Sl BM v0_1 a0.Frame, Sl Ty.bool v0_2 a0.C2, Sl (Ty.int .i64) v0_3 a0.Taken, A8 g2 118 (jI x5.1.Locals :: jI x5.1.Height :: AU x5.1.Slots)]) ?_ fun hD0 => ?_
 ·rintro a w_ ⟨g2, F, s6⟩
  refine hq [13] F s6.f6.drop (QI.ev 1 rfl <| QI.nil) (by kernel_rfl) fun _ F => ?_
  refine CP (by kernel_rfl) ?_
  refine ge 8 F rfl fun _ F => AH F H 8 4 rfl rfl rfl (fun hh H _ F => ?_) (fun hh H _ F => ?_)
  ·cases H
   exact rt F ⟨rfl, s6.drop.drop.f4.drop⟩
  obtain ⟨x6, hi, H⟩ := Aa H
  obtain ⟨a9, hj, hk⟩ := FK Cj (fun _ hC => (hC.BK m3)) s6 D9 rfl hi
  refine HA Bq s6 F (QR.qo (fun _ hC => Av AZ rfl (hC.Dk m6 (o := 0) (ds := (jI x5.1.Locals :: jI x5.1.Height :: AU x5.1.Slots)) (Ib (pre := []) rfl rfl)) (by simp)) rfl <| QR.ev 1 rfl <| QR.ld m1 rfl <| QR.ev 1 rfl <| QR.ix hj rfl <| QR.qo (fun _ hC => Av AZ rfl (hk _ hC) (by simp)) rfl <| QR.qo (fun _ hC => SY (xs := (jI x5.1.Locals :: jI x5.1.Height :: AU x5.1.Slots)) (ys := (jI x6.Locals :: jI x6.Height :: AU x6.Slots)) N7 (by decide) rfl rfl (SI N7 Uv (Bi rfl (Bj BE rfl) (Bj BE rfl) (EqAt.up (j := 2) (N8 underlying3) (by decide)) (Bi rfl (Bj BE rfl) (Bj BE rfl) (EqAt.up (j := 2) (N8 underlying3) (by decide)) (Bi rfl (Qk Lh (OJ (pre := [jI x5.1.Locals, jI x5.1.Height]) rfl rfl) (by simp)) (Qk Lh (OJ (pre := [jI x6.Locals, jI x6.Height]) rfl rfl) (by simp)) (EqAt.up (j := 2) (Uf Db underlying48 Vm) (by decide)) SR))))) rfl <| Bb) fun w5 _ s7 F => ?_
  refine ge 1 F rfl fun _ F => AH F H 0 8 rfl rfl rfl (fun hl H _ F => ?_) (fun hl H _ F => ?_)
  ·obtain ⟨x7, hm, H⟩ := Aa H
   obtain ⟨x8, hn, H⟩ := Aa H
   refine Cq Bq s7.f3.drop.f3.drop ?_
   refine hq [0, 1, 2, 3, 4, 5, 6] F s7.drew.f3.drop.f3.drop (QI.ev 1 rfl <| QI.ld m1 rfl <| QI.ev 2 rfl <| QI.ld m1 rfl <| QI.ev 1 rfl <| QI.op rfl (fun _ hC => Av AZ rfl (hC.Dk m4 (o := 0) (ds := (jI x5.1.Locals :: jI x5.1.Height :: AU x5.1.Slots)) (Ib (pre := []) rfl rfl)) (by simp)) rfl <| QI.nil) (by kernel_rfl) fun _ F => ?_
   refine ho 7 rfl (by kernel_rfl) ?_
   obtain ⟨aa, hp, hr⟩ := Ax Cj s7.drew m3 D9 rfl hm
   refine gi F hp 1 rfl fun _ F => ⟨s7.drew.f3.drop.f3.drop, ?_⟩
   refine ho 8 rfl (by kernel_rfl) ?_
   refine Bc (y' := (⟨x5.1.Locals, x5.1.Height, x5.1.Slots⟩ : A4)) Cj F s7.drew.f3 hr hm rfl rfl (by rfl) AX fun w6 _ F s8 => ?_
   refine gw 1 F rfl fun _ F => ⟨s8.drop.f3.drop, ?_⟩
   refine ho 9 rfl (by kernel_rfl) ?_
   obtain ⟨ab, hs, ht⟩ := Ax Flat.bool s8 m4 Co rfl hn
   refine gi F hs 1 rfl fun _ F => ⟨s8.drop.f3.drop, ?_⟩
   refine ho 10 rfl (by kernel_rfl) ?_
   refine Bc (y' := true) Flat.bool F s8.f4 ht hn rfl rfl (by rfl) NZ fun w7 _ F s9 => ?_
   refine gw 1 F rfl fun _ F => ⟨s9.drop.drop, ?_⟩
   refine CP (by kernel_rfl) ?_
   cases H
   exact ge 7 F rfl fun _ F => rt F ⟨rfl, s9.f2.drop.f2.drop.f4.drop.f3.f1.f2.f3⟩
  cases H
  exact rt F ⟨rfl, s7.drop.drop.f4.drop⟩
 refine E5 7 11 rfl rfl (by kernel_rfl) ?_ ?_
 ·refine B5 F s2.drew (MO (hr1.AN s2.drew) he) 1 rfl rfl rfl rfl fun w8 _ F sa => ⟨sa, ?_⟩
  refine hq [8, 9, 10] F sa (QI.ev 3 rfl <| QI.nil) (by kernel_rfl) fun _ F => ?_
  refine ho 11 rfl (by kernel_rfl) ?_
  refine Af F sa AO rfl rfl fun g2 w9 _ F sc => gw 1 F rfl fun _ F => ⟨sc.drop, ?_⟩
  refine ho 12 rfl (by kernel_rfl) ?_
  refine AP (ds := (jI x5.1.Locals :: jI x5.1.Height :: AU x5.1.Slots)) F sc rfl rfl (by simpa using AX) (Ab rfl (Ab rfl (Bp _))) (by simp) fun wa _ F sd => ?_
  exact gw 1 F rfl fun _ F => ⟨sd.drop, BJ hD0 ⟨g2, F.sb, sd.f6.f6.f6.f6.f6.f6⟩ (by kernel_rfl)⟩
 refine Af F s2.drew AO rfl rfl fun g2 w9 _ F sc => gw 1 F rfl fun _ F => ⟨sc.drop, ?_⟩
 refine ho 7 rfl (by kernel_rfl) ?_
 refine B5 F sc (MO (hr1.AN sc) he) 1 rfl rfl rfl rfl fun w8 _ F sa => ⟨sa.drop, ?_⟩
 refine hq [8, 9, 10] F sa.drop (QI.ev 3 rfl <| QI.nil) (by kernel_rfl) fun _ F => ?_
 refine ho 12 rfl (by kernel_rfl) ?_
 refine AP (ds := (jI x5.1.Locals :: jI x5.1.Height :: AU x5.1.Slots)) F sa rfl rfl (by simpa using AX) (Ab rfl (Ab rfl (Bp _))) (by simp) fun wa _ F sd => ?_
 exact gw 1 F rfl fun _ F => ⟨sd.drop, BJ hD0 ⟨g2, F.sb, sd.f6.f6.f6.f6.f6.f6⟩ (by kernel_rfl)⟩
theorem Jh {w : World} {v0 : Value} {a0 : List UInt8} {a1 : Int} {r : Int} (hr0 : Rd Ty.u8 w [] v0 a0) (H : Hh a0 a1 = some r) :
    Calls prog 86 #[v0, jI a1] w (B9 fun u_ w_ => u_ = jI r ∧ SL w [] w_ []) := by
 have s0 : SL w [] w [] := SL.Bt w
 refine BD func86 ntmps86 16 rfl rfl rfl fun _ F => ?_
 unfold Hh at H
 obtain ⟨o0, H0, R0⟩ := Aa H
 clear H
 refine BA (fun a w_ => Fr a 29 [(1, jI a1), (5, jI o0)] ∧ SL w [] w_ []) ?_ ?_
 ·have H := H0
  refine gc 1 F rfl fun _ F => Cy (EK a0 a1) (fun s1 a w_ => Fr a 29 [(0, v0), (1, jI a1), (5, jI s1.1), (6, jI s1.2)] ∧ SL w [] w_ []) H ?_ ?_
  ·exact ⟨F.sb, s0⟩
  intro s1 _ w0 h0 o1 H hr
  obtain ⟨F, s2⟩ := h0
  replace H : EK a0 a1 s1 = some o1 := H
  unfold EK at H
  refine gc 8 F rfl fun _ F => AH F H 9 4 rfl rfl rfl (fun h1 H _ F => ?_) (fun h1 H _ F => ?_)
  ·obtain ⟨x0, h2, H⟩ := Aa H
   obtain ⟨a2, h3, h4⟩ := HM Flat.u8 (Eb hr0 s2) DX rfl h2
   refine gi F h3 0 rfl fun _ F => gx F (An LJ rfl (Bn.at_ h4 (o := 0) rfl)) 0 rfl rfl fun _ F => ?_
   cases H
   exact gx F (Lr rfl underlying5 underlying3) 10 rfl rfl fun _ F => ⟨_, rfl, F.sb, s2⟩
  cases H
  obtain rfl := hr _ rfl
  exact ⟨F.sb, s2⟩
 intro _ w1 hJ
 obtain ⟨F, s3⟩ := hJ
 have H := R0
 clear R0 H0
 refine ge 7 F rfl fun _ F => BB 22 F H (fun h5 H F => ?_) (fun h5 H F => ?_)
 ·refine gw 5 F rfl fun _ F => AH F H 13 9 rfl rfl rfl (fun h6 H _ F => ?_) (fun h6 H _ F => ?_)
  ·cases H
   exact rt F ⟨rfl, s3⟩
  cases H
  exact rt F ⟨rfl, s3⟩
 cases H
 exact gw 15 F rfl fun _ F => rt F ⟨rfl, s3⟩
theorem JQ {w : World} {v0 : Value} {a0 : List UInt8} {a1 : Int} {r : A9 × Int} (hr0 : Rd Ty.u8 w [] v0 a0) (H : En a0 a1 = some r) :
    Calls prog 57 #[v0, jI a1] w (B9 fun u_ w_ => u_ = .tuple ⟨[.agg ⟨[jI r.1.At, jU (r.1.Op.toNat : Int), jI r.1.A, jI r.1.B]⟩, jI r.2]⟩ ∧ SL w [] w_ []) := by
 have s0 : SL w [] w [] := SL.Bt w
 refine BD func57 ntmps57 2 rfl rfl rfl fun _ F0 => ?_
 unfold En at H
 refine Af F0 s0 DZ rfl rfl fun g8 w9 _ F s1 => gw 5 F rfl fun _ F => Af F s1 DZ rfl rfl fun g0 w0 _ F s2 => gw 8 F rfl fun _ F => BB 14 F H (fun h0 H F => ?_) (fun h0 H F => ?_)
 ·refine gw 10 F rfl fun _ F => AG F s2 m0 0 rfl fun _ F => Ai F s2.f1 rfl rfl D4 (Ab rfl (Ab rfl (Ab rfl (Ab rfl Ap)))) (Ac rfl) fun w1 _ F s3 => ?_
  cases H
  refine gw 5 F rfl fun _ F => ?_
  refine Ak (rs := [.cell 4 79, .tmp 5]) (vs := [.agg ⟨[jI 0, jU 0, jI 0, jI 0]⟩, jI 1]) F (by rfl) ⟨_, _, rfl, Am s3 m0 rfl Eh rfl, _, _, rfl, Ao rfl, rfl⟩ ⟨_, rfl, ⟨rfl, s3.drop.drop⟩⟩
 refine gw 2 F rfl fun _ F => AK F rfl rfl <| gx F (Ah rfl underlying42 (fR hr0 s2)) 4 rfl rfl fun _ F => AH F H 2 7 rfl rfl rfl (fun h1 H _ F => ?_) (fun h1 H _ F => ?_)
 ·refine AG F s2 m0 0 rfl fun _ F => Ai F s2.f1 rfl rfl D4 (Ab rfl (Ab rfl (Ab rfl (Ab rfl Ap)))) (Ac rfl) fun w2 _ F s4 => ?_
  cases H
  refine gw 5 F rfl fun _ F => ?_
  refine Ak (rs := [.cell 4 79, .tmp 5]) (vs := [.agg ⟨[jI 0, jU 0, jI 0, jI 0]⟩, jI 1]) F (by rfl) ⟨_, _, rfl, Am s4 m0 rfl Eh rfl, _, _, rfl, Ao rfl, rfl⟩ ⟨_, rfl, ⟨rfl, s4.drop.drop⟩⟩
 refine gx F (Ah rfl underlying42 (fR hr0 s2)) 3 rfl rfl fun _ F => AH F H 2 6 rfl rfl rfl (fun h2 H _ F => ?_) (fun h2 H _ F => ?_)
 ·refine AG F s2 m0 0 rfl fun _ F => Ai F s2.f1 rfl rfl D4 (Ab rfl (Ab rfl (Ab rfl (Ab rfl Ap)))) (Ac rfl) fun w3 _ F s5 => ?_
  cases H
  refine gw 5 F rfl fun _ F => ?_
  refine Ak (rs := [.cell 4 79, .tmp 5]) (vs := [.agg ⟨[jI 0, jU 0, jI 0, jI 0]⟩, jI 2]) F (by rfl) ⟨_, _, rfl, Am s5 m0 rfl Eh rfl, _, _, rfl, Ao rfl, rfl⟩ ⟨_, rfl, ⟨rfl, s5.drop.drop⟩⟩
 obtain ⟨x0, h3, H⟩ := Aa H
 obtain ⟨a2, h4, h5⟩ := HM Flat.u8 (Eb hr0 s2) DX rfl h3
 refine gi F h4 0 rfl fun _ F => ?_
 obtain ⟨x1, h6, H⟩ := Aa H
 refine gx F (An LJ rfl (Bn.at_ h5 (o := 0) rfl)) 6 rfl rfl fun _ F => B5 F s2 (Ji h6) 10 rfl rfl rfl rfl fun w4 _ F s6 => AH F H 2 6 rfl rfl rfl (fun h7 H _ F => ?_) (fun h7 H _ F => ?_)
 ·refine AG F s6 m0 0 rfl fun _ F => Ai F s6.f1 rfl rfl D4 (Ab rfl (Ab rfl (Ab rfl (Ab rfl Ap)))) (Ac rfl) fun w5 _ F s7 => ?_
  cases H
  refine gw 5 F rfl fun _ F => ?_
  refine Ak (rs := [.cell 4 79, .tmp 5]) (vs := [.agg ⟨[jI 0, jU 0, jI 0, jI 0]⟩, jI 40]) F (by rfl) ⟨_, _, rfl, Am s7 m0 rfl Eh rfl, _, _, rfl, Ao rfl, rfl⟩ ⟨_, rfl, ⟨rfl, s7.drop.drop⟩⟩
 refine gx F (Ah rfl underlying42 (fR hr0 s6)) 6 rfl rfl fun _ F => AH F H 2 5 rfl rfl rfl (fun h8 H _ F => ?_) (fun h8 H _ F => ?_)
 ·refine AG F s6 m0 0 rfl fun _ F => Ai F s6.f1 rfl rfl D4 (Ab rfl (Ab rfl (Ab rfl (Ab rfl Ap)))) (Ac rfl) fun w6 _ F s8 => ?_
  cases H
  refine gw 5 F rfl fun _ F => ?_
  refine Ak (rs := [.cell 4 79, .tmp 5]) (vs := [.agg ⟨[jI 0, jU 0, jI 0, jI 0]⟩, jI 2]) F (by rfl) ⟨_, _, rfl, Am s8 m0 rfl Eh rfl, _, _, rfl, Ao rfl, rfl⟩ ⟨_, rfl, ⟨rfl, s8.drop.drop⟩⟩
 obtain ⟨x2, h9, H⟩ := Aa H
 refine B5 F s6 (Nt h9) 8 rfl rfl rfl rfl fun w7 _ F s9 => ?_
 obtain ⟨x3, ha, H⟩ := Aa H
 obtain ⟨x4, hb, H⟩ := Aa H
 obtain ⟨x5, hc, H⟩ := Aa H
 obtain ⟨x6, hd, H⟩ := Aa H
 refine Cq Bq s9 ?_
 obtain ⟨v1, he, hf⟩ := Rd.cut hr0 DX rfl ha (some (wr (a1 + 1))) none (.inl rfl) (.inr ⟨rfl, rfl⟩)
 obtain ⟨v2, hg, hh⟩ := Rd.cut hr0 DX rfl hc (some (wr ((wr (a1 + 1)) + x2.1))) none (.inl rfl) (.inr ⟨rfl, rfl⟩)
 refine hq [0, 1, 2, 3, 4, 5, 6, 8, 9, 10, 11, 12, 13, 14] F s9.drew (QI.ev 5 rfl <| QI.op rfl (fun _ hC => he _ _ _ _ _ .i64 .i64 _ _ _ _ _ rfl rfl trivial) rfl <| QI.ev 6 rfl <| QI.op rfl (fun _ hC => hg _ _ _ _ _ .i64 .i64 _ _ _ _ _ rfl rfl trivial) rfl <| QI.ev 1 rfl <| QI.nil) (by kernel_rfl) fun _ F => ?_
 refine CJ [0, 1, 2, 3, 4, 5, 6, 7, 8, 9, 10, 11, 12, 13, 14, 15, 16, 17, 18] (fun a w_ => ∃ g1 : Nat, Fr a 73 [(4, jP g8), (6, jP g0), (7, jU (x0.toNat : Int)), (11, jP g1)] ∧ SL w [] w_ [A8 g0 79 [jI 0, jU 0, jI 0, jI 0], A8 g8 79 [jI 0, jU 0, jI 0, jI 0], A8 g1 79 [jI a1, jU (x0.toNat : Int), jI x4, jI x6]]) ?_ fun hD0 => ?_
 ·rintro a w_ ⟨g1, F, sa⟩
  refine CP (by kernel_rfl) ?_
  refine ge 7 F rfl fun _ F => BB 66 F H (fun hi H F => ?_) (fun hi H F => ?_)
  ·refine gw 1 F rfl fun _ F => AK F rfl rfl <| AG F sa m2 4 rfl fun _ F => AH F H 2 4 rfl rfl rfl (fun hj H _ F => ?_) (fun hj H _ F => ?_)
   ·refine AG F sa m0 0 rfl fun _ F => Ai F sa.f1 rfl rfl D4 (Ab rfl (Ab rfl (Ab rfl (Ab rfl Ap)))) (Ac rfl) fun w8 _ F sc => ?_
    cases H
    refine gw 5 F rfl fun _ F => ?_
    refine Ak (rs := [.cell 4 79, .tmp 5]) (vs := [.agg ⟨[jI 0, jU 0, jI 0, jI 0]⟩, jI 5]) F (by rfl) ⟨_, _, rfl, Am sc m0 rfl Eh rfl, _, _, rfl, Ao rfl, rfl⟩ ⟨_, rfl, ⟨rfl, sc.drop.drop.drop⟩⟩
   refine AG F sa m2 0 rfl fun _ F => Ai F sa.f1 rfl rfl D4 (Ab rfl (Ab rfl (Ab rfl (Ab rfl Ap)))) (Ac rfl) fun wa _ F sd => ?_
   cases H
   refine gw 4 F rfl fun _ F => ?_
   refine Ak (rs := [.cell 4 79, .tmp 5]) (vs := [.agg ⟨[jI a1, jU (x0.toNat : Int), jI x4, jI x6]⟩, jI 0]) F (by rfl) ⟨_, _, rfl, Am sd m0 rfl Eh rfl, _, _, rfl, Ao rfl, rfl⟩ ⟨_, rfl, ⟨rfl, sd.drop.drop.drop⟩⟩
  refine gw 11 F rfl fun _ F => AG F sa m2 0 rfl fun _ F => Ai F sa.f1 rfl rfl D4 (Ab rfl (Ab rfl (Ab rfl (Ab rfl Ap)))) (Ac rfl) fun wb _ F se => ?_
  cases H
  refine gw 4 F rfl fun _ F => ?_
  refine Ak (rs := [.cell 4 79, .tmp 5]) (vs := [.agg ⟨[jI a1, jU (x0.toNat : Int), jI x4, jI x6]⟩, jI 0]) F (by rfl) ⟨_, _, rfl, Am se m0 rfl Eh rfl, _, _, rfl, Ao rfl, rfl⟩ ⟨_, rfl, ⟨rfl, se.drop.drop.drop⟩⟩
 refine CJ [0, 1, 2, 3, 4, 5, 6, 7, 8, 9, 10, 11, 12, 13, 14, 17] (fun a w_ => ∃ g1 : Nat, Fr a 73 [(4, jP g8), (6, jP g0), (7, jU (x0.toNat : Int)), (11, jP g1), (47, jI a1), (48, jU (x0.toNat : Int)), (54, jI x4), (60, v2), (61, jI x2.2)] ∧ SL w [] w_ [A8 g0 79 [jI 0, jU 0, jI 0, jI 0], A8 g8 79 [jI 0, jU 0, jI 0, jI 0], A8 g1 79 [jI 0, jU 0, jI 0, jI 0]]) ?_ fun hD1 => ?_
 ·rintro a w_ ⟨g1, F, sf⟩
  refine ho 15 rfl (by kernel_rfl) ?_
  refine B5 F sf (Jh (hh.AN sf) hd) 1 rfl rfl rfl rfl fun wc _ F sg => ⟨sg.f2.drop, ?_⟩
  refine hq [16] F sg.f2.drop (QI.op rfl (fun _ hC => Al (vs := [jI a1, jU (x0.toNat : Int), jI x4, jI x6]) DZ SV rfl (cs := [jI a1, jU (x0.toNat : Int), jI x4, jI x6]) (rfl)) rfl <| QI.nil) (by kernel_rfl) fun _ F => ?_
  refine ho 18 rfl (by kernel_rfl) ?_
  exact Ai F sg.f2 rfl rfl D4 (Ab rfl (Ab rfl (Ab rfl (Ab rfl Ap)))) (Ac rfl) fun wd _ F sh => gw 1 F rfl fun _ F => ⟨sh.drop, BJ hD0 ⟨g1, F.sb, sh.f2.f2⟩ (by kernel_rfl)⟩
 refine E5 7 17 rfl rfl (by kernel_rfl) ?_ ?_
 ·refine B5 F s9.drew (Jh (hf.AN s9.drew) hb) 1 rfl rfl rfl rfl fun we _ F si => ⟨si, ?_⟩
  refine E5 15 17 rfl rfl (by kernel_rfl) ?_ ?_
  ·refine B5 F si (Jh (hh.AN si) hd) 1 rfl rfl rfl rfl fun wc _ F sg => ⟨sg, ?_⟩
   refine hq [16] F sg (QI.op rfl (fun _ hC => Al (vs := [jI a1, jU (x0.toNat : Int), jI x4, jI x6]) DZ SV rfl (cs := [jI a1, jU (x0.toNat : Int), jI x4, jI x6]) (rfl)) rfl <| QI.nil) (by kernel_rfl) fun _ F => ?_
   refine ho 17 rfl (by kernel_rfl) ?_
   refine Af F sg DZ rfl rfl fun g1 wf _ F sj => gw 1 F rfl fun _ F => ⟨sj.drop, ?_⟩
   refine ho 18 rfl (by kernel_rfl) ?_
   exact Ai F sj rfl rfl D4 (Ab rfl (Ab rfl (Ab rfl (Ab rfl Ap)))) (Ac rfl) fun wd _ F sh => gw 1 F rfl fun _ F => ⟨sh.drop, BJ hD0 ⟨g1, F.sb, sh.f2.f2⟩ (by kernel_rfl)⟩
  exact Af F si DZ rfl rfl fun g1 wf _ F sj => gw 1 F rfl fun _ F => ⟨sj.drop, BJ hD1 ⟨g1, F.sb, sj.f2.f2⟩ (by kernel_rfl)⟩
 refine Af F s9.drew DZ rfl rfl fun g1 wf _ F sj => gw 1 F rfl fun _ F => ⟨sj.drop, ?_⟩
 refine ho 7 rfl (by kernel_rfl) ?_
 exact B5 F sj (Jh (hf.AN sj) hb) 1 rfl rfl rfl rfl fun we _ F si => ⟨si.drop, BJ hD1 ⟨g1, F.sb, si.f2.f2⟩ (by kernel_rfl)⟩
theorem QA {w : World} {a0 : UInt8} {r : Bool} (H : Jx a0 = some r) :
    Calls prog 93 #[jU (a0.toNat : Int)] w (B9 fun u_ w_ => u_ = .bool r ∧ SL w [] w_ []) := by
 have s0 : SL w [] w [] := SL.Bt w
 refine BD func93 ntmps93 10 rfl rfl rfl fun _ F8 => ?_
 unfold Jx at H
 refine BB 5 F8 H (fun hb9 H F => ?_) (fun hb9 H F => ?_)
 ·cases H
  exact gw 7 F rfl fun _ F => rt F ⟨rfl, s0⟩
 cases H
 exact gw 7 F rfl fun _ F => rt F ⟨rfl, s0⟩
theorem Rm {w : World} {a0 : UInt8} {r : Bool} (H : JE a0 = some r) :
    Calls prog 94 #[jU (a0.toNat : Int)] w (B9 fun u_ w_ => u_ = .bool r ∧ SL w [] w_ []) := by
 have s0 : SL w [] w [] := SL.Bt w
 refine BD func94 ntmps94 10 rfl rfl rfl fun _ F => ?_
 unfold JE at H
 refine BB 5 F H (fun h0 H F => ?_) (fun h0 H F => ?_)
 ·cases H
  exact gw 11 F rfl fun _ F => rt F ⟨rfl, s0⟩
 refine gw 4 F rfl fun _ F => BB 9 F H (fun h1 H F => ?_) (fun h1 H F => ?_)
 ·cases H
  exact gw 7 F rfl fun _ F => rt F ⟨rfl, s0⟩
 cases H
 exact gw 7 F rfl fun _ F => rt F ⟨rfl, s0⟩
theorem Ov {w : World} {a0 : A9} {a1 : Int} {r : (List Int) × Int} (H : Ij a0 a1 = some r) :
    Calls prog 60 #[.agg ⟨[jI a0.At, jU (a0.Op.toNat : Int), jI a0.A, jI a0.B]⟩, jI a1] w (B9 fun u_ w_ => ∃ u0 : Value, u_ = .tuple ⟨[u0, jI r.2]⟩ ∧ SL w [] w_ [Sl (Ty.int .i64) u0 r.1]) := by
 have s0 : SL w [] w [] := SL.Bt w
 refine BD func60 ntmps60 2 rfl rfl rfl fun _ F0 => ?_
 unfold Ij at H
 refine Ar F0 s0 rfl rfl rfl fun g8 w9 _ F s1 => ?_
 obtain ⟨x0, h0, H⟩ := Aa H
 refine gw 5 F rfl fun _ F => HA Bq s1 F (QR.ev 1 rfl <| QR.ld m0 rfl <| QR.ev 1 rfl <| QR.ld m0 rfl <| QR.call (args := [.tmp 13]) A3n rfl (fun _ hC => Bf (Ji (a0 := a0.Op) h0) hC) <| QR.ev 2 rfl <| Bb) fun w0 _ s2 F => ?_
 obtain ⟨x1, h1, H⟩ := Aa H
 refine ge 4 F rfl fun _ F => AG F s2 m0 0 rfl fun _ F => B5 F s2 (QA h1) 6 rfl rfl rfl rfl fun w1 _ F s3 => ?_
 obtain ⟨x2, h2, H⟩ := Aa H
 refine AG F s3 m0 0 rfl fun _ F => B5 F s3 (Rm h2) 5 rfl rfl rfl rfl fun w2 _ F s4 => ?_
 obtain ⟨o0, H0, R0⟩ := Aa H
 clear H
 refine BA (fun a w_ => ∃ p0 : Unit, o0 = .inr (p0) ∧ Fr a 73 [(1, jI a1), (2, jP g8), (6, jI (wr (a0.At + x0))), (7, .bool x1), (8, .bool (!x2))] ∧ SL w [] w_ [A8 g8 79 [jI a0.At, jU (a0.Op.toNat : Int), jI a0.A, jI a0.B]]) ?_ ?_
 ·have H := H0
  refine gc 4 F rfl fun _ F => BB 24 F H (fun h3 H F => ?_) (fun h3 H F => ?_)
  ·refine gw 1 F rfl fun _ F => AK F rfl rfl <| AG F s4 m0 5 rfl fun _ F => AH F H 9 1 rfl rfl rfl (fun h4 H _ F => ?_) (fun h4 H _ F => ?_)
   ·cases H
    replace H := R0
    try dsimp only at H
    cases H
    exact rt F ⟨(.slice none 0 0), rfl, (SL.BI (T := (Ty.int .i64)) s4).f1.drop⟩
   cases H
   exact ⟨_, rfl, F.sb, s4⟩
  cases H
  exact gw 9 F rfl fun _ F => ⟨_, rfl, F.sb, s4⟩
 intro _ w3 hJ
 obtain ⟨p0, rfl, F, s5⟩ := hJ
 have H := R0
 clear R0 H0
 try dsimp only at H
 obtain ⟨o1, H1, R1⟩ := Aa H
 clear H
 refine ge 2 F rfl fun _ F => BA (fun a w_ => ∃ p1 : Unit, o1 = .inr (p1) ∧ Fr a 73 [(2, jP g8), (6, jI (wr (a0.At + x0))), (7, .bool x1), (8, .bool (!x2))] ∧ SL w [] w_ [A8 g8 79 [jI a0.At, jU (a0.Op.toNat : Int), jI a0.A, jI a0.B]]) ?_ ?_
 ·have H := H1
  refine gc 4 F rfl fun _ F => BB 31 F H (fun h5 H F => ?_) (fun h5 H F => ?_)
  ·refine gw 6 F rfl fun _ F => AH F H 9 1 rfl rfl rfl (fun h6 H _ F => ?_) (fun h6 H _ F => ?_)
   ·cases H
    replace H := R1
    try dsimp only at H
    cases H
    exact rt F ⟨(.slice none 0 0), rfl, (SL.BI (T := (Ty.int .i64)) s5).f1.drop⟩
   cases H
   exact ⟨_, rfl, F.sb, s5⟩
  cases H
  exact gw 8 F rfl fun _ F => ⟨_, rfl, F.sb, s5⟩
 intro _ w4 hJ
 obtain ⟨p1, rfl, F, s6⟩ := hJ
 have H := R1
 clear R1 H1
 try dsimp only at H
 obtain ⟨o2, H2, R2⟩ := Aa H
 clear H
 refine ge 7 F rfl fun _ F => BA (fun a w_ => ∃ v0 : Value, Fr a 73 [(2, jP g8), (6, jI (wr (a0.At + x0))), (7, .bool x1), (8, .bool (!x2)), (9, v0)] ∧ SL w [] w_ [A8 g8 79 [jI a0.At, jU (a0.Op.toNat : Int), jI a0.A, jI a0.B], Sl (Ty.int .i64) v0 o2]) ?_ ?_
 ·have H := H2
  refine gc 4 F rfl fun _ F => BB 37 F H (fun h7 H F => ?_) (fun h7 H F => ?_)
  ·refine gw 3 F rfl fun _ F => BB 40 F H (fun h8 H F => ?_) (fun h8 H F => ?_)
   ·refine gw 12 F rfl fun _ F => AG F s6 m0 0 rfl fun _ F => ?_
    refine Ae (parts := [(0, .tmp 49)]) (Flat.int .i64) ([a0.A] : List Int) F s6 Bz rfl (by decide) rfl rfl rfl (by simp [Value.cells]) rfl rfl rfl fun v1 w5 _ F s7 => ?_
    obtain ⟨x3, h9, H⟩ := Aa H
    have s8 := (SL.BI (T := (Ty.int .i64)) s7)
    obtain ⟨_, hr_⟩ := (s8.BK m1)
    refine Aw (Flat.int .i64) F s8 Bz rfl rfl rfl rfl hr_ rfl rfl h9 rfl fun v2 w6 _ F s9 => ?_
    have s354' := s9.f1.drop
    cases H
    exact gw 2 F rfl fun _ F => ⟨v2, F.sb, s354'.f1⟩
   refine gw 1 F rfl fun _ F => AK F rfl rfl <| AG F s6 m0 6 rfl fun _ F => AH F H 3 1 rfl rfl rfl (fun ha H _ F => ?_) (fun ha H _ F => ?_)
   ·refine AG F s6 m0 0 rfl fun _ F => ?_
    refine Ae (parts := [(0, .tmp 49)]) (Flat.int .i64) ([a0.A] : List Int) F s6 Bz rfl (by decide) rfl rfl rfl (by simp [Value.cells]) rfl rfl rfl fun v3 w7 _ F sa => ?_
    obtain ⟨x4, hb, H⟩ := Aa H
    have sc := (SL.BI (T := (Ty.int .i64)) sa)
    obtain ⟨_, hr_⟩ := (sc.BK m1)
    refine Aw (Flat.int .i64) F sc Bz rfl rfl rfl rfl hr_ rfl rfl hb rfl fun v4 w8 _ F sd => ?_
    have s378' := sd.f1.drop
    cases H
    exact gw 2 F rfl fun _ F => ⟨v4, F.sb, s378'.f1⟩
   cases H
   exact ⟨(.slice none 0 0), F.sb, (SL.BI (T := (Ty.int .i64)) s6).f1⟩
  cases H
  exact gw 13 F rfl fun _ F => ⟨(.slice none 0 0), F.sb, (SL.BI (T := (Ty.int .i64)) s6).f1⟩
 intro _ wa hJ
 obtain ⟨v0, F, se⟩ := hJ
 have H := R2
 clear R2 H2
 refine ge 7 F rfl fun _ F => AH F H 3 7 rfl rfl rfl (fun hc H _ F => ?_) (fun hc H _ F => ?_)
 ·refine Ae (parts := [(0, .tmp 54)]) (Flat.int .i64) ([wr (a0.At + x0)] : List Int) F se Bz rfl (by decide) rfl rfl rfl (by simp [Value.cells]) rfl rfl rfl fun v5 wb _ F sf => ?_
  obtain ⟨x5, hd, H⟩ := Aa H
  obtain ⟨_, hr_⟩ := (sf.f2.BK m1)
  refine Aw (Flat.int .i64) F sf.f2 Bz rfl rfl rfl rfl hr_ rfl rfl hd rfl fun v6 wc _ F sg => ?_
  have s423' := sg.f1.drop
  refine gw 8 F rfl fun _ F => BB 58 F H (fun he H F => ?_) (fun he H F => ?_)
  ·refine gw 3 F rfl fun _ F => gw 1 (F.kt (d := 61) hc) rfl fun _ F => AK F rfl rfl <| gx F (An BE rfl (s423'.FN m1 rfl)) 5 rfl rfl fun _ F => AH F H 3 10 rfl rfl rfl (fun hf H _ F => ?_) (fun hf H _ F => ?_)
   ·refine gx F (An BE rfl (s423'.FN m1 rfl)) 0 rfl rfl fun _ F => ?_
    refine Ae (parts := [(0, .tmp 69)]) (Flat.int .i64) ([a0.A] : List Int) F s423' Bz rfl (by decide) rfl rfl rfl (by simp [Value.cells]) rfl rfl rfl fun v7 wd _ F sh => ?_
    obtain ⟨x6, hg, H⟩ := Aa H
    obtain ⟨_, hr_⟩ := (sh.f1.BK m1)
    refine Aw (Flat.int .i64) F sh.f1 Bz rfl rfl rfl rfl hr_ rfl rfl hg rfl fun v8 we _ F si => ?_
    have s478' := si.f1.drop
    cases H
    exact gw 11 F rfl fun _ F => rt F ⟨v8, rfl, s478'.f1.drop⟩
   cases H
   exact rt F ⟨v6, rfl, s423'.f1.drop⟩
  cases H
  exact gw 21 F rfl fun _ F => rt F ⟨v6, rfl, s423'.f1.drop⟩
 refine BB 58 F H (fun hh H F => ?_) (fun hh H F => ?_)
 ·refine gw 3 F rfl fun _ F => ?_
  cases H
  exact gw 18 (F.kf (d := 61) hc) rfl fun _ F => rt F ⟨v0, rfl, se.drop⟩
 cases H
 exact gw 21 F rfl fun _ F => rt F ⟨v0, rfl, se.drop⟩
theorem On {w : World} {FF : List Nat} {v0_0 v0_1 v0_2 v0_3 v1_0 v1_1 v2 : Value} {a0 : AM} {a1 : AA} {a2 : List UInt8} {a3 : Int} {r : Int × Int × AM} (hst : B1 [Sl Ty.bool v0_0 a0.Has, Sl BM v0_1 a0.Frame, Sl Ty.bool v0_2 a0.C2, Sl (Ty.int .i64) v0_3 a0.Taken] w FF) (hr1_0 : Rd AB w FF v1_0 a1.Classes) (hr1_1 : Rd B8 w FF v1_1 a1.AQ) (hr2 : Rd Ty.u8 w FF v2 a2) (H : Fz a0 a1 a2 a3 = some r) :
    Calls prog 83 #[.agg ⟨[v0_0, v0_1, v0_2, v0_3]⟩, .agg ⟨[v1_0, v1_1, jI a1.Fn]⟩, v2, jI a3] w (B9 fun u_ w_ => u_ = .tuple ⟨[jI r.1, jI r.2.1]⟩ ∧ SL w FF w_ [Sl Ty.bool v0_0 r.2.2.Has, Sl BM v0_1 r.2.2.Frame, Sl Ty.bool v0_2 r.2.2.C2, Sl (Ty.int .i64) v0_3 r.2.2.Taken]) := by
 have s0 : SL w FF w [Sl Ty.bool v0_0 a0.Has, Sl BM v0_1 a0.Frame, Sl Ty.bool v0_2 a0.C2, Sl (Ty.int .i64) v0_3 a0.Taken] := SL.init w FF hst
 refine BD func83 ntmps83 2 rfl rfl rfl fun _ F0 => ?_
 unfold Fz at H
 refine Ar F0 s0 rfl rfl rfl fun g0 w0 _ F s1 => Ar F s1 rfl rfl rfl fun g1 w1 _ F s2 => ?_
 obtain ⟨x0, h0, H⟩ := Aa H
 obtain ⟨a4, h1, h2⟩ := Ax Flat.bool s2 m4 Co rfl h0
 refine gw 7 F rfl fun _ F => AG F s2 m1 1 rfl fun _ F => gi F h1 0 rfl fun _ F => ?_
 refine Bc (y' := false) Flat.bool F s2.f4 h2 h0 rfl rfl (by rfl) NZ fun w2 _ F s3 => ?_
 refine gw 7 F rfl fun _ F => gx F (Ah rfl underlying42 (fR hr2 s3)) 3 rfl rfl fun _ F => AH F H 9 6 rfl rfl rfl (fun h3 H _ F => ?_) (fun h3 H _ F => ?_)
 ·cases H
  exact rt F ⟨rfl, s3.f1.drop.f1.drop.f3.f1.f3.f3⟩
 obtain ⟨x1, h4, H⟩ := Aa H
 refine B5 F s3 (JQ (hr2.AN s3) h4) 3 rfl rfl rfl rfl fun w3 _ F s4 => Af F s4 DZ rfl rfl fun g2 w4 _ F s5 => Ai F s5 rfl rfl D4 (Ab rfl (Ab rfl (Ab rfl (Ab rfl Ap)))) (Ac rfl) fun w5 _ F s6 => gw 10 F rfl fun _ F => AH F H 10 5 rfl rfl rfl (fun h5 H _ F => ?_) (fun h5 H _ F => ?_)
 ·cases H
  exact rt F ⟨rfl, s6.drop.f1.drop.f1.drop.f3.f1.f3.f3⟩
 obtain ⟨x2, h6, H⟩ := Aa H
 refine AG F s6 m0 0 rfl fun _ F => B5 F s6 (Ji h6) 6 rfl rfl rfl rfl fun w6 _ F s7 => ?_
 obtain ⟨x3, h7, H⟩ := Aa H
 refine AG F s7 m3 2 rfl fun _ F => B5 F s7 (Np (a0 := (⟨a0.Has, a0.Frame, (a0.C2.set a3.toNat false), a0.Taken⟩ : AM)) (s7.rd0 m4) (s7.rd0 m5) (s7.rd0 m1) (s7.rd0 m6) h7) 2 rfl rfl rfl rfl fun w7 _ F s8 => AH F H 9 5 rfl rfl rfl (fun h8 H _ F => ?_) (fun h8 H _ F => ?_)
 ·cases H
  exact rt F ⟨rfl, s8.drop.f1.drop.f1.drop.f3.f1.f3.f3⟩
 obtain ⟨x4, h9, H⟩ := Aa H
 obtain ⟨a5, ha, hb⟩ := Ax (Flat.int .i64) s8 m6 Bz rfl h9
 refine AG F s8 m3 2 rfl fun _ F => gi F ha 0 rfl fun _ F => ?_
 refine Bc (y' := x2) (Flat.int .i64) F s8.f6 hb h9 rfl rfl (by rfl) IW fun w8 _ F s9 => ?_
 obtain ⟨x5, hc, H⟩ := Aa H
 obtain ⟨x6, hd, H⟩ := Aa H
 refine gw 3 F rfl fun _ F => Cq Bq s9 ?_
 have sa := s9.drew
 obtain ⟨a6, he, hf⟩ := FK Cj (fun _ hC => (hC.BK m6)) sa D9 rfl hc
 refine hq [0, 1, 2, 3, 4, 5, 6] F sa (QI.ld m3 rfl <| QI.ev 1 rfl <| QI.ld m4 rfl <| QI.ev 1 rfl <| QI.ix he rfl <| QI.op rfl (fun _ hC => Av AZ rfl (hf _ hC) (by simp)) rfl <| QI.ld m1 rfl <| QI.nil) (by kernel_rfl) fun _ F => ?_
 refine CJ [0, 1, 2, 3, 4, 5, 6, 7, 8, 9, 10, 11, 12] (fun a w_ => ∃ g3 : Nat, Fr a 97 [(2, v2), (3, jI a3), (4, jP g0), (5, jP g1), (10, jP g2), (11, jI x1.2), (13, jP g3), (59, jI x6.2)] ∧ SL w FF w_ [Sl (Ty.int .i64) v0_3 (a0.Taken.set a3.toNat x2), A8 g2 79 [jI x1.1.At, jU (x1.1.Op.toNat : Int), jI x1.1.A, jI x1.1.B], Sl Ty.bool v0_2 (a0.C2.set a3.toNat false), A8 g1 110 [v1_0, v1_1, jI a1.Fn], A8 g0 164 [v0_0, v0_1, v0_2, v0_3], Sl Ty.bool v0_0 a0.Has, Sl BM v0_1 a0.Frame, A8 g3 118 (jI x6.1.Locals :: jI x6.1.Height :: AU x6.1.Slots)]) ?_ fun hD0 => ?_
 ·rintro a w_ ⟨g3, F, sc⟩
  refine hq [13] F sc.f7.drop (QI.ev 1 rfl <| QI.nil) (by kernel_rfl) fun _ F => ?_
  refine CP (by kernel_rfl) ?_
  refine ge 8 F rfl fun _ F => AH F H 10 4 rfl rfl rfl (fun hg H _ F => ?_) (fun hg H _ F => ?_)
  ·cases H
   exact rt F ⟨rfl, sc.f1.drop.f2.drop.f2.drop.f4.drop.f1.f3.f3⟩
  obtain ⟨x7, hh, H⟩ := Aa H
  refine AG F sc m1 1 rfl fun _ F => gx F (Ah rfl underlying42 (fR hr2 sc)) 0 rfl rfl fun _ F => Df F (Ov hh) fun v0 w9 _ hi F => ?_
  obtain ⟨v1, rfl, hj⟩ := hi
  have sd := sc.add hj
  refine gw 14 F rfl fun _ F => AH F H 10 8 rfl rfl rfl (fun hk H _ F => ?_) (fun hk H _ F => ?_)
  ·cases H
   exact rt F ⟨rfl, sd.drop.f1.drop.f2.drop.f2.drop.f4.drop.f1.f3.f3⟩
  obtain ⟨o0, H0, R0⟩ := Aa H
  clear H
  refine BA (fun a w_ => ∃ p0 : (List Int) × (List Bool) × (List Bool) × (List A4), o0 = .inr (p0) ∧ Fr a 97 [] ∧ SL w FF w_ [Sl (Ty.int .i64) v0_3 p0.1, Sl Ty.bool v0_2 p0.2.1, Sl Ty.bool v0_0 p0.2.2.1, Sl BM v0_1 p0.2.2.2]) ?_ ?_
  ·have H := H0
   refine gc 1 F rfl fun _ F => Cy (CL a1 x6 x7) (fun se a w_ => Fr a 97 [(4, jP g0), (5, jP g1), (13, jP g3), (14, v1), (15, jI se.2.2.2.2)] ∧ SL w FF w_ [Sl (Ty.int .i64) v1 x7.1, Sl (Ty.int .i64) v0_3 se.1, Sl Ty.bool v0_2 se.2.1, A8 g1 110 [v1_0, v1_1, jI a1.Fn], A8 g0 164 [v0_0, v0_1, v0_2, v0_3], Sl Ty.bool v0_0 se.2.2.1, Sl BM v0_1 se.2.2.2.1, A8 g3 118 (jI x6.1.Locals :: jI x6.1.Height :: AU x6.1.Slots)]) H ?_ ?_
   ·exact ⟨F.sb, sd.f2.drop⟩
   intro se _ wa hl o1 H hr
   obtain ⟨F, sf⟩ := hl
   replace H : CL a1 x6 x7 se = some o1 := H
   unfold CL at H
   refine gc 5 F rfl fun _ F => gx F (Ah rfl underlying28 (fO sf m0)) 3 rfl rfl fun _ F => AH F H 5 4 rfl rfl rfl (fun hm H _ F => ?_) (fun hm H _ F => ?_)
   ·obtain ⟨x8, hn, H⟩ := Aa H
    obtain ⟨x9, hp, H⟩ := Aa H
    refine Cq Bq sf.f1.drop.f1.drop.f3.drop.f3.drop ?_
    have sg := sf.drew.f1.drop.f1.drop.f3.drop.f3.drop
    obtain ⟨a7, hs, ht⟩ := FK (Flat.int .i64) (fun _ hC => (hC.BK m0)) sg Bz rfl hn
    refine hq [0, 1, 2, 3, 4, 5, 6, 7] F sg (QI.ld m2 rfl <| QI.ev 1 rfl <| QI.ld m1 rfl <| QI.ev 2 rfl <| QI.ix hs rfl <| QI.op rfl (fun _ hC => An BE rfl (Bn.at_ (ht _ hC) (o := 0) rfl)) rfl <| QI.op rfl (fun _ hC => Av AZ rfl (hC.Dk m3 (o := 0) (ds := (jI x6.1.Locals :: jI x6.1.Height :: AU x6.1.Slots)) (Ib (pre := []) rfl rfl)) (by simp)) rfl <| QI.nil) (by kernel_rfl) fun _ F => ?_
    refine ho 8 rfl (by kernel_rfl) ?_
    obtain ⟨G0, hu, hv, hw, hx⟩ := SL.open_ (ps := [Sl Ty.bool v0_0 se.2.2.1, Sl BM v0_1 se.2.2.2.1, Sl Ty.bool v0_2 se.2.1, Sl (Ty.int .i64) v0_3 se.1]) (rest := [Sl (Ty.int .i64) v1 x7.1, A8 g1 110 [v1_0, v1_1, jI a1.Fn], A8 g0 164 [v0_0, v0_1, v0_2, v0_3], A8 g3 118 (jI x6.1.Locals :: jI x6.1.Height :: AU x6.1.Slots)]) sf.drew.f1.f2.f6.f6
    refine Df F (O0 (a0 := (⟨se.2.2.1, se.2.2.2.1, se.2.1, se.1⟩ : AM)) hu (hr1_0.pass sf.drew.f1.f2.f6.f6 hv) hp) fun v3 wb _ hy F => ?_
    obtain ⟨rfl, hz⟩ := hy
    have sh := hx _ _ hz
    refine gw 1 F rfl fun _ F => ⟨sh.drop.drop.drop.drop, ?_⟩
    refine hq [9] F sh.drop.drop.drop.drop (QI.ev 1 rfl <| QI.nil) (by kernel_rfl) fun _ F => ?_
    refine CP (by kernel_rfl) ?_
    refine ge 7 F rfl fun _ F => AH F H 4 8 rfl rfl rfl (fun h10 H _ F => ?_) (fun h10 H _ F => ?_)
    ·obtain ⟨xa, h11, H⟩ := Aa H
     obtain ⟨a8, h12, h13⟩ := Ax (Flat.int .i64) sh m4 Bz rfl h11
     refine gi F h12 0 rfl fun _ F => ?_
     cases H
     obtain rfl := hr _ rfl
     replace H := R0
     try dsimp only at H
     cases H
     exact gx F (An BE rfl (Bn.at_ (SL.C0 (Flat.int .i64) sh m4 h13 h11) (o := 0) rfl)) 12 rfl rfl fun _ F => rt F ⟨rfl, sh.f4.drop.f4.drop.f4.drop.f4.drop⟩
    cases H
    exact ⟨_, rfl, F.sb, sh.f7.f2.f2.f7.f7.f5.f6.f7⟩
   cases H
   obtain rfl := hr _ rfl
   exact ⟨_, rfl, F.sb, sf.drop.f2.drop.f2.drop.f4.drop⟩
  intro _ wc hJ
  obtain ⟨p0, rfl, F, si⟩ := hJ
  have H := R0
  clear R0 H0
  try dsimp only at H
  cases H
  exact ge 8 F rfl fun _ F => rt F ⟨rfl, si.f1.f3.f3⟩
 refine E5 7 11 rfl rfl (by kernel_rfl) ?_ ?_
 ·refine B5 F sa (MK (a0 := (⟨a1.Classes, a1.AQ, a1.Fn⟩ : AA)) (hr1_0.AN sa) (hr1_1.AN sa) hd) 1 rfl rfl rfl rfl fun wd _ F sj => ⟨sj, ?_⟩
  refine hq [8, 9, 10] F sj (QI.ev 3 rfl <| QI.nil) (by kernel_rfl) fun _ F => ?_
  refine ho 11 rfl (by kernel_rfl) ?_
  refine Af F sj AO rfl rfl fun g3 we _ F sk => gw 1 F rfl fun _ F => ⟨sk.drop, ?_⟩
  refine ho 12 rfl (by kernel_rfl) ?_
  refine AP (ds := (jI x6.1.Locals :: jI x6.1.Height :: AU x6.1.Slots)) F sk rfl rfl (by simpa using AX) (Ab rfl (Ab rfl (Bp _))) (by simp) fun wf _ F sl => ?_
  exact gw 1 F rfl fun _ F => ⟨sl.drop, BJ hD0 ⟨g3, F.sb, sl.f7.f7.f7.f7.f7.f7.f7⟩ (by kernel_rfl)⟩
 refine Af F sa AO rfl rfl fun g3 we _ F sk => gw 1 F rfl fun _ F => ⟨sk.drop, ?_⟩
 refine ho 7 rfl (by kernel_rfl) ?_
 refine B5 F sk (MK (a0 := (⟨a1.Classes, a1.AQ, a1.Fn⟩ : AA)) (hr1_0.AN sk) (hr1_1.AN sk) hd) 1 rfl rfl rfl rfl fun wd _ F sj => ⟨sj.drop, ?_⟩
 refine hq [8, 9, 10] F sj.drop (QI.ev 3 rfl <| QI.nil) (by kernel_rfl) fun _ F => ?_
 refine ho 12 rfl (by kernel_rfl) ?_
 refine AP (ds := (jI x6.1.Locals :: jI x6.1.Height :: AU x6.1.Slots)) F sj rfl rfl (by simpa using AX) (Ab rfl (Ab rfl (Bp _))) (by simp) fun wf _ F sl => ?_
 exact gw 1 F rfl fun _ F => ⟨sl.drop, BJ hD0 ⟨g3, F.sb, sl.f7.f7.f7.f7.f7.f7.f7⟩ (by kernel_rfl)⟩
theorem QV {w : World} {v0_0 v0_1 v2 : Value} {a0 : AA} {a1 : Int} {a2 : List UInt8} {r : (List BO) × Int × Int} (hr0_0 : Rd AB w [] v0_0 a0.Classes) (hr0_1 : Rd B8 w [] v0_1 a0.AQ) (hr2 : Rd Ty.u8 w [] v2 a2) (H : HK a0 a1 a2 = some r) :
    Calls prog 56 #[.agg ⟨[v0_0, v0_1, jI a0.Fn]⟩, jI a1, v2] w (B9 fun u_ w_ => ∃ u0 : Value, u_ = .tuple ⟨[u0, jI r.2.1, jI r.2.2]⟩ ∧ SL w [] w_ [Sl Dy u0 r.1]) := by
 have s0 : SL w [] w [] := SL.Bt w
 refine BD func56 ntmps56 2 rfl rfl rfl fun _ F0 => ?_
 unfold HK at H
 refine Ar F0 s0 rfl rfl rfl fun g8 w9 _ F s1 => ?_
 obtain ⟨x0, h0, H⟩ := Aa H
 refine gw 7 F rfl fun _ F => AG F s1 m0 1 rfl fun _ F => B5 F s1 (Rs (a0 := (⟨a0.Classes, a0.AQ, a0.Fn⟩ : AA)) (hr0_0.AN s1) (hr0_1.AN s1) h0) 10 rfl rfl rfl rfl fun w0 _ F s2 => AH F H 10 5 rfl rfl rfl (fun h1 H _ F => ?_) (fun h1 H _ F => ?_)
 ·cases H
  exact rt F ⟨(.slice none 0 0), rfl, (SL.BI (T := Dy) s2).f1.drop⟩
 refine gx F (Ah rfl underlying42 (fR hr2 s2)) 10 rfl rfl fun _ F => AH F H 9 3 rfl rfl rfl (fun h2 H _ F => ?_) (fun h2 H _ F => ?_)
 ·cases H
  exact rt F ⟨(.slice none 0 0), rfl, (SL.BI (T := Dy) s2).f1.drop⟩
 obtain ⟨x1, h3, H⟩ := Aa H
 obtain ⟨x2, h4, H⟩ := Aa H
 obtain ⟨x3, h5, H⟩ := Aa H
 obtain ⟨x4, h6, H⟩ := Aa H
 refine Cq Bq s2 ?_
 have s3 := s2.drew
 refine hq [0, 1, 3, 4, 6, 7, 9, 10] F s3 (QI.ev 8 rfl <| QI.nil) (by kernel_rfl) fun _ F => ?_
 refine CJ [0, 1, 2, 3, 4, 5, 6, 7, 8, 9, 10, 11, 12, 13] (fun a w_ => ∃ g0 : Nat, ∃ v0 : Value, ∃ v1 : Value, ∃ v3 : Value, ∃ v4 : Value, Fr a 103 [(1, jI a1), (2, v2), (3, jP g8), (10, jI (a2.length : Int)), (11, jP g0), (41, .agg ⟨[v0, v1, v3, v4]⟩)] ∧ SL w [] w_ [A8 g8 110 [v0_0, v0_1, jI a0.Fn], Sl Ty.bool v0 x1, Sl BM v1 x2, Sl Ty.bool v3 x3, Sl (Ty.int .i64) v4 x4, A8 g0 164 [.slice none 0 0, .slice none 0 0, .slice none 0 0, .slice none 0 0]]) ?_ fun hD0 => ?_
 ·rintro a w_ ⟨g0, v0, v1, v3, v4, F, s4⟩
  refine ho 14 rfl (by kernel_rfl) ?_
  have s5 := s4.f5
  refine Ai F s5 rfl rfl Alt (Ab (Aq (fO s5 m2)) (Ab (Aq (fO s5 m3)) (Ab (Aq (fO s5 m4)) (Ab (Aq (fO s5 m5)) Ap)))) (Ac rfl) fun w1 _ F s6 => gw 1 F rfl fun _ F => ⟨s6.drop.f1.drop.f1.drop.f1.drop.f1.drop, ?_⟩
  refine CP (by kernel_rfl) ?_
  obtain ⟨x5, h7, H⟩ := Aa H
  obtain ⟨x6, h8, H⟩ := Aa H
  refine ge 2 F rfl fun _ F => Cq Bq s6 ?_
  have s7 := s6.drew
  obtain ⟨a3, c0, G0, h9, ha, hb, hc⟩ := Rd.idx hr0_1 E2 rfl h7
  obtain ⟨v5, rfl, hd⟩ := (Ga hb hc)
  have hc231_ := ha; clear ha; have ha := fun w_ (hC : SL w [] w_ [A8 g0 164 [v0, v1, v3, v4], A8 g8 110 [v0_0, v0_1, jI a0.Fn], Sl Ty.bool v0 x1, Sl BM v1 x2, Sl Ty.bool v3 x3, Sl (Ty.int .i64) v4 x4]) => hc231_ _ _ hC
  refine hq [0, 1, 2, 3, 4, 5, 6, 7, 8, 9] F s7 (QI.ev 1 rfl <| QI.ld m1 rfl <| QI.ev 1 rfl <| QI.ld m1 rfl <| QI.ev 1 rfl <| QI.ld m1 rfl <| QI.ix h9 rfl <| QI.op rfl (fun _ hC => Ba M7 rfl) rfl <| QI.op rfl (fun _ hC => An M1 rfl (Bn.at_ (ha _ hC) (o := 0) rfl)) rfl <| QI.ev 1 rfl <| QI.nil) (by kernel_rfl) fun _ F => ?_
  refine CJ [0, 1, 2, 3, 4, 5, 6, 7, 8, 9, 10, 11, 12, 13, 14, 15] (fun a w_ => ∃ g1 : Nat, Fr a 103 [(2, v2), (3, jP g8), (10, jI (a2.length : Int)), (11, jP g0), (12, jP g1), (55, jI x6.2)] ∧ SL w [] w_ [A8 g0 164 [v0, v1, v3, v4], A8 g8 110 [v0_0, v0_1, jI a0.Fn], Sl Ty.bool v0 x1, Sl BM v1 x2, Sl Ty.bool v3 x3, Sl (Ty.int .i64) v4 x4, A8 g1 118 (jI x6.1.Locals :: jI x6.1.Height :: AU x6.1.Slots)]) ?_ fun hD0 => ?_
  ·rintro a w_ ⟨g1, F, s8⟩
   refine hq [16] F s8.f6.drop (QI.ev 1 rfl <| QI.nil) (by kernel_rfl) fun _ F => ?_
   refine CP (by kernel_rfl) ?_
   obtain ⟨x7, he, H⟩ := Aa H
   obtain ⟨x8, hf, H⟩ := Aa H
   obtain ⟨x9, hg, H⟩ := Aa H
   refine ge 2 F rfl fun _ F => Cq Bq s8.f2.drop.f2.drop.f2.drop ?_
   have s9 := s8.drew
   refine hq [0, 1, 2, 3, 4, 5, 6] F s9.f2.drop.f2.drop.f2.drop (QI.ev 1 rfl <| QI.ld m0 rfl <| QI.ev 1 rfl <| QI.ld m0 rfl <| QI.ev 1 rfl <| QI.ld m0 rfl <| QI.op rfl (fun _ hC => Av AZ rfl (hC.Dk m3 (o := 0) (ds := (jI x6.1.Locals :: jI x6.1.Height :: AU x6.1.Slots)) (Ib (pre := []) rfl rfl)) (by simp)) rfl <| QI.nil) (by kernel_rfl) fun _ F => ?_
   refine ho 7 rfl (by kernel_rfl) ?_
   obtain ⟨a4, hh, hi⟩ := Ax Flat.bool s9 m2 Co rfl he
   refine gi F hh 1 rfl fun _ F => ⟨s9.f2.drop.f2.drop.f2.drop, ?_⟩
   refine ho 8 rfl (by kernel_rfl) ?_
   refine Bc (y' := true) Flat.bool F s9.f2 hi he rfl rfl (by rfl) NZ fun w2 _ F sa => ?_
   refine gw 1 F rfl fun _ F => ⟨sa.drop.f2.drop.f2.drop, ?_⟩
   refine ho 9 rfl (by kernel_rfl) ?_
   obtain ⟨a5, hj, hk⟩ := Ax Cj sa m3 D9 rfl hf
   refine gi F hj 1 rfl fun _ F => ⟨sa.drop.f2.drop.f2.drop, ?_⟩
   refine ho 10 rfl (by kernel_rfl) ?_
   refine Bc (y' := (⟨x6.1.Locals, x6.1.Height, x6.1.Slots⟩ : A4)) Cj F sa.f3 hk hf rfl rfl (by rfl) AX fun w3 _ F sc => ?_
   refine gw 1 F rfl fun _ F => ⟨sc.drop.drop.f2.drop, ?_⟩
   refine ho 11 rfl (by kernel_rfl) ?_
   obtain ⟨a6, hl, hm⟩ := Ax Flat.bool sc m4 Co rfl hg
   refine gi F hl 1 rfl fun _ F => ⟨sc.drop.drop.f2.drop, ?_⟩
   refine ho 12 rfl (by kernel_rfl) ?_
   refine Bc (y' := true) Flat.bool F sc.f4 hm hg rfl rfl (by rfl) NZ fun w4 _ F sd => ?_
   refine gw 1 F rfl fun _ F => ⟨sd.drop.drop.drop, ?_⟩
   refine CP (by kernel_rfl) ?_
   obtain ⟨o0, H0, R0⟩ := Aa H
   clear H
   refine ge 7 F rfl fun _ F => BA (fun a w_ => ∃ p0 : (List Bool) × (List A4) × (List Bool) × (List Int), o0 = .inr (p0) ∧ ∃ v6 v7 v8 v9 : Value, Fr a 103 [(10, jI (a2.length : Int)), (11, jP g0)] ∧ SL w [] w_ [A8 g0 164 [v6, v7, v8, v9], Sl Ty.bool v6 p0.1, Sl BM v7 p0.2.1, Sl Ty.bool v8 p0.2.2.1, Sl (Ty.int .i64) v9 p0.2.2.2]) ?_ ?_
   ·have H := H0
    refine gc 1 F rfl fun _ F => Cy (DK a0 a2) (fun se a w_ => ∃ va vb vc vd : Value, Fr a 103 [(2, v2), (3, jP g8), (10, jI (a2.length : Int)), (11, jP g0), (14, jI se.2.2.2.2)] ∧ SL w [] w_ [A8 g0 164 [va, vb, vc, vd], A8 g8 110 [v0_0, v0_1, jI a0.Fn], Sl Ty.bool va se.1, Sl BM vb se.2.1, Sl Ty.bool vc se.2.2.1, Sl (Ty.int .i64) vd se.2.2.2.1]) H ?_ ?_
    ·exact ⟨v0, v1, v3, v4, F.sb, sd.f6.drop.f5.f1.f2.f3.f5.f5⟩
    intro se _ w5 hn o1 H hr
    obtain ⟨va, vb, vc, vd, F, sf⟩ := hn
    replace H : DK a0 a2 se = some o1 := H
    unfold DK at H
    refine gc 7 F rfl fun _ F => AH F H 6 4 rfl rfl rfl (fun hp H _ F => ?_) (fun hp H _ F => ?_)
    ·obtain ⟨xa, hs, H⟩ := Aa H
     refine AG F sf m0 0 rfl fun _ F => ?_
     have sg := sf.f5.f5.f5.f5
     obtain ⟨G1, ht, hu, hv, hw⟩ := SL.open_ (ps := [Sl Ty.bool va se.1, Sl BM vb se.2.1, Sl Ty.bool vc se.2.2.1, Sl (Ty.int .i64) vd se.2.2.2.1]) (rest := [A8 g0 164 [va, vb, vc, vd], A8 g8 110 [v0_0, v0_1, jI a0.Fn]]) sg
     refine AG F sf m1 2 rfl fun _ F => Df F (On (a0 := (⟨se.1, se.2.1, se.2.2.1, se.2.2.2.1⟩ : AM)) (a1 := (⟨a0.Classes, a0.AQ, a0.Fn⟩ : AA)) ht (hr0_0.pass sg hu) (hr0_1.pass sg hu) (hr2.pass sg hu) hs) fun ve w6 _ hx F => ?_
     obtain ⟨rfl, hy⟩ := hx
     have sh := hw _ _ hy
     refine gw 13 F rfl fun _ F => AH F H 16 4 rfl rfl rfl (fun hz H _ F => ?_) (fun hz H _ F => ?_)
     ·cases H
      obtain rfl := hr _ rfl
      replace H := R0
      try dsimp only at H
      cases H
      exact rt F ⟨(.slice none 0 0), rfl, (SL.BI (T := Dy) sh).f1.drop.f1.drop.f1.drop.f1.drop.f1.drop.f1.drop⟩
     obtain ⟨xb, h10, H⟩ := Aa H
     refine AG F sh m4 0 rfl fun _ F => B5 F sh (Od (a0 := (⟨xa.2.2.Has, xa.2.2.Frame, xa.2.2.C2, xa.2.2.Taken⟩ : AM)) (sh.rd0 m0) (sh.rd0 m1) (sh.rd0 m2) (sh.rd0 m3) h10) 2 rfl rfl rfl rfl fun w7 _ F si => ?_
     cases H
     exact ⟨_, rfl, va, vb, vc, vd, F.sb, si.f3.f3.f3.f3.f5.f5⟩
    cases H
    obtain rfl := hr _ rfl
    exact ⟨_, rfl, va, vb, vc, vd, F.sb, sf.f1.drop⟩
   intro _ w8 hJ
   obtain ⟨p0, rfl, v6, v7, v8, v9, F, sj⟩ := hJ
   have H := R0
   clear R0 H0
   try dsimp only at H
   obtain ⟨o2, H1, R1⟩ := Aa H
   clear H
   refine ge 12 F rfl fun _ F => BA (fun a w_ => ∃ vf : Value, Fr a 103 [(17, vf)] ∧ SL w [] w_ [Sl Ty.bool v6 p0.1, Sl BM v7 p0.2.1, Sl Ty.bool v8 p0.2.2.1, Sl (Ty.int .i64) v9 p0.2.2.2, Sl Dy vf o2]) ?_ ?_
   ·have H := H1
    refine gc 1 F rfl fun _ F => Cy (Es a2 p0) (fun sk a w_ => ∃ vg : Value, Fr a 103 [(10, jI (a2.length : Int)), (11, jP g0), (17, vg), (18, jI sk.2)] ∧ SL w [] w_ [A8 g0 164 [v6, v7, v8, v9], Sl Ty.bool v6 p0.1, Sl BM v7 p0.2.1, Sl Ty.bool v8 p0.2.2.1, Sl (Ty.int .i64) v9 p0.2.2.2, Sl Dy vg sk.1]) H ?_ ?_
    ·exact ⟨(.slice none 0 0), F.sb, (SL.BI (T := Dy) sj).f5.f5.f5.f5.f5⟩
    intro sk _ wa h11 o3 H hr
    obtain ⟨vg, F, sl⟩ := h11
    replace H : Es a2 p0 sk = some o3 := H
    unfold Es at H
    refine gc 8 F rfl fun _ F => AH F H 7 4 rfl rfl rfl (fun h12 H _ F => ?_) (fun h12 H _ F => ?_)
    ·obtain ⟨xc, h13, H⟩ := Aa H
     obtain ⟨a7, h14, h15⟩ := Ax Flat.bool sl m1 Co rfl h13
     refine AG F sl m0 1 rfl fun _ F => gi F h14 0 rfl fun _ F => gx F (An Vq rfl (Bn.at_ (SL.C0 Flat.bool sl m1 h15 h13) (o := 0) rfl)) 2 rfl rfl fun _ F => AH F H 4 8 rfl rfl rfl (fun h16 H _ F => ?_) (fun h16 H _ F => ?_)
     ·obtain ⟨xd, h17, H⟩ := Aa H
      obtain ⟨a8, h18, h19⟩ := Ax Cj sl m2 D9 rfl h17
      refine AG F sl m0 1 rfl fun _ F => gi F h18 0 rfl fun _ F => ?_
      refine gx F (Av AZ rfl (SL.C0 Cj sl m2 h19 h17) (by simp)) 0 rfl rfl fun _ F => ?_
      refine gx F (Al (vs := [jI sk.2, .agg ⟨(jI xd.Locals :: jI xd.Height :: AU xd.Slots)⟩]) QH XF rfl (cs := (jI sk.2 :: .bool false :: jI xd.Locals :: jI xd.Height :: AU xd.Slots)) (Do rfl rfl (by simp) <| Xm (pre := [jI sk.2, .bool false]) (zs := jZ) (post := []) (by first | rfl | simp) (by simp) <| (by first | exact BG | simp [BG]))) 0 rfl rfl fun _ F => ?_
      refine Ae (parts := [(0, .tmp 99)]) Gs ([(⟨sk.2, false, (⟨xd.Locals, xd.Height, xd.Slots⟩ : A4)⟩ : BO)] : List BO) F sl KX rfl (by decide) rfl rfl rfl (by simp [Value.cells]) rfl rfl rfl fun vh wb _ F sm => ?_
      obtain ⟨xe, h1a, H⟩ := Aa H
      obtain ⟨_, hr_⟩ := (sm.f6.BK m1)
      refine Aw Gs F sm.f6 KX rfl rfl rfl rfl hr_ rfl rfl h1a rfl fun vi wc _ F sn => ?_
      have s5945' := sn.f1.drop
      cases H
      exact gw 9 F rfl fun _ F => ⟨_, rfl, vi, F.sb, s5945'.f5.f5.f5.f5.f5⟩
     cases H
     exact ⟨_, rfl, vg, F.sb, sl⟩
    cases H
    obtain rfl := hr _ rfl
    exact ⟨vg, F.sb, sl.drop⟩
   intro _ wd hJ
   obtain ⟨vf, F, so⟩ := hJ
   have H := R1
   clear R1 H1
   cases H
   exact ge 10 F rfl fun _ F => rt F ⟨vf, rfl, so.drop.drop.drop.drop⟩
  refine E5 10 14 rfl rfl (by kernel_rfl) ?_ ?_
  ·refine B5 F s7 (Ky (hr0_0.AN s7) (hd.AN s7) h8) 1 rfl rfl rfl rfl fun we _ F sp => ⟨sp, ?_⟩
   refine hq [11, 12, 13] F sp (QI.ev 3 rfl <| QI.nil) (by kernel_rfl) fun _ F => ?_
   refine ho 14 rfl (by kernel_rfl) ?_
   refine Af F sp AO rfl rfl fun g1 wf _ F sq => gw 1 F rfl fun _ F => ⟨sq.drop, ?_⟩
   refine ho 15 rfl (by kernel_rfl) ?_
   refine AP (ds := (jI x6.1.Locals :: jI x6.1.Height :: AU x6.1.Slots)) F sq rfl rfl (by simpa using AX) (Ab rfl (Ab rfl (Bp _))) (by simp) fun wg _ F sr => ?_
   exact gw 1 F rfl fun _ F => ⟨sr.drop, BJ hD0 ⟨g1, F.sb, sr.f6.f6.f6.f6.f6.f6⟩ (by kernel_rfl)⟩
  refine Af F s7 AO rfl rfl fun g1 wf _ F sq => gw 1 F rfl fun _ F => ⟨sq.drop, ?_⟩
  refine ho 10 rfl (by kernel_rfl) ?_
  refine B5 F sq (Ky (hr0_0.AN sq) (hd.AN sq) h8) 1 rfl rfl rfl rfl fun we _ F sp => ⟨sp.drop, ?_⟩
  refine hq [11, 12, 13] F sp.drop (QI.ev 3 rfl <| QI.nil) (by kernel_rfl) fun _ F => ?_
  refine ho 15 rfl (by kernel_rfl) ?_
  refine AP (ds := (jI x6.1.Locals :: jI x6.1.Height :: AU x6.1.Slots)) F sp rfl rfl (by simpa using AX) (Ab rfl (Ab rfl (Bp _))) (by simp) fun wg _ F sr => ?_
  exact gw 1 F rfl fun _ F => ⟨sr.drop, BJ hD0 ⟨g1, F.sb, sr.f6.f6.f6.f6.f6.f6⟩ (by kernel_rfl)⟩
 refine CJ [0, 1, 2, 3, 4, 5, 6, 7, 8, 9, 10, 11, 13] (fun a w_ => ∃ g0 : Nat, ∃ v0 : Value, ∃ v1 : Value, ∃ v3 : Value, ∃ v4 : Value, Fr a 103 [(1, jI a1), (2, v2), (3, jP g8), (10, jI (a2.length : Int)), (11, jP g0), (31, v0), (34, v1), (37, v3), (40, v4)] ∧ SL w [] w_ [A8 g8 110 [v0_0, v0_1, jI a0.Fn], Sl Ty.bool v0 x1, Sl BM v1 x2, Sl Ty.bool v3 x3, Sl (Ty.int .i64) v4 x4, A8 g0 164 [.slice none 0 0, .slice none 0 0, .slice none 0 0, .slice none 0 0]]) ?_ fun hD1 => ?_
 ·rintro a w_ ⟨g0, v0, v1, v3, v4, F, ss⟩
  refine ho 12 rfl (by kernel_rfl) ?_
  have h1b := (fO ss m1)
  have h1c := (fO ss m2)
  have h1d := (fO ss m3)
  have h1e := (fO ss m4)
  refine gx F (Al (vs := [v0, v1, v3, v4]) Dw WJ rfl (cs := [v0, v1, v3, v4]) (Do rfl (Ag h1b) (by simp) <| Do rfl (Ag h1c) (by simp) <| Do rfl (Ag h1d) (by simp) <| Do rfl (Ag h1e) (by simp) <| BG)) 1 rfl rfl fun _ F => ?_
  exact ⟨ss.f1.drop.f1.drop.f1.drop.f1.drop.f1.drop, BJ hD0 ⟨g0, v0, v1, v3, v4, F.sb, ss⟩ (by kernel_rfl)⟩
 refine CJ [0, 1, 2, 3, 4, 5, 6, 7, 8, 9, 10, 11] (fun a w_ => ∃ v0 : Value, ∃ v1 : Value, ∃ v3 : Value, ∃ v4 : Value, Fr a 103 [(1, jI a1), (2, v2), (3, jP g8), (10, jI (a2.length : Int)), (31, v0), (34, v1), (37, v3), (40, v4)] ∧ SL w [] w_ [A8 g8 110 [v0_0, v0_1, jI a0.Fn], Sl Ty.bool v0 x1, Sl BM v1 x2, Sl Ty.bool v3 x3, Sl (Ty.int .i64) v4 x4]) ?_ fun hD2 => ?_
 ·rintro a w_ ⟨v0, v1, v3, v4, F, st⟩
  refine E5 12 13 rfl rfl (by kernel_rfl) ?_ ?_
  ·have h1b := (fO st m1)
   have h1c := (fO st m2)
   have h1d := (fO st m3)
   have h1e := (fO st m4)
   refine gx F (Al (vs := [v0, v1, v3, v4]) Dw WJ rfl (cs := [v0, v1, v3, v4]) (Do rfl (Ag h1b) (by simp) <| Do rfl (Ag h1c) (by simp) <| Do rfl (Ag h1d) (by simp) <| Do rfl (Ag h1e) (by simp) <| BG)) 1 rfl rfl fun _ F => ?_
   refine ⟨st.f1.drop.f1.drop.f1.drop.f1.drop, ?_⟩
   refine ho 13 rfl (by kernel_rfl) ?_
   exact Af F st Dw rfl rfl fun g0 wh _ F su => gw 1 F rfl fun _ F => ⟨su.drop.f1.drop.f1.drop.f1.drop.f1.drop, BJ hD0 ⟨g0, v0, v1, v3, v4, F.sb, su.f5.f5.f5.f5.f5⟩ (by kernel_rfl)⟩
  exact Af F st Dw rfl rfl fun g0 wh _ F su => gw 1 F rfl fun _ F => ⟨su.drop.f1.drop.f1.drop.f1.drop.f1.drop, BJ hD1 ⟨g0, v0, v1, v3, v4, F.sb, su.f5.f5.f5.f5.f5⟩ (by kernel_rfl)⟩
 refine CJ [0, 1, 2, 3, 4, 5, 6, 7, 8, 9, 10, 13] (fun a w_ => ∃ g0 : Nat, ∃ v0 : Value, ∃ v1 : Value, ∃ v3 : Value, Fr a 103 [(1, jI a1), (2, v2), (3, jP g8), (10, jI (a2.length : Int)), (11, jP g0), (31, v0), (34, v1), (37, v3), (39, jI (wr ((a2.length : Int) + 1)))] ∧ SL w [] w_ [A8 g8 110 [v0_0, v0_1, jI a0.Fn], Sl Ty.bool v0 x1, Sl BM v1 x2, Sl Ty.bool v3 x3, A8 g0 164 [.slice none 0 0, .slice none 0 0, .slice none 0 0, .slice none 0 0]]) ?_ fun hD3 => ?_
 ·rintro a w_ ⟨g0, v0, v1, v3, F, sv⟩
  refine ho 11 rfl (by kernel_rfl) ?_
  exact Au (Flat.int .i64) (0 : Int) F sv Bz rfl rfl Eg rfl rfl rfl h6 rfl fun v4 wi _ F sw => gw 1 F rfl fun _ F => ⟨sw.drop.f1.drop.f1.drop.f1.drop.f1.drop, BJ hD1 ⟨g0, v0, v1, v3, v4, F.sb, sw.f5.f1.f5.f5.f5.f5⟩ (by kernel_rfl)⟩
 refine CJ [0, 1, 2, 3, 4, 5, 6, 7, 8, 9, 10] (fun a w_ => ∃ v0 : Value, ∃ v1 : Value, ∃ v3 : Value, Fr a 103 [(1, jI a1), (2, v2), (3, jP g8), (10, jI (a2.length : Int)), (31, v0), (34, v1), (37, v3), (39, jI (wr ((a2.length : Int) + 1)))] ∧ SL w [] w_ [A8 g8 110 [v0_0, v0_1, jI a0.Fn], Sl Ty.bool v0 x1, Sl BM v1 x2, Sl Ty.bool v3 x3]) ?_ fun hD4 => ?_
 ·rintro a w_ ⟨v0, v1, v3, F, sx⟩
  refine E5 11 13 rfl rfl (by kernel_rfl) ?_ ?_
  ·exact Au (Flat.int .i64) (0 : Int) F sx Bz rfl rfl Eg rfl rfl rfl h6 rfl fun v4 wi _ F sw => gw 1 F rfl fun _ F => ⟨sw.drop.f1.drop.f1.drop.f1.drop, BJ hD2 ⟨v0, v1, v3, v4, F.sb, sw.f4.f4.f4.f4⟩ (by kernel_rfl)⟩
  exact Af F sx Dw rfl rfl fun g0 wh _ F su => gw 1 F rfl fun _ F => ⟨su.drop.f1.drop.f1.drop.f1.drop, BJ hD3 ⟨g0, v0, v1, v3, F.sb, su.f4.f4.f4.f4⟩ (by kernel_rfl)⟩
 refine CJ [0, 1, 2, 3, 4, 5, 6, 7, 9, 10, 11, 13] (fun a w_ => ∃ g0 : Nat, ∃ v0 : Value, ∃ v1 : Value, ∃ v4 : Value, Fr a 103 [(1, jI a1), (2, v2), (3, jP g8), (10, jI (a2.length : Int)), (11, jP g0), (31, v0), (34, v1), (36, jI (wr ((a2.length : Int) + 1))), (40, v4)] ∧ SL w [] w_ [A8 g8 110 [v0_0, v0_1, jI a0.Fn], Sl Ty.bool v0 x1, Sl BM v1 x2, Sl (Ty.int .i64) v4 x4, A8 g0 164 [.slice none 0 0, .slice none 0 0, .slice none 0 0, .slice none 0 0]]) ?_ fun hD5 => ?_
 ·rintro a w_ ⟨g0, v0, v1, v4, F, sy⟩
  refine ho 8 rfl (by kernel_rfl) ?_
  exact Au Flat.bool false F sy Co rfl rfl Cu rfl rfl rfl h5 rfl fun v3 wj _ F sz => gw 1 F rfl fun _ F => ⟨sz.drop.f1.drop.f1.drop.f1.drop.f1.drop, BJ hD1 ⟨g0, v0, v1, v3, v4, F.sb, sz.f5.f5.f2.f5.f5.f5⟩ (by kernel_rfl)⟩
 refine CJ [0, 1, 2, 3, 4, 5, 6, 7, 9, 10, 11] (fun a w_ => ∃ v0 : Value, ∃ v1 : Value, ∃ v4 : Value, Fr a 103 [(1, jI a1), (2, v2), (3, jP g8), (10, jI (a2.length : Int)), (31, v0), (34, v1), (36, jI (wr ((a2.length : Int) + 1))), (40, v4)] ∧ SL w [] w_ [A8 g8 110 [v0_0, v0_1, jI a0.Fn], Sl Ty.bool v0 x1, Sl BM v1 x2, Sl (Ty.int .i64) v4 x4]) ?_ fun hD6 => ?_
 ·rintro a w_ ⟨v0, v1, v4, F, s10⟩
  refine E5 8 13 rfl rfl (by kernel_rfl) ?_ ?_
  ·exact Au Flat.bool false F s10 Co rfl rfl Cu rfl rfl rfl h5 rfl fun v3 wj _ F sz => gw 1 F rfl fun _ F => ⟨sz.drop.f1.drop.f1.drop.f1.drop, BJ hD2 ⟨v0, v1, v3, v4, F.sb, sz.f4.f1.f4.f4.f4⟩ (by kernel_rfl)⟩
  exact Af F s10 Dw rfl rfl fun g0 wh _ F su => gw 1 F rfl fun _ F => ⟨su.drop.f1.drop.f1.drop.f1.drop, BJ hD5 ⟨g0, v0, v1, v4, F.sb, su.f4.f4.f4.f4⟩ (by kernel_rfl)⟩
 refine CJ [0, 1, 2, 3, 4, 5, 6, 7, 9, 10, 13] (fun a w_ => ∃ g0 : Nat, ∃ v0 : Value, ∃ v1 : Value, Fr a 103 [(1, jI a1), (2, v2), (3, jP g8), (10, jI (a2.length : Int)), (11, jP g0), (31, v0), (34, v1), (36, jI (wr ((a2.length : Int) + 1))), (39, jI (wr ((a2.length : Int) + 1)))] ∧ SL w [] w_ [A8 g8 110 [v0_0, v0_1, jI a0.Fn], Sl Ty.bool v0 x1, Sl BM v1 x2, A8 g0 164 [.slice none 0 0, .slice none 0 0, .slice none 0 0, .slice none 0 0]]) ?_ fun hD7 => ?_
 ·rintro a w_ ⟨g0, v0, v1, F, s11⟩
  refine E5 8 11 rfl rfl (by kernel_rfl) ?_ ?_
  ·exact Au Flat.bool false F s11 Co rfl rfl Cu rfl rfl rfl h5 rfl fun v3 wj _ F sz => gw 1 F rfl fun _ F => ⟨sz.drop.f1.drop.f1.drop.f1.drop, BJ hD3 ⟨g0, v0, v1, v3, F.sb, sz.f4.f1.f4.f4.f4⟩ (by kernel_rfl)⟩
  exact Au (Flat.int .i64) (0 : Int) F s11 Bz rfl rfl Eg rfl rfl rfl h6 rfl fun v4 wi _ F sw => gw 1 F rfl fun _ F => ⟨sw.drop.f1.drop.f1.drop.f1.drop, BJ hD5 ⟨g0, v0, v1, v4, F.sb, sw.f4.f1.f4.f4.f4⟩ (by kernel_rfl)⟩
 refine CJ [0, 1, 2, 3, 4, 5, 6, 7, 9, 10] (fun a w_ => ∃ v0 : Value, ∃ v1 : Value, Fr a 103 [(1, jI a1), (2, v2), (3, jP g8), (10, jI (a2.length : Int)), (31, v0), (34, v1), (36, jI (wr ((a2.length : Int) + 1))), (39, jI (wr ((a2.length : Int) + 1)))] ∧ SL w [] w_ [A8 g8 110 [v0_0, v0_1, jI a0.Fn], Sl Ty.bool v0 x1, Sl BM v1 x2]) ?_ fun hD8 => ?_
 ·rintro a w_ ⟨v0, v1, F, s13⟩
  refine Ts 8 11 13 rfl rfl rfl (by kernel_rfl) ?_ ?_ ?_
  ·exact Au Flat.bool false F s13 Co rfl rfl Cu rfl rfl rfl h5 rfl fun v3 wj _ F sz => gw 1 F rfl fun _ F => ⟨sz.drop.f1.drop.f1.drop, BJ hD4 ⟨v0, v1, v3, F.sb, sz.f3.f3.f3⟩ (by kernel_rfl)⟩
  ·exact Au (Flat.int .i64) (0 : Int) F s13 Bz rfl rfl Eg rfl rfl rfl h6 rfl fun v4 wi _ F sw => gw 1 F rfl fun _ F => ⟨sw.drop.f1.drop.f1.drop, BJ hD6 ⟨v0, v1, v4, F.sb, sw.f3.f3.f3⟩ (by kernel_rfl)⟩
  exact Af F s13 Dw rfl rfl fun g0 wh _ F su => gw 1 F rfl fun _ F => ⟨su.drop.f1.drop.f1.drop, BJ hD7 ⟨g0, v0, v1, F.sb, su.f3.f3.f3⟩ (by kernel_rfl)⟩
 refine CJ [0, 1, 2, 3, 4, 6, 7, 8, 9, 10, 11, 13] (fun a w_ => ∃ g0 : Nat, ∃ v0 : Value, ∃ v3 : Value, ∃ v4 : Value, Fr a 103 [(1, jI a1), (2, v2), (3, jP g8), (10, jI (a2.length : Int)), (11, jP g0), (31, v0), (33, jI (wr ((a2.length : Int) + 1))), (37, v3), (40, v4)] ∧ SL w [] w_ [A8 g8 110 [v0_0, v0_1, jI a0.Fn], Sl Ty.bool v0 x1, Sl Ty.bool v3 x3, Sl (Ty.int .i64) v4 x4, A8 g0 164 [.slice none 0 0, .slice none 0 0, .slice none 0 0, .slice none 0 0]]) ?_ fun hD9 => ?_
 ·rintro a w_ ⟨g0, v0, v3, v4, F, s14⟩
  refine ho 5 rfl (by kernel_rfl) ?_
  exact Au Cj (⟨(0 : Int), (0 : Int), (Vector.replicate 24 (0 : UInt8))⟩ : A4) F s14 D9 rfl rfl AO rfl rfl rfl h4 rfl fun v1 wk _ F s15 => gw 1 F rfl fun _ F => ⟨s15.drop.f1.drop.f1.drop.f1.drop.f1.drop, BJ hD1 ⟨g0, v0, v1, v3, v4, F.sb, s15.f5.f5.f5.f3.f5.f5⟩ (by kernel_rfl)⟩
 refine CJ [0, 1, 2, 3, 4, 6, 7, 8, 9, 10, 11] (fun a w_ => ∃ v0 : Value, ∃ v3 : Value, ∃ v4 : Value, Fr a 103 [(1, jI a1), (2, v2), (3, jP g8), (10, jI (a2.length : Int)), (31, v0), (33, jI (wr ((a2.length : Int) + 1))), (37, v3), (40, v4)] ∧ SL w [] w_ [A8 g8 110 [v0_0, v0_1, jI a0.Fn], Sl Ty.bool v0 x1, Sl Ty.bool v3 x3, Sl (Ty.int .i64) v4 x4]) ?_ fun h1f => ?_
 ·rintro a w_ ⟨v0, v3, v4, F, s16⟩
  refine E5 5 13 rfl rfl (by kernel_rfl) ?_ ?_
  ·exact Au Cj (⟨(0 : Int), (0 : Int), (Vector.replicate 24 (0 : UInt8))⟩ : A4) F s16 D9 rfl rfl AO rfl rfl rfl h4 rfl fun v1 wk _ F s15 => gw 1 F rfl fun _ F => ⟨s15.drop.f1.drop.f1.drop.f1.drop, BJ hD2 ⟨v0, v1, v3, v4, F.sb, s15.f4.f4.f2.f4.f4⟩ (by kernel_rfl)⟩
  exact Af F s16 Dw rfl rfl fun g0 wh _ F su => gw 1 F rfl fun _ F => ⟨su.drop.f1.drop.f1.drop.f1.drop, BJ hD9 ⟨g0, v0, v3, v4, F.sb, su.f4.f4.f4.f4⟩ (by kernel_rfl)⟩
 refine CJ [0, 1, 2, 3, 4, 6, 7, 8, 9, 10, 13] (fun a w_ => ∃ g0 : Nat, ∃ v0 : Value, ∃ v3 : Value, Fr a 103 [(1, jI a1), (2, v2), (3, jP g8), (10, jI (a2.length : Int)), (11, jP g0), (31, v0), (33, jI (wr ((a2.length : Int) + 1))), (37, v3), (39, jI (wr ((a2.length : Int) + 1)))] ∧ SL w [] w_ [A8 g8 110 [v0_0, v0_1, jI a0.Fn], Sl Ty.bool v0 x1, Sl Ty.bool v3 x3, A8 g0 164 [.slice none 0 0, .slice none 0 0, .slice none 0 0, .slice none 0 0]]) ?_ fun h1g => ?_
 ·rintro a w_ ⟨g0, v0, v3, F, s17⟩
  refine E5 5 11 rfl rfl (by kernel_rfl) ?_ ?_
  ·exact Au Cj (⟨(0 : Int), (0 : Int), (Vector.replicate 24 (0 : UInt8))⟩ : A4) F s17 D9 rfl rfl AO rfl rfl rfl h4 rfl fun v1 wk _ F s15 => gw 1 F rfl fun _ F => ⟨s15.drop.f1.drop.f1.drop.f1.drop, BJ hD3 ⟨g0, v0, v1, v3, F.sb, s15.f4.f4.f2.f4.f4⟩ (by kernel_rfl)⟩
  exact Au (Flat.int .i64) (0 : Int) F s17 Bz rfl rfl Eg rfl rfl rfl h6 rfl fun v4 wi _ F sw => gw 1 F rfl fun _ F => ⟨sw.drop.f1.drop.f1.drop.f1.drop, BJ hD9 ⟨g0, v0, v3, v4, F.sb, sw.f4.f1.f4.f4.f4⟩ (by kernel_rfl)⟩
 refine CJ [0, 1, 2, 3, 4, 6, 7, 8, 9, 10] (fun a w_ => ∃ v0 : Value, ∃ v3 : Value, Fr a 103 [(1, jI a1), (2, v2), (3, jP g8), (10, jI (a2.length : Int)), (31, v0), (33, jI (wr ((a2.length : Int) + 1))), (37, v3), (39, jI (wr ((a2.length : Int) + 1)))] ∧ SL w [] w_ [A8 g8 110 [v0_0, v0_1, jI a0.Fn], Sl Ty.bool v0 x1, Sl Ty.bool v3 x3]) ?_ fun h1h => ?_
 ·rintro a w_ ⟨v0, v3, F, s18⟩
  refine Ts 5 11 13 rfl rfl rfl (by kernel_rfl) ?_ ?_ ?_
  ·exact Au Cj (⟨(0 : Int), (0 : Int), (Vector.replicate 24 (0 : UInt8))⟩ : A4) F s18 D9 rfl rfl AO rfl rfl rfl h4 rfl fun v1 wk _ F s15 => gw 1 F rfl fun _ F => ⟨s15.drop.f1.drop.f1.drop, BJ hD4 ⟨v0, v1, v3, F.sb, s15.f3.f1.f3.f3⟩ (by kernel_rfl)⟩
  ·exact Au (Flat.int .i64) (0 : Int) F s18 Bz rfl rfl Eg rfl rfl rfl h6 rfl fun v4 wi _ F sw => gw 1 F rfl fun _ F => ⟨sw.drop.f1.drop.f1.drop, BJ h1f ⟨v0, v3, v4, F.sb, sw.f3.f3.f3⟩ (by kernel_rfl)⟩
  exact Af F s18 Dw rfl rfl fun g0 wh _ F su => gw 1 F rfl fun _ F => ⟨su.drop.f1.drop.f1.drop, BJ h1g ⟨g0, v0, v3, F.sb, su.f3.f3.f3⟩ (by kernel_rfl)⟩
 refine CJ [0, 1, 2, 3, 4, 6, 7, 9, 10, 11, 13] (fun a w_ => ∃ g0 : Nat, ∃ v0 : Value, ∃ v4 : Value, Fr a 103 [(1, jI a1), (2, v2), (3, jP g8), (10, jI (a2.length : Int)), (11, jP g0), (31, v0), (33, jI (wr ((a2.length : Int) + 1))), (36, jI (wr ((a2.length : Int) + 1))), (40, v4)] ∧ SL w [] w_ [A8 g8 110 [v0_0, v0_1, jI a0.Fn], Sl Ty.bool v0 x1, Sl (Ty.int .i64) v4 x4, A8 g0 164 [.slice none 0 0, .slice none 0 0, .slice none 0 0, .slice none 0 0]]) ?_ fun h1i => ?_
 ·rintro a w_ ⟨g0, v0, v4, F, s19⟩
  refine E5 5 8 rfl rfl (by kernel_rfl) ?_ ?_
  ·exact Au Cj (⟨(0 : Int), (0 : Int), (Vector.replicate 24 (0 : UInt8))⟩ : A4) F s19 D9 rfl rfl AO rfl rfl rfl h4 rfl fun v1 wk _ F s15 => gw 1 F rfl fun _ F => ⟨s15.drop.f1.drop.f1.drop.f1.drop, BJ hD5 ⟨g0, v0, v1, v4, F.sb, s15.f4.f4.f2.f4.f4⟩ (by kernel_rfl)⟩
  exact Au Flat.bool false F s19 Co rfl rfl Cu rfl rfl rfl h5 rfl fun v3 wj _ F sz => gw 1 F rfl fun _ F => ⟨sz.drop.f1.drop.f1.drop.f1.drop, BJ hD9 ⟨g0, v0, v3, v4, F.sb, sz.f4.f4.f2.f4.f4⟩ (by kernel_rfl)⟩
 refine CJ [0, 1, 2, 3, 4, 6, 7, 9, 10, 11] (fun a w_ => ∃ v0 : Value, ∃ v4 : Value, Fr a 103 [(1, jI a1), (2, v2), (3, jP g8), (10, jI (a2.length : Int)), (31, v0), (33, jI (wr ((a2.length : Int) + 1))), (36, jI (wr ((a2.length : Int) + 1))), (40, v4)] ∧ SL w [] w_ [A8 g8 110 [v0_0, v0_1, jI a0.Fn], Sl Ty.bool v0 x1, Sl (Ty.int .i64) v4 x4]) ?_ fun h1j => ?_
 ·rintro a w_ ⟨v0, v4, F, s1a⟩
  refine Ts 5 8 13 rfl rfl rfl (by kernel_rfl) ?_ ?_ ?_
  ·exact Au Cj (⟨(0 : Int), (0 : Int), (Vector.replicate 24 (0 : UInt8))⟩ : A4) F s1a D9 rfl rfl AO rfl rfl rfl h4 rfl fun v1 wk _ F s15 => gw 1 F rfl fun _ F => ⟨s15.drop.f1.drop.f1.drop, BJ hD6 ⟨v0, v1, v4, F.sb, s15.f3.f1.f3.f3⟩ (by kernel_rfl)⟩
  ·exact Au Flat.bool false F s1a Co rfl rfl Cu rfl rfl rfl h5 rfl fun v3 wj _ F sz => gw 1 F rfl fun _ F => ⟨sz.drop.f1.drop.f1.drop, BJ h1f ⟨v0, v3, v4, F.sb, sz.f3.f1.f3.f3⟩ (by kernel_rfl)⟩
  exact Af F s1a Dw rfl rfl fun g0 wh _ F su => gw 1 F rfl fun _ F => ⟨su.drop.f1.drop.f1.drop, BJ h1i ⟨g0, v0, v4, F.sb, su.f3.f3.f3⟩ (by kernel_rfl)⟩
 refine CJ [0, 1, 2, 3, 4, 6, 7, 9, 10, 13] (fun a w_ => ∃ g0 : Nat, ∃ v0 : Value, Fr a 103 [(1, jI a1), (2, v2), (3, jP g8), (10, jI (a2.length : Int)), (11, jP g0), (31, v0), (33, jI (wr ((a2.length : Int) + 1))), (36, jI (wr ((a2.length : Int) + 1))), (39, jI (wr ((a2.length : Int) + 1)))] ∧ SL w [] w_ [A8 g8 110 [v0_0, v0_1, jI a0.Fn], Sl Ty.bool v0 x1, A8 g0 164 [.slice none 0 0, .slice none 0 0, .slice none 0 0, .slice none 0 0]]) ?_ fun h1k => ?_
 ·rintro a w_ ⟨g0, v0, F, s1b⟩
  refine Ts 5 8 11 rfl rfl rfl (by kernel_rfl) ?_ ?_ ?_
  ·exact Au Cj (⟨(0 : Int), (0 : Int), (Vector.replicate 24 (0 : UInt8))⟩ : A4) F s1b D9 rfl rfl AO rfl rfl rfl h4 rfl fun v1 wk _ F s15 => gw 1 F rfl fun _ F => ⟨s15.drop.f1.drop.f1.drop, BJ hD7 ⟨g0, v0, v1, F.sb, s15.f3.f1.f3.f3⟩ (by kernel_rfl)⟩
  ·exact Au Flat.bool false F s1b Co rfl rfl Cu rfl rfl rfl h5 rfl fun v3 wj _ F sz => gw 1 F rfl fun _ F => ⟨sz.drop.f1.drop.f1.drop, BJ h1g ⟨g0, v0, v3, F.sb, sz.f3.f1.f3.f3⟩ (by kernel_rfl)⟩
  exact Au (Flat.int .i64) (0 : Int) F s1b Bz rfl rfl Eg rfl rfl rfl h6 rfl fun v4 wi _ F sw => gw 1 F rfl fun _ F => ⟨sw.drop.f1.drop.f1.drop, BJ h1i ⟨g0, v0, v4, F.sb, sw.f3.f1.f3.f3⟩ (by kernel_rfl)⟩
 refine CJ [0, 1, 3, 4, 5, 6, 7, 8, 9, 10, 11, 13] (fun a w_ => ∃ g0 : Nat, ∃ v1 : Value, ∃ v3 : Value, ∃ v4 : Value, Fr a 103 [(1, jI a1), (2, v2), (3, jP g8), (10, jI (a2.length : Int)), (11, jP g0), (30, jI (wr ((a2.length : Int) + 1))), (34, v1), (37, v3), (40, v4)] ∧ SL w [] w_ [A8 g8 110 [v0_0, v0_1, jI a0.Fn], Sl BM v1 x2, Sl Ty.bool v3 x3, Sl (Ty.int .i64) v4 x4, A8 g0 164 [.slice none 0 0, .slice none 0 0, .slice none 0 0, .slice none 0 0]]) ?_ fun h1l => ?_
 ·rintro a w_ ⟨g0, v1, v3, v4, F, s1c⟩
  refine ho 2 rfl (by kernel_rfl) ?_
  exact Au Flat.bool false F s1c Co rfl rfl Cu rfl rfl rfl h3 rfl fun v0 wl _ F s1d => gw 1 F rfl fun _ F => ⟨s1d.drop.f1.drop.f1.drop.f1.drop.f1.drop, BJ hD1 ⟨g0, v0, v1, v3, v4, F.sb, s1d.f5.f5.f5.f5.f4.f5⟩ (by kernel_rfl)⟩
 refine CJ [0, 1, 3, 4, 5, 6, 7, 8, 9, 10, 11] (fun a w_ => ∃ v1 : Value, ∃ v3 : Value, ∃ v4 : Value, Fr a 103 [(1, jI a1), (2, v2), (3, jP g8), (10, jI (a2.length : Int)), (30, jI (wr ((a2.length : Int) + 1))), (34, v1), (37, v3), (40, v4)] ∧ SL w [] w_ [A8 g8 110 [v0_0, v0_1, jI a0.Fn], Sl BM v1 x2, Sl Ty.bool v3 x3, Sl (Ty.int .i64) v4 x4]) ?_ fun h1m => ?_
 ·rintro a w_ ⟨v1, v3, v4, F, s1e⟩
  refine E5 2 13 rfl rfl (by kernel_rfl) ?_ ?_
  ·exact Au Flat.bool false F s1e Co rfl rfl Cu rfl rfl rfl h3 rfl fun v0 wl _ F s1d => gw 1 F rfl fun _ F => ⟨s1d.drop.f1.drop.f1.drop.f1.drop, BJ hD2 ⟨v0, v1, v3, v4, F.sb, s1d.f4.f4.f4.f3.f4⟩ (by kernel_rfl)⟩
  exact Af F s1e Dw rfl rfl fun g0 wh _ F su => gw 1 F rfl fun _ F => ⟨su.drop.f1.drop.f1.drop.f1.drop, BJ h1l ⟨g0, v1, v3, v4, F.sb, su.f4.f4.f4.f4⟩ (by kernel_rfl)⟩
 refine CJ [0, 1, 3, 4, 5, 6, 7, 8, 9, 10, 13] (fun a w_ => ∃ g0 : Nat, ∃ v1 : Value, ∃ v3 : Value, Fr a 103 [(1, jI a1), (2, v2), (3, jP g8), (10, jI (a2.length : Int)), (11, jP g0), (30, jI (wr ((a2.length : Int) + 1))), (34, v1), (37, v3), (39, jI (wr ((a2.length : Int) + 1)))] ∧ SL w [] w_ [A8 g8 110 [v0_0, v0_1, jI a0.Fn], Sl BM v1 x2, Sl Ty.bool v3 x3, A8 g0 164 [.slice none 0 0, .slice none 0 0, .slice none 0 0, .slice none 0 0]]) ?_ fun h1n => ?_
 ·rintro a w_ ⟨g0, v1, v3, F, s1f⟩
  refine E5 2 11 rfl rfl (by kernel_rfl) ?_ ?_
  ·exact Au Flat.bool false F s1f Co rfl rfl Cu rfl rfl rfl h3 rfl fun v0 wl _ F s1d => gw 1 F rfl fun _ F => ⟨s1d.drop.f1.drop.f1.drop.f1.drop, BJ hD3 ⟨g0, v0, v1, v3, F.sb, s1d.f4.f4.f4.f3.f4⟩ (by kernel_rfl)⟩
  exact Au (Flat.int .i64) (0 : Int) F s1f Bz rfl rfl Eg rfl rfl rfl h6 rfl fun v4 wi _ F sw => gw 1 F rfl fun _ F => ⟨sw.drop.f1.drop.f1.drop.f1.drop, BJ h1l ⟨g0, v1, v3, v4, F.sb, sw.f4.f1.f4.f4.f4⟩ (by kernel_rfl)⟩
 refine CJ [0, 1, 3, 4, 5, 6, 7, 8, 9, 10] (fun a w_ => ∃ v1 : Value, ∃ v3 : Value, Fr a 103 [(1, jI a1), (2, v2), (3, jP g8), (10, jI (a2.length : Int)), (30, jI (wr ((a2.length : Int) + 1))), (34, v1), (37, v3), (39, jI (wr ((a2.length : Int) + 1)))] ∧ SL w [] w_ [A8 g8 110 [v0_0, v0_1, jI a0.Fn], Sl BM v1 x2, Sl Ty.bool v3 x3]) ?_ fun h1o => ?_
 ·rintro a w_ ⟨v1, v3, F, s1g⟩
  refine Ts 2 11 13 rfl rfl rfl (by kernel_rfl) ?_ ?_ ?_
  ·exact Au Flat.bool false F s1g Co rfl rfl Cu rfl rfl rfl h3 rfl fun v0 wl _ F s1d => gw 1 F rfl fun _ F => ⟨s1d.drop.f1.drop.f1.drop, BJ hD4 ⟨v0, v1, v3, F.sb, s1d.f3.f3.f2.f3⟩ (by kernel_rfl)⟩
  ·exact Au (Flat.int .i64) (0 : Int) F s1g Bz rfl rfl Eg rfl rfl rfl h6 rfl fun v4 wi _ F sw => gw 1 F rfl fun _ F => ⟨sw.drop.f1.drop.f1.drop, BJ h1m ⟨v1, v3, v4, F.sb, sw.f3.f3.f3⟩ (by kernel_rfl)⟩
  exact Af F s1g Dw rfl rfl fun g0 wh _ F su => gw 1 F rfl fun _ F => ⟨su.drop.f1.drop.f1.drop, BJ h1n ⟨g0, v1, v3, F.sb, su.f3.f3.f3⟩ (by kernel_rfl)⟩
 refine CJ [0, 1, 3, 4, 5, 6, 7, 9, 10, 11, 13] (fun a w_ => ∃ g0 : Nat, ∃ v1 : Value, ∃ v4 : Value, Fr a 103 [(1, jI a1), (2, v2), (3, jP g8), (10, jI (a2.length : Int)), (11, jP g0), (30, jI (wr ((a2.length : Int) + 1))), (34, v1), (36, jI (wr ((a2.length : Int) + 1))), (40, v4)] ∧ SL w [] w_ [A8 g8 110 [v0_0, v0_1, jI a0.Fn], Sl BM v1 x2, Sl (Ty.int .i64) v4 x4, A8 g0 164 [.slice none 0 0, .slice none 0 0, .slice none 0 0, .slice none 0 0]]) ?_ fun h1p => ?_
 ·rintro a w_ ⟨g0, v1, v4, F, s1h⟩
  refine E5 2 8 rfl rfl (by kernel_rfl) ?_ ?_
  ·exact Au Flat.bool false F s1h Co rfl rfl Cu rfl rfl rfl h3 rfl fun v0 wl _ F s1d => gw 1 F rfl fun _ F => ⟨s1d.drop.f1.drop.f1.drop.f1.drop, BJ hD5 ⟨g0, v0, v1, v4, F.sb, s1d.f4.f4.f4.f3.f4⟩ (by kernel_rfl)⟩
  exact Au Flat.bool false F s1h Co rfl rfl Cu rfl rfl rfl h5 rfl fun v3 wj _ F sz => gw 1 F rfl fun _ F => ⟨sz.drop.f1.drop.f1.drop.f1.drop, BJ h1l ⟨g0, v1, v3, v4, F.sb, sz.f4.f4.f2.f4.f4⟩ (by kernel_rfl)⟩
 refine CJ [0, 1, 3, 4, 5, 6, 7, 9, 10, 11] (fun a w_ => ∃ v1 : Value, ∃ v4 : Value, Fr a 103 [(1, jI a1), (2, v2), (3, jP g8), (10, jI (a2.length : Int)), (30, jI (wr ((a2.length : Int) + 1))), (34, v1), (36, jI (wr ((a2.length : Int) + 1))), (40, v4)] ∧ SL w [] w_ [A8 g8 110 [v0_0, v0_1, jI a0.Fn], Sl BM v1 x2, Sl (Ty.int .i64) v4 x4]) ?_ fun h1q => ?_
 ·rintro a w_ ⟨v1, v4, F, s1i⟩
  refine Ts 2 8 13 rfl rfl rfl (by kernel_rfl) ?_ ?_ ?_
  ·exact Au Flat.bool false F s1i Co rfl rfl Cu rfl rfl rfl h3 rfl fun v0 wl _ F s1d => gw 1 F rfl fun _ F => ⟨s1d.drop.f1.drop.f1.drop, BJ hD6 ⟨v0, v1, v4, F.sb, s1d.f3.f3.f2.f3⟩ (by kernel_rfl)⟩
  ·exact Au Flat.bool false F s1i Co rfl rfl Cu rfl rfl rfl h5 rfl fun v3 wj _ F sz => gw 1 F rfl fun _ F => ⟨sz.drop.f1.drop.f1.drop, BJ h1m ⟨v1, v3, v4, F.sb, sz.f3.f1.f3.f3⟩ (by kernel_rfl)⟩
  exact Af F s1i Dw rfl rfl fun g0 wh _ F su => gw 1 F rfl fun _ F => ⟨su.drop.f1.drop.f1.drop, BJ h1p ⟨g0, v1, v4, F.sb, su.f3.f3.f3⟩ (by kernel_rfl)⟩
 refine CJ [0, 1, 3, 4, 5, 6, 7, 9, 10, 13] (fun a w_ => ∃ g0 : Nat, ∃ v1 : Value, Fr a 103 [(1, jI a1), (2, v2), (3, jP g8), (10, jI (a2.length : Int)), (11, jP g0), (30, jI (wr ((a2.length : Int) + 1))), (34, v1), (36, jI (wr ((a2.length : Int) + 1))), (39, jI (wr ((a2.length : Int) + 1)))] ∧ SL w [] w_ [A8 g8 110 [v0_0, v0_1, jI a0.Fn], Sl BM v1 x2, A8 g0 164 [.slice none 0 0, .slice none 0 0, .slice none 0 0, .slice none 0 0]]) ?_ fun h1r => ?_
 ·rintro a w_ ⟨g0, v1, F, s1j⟩
  refine Ts 2 8 11 rfl rfl rfl (by kernel_rfl) ?_ ?_ ?_
  ·exact Au Flat.bool false F s1j Co rfl rfl Cu rfl rfl rfl h3 rfl fun v0 wl _ F s1d => gw 1 F rfl fun _ F => ⟨s1d.drop.f1.drop.f1.drop, BJ hD7 ⟨g0, v0, v1, F.sb, s1d.f3.f3.f2.f3⟩ (by kernel_rfl)⟩
  ·exact Au Flat.bool false F s1j Co rfl rfl Cu rfl rfl rfl h5 rfl fun v3 wj _ F sz => gw 1 F rfl fun _ F => ⟨sz.drop.f1.drop.f1.drop, BJ h1n ⟨g0, v1, v3, F.sb, sz.f3.f1.f3.f3⟩ (by kernel_rfl)⟩
  exact Au (Flat.int .i64) (0 : Int) F s1j Bz rfl rfl Eg rfl rfl rfl h6 rfl fun v4 wi _ F sw => gw 1 F rfl fun _ F => ⟨sw.drop.f1.drop.f1.drop, BJ h1p ⟨g0, v1, v4, F.sb, sw.f3.f1.f3.f3⟩ (by kernel_rfl)⟩
 refine CJ [0, 1, 3, 4, 6, 7, 8, 9, 10, 11, 13] (fun a w_ => ∃ g0 : Nat, ∃ v3 : Value, ∃ v4 : Value, Fr a 103 [(1, jI a1), (2, v2), (3, jP g8), (10, jI (a2.length : Int)), (11, jP g0), (30, jI (wr ((a2.length : Int) + 1))), (33, jI (wr ((a2.length : Int) + 1))), (37, v3), (40, v4)] ∧ SL w [] w_ [A8 g8 110 [v0_0, v0_1, jI a0.Fn], Sl Ty.bool v3 x3, Sl (Ty.int .i64) v4 x4, A8 g0 164 [.slice none 0 0, .slice none 0 0, .slice none 0 0, .slice none 0 0]]) ?_ fun h1s => ?_
 ·rintro a w_ ⟨g0, v3, v4, F, s1k⟩
  refine E5 2 5 rfl rfl (by kernel_rfl) ?_ ?_
  ·exact Au Flat.bool false F s1k Co rfl rfl Cu rfl rfl rfl h3 rfl fun v0 wl _ F s1d => gw 1 F rfl fun _ F => ⟨s1d.drop.f1.drop.f1.drop.f1.drop, BJ hD9 ⟨g0, v0, v3, v4, F.sb, s1d.f4.f4.f4.f3.f4⟩ (by kernel_rfl)⟩
  exact Au Cj (⟨(0 : Int), (0 : Int), (Vector.replicate 24 (0 : UInt8))⟩ : A4) F s1k D9 rfl rfl AO rfl rfl rfl h4 rfl fun v1 wk _ F s15 => gw 1 F rfl fun _ F => ⟨s15.drop.f1.drop.f1.drop.f1.drop, BJ h1l ⟨g0, v1, v3, v4, F.sb, s15.f4.f4.f4.f3.f4⟩ (by kernel_rfl)⟩
 refine CJ [0, 1, 3, 4, 6, 7, 8, 9, 10, 11] (fun a w_ => ∃ v3 : Value, ∃ v4 : Value, Fr a 103 [(1, jI a1), (2, v2), (3, jP g8), (10, jI (a2.length : Int)), (30, jI (wr ((a2.length : Int) + 1))), (33, jI (wr ((a2.length : Int) + 1))), (37, v3), (40, v4)] ∧ SL w [] w_ [A8 g8 110 [v0_0, v0_1, jI a0.Fn], Sl Ty.bool v3 x3, Sl (Ty.int .i64) v4 x4]) ?_ fun h1t => ?_
 ·rintro a w_ ⟨v3, v4, F, s1l⟩
  refine Ts 2 5 13 rfl rfl rfl (by kernel_rfl) ?_ ?_ ?_
  ·exact Au Flat.bool false F s1l Co rfl rfl Cu rfl rfl rfl h3 rfl fun v0 wl _ F s1d => gw 1 F rfl fun _ F => ⟨s1d.drop.f1.drop.f1.drop, BJ h1f ⟨v0, v3, v4, F.sb, s1d.f3.f3.f2.f3⟩ (by kernel_rfl)⟩
  ·exact Au Cj (⟨(0 : Int), (0 : Int), (Vector.replicate 24 (0 : UInt8))⟩ : A4) F s1l D9 rfl rfl AO rfl rfl rfl h4 rfl fun v1 wk _ F s15 => gw 1 F rfl fun _ F => ⟨s15.drop.f1.drop.f1.drop, BJ h1m ⟨v1, v3, v4, F.sb, s15.f3.f3.f2.f3⟩ (by kernel_rfl)⟩
  exact Af F s1l Dw rfl rfl fun g0 wh _ F su => gw 1 F rfl fun _ F => ⟨su.drop.f1.drop.f1.drop, BJ h1s ⟨g0, v3, v4, F.sb, su.f3.f3.f3⟩ (by kernel_rfl)⟩
 refine CJ [0, 1, 3, 4, 6, 7, 8, 9, 10, 13] (fun a w_ => ∃ g0 : Nat, ∃ v3 : Value, Fr a 103 [(1, jI a1), (2, v2), (3, jP g8), (10, jI (a2.length : Int)), (11, jP g0), (30, jI (wr ((a2.length : Int) + 1))), (33, jI (wr ((a2.length : Int) + 1))), (37, v3), (39, jI (wr ((a2.length : Int) + 1)))] ∧ SL w [] w_ [A8 g8 110 [v0_0, v0_1, jI a0.Fn], Sl Ty.bool v3 x3, A8 g0 164 [.slice none 0 0, .slice none 0 0, .slice none 0 0, .slice none 0 0]]) ?_ fun h1u => ?_
 ·rintro a w_ ⟨g0, v3, F, s1m⟩
  refine Ts 2 5 11 rfl rfl rfl (by kernel_rfl) ?_ ?_ ?_
  ·exact Au Flat.bool false F s1m Co rfl rfl Cu rfl rfl rfl h3 rfl fun v0 wl _ F s1d => gw 1 F rfl fun _ F => ⟨s1d.drop.f1.drop.f1.drop, BJ h1g ⟨g0, v0, v3, F.sb, s1d.f3.f3.f2.f3⟩ (by kernel_rfl)⟩
  ·exact Au Cj (⟨(0 : Int), (0 : Int), (Vector.replicate 24 (0 : UInt8))⟩ : A4) F s1m D9 rfl rfl AO rfl rfl rfl h4 rfl fun v1 wk _ F s15 => gw 1 F rfl fun _ F => ⟨s15.drop.f1.drop.f1.drop, BJ h1n ⟨g0, v1, v3, F.sb, s15.f3.f3.f2.f3⟩ (by kernel_rfl)⟩
  exact Au (Flat.int .i64) (0 : Int) F s1m Bz rfl rfl Eg rfl rfl rfl h6 rfl fun v4 wi _ F sw => gw 1 F rfl fun _ F => ⟨sw.drop.f1.drop.f1.drop, BJ h1s ⟨g0, v3, v4, F.sb, sw.f3.f1.f3.f3⟩ (by kernel_rfl)⟩
 refine CJ [0, 1, 3, 4, 6, 7, 9, 10, 11, 13] (fun a w_ => ∃ g0 : Nat, ∃ v4 : Value, Fr a 103 [(1, jI a1), (2, v2), (3, jP g8), (10, jI (a2.length : Int)), (11, jP g0), (30, jI (wr ((a2.length : Int) + 1))), (33, jI (wr ((a2.length : Int) + 1))), (36, jI (wr ((a2.length : Int) + 1))), (40, v4)] ∧ SL w [] w_ [A8 g8 110 [v0_0, v0_1, jI a0.Fn], Sl (Ty.int .i64) v4 x4, A8 g0 164 [.slice none 0 0, .slice none 0 0, .slice none 0 0, .slice none 0 0]]) ?_ fun h1v => ?_
 ·rintro a w_ ⟨g0, v4, F, s1n⟩
  refine Ts 2 5 8 rfl rfl rfl (by kernel_rfl) ?_ ?_ ?_
  ·exact Au Flat.bool false F s1n Co rfl rfl Cu rfl rfl rfl h3 rfl fun v0 wl _ F s1d => gw 1 F rfl fun _ F => ⟨s1d.drop.f1.drop.f1.drop, BJ h1i ⟨g0, v0, v4, F.sb, s1d.f3.f3.f2.f3⟩ (by kernel_rfl)⟩
  ·exact Au Cj (⟨(0 : Int), (0 : Int), (Vector.replicate 24 (0 : UInt8))⟩ : A4) F s1n D9 rfl rfl AO rfl rfl rfl h4 rfl fun v1 wk _ F s15 => gw 1 F rfl fun _ F => ⟨s15.drop.f1.drop.f1.drop, BJ h1p ⟨g0, v1, v4, F.sb, s15.f3.f3.f2.f3⟩ (by kernel_rfl)⟩
  exact Au Flat.bool false F s1n Co rfl rfl Cu rfl rfl rfl h5 rfl fun v3 wj _ F sz => gw 1 F rfl fun _ F => ⟨sz.drop.f1.drop.f1.drop, BJ h1s ⟨g0, v3, v4, F.sb, sz.f3.f3.f2.f3⟩ (by kernel_rfl)⟩
 refine hm_ (rs := [2, 5, 8, 11, 13]) (by kernel_rfl) (by decide) (OO rfl ?_ <| OO rfl ?_ <| OO rfl ?_ <| OO rfl ?_ <| OO rfl ?_ <| Sr)
 ·refine Au Flat.bool false F s3 Co rfl rfl Cu rfl rfl rfl h3 rfl fun v0 wl _ F s1d => gw 1 F rfl fun _ F => ⟨s1d.drop, ?_⟩
  refine ho4 5 8 11 13 rfl rfl rfl rfl (by kernel_rfl) ?_ ?_ ?_ ?_
  ·exact Au Cj (⟨(0 : Int), (0 : Int), (Vector.replicate 24 (0 : UInt8))⟩ : A4) F s1d D9 rfl rfl AO rfl rfl rfl h4 rfl fun v1 wk _ F s15 => gw 1 F rfl fun _ F => ⟨s15.drop.drop, BJ hD8 ⟨v0, v1, F.sb, s15.f1.f2⟩ (by kernel_rfl)⟩
  ·exact Au Flat.bool false F s1d Co rfl rfl Cu rfl rfl rfl h5 rfl fun v3 wj _ F sz => gw 1 F rfl fun _ F => ⟨sz.drop.drop, BJ h1h ⟨v0, v3, F.sb, sz.f1.f2⟩ (by kernel_rfl)⟩
  ·exact Au (Flat.int .i64) (0 : Int) F s1d Bz rfl rfl Eg rfl rfl rfl h6 rfl fun v4 wi _ F sw => gw 1 F rfl fun _ F => ⟨sw.drop.drop, BJ h1j ⟨v0, v4, F.sb, sw.f1.f2⟩ (by kernel_rfl)⟩
  exact Af F s1d Dw rfl rfl fun g0 wh _ F su => gw 1 F rfl fun _ F => ⟨su.drop.drop, BJ h1k ⟨g0, v0, F.sb, su.f1.f2⟩ (by kernel_rfl)⟩
 ·refine Au Cj (⟨(0 : Int), (0 : Int), (Vector.replicate 24 (0 : UInt8))⟩ : A4) F s3 D9 rfl rfl AO rfl rfl rfl h4 rfl fun v1 wk _ F s15 => gw 1 F rfl fun _ F => ⟨s15.drop, ?_⟩
  refine ho4 2 8 11 13 rfl rfl rfl rfl (by kernel_rfl) ?_ ?_ ?_ ?_
  ·exact Au Flat.bool false F s15 Co rfl rfl Cu rfl rfl rfl h3 rfl fun v0 wl _ F s1d => gw 1 F rfl fun _ F => ⟨s1d.drop.drop, BJ hD8 ⟨v0, v1, F.sb, s1d.f1.f1.f2⟩ (by kernel_rfl)⟩
  ·exact Au Flat.bool false F s15 Co rfl rfl Cu rfl rfl rfl h5 rfl fun v3 wj _ F sz => gw 1 F rfl fun _ F => ⟨sz.drop.drop, BJ h1o ⟨v1, v3, F.sb, sz.f1.f2⟩ (by kernel_rfl)⟩
  ·exact Au (Flat.int .i64) (0 : Int) F s15 Bz rfl rfl Eg rfl rfl rfl h6 rfl fun v4 wi _ F sw => gw 1 F rfl fun _ F => ⟨sw.drop.drop, BJ h1q ⟨v1, v4, F.sb, sw.f1.f2⟩ (by kernel_rfl)⟩
  exact Af F s15 Dw rfl rfl fun g0 wh _ F su => gw 1 F rfl fun _ F => ⟨su.drop.drop, BJ h1r ⟨g0, v1, F.sb, su.f1.f2⟩ (by kernel_rfl)⟩
 ·refine Au Flat.bool false F s3 Co rfl rfl Cu rfl rfl rfl h5 rfl fun v3 wj _ F sz => gw 1 F rfl fun _ F => ⟨sz.drop, ?_⟩
  refine ho4 2 5 11 13 rfl rfl rfl rfl (by kernel_rfl) ?_ ?_ ?_ ?_
  ·exact Au Flat.bool false F sz Co rfl rfl Cu rfl rfl rfl h3 rfl fun v0 wl _ F s1d => gw 1 F rfl fun _ F => ⟨s1d.drop.drop, BJ h1h ⟨v0, v3, F.sb, s1d.f1.f1.f2⟩ (by kernel_rfl)⟩
  ·exact Au Cj (⟨(0 : Int), (0 : Int), (Vector.replicate 24 (0 : UInt8))⟩ : A4) F sz D9 rfl rfl AO rfl rfl rfl h4 rfl fun v1 wk _ F s15 => gw 1 F rfl fun _ F => ⟨s15.drop.drop, BJ h1o ⟨v1, v3, F.sb, s15.f1.f1.f2⟩ (by kernel_rfl)⟩
  ·exact Au (Flat.int .i64) (0 : Int) F sz Bz rfl rfl Eg rfl rfl rfl h6 rfl fun v4 wi _ F sw => gw 1 F rfl fun _ F => ⟨sw.drop.drop, BJ h1t ⟨v3, v4, F.sb, sw.f1.f2⟩ (by kernel_rfl)⟩
  exact Af F sz Dw rfl rfl fun g0 wh _ F su => gw 1 F rfl fun _ F => ⟨su.drop.drop, BJ h1u ⟨g0, v3, F.sb, su.f1.f2⟩ (by kernel_rfl)⟩
 ·refine Au (Flat.int .i64) (0 : Int) F s3 Bz rfl rfl Eg rfl rfl rfl h6 rfl fun v4 wi _ F sw => gw 1 F rfl fun _ F => ⟨sw.drop, ?_⟩
  refine ho4 2 5 8 13 rfl rfl rfl rfl (by kernel_rfl) ?_ ?_ ?_ ?_
  ·exact Au Flat.bool false F sw Co rfl rfl Cu rfl rfl rfl h3 rfl fun v0 wl _ F s1d => gw 1 F rfl fun _ F => ⟨s1d.drop.drop, BJ h1j ⟨v0, v4, F.sb, s1d.f1.f1.f2⟩ (by kernel_rfl)⟩
  ·exact Au Cj (⟨(0 : Int), (0 : Int), (Vector.replicate 24 (0 : UInt8))⟩ : A4) F sw D9 rfl rfl AO rfl rfl rfl h4 rfl fun v1 wk _ F s15 => gw 1 F rfl fun _ F => ⟨s15.drop.drop, BJ h1q ⟨v1, v4, F.sb, s15.f1.f1.f2⟩ (by kernel_rfl)⟩
  ·exact Au Flat.bool false F sw Co rfl rfl Cu rfl rfl rfl h5 rfl fun v3 wj _ F sz => gw 1 F rfl fun _ F => ⟨sz.drop.drop, BJ h1t ⟨v3, v4, F.sb, sz.f1.f1.f2⟩ (by kernel_rfl)⟩
  exact Af F sw Dw rfl rfl fun g0 wh _ F su => gw 1 F rfl fun _ F => ⟨su.drop.drop, BJ h1v ⟨g0, v4, F.sb, su.f1.f2⟩ (by kernel_rfl)⟩
 refine Af F s3 Dw rfl rfl fun g0 wh _ F su => gw 1 F rfl fun _ F => ⟨su.drop, ?_⟩
 refine ho4 2 5 8 11 rfl rfl rfl rfl (by kernel_rfl) ?_ ?_ ?_ ?_
 ·exact Au Flat.bool false F su Co rfl rfl Cu rfl rfl rfl h3 rfl fun v0 wl _ F s1d => gw 1 F rfl fun _ F => ⟨s1d.drop.drop, BJ h1k ⟨g0, v0, F.sb, s1d.f1.f1.f2⟩ (by kernel_rfl)⟩
 ·exact Au Cj (⟨(0 : Int), (0 : Int), (Vector.replicate 24 (0 : UInt8))⟩ : A4) F su D9 rfl rfl AO rfl rfl rfl h4 rfl fun v1 wk _ F s15 => gw 1 F rfl fun _ F => ⟨s15.drop.drop, BJ h1r ⟨g0, v1, F.sb, s15.f1.f1.f2⟩ (by kernel_rfl)⟩
 ·exact Au Flat.bool false F su Co rfl rfl Cu rfl rfl rfl h5 rfl fun v3 wj _ F sz => gw 1 F rfl fun _ F => ⟨sz.drop.drop, BJ h1u ⟨g0, v3, F.sb, sz.f1.f1.f2⟩ (by kernel_rfl)⟩
 exact Au (Flat.int .i64) (0 : Int) F su Bz rfl rfl Eg rfl rfl rfl h6 rfl fun v4 wi _ F sw => gw 1 F rfl fun _ F => ⟨sw.drop.drop, BJ h1v ⟨g0, v4, F.sb, sw.f1.f1.f2⟩ (by kernel_rfl)⟩
theorem J9 {w : World} {v0_1 v0_2 v0_3 : Value} {a0 : AL} {a1 : Int} {r : (List A9) × Int × Int × Int} (hr0_1 : Rd AB w [] v0_1 a0.Classes) (hr0_2 : Rd Cc w [] v0_2 a0.Funcs) (hr0_3 : Rd (Ty.slice Ty.u8) w [] v0_3 a0.Ca) (H : Dg a0 a1 = some r) :
    Calls prog 34 #[.agg ⟨[.string ⟨⟨a0.Name⟩⟩, v0_1, v0_2, v0_3]⟩, jI a1] w (B9 fun u_ w_ => ∃ u0 : Value, u_ = .tuple ⟨[u0, jI r.2.1, jI r.2.2.1, jI r.2.2.2]⟩ ∧ SL w [] w_ [Sl Bs u0 r.1]) := by
 have s0 : SL w [] w [] := SL.Bt w
 refine BD func34 ntmps34 2 rfl rfl rfl fun _ F0 => ?_
 unfold Dg at H
 refine Ar F0 s0 rfl rfl rfl fun g8 w9 _ F s1 => ?_
 obtain ⟨x0, h0, H⟩ := Aa H
 refine gw 8 F rfl fun _ F => AG F s1 m0 1 rfl fun _ F => Df F (S7 (a0 := (⟨a0.Name, a0.Classes, a0.Funcs, a0.Ca⟩ : AL)) (wb := w) (Fb := []) s1.fm Tb hr0_1 hr0_2 hr0_3 h0) fun v0 w0 _ h1 F => ?_
 obtain ⟨v1, v2, rfl, h2, h3⟩ := h1
 have s2 := s1.add h3
 have h4 := BS.rd h2 hr0_1
 refine gw 3 F rfl fun _ F => Af F s2 Gx rfl rfl fun g0 w1 _ F s3 => Ai F s3 rfl rfl J3 (Ab (Aq (fR h4 s3)) (Ab (Aq (fO s3 m1)) (Ab rfl Ap))) (Ac rfl) fun w2 _ F s4 => gw 10 F rfl fun _ F => AH F H 10 4 rfl rfl rfl (fun h5 H _ F => ?_) (fun h5 H _ F => ?_)
 ·cases H
  exact rt F ⟨(.slice none 0 0), rfl, (SL.BI (T := Bs) s4).f1.drop.f1.drop.f1.drop⟩
 obtain ⟨x1, h6, H⟩ := Aa H
 obtain ⟨a2, c0, G0, h7, h8, h9, ha⟩ := Rd.idx hr0_2 Ke rfl h6
 obtain ⟨v3, v4, rfl, hb, hc⟩ := (Jv h9 ha)
 replace h8 := h8 _ _ s4
 refine gw 1 F rfl fun _ F => AG F s4 m2 1 rfl fun _ F => gi F h7 0 rfl fun _ F => gx F (Av My rfl h8 rfl) 0 rfl rfl fun _ F => Af F s4 Oa rfl rfl fun g1 w3 _ F s5 => Ai F s5 rfl rfl Qe (Ab rfl (Ab (Aq (fR hb s5)) (Ab rfl (Ab rfl (Ab (Aq (fR hc s5)) Ap))))) (Ac rfl) fun w4 _ F s6 => ?_
 obtain ⟨x2, hd, H⟩ := Aa H
 refine gw 4 F rfl fun _ F => AG F s6 m1 1 rfl fun _ F => AG F s6 m0 1 rfl fun _ F => AG F s6 m0 0 rfl fun _ F => Df F (QV (a0 := (⟨x0.1.Classes, x0.1.AQ, x0.1.Fn⟩ : AA)) (h4.AN s6) (Rd.conv (s6.rd0 m2) s6.fm Tb (Conv.iso Ge (Conv.pair (Conv.XV _) (Conv.refl _)))) (hc.AN s6) hd) fun v5 w5 _ he F => ?_
 obtain ⟨v6, rfl, hf⟩ := he
 have s7 := s6.add hf
 refine gw 16 F rfl fun _ F => AH F H 12 18 rfl rfl rfl (fun hg H _ F => ?_) (fun hg H _ F => ?_)
 ·cases H
  exact rt F ⟨(.slice none 0 0), rfl, (SL.BI (T := Bs) s7).f1.drop.f1.drop.f1.drop.f1.drop.f1.drop⟩
 obtain ⟨o0, H0, R0⟩ := Aa H
 clear H
 refine BA (fun a w_ => ∃ v7 : Value, Fr a 83 [(14, v7), (15, jI o0.2)] ∧ SL w [] w_ [Sl Bs v7 o0.1]) ?_ ?_
 ·have H := H0
  refine gc 1 F rfl fun _ F => Cy (DU x1 x2) (fun s8 a w_ => ∃ v8 : Value, Fr a 83 [(10, jP g1), (11, v6), (14, v8), (15, jI s8.2.1), (16, jI s8.2.2)] ∧ SL w [] w_ [Sl Dy v6 x2.1, A8 g1 52 [.string ⟨⟨x1.Name⟩⟩, v3, jU (x1.Sig.Result.toNat : Int), jI x1.Locals, v4], Sl Bs v8 s8.1]) H ?_ ?_
  ·exact ⟨(.slice none 0 0), F.sb, (SL.BI (T := Bs) s7).f3.drop.f3.drop.f3.drop.f2.f2⟩
  intro s8 _ w6 hh o1 H hr
  obtain ⟨v8, F, s9⟩ := hh
  replace H : DU x1 x2 s8 = some o1 := H
  unfold DU at H
  refine gc 5 F rfl fun _ F => gx F (Ah rfl underlying113 (fO s9 m0)) 3 rfl rfl fun _ F => AH F H 5 4 rfl rfl rfl (fun hi H _ F => ?_) (fun hi H _ F => ?_)
  ·obtain ⟨x3, hj, H⟩ := Aa H
   obtain ⟨x4, hk, H⟩ := Aa H
   refine Cq Bq s9 ?_
   have sa := s9.drew
   obtain ⟨a3, hl, hm⟩ := FK Gs (fun _ hC => (hC.BK m0)) sa KX rfl hj
   refine hq [0, 1, 2, 3, 4, 5, 6] F sa (QI.ev 1 rfl <| QI.ld m1 rfl <| QI.ev 2 rfl <| QI.ix hl rfl <| QI.op rfl (fun _ hC => Ba Zc rfl) rfl <| QI.op rfl (fun _ hC => An BE rfl (Bn.at_ (hm _ hC) (o := 0) rfl)) rfl <| QI.nil) (by kernel_rfl) fun _ F => ?_
   refine CJ [0, 1, 2, 3, 4, 5, 6, 7, 8, 9, 10, 11, 12] (fun a w_ => ∃ g2 : Nat, Fr a 83 [(10, jP g1), (11, v6), (14, v8), (15, jI s8.2.1), (16, jI s8.2.2), (17, jP g2), (62, jI x4.2)] ∧ SL w [] w_ [Sl Dy v6 x2.1, A8 g1 52 [.string ⟨⟨x1.Name⟩⟩, v3, jU (x1.Sig.Result.toNat : Int), jI x1.Locals, v4], Sl Bs v8 s8.1, A8 g2 79 [jI x4.1.At, jU (x4.1.Op.toNat : Int), jI x4.1.A, jI x4.1.B]]) ?_ fun hD0 => ?_
   ·rintro a w_ ⟨g2, F, sc⟩
    refine hq [13] F sc.f3.drop (QI.ev 1 rfl <| QI.nil) (by kernel_rfl) fun _ F => ?_
    refine CP (by kernel_rfl) ?_
    refine ge 4 F rfl fun _ F => AG F sc m3 0 rfl fun _ F => ?_
    refine Ae (parts := [(0, .tmp 64)]) Dq ([(⟨x4.1.At, x4.1.Op, x4.1.A, x4.1.B⟩ : A9)] : List A9) F sc IF rfl (by decide) rfl rfl rfl (by simp [Value.cells]) rfl rfl rfl fun v9 w7 _ F sd => ?_
    obtain ⟨x5, hn, H⟩ := Aa H
    obtain ⟨_, hr_⟩ := (sd.f3.BK m1)
    refine Aw Dq F sd.f3 IF rfl rfl rfl rfl hr_ rfl rfl hn rfl fun va w8 _ F se => ?_
    have s7209' := se.f1.drop
    obtain ⟨x6, hp, H⟩ := Aa H
    obtain ⟨a4, hs, ht⟩ := Ax Gs s7209' m1 KX rfl hp
    refine gw 7 F rfl fun _ F => gi F hs 0 rfl fun _ F => gx F (Ba Uz rfl) 0 rfl rfl fun _ F => gx F (Aa3 U8 rfl rfl) 0 rfl rfl fun _ F => gx F (An BE rfl (Bn.at_ (SL.C0 Gs s7209' m1 ht hp) (o := 3) rfl)) 4 rfl rfl fun _ F => AH F H 3 8 rfl rfl rfl (fun hu H _ F => ?_) (fun hu H _ F => ?_)
    ·obtain ⟨x7, hv, H⟩ := Aa H
     obtain ⟨a5, hw, hx⟩ := Ax Gs s7209' m1 KX rfl hv
     refine gi F hw 0 rfl fun _ F => gx F (Ba Uz rfl) 0 rfl rfl fun _ F => gx F (Aa3 U8 rfl rfl) 0 rfl rfl fun _ F => ?_
     cases H
     exact gx F (An BE rfl (Bn.at_ (SL.C0 Gs s7209' m1 hx hv) (o := 3) rfl)) 9 rfl rfl fun _ F => ⟨_, rfl, va, F.sb, s7209'.f3.drop.f2.f2⟩
    cases H
    exact ⟨_, rfl, va, F.sb, s7209'.f3.drop.f2.f2⟩
   refine E5 7 11 rfl rfl (by kernel_rfl) ?_ ?_
   ·refine B5 F sa (JQ (hc.AN sa) hk) 1 rfl rfl rfl rfl fun wa _ F sf => ⟨sf, ?_⟩
    refine hq [8, 9, 10] F sf (QI.ev 3 rfl <| QI.nil) (by kernel_rfl) fun _ F => ?_
    refine ho 11 rfl (by kernel_rfl) ?_
    refine Af F sf DZ rfl rfl fun g2 wc _ F sg => gw 1 F rfl fun _ F => ⟨sg.drop, ?_⟩
    refine ho 12 rfl (by kernel_rfl) ?_
    exact Ai F sg rfl rfl D4 (Ab rfl (Ab rfl (Ab rfl (Ab rfl Ap)))) (Ac rfl) fun wd _ F sh => gw 1 F rfl fun _ F => ⟨sh.drop, BJ hD0 ⟨g2, F.sb, sh.f3.f3.f3⟩ (by kernel_rfl)⟩
   refine Af F sa DZ rfl rfl fun g2 wc _ F sg => gw 1 F rfl fun _ F => ⟨sg.drop, ?_⟩
   refine ho 7 rfl (by kernel_rfl) ?_
   refine B5 F sg (JQ (hc.AN sg) hk) 1 rfl rfl rfl rfl fun wa _ F sf => ⟨sf.drop, ?_⟩
   refine hq [8, 9, 10] F sf.drop (QI.ev 3 rfl <| QI.nil) (by kernel_rfl) fun _ F => ?_
   refine ho 12 rfl (by kernel_rfl) ?_
   exact Ai F sf rfl rfl D4 (Ab rfl (Ab rfl (Ab rfl (Ab rfl Ap)))) (Ac rfl) fun wd _ F sh => gw 1 F rfl fun _ F => ⟨sh.drop, BJ hD0 ⟨g2, F.sb, sh.f3.f3.f3⟩ (by kernel_rfl)⟩
  cases H
  obtain rfl := hr _ rfl
  exact ⟨v8, F.sb, s9.drop.drop⟩
 intro _ we hJ
 obtain ⟨v7, F, si⟩ := hJ
 have H := R0
 clear R0 H0
 cases H
 exact ge 12 F rfl fun _ F => rt F ⟨v7, rfl, si⟩
theorem Q9 {w : World} {v0_1 v0_2 v0_3 : Value} {a0 : AL} {a1 : Int} {r : (List Int) × Int × Int} (hr0_1 : Rd AB w [] v0_1 a0.Classes) (hr0_2 : Rd Cc w [] v0_2 a0.Funcs) (hr0_3 : Rd (Ty.slice Ty.u8) w [] v0_3 a0.Ca) (H : FI a0 a1 = some r) :
    Calls prog 14 #[.agg ⟨[.string ⟨⟨a0.Name⟩⟩, v0_1, v0_2, v0_3]⟩, jI a1] w (B9 fun u_ w_ => ∃ u0 : Value, u_ = .tuple ⟨[u0, jI r.2.1, jI r.2.2]⟩ ∧ SL w [] w_ [Sl (Ty.int .i64) u0 r.1]) := by
 have s0 : SL w [] w [] := SL.Bt w
 refine BD func14 ntmps14 2 rfl rfl rfl fun _ F0 => ?_
 unfold FI at H
 refine Ar F0 s0 rfl rfl rfl fun g8 w9 _ F s1 => ?_
 obtain ⟨x0, h0, H⟩ := Aa H
 refine gw 7 F rfl fun _ F => AG F s1 m0 1 rfl fun _ F => Df F (J9 (a0 := (⟨a0.Name, a0.Classes, a0.Funcs, a0.Ca⟩ : AL)) (hr0_1.AN s1) (hr0_2.AN s1) (hr0_3.AN s1) h0) fun v0 w0 _ h1 F => ?_
 obtain ⟨v1, rfl, h2⟩ := h1
 have s2 := s1.add h2
 refine gw 18 F rfl fun _ F => AH F H 11 13 rfl rfl rfl (fun h3 H _ F => ?_) (fun h3 H _ F => ?_)
 ·cases H
  exact rt F ⟨(.slice none 0 0), rfl, (SL.BI (T := (Ty.int .i64)) s2).f1.drop.f1.drop⟩
 obtain ⟨o0, H0, R0⟩ := Aa H
 clear H
 refine BA (fun a w_ => ∃ v2 : Value, Fr a 65 [(11, v2)] ∧ SL w [] w_ [Sl (Ty.int .i64) v2 o0]) ?_ ?_
 ·have H := H0
  refine gc 1 F rfl fun _ F => Cy (Ey a0 x0) (fun s3 a w_ => ∃ v3 : Value, Fr a 65 [(2, jP g8), (7, v1), (11, v3), (12, jI s3.2)] ∧ SL w [] w_ [Sl Bs v1 x0.1, A8 g8 26 [.string ⟨⟨a0.Name⟩⟩, v0_1, v0_2, v0_3], Sl (Ty.int .i64) v3 s3.1]) H ?_ ?_
  ·exact ⟨(.slice none 0 0), F.sb, (SL.BI (T := (Ty.int .i64)) s2).f2.f2⟩
  intro s3 _ w1 h4 o1 H hr
  obtain ⟨v3, F, s4⟩ := h4
  replace H : Ey a0 x0 s3 = some o1 := H
  unfold Ey at H
  refine gc 5 F rfl fun _ F => AG F s4 m1 0 rfl fun _ F => gx F (Ah rfl underlying23 (fR hr0_2 s4)) 3 rfl rfl fun _ F => AH F H 15 4 rfl rfl rfl (fun h5 H _ F => ?_) (fun h5 H _ F => ?_)
  ·obtain ⟨o2, H1, R1⟩ := Aa H
   clear H
   refine BA (fun a w_ => Fr a 65 [(2, jP g8), (7, v1), (11, v3), (12, jI s3.2), (13, .bool o2)] ∧ SL w [] w_ [Sl Bs v1 x0.1, A8 g8 26 [.string ⟨⟨a0.Name⟩⟩, v0_1, v0_2, v0_3], Sl (Ty.int .i64) v3 s3.1]) ?_ ?_
   ·have H := H1
    refine gc 1 F rfl fun _ F => Cy (E0 x0 s3) (fun s5 a w_ => Fr a 65 [(2, jP g8), (7, v1), (11, v3), (12, jI s3.2), (13, .bool s5.1), (14, jI s5.2)] ∧ SL w [] w_ [Sl Bs v1 x0.1, A8 g8 26 [.string ⟨⟨a0.Name⟩⟩, v0_1, v0_2, v0_3], Sl (Ty.int .i64) v3 s3.1]) H ?_ ?_
    ·exact ⟨F.sb, s4⟩
    intro s5 _ w2 h6 o3 H hr
    obtain ⟨F, s6⟩ := h6
    replace H : E0 x0 s3 s5 = some o3 := H
    unfold E0 at H
    refine gc 5 F rfl fun _ F => gx F (Ah rfl underlying75 (fO s6 m0)) 3 rfl rfl fun _ F => AH F H 7 4 rfl rfl rfl (fun h7 H _ F => ?_) (fun h7 H _ F => ?_)
    ·refine BB 41 F H (fun h8 H F => ?_) (fun h8 H F => ?_)
     ·cases H
      exact gw 26 F rfl fun _ F => ⟨_, rfl, F.sb, s6⟩
     obtain ⟨x1, h9, H⟩ := Aa H
     obtain ⟨a2, ha, hb⟩ := Ax Dq s6 m0 IF rfl h9
     refine gw 2 F rfl fun _ F => AK F rfl rfl <| gi F ha 0 rfl fun _ F => AK F rfl rfl <| gx F (Ba ZV rfl) 0 rfl rfl fun _ F => AK F rfl rfl <| gx F (An LJ rfl (Bn.at_ (SL.C0 Dq s6 m0 hb h9) (o := 1) rfl)) 0 rfl rfl fun _ F => AK F rfl rfl <| gx F (Lr rfl underlying5 underlying3) 2 rfl rfl fun _ F => BB 49 F H (fun hc H F => ?_) (fun hc H F => ?_)
     ·obtain ⟨x2, hd, H⟩ := Aa H
      obtain ⟨a3, he, hf⟩ := Ax Dq s6 m0 IF rfl hd
      refine gw 2 F rfl fun _ F => AK F rfl rfl <| gi F he 0 rfl fun _ F => AK F rfl rfl <| gx F (Ba ZN rfl) 0 rfl rfl fun _ F => AK F rfl rfl ?_
      cases H
      exact gx F (An BE rfl (Bn.at_ (SL.C0 Dq s6 m0 hf hd) (o := 2) rfl)) 13 rfl rfl fun _ F => ⟨_, rfl, F.sb, s6⟩
     cases H
     exact gw 18 F rfl fun _ F => ⟨_, rfl, F.sb, s6⟩
    cases H
    obtain rfl := hr _ rfl
    exact ⟨F.sb, s6⟩
   intro _ w3 hJ
   obtain ⟨F, s7⟩ := hJ
   have H := R1
   clear R1 H1
   refine ge 6 F rfl fun _ F => AH F H 3 8 rfl rfl rfl (fun hg H _ F => ?_) (fun hg H _ F => ?_)
   ·refine Ae (parts := [(0, .tmp 61)]) (Flat.int .i64) ([s3.2] : List Int) F s7 Bz rfl (by decide) rfl rfl rfl (by simp [Value.cells]) rfl rfl rfl fun v4 w4 _ F s8 => ?_
    obtain ⟨x3, hh, H⟩ := Aa H
    obtain ⟨_, hr_⟩ := (s8.f3.BK m1)
    refine Aw (Flat.int .i64) F s8.f3 Bz rfl rfl rfl rfl hr_ rfl rfl hh rfl fun v5 w5 _ F s9 => ?_
    have s106312' := s9.f1.drop
    cases H
    exact gw 9 F rfl fun _ F => ⟨_, rfl, v5, F.sb, s106312'.f2.f2⟩
   cases H
   exact ⟨_, rfl, v3, F.sb, s7⟩
  cases H
  obtain rfl := hr _ rfl
  exact ⟨v3, F.sb, s4.drop.drop⟩
 intro _ w6 hJ
 obtain ⟨v2, F, sa⟩ := hJ
 have H := R0
 clear R0 H0
 cases H
 exact ge 10 F rfl fun _ F => rt F ⟨v2, rfl, sa⟩
theorem V4 {w : World} {v0_1 v0_2 v0_3 : Value} {a0 : AL} {a1 : Int} {r : Int × Int × Int} (hr0_1 : Rd AB w [] v0_1 a0.Classes) (hr0_2 : Rd Cc w [] v0_2 a0.Funcs) (hr0_3 : Rd (Ty.slice Ty.u8) w [] v0_3 a0.Ca) (H : Ni a0 a1 = some r) :
    Calls prog 15 #[.agg ⟨[.string ⟨⟨a0.Name⟩⟩, v0_1, v0_2, v0_3]⟩, jI a1] w (B9 fun u_ w_ => u_ = .tuple ⟨[jI r.1, jI r.2.1, jI r.2.2]⟩ ∧ SL w [] w_ []) := by
 have s0 : SL w [] w [] := SL.Bt w
 refine BD func15 ntmps15 2 rfl rfl rfl fun _ F0 => ?_
 unfold Ni at H
 refine Ar F0 s0 rfl rfl rfl fun g8 w9 _ F s1 => ?_
 obtain ⟨x0, h0, H⟩ := Aa H
 refine gw 7 F rfl fun _ F => AG F s1 m0 1 rfl fun _ F => Df F (OY (a0 := (⟨a0.Name, a0.Classes, a0.Funcs, a0.Ca⟩ : AL)) (hr0_1.AN s1) (hr0_2.AN s1) (hr0_3.AN s1) h0) fun v0 w0 _ h1 F => ?_
 obtain ⟨v1, rfl, h2⟩ := h1
 have s2 := s1.add h2
 refine gw 16 F rfl fun _ F => AH F H 11 3 rfl rfl rfl (fun h3 H _ F => ?_) (fun h3 H _ F => ?_)
 ·cases H
  exact rt F ⟨rfl, s2.drop.drop⟩
 obtain ⟨x1, h4, H⟩ := Aa H
 obtain ⟨_, ⟨g0, v2, rfl, rfl⟩, s3⟩ := SL.Ti s2 h4
 refine gc 4 F rfl fun _ F => ?_
 cases H
 exact AG F s3 m0 6 rfl fun _ F => rt F ⟨rfl, s3.drop.drop.drop⟩
theorem Qj {w : World} {v0_1 v0_2 v0_3 : Value} {a0 : AL} {a1 : Int} {r : Int × Int × Int} (hr0_1 : Rd AB w [] v0_1 a0.Classes) (hr0_2 : Rd Cc w [] v0_2 a0.Funcs) (hr0_3 : Rd (Ty.slice Ty.u8) w [] v0_3 a0.Ca) (H : Jf a0 a1 = some r) :
    Calls prog 16 #[.agg ⟨[.string ⟨⟨a0.Name⟩⟩, v0_1, v0_2, v0_3]⟩, jI a1] w (B9 fun u_ w_ => u_ = .tuple ⟨[jI r.1, jI r.2.1, jI r.2.2]⟩ ∧ SL w [] w_ []) := by
 have s0 : SL w [] w [] := SL.Bt w
 refine BD func16 ntmps16 2 rfl rfl rfl fun _ F0 => ?_
 unfold Jf at H
 refine Ar F0 s0 rfl rfl rfl fun g8 w9 _ F s1 => ?_
 obtain ⟨x0, h0, H⟩ := Aa H
 refine gw 7 F rfl fun _ F => AG F s1 m0 1 rfl fun _ F => Df F (J9 (a0 := (⟨a0.Name, a0.Classes, a0.Funcs, a0.Ca⟩ : AL)) (hr0_1.AN s1) (hr0_2.AN s1) (hr0_3.AN s1) h0) fun v0 w0 _ h1 F => ?_
 obtain ⟨v1, rfl, h2⟩ := h1
 have s2 := s1.add h2
 cases H
 exact gw 22 F rfl fun _ F => rt F ⟨rfl, s2.drop.drop⟩
theorem W0 {w : World} {a0 : A9} {r : Bool} (H : Me a0 = some r) :
    Calls prog 87 #[.agg ⟨[jI a0.At, jU (a0.Op.toNat : Int), jI a0.A, jI a0.B]⟩] w (B9 fun u_ w_ => u_ = .bool r ∧ SL w [] w_ []) := by
 have s0 : SL w [] w [] := SL.Bt w
 refine BD func87 ntmps87 2 rfl rfl rfl fun _ F0 => ?_
 unfold Me at H
 refine Ar F0 s0 rfl rfl rfl fun g8 w9 _ F s1 => gw 6 F rfl fun _ F => AG F s1 m0 2 rfl fun _ F => BB 6 F H (fun h0 H F => ?_) (fun h0 H F => ?_)
 ·refine gw 1 F rfl fun _ F => AK F rfl rfl ?_
  cases H
  exact AG F s1 m0 6 rfl fun _ F => rt F ⟨rfl, s1.drop⟩
 cases H
 exact gw 8 F rfl fun _ F => rt F ⟨rfl, s1.drop⟩
theorem Z9 {l l' : List Int} (h : l.Perm l') : Ep l = Ep l' := by
  unfold Ep
  exact List.Perm.eq_of_pairwise (le := fun a b => decide (a ≤ b) = true) (fun a b _ _ h1 h2 => by simp at h1 h2; omega) (List.pairwise_mergeSort (fun a b c h1 h2 => by simp at h1 h2 ⊢; omega) (fun a b => by simp; omega) _) (List.pairwise_mergeSort (fun a b c h1 h2 => by simp at h1 h2 ⊢; omega) (fun a b => by simp; omega) _) ((List.mergeSort_perm _ _).trans (h.trans (List.mergeSort_perm _ _).symm))
theorem JF {w : World} {FF : List Nat} {g0 : Nat} {a0 : List (Int × Int)} {r : List Int} (hst : B1 [Mp (Value.int .i64) (Value.int .i64) g0 a0] w FF) (H : Gd a0 = some r) :
    Calls prog 90 #[.map (some g0)] w (B9 fun u_ w_ => ∃ u0 : Value, u_ = u0 ∧ SL w FF w_ [Mp (Value.int .i64) (Value.int .i64) g0 a0, Sl (Ty.int .i64) u0 r]) := by
  have s0 : SL w FF w [Mp (Value.int .i64) (Value.int .i64) g0 a0] := SL.init w FF hst
  unfold Gd at H
  split at H
  · rename_i hlen
    obtain rfl := SK H
    refine Kw func90 rfl ntmps90 (Nat.le_of_ble_eq_true rfl) (args := [.map (some g0)]) fun q0 F0 => ?_
    refine wp_seq ?_
    refine GL ?_
    refine HG F0 (PR.op (Iy rfl) <| PR.nil) fun q1 F1 => ?_
    refine Gq ?_
    refine Gn ?_
    refine wp_seq ?_
    refine GL ?_
    refine HG F1 (PR.op (Iy rfl) <| PR.nil) fun q2 F2 => ?_
    refine Gq ?_
    refine Gn ?_
    refine wp_seq ?_
    refine YV (fun a w_ => ∃ (v : Value) (js : List Nat), js.Perm (List.range a0.length) ∧ Fr a 18 [(3, v)] ∧ SL w FF w_ [Sl (Ty.int .i64) v ((pick a0 js).map Prod.fst), Mp (Value.int .i64) (Value.int .i64) g0 a0]) ?_ ?_
    · refine wp_seq ?_
      refine GL ?_
      refine HG F2 (PR.op (LG rfl) <| PR.nil) fun q3 F3 => ?_
      refine XR F3 s0 underlying152 rfl rfl fun it w4 q4 F4 s4 => ?_
      refine Gq ?_
      refine Gn ?_
      refine wp_block ?_
      refine Zf (S := Nat) (R := Unit) (fun s => if s = 0 then some (.inr ()) else some (.inl (s - 1))) (fun s a w_ => ∃ (v : Value) (js : List Nat), js.Nodup ∧ (∀ j ∈ js, j < a0.length) ∧ js.length + s = a0.length ∧ Fr a 18 [(3, v), (6, jP it)] ∧ SL w FF w_ [Sl (Ty.int .i64) v ((pick a0 js).map Prod.fst), Oi (Value.int .i64) (Value.int .i64) g0 it a0 js]) (s := a0.length) (r := ()) ?_ ?_ ?_
      · have : ∀ k, AY (fun s : Nat => if s = 0 then some (.inr ()) else some (.inl (s - 1))) k = some () := by
          intro k
          induction k with
          | zero => rw [Ny]; rfl
          | succ k ih => rw [Ny, A1 (by omega)]; exact ih
        exact this _
      · exact ⟨.slice none 0 0, [], by simp, by simp, by simp, F4.sub ⟨rfl, rfl, trivial⟩, SL.BI s4⟩
      · rintro s a w_ ⟨v, js, hn, hl, hls, F5, s5⟩ o ho hr
        refine wp_seq ?_
        refine GL ?_
        refine YI F5 s5.f1 rfl rfl (fun q6 hperm F6 => ?_) (fun j p w6 q6 hp hn' hl' F6 s6 => ?_)
        · have h0 : s = 0 := by
            have := hperm.length_eq
            rw [List.length_range] at this
            omega
          subst h0
          obtain rfl : .inr () = o := SK ho
          refine HG F6 (PR.op (O3 (v := .bool false) rfl rfl) <| PR.nil) fun q7 F7 => ?_
          refine Gq ?_
          refine Gn ?_
          refine wp_seq ?_
          refine YK F7 rfl ?_
          refine wp_exit ?_
          refine Aa5 <| Aa5 <| YW ?_
          exact ⟨v, js, hperm, F7.sub ⟨rfl, trivial⟩, s5.f1.unit.f1⟩
        · have hs : s ≠ 0 := by
            intro h0
            have h7 := RX hn' hl'
            have h8 := h7.length_eq
            rw [List.length_append, List.length_append, List.length_range] at h8
            simp only [List.length_cons, List.length_nil] at h8
            omega
          obtain ⟨s', rfl⟩ : ∃ s', s = s' + 1 := ⟨s - 1, by omega⟩
          rw [A1 (by omega)] at ho
          obtain rfl : .inl (s' + 1 - 1) = o := SK ho
          refine HG F6 (PR.op (O3 (v := .bool true) rfl rfl) <| PR.nil) fun q7 F7 => ?_
          refine Gq ?_
          refine Gn ?_
          refine wp_seq ?_
          refine YE F7 rfl ?_
          refine wp_skip ?_
          refine Gn ?_
          refine wp_block ?_
          refine wp_seq ?_
          refine GL ?_
          refine HG F7 (PR.op (XP s6 (.head _) hp rfl) <| PR.op (O3 (v := jI p.1) rfl rfl) <| PR.op (Iy rfl) <| PR.nil) fun q8 F8 => ?_
          refine Gq ?_
          refine Gn ?_
          refine GL ?_
          refine HG F8 (PR.op (LG rfl) <| PR.op (LG rfl) <| PR.nil) fun q9 F9 => ?_
          refine Pq (parts := [(0, .tmp 12)]) (Flat.int .i64) ([p.1] : List Int) F9 s6 Bz rfl (by decide) rfl rfl rfl (by simp [Value.cells]) rfl rfl rfl fun v10 w10 q10 F10 s10 => ?_
          have s11 := s10.f2
          obtain ⟨_, hr_⟩ := (s11.BK (.tail _ <| .head _))
          have happ : app 17592186044416 ((pick a0 js).map Prod.fst) [p.1] = some ((pick a0 (js ++ [j])).map Prod.fst) := by
            have h7 : (pick a0 js).length ≤ js.length := List.length_filterMap_le _ _
            unfold app
            rw [A3 (by simp; omega), Ry hp, List.map_append]
            rfl
          refine Nj (Flat.int .i64) F10 s11 Bz rfl rfl rfl rfl hr_ rfl rfl happ rfl fun v12 w12 q12 F12 s12 => ?_
          refine HG F12 (PR.op (Iy rfl) <| PR.nil) fun q13 F13 => ?_
          refine Gq ?_
          refine AJ5 <| Gn ?_
          refine ⟨s' + 1 - 1, rfl, v12, js ++ [j], hn', hl', by simp; omega, F13.sub ⟨rfl, rfl, trivial⟩, s12.f1.drop⟩
    · rintro a14 w14 ⟨v, js, hperm, F14, s14⟩
      have hk : ((pick a0 js).map Prod.fst).Perm (a0.map Prod.fst) := (RF hperm).map _
      have hlen2 := hk.length_eq
      rw [List.length_map, List.length_map] at hlen2
      have hsort : OC ((pick a0 js).map Prod.fst) = some (Ep (a0.map Prod.fst)) := by
        unfold OC
        rw [A3 (by rw [List.length_map]; omega), Z9 hk]
      refine wp_seq ?_
      refine GL ?_
      refine HG F14 (PR.op (LG rfl) <| PR.nil) fun q15 F15 => ?_
      obtain ⟨G16, hst16, hF16, hG16, hcl16⟩ := SL.open_ (ps := [Sl (Ty.int .i64) v ((pick a0 js).map Prod.fst)]) (rest := [Mp (Value.int .i64) (Value.int .i64) g0 a0]) s14
      refine OI (args := [.tmp 15]) F15 Tf rfl (TM Px hst16 hsort) rfl fun v17 w17 q17 hS17 F17 => ?_
      obtain ⟨rfl, hq17⟩ := hS17
      have s18 := hcl16 _ _ hq17
      refine Gq ?_
      refine Gn ?_
      refine wp_seq ?_
      refine GL ?_
      refine HG F17 (PR.op (LG rfl) <| PR.op (Iy rfl) <| PR.nil) fun q19 F19 => ?_
      refine Gq ?_
      refine Gn ?_
      refine wp_ret ?_
      refine K7 (rs := [.tmp 2]) (vs := [v]) F19 (by rfl) ⟨_, _, rfl, RV.tmp rfl, rfl⟩ ⟨_, rfl, v, rfl, s18.f1⟩
  · cases H
theorem T0 {w : World} {a0 : A9} {r : (List Int)} (H : Ld a0 = some r) :
    Calls prog 58 #[.agg ⟨[jI a0.At, jU (a0.Op.toNat : Int), jI a0.A, jI a0.B]⟩] w (B9 fun u_ w_ => ∃ u0 : Value, u_ = u0 ∧ SL w [] w_ [Sl (Ty.int .i64) u0 r]) := by
 have s0 : SL w [] w [] := SL.Bt w
 refine BD func58 ntmps58 2 rfl rfl rfl fun _ F0 => ?_
 unfold Ld at H
 refine Ar F0 s0 rfl rfl rfl fun g8 w9 _ F s1 => ?_
 obtain ⟨x0, h0, H⟩ := Aa H
 refine gw 7 F rfl fun _ F => AG F s1 m0 0 rfl fun _ F => B5 F s1 (J4 h0) 2 rfl rfl rfl rfl fun w0 _ F s2 => BB 8 F H (fun h1 H F => ?_) (fun h1 H F => ?_)
 ·cases H
  exact gw 14 F rfl fun _ F => rt F ⟨(.slice none 0 0), rfl, (SL.BI (T := (Ty.int .i64)) s2).f1.drop⟩
 refine AK F rfl rfl <| AG F s2 m0 0 rfl fun _ F => ?_
 obtain ⟨x1, h2, H⟩ := Aa H
 refine AK F rfl rfl <| B5 F s2 (W0 h2) 4 rfl rfl rfl rfl fun w1 _ F s3 => AH F H 7 4 rfl rfl rfl (fun h3 H _ F => ?_) (fun h3 H _ F => ?_)
 ·cases H
  exact rt F ⟨(.slice none 0 0), rfl, (SL.BI (T := (Ty.int .i64)) s3).f1.drop⟩
 refine Q6 (Value.int .i64) (Value.int .i64) F s3 rfl fun g0 w2 _ F s4 => ?_
 obtain ⟨x2, h4, H⟩ := Aa H
 refine gw 7 F rfl fun _ F => AG F s4 m1 0 rfl fun _ F => B5 F s4 (TE h4) 3 rfl rfl rfl rfl fun w3 _ F s5 => AH F H 0 6 rfl rfl rfl (fun h5 H _ F => ?_) (fun h5 H _ F => ?_)
 ·obtain ⟨x3, h6, H⟩ := Aa H
  refine Cq Bq s5.drop ?_
  refine hq [0, 1, 2, 3, 4] F s5.drew.drop (QI.ev 2 rfl <| QI.ld m0 rfl <| QI.ev 1 rfl <| QI.ld m0 rfl <| QI.nil) (by kernel_rfl) fun _ F => ?_
  refine ho 5 rfl (by kernel_rfl) ?_
  refine B5 F s5.drew (J4 h6) 1 rfl rfl rfl rfl fun w4 _ F s6 => ⟨s6.drop, ?_⟩
  refine hq [6] F s6.drop (QI.ev 1 rfl <| QI.nil) (by kernel_rfl) fun _ F => ?_
  refine ho 7 rfl (by kernel_rfl) ?_
  refine Js (k := wr (a0.At + x3)) (u := 1) F s6 underlying152 Hk rfl rfl rfl fun w5 _ F s7 => gw 1 F rfl fun _ F => ⟨s7.drop, ?_⟩
  refine CP (by kernel_rfl) ?_
  obtain ⟨x4, h7, H⟩ := Aa H
  refine ge 5 F rfl fun _ F => AG F s7 m1 0 rfl fun _ F => B5 F s7 (Pb h7) 2 rfl rfl rfl rfl fun w6 _ F s8 => AH F H 3 5 rfl rfl rfl (fun h8 H _ F => ?_) (fun h8 H _ F => ?_)
  ·refine AG F s8 m1 0 rfl fun _ F => Js (k := a0.A) (u := 1) F s8 underlying152 Hk rfl rfl rfl fun w7 _ F s9 => ?_
   obtain ⟨x5, h9, H⟩ := Aa H
   obtain ⟨G0, ha, hb, hc, hd⟩ := SL.open_ (ps := [Mp (Value.int .i64) (Value.int .i64) g0 (Da (Da ([] : List (Int × Int)) (wr (a0.At + x3)) 1) a0.A 1)]) (rest := [A8 g8 79 [jI a0.At, jU (a0.Op.toNat : Int), jI a0.A, jI a0.B]]) s9
   refine gw 5 F rfl fun _ F => Df F (JF ha h9) fun v0 w8 _ he F => ?_
   obtain ⟨_, rfl, hf⟩ := he
   have sa := hd _ _ hf
   cases H
   exact gw 4 F rfl fun _ F => rt F ⟨v0, rfl, sa.drop.f1.drop⟩
  obtain ⟨x6, hg, H⟩ := Aa H
  obtain ⟨G1, hh, hi, hj, hk⟩ := SL.open_ (ps := [Mp (Value.int .i64) (Value.int .i64) g0 (Da ([] : List (Int × Int)) (wr (a0.At + x3)) 1)]) (rest := [A8 g8 79 [jI a0.At, jU (a0.Op.toNat : Int), jI a0.A, jI a0.B]]) s8
  refine Df F (JF hh hg) fun v1 wa _ hl F => ?_
  obtain ⟨_, rfl, hm⟩ := hl
  have sb := hk _ _ hm
  cases H
  exact gw 4 F rfl fun _ F => rt F ⟨v1, rfl, sb.drop.f1.drop⟩
 obtain ⟨x7, hn, H⟩ := Aa H
 refine AG F s5 m1 0 rfl fun _ F => B5 F s5 (Pb hn) 2 rfl rfl rfl rfl fun wb _ F sc => AH F H 3 5 rfl rfl rfl (fun hp H _ F => ?_) (fun hp H _ F => ?_)
 ·refine AG F sc m1 0 rfl fun _ F => Js (k := a0.A) (u := 1) F sc underlying152 Hk rfl rfl rfl fun wc _ F sd => ?_
  obtain ⟨x8, hr, H⟩ := Aa H
  obtain ⟨G2, hs, ht, hu, hv⟩ := SL.open_ (ps := [Mp (Value.int .i64) (Value.int .i64) g0 (Da ([] : List (Int × Int)) a0.A 1)]) (rest := [A8 g8 79 [jI a0.At, jU (a0.Op.toNat : Int), jI a0.A, jI a0.B]]) sd
  refine gw 5 F rfl fun _ F => Df F (JF hs hr) fun v2 wd _ hw F => ?_
  obtain ⟨_, rfl, hx⟩ := hw
  have se := hv _ _ hx
  cases H
  exact gw 4 F rfl fun _ F => rt F ⟨v2, rfl, se.drop.f1.drop⟩
 obtain ⟨x9, hy, H⟩ := Aa H
 obtain ⟨G3, hz, h10, h11, h12⟩ := SL.open_ (ps := [Mp (Value.int .i64) (Value.int .i64) g0 ([] : List (Int × Int))]) (rest := [A8 g8 79 [jI a0.At, jU (a0.Op.toNat : Int), jI a0.A, jI a0.B]]) sc
 refine Df F (JF hz hy) fun v3 we _ h13 F => ?_
 obtain ⟨_, rfl, h14⟩ := h13
 have sf := h12 _ _ h14
 cases H
 exact gw 4 F rfl fun _ F => rt F ⟨v3, rfl, sf.drop.f1.drop⟩
theorem PK {w : World} {FF : List Nat} {g1 : Nat} {a0 : A9} {a1 : Int} {r : Bool} (hst : B1 [A8 g1 3 [jI a1]] w FF) (H : I3 a0 a1 = some r) :
    Calls prog 92 #[.agg ⟨[jI a0.At, jU (a0.Op.toNat : Int), jI a0.A, jI a0.B]⟩, jP g1] w (B9 fun u_ w_ => u_ = .bool r ∧ SL w FF w_ [A8 g1 3 [jI a1]]) := by
 have s0 : SL w FF w [A8 g1 3 [jI a1]] := SL.init w FF hst
 refine BD func92 ntmps92 2 rfl rfl rfl fun _ F0 => ?_
 unfold I3 at H
 refine Ar F0 s0 rfl rfl rfl fun g8 w9 _ F s1 => gw 6 F rfl fun _ F => AG F s1 m0 0 rfl fun _ F => ?_
 cases H
 exact AG F s1 m1 5 rfl fun _ F => rt F ⟨rfl, s1.drop⟩
theorem HV {w : World} {FF : List Nat} {g0 : Nat} {v0 : Value} {a0 : List A9} {a200 : Int} {r : Int} (hst : B1 [A8 g0 3 [jI a200]] w FF) (hr0 : Rd Bs w FF v0 a0) (H : C5 a0 a200 = some r) :
    Calls prog 91 #[v0, clo 92 [jP g0]] w (B9 fun u_ w_ => u_ = jI r ∧ SL w FF w_ [A8 g0 3 [jI a200]]) := by
 have s0 : SL w FF w [A8 g0 3 [jI a200]] := SL.init w FF hst
 refine BD func91 ntmps91 9 rfl rfl rfl fun _ F => ?_
 unfold C5 at H
 obtain ⟨o0, H0, R0⟩ := Aa H
 clear H
 refine gx F (Ah rfl underlying75 (fR hr0 s0)) 3 rfl rfl fun _ F => BA (fun a w_ => ∃ p0 : Unit, o0 = .inr (p0) ∧ Fr a 19 [] ∧ SL w FF w_ [A8 g0 3 [jI a200]]) ?_ ?_
 ·have H := H0
  refine gc 1 F rfl fun _ F => Cy (BH a0 a200) (fun s1 a w_ => Fr a 19 [(0, v0), (1, clo 92 [jP g0]), (7, jI (a0.length : Int)), (8, jI s1)] ∧ SL w FF w_ [A8 g0 3 [jI a200]]) H ?_ ?_
  ·exact ⟨F.sb, s0⟩
  intro s1 _ w0 h0 o1 H hr
  obtain ⟨F, s2⟩ := h0
  replace H : BH a0 a200 s1 = some o1 := H
  unfold BH at H
  refine gc 6 F rfl fun _ F => AH F H 15 4 rfl rfl rfl (fun h1 H _ F => ?_) (fun h1 H _ F => ?_)
  ·obtain ⟨x0, h2, H⟩ := Aa H
   obtain ⟨a2, h3, h4⟩ := HM Dq (Eb hr0 s2) IF rfl h2
   obtain ⟨x1, h5, H⟩ := Aa H
   refine gi F h3 0 rfl fun _ F => gx F (Av Eh rfl h4 rfl) 0 rfl rfl fun _ F => ?_
   obtain ⟨G0, h6, h7, h8, h9⟩ := SL.open_ (ps := [A8 g0 3 [jI a200]]) (rest := []) s2
   refine Hb (args := [.tmp 15]) F A7y rfl rfl (PK (a0 := x0) (a1 := a200) h6 h5) rfl fun v1 w1 _ ha F => ?_
   obtain ⟨rfl, hb⟩ := ha
   have s3 := h9 _ _ hb
   refine gw 2 F rfl fun _ F => AH F H 13 7 rfl rfl rfl (fun hc H _ F => ?_) (fun hc H _ F => ?_)
   ·cases H
    obtain rfl := hr _ rfl
    replace H := R0
    try dsimp only at H
    cases H
    exact rt F ⟨rfl, s3⟩
   cases H
   exact ⟨_, rfl, F.sb, s3⟩
  cases H
  obtain rfl := hr _ rfl
  exact ⟨_, rfl, F.sb, s2⟩
 intro _ w2 hJ
 obtain ⟨p0, rfl, F, s4⟩ := hJ
 have H := R0
 clear R0 H0
 try dsimp only at H
 cases H
 exact ge 7 F rfl fun _ F => rt F ⟨rfl, s4⟩
theorem NK {w : World} {FF : List Nat} {g0 : Nat} {v0_0 : Value} {a0 : Cf} {a1 : Int} {r : Int} (hst : B1 [A8 g0 81 [v0_0, jI a0.CW], Sl Bs v0_0 a0.l] w FF) (H : G7 a0 a1 = some r) :
    Calls prog 59 #[jP g0, jI a1] w (B9 fun u_ w_ => u_ = jI r ∧ SL w FF w_ [A8 g0 81 [v0_0, jI a0.CW], Sl Bs v0_0 a0.l]) := by
 have s0 : SL w FF w [A8 g0 81 [v0_0, jI a0.CW], Sl Bs v0_0 a0.l] := SL.init w FF hst
 refine BD func59 ntmps59 2 rfl rfl rfl fun _ F0 => ?_
 unfold G7 at H
 refine Ar F0 s0 rfl rfl rfl fun g8 w9 _ F s1 => ?_
 obtain ⟨x0, h0, H⟩ := Aa H
 refine gw 8 F rfl fun _ F => AG F s1 m1 0 rfl fun _ F => gx F (Gc (cs := [.tmp 3]) (vs := [jP g8]) rfl) 0 rfl rfl fun _ F => ?_
 obtain ⟨G0, h1, h2, h3, h4⟩ := SL.open_ (ps := [A8 g8 3 [jI a1]]) (rest := [A8 g0 81 [v0_0, jI a0.CW], Sl Bs v0_0 a0.l]) s1
 refine Df F (HV (a200 := a1) h1 (SD m1 h3) h0) fun v0 w0 _ h5 F => ?_
 obtain ⟨rfl, h6⟩ := h5
 have s2 := h4 _ _ h6
 cases H
 exact gw 4 F rfl fun _ F => rt F ⟨rfl, s2.drop⟩
theorem RH {w : World} {FF : List Nat} {g0 : Nat} {v0_0 : Value} {a0 : Cf} {r : Bool} (hst : B1 [A8 g0 81 [v0_0, jI a0.CW], Sl Bs v0_0 a0.l] w FF) (H : IR a0 = some r) :
    Calls prog 35 #[jP g0] w (B9 fun u_ w_ => u_ = .bool r ∧ SL w FF w_ [A8 g0 81 [v0_0, jI a0.CW], Sl Bs v0_0 a0.l]) := by
 have s0 : SL w FF w [A8 g0 81 [v0_0, jI a0.CW], Sl Bs v0_0 a0.l] := SL.init w FF hst
 refine BD func35 ntmps35 10 rfl rfl rfl fun _ F => ?_
 unfold IR at H
 obtain ⟨x0, h0, H⟩ := Aa H
 refine AG F s0 m0 0 rfl fun _ F => gx F (Ah rfl underlying75 (fO s0 m1)) 0 rfl rfl fun _ F => Au (Flat.int .i64) (0 : Int) F s0 Bz rfl rfl Eg rfl rfl rfl h0 rfl fun v0 w0 _ F s1 => gw 9 F rfl fun _ F => AG F s1 m1 0 rfl fun _ F => ?_
 obtain ⟨o0, H0, R0⟩ := Aa H
 clear H
 refine gx F (Ah rfl underlying75 (fO s1 m2)) 3 rfl rfl fun _ F => BA (fun a w_ => ∃ v1 : Value, Fr a 117 [(0, jP g0), (3, v1)] ∧ SL w FF w_ [A8 g0 81 [v0_0, jI a0.CW], Sl Bs v0_0 a0.l, Sl (Ty.int .i64) v1 o0]) ?_ ?_
 ·have H := H0
  refine gc 1 F rfl fun _ F => Cy (Fe a0) (fun s2 a w_ => ∃ v2 : Value, Fr a 117 [(0, jP g0), (3, v2), (25, v0_0), (26, jI (a0.l.length : Int)), (27, jI s2.2)] ∧ SL w FF w_ [A8 g0 81 [v0_0, jI a0.CW], Sl Bs v0_0 a0.l, Sl (Ty.int .i64) v2 s2.1]) H ?_ ?_
  ·exact ⟨v0, F.sb, s1.f2.f2⟩
  intro s2 _ w1 h1 o1 H hr
  obtain ⟨v2, F, s3⟩ := h1
  replace H : Fe a0 s2 = some o1 := H
  unfold Fe at H
  refine gc 6 F rfl fun _ F => AH F H 6 4 rfl rfl rfl (fun h2 H _ F => ?_) (fun h2 H _ F => ?_)
  ·obtain ⟨x1, h3, H⟩ := Aa H
   obtain ⟨a1, h4, h5⟩ := Ax Dq s3 m1 IF rfl h3
   refine gi F h4 0 rfl fun _ F => gx F (Av Eh rfl (SL.C0 Dq s3 m1 h5 h3) rfl) 0 rfl rfl fun _ F => Af F s3 DZ rfl rfl fun g1 w2 _ F s4 => Ai F s4 rfl rfl D4 (Ab rfl (Ab rfl (Ab rfl (Ab rfl Ap)))) (Ac rfl) fun w3 _ F s5 => ?_
   obtain ⟨x2, h6, H⟩ := Aa H
   refine gw 4 F rfl fun _ F => AG F s5 m0 0 rfl fun _ F => Df F (T0 h6) fun v3 w4 _ h7 F => ?_
   obtain ⟨_, rfl, h8⟩ := h7
   have s6 := s5.add h8
   obtain ⟨o2, H1, R1⟩ := Aa H
   clear H
   refine gx F (Ah rfl underlying28 (fO s6 m0)) 3 rfl rfl fun _ F => BA (fun a w_ => ∃ v4 : Value, Fr a 117 [(0, jP g0), (3, v4), (25, v0_0), (26, jI (a0.l.length : Int)), (27, jI s2.2)] ∧ SL w FF w_ [A8 g0 81 [v0_0, jI a0.CW], Sl Bs v0_0 a0.l, Sl (Ty.int .i64) v4 o2]) ?_ ?_
   ·have H := H1
    refine gc 1 F rfl fun _ F => Cy (Fc a0 x2) (fun s7 a w_ => ∃ v5 : Value, Fr a 117 [(0, jP g0), (3, v5), (25, v0_0), (26, jI (a0.l.length : Int)), (27, jI s2.2), (32, v3), (33, jI (x2.length : Int)), (34, jI s7.2)] ∧ SL w FF w_ [Sl (Ty.int .i64) v3 x2, A8 g0 81 [v0_0, jI a0.CW], Sl Bs v0_0 a0.l, Sl (Ty.int .i64) v5 s7.1]) H ?_ ?_
    ·exact ⟨v2, F.sb, s6.f1.drop⟩
    intro s7 _ w5 h9 o3 H hr
    obtain ⟨v5, F, s8⟩ := h9
    replace H : Fc a0 x2 s7 = some o3 := H
    unfold Fc at H
    refine gc 6 F rfl fun _ F => AH F H 6 4 rfl rfl rfl (fun ha H _ F => ?_) (fun ha H _ F => ?_)
    ·obtain ⟨x3, hb, H⟩ := Aa H
     obtain ⟨a2, hc, hd⟩ := Ax (Flat.int .i64) s8 m0 Bz rfl hb
     refine gi F hc 0 rfl fun _ F => ?_
     obtain ⟨x4, he, H⟩ := Aa H
     obtain ⟨G0, hf, hg, hh, hi⟩ := SL.open_ (ps := [A8 g0 81 [v0_0, jI a0.CW], Sl Bs v0_0 a0.l]) (rest := [Sl (Ty.int .i64) v3 x2, Sl (Ty.int .i64) v5 s7.1]) s8.f2.f2
     refine gx F (An BE rfl (Bn.at_ (SL.C0 (Flat.int .i64) s8 m0 hd hb) (o := 0) rfl)) 7 rfl rfl fun _ F => Df F (NK (a0 := (⟨a0.l, a0.CW⟩ : Cf)) hf he) fun v6 w6 _ hj F => ?_
     obtain ⟨rfl, hk⟩ := hj
     have s9 := hi _ _ hk
     obtain ⟨x5, hl, H⟩ := Aa H
     obtain ⟨a3, hm, hn⟩ := Ax (Flat.int .i64) s9 m3 Bz rfl hl
     obtain ⟨x6, ho, H⟩ := Aa H
     obtain ⟨a4, hp, hq⟩ := Ax (Flat.int .i64) s9 m3 Bz rfl ho
     refine gi F hm 0 rfl fun _ F => gx F (An BE rfl (Bn.at_ (SL.C0 (Flat.int .i64) s9 m3 hn hl) (o := 0) rfl)) 1 rfl rfl fun _ F => gi F hp 0 rfl fun _ F => ?_
     refine Bc (y' := wr (x5 + 1)) (Flat.int .i64) F s9.f3 hq ho rfl rfl (by rfl) IW fun w7 _ F sa => ?_
     cases H
     exact gw 7 F rfl fun _ F => ⟨_, rfl, v5, F.sb, sa.f2.f2.f3⟩
    cases H
    obtain rfl := hr _ rfl
    exact ⟨v5, F.sb, s8.drop⟩
   intro _ w8 hJ
   obtain ⟨v4, F, sc⟩ := hJ
   have H := R1
   clear R1 H1
   cases H
   exact ge 6 F rfl fun _ F => ⟨_, rfl, v4, F.sb, sc⟩
  cases H
  obtain rfl := hr _ rfl
  exact ⟨v2, F.sb, s3⟩
 intro _ w9 hJ
 obtain ⟨v1, F, sd⟩ := hJ
 have H := R0
 clear R0 H0
 refine ge 15 F rfl fun _ F => ?_
 obtain ⟨o4, H2, R2⟩ := Aa H
 clear H
 refine gx F (Ah rfl underlying28 (fO sd m2)) 3 rfl rfl fun _ F => BA (fun a w_ => ∃ v7 : Value, Fr a 117 [(0, jP g0), (3, v1), (8, jI 0), (9, v7)] ∧ SL w FF w_ [A8 g0 81 [v0_0, jI a0.CW], Sl Bs v0_0 a0.l, Sl (Ty.int .i64) v1 o0, Sl (Ty.int .i64) v7 o4]) ?_ ?_
 ·have H := H2
  refine gc 1 F rfl fun _ F => Cy (Gh o0) (fun se a w_ => ∃ v8 : Value, Fr a 117 [(0, jP g0), (3, v1), (8, jI 0), (9, v8), (48, v1), (49, jI (o0.length : Int)), (50, jI se.2)] ∧ SL w FF w_ [A8 g0 81 [v0_0, jI a0.CW], Sl Bs v0_0 a0.l, Sl (Ty.int .i64) v1 o0, Sl (Ty.int .i64) v8 se.1]) H ?_ ?_
  ·exact ⟨(.slice none 0 0), F.sb, (SL.BI (T := (Ty.int .i64)) sd).f3.f3.f3⟩
  intro se _ wa hs o5 H hr
  obtain ⟨v8, F, sf⟩ := hs
  replace H : Gh o0 se = some o5 := H
  unfold Gh at H
  refine gc 6 F rfl fun _ F => AH F H 7 4 rfl rfl rfl (fun ht H _ F => ?_) (fun ht H _ F => ?_)
  ·obtain ⟨x7, hu, H⟩ := Aa H
   obtain ⟨a5, hv, hw⟩ := Ax (Flat.int .i64) sf m2 Bz rfl hu
   refine gi F hv 0 rfl fun _ F => gx F (An BE rfl (Bn.at_ (SL.C0 (Flat.int .i64) sf m2 hw hu) (o := 0) rfl)) 10 rfl rfl fun _ F => AH F H 3 7 rfl rfl rfl (fun hx H _ F => ?_) (fun hx H _ F => ?_)
   ·refine Ae (parts := [(0, .tmp 58)]) (Flat.int .i64) ([se.2] : List Int) F sf Bz rfl (by decide) rfl rfl rfl (by simp [Value.cells]) rfl rfl rfl fun v9 wb _ F sg => ?_
    obtain ⟨x8, hy, H⟩ := Aa H
    obtain ⟨_, hr_⟩ := (sg.f4.BK m1)
    refine Aw (Flat.int .i64) F sg.f4 Bz rfl rfl rfl rfl hr_ rfl rfl hy rfl fun va wc _ F sh => ?_
    have s70070' := sh.f1.drop
    cases H
    exact gw 8 F rfl fun _ F => ⟨_, rfl, va, F.sb, s70070'.f3.f3.f3⟩
   cases H
   exact ⟨_, rfl, v8, F.sb, sf⟩
  cases H
  obtain rfl := hr _ rfl
  exact ⟨v8, F.sb, sf⟩
 intro _ wd hJ
 obtain ⟨v7, F, si⟩ := hJ
 have H := R2
 clear R2 H2
 obtain ⟨o6, H3, R3⟩ := Aa H
 clear H
 refine ge 2 F rfl fun _ F => BA (fun a w_ => Fr a 117 [(0, jP g0), (8, jI o6)] ∧ SL w FF w_ [A8 g0 81 [v0_0, jI a0.CW], Sl Bs v0_0 a0.l]) ?_ ?_
 ·have H := H3
  refine gc 1 F rfl fun _ F => Cy (El a0) (fun sj a w_ => ∃ vb vc : Value, Fr a 117 [(0, jP g0), (3, vb), (8, jI sj.2.1), (9, vc)] ∧ SL w FF w_ [A8 g0 81 [v0_0, jI a0.CW], Sl Bs v0_0 a0.l, Sl (Ty.int .i64) vb sj.1, Sl (Ty.int .i64) vc sj.2.2]) H ?_ ?_
  ·exact ⟨v1, v7, F.sb, si⟩
  intro sj _ we hz o7 H hr
  obtain ⟨vb, vc, F, sk⟩ := hz
  replace H : El a0 sj = some o7 := H
  unfold El at H
  refine gc 4 F rfl fun _ F => gx F (Ah rfl underlying28 (fO sk m3)) 3 rfl rfl fun _ F => AH F H 7 4 rfl rfl rfl (fun h10 H _ F => ?_) (fun h10 H _ F => ?_)
  ·obtain ⟨x9, h11, H⟩ := Aa H
   obtain ⟨a6, h12, h13⟩ := Ax (Flat.int .i64) sk m3 Bz rfl h11
   refine gx F (Ah rfl underlying28 (fO sk m3)) 1 rfl rfl fun _ F => gi F h12 0 rfl fun _ F => ?_
   obtain ⟨xa, h14, H⟩ := Aa H
   refine gx F (An BE rfl (Bn.at_ (SL.C0 (Flat.int .i64) sk m3 h13 h11) (o := 0) rfl)) 7 rfl rfl fun _ F => ?_
   obtain ⟨vd, h15, sl⟩ := SL.AGp sk.f3 Bz rfl h14 none (some (wr ((sj.2.2.length : Int) - 1))) (.inr ⟨rfl, rfl⟩) (.inl rfl)
   refine gx F (Ah rfl underlying28 (fO sk m3)) 1 rfl rfl fun _ F => ?_
   obtain ⟨xb, h16, H⟩ := Aa H
   obtain ⟨a7, h17, h18⟩ := Ax Dq sl m2 IF rfl h16
   obtain ⟨xc, h19, H⟩ := Aa H
   refine gx F (h15 _ _ _ _ _ .i64 .i64 _ _ _ _ _ rfl trivial rfl) 15 rfl rfl fun _ F => AG F sl m1 1 rfl fun _ F => gi F h17 0 rfl fun _ F => gx F (Av Eh rfl (SL.C0 Dq sl m2 h18 h16) rfl) 0 rfl rfl fun _ F => Df F (T0 h19) fun ve wf _ h1a F => ?_
   obtain ⟨_, rfl, h1b⟩ := h1a
   have sm := sl.add h1b
   obtain ⟨o8, H4, R4⟩ := Aa H
   clear H
   refine gx F (Ah rfl underlying28 (fO sm m0)) 3 rfl rfl fun _ F => BA (fun a w_ => ∃ vf vg : Value, Fr a 117 [(0, jP g0), (3, vf), (8, jI (wr (sj.2.1 + 1))), (9, vg)] ∧ SL w FF w_ [A8 g0 81 [v0_0, jI a0.CW], Sl Bs v0_0 a0.l, Sl (Ty.int .i64) vf o8.1, Sl (Ty.int .i64) vg o8.2]) ?_ ?_
   ·have H := H4
    refine gc 1 F rfl fun _ F => Cy (Fg a0 xc) (fun sn a w_ => ∃ vh vi : Value, Fr a 117 [(0, jP g0), (3, vh), (8, jI (wr (sj.2.1 + 1))), (9, vi), (85, ve), (86, jI (xc.length : Int)), (87, jI sn.2.2)] ∧ SL w FF w_ [Sl (Ty.int .i64) ve xc, A8 g0 81 [v0_0, jI a0.CW], Sl Bs v0_0 a0.l, Sl (Ty.int .i64) vh sn.1, Sl (Ty.int .i64) vi sn.2.1]) H ?_ ?_
    ·exact ⟨vb, vd, F.sb, sm.f1.f4.f4.f4.f4⟩
    intro sn _ wg h1c o9 H hr
    obtain ⟨vh, vi, F, so⟩ := h1c
    replace H : Fg a0 xc sn = some o9 := H
    unfold Fg at H
    refine gc 6 F rfl fun _ F => AH F H 6 4 rfl rfl rfl (fun h1d H _ F => ?_) (fun h1d H _ F => ?_)
    ·obtain ⟨xd, h1e, H⟩ := Aa H
     obtain ⟨a8, h1f, h1g⟩ := Ax (Flat.int .i64) so m0 Bz rfl h1e
     refine gi F h1f 0 rfl fun _ F => ?_
     obtain ⟨xe, h1h, H⟩ := Aa H
     obtain ⟨G1, h1i, h1j, h1k, h1l⟩ := SL.open_ (ps := [A8 g0 81 [v0_0, jI a0.CW], Sl Bs v0_0 a0.l]) (rest := [Sl (Ty.int .i64) ve xc, Sl (Ty.int .i64) vh sn.1, Sl (Ty.int .i64) vi sn.2.1]) so.f2.f2
     refine gx F (An BE rfl (Bn.at_ (SL.C0 (Flat.int .i64) so m0 h1g h1e) (o := 0) rfl)) 7 rfl rfl fun _ F => Df F (NK (a0 := (⟨a0.l, a0.CW⟩ : Cf)) h1i h1h) fun vj wh _ h1m F => ?_
     obtain ⟨rfl, h1n⟩ := h1m
     have sp := h1l _ _ h1n
     obtain ⟨xf, h1o, H⟩ := Aa H
     obtain ⟨a9, h1p, h1q⟩ := Ax (Flat.int .i64) sp m3 Bz rfl h1o
     obtain ⟨xg, h1r, H⟩ := Aa H
     obtain ⟨aa, h1s, h1t⟩ := Ax (Flat.int .i64) sp m3 Bz rfl h1r
     refine gw 7 F rfl fun _ F => gi F h1p 0 rfl fun _ F => gx F (An BE rfl (Bn.at_ (SL.C0 (Flat.int .i64) sp m3 h1q h1o) (o := 0) rfl)) 1 rfl rfl fun _ F => gi F h1s 0 rfl fun _ F => ?_
     refine Bc (y' := wr (xf - 1)) (Flat.int .i64) F sp.f3 h1t h1r rfl rfl (by rfl) IW fun wi _ F sq => ?_
     obtain ⟨xh, h1u, H⟩ := Aa H
     obtain ⟨ab, h1v, h1w⟩ := Ax (Flat.int .i64) sq m0 Bz rfl h1u
     refine gw 6 F rfl fun _ F => gi F h1v 0 rfl fun _ F => gx F (An BE rfl (Bn.at_ (SL.C0 (Flat.int .i64) sq m0 h1w h1u) (o := 0) rfl)) 3 rfl rfl fun _ F => AH F H 3 7 rfl rfl rfl (fun h1x H _ F => ?_) (fun h1x H _ F => ?_)
     ·refine Ae (parts := [(0, .tmp 106)]) (Flat.int .i64) ([xe] : List Int) F sq Bz rfl (by decide) rfl rfl rfl (by simp [Value.cells]) rfl rfl rfl fun vk wj _ F sr => ?_
      obtain ⟨xi, h1y, H⟩ := Aa H
      obtain ⟨_, hr_⟩ := (sr.f5.BK m1)
      refine Aw (Flat.int .i64) F sr.f5 Bz rfl rfl rfl rfl hr_ rfl rfl h1y rfl fun vl wk _ F ss => ?_
      have s109208' := ss.f1.drop
      cases H
      exact gw 8 F rfl fun _ F => ⟨_, rfl, vh, vl, F.sb, s109208'.f1.f3.f3.f4⟩
     cases H
     exact ⟨_, rfl, vh, vi, F.sb, sq.f4.f1.f3.f3.f4⟩
    cases H
    obtain rfl := hr _ rfl
    exact ⟨vh, vi, F.sb, so.drop⟩
   intro _ wl hJ
   obtain ⟨vf, vg, F, st⟩ := hJ
   have H := R4
   clear R4 H4
   cases H
   exact ge 1 F rfl fun _ F => ⟨_, rfl, vf, vg, F.sb, st⟩
  cases H
  obtain rfl := hr _ rfl
  exact ⟨F.sb, sk.f2.drop.f2.drop⟩
 intro _ wm hJ
 obtain ⟨F, su⟩ := hJ
 have H := R3
 clear R3 H3
 refine ge 7 F rfl fun _ F => AG F su m0 0 rfl fun _ F => ?_
 cases H
 exact gx F (Ah rfl underlying75 (fO su m1)) 5 rfl rfl fun _ F => rt F ⟨rfl, su⟩
theorem W1 {w : World} {v0_1 v0_2 v0_3 : Value} {a0 : AL} {a1 : Int} {r : Bool × Int × Int} (hr0_1 : Rd AB w [] v0_1 a0.Classes) (hr0_2 : Rd Cc w [] v0_2 a0.Funcs) (hr0_3 : Rd (Ty.slice Ty.u8) w [] v0_3 a0.Ca) (H : N9 a0 a1 = some r) :
    Calls prog 17 #[.agg ⟨[.string ⟨⟨a0.Name⟩⟩, v0_1, v0_2, v0_3]⟩, jI a1] w (B9 fun u_ w_ => u_ = .tuple ⟨[.bool r.1, jI r.2.1, jI r.2.2]⟩ ∧ SL w [] w_ []) := by
 have s0 : SL w [] w [] := SL.Bt w
 refine BD func17 ntmps17 2 rfl rfl rfl fun _ F0 => ?_
 unfold N9 at H
 refine Ar F0 s0 rfl rfl rfl fun g8 w9 _ F s1 => ?_
 obtain ⟨x0, h0, H⟩ := Aa H
 refine gw 7 F rfl fun _ F => AG F s1 m0 1 rfl fun _ F => Df F (OY (a0 := (⟨a0.Name, a0.Classes, a0.Funcs, a0.Ca⟩ : AL)) (hr0_1.AN s1) (hr0_2.AN s1) (hr0_3.AN s1) h0) fun v0 w0 _ h1 F => ?_
 obtain ⟨v1, rfl, h2⟩ := h1
 have s2 := s1.add h2
 refine gw 16 F rfl fun _ F => AH F H 11 3 rfl rfl rfl (fun h3 H _ F => ?_) (fun h3 H _ F => ?_)
 ·cases H
  exact rt F ⟨rfl, s2.drop.drop⟩
 obtain ⟨x1, h4, H⟩ := Aa H
 obtain ⟨_, ⟨g0, v2, rfl, rfl⟩, s3⟩ := SL.Ti s2 h4
 obtain ⟨x2, h5, H⟩ := Aa H
 obtain ⟨G0, h6, h7, h8, h9⟩ := SL.open_ (ps := [A8 g0 81 [v2, jI x1.CW], Sl Bs v2 x1.l]) (rest := [A8 g8 26 [.string ⟨⟨a0.Name⟩⟩, v0_1, v0_2, v0_3]]) s3.f1.f1
 refine gc 2 F rfl fun _ F => Df F (RH (a0 := (⟨x1.l, x1.CW⟩ : Cf)) h6 h5) fun v3 w1 _ ha F => ?_
 obtain ⟨rfl, hb⟩ := ha
 have s4 := h9 _ _ hb
 cases H
 exact gw 6 F rfl fun _ F => rt F ⟨rfl, s4.drop.drop.drop⟩
theorem Ou {w : World} {v0 : Value} {a0 : List A9} {a1 : Int} {a2 : Int} {r : (List Int)} (hr0 : Rd Bs w [] v0 a0) (H : Ih a0 a1 a2 = some r) :
    Calls prog 36 #[v0, jI a1, jI a2] w (B9 fun u_ w_ => ∃ u0 : Value, u_ = u0 ∧ SL w [] w_ [Sl (Ty.int .i64) u0 r]) := by
 have s0 : SL w [] w [] := SL.Bt w
 refine BD func36 ntmps36 9 rfl rfl rfl fun _ F => ?_
 unfold Ih at H
 obtain ⟨x0, h0, H⟩ := Aa H
 obtain ⟨a3, h1, h2⟩ := HM Dq (Eb hr0 s0) IF rfl h0
 obtain ⟨x1, h3, H⟩ := Aa H
 refine gi F h1 0 rfl fun _ F => gx F (Av Eh rfl h2 rfl) 1 rfl rfl fun _ F => Df F (Ov h3) fun v1 w0 _ h4 F => ?_
 obtain ⟨v2, rfl, h5⟩ := h4
 have s1 := s0.add h5
 obtain ⟨o0, H0, R0⟩ := Aa H
 clear H
 refine gw 18 F rfl fun _ F => BA (fun a w_ => ∃ v3 : Value, Fr a 48 [(9, v3)] ∧ SL w [] w_ [Sl (Ty.int .i64) v3 o0]) ?_ ?_
 ·have H := H0
  refine gc 1 F rfl fun _ F => Cy (Fy a0 x1) (fun s2 a w_ => ∃ v4 : Value, Fr a 48 [(0, v0), (7, v2), (9, v4), (10, jI s2.2)] ∧ SL w [] w_ [Sl (Ty.int .i64) v2 x1.1, Sl (Ty.int .i64) v4 s2.1]) H ?_ ?_
  ·exact ⟨(.slice none 0 0), F.sb, (SL.BI (T := (Ty.int .i64)) s1).f1⟩
  intro s2 _ w1 h6 o1 H hr
  obtain ⟨v4, F, s3⟩ := h6
  replace H : Fy a0 x1 s2 = some o1 := H
  unfold Fy at H
  refine gc 5 F rfl fun _ F => gx F (Ah rfl underlying28 (fO s3 m0)) 3 rfl rfl fun _ F => AH F H 9 4 rfl rfl rfl (fun h7 H _ F => ?_) (fun h7 H _ F => ?_)
  ·obtain ⟨o2, H1, R1⟩ := Aa H
   clear H
   refine BA (fun a w_ => ∃ v5 : Value, Fr a 48 [(0, v0), (7, v2), (9, v5), (10, jI s2.2)] ∧ SL w [] w_ [Sl (Ty.int .i64) v2 x1.1, Sl (Ty.int .i64) v5 o2]) ?_ ?_
   ·have H := H1
    refine gc 1 F rfl fun _ F => Cy (EB a0 x1 s2) (fun s4 a w_ => ∃ v6 : Value, Fr a 48 [(0, v0), (7, v2), (9, v6), (10, jI s2.2), (11, jI s4.2)] ∧ SL w [] w_ [Sl (Ty.int .i64) v2 x1.1, Sl (Ty.int .i64) v6 s4.1]) H ?_ ?_
    ·exact ⟨v4, F.sb, s3⟩
    intro s4 _ w2 h8 o3 H hr
    obtain ⟨v6, F, s5⟩ := h8
    replace H : EB a0 x1 s2 s4 = some o3 := H
    unfold EB at H
    refine gc 5 F rfl fun _ F => gx F (Ah rfl underlying75 (fR hr0 s5)) 3 rfl rfl fun _ F => AH F H 5 4 rfl rfl rfl (fun h9 H _ F => ?_) (fun h9 H _ F => ?_)
    ·obtain ⟨x2, ha, H⟩ := Aa H
     obtain ⟨a4, hb, hc⟩ := FK Dq (fun _ hC => (Eb hr0 hC)) s5 IF rfl ha
     obtain ⟨x3, hd, H⟩ := Aa H
     obtain ⟨a5, he, hf⟩ := FK (Flat.int .i64) (fun _ hC => (hC.BK m0)) s5 Bz rfl hd
     refine HA Bq s5 F (QR.ev 2 rfl <| QR.ix hb rfl <| QR.qo (fun _ hC => Ba Aav rfl) rfl <| QR.qo (fun _ hC => An BE rfl (Bn.at_ (hc _ hC) (o := 0) rfl)) rfl <| QR.ev 2 rfl <| QR.ix he rfl <| QR.qo (fun _ hC => An BE rfl (Bn.at_ (hf _ hC) (o := 0) rfl)) rfl <| QR.ev 1 rfl <| Bb) fun w3 _ s6 F => ge 1 F rfl fun _ F => AH F H 3 8 rfl rfl rfl (fun hg H _ F => ?_) (fun hg H _ F => ?_)
     ·refine Ae (parts := [(0, .tmp 44)]) (Flat.int .i64) ([s4.2] : List Int) F s6 Bz rfl (by decide) rfl rfl rfl (by simp [Value.cells]) rfl rfl rfl fun v7 w4 _ F s7 => ?_
      obtain ⟨x4, hh, H⟩ := Aa H
      obtain ⟨_, hr_⟩ := (s7.f2.BK m1)
      refine Aw (Flat.int .i64) F s7.f2 Bz rfl rfl rfl rfl hr_ rfl rfl hh rfl fun v8 w5 _ F s8 => ?_
      have s66973' := s8.f1.drop
      cases H
      exact gw 9 F rfl fun _ F => ⟨_, rfl, v8, F.sb, s66973'.f1⟩
     cases H
     exact ⟨_, rfl, v6, F.sb, s6⟩
    cases H
    obtain rfl := hr _ rfl
    exact ⟨v6, F.sb, s5⟩
   intro _ w6 hJ
   obtain ⟨v5, F, s9⟩ := hJ
   have H := R1
   clear R1 H1
   cases H
   exact ge 7 F rfl fun _ F => ⟨_, rfl, v5, F.sb, s9⟩
  cases H
  obtain rfl := hr _ rfl
  exact ⟨v4, F.sb, s3.drop⟩
 intro _ w7 hJ
 obtain ⟨v3, F, sa⟩ := hJ
 have H := R0
 clear R0 H0
 cases H
 exact ge 8 F rfl fun _ F => rt F ⟨v3, rfl, sa⟩
theorem QL {w : World} {v0_1 v0_2 v0_3 : Value} {a0 : AL} {a1 : Int} {r : Bool × Int × Int} (hr0_1 : Rd AB w [] v0_1 a0.Classes) (hr0_2 : Rd Cc w [] v0_2 a0.Funcs) (hr0_3 : Rd (Ty.slice Ty.u8) w [] v0_3 a0.Ca) (H : FG a0 a1 = some r) :
    Calls prog 18 #[.agg ⟨[.string ⟨⟨a0.Name⟩⟩, v0_1, v0_2, v0_3]⟩, jI a1] w (B9 fun u_ w_ => u_ = .tuple ⟨[.bool r.1, jI r.2.1, jI r.2.2]⟩ ∧ SL w [] w_ []) := by
 have s0 : SL w [] w [] := SL.Bt w
 refine BD func18 ntmps18 2 rfl rfl rfl fun _ F0 => ?_
 unfold FG at H
 refine Ar F0 s0 rfl rfl rfl fun g8 w9 _ F s1 => ?_
 obtain ⟨x0, h0, H⟩ := Aa H
 refine gw 7 F rfl fun _ F => AG F s1 m0 1 rfl fun _ F => Df F (J9 (a0 := (⟨a0.Name, a0.Classes, a0.Funcs, a0.Ca⟩ : AL)) (hr0_1.AN s1) (hr0_2.AN s1) (hr0_3.AN s1) h0) fun v0 w0 _ h1 F => ?_
 obtain ⟨v1, rfl, h2⟩ := h1
 have s2 := s1.add h2
 refine gw 18 F rfl fun _ F => AH F H 11 4 rfl rfl rfl (fun h3 H _ F => ?_) (fun h3 H _ F => ?_)
 ·cases H
  exact rt F ⟨rfl, s2.drop.drop⟩
 obtain ⟨x1, h4, H⟩ := Aa H
 obtain ⟨a2, c0, G0, h5, h6, h7, h8⟩ := Rd.idx hr0_2 Ke rfl h4
 obtain ⟨v2, v3, rfl, h9, ha⟩ := (Jv h7 h8)
 replace h6 := h6 _ _ s2
 refine gw 1 F rfl fun _ F => AG F s2 m1 1 rfl fun _ F => gi F h5 0 rfl fun _ F => gx F (Ba ZS rfl) 0 rfl rfl fun _ F => gx F (An QQ rfl (Bn.at_ h6 (o := 4) rfl)) 0 rfl rfl fun _ F => ?_
 obtain ⟨x2, hb, H⟩ := Aa H
 refine gx F (Ah rfl underlying42 (fR ha s2)) 6 rfl rfl fun _ F => gx F (Ah rfl underlying75 (fO s2 m0)) 0 rfl rfl fun _ F => Au (Flat.int .i64) (0 : Int) F s2 Bz rfl rfl Eg rfl rfl rfl hb rfl fun v4 w1 _ F s3 => ?_
 obtain ⟨o0, H0, R0⟩ := Aa H
 clear H
 refine gw 9 F rfl fun _ F => BA (fun a w_ => ∃ v5 : Value, Fr a 141 [(7, v1), (11, jI (x1.Code.length : Int)), (12, v5)] ∧ SL w [] w_ [Sl Bs v1 x0.1, Sl (Ty.int .i64) v5 o0]) ?_ ?_
 ·have H := H0
  refine gc 1 F rfl fun _ F => Cy (E3 x0 x1) (fun s4 a w_ => ∃ v6 : Value, Fr a 141 [(7, v1), (11, jI (x1.Code.length : Int)), (12, v6), (13, jI s4.2)] ∧ SL w [] w_ [Sl Bs v1 x0.1, Sl (Ty.int .i64) v6 s4.1]) H ?_ ?_
  ·exact ⟨v4, F.sb, s3.f2.drop.f1⟩
  intro s4 _ w2 hc o1 H hr
  obtain ⟨v6, F, s5⟩ := hc
  replace H : E3 x0 x1 s4 = some o1 := H
  unfold E3 at H
  refine gc 5 F rfl fun _ F => gx F (Ah rfl underlying75 (fO s5 m0)) 3 rfl rfl fun _ F => AH F H 9 4 rfl rfl rfl (fun hd H _ F => ?_) (fun hd H _ F => ?_)
  ·obtain ⟨x3, he, H⟩ := Aa H
   refine Df F (Ou (s5.rd0 m0) he) fun v7 w3 _ hf F => ?_
   obtain ⟨_, rfl, hg⟩ := hf
   have s6 := s5.add hg
   obtain ⟨o2, H1, R1⟩ := Aa H
   clear H
   refine gw 8 F rfl fun _ F => BA (fun a w_ => ∃ v8 : Value, Fr a 141 [(7, v1), (11, jI (x1.Code.length : Int)), (12, v8), (13, jI s4.2)] ∧ SL w [] w_ [Sl Bs v1 x0.1, Sl (Ty.int .i64) v8 o2]) ?_ ?_
   ·have H := H1
    refine gc 1 F rfl fun _ F => Cy (Ew x3) (fun s7 a w_ => ∃ v9 : Value, Fr a 141 [(7, v1), (11, jI (x1.Code.length : Int)), (12, v9), (13, jI s4.2), (14, v7), (15, jI s7.2)] ∧ SL w [] w_ [Sl (Ty.int .i64) v7 x3, Sl Bs v1 x0.1, Sl (Ty.int .i64) v9 s7.1]) H ?_ ?_
    ·exact ⟨v6, F.sb, s6⟩
    intro s7 _ w4 hh o3 H hr
    obtain ⟨v9, F, s8⟩ := hh
    replace H : Ew x3 s7 = some o3 := H
    unfold Ew at H
    refine gc 5 F rfl fun _ F => gx F (Ah rfl underlying28 (fO s8 m0)) 3 rfl rfl fun _ F => AH F H 4 4 rfl rfl rfl (fun hi H _ F => ?_) (fun hi H _ F => ?_)
    ·obtain ⟨x4, hj, H⟩ := Aa H
     obtain ⟨x5, hk, H⟩ := Aa H
     obtain ⟨x6, hl, H⟩ := Aa H
     obtain ⟨x7, hm, H⟩ := Aa H
     refine Cq Bq s8.f2.drop ?_
     have s9 := s8.drew
     obtain ⟨a3, hn, hp⟩ := FK (Flat.int .i64) (fun _ hC => (hC.BK m0)) s9.f2.drop Bz rfl hj
     obtain ⟨a4, hs, ht⟩ := FK (Flat.int .i64) (fun _ hC => (hC.BK m0)) s9.f2.drop Bz rfl hk
     refine hq [0, 1, 2, 3, 4, 5, 6, 7, 8, 9] F s9.f2.drop (QI.ev 3 rfl <| QI.ix hn rfl <| QI.op rfl (fun _ hC => An BE rfl (Bn.at_ (hp _ hC) (o := 0) rfl)) rfl <| QI.ev 3 rfl <| QI.ix hs rfl <| QI.op rfl (fun _ hC => An BE rfl (Bn.at_ (ht _ hC) (o := 0) rfl)) rfl <| QI.nil) (by kernel_rfl) fun _ F => ?_
     refine ho 10 rfl (by kernel_rfl) ?_
     obtain ⟨a5, hu, hv⟩ := Ax (Flat.int .i64) s9 m2 Bz rfl hl
     refine gi F hu 1 rfl fun _ F => ⟨s9.f2.drop, ?_⟩
     refine ho 11 rfl (by kernel_rfl) ?_
     refine gx F (An BE rfl (Bn.at_ (SL.C0 (Flat.int .i64) s9 m2 hv hl) (o := 0) rfl)) 1 rfl rfl fun _ F => ⟨s9.f2.drop, ?_⟩
     refine hq [12] F s9.f2.drop (QI.ev 1 rfl <| QI.nil) (by kernel_rfl) fun _ F => ?_
     refine ho 13 rfl (by kernel_rfl) ?_
     obtain ⟨a6, hw, hx⟩ := Ax (Flat.int .i64) s9 m2 Bz rfl hm
     refine gi F hw 1 rfl fun _ F => ⟨s9.f2.drop, ?_⟩
     refine ho 14 rfl (by kernel_rfl) ?_
     refine Bc (y' := wr (x6 + 1)) (Flat.int .i64) F s9.f2 hx hm rfl rfl (by rfl) IW fun w5 _ F sa => ?_
     refine gw 1 F rfl fun _ F => ⟨sa.drop, ?_⟩
     refine CP (by kernel_rfl) ?_
     cases H
     exact ge 7 F rfl fun _ F => ⟨_, rfl, v9, F.sb, sa.f2.f2⟩
    cases H
    obtain rfl := hr _ rfl
    exact ⟨v9, F.sb, s8.drop⟩
   intro _ w6 hJ
   obtain ⟨v8, F, sc⟩ := hJ
   have H := R1
   clear R1 H1
   cases H
   exact ge 7 F rfl fun _ F => ⟨_, rfl, v8, F.sb, sc⟩
  cases H
  obtain rfl := hr _ rfl
  exact ⟨v6, F.sb, s5⟩
 intro _ w7 hJ
 obtain ⟨v5, F, sd⟩ := hJ
 have H := R0
 clear R0 H0
 obtain ⟨o4, H2, R2⟩ := Aa H
 clear H
 refine ge 12 F rfl fun _ F => BA (fun a w_ => ∃ va : Value, Fr a 141 [(7, v1), (11, jI (x1.Code.length : Int)), (12, v5), (16, va)] ∧ SL w [] w_ [Sl Bs v1 x0.1, Sl (Ty.int .i64) v5 o0, Sl (Ty.int .i64) va o4]) ?_ ?_
 ·have H := H2
  refine gc 1 F rfl fun _ F => Cy (Ft x0 o0) (fun se a w_ => ∃ vb : Value, Fr a 141 [(7, v1), (11, jI (x1.Code.length : Int)), (12, v5), (16, vb), (17, jI se.2)] ∧ SL w [] w_ [Sl Bs v1 x0.1, Sl (Ty.int .i64) v5 o0, Sl (Ty.int .i64) vb se.1]) H ?_ ?_
  ·exact ⟨(.slice none 0 0), F.sb, (SL.BI (T := (Ty.int .i64)) sd).f2.f2⟩
  intro se _ w8 hy o5 H hr
  obtain ⟨vb, F, sf⟩ := hy
  replace H : Ft x0 o0 se = some o5 := H
  unfold Ft at H
  refine gc 5 F rfl fun _ F => gx F (Ah rfl underlying75 (fO sf m0)) 3 rfl rfl fun _ F => AH F H 8 4 rfl rfl rfl (fun hz H _ F => ?_) (fun hz H _ F => ?_)
  ·obtain ⟨x8, h10, H⟩ := Aa H
   obtain ⟨a7, h11, h12⟩ := Ax (Flat.int .i64) sf m1 Bz rfl h10
   refine gi F h11 0 rfl fun _ F => gx F (An BE rfl (Bn.at_ (SL.C0 (Flat.int .i64) sf m1 h12 h10) (o := 0) rfl)) 3 rfl rfl fun _ F => AH F H 3 8 rfl rfl rfl (fun h13 H _ F => ?_) (fun h13 H _ F => ?_)
   ·refine Ae (parts := [(0, .tmp 85)]) (Flat.int .i64) ([se.2] : List Int) F sf Bz rfl (by decide) rfl rfl rfl (by simp [Value.cells]) rfl rfl rfl fun vc wa _ F sg => ?_
    obtain ⟨x9, h14, H⟩ := Aa H
    obtain ⟨_, hr_⟩ := (sg.f3.BK m1)
    refine Aw (Flat.int .i64) F sg.f3 Bz rfl rfl rfl rfl hr_ rfl rfl h14 rfl fun vd wb _ F sh => ?_
    have s97596' := sh.f1.drop
    cases H
    exact gw 9 F rfl fun _ F => ⟨_, rfl, vd, F.sb, s97596'.f2.f2⟩
   cases H
   exact ⟨_, rfl, vb, F.sb, sf⟩
  cases H
  obtain rfl := hr _ rfl
  exact ⟨vb, F.sb, sf⟩
 intro _ wc hJ
 obtain ⟨va, F, si⟩ := hJ
 have H := R2
 clear R2 H2
 obtain ⟨o6, H3, R3⟩ := Aa H
 clear H
 refine ge 7 F rfl fun _ F => BA (fun a w_ => ∃ ve : Value, Fr a 141 [(7, v1), (16, ve)] ∧ SL w [] w_ [Sl Bs v1 x0.1, Sl (Ty.int .i64) ve o6]) ?_ ?_
 ·have H := H3
  refine gc 1 F rfl fun _ F => Cy (DI x0 x1) (fun sj a w_ => ∃ vf vg : Value, Fr a 141 [(7, v1), (11, jI (x1.Code.length : Int)), (12, vf), (16, vg), (18, jI sj.2.2)] ∧ SL w [] w_ [Sl Bs v1 x0.1, Sl (Ty.int .i64) vf sj.1, Sl (Ty.int .i64) vg sj.2.1]) H ?_ ?_
  ·exact ⟨v5, va, F.sb, si⟩
  intro sj _ wd h15 o7 H hr
  obtain ⟨vf, vg, F, sk⟩ := h15
  replace H : DI x0 x1 sj = some o7 := H
  unfold DI at H
  refine gc 5 F rfl fun _ F => gx F (Ah rfl underlying28 (fO sk m2)) 3 rfl rfl fun _ F => AH F H 9 4 rfl rfl rfl (fun h16 H _ F => ?_) (fun h16 H _ F => ?_)
  ·obtain ⟨xa, h17, H⟩ := Aa H
   obtain ⟨a8, h18, h19⟩ := Ax (Flat.int .i64) sk m2 Bz rfl h17
   obtain ⟨xb, h1a, H⟩ := Aa H
   refine gi F h18 0 rfl fun _ F => gx F (An BE rfl (Bn.at_ (SL.C0 (Flat.int .i64) sk m2 h19 h17) (o := 0) rfl)) 1 rfl rfl fun _ F => Df F (Ou (sk.rd0 m0) h1a) fun vh we _ h1b F => ?_
   obtain ⟨_, rfl, h1c⟩ := h1b
   have sl := sk.add h1c
   obtain ⟨o8, H4, R4⟩ := Aa H
   clear H
   refine gw 8 F rfl fun _ F => BA (fun a w_ => ∃ vi vj : Value, Fr a 141 [(7, v1), (11, jI (x1.Code.length : Int)), (12, vi), (16, vj), (18, jI sj.2.2)] ∧ SL w [] w_ [Sl Bs v1 x0.1, Sl (Ty.int .i64) vi o8.1, Sl (Ty.int .i64) vj o8.2]) ?_ ?_
   ·have H := H4
    refine gc 1 F rfl fun _ F => Cy (Ez xb) (fun sm a w_ => ∃ vk vl : Value, Fr a 141 [(7, v1), (11, jI (x1.Code.length : Int)), (12, vk), (16, vl), (18, jI sj.2.2), (19, vh), (20, jI sm.2.2)] ∧ SL w [] w_ [Sl (Ty.int .i64) vh xb, Sl Bs v1 x0.1, Sl (Ty.int .i64) vk sm.1, Sl (Ty.int .i64) vl sm.2.1]) H ?_ ?_
    ·exact ⟨vf, vg, F.sb, sl⟩
    intro sm _ wf h1d o9 H hr
    obtain ⟨vk, vl, F, sn⟩ := h1d
    replace H : Ez xb sm = some o9 := H
    unfold Ez at H
    refine gc 5 F rfl fun _ F => gx F (Ah rfl underlying28 (fO sn m0)) 3 rfl rfl fun _ F => AH F H 5 4 rfl rfl rfl (fun h1e H _ F => ?_) (fun h1e H _ F => ?_)
    ·obtain ⟨xc, h1f, H⟩ := Aa H
     obtain ⟨xd, h1g, H⟩ := Aa H
     obtain ⟨xe, h1h, H⟩ := Aa H
     obtain ⟨xf, h1i, H⟩ := Aa H
     refine Cq Bq sn.f2.drop ?_
     have so := sn.drew
     have sp := so.f2.drop
     obtain ⟨a9, h1j, h1k⟩ := FK (Flat.int .i64) (fun _ hC => (hC.BK m0)) sp Bz rfl h1f
     obtain ⟨aa, h1l, h1m⟩ := FK (Flat.int .i64) (fun _ hC => (hC.BK m0)) sp Bz rfl h1g
     refine hq [0, 1, 2, 3, 4, 5, 6, 7, 8, 9] F sp (QI.ev 3 rfl <| QI.ix h1j rfl <| QI.op rfl (fun _ hC => An BE rfl (Bn.at_ (h1k _ hC) (o := 0) rfl)) rfl <| QI.ev 3 rfl <| QI.ix h1l rfl <| QI.op rfl (fun _ hC => An BE rfl (Bn.at_ (h1m _ hC) (o := 0) rfl)) rfl <| QI.nil) (by kernel_rfl) fun _ F => ?_
     refine ho 10 rfl (by kernel_rfl) ?_
     obtain ⟨ab, h1n, h1o⟩ := Ax (Flat.int .i64) so m2 Bz rfl h1h
     refine gi F h1n 1 rfl fun _ F => ⟨so.f2.drop, ?_⟩
     refine ho 11 rfl (by kernel_rfl) ?_
     refine gx F (An BE rfl (Bn.at_ (SL.C0 (Flat.int .i64) so m2 h1o h1h) (o := 0) rfl)) 1 rfl rfl fun _ F => ⟨so.f2.drop, ?_⟩
     refine hq [12] F so.f2.drop (QI.ev 1 rfl <| QI.nil) (by kernel_rfl) fun _ F => ?_
     refine ho 13 rfl (by kernel_rfl) ?_
     obtain ⟨ac, h1p, h1q⟩ := Ax (Flat.int .i64) so m2 Bz rfl h1i
     refine gi F h1p 1 rfl fun _ F => ⟨so.f2.drop, ?_⟩
     refine ho 14 rfl (by kernel_rfl) ?_
     refine Bc (y' := wr (xe - 1)) (Flat.int .i64) F so.f2 h1q h1i rfl rfl (by rfl) IW fun wg _ F sq => ?_
     refine gw 1 F rfl fun _ F => ⟨sq.drop, ?_⟩
     refine CP (by kernel_rfl) ?_
     obtain ⟨xg, h1r, H⟩ := Aa H
     obtain ⟨ad, h1s, h1t⟩ := Ax (Flat.int .i64) sq m1 Bz rfl h1r
     obtain ⟨xh, h1u, H⟩ := Aa H
     obtain ⟨ae, h1v, h1w⟩ := Ax (Flat.int .i64) sq m0 Bz rfl h1u
     refine ge 6 F rfl fun _ F => gi F h1s 0 rfl fun _ F => gx F (An BE rfl (Bn.at_ (SL.C0 (Flat.int .i64) sq m1 h1t h1r) (o := 0) rfl)) 0 rfl rfl fun _ F => gi F h1v 0 rfl fun _ F => gx F (An BE rfl (Bn.at_ (SL.C0 (Flat.int .i64) sq m0 h1w h1u) (o := 0) rfl)) 3 rfl rfl fun _ F => AH F H 4 8 rfl rfl rfl (fun h1x H _ F => ?_) (fun h1x H _ F => ?_)
     ·obtain ⟨xi, h1y, H⟩ := Aa H
      obtain ⟨af, h1z, h20⟩ := Ax (Flat.int .i64) sq m1 Bz rfl h1y
      refine gi F h1z 0 rfl fun _ F => gx F (An BE rfl (Bn.at_ (SL.C0 (Flat.int .i64) sq m1 h20 h1y) (o := 0) rfl)) 0 rfl rfl fun _ F => ?_
      refine Ae (parts := [(0, .tmp 133)]) (Flat.int .i64) ([xi] : List Int) F sq Bz rfl (by decide) rfl rfl rfl (by simp [Value.cells]) rfl rfl rfl fun vm wh _ F sr => ?_
      obtain ⟨xj, h21, H⟩ := Aa H
      obtain ⟨_, hr_⟩ := (sr.f4.BK m1)
      refine Aw (Flat.int .i64) F sr.f4 Bz rfl rfl rfl rfl hr_ rfl rfl h21 rfl fun vn wi _ F ss => ?_
      have s341123' := ss.f1.drop
      cases H
      exact gw 9 F rfl fun _ F => ⟨_, rfl, vk, vn, F.sb, s341123'.f1.f3.f3⟩
     cases H
     exact ⟨_, rfl, vk, vl, F.sb, sq.f3.f1.f3.f3⟩
    cases H
    obtain rfl := hr _ rfl
    exact ⟨vk, vl, F.sb, sn.drop⟩
   intro _ wj hJ
   obtain ⟨vi, vj, F, st⟩ := hJ
   have H := R4
   clear R4 H4
   cases H
   exact ge 7 F rfl fun _ F => ⟨_, rfl, vi, vj, F.sb, st⟩
  cases H
  obtain rfl := hr _ rfl
  exact ⟨vg, F.sb, sk.f1.drop⟩
 intro _ wk hJ
 obtain ⟨ve, F, su⟩ := hJ
 have H := R3
 clear R3 H3
 refine ge 4 F rfl fun _ F => gx F (Ah rfl underlying28 (fO su m1)) 1 rfl rfl fun _ F => ?_
 cases H
 exact gx F (Ah rfl underlying75 (fO su m0)) 7 rfl rfl fun _ F => rt F ⟨rfl, su.drop.drop⟩
theorem Mg {w : World} {v0 : Value} {a0 : List A6} {r : (List A6)} (hr0 : Rd AB w [] v0 a0) (H : Ha a0 = some r) :
    Calls prog 23 #[v0] w (B9 fun u_ w_ => ∃ u0 : Value, u_ = u0 ∧ SL w [] w_ [Sl AB u0 r]) := by
 have s0 : SL w [] w [] := SL.Bt w
 refine BD func23 ntmps23 14 rfl rfl rfl fun _ F => ?_
 unfold Ha at H
 obtain ⟨o0, H0, R0⟩ := Aa H
 clear H
 refine gx F (Ah rfl underlying22 (fR hr0 s0)) 3 rfl rfl fun _ F => BA (fun a w_ => ∃ v1 : Value, Fr a 22 [(3, v1)] ∧ SL w [] w_ [Sl AB v1 o0]) ?_ ?_
 ·have H := H0
  refine gc 1 F rfl fun _ F => Cy (EE a0) (fun s1 a w_ => ∃ v2 : Value, Fr a 22 [(3, v2), (6, v0), (7, jI (a0.length : Int)), (8, jI s1.2)] ∧ SL w [] w_ [Sl AB v2 s1.1]) H ?_ ?_
  ·exact ⟨(.slice none 0 0), F.sb, (SL.BI (T := AB) s0)⟩
  intro s1 _ w0 h0 o1 H hr
  obtain ⟨v2, F, s2⟩ := h0
  replace H : EE a0 s1 = some o1 := H
  unfold EE at H
  refine gc 6 F rfl fun _ F => AH F H 6 4 rfl rfl rfl (fun h1 H _ F => ?_) (fun h1 H _ F => ?_)
  ·obtain ⟨x0, h2, H⟩ := Aa H
   obtain ⟨a1, c0, G0, h3, h4, h5, h6⟩ := Rd.idx hr0 D5 rfl h2
   obtain ⟨v3, rfl, h7⟩ := (C7 h5 h6)
   replace h4 := h4 _ _ s2
   refine gi F h3 0 rfl fun _ F => gx F (Av Ob rfl h4 rfl) 0 rfl rfl fun _ F => Af F s2 OB rfl rfl fun g0 w1 _ F s3 => Ai F s3 rfl rfl Q4 (Ab rfl (Ab rfl (Ab (Aq (fR h7 s3)) Ap))) (Ac rfl) fun w2 _ F s4 => ?_
   obtain ⟨x1, h8, H⟩ := Aa H
   refine gw 5 F rfl fun _ F => AG F s4 m0 0 rfl fun _ F => Df F (Ix (h7.AN s4) h8) fun v4 w3 _ h9 F => ?_
   obtain ⟨_, rfl, ha⟩ := h9
   have s5 := s4.add ha
   refine gw 1 F rfl fun _ F => Ay F s5.f1 rfl rfl Xu (Ag (fO s5.f1 m1)) (Aq (fO s5.f1 m1)) rfl fun w4 _ F s6 => gw 4 F rfl fun _ F => AG F s6 m0 0 rfl fun _ F => ?_
   have s7 : SL w [] _ (Dt AB (⟨x0.Name, x0.B2, x1⟩ : A6) [.string ⟨⟨x0.Name⟩⟩, jI x0.B2, v4] :: [A8 g0 103 [.string ⟨⟨x0.Name⟩⟩, jI x0.B2, v4], Sl AB v2 s1.1]) := (SL.PQ (f := JB) (x := (⟨x0.Name, x0.B2, x1⟩ : A6)) (SL.JJ (SL.KN (SL.JJ (SL.KN (SL.dsl s6.f1) (Flat.int .i64) x0.B2)) Flat.str x0.Name)))
   refine Bd F s7 D5 rfl (by decide) rfl rfl rfl fun v5 w5 _ F s8 => ?_
   obtain ⟨x2, hb, H⟩ := Aa H
   refine Bh F s8.f2 D5 rfl rfl rfl rfl rfl rfl hb rfl fun v6 w6 _ F s9 => ?_
   cases H
   exact gw 8 F rfl fun _ F => ⟨_, rfl, v6, F.sb, s9.f1.drop⟩
  cases H
  obtain rfl := hr _ rfl
  exact ⟨v2, F.sb, s2⟩
 intro _ w7 hJ
 obtain ⟨v1, F, sa⟩ := hJ
 have H := R0
 clear R0 H0
 cases H
 exact ge 8 F rfl fun _ F => rt F ⟨v1, rfl, sa⟩
theorem Jd {w : World} {v0 : Value} {a0 : List UInt8} {r : (List UInt8)} (hr0 : Rd Ty.u8 w [] v0 a0) (H : ES a0 = some r) :
    Calls prog 25 #[v0] w (B9 fun u_ w_ => ∃ u0 : Value, u_ = u0 ∧ SL w [] w_ [Sl Ty.u8 u0 r]) := by
 have s0 : SL w [] w [] := SL.Bt w
 refine BD func25 ntmps25 9 rfl rfl rfl fun _ F => ?_
 unfold ES at H
 obtain ⟨A0, c0, h0⟩ := JI (Eb hr0 s0)
 refine gx F (Ro rfl h0 rfl underlying42) 2 rfl rfl fun _ F => WF F rfl (fun h1 => ?_) (fun h1 => ?_)
 ·have h2 := WT (Eb hr0 s0) h0 (by simpa using h1)
  replace H := Uh (B := some ([] : List UInt8)) H (by simp [h2, app])
  cases H
  exact gc 7 F rfl fun _ F => rt F ⟨(.slice none 0 0), rfl, (SL.BI (T := Ty.u8) s0)⟩
 refine gc 4 F rfl fun _ F => ?_
 refine Ae (parts := []) Flat.u8 ([] : List UInt8) F s0 DX rfl (by decide) rfl rfl rfl (by simp [Value.cells]) rfl rfl rfl fun v1 w0 _ F s1 => ?_
 obtain ⟨x0, h3, H⟩ := Aa H
 obtain ⟨_, hr_⟩ := (Eb hr0 s1)
 refine gw 1 F rfl fun _ F => Aw Flat.u8 F s1 DX rfl rfl rfl rfl hr_ rfl rfl h3 rfl fun v2 w1 _ F s2 => ?_
 cases H
 exact gw 4 F rfl fun _ F => rt F ⟨v2, rfl, s2⟩
theorem Sz {w : World} {v0_0 : Value} {a0 : Bl} {r : Bl} (hr0_0 : Rd Ty.u8 w [] v0_0 a0.Bv) (H : IM a0 = some r) :
    Calls prog 45 #[.agg ⟨[v0_0, jU (a0.Result.toNat : Int)]⟩] w (B9 fun u_ w_ => ∃ u0 : Value, u_ = .agg ⟨[u0, jU (r.Result.toNat : Int)]⟩ ∧ SL w [] w_ [Sl Ty.u8 u0 r.Bv]) := by
 have s0 : SL w [] w [] := SL.Bt w
 refine BD func45 ntmps45 2 rfl rfl rfl fun _ F0 => ?_
 unfold IM at H
 refine Ar F0 s0 rfl rfl rfl fun g0 w0 _ F s1 => Af F s1 KT rfl rfl fun g1 w1 _ F s2 => ?_
 obtain ⟨x0, h0, H⟩ := Aa H
 refine gw 5 F rfl fun _ F => AG F s2 m1 0 rfl fun _ F => Df F (Gz (hr0_0.AN s2) h0) fun v0 w2 _ h1 F => ?_
 obtain ⟨_, rfl, h2⟩ := h1
 have s3 := s2.add h2
 refine gw 1 F rfl fun _ F => Ay F s3.f2 rfl rfl A7g (Ag (fO s3.f2 m1)) (Aq (fO s3.f2 m1)) rfl fun w3 _ F s4 => gw 4 F rfl fun _ F => AG F s4 m0 0 rfl fun _ F => Ai F s4.f2 rfl rfl OG (Ab (Aq (fO s4.f2 m2)) (Ab rfl Ap)) (Ac rfl) fun w4 _ F s5 => ?_
 cases H
 refine gw 3 F rfl fun _ F => ?_
 refine Ak (rs := [.cell 2 50]) (vs := [.agg ⟨[v0, jU (a0.Result.toNat : Int)]⟩]) F (by rfl) ⟨_, _, rfl, Am s5 m0 rfl J1 rfl, rfl⟩ ⟨_, rfl, ⟨v0, rfl, s5.drop.drop⟩⟩
theorem Nu {w : World} {v0_1 v0_4 : Value} {a0 : BX} {r : BX} (hr0_1 : Rd Ty.u8 w [] v0_1 a0.Sig.Bv) (hr0_4 : Rd Ty.u8 w [] v0_4 a0.Code) (H : Iz a0 = some r) :
    Calls prog 24 #[.agg ⟨[.string ⟨⟨a0.Name⟩⟩, v0_1, jU (a0.Sig.Result.toNat : Int), jI a0.Locals, v0_4]⟩] w (B9 fun u_ w_ => ∃ u0 u1 : Value, u_ = .agg ⟨[.string ⟨⟨r.Name⟩⟩, u0, jU (r.Sig.Result.toNat : Int), jI r.Locals, u1]⟩ ∧ SL w [] w_ [Sl Ty.u8 u0 r.Sig.Bv, Sl Ty.u8 u1 r.Code]) := by
 have s0 : SL w [] w [] := SL.Bt w
 refine BD func24 ntmps24 2 rfl rfl rfl fun _ F0 => ?_
 unfold Iz at H
 refine Ar F0 s0 rfl rfl rfl fun g0 w0 _ F s1 => Af F s1 Oa rfl rfl fun g1 w1 _ F s2 => ?_
 obtain ⟨x0, h0, H⟩ := Aa H
 refine gw 5 F rfl fun _ F => gx F (Av J1 rfl (s2.Dk m1 (o := 1) (ds := [v0_1, jU (a0.Sig.Result.toNat : Int)]) (OR _ rfl)) rfl) 0 rfl rfl fun _ F => Df F (Sz (a0 := (⟨a0.Sig.Bv, a0.Sig.Result⟩ : Bl)) (hr0_1.AN s2) h0) fun v0 w2 _ h1 F => ?_
 obtain ⟨v1, rfl, h2⟩ := h1
 have s3 := s2.add h2
 refine gw 1 F rfl fun _ F => Ai F s3.f2 rfl rfl OG (Ab (Aq (fO s3.f2 m1)) (Ab rfl Ap)) (Ac rfl) fun w3 _ F s4 => ?_
 obtain ⟨x1, h3, H⟩ := Aa H
 refine gw 5 F rfl fun _ F => AG F s4 m0 0 rfl fun _ F => Df F (Jd (hr0_4.AN s4) h3) fun v2 w4 _ h4 F => ?_
 obtain ⟨_, rfl, h5⟩ := h4
 have s5 := s4.add h5
 refine gw 1 F rfl fun _ F => Ay F s5.f1 rfl rfl Vs (Ag (fO s5.f1 m1)) (Aq (fO s5.f1 m1)) rfl fun w5 _ F s6 => gw 4 F rfl fun _ F => AG F s6 m0 0 rfl fun _ F => Ai F s6.f3 rfl rfl Qe (Ab rfl (Ab (Aq (fO s6.f3 m3)) (Ab rfl (Ab rfl (Ab (Aq (fO s6.f3 m2)) Ap))))) (Ac rfl) fun w6 _ F s7 => ?_
 cases H
 refine gw 3 F rfl fun _ F => ?_
 refine Ak (rs := [.cell 2 52]) (vs := [.agg ⟨[.string ⟨⟨a0.Name⟩⟩, v1, jU (x0.Result.toNat : Int), jI a0.Locals, v2]⟩]) F (by rfl) ⟨_, _, rfl, Am s7 m0 rfl My rfl, rfl⟩ ⟨_, rfl, ⟨v1, v2, rfl, s7.drop.drop.f1⟩⟩
theorem Ql {w : World} {v0_1 v0_2 v0_3 : Value} {a0 : AL} {r : AL} (hr0_1 : Rd AB w [] v0_1 a0.Classes) (hr0_2 : Rd Cc w [] v0_2 a0.Funcs) (hr0_3 : Rd (Ty.slice Ty.u8) w [] v0_3 a0.Ca) (H : Hv a0 = some r) :
    Calls prog 8 #[.agg ⟨[.string ⟨⟨a0.Name⟩⟩, v0_1, v0_2, v0_3]⟩] w (B9 fun u_ w_ => ∃ u0 u1 u2 : Value, u_ = .agg ⟨[.string ⟨⟨r.Name⟩⟩, u0, u1, u2]⟩ ∧ SL w [] w_ [Sl AB u0 r.Classes, Sl Cc u1 r.Funcs, Sl (Ty.slice Ty.u8) u2 r.Ca]) := by
 have s0 : SL w [] w [] := SL.Bt w
 refine BD func8 ntmps8 2 rfl rfl rfl fun _ F0 => ?_
 unfold Hv at H
 refine Ar F0 s0 rfl rfl rfl fun g0 w0 _ F s1 => Af F s1 KV rfl rfl fun g1 w1 _ F s2 => ?_
 obtain ⟨x0, h0, H⟩ := Aa H
 refine gw 3 F rfl fun _ F => Cq Bq s2 ?_
 refine hq [0, 1, 2, 3] F s2.drew (QI.ev 1 rfl <| QI.ld m1 rfl <| QI.ev 1 rfl <| QI.ld m1 rfl <| QI.nil) (by kernel_rfl) fun _ F => ?_
 refine CJ [0, 1, 2, 3, 4, 5, 6] (fun a w_ => ∃ g2 : Nat, ∃ v0 : Value, Fr a 45 [(1, jP g0), (2, jP g1), (3, jP g2), (13, .agg ⟨[.string ⟨⟨a0.Name⟩⟩, v0, .slice none 0 0, .slice none 0 0]⟩)] ∧ SL w [] w_ [A8 g1 26 [.string ⟨⟨[]⟩⟩, .slice none 0 0, .slice none 0 0, .slice none 0 0], A8 g0 26 [.string ⟨⟨a0.Name⟩⟩, v0_1, v0_2, v0_3], Sl AB v0 x0, A8 g2 26 [.string ⟨⟨[]⟩⟩, .slice none 0 0, .slice none 0 0, .slice none 0 0]]) ?_ fun hD0 => ?_
 ·rintro a w_ ⟨g2, v0, F, s3⟩
  refine ho 7 rfl (by kernel_rfl) ?_
  refine Ai F s3.f3 rfl rfl VC (Ab rfl (Ab (Aq (fO s3.f3 m3)) (Ab rfl (Ab rfl Ap)))) (Ac rfl) fun w2 _ F s4 => gw 1 F rfl fun _ F => ⟨s4.drop.f2.drop, ?_⟩
  refine CP (by kernel_rfl) ?_
  refine ge 5 F rfl fun _ F => AG F s4 m2 0 rfl fun _ F => ?_
  obtain ⟨o0, H0, R0⟩ := Aa H
  clear H
  refine gx F (Ah rfl underlying23 (fR hr0_2 s4)) 3 rfl rfl fun _ F => BA (fun a w_ => ∃ v1 : Value, Fr a 45 [(1, jP g0), (2, jP g1), (3, jP g2)] ∧ SL w [] w_ [A8 g2 26 [.string ⟨⟨a0.Name⟩⟩, v0, v1, .slice none 0 0], A8 g1 26 [.string ⟨⟨[]⟩⟩, .slice none 0 0, .slice none 0 0, .slice none 0 0], A8 g0 26 [.string ⟨⟨a0.Name⟩⟩, v0_1, v0_2, v0_3], Sl AB v0 x0, Sl Cc v1 o0]) ?_ ?_
  ·have H := H0
   refine gc 1 F rfl fun _ F => Cy (EU a0) (fun s5 a w_ => ∃ v2 : Value, Fr a 45 [(1, jP g0), (2, jP g1), (3, jP g2), (15, v0_2), (16, jI (a0.Funcs.length : Int)), (17, jI s5.2)] ∧ SL w [] w_ [A8 g2 26 [.string ⟨⟨a0.Name⟩⟩, v0, v2, .slice none 0 0], A8 g1 26 [.string ⟨⟨[]⟩⟩, .slice none 0 0, .slice none 0 0, .slice none 0 0], A8 g0 26 [.string ⟨⟨a0.Name⟩⟩, v0_1, v0_2, v0_3], Sl AB v0 x0, Sl Cc v2 s5.1]) H ?_ ?_
   ·exact ⟨(.slice none 0 0), F.sb, (SL.BI (T := Cc) s4).f4.f4.f4.f4⟩
   intro s5 _ w3 h1 o1 H hr
   obtain ⟨v2, F, s6⟩ := h1
   replace H : EU a0 s5 = some o1 := H
   unfold EU at H
   refine gc 6 F rfl fun _ F => AH F H 6 4 rfl rfl rfl (fun h2 H _ F => ?_) (fun h2 H _ F => ?_)
   ·obtain ⟨x1, h3, H⟩ := Aa H
    obtain ⟨a1, c0, G0, h4, h5, h6, h7⟩ := Rd.idx hr0_2 Ke rfl h3
    obtain ⟨v3, v4, rfl, h8, h9⟩ := (Jv h6 h7)
    replace h5 := h5 _ _ s6
    refine gi F h4 0 rfl fun _ F => gx F (Av My rfl h5 rfl) 0 rfl rfl fun _ F => Af F s6 Oa rfl rfl fun g3 w4 _ F s7 => Ai F s7 rfl rfl Qe (Ab rfl (Ab (Aq (fR h8 s7)) (Ab rfl (Ab rfl (Ab (Aq (fR h9 s7)) Ap))))) (Ac rfl) fun w5 _ F s8 => ?_
    obtain ⟨x2, ha, H⟩ := Aa H
    obtain ⟨x3, hb, H⟩ := Aa H
    refine gw 2 F rfl fun _ F => Cq Bq s8.f1.drop.f4.drop ?_
    have s9 := s8.drew
    refine hq [0, 2] F s9.f1.drop.f4.drop (QI.ev 1 rfl <| QI.ld m0 rfl <| QI.nil) (by kernel_rfl) fun _ F => ?_
    refine CJ [0, 1, 2, 3, 4] (fun a w_ => ∃ v5 : Value, Fr a 45 [(1, jP g0), (2, jP g1), (3, jP g2), (15, v0_2), (16, jI (a0.Funcs.length : Int)), (17, jI s5.2), (22, v2), (25, v5)] ∧ SL w [] w_ [A8 g3 52 [.string ⟨⟨x1.Name⟩⟩, v3, jU (x1.Sig.Result.toNat : Int), jI x1.Locals, v4], A8 g1 26 [.string ⟨⟨[]⟩⟩, .slice none 0 0, .slice none 0 0, .slice none 0 0], A8 g0 26 [.string ⟨⟨a0.Name⟩⟩, v0_1, v0_2, v0_3], Sl AB v0 x0, A8 g2 26 [.string ⟨⟨a0.Name⟩⟩, v0, v2, .slice none 0 0], Sl Cc v5 ([(⟨x2.Name, (⟨x2.Sig.Bv, x2.Sig.Result⟩ : Bl), x2.Locals, x2.Code⟩ : BX)] : List BX), Sl Cc v2 s5.1]) ?_ fun hD0 => ?_
    ·rintro a w_ ⟨v5, F, sa⟩
     refine ho 5 rfl (by kernel_rfl) ?_
     refine Bh F sa.f5.f6 Ke rfl rfl rfl rfl rfl rfl hb rfl fun v6 w6 _ F sc => gw 1 F rfl fun _ F => ⟨sc.drop.f4.drop, ?_⟩
     refine hq [6] F sc.drop.f4.drop (QI.ev 1 rfl <| QI.nil) (by kernel_rfl) fun _ F => ?_
     refine ho 7 rfl (by kernel_rfl) ?_
     refine Ay F sc.f5 rfl rfl Ax0 (Ag (fO sc.f5 m1)) (Aq (fO sc.f5 m1)) rfl fun w7 _ F sd => gw 1 F rfl fun _ F => ⟨sd.drop.drop, ?_⟩
     refine CP (by kernel_rfl) ?_
     cases H
     exact ge 6 F rfl fun _ F => ⟨_, rfl, v6, F.sb, sd.f2.drop.f1.f4.f4.f4.f4⟩
    refine CJ [0, 1, 2, 3] (fun a w_ => ∃ v7 : Value, ∃ v8 : Value, Fr a 45 [(1, jP g0), (2, jP g1), (3, jP g2), (15, v0_2), (16, jI (a0.Funcs.length : Int)), (17, jI s5.2), (22, v2), (24, .agg ⟨[.string ⟨⟨x2.Name⟩⟩, v7, jU (x2.Sig.Result.toNat : Int), jI x2.Locals, v8]⟩)] ∧ SL w [] w_ [A8 g3 52 [.string ⟨⟨x1.Name⟩⟩, v3, jU (x1.Sig.Result.toNat : Int), jI x1.Locals, v4], A8 g1 26 [.string ⟨⟨[]⟩⟩, .slice none 0 0, .slice none 0 0, .slice none 0 0], A8 g0 26 [.string ⟨⟨a0.Name⟩⟩, v0_1, v0_2, v0_3], Sl AB v0 x0, A8 g2 26 [.string ⟨⟨a0.Name⟩⟩, v0, v2, .slice none 0 0], Sl Ty.u8 v7 x2.Sig.Bv, Sl Ty.u8 v8 x2.Code, Sl Cc v2 s5.1]) ?_ fun hD1 => ?_
    ·rintro a w_ ⟨v7, v8, F, se⟩
     refine ho 4 rfl (by kernel_rfl) ?_
     have sf : SL w [] _ (Dt Cc (⟨x2.Name, (⟨x2.Sig.Bv, x2.Sig.Result⟩ : Bl), x2.Locals, x2.Code⟩ : BX) [.string ⟨⟨x2.Name⟩⟩, v7, jU (x2.Sig.Result.toNat : Int), jI x2.Locals, v8] :: [A8 g3 52 [.string ⟨⟨x1.Name⟩⟩, v3, jU (x1.Sig.Result.toNat : Int), jI x1.Locals, v4], A8 g1 26 [.string ⟨⟨[]⟩⟩, .slice none 0 0, .slice none 0 0, .slice none 0 0], A8 g0 26 [.string ⟨⟨a0.Name⟩⟩, v0_1, v0_2, v0_3], Sl AB v0 x0, A8 g2 26 [.string ⟨⟨a0.Name⟩⟩, v0, v2, .slice none 0 0], Sl Cc v2 s5.1]) := (SL.PQ (f := Kv) (x := (⟨x2.Name, (⟨x2.Sig.Bv, x2.Sig.Result⟩ : Bl), x2.Locals, x2.Code⟩ : BX)) (SL.JJ (SL.KN (SL.JJ (SL.PQ (f := Ge) (x := (⟨x2.Sig.Bv, x2.Sig.Result⟩ : Bl)) (SL.JJ (SL.dsl (SL.KN (SL.JJ (SL.KN (SL.dsl se.f6) (Flat.int .i64) x2.Locals)) Flat.u8 x2.Sig.Result).f7)))) Flat.str x2.Name)))
     refine Bd F sf Ke rfl (by decide) rfl rfl rfl fun v5 w8 _ F sg => ?_
     exact gw 1 F rfl fun _ F => ⟨sg.drop.f4.drop.f4.drop, BJ hD0 ⟨v5, F.sb, sg.f6.f1.f6.f6.f6.f6.f6⟩ (by kernel_rfl)⟩
    refine E5 1 3 rfl rfl (by kernel_rfl) ?_ ?_
    ·refine AG F s9 m1 1 rfl fun _ F => ⟨s9.f1.drop.f4.drop, ?_⟩
     refine ho 3 rfl (by kernel_rfl) ?_
     refine Df F (Nu (a0 := (⟨x1.Name, (⟨x1.Sig.Bv, x1.Sig.Result⟩ : Bl), x1.Locals, x1.Code⟩ : BX)) (h8.AN s9) (h9.AN s9) ha) fun v9 w9 _ hc F => ?_
     obtain ⟨v7, v8, rfl, hd⟩ := hc
     have sh := s9.add hd
     exact gw 1 F rfl fun _ F => ⟨sh.drop.drop.f1.drop.f4.drop, BJ hD1 ⟨v7, v8, F.sb, sh.f7.f2.f2.f4.f7.f7.f7.f7⟩ (by kernel_rfl)⟩
    refine Df F (Nu (a0 := (⟨x1.Name, (⟨x1.Sig.Bv, x1.Sig.Result⟩ : Bl), x1.Locals, x1.Code⟩ : BX)) (h8.AN s9) (h9.AN s9) ha) fun v9 w9 _ hc F => ?_
    obtain ⟨v7, v8, rfl, hd⟩ := hc
    have sh := s9.add hd
    refine gw 1 F rfl fun _ F => ⟨sh.drop.drop.f1.drop.f4.drop, ?_⟩
    refine E5 1 4 rfl rfl (by kernel_rfl) ?_ ?_
    ·exact AG F sh m3 1 rfl fun _ F => ⟨sh.drop.drop.f1.drop.f4.drop, BJ hD1 ⟨v7, v8, F.sb, sh.f7.f2.f2.f4.f7.f7.f7.f7⟩ (by kernel_rfl)⟩
    have sf : SL w [] _ (Dt Cc (⟨x2.Name, (⟨x2.Sig.Bv, x2.Sig.Result⟩ : Bl), x2.Locals, x2.Code⟩ : BX) [.string ⟨⟨x2.Name⟩⟩, v7, jU (x2.Sig.Result.toNat : Int), jI x2.Locals, v8] :: [A8 g3 52 [.string ⟨⟨x1.Name⟩⟩, v3, jU (x1.Sig.Result.toNat : Int), jI x1.Locals, v4], A8 g2 26 [.string ⟨⟨a0.Name⟩⟩, v0, v2, .slice none 0 0], A8 g1 26 [.string ⟨⟨[]⟩⟩, .slice none 0 0, .slice none 0 0, .slice none 0 0], A8 g0 26 [.string ⟨⟨a0.Name⟩⟩, v0_1, v0_2, v0_3], Sl AB v0 x0, Sl Cc v2 s5.1]) := (SL.PQ (f := Kv) (x := (⟨x2.Name, (⟨x2.Sig.Bv, x2.Sig.Result⟩ : Bl), x2.Locals, x2.Code⟩ : BX)) (SL.JJ (SL.KN (SL.JJ (SL.PQ (f := Ge) (x := (⟨x2.Sig.Bv, x2.Sig.Result⟩ : Bl)) (SL.JJ (SL.dsl (SL.KN (SL.JJ (SL.KN (SL.dsl sh.f1) (Flat.int .i64) x2.Locals)) Flat.u8 x2.Sig.Result).f2)))) Flat.str x2.Name)))
    refine Bd F sf Ke rfl (by decide) rfl rfl rfl fun v5 w8 _ F sg => ?_
    refine gw 1 F rfl fun _ F => ⟨sg.drop.f1.drop.f4.drop, ?_⟩
    refine ho 1 rfl (by kernel_rfl) ?_
    exact AG F sg m2 1 rfl fun _ F => ⟨sg.drop.f1.drop.f4.drop, BJ hD0 ⟨v5, F.sb, sg.f6.f1.f3.f6.f6.f6.f6⟩ (by kernel_rfl)⟩
   cases H
   obtain rfl := hr _ rfl
   exact ⟨v2, F.sb, s6⟩
  intro _ wa hJ
  obtain ⟨v1, F, si⟩ := hJ
  have H := R0
  clear R0 H0
  refine ge 5 F rfl fun _ F => AG F si m2 0 rfl fun _ F => ?_
  obtain ⟨o2, H1, R1⟩ := Aa H
  clear H
  refine gx F (Ah rfl underlying24 (fR hr0_3 si)) 3 rfl rfl fun _ F => BA (fun a w_ => ∃ va : Value, Fr a 45 [(2, jP g1), (3, jP g2)] ∧ SL w [] w_ [A8 g2 26 [.string ⟨⟨a0.Name⟩⟩, v0, v1, va], A8 g1 26 [.string ⟨⟨[]⟩⟩, .slice none 0 0, .slice none 0 0, .slice none 0 0], Sl AB v0 x0, Sl Cc v1 o0, Sl (Ty.slice Ty.u8) va o2]) ?_ ?_
  ·have H := H1
   refine gc 1 F rfl fun _ F => Cy (ER a0) (fun sj a w_ => ∃ vb : Value, Fr a 45 [(2, jP g1), (3, jP g2), (30, v0_3), (31, jI (a0.Ca.length : Int)), (32, jI sj.2)] ∧ SL w [] w_ [A8 g2 26 [.string ⟨⟨a0.Name⟩⟩, v0, v1, vb], A8 g1 26 [.string ⟨⟨[]⟩⟩, .slice none 0 0, .slice none 0 0, .slice none 0 0], Sl AB v0 x0, Sl Cc v1 o0, Sl (Ty.slice Ty.u8) vb sj.1]) H ?_ ?_
   ·exact ⟨(.slice none 0 0), F.sb, (SL.BI (T := (Ty.slice Ty.u8)) si).f3.drop.f4.f4.f4.f4⟩
   intro sj _ wb he o3 H hr
   obtain ⟨vb, F, sk⟩ := he
   replace H : ER a0 sj = some o3 := H
   unfold ER at H
   refine gc 6 F rfl fun _ F => AH F H 6 4 rfl rfl rfl (fun hf H _ F => ?_) (fun hf H _ F => ?_)
   ·obtain ⟨x4, hg, H⟩ := Aa H
    obtain ⟨a2, c1, G1, hh, hi, hj, hk⟩ := Rd.idx hr0_3 OE rfl hg
    obtain ⟨vc, rfl, hl⟩ := (Zn hj hk)
    replace hi := hi _ _ sk
    refine gi F hh 0 rfl fun _ F => ?_
    obtain ⟨x5, hm, H⟩ := Aa H
    obtain ⟨x6, hn, H⟩ := Aa H
    refine gx F (An QQ rfl (Bn.at_ hi (o := 0) rfl)) 3 rfl rfl fun _ F => Cq Bq sk.drop.f3.drop ?_
    have sl := sk.drew
    refine hq [0, 2] F sl.drop.f3.drop (QI.ev 2 rfl <| QI.nil) (by kernel_rfl) fun _ F => ?_
    refine CJ [0, 1, 2, 3, 4] (fun a w_ => ∃ vd : Value, Fr a 45 [(2, jP g1), (3, jP g2), (30, v0_3), (31, jI (a0.Ca.length : Int)), (32, jI sj.2), (37, vb), (40, vd)] ∧ SL w [] w_ [A8 g1 26 [.string ⟨⟨[]⟩⟩, .slice none 0 0, .slice none 0 0, .slice none 0 0], Sl AB v0 x0, Sl Cc v1 o0, A8 g2 26 [.string ⟨⟨a0.Name⟩⟩, v0, v1, vb], Sl (Ty.slice Ty.u8) vb sj.1, Sl (Ty.slice Ty.u8) vd ([x5] : List (List UInt8))]) ?_ fun hD0 => ?_
    ·rintro a w_ ⟨vd, F, sm⟩
     refine ho 5 rfl (by kernel_rfl) ?_
     refine Bh F sm.f5.f5 OE rfl rfl rfl rfl rfl rfl hn rfl fun ve wc _ F sn => gw 1 F rfl fun _ F => ⟨sn.drop.f3.drop, ?_⟩
     refine hq [6] F sn.drop.f3.drop (QI.ev 1 rfl <| QI.nil) (by kernel_rfl) fun _ F => ?_
     refine ho 7 rfl (by kernel_rfl) ?_
     refine Ay F sn.f4 rfl rfl A2a (Ag (fO sn.f4 m1)) (Aq (fO sn.f4 m1)) rfl fun wd _ F so => gw 1 F rfl fun _ F => ⟨so.drop.drop, ?_⟩
     refine CP (by kernel_rfl) ?_
     cases H
     exact ge 6 F rfl fun _ F => ⟨_, rfl, ve, F.sb, so.f1.f4.f4.f4.f4⟩
    refine CJ [0, 1, 2, 3] (fun a w_ => ∃ vf : Value, Fr a 45 [(2, jP g1), (3, jP g2), (30, v0_3), (31, jI (a0.Ca.length : Int)), (32, jI sj.2), (37, vb), (39, vf)] ∧ SL w [] w_ [A8 g1 26 [.string ⟨⟨[]⟩⟩, .slice none 0 0, .slice none 0 0, .slice none 0 0], Sl AB v0 x0, Sl Cc v1 o0, A8 g2 26 [.string ⟨⟨a0.Name⟩⟩, v0, v1, vb], Sl (Ty.slice Ty.u8) vb sj.1, Sl Ty.u8 vf x5]) ?_ fun hD1 => ?_
    ·rintro a w_ ⟨vf, F, sp⟩
     refine ho 4 rfl (by kernel_rfl) ?_
     have hp := (fO sp m5)
     have sq : SL w [] _ (Dt (Ty.slice Ty.u8) x5 [vf] :: [A8 g1 26 [.string ⟨⟨[]⟩⟩, .slice none 0 0, .slice none 0 0, .slice none 0 0], Sl AB v0 x0, Sl Cc v1 o0, A8 g2 26 [.string ⟨⟨a0.Name⟩⟩, v0, v1, vb], Sl (Ty.slice Ty.u8) vb sj.1]) := (SL.dsl sp.f5)
     refine Bd F sq OE rfl (by decide) rfl (Ag hp) rfl fun vd we _ F sr => ?_
     exact gw 1 F rfl fun _ F => ⟨sr.drop.f3.drop.f3.drop, BJ hD0 ⟨vd, F.sb, sr.f5.f5.f5.f5.f5⟩ (by kernel_rfl)⟩
    refine E5 1 3 rfl rfl (by kernel_rfl) ?_ ?_
    ·refine AG F sl m0 1 rfl fun _ F => ⟨sl.drop.f3.drop, ?_⟩
     refine ho 3 rfl (by kernel_rfl) ?_
     refine Df F (Jd (hl.AN sl) hm) fun vf wf _ hs F => ?_
     obtain ⟨_, rfl, ht⟩ := hs
     have ss := sl.add ht
     exact gw 1 F rfl fun _ F => ⟨ss.drop.drop.f3.drop, BJ hD1 ⟨vf, F.sb, ss.f5.f2.f5.f5.f5⟩ (by kernel_rfl)⟩
    refine Df F (Jd (hl.AN sl) hm) fun vf wf _ hs F => ?_
    obtain ⟨_, rfl, ht⟩ := hs
    have ss := sl.add ht
    refine gw 1 F rfl fun _ F => ⟨ss.drop.drop.f3.drop, ?_⟩
    refine E5 1 4 rfl rfl (by kernel_rfl) ?_ ?_
    ·exact AG F ss m1 1 rfl fun _ F => ⟨ss.drop.drop.f3.drop, BJ hD1 ⟨vf, F.sb, ss.f5.f2.f5.f5.f5⟩ (by kernel_rfl)⟩
    have hp := (fO ss m0)
    have sq : SL w [] _ (Dt (Ty.slice Ty.u8) x5 [vf] :: [A8 g2 26 [.string ⟨⟨a0.Name⟩⟩, v0, v1, vb], A8 g1 26 [.string ⟨⟨[]⟩⟩, .slice none 0 0, .slice none 0 0, .slice none 0 0], Sl AB v0 x0, Sl Cc v1 o0, Sl (Ty.slice Ty.u8) vb sj.1]) := (SL.dsl ss)
    refine Bd F sq OE rfl (by decide) rfl (Ag hp) rfl fun vd we _ F sr => ?_
    refine gw 1 F rfl fun _ F => ⟨sr.drop.drop.f3.drop, ?_⟩
    refine ho 1 rfl (by kernel_rfl) ?_
    exact AG F sr m1 1 rfl fun _ F => ⟨sr.drop.drop.f3.drop, BJ hD0 ⟨vd, F.sb, sr.f5.f2.f5.f5.f5⟩ (by kernel_rfl)⟩
   cases H
   obtain rfl := hr _ rfl
   exact ⟨vb, F.sb, sk⟩
  intro _ wg hJ
  obtain ⟨va, F, st⟩ := hJ
  have H := R1
  clear R1 H1
  refine ge 3 F rfl fun _ F => AG F st m0 0 rfl fun _ F => Ai F st.f1 rfl rfl VC (Ab rfl (Ab (Aq (fO st.f1 m2)) (Ab (Aq (fO st.f1 m3)) (Ab (Aq (fO st.f1 m4)) Ap)))) (Ac rfl) fun wh _ F su => ?_
  cases H
  refine gw 3 F rfl fun _ F => ?_
  refine Ak (rs := [.cell 2 26]) (vs := [.agg ⟨[.string ⟨⟨a0.Name⟩⟩, v0, v1, va]⟩]) F (by rfl) ⟨_, _, rfl, Am su m0 rfl Arx rfl, rfl⟩ ⟨_, rfl, ⟨v0, v1, va, rfl, su.drop.drop⟩⟩
 refine CJ [0, 1, 2, 3, 4, 6] (fun a w_ => ∃ g2 : Nat, ∃ v0 : Value, Fr a 45 [(1, jP g0), (2, jP g1), (3, jP g2), (9, .string ⟨⟨a0.Name⟩⟩), (12, v0)] ∧ SL w [] w_ [A8 g1 26 [.string ⟨⟨[]⟩⟩, .slice none 0 0, .slice none 0 0, .slice none 0 0], A8 g0 26 [.string ⟨⟨a0.Name⟩⟩, v0_1, v0_2, v0_3], Sl AB v0 x0, A8 g2 26 [.string ⟨⟨[]⟩⟩, .slice none 0 0, .slice none 0 0, .slice none 0 0]]) ?_ fun hD1 => ?_
 ·rintro a w_ ⟨g2, v0, F, sv⟩
  refine ho 5 rfl (by kernel_rfl) ?_
  have hu := (fO sv m2)
  refine gx F (Al (vs := [.string ⟨⟨a0.Name⟩⟩, v0]) KV YO rfl (cs := [.string ⟨⟨a0.Name⟩⟩, v0, .slice none 0 0, .slice none 0 0]) (by obtain ⟨_, _, e_0⟩ := hu; rw [e_0] <;> rfl)) 1 rfl rfl fun _ F => ?_
  exact ⟨sv.f2.drop.f2.drop, BJ hD0 ⟨g2, v0, F.sb, sv⟩ (by kernel_rfl)⟩
 refine E5 4 6 rfl rfl (by kernel_rfl) ?_ ?_
 ·refine Df F (Mg (hr0_1.AN s2.drew) h0) fun v0 wi _ hv F => ?_
  obtain ⟨_, rfl, hw⟩ := hv
  have sw := s2.drew.add hw
  refine gw 1 F rfl fun _ F => ⟨sw.drop, ?_⟩
  refine E5 5 6 rfl rfl (by kernel_rfl) ?_ ?_
  ·have hu := (fO sw m0)
   refine gx F (Al (vs := [.string ⟨⟨a0.Name⟩⟩, v0]) KV YO rfl (cs := [.string ⟨⟨a0.Name⟩⟩, v0, .slice none 0 0, .slice none 0 0]) (by obtain ⟨_, _, e_0⟩ := hu; rw [e_0] <;> rfl)) 1 rfl rfl fun _ F => ?_
   refine ⟨sw.drop, ?_⟩
   refine ho 6 rfl (by kernel_rfl) ?_
   exact Af F sw KV rfl rfl fun g2 wj _ F sx => gw 1 F rfl fun _ F => ⟨sx.drop.drop, BJ hD0 ⟨g2, v0, F.sb, sx.f1.f3.f3⟩ (by kernel_rfl)⟩
  exact Af F sw KV rfl rfl fun g2 wj _ F sx => gw 1 F rfl fun _ F => ⟨sx.drop.drop, BJ hD1 ⟨g2, v0, F.sb, sx.f1.f3.f3⟩ (by kernel_rfl)⟩
 refine Af F s2.drew KV rfl rfl fun g2 wj _ F sx => gw 1 F rfl fun _ F => ⟨sx.drop, ?_⟩
 refine ho 4 rfl (by kernel_rfl) ?_
 refine Df F (Mg (hr0_1.AN sx) h0) fun v0 wi _ hv F => ?_
 obtain ⟨_, rfl, hw⟩ := hv
 have sw := sx.add hw
 exact gw 1 F rfl fun _ F => ⟨sw.drop.drop, BJ hD1 ⟨g2, v0, F.sb, sw.f1.f1.f3.f3⟩ (by kernel_rfl)⟩
theorem O5 {w : World} {v0_1 v0_2 v0_3 : Value} {a0 : AL} {a1 : Int} {r : Bool} (hr0_1 : Rd AB w [] v0_1 a0.Classes) (hr0_2 : Rd Cc w [] v0_2 a0.Funcs) (hr0_3 : Rd (Ty.slice Ty.u8) w [] v0_3 a0.Ca) (H : EC a0 a1 = some r) :
    Calls prog 4 #[.agg ⟨[.string ⟨⟨a0.Name⟩⟩, v0_1, v0_2, v0_3]⟩, jI a1] w (B9 fun u_ w_ => u_ = .bool r ∧ SL w [] w_ []) := by
 have s0 : SL w [] w [] := SL.Bt w
 refine BD func4 ntmps4 2 rfl rfl rfl fun _ F0 => ?_
 unfold EC at H
 refine Ar F0 s0 rfl rfl rfl fun g8 w9 _ F s1 => ?_
 obtain ⟨x0, h0, H⟩ := Aa H
 refine gw 5 F rfl fun _ F => AG F s1 m0 0 rfl fun _ F => Df F (Ql (a0 := (⟨a0.Name, a0.Classes, a0.Funcs, a0.Ca⟩ : AL)) (hr0_1.AN s1) (hr0_2.AN s1) (hr0_3.AN s1) h0) fun v0 w0 _ h1 F => ?_
 obtain ⟨v1, v2, v3, rfl, h2⟩ := h1
 have s2 := s1.add h2
 refine Af F s2 KV rfl rfl fun g0 w1 _ F s3 => Ai F s3 rfl rfl VC (Ab rfl (Ab (Aq (fO s3 m1)) (Ab (Aq (fO s3 m2)) (Ab (Aq (fO s3 m3)) Ap)))) (Ac rfl) fun w2 _ F s4 => ?_
 obtain ⟨x1, h3, H⟩ := Aa H
 refine gw 4 F rfl fun _ F => AG F s4 m0 1 rfl fun _ F => Df F (WA (a0 := (⟨x0.Name, x0.Classes, x0.Funcs, x0.Ca⟩ : AL)) (s4.rd0 m1) (s4.rd0 m2) (s4.rd0 m3) h3) fun v4 w3 _ h4 F => ?_
 obtain ⟨v5, rfl, h5⟩ := h4
 have s5 := s4.add h5
 obtain ⟨x2, h6, H⟩ := Aa H
 refine gw 11 F rfl fun _ F => AG F s5 m5 1 rfl fun _ F => Df F (Q9 (a0 := (⟨a0.Name, a0.Classes, a0.Funcs, a0.Ca⟩ : AL)) (hr0_1.AN s5) (hr0_2.AN s5) (hr0_3.AN s5) h6) fun v6 w4 _ h7 F => ?_
 obtain ⟨v7, rfl, h8⟩ := h7
 have s6 := s5.add h8
 obtain ⟨x3, h9, H⟩ := Aa H
 refine gw 14 F rfl fun _ F => B5 F s6 (PP (s6.rd0 m1) (s6.rd0 m0) h9) 2 rfl rfl rfl rfl fun w5 _ F s7 => BB 36 F H (fun ha H F => ?_) (fun ha H F => ?_)
 ·cases H
  exact gw 19 F rfl fun _ F => rt F ⟨rfl, s7.drop.drop.drop.drop.drop.drop.drop⟩
 refine gw 5 F rfl fun _ F => BB 41 F H (fun hb H F => ?_) (fun hb H F => ?_)
 ·cases H
  exact gw 14 F rfl fun _ F => rt F ⟨rfl, s7.drop.drop.drop.drop.drop.drop.drop⟩
 refine gw 6 F rfl fun _ F => AH F H 7 4 rfl rfl rfl (fun hc H _ F => ?_) (fun hc H _ F => ?_)
 ·cases H
  exact rt F ⟨rfl, s7.drop.drop.drop.drop.drop.drop.drop⟩
 obtain ⟨x4, hd, H⟩ := Aa H
 refine AG F s7 m2 1 rfl fun _ F => B5 F s7 (V4 (a0 := (⟨x0.Name, x0.Classes, x0.Funcs, x0.Ca⟩ : AL)) (s7.rd0 m3) (s7.rd0 m4) (s7.rd0 m5) hd) 11 rfl rfl rfl rfl fun w6 _ F s8 => ?_
 obtain ⟨x5, he, H⟩ := Aa H
 refine AG F s8 m6 1 rfl fun _ F => B5 F s8 (Qj (a0 := (⟨a0.Name, a0.Classes, a0.Funcs, a0.Ca⟩ : AL)) (hr0_1.AN s8) (hr0_2.AN s8) (hr0_3.AN s8) he) 16 rfl rfl rfl rfl fun w7 _ F s9 => BB 63 F H (fun hf H F => ?_) (fun hf H F => ?_)
 ·cases H
  exact gw 19 F rfl fun _ F => rt F ⟨rfl, s9.drop.drop.drop.drop.drop.drop.drop⟩
 refine gw 5 F rfl fun _ F => BB 68 F H (fun hg H F => ?_) (fun hg H F => ?_)
 ·cases H
  exact gw 14 F rfl fun _ F => rt F ⟨rfl, s9.drop.drop.drop.drop.drop.drop.drop⟩
 refine gw 6 F rfl fun _ F => AH F H 7 4 rfl rfl rfl (fun hh H _ F => ?_) (fun hh H _ F => ?_)
 ·cases H
  exact rt F ⟨rfl, s9.drop.drop.drop.drop.drop.drop.drop⟩
 obtain ⟨x6, hi, H⟩ := Aa H
 refine AG F s9 m2 1 rfl fun _ F => B5 F s9 (W1 (a0 := (⟨x0.Name, x0.Classes, x0.Funcs, x0.Ca⟩ : AL)) (s9.rd0 m3) (s9.rd0 m4) (s9.rd0 m5) hi) 11 rfl rfl rfl rfl fun w8 _ F sa => ?_
 obtain ⟨x7, hj, H⟩ := Aa H
 refine AG F sa m6 1 rfl fun _ F => B5 F sa (QL (a0 := (⟨a0.Name, a0.Classes, a0.Funcs, a0.Ca⟩ : AL)) (hr0_1.AN sa) (hr0_2.AN sa) (hr0_3.AN sa) hj) 13 rfl rfl rfl rfl fun wa _ F sb => gx F (AA5 rfl rfl underlying4) 1 rfl rfl fun _ F => BB 90 F H (fun hk H F => ?_) (fun hk H F => ?_)
 ·refine gw 5 F rfl fun _ F => BB 95 F H (fun hl H F => ?_) (fun hl H F => ?_)
  ·refine gw 5 F rfl fun _ F => BB 100 F H (fun hm H F => ?_) (fun hm H F => ?_)
   ·refine AK F rfl rfl <| AG F sb m2 0 rfl fun _ F => AK F rfl rfl <| AG F sb m6 0 rfl fun _ F => ?_
    obtain ⟨x8, hn, H⟩ := Aa H
    refine AK F rfl rfl <| B5 F sb (O7 (a0 := (⟨x0.Name, x0.Classes, x0.Funcs, x0.Ca⟩ : AL)) (a1 := (⟨a0.Name, a0.Classes, a0.Funcs, a0.Ca⟩ : AL)) (sb.rd0 m3) (sb.rd0 m4) (sb.rd0 m5) (hr0_1.AN sb) (hr0_2.AN sb) (hr0_3.AN sb) hn) 5 rfl rfl rfl rfl fun wb _ F sc => ?_
    cases H
    exact rt F ⟨rfl, sc.drop.drop.drop.drop.drop.drop.drop⟩
   cases H
   exact gw 8 F rfl fun _ F => rt F ⟨rfl, sb.drop.drop.drop.drop.drop.drop.drop⟩
  cases H
  exact gw 13 F rfl fun _ F => rt F ⟨rfl, sb.drop.drop.drop.drop.drop.drop.drop⟩
 cases H
 exact gw 18 F rfl fun _ F => rt F ⟨rfl, sb.drop.drop.drop.drop.drop.drop.drop⟩
end Go.Proofs.YtfcpkcehecmcpaaGreat
