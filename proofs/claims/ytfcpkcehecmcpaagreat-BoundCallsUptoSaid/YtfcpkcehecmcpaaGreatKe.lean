/- Lemmas, walks and laws that the row of this claim rests on, merged into few texts: part 5. -/
import Derived.Test.YtfcpkcehecmcpaaGreatKd
set_option linter.unusedVariables false
set_option linter.unusedSimpArgs false
namespace Go.Proofs.YtfcpkcehecmcpaaGreat
open Go Go.RowKit Go.Pv Go.Proofs.Tryz
open Go.Pv renaming bind_ok → Aa, Ug → Ab, Pq → Ae, Ut → Af, QY → Ag, XJ → Ah, Pw → Ai, WL → Aj, K7 → Ak, Uj → Al, Va → An, VG → Ap, Up → Aq, MP → Ar, OI → As, Vu → Au, Nw → Av, Nj → Aw, VI → Ax, Pe → Ay, LG → Az, U4 → Ba, Uu → Bc, QP → Bd, bool_split → Be, Vx → Bf, Pt → Bg, Om → Bh, TT → Bi, Pg → Bj, P4 → Bk
open Nat renaming le_of_ble_eq_true → Ac
open Bool renaming noConfusion → Ad
open Go.Pv.RV renaming blk → Am, tmp → Ao
open Go.Pv.QR renaming nil → Bb
theorem It {w : World} {a0 : UInt8} {r : Bool} (H : Gp a0 = some r) :
    Calls prog 210 #[jU (a0.toNat : Int)] w (B9 fun u_ w_ => u_ = .bool r ∧ SL w [] w_ []) := by
 have s0 : SL w [] w [] := SL.Bt w
 refine BD func210 ntmps210 10 rfl rfl rfl fun _ F => ?_
 unfold Gp at H
 refine BB 5 F H (fun h0 H F => ?_) (fun h0 H F => ?_)
 ·cases H
  exact gw 15 F rfl fun _ F => rt F ⟨rfl, s0⟩
 refine gw 4 F rfl fun _ F => BB 9 F H (fun h1 H F => ?_) (fun h1 H F => ?_)
 ·cases H
  exact gw 11 F rfl fun _ F => rt F ⟨rfl, s0⟩
 refine gw 4 F rfl fun _ F => BB 13 F H (fun h2 H F => ?_) (fun h2 H F => ?_)
 ·cases H
  exact gw 7 F rfl fun _ F => rt F ⟨rfl, s0⟩
 cases H
 exact gw 7 F rfl fun _ F => rt F ⟨rfl, s0⟩
theorem Tm {w : World} {FF : List Nat} {g1 g2 : Nat} {a0 : Int} {a1 : Int} {a2 : Bool} {r : Bool × Bool} (hst : B1 [A8 g1 3 [jI a1], A8 g2 4 [.bool a2]] w FF) (H : KJ a0 a1 a2 = some r) :
    Calls prog 219 #[jI a0, jP g1, jP g2] w (B9 fun u_ w_ => u_ = .bool r.1 ∧ SL w FF w_ [A8 g1 3 [jI a1], A8 g2 4 [.bool r.2]]) := by
 have s0 : SL w FF w [A8 g1 3 [jI a1], A8 g2 4 [.bool a2]] := SL.init w FF hst
 refine BD func219 ntmps219 8 rfl rfl rfl fun _ F => ?_
 unfold KJ at H
 refine AG F s0 m0 1 rfl fun _ F => Ay F s0.f1 rfl rfl NZ rfl rfl rfl fun w0 _ F s1 => gw 4 F rfl fun _ F => ?_
 cases H
 exact AG F s1 m0 5 rfl fun _ F => rt F ⟨rfl, s1.f1⟩
theorem OX {w : World} {FF : List Nat} {g0 g1 : Nat} {v0 : Value} {a0 : List A6} {a1 : Int} {a300 : Int} {a301 : Bool} {r : Bool} (hst : B1 [A8 g0 3 [jI a300], A8 g1 4 [.bool a301]] w FF) (hr0 : Rd AB w FF v0 a0) (H : HH a0 a1 a300 a301 = some r) :
    Calls prog 99 #[v0, jI a1, clo 219 [jP g0, jP g1]] w (B9 fun u_ w_ => u_ = .tuple ⟨[]⟩ ∧ SL w FF w_ [A8 g0 3 [jI a300], A8 g1 4 [.bool r]]) := by
 have s0 : SL w FF w [A8 g0 3 [jI a300], A8 g1 4 [.bool a301]] := SL.init w FF hst
 refine BD func99 ntmps99 0 rfl rfl rfl fun _ F0 => ?_
 unfold HH at H
 obtain ⟨o0, H0, R0⟩ := Aa H
 clear H
 refine BA (fun a w_ => ∃ p0 : Bool, o0 = .inr (p0) ∧ Fr a 29 [] ∧ SL w FF w_ [A8 g0 3 [jI a300], A8 g1 4 [.bool p0]]) ?_ ?_
 ·have H := H0
  refine gc 1 F0 rfl fun _ F0 => Cy (Dv a0 a300) (fun s1 a w_ => Fr a 29 [(0, v0), (1, jI s1.2), (2, clo 219 [jP g0, jP g1])] ∧ SL w FF w_ [A8 g0 3 [jI a300], A8 g1 4 [.bool s1.1]]) H ?_ ?_
  ·exact ⟨F0.sb, s0⟩
  intro s1 _ w0 h0 o1 H hr
  obtain ⟨F, s2⟩ := h0
  replace H : Dv a0 a300 s1 = some o1 := H
  unfold Dv at H
  refine gc 6 F rfl fun _ F => BB 9 F H (fun h1 H F => ?_) (fun h1 H F => ?_)
  ·refine gw 2 F rfl fun _ F => AK F rfl rfl <| gx F (Ah rfl underlying22 (fR hr0 s2)) 3 rfl rfl fun _ F => BB 15 F H (fun h2 H F => ?_) (fun h2 H F => ?_)
   ·obtain ⟨x0, h3, H⟩ := Aa H
    refine gw 2 F rfl fun _ F => AK F rfl rfl ?_
    obtain ⟨G0, h4, h5, h6, h7⟩ := SL.open_ (ps := [A8 g0 3 [jI a300], A8 g1 4 [.bool s1.1]]) (rest := []) s2.f1.f1
    refine Hb (args := [.tmp 17]) F Ae3 rfl rfl (Tm (a0 := s1.2) (a1 := a300) (a2 := s1.1) h4 h3) rfl fun v1 w1 _ h8 F => ?_
    obtain ⟨rfl, h9⟩ := h8
    have s3 := h7 _ _ h9
    refine gw 3 F rfl fun _ F => AH F H 5 4 rfl rfl rfl (fun ha H _ F => ?_) (fun ha H _ F => ?_)
    ·obtain ⟨x1, hb, H⟩ := Aa H
     obtain ⟨a3, c0, G1, hc, hd, he, hf⟩ := Rd.idx hr0 D5 rfl hb
     obtain ⟨v2, rfl, hg⟩ := (C7 he hf)
     replace hd := hd _ _ s3
     refine gw 2 F rfl fun _ F => gi F hc 0 rfl fun _ F => gx F (Ba HF rfl) 0 rfl rfl fun _ F => gx F (An BE rfl (Bn.at_ hd (o := 1) rfl)) 11 rfl rfl fun _ F => AH F H 6 7 rfl rfl rfl (fun hh H _ F => ?_) (fun hh H _ F => ?_)
     ·cases H
      obtain rfl := hr _ rfl
      replace H := R0
      try dsimp only at H
      cases H
      exact rt F ⟨rfl, s3⟩
     cases H
     exact ⟨_, rfl, F.sb, s3⟩
    cases H
    obtain rfl := hr _ rfl
    exact ⟨_, rfl, F.sb, s3⟩
   cases H
   obtain rfl := hr _ rfl
   exact gw 11 F rfl fun _ F => ⟨_, rfl, F.sb, s2⟩
  cases H
  obtain rfl := hr _ rfl
  exact gw 17 F rfl fun _ F => ⟨_, rfl, F.sb, s2⟩
 intro _ w2 hJ
 obtain ⟨p0, rfl, F, s4⟩ := hJ
 have H := R0
 clear R0 H0
 try dsimp only at H
 cases H
 exact Tg F (by rfl) ⟨_, rfl, ⟨rfl, s4⟩⟩
theorem Rb {w : World} {v0 : Value} {a0 : List A6} {a1 : Int} {a2 : Int} {r : Bool} (hr0 : Rd AB w [] v0 a0) (H : K5 a0 a1 a2 = some r) :
    Calls prog 213 #[v0, jI a1, jI a2] w (B9 fun u_ w_ => u_ = .bool r ∧ SL w [] w_ []) := by
 have s0 : SL w [] w [] := SL.Bt w
 refine BD func213 ntmps213 2 rfl rfl rfl fun _ F0 => ?_
 unfold K5 at H
 refine Ar F0 s0 rfl rfl rfl fun g8 w9 _ F s1 => gw 5 F rfl fun _ F => Af F s1 Cu rfl rfl fun g0 w0 _ F s2 => Ay F s2 rfl rfl NZ rfl rfl rfl fun w1 _ F s3 => ?_
 obtain ⟨x0, h0, H⟩ := Aa H
 refine gw 6 F rfl fun _ F => gx F (Gc (cs := [.tmp 5, .tmp 7]) (vs := [jP g8, jP g0]) rfl) 0 rfl rfl fun _ F => ?_
 obtain ⟨G0, h1, h2, h3, h4⟩ := SL.open_ (ps := [A8 g8 3 [jI a2], A8 g0 4 [.bool false]]) (rest := []) s3.f1
 refine Df F (OX (a300 := a2) (a301 := false) h1 (hr0.pass s3.f1 h2) h0) fun v1 w2 _ h5 F => ?_
 obtain ⟨rfl, h6⟩ := h5
 have s4 := h4 _ _ h6
 refine gw 4 F rfl fun _ F => ?_
 cases H
 exact AG F s4 m1 4 rfl fun _ F => rt F ⟨rfl, s4.drop.drop⟩
theorem PE {w : World} {v0 : Value} {a0 : List A6} {a1 : UInt8} {a2 : UInt8} {r : Bool} (hr0 : Rd AB w [] v0 a0) (H : KW a0 a1 a2 = some r) :
    Calls prog 211 #[v0, jU (a1.toNat : Int), jU (a2.toNat : Int)] w (B9 fun u_ w_ => u_ = .bool r ∧ SL w [] w_ []) := by
 have s0 : SL w [] w [] := SL.Bt w
 refine BD func211 ntmps211 10 rfl rfl rfl fun _ F => ?_
 unfold KW at H
 obtain ⟨x0, h0, H⟩ := Aa H
 refine B5 F s0 (Ho (hr0.AN s0) h0) 2 rfl rfl rfl rfl fun w0 _ F s1 => BB 13 F H (fun h1 H F => ?_) (fun h1 H F => ?_)
 ·cases H
  exact gw 15 F rfl fun _ F => rt F ⟨rfl, s1⟩
 obtain ⟨x1, h2, H⟩ := Aa H
 refine gw 2 F rfl fun _ F => AK F rfl rfl <| B5 F s1 (Ho (hr0.AN s1) h2) 4 rfl rfl rfl rfl fun w1 _ F s2 => AH F H 7 10 rfl rfl rfl (fun h3 H _ F => ?_) (fun h3 H _ F => ?_)
 ·cases H
  exact rt F ⟨rfl, s2⟩
 refine BB 23 F H (fun h4 H F => ?_) (fun h4 H F => ?_)
 ·cases H
  exact gw 15 F rfl fun _ F => rt F ⟨rfl, s2⟩
 refine gw 6 F rfl fun _ F => AH F H 8 5 rfl rfl rfl (fun h5 H _ F => ?_) (fun h5 H _ F => ?_)
 ·cases H
  exact rt F ⟨rfl, s2⟩
 refine BB 30 F H (fun h6 H F => ?_) (fun h6 H F => ?_)
 ·obtain ⟨x2, h7, H⟩ := Aa H
  refine gw 10 F rfl fun _ F => B5 F s2 (It h7) 1 rfl rfl rfl rfl fun w2 _ F s3 => BB 36 F H (fun h8 H F => ?_) (fun h8 H F => ?_)
  ·obtain ⟨x3, h9, H⟩ := Aa H
   refine gw 1 F rfl fun _ F => AK F rfl rfl <| B5 F s3 (It h9) 7 rfl rfl rfl rfl fun w3 _ F s4 => ?_
   cases H
   exact rt F ⟨rfl, s4⟩
  cases H
  exact gw 9 F rfl fun _ F => rt F ⟨rfl, s3⟩
 refine gw 6 F rfl fun _ F => AH F H 3 7 rfl rfl rfl (fun ha H _ F => ?_) (fun ha H _ F => ?_)
 ·obtain ⟨x4, hb, H⟩ := Aa H
  refine B5 F s2 (It hb) 1 rfl rfl rfl rfl fun w4 _ F s5 => BB 36 F H (fun hc H F => ?_) (fun hc H F => ?_)
  ·obtain ⟨x5, hd, H⟩ := Aa H
   refine gw 1 F rfl fun _ F => AK F rfl rfl <| B5 F s5 (It hd) 7 rfl rfl rfl rfl fun w5 _ F s6 => ?_
   cases H
   exact rt F ⟨rfl, s6⟩
  cases H
  exact gw 9 F rfl fun _ F => rt F ⟨rfl, s5⟩
 obtain ⟨x6, he, H⟩ := Aa H
 refine B5 F s2 (Hl (hr0.AN s2) he) 2 rfl rfl rfl rfl fun w6 _ F s7 => ?_
 obtain ⟨x7, hf, H⟩ := Aa H
 refine B5 F s7 (Hl (hr0.AN s7) hf) 9 rfl rfl rfl rfl fun w7 _ F s8 => BB 48 F H (fun hg H F => ?_) (fun hg H F => ?_)
 ·refine gw 4 F rfl fun _ F => BB 52 F H (fun hh H F => ?_) (fun hh H F => ?_)
  ·obtain ⟨x8, hi, H⟩ := Aa H
   refine gw 3 F rfl fun _ F => AK F rfl rfl <| B5 F s8 (Rb (hr0.AN s8) hi) 5 rfl rfl rfl rfl fun w8 _ F s9 => ?_
   cases H
   exact rt F ⟨rfl, s9⟩
  cases H
  exact gw 9 F rfl fun _ F => rt F ⟨rfl, s8⟩
 cases H
 exact gw 13 F rfl fun _ F => rt F ⟨rfl, s8⟩
theorem Yf {w : World} {v0 : Value} {a0 : List A6} {a1 : A5} {a2 : UInt8} {a3 : UInt8} {r : Bool} (hr0 : Rd AB w [] v0 a0) (H : NJ a0 a1 a2 a3 = some r) :
    Calls prog 187 #[v0, .agg ⟨[jI a1.kind, jU (a1.t.toNat : Int)]⟩, jU (a2.toNat : Int), jU (a3.toNat : Int)] w (B9 fun u_ w_ => u_ = .bool r ∧ SL w [] w_ []) := by
 have s0 : SL w [] w [] := SL.Bt w
 refine BD func187 ntmps187 2 rfl rfl rfl fun _ F0 => ?_
 unfold NJ at H
 refine Ar F0 s0 rfl rfl rfl fun g8 w9 _ F s1 => gw 7 F rfl fun _ F => AG F s1 m0 9 rfl fun _ F => AH F H 10 6 rfl rfl rfl (fun h0 H _ F => ?_) (fun h0 H _ F => ?_)
 ·cases H
  exact rt F ⟨rfl, s1.drop⟩
 refine AH F H 3 6 rfl rfl rfl (fun h1 H _ F => ?_) (fun h1 H _ F => ?_)
 ·obtain ⟨x0, h2, H⟩ := Aa H
  refine B5 F s1 (It h2) 6 rfl rfl rfl rfl fun w0 _ F s2 => ?_
  cases H
  exact rt F ⟨rfl, s2.drop⟩
 refine AH F H 6 6 rfl rfl rfl (fun h3 H _ F => ?_) (fun h3 H _ F => ?_)
 ·refine BB 24 F H (fun h4 H F => ?_) (fun h4 H F => ?_)
  ·refine gw 3 F rfl fun _ F => BB 27 F H (fun h5 H F => ?_) (fun h5 H F => ?_)
   ·cases H
    exact gw 10 F rfl fun _ F => rt F ⟨rfl, s1.drop⟩
   cases H
   exact gw 10 F rfl fun _ F => rt F ⟨rfl, s1.drop⟩
  cases H
  exact gw 13 F rfl fun _ F => rt F ⟨rfl, s1.drop⟩
 refine AH F H 5 9 rfl rfl rfl (fun h6 H _ F => ?_) (fun h6 H _ F => ?_)
 ·obtain ⟨x1, h7, H⟩ := Aa H
  refine AG F s1 m0 0 rfl fun _ F => B5 F s1 (PE (hr0.AN s1) h7) 6 rfl rfl rfl rfl fun w1 _ F s3 => ?_
  cases H
  exact rt F ⟨rfl, s3.drop⟩
 cases H
 exact rt F ⟨rfl, s1.drop⟩
theorem WQ {w : World} {v0 v2 : Value} {a0 : List A6} {a1 : A4} {a2 : List A5} {r : (List UInt8) × Int} (hr0 : Rd AB w [] v0 a0) (hr2 : Rd AD w [] v2 a2) (H : LD a0 a1 a2 = some r) :
    Calls prog 162 #[v0, .agg ⟨(jI a1.Locals :: jI a1.Height :: AU a1.Slots)⟩, v2] w (B9 fun u_ w_ => ∃ u0 : Value, u_ = .tuple ⟨[u0, jI r.2]⟩ ∧ SL w [] w_ [Sl Ty.u8 u0 r.1]) := by
 have s0 : SL w [] w [] := SL.Bt w
 refine BD func162 ntmps162 2 rfl rfl rfl fun _ F0 => ?_
 unfold LD at H
 refine Ar F0 s0 rfl rfl rfl fun g8 w9 _ F s1 => gw 8 F rfl fun _ F => AG F s1 m0 1 rfl fun _ F => gx F (Ah rfl underlying224 (fR hr2 s1)) 3 rfl rfl fun _ F => AH F H 8 11 rfl rfl rfl (fun h0 H _ F => ?_) (fun h0 H _ F => ?_)
 ·cases H
  exact rt F ⟨(.slice none 0 0), rfl, (SL.BI (T := Ty.u8) s1).f1.drop⟩
 obtain ⟨o0, H0, R0⟩ := Aa H
 clear H
 refine gx F (Ah rfl underlying224 (fR hr2 s1)) 3 rfl rfl fun _ F => BA (fun a w_ => ∃ v1 : Value, Fr a 59 [(0, v0), (2, v2), (8, v1)] ∧ SL w [] w_ [Sl Ty.u8 v1 o0]) ?_ ?_
 ·have H := H0
  refine gc 1 F rfl fun _ F => Cy (Im a1 a2) (fun s2 a w_ => ∃ v3 : Value, Fr a 59 [(0, v0), (2, v2), (4, jP g8), (8, v3), (20, jI (a2.length : Int)), (21, jI s2.2)] ∧ SL w [] w_ [A8 g8 118 (jI a1.Locals :: jI a1.Height :: AU a1.Slots), Sl Ty.u8 v3 s2.1]) H ?_ ?_
  ·exact ⟨(.slice none 0 0), F.sb, (SL.BI (T := Ty.u8) s1).f1⟩
  intro s2 _ w0 h1 o1 H hr
  obtain ⟨v3, F, s3⟩ := h1
  replace H : Im a1 a2 s2 = some o1 := H
  unfold Im at H
  refine gc 6 F rfl fun _ F => AH F H 12 4 rfl rfl rfl (fun h2 H _ F => ?_) (fun h2 H _ F => ?_)
  ·obtain ⟨x0, h3, H⟩ := Aa H
   refine D3 F s3 m0 1 rfl fun _ F => gx F (Ah rfl underlying224 (fR hr2 s3)) 3 rfl rfl fun _ F => B5 F s3 (RP h3) 10 rfl rfl rfl rfl fun w1 _ F s4 => ?_
   refine Ae (parts := [(0, .tmp 35)]) Flat.u8 ([x0.1] : List UInt8) F s4 Br rfl (by decide) rfl rfl rfl (by simp [Value.cells]) rfl rfl rfl fun v4 w2 _ F s5 => ?_
   obtain ⟨x1, h4, H⟩ := Aa H
   obtain ⟨_, hr_⟩ := (s5.f2.BK m1)
   refine Aw Flat.u8 F s5.f2 Br rfl rfl rfl rfl hr_ rfl rfl h4 rfl fun v5 w3 _ F s6 => ?_
   have s2557' := s6.f1.drop
   cases H
   exact gw 8 F rfl fun _ F => ⟨_, rfl, v5, F.sb, s2557'.f1⟩
  cases H
  obtain rfl := hr _ rfl
  exact ⟨v3, F.sb, s3.drop⟩
 intro _ w4 hJ
 obtain ⟨v1, F, s7⟩ := hJ
 have H := R0
 clear R0 H0
 refine ge 5 F rfl fun _ F => ?_
 obtain ⟨o2, H1, R1⟩ := Aa H
 clear H
 refine gx F (Ah rfl underlying47 (fO s7 m0)) 3 rfl rfl fun _ F => BA (fun a w_ => ∃ p0 : Unit, o2 = .inr (p0) ∧ Fr a 59 [(8, v1)] ∧ SL w [] w_ [Sl Ty.u8 v1 o0]) ?_ ?_
 ·have H := H1
  refine gc 1 F rfl fun _ F => Cy (Iq a0 a2 o0) (fun s8 a w_ => Fr a 59 [(0, v0), (2, v2), (8, v1), (39, v1), (40, jI (o0.length : Int)), (41, jI s8)] ∧ SL w [] w_ [Sl Ty.u8 v1 o0]) H ?_ ?_
  ·exact ⟨F.sb, s7⟩
  intro s8 _ w5 h5 o3 H hr
  obtain ⟨F, s9⟩ := h5
  replace H : Iq a0 a2 o0 s8 = some o3 := H
  unfold Iq at H
  refine gc 6 F rfl fun _ F => AH F H 7 4 rfl rfl rfl (fun h6 H _ F => ?_) (fun h6 H _ F => ?_)
  ·obtain ⟨x2, h7, H⟩ := Aa H
   obtain ⟨a4, h8, h9⟩ := Ax Flat.u8 s9 m0 Br rfl h7
   refine gi F h8 0 rfl fun _ F => ?_
   obtain ⟨x3, ha, H⟩ := Aa H
   obtain ⟨a5, hb, hc⟩ := FK BZ (fun _ hC => (Eb hr2 hC)) s9 Cv rfl ha
   obtain ⟨x4, hd, H⟩ := Aa H
   obtain ⟨a6, he, hf⟩ := FK Flat.u8 (fun _ hC => (hC.BK m0)) s9 Br rfl hd
   obtain ⟨x5, hg, H⟩ := Aa H
   refine gx F (An BF rfl (Bn.at_ (SL.C0 Flat.u8 s9 m0 h9 h7) (o := 0) rfl)) 5 rfl rfl fun _ F => HA Bq s9 F (QR.ev 3 rfl <| QR.ix hb rfl <| QR.qo (fun _ hC => Av VS rfl (hc _ hC) rfl) rfl <| QR.ev 2 rfl <| QR.ix he rfl <| QR.qo (fun _ hC => An BF rfl (Bn.at_ (hf _ hC) (o := 0) rfl)) rfl <| QR.call (args := [.tmp 46, .tmp 50, .tmp 51, .tmp 54]) Aeb rfl (fun _ hC => Bf (Yf (a0 := a0) (a1 := x3) (a2 := x2) (a3 := x4) (hr0.AN hC) hg) hC) <| QR.ev 1 rfl <| Bb) fun w6 _ sa F => ge 1 F rfl fun _ F => AH F H 13 7 rfl rfl rfl (fun hh H _ F => ?_) (fun hh H _ F => ?_)
   ·cases H
    obtain rfl := hr _ rfl
    replace H := R1
    try dsimp only at H
    cases H
    exact rt F ⟨(.slice none 0 0), rfl, (SL.BI (T := Ty.u8) sa).f1.drop⟩
   cases H
   exact ⟨_, rfl, F.sb, sa⟩
  cases H
  obtain rfl := hr _ rfl
  exact ⟨_, rfl, F.sb, s9⟩
 intro _ w7 hJ
 obtain ⟨p0, rfl, F, sc⟩ := hJ
 have H := R1
 clear R1 H1
 try dsimp only at H
 cases H
 exact ge 9 F rfl fun _ F => rt F ⟨v1, rfl, sc⟩
theorem Re {w : World} {a0 : A4} {a1 : Int} {r : UInt8 × Int} (H : J6 a0 a1 = some r) :
    Calls prog 163 #[.agg ⟨(jI a0.Locals :: jI a0.Height :: AU a0.Slots)⟩, jI a1] w (B9 fun u_ w_ => u_ = .tuple ⟨[jU (r.1.toNat : Int), jI r.2]⟩ ∧ SL w [] w_ []) := by
 have s0 : SL w [] w [] := SL.Bt w
 refine BD func163 ntmps163 2 rfl rfl rfl fun _ F0 => ?_
 unfold J6 at H
 refine Ar F0 s0 rfl rfl rfl fun g8 w9 _ F s1 => ?_
 obtain ⟨x0, h0, H⟩ := Aa H
 refine gw 8 F rfl fun _ F => D3 F s1 m0 0 rfl fun _ F => B5 F s1 (Jr h0) 4 rfl rfl rfl rfl fun w0 _ F s2 => AH F H 9 5 rfl rfl rfl (fun h1 H _ F => ?_) (fun h1 H _ F => ?_)
 ·cases H
  exact rt F ⟨rfl, s2.drop⟩
 refine BB 13 F H (fun h2 H F => ?_) (fun h2 H F => ?_)
 ·cases H
  exact gw 18 F rfl fun _ F => rt F ⟨rfl, s2.drop⟩
 refine gw 2 F rfl fun _ F => AK F rfl rfl <| AG F s2 m0 5 rfl fun _ F => AH F H 9 7 rfl rfl rfl (fun h3 H _ F => ?_) (fun h3 H _ F => ?_)
 ·cases H
  exact rt F ⟨rfl, s2.drop⟩
 obtain ⟨x1, h4, H⟩ := Aa H
 refine gx F (Ef Db h4 rfl rfl) 0 rfl rfl fun _ F => ?_
 cases H
 exact gx F (An BF rfl (SL.Iu (pre := [jI a0.Locals, jI a0.Height]) s2 m0 rfl h4)) 5 rfl rfl fun _ F => rt F ⟨rfl, s2.drop⟩
theorem X4 {w : World} {a0 : A4} {r : A4 × UInt8 × Int} (H : MQ a0 = some r) :
    Calls prog 188 #[.agg ⟨(jI a0.Locals :: jI a0.Height :: AU a0.Slots)⟩] w (B9 fun u_ w_ => u_ = .tuple ⟨[.agg ⟨(jI r.1.Locals :: jI r.1.Height :: AU r.1.Slots)⟩, jU (r.2.1.toNat : Int), jI r.2.2]⟩ ∧ SL w [] w_ []) := by
 have s0 : SL w [] w [] := SL.Bt w
 refine BD func188 ntmps188 2 rfl rfl rfl fun _ F0 => ?_
 unfold MQ at H
 refine Ar F0 s0 rfl rfl rfl fun g0 w0 _ F s1 => Af F s1 AO rfl rfl fun g1 w1 _ F s2 => ?_
 obtain ⟨x0, h0, H⟩ := Aa H
 refine gw 6 F rfl fun _ F => D3 F s2 m1 0 rfl fun _ F => B5 F s2 (RP h0) 14 rfl rfl rfl rfl fun w2 _ F s3 => AH F H 2 5 rfl rfl rfl (fun h1 H _ F => ?_) (fun h1 H _ F => ?_)
 ·refine gx F (Al (vs := []) AO Ch rfl (cs := jZ) (BG)) 1 rfl rfl fun _ F => ?_
  refine AP (ds := jZ) F s3 rfl rfl (by simpa using AX) (Ab rfl (Ab rfl (Bp _))) (by simp) fun w3 _ F s4 => ?_
  cases H
  refine gw 6 F rfl fun _ F => ?_
  refine Ak (rs := [.cell 2 118, .tmp 3, .tmp 4]) (vs := [.agg ⟨jZ⟩, jU 0, jI x0.2]) F (by rfl) ⟨_, _, rfl, Am s4 m0 rfl AZ (by simp), _, _, rfl, Ao rfl, _, _, rfl, Ao rfl, rfl⟩ ⟨_, rfl, ⟨rfl, s4.drop.drop⟩⟩
 refine AG F s3 m1 2 rfl fun _ F => Ay F s3.f1 rfl rfl IW rfl rfl rfl fun w4 _ F s5 => ?_
 obtain ⟨x1, h2, H⟩ := Aa H
 refine gw 4 F rfl fun _ F => D3 F s5 m0 0 rfl fun _ F => B5 F s5 (Mr h2) 1 rfl rfl rfl rfl fun w5 _ F s6 => ?_
 refine AP (ds := (jI x1.Locals :: jI x1.Height :: AU x1.Slots)) F s6.f1 rfl rfl (by simpa using AX) (Ab rfl (Ab rfl (Bp _))) (by simp) fun w6 _ F s7 => ?_
 cases H
 refine gw 5 F rfl fun _ F => ?_
 refine Ak (rs := [.cell 2 118, .tmp 3, .tmp 4]) (vs := [.agg ⟨(jI x1.Locals :: jI x1.Height :: AU x1.Slots)⟩, jU (x0.1.toNat : Int), jI 0]) F (by rfl) ⟨_, _, rfl, Am s7 m0 rfl AZ (by simp), _, _, rfl, Ao rfl, _, _, rfl, Ao rfl, rfl⟩ ⟨_, rfl, ⟨rfl, s7.drop.drop⟩⟩
theorem V7 {w : World} {a0 : A4} {a1 : Int} {a2 : UInt8} {r : A4 × Int} (H : KP a0 a1 a2 = some r) :
    Calls prog 189 #[.agg ⟨(jI a0.Locals :: jI a0.Height :: AU a0.Slots)⟩, jI a1, jU (a2.toNat : Int)] w (B9 fun u_ w_ => u_ = .tuple ⟨[.agg ⟨(jI r.1.Locals :: jI r.1.Height :: AU r.1.Slots)⟩, jI r.2]⟩ ∧ SL w [] w_ []) := by
 have s0 : SL w [] w [] := SL.Bt w
 refine BD func189 ntmps189 2 rfl rfl rfl fun _ F0 => ?_
 unfold KP at H
 refine Ar F0 s0 rfl rfl rfl fun g0 w0 _ F s1 => Af F s1 AO rfl rfl fun g1 w1 _ F s2 => ?_
 obtain ⟨x0, h0, H⟩ := Aa H
 refine gw 5 F rfl fun _ F => D3 F s2 m1 1 rfl fun _ F => B5 F s2 (Re h0) 14 rfl rfl rfl rfl fun w2 _ F s3 => AH F H 2 4 rfl rfl rfl (fun h1 H _ F => ?_) (fun h1 H _ F => ?_)
 ·refine gx F (Al (vs := []) AO Ch rfl (cs := jZ) (BG)) 1 rfl rfl fun _ F => ?_
  refine AP (ds := jZ) F s3 rfl rfl (by simpa using AX) (Ab rfl (Ab rfl (Bp _))) (by simp) fun w3 _ F s4 => ?_
  cases H
  refine gw 5 F rfl fun _ F => ?_
  refine Ak (rs := [.cell 6 118, .tmp 7]) (vs := [.agg ⟨jZ⟩, jI x0.2]) F (by rfl) ⟨_, _, rfl, Am s4 m0 rfl AZ (by simp), _, _, rfl, Ao rfl, rfl⟩ ⟨_, rfl, ⟨rfl, s4.drop.drop⟩⟩
 obtain ⟨x1, h2, H⟩ := Aa H
 refine D3 F s3 m1 0 rfl fun _ F => B5 F s3 (Mr h2) 0 rfl rfl rfl rfl fun w4 _ F s5 => ?_
 refine AP (ds := (jI x1.Locals :: jI x1.Height :: AU x1.Slots)) F s5.f1 rfl rfl (by simpa using AX) (Ab rfl (Ab rfl (Bp _))) (by simp) fun w5 _ F s6 => ?_
 obtain ⟨x2, h3, H⟩ := Aa H
 refine gw 7 F rfl fun _ F => gx F (Ef Db h3 rfl rfl) 0 rfl rfl fun _ F => Jo (y' := a2) (pre := [jI x1.Locals, jI x1.Height]) F s6 rfl h3 rfl rfl JL fun w6 _ F s7 => gw 4 F rfl fun _ F => D3 F s7 m0 0 rfl fun _ F => ?_
 refine AP (ds := (jI x1.Locals :: jI x1.Height :: AU (Ir x1.Slots a1 a2))) F s7.f1 rfl rfl (by simpa using AX) (Ab rfl (Ab rfl (Bp _))) (by simp) fun w7 _ F s8 => ?_
 cases H
 refine gw 4 F rfl fun _ F => ?_
 refine Ak (rs := [.cell 6 118, .tmp 7]) (vs := [.agg ⟨(jI x1.Locals :: jI x1.Height :: AU (Ir x1.Slots a1 a2))⟩, jI 0]) F (by rfl) ⟨_, _, rfl, Am s8 m0 rfl AZ (by simp), _, _, rfl, Ao rfl, rfl⟩ ⟨_, rfl, ⟨rfl, s8.drop.drop⟩⟩
theorem Wy {w : World} {a0 : A4} {a1 : UInt8} {r : A4 × Int} (H : Mb a0 a1 = some r) :
    Calls prog 190 #[.agg ⟨(jI a0.Locals :: jI a0.Height :: AU a0.Slots)⟩, jU (a1.toNat : Int)] w (B9 fun u_ w_ => u_ = .tuple ⟨[.agg ⟨(jI r.1.Locals :: jI r.1.Height :: AU r.1.Slots)⟩, jI r.2]⟩ ∧ SL w [] w_ []) := by
 have s0 : SL w [] w [] := SL.Bt w
 refine BD func190 ntmps190 2 rfl rfl rfl fun _ F0 => ?_
 unfold Mb at H
 refine Ar F0 s0 rfl rfl rfl fun g0 w0 _ F s1 => Af F s1 AO rfl rfl fun g1 w1 _ F s2 => ?_
 obtain ⟨x0, h0, H⟩ := Aa H
 refine gw 7 F rfl fun _ F => D3 F s2 m1 0 rfl fun _ F => B5 F s2 (Jr h0) 4 rfl rfl rfl rfl fun w2 _ F s3 => AH F H 2 3 rfl rfl rfl (fun h1 H _ F => ?_) (fun h1 H _ F => ?_)
 ·refine gx F (Al (vs := []) AO Ch rfl (cs := jZ) (BG)) 0 rfl rfl fun _ F => ?_
  refine AP (ds := jZ) F s3 rfl rfl (by simpa using AX) (Ab rfl (Ab rfl (Bp _))) (by simp) fun w3 _ F s4 => ?_
  cases H
  refine gw 6 F rfl fun _ F => ?_
  refine Ak (rs := [.cell 4 118, .tmp 5]) (vs := [.agg ⟨jZ⟩, jI 32]) F (by rfl) ⟨_, _, rfl, Am s4 m0 rfl AZ (by simp), _, _, rfl, Ao rfl, rfl⟩ ⟨_, rfl, ⟨rfl, s4.drop.drop⟩⟩
 refine AG F s3 m1 1 rfl fun _ F => AG F s3 m1 5 rfl fun _ F => AH F H 2 5 rfl rfl rfl (fun h2 H _ F => ?_) (fun h2 H _ F => ?_)
 ·refine gx F (Al (vs := []) AO Ch rfl (cs := jZ) (BG)) 0 rfl rfl fun _ F => ?_
  refine AP (ds := jZ) F s3 rfl rfl (by simpa using AX) (Ab rfl (Ab rfl (Bp _))) (by simp) fun w4 _ F s5 => ?_
  cases H
  refine gw 6 F rfl fun _ F => ?_
  refine Ak (rs := [.cell 4 118, .tmp 5]) (vs := [.agg ⟨jZ⟩, jI 31]) F (by rfl) ⟨_, _, rfl, Am s5 m0 rfl AZ (by simp), _, _, rfl, Ao rfl, rfl⟩ ⟨_, rfl, ⟨rfl, s5.drop.drop⟩⟩
 obtain ⟨x1, h3, H⟩ := Aa H
 refine D3 F s3 m1 0 rfl fun _ F => B5 F s3 (Mr h3) 0 rfl rfl rfl rfl fun w5 _ F s6 => ?_
 refine AP (ds := (jI x1.Locals :: jI x1.Height :: AU x1.Slots)) F s6.f1 rfl rfl (by simpa using AX) (Ab rfl (Ab rfl (Bp _))) (by simp) fun w6 _ F s7 => ?_
 obtain ⟨x2, h4, H⟩ := Aa H
 refine gw 5 F rfl fun _ F => AG F s7 m0 1 rfl fun _ F => AG F s7 m0 3 rfl fun _ F => gx F (Ef Db h4 rfl rfl) 0 rfl rfl fun _ F => Jo (y' := a1) (pre := [jI x1.Locals, jI x1.Height]) F s7 rfl h4 rfl rfl JL fun w7 _ F s8 => gw 5 F rfl fun _ F => AG F s8 m0 2 rfl fun _ F => Ay F s8 rfl rfl IW rfl rfl rfl fun w8 _ F s9 => gw 4 F rfl fun _ F => D3 F s9 m0 0 rfl fun _ F => ?_
 refine AP (ds := (jI x1.Locals :: jI (wr (x1.Height + 1)) :: AU (Ir x1.Slots (wr (x1.Locals + x1.Height)) a1))) F s9.f1 rfl rfl (by simpa using AX) (Ab rfl (Ab rfl (Bp _))) (by simp) fun w9 _ F sa => ?_
 cases H
 refine gw 4 F rfl fun _ F => ?_
 refine Ak (rs := [.cell 4 118, .tmp 5]) (vs := [.agg ⟨(jI x1.Locals :: jI (wr (x1.Height + 1)) :: AU (Ir x1.Slots (wr (x1.Locals + x1.Height)) a1))⟩, jI 0]) F (by rfl) ⟨_, _, rfl, Am sa m0 rfl AZ (by simp), _, _, rfl, Ao rfl, rfl⟩ ⟨_, rfl, ⟨rfl, sa.drop.drop⟩⟩
theorem Rj {w : World} {v2 v3 : Value} {a0 : A4} {a1 : A9} {a2 : List UInt8} {a3 : List UInt8} {r : A4 × Int} (hr2 : Rd Ty.u8 w [] v2 a2) (hr3 : Rd Ty.u8 w [] v3 a3) (H : I6 a0 a1 a2 a3 = some r) :
    Calls prog 164 #[.agg ⟨(jI a0.Locals :: jI a0.Height :: AU a0.Slots)⟩, .agg ⟨[jI a1.At, jU (a1.Op.toNat : Int), jI a1.A, jI a1.B]⟩, v2, v3] w (B9 fun u_ w_ => u_ = .tuple ⟨[.agg ⟨(jI r.1.Locals :: jI r.1.Height :: AU r.1.Slots)⟩, jI r.2]⟩ ∧ SL w [] w_ []) := by
 have s0 : SL w [] w [] := SL.Bt w
 refine BD func164 ntmps164 2 rfl rfl rfl fun _ F0 => ?_
 unfold I6 at H
 refine Ar F0 s0 rfl rfl rfl fun g0 w0 _ F s1 => Ar F s1 rfl rfl rfl fun g1 w1 _ F s2 => Af F s2 AO rfl rfl fun g32 w2 _ F s3 => gw 7 F rfl fun _ F => ?_
 obtain ⟨o0, H0, R0⟩ := Aa H
 clear H
 refine gx F (Ah rfl underlying47 (fR hr2 s3)) 3 rfl rfl fun _ F => BA (fun a w_ => Fr a 66 [(2, v2), (3, v3), (4, jP g0), (5, jP g1), (8, jP g32)] ∧ SL w [] w_ [A8 g32 118 jZ, A8 g1 79 [jI a1.At, jU (a1.Op.toNat : Int), jI a1.A, jI a1.B], A8 g0 118 (jI o0.1 :: jI o0.2.1 :: AU o0.2.2)]) ?_ ?_
 ·have H := H0
  refine gc 1 F rfl fun _ F => Cy (IE a2) (fun s4 a w_ => Fr a 66 [(2, v2), (3, v3), (4, jP g0), (5, jP g1), (8, jP g32), (15, jI (a2.length : Int)), (16, jI s4.2.2.2)] ∧ SL w [] w_ [A8 g32 118 jZ, A8 g1 79 [jI a1.At, jU (a1.Op.toNat : Int), jI a1.A, jI a1.B], A8 g0 118 (jI s4.1 :: jI s4.2.1 :: AU s4.2.2.1)]) H ?_ ?_
  ·exact ⟨F.sb, s3⟩
  intro s4 _ w3 h0 o1 H hr
  obtain ⟨F, s5⟩ := h0
  replace H : IE a2 s4 = some o1 := H
  unfold IE at H
  refine gc 6 F rfl fun _ F => AH F H 5 4 rfl rfl rfl (fun h1 H _ F => ?_) (fun h1 H _ F => ?_)
  ·obtain ⟨x0, h2, H⟩ := Aa H
   refine D3 F s5 m2 0 rfl fun _ F => B5 F s5 (X4 h2) 4 rfl rfl rfl rfl fun w4 _ F s6 => ?_
   refine AP (ds := (jI x0.1.Locals :: jI x0.1.Height :: AU x0.1.Slots)) F s6.f2 rfl rfl (by simpa using AX) (Ab rfl (Ab rfl (Bp _))) (by simp) fun w5 _ F s7 => ?_
   cases H
   exact gw 7 F rfl fun _ F => ⟨_, rfl, F.sb, s7.f2.f2⟩
  cases H
  obtain rfl := hr _ rfl
  exact ⟨F.sb, s5⟩
 intro _ w6 hJ
 obtain ⟨F, s8⟩ := hJ
 have H := R0
 clear R0 H0
 obtain ⟨o2, H1, R1⟩ := Aa H
 clear H
 refine ge 2 F rfl fun _ F => BA (fun a w_ => ∃ p0 : Unit, o2 = .inr (p0) ∧ Fr a 66 [(2, v2), (3, v3), (4, jP g0), (5, jP g1), (8, jP g32)] ∧ SL w [] w_ [A8 g32 118 jZ, A8 g1 79 [jI a1.At, jU (a1.Op.toNat : Int), jI a1.A, jI a1.B], A8 g0 118 (jI o0.1 :: jI o0.2.1 :: AU o0.2.2)]) ?_ ?_
 ·have H := H1
  refine gc 3 F rfl fun _ F => AG F s8 m1 2 rfl fun _ F => BB 28 F H (fun h3 H F => ?_) (fun h3 H F => ?_)
  ·refine gw 1 F rfl fun _ F => AK F rfl rfl <| AG F s8 m2 4 rfl fun _ F => AH F H 2 1 rfl rfl rfl (fun h4 H _ F => ?_) (fun h4 H _ F => ?_)
   ·refine gx F (Al (vs := []) AO Ch rfl (cs := jZ) (BG)) 0 rfl rfl fun _ F => ?_
    refine AP (ds := jZ) F s8 rfl rfl (by simpa using AX) (Ab rfl (Ab rfl (Bp _))) (by simp) fun w7 _ F s9 => ?_
    cases H
    replace H := R1
    try dsimp only at H
    cases H
    refine gw 6 F rfl fun _ F => ?_
    refine Ak (rs := [.cell 8 118, .tmp 9]) (vs := [.agg ⟨jZ⟩, jI 73]) F (by rfl) ⟨_, _, rfl, Am s9 m0 rfl AZ (by simp), _, _, rfl, Ao rfl, rfl⟩ ⟨_, rfl, ⟨rfl, s9.drop.drop.drop⟩⟩
   cases H
   exact ⟨_, rfl, F.sb, s8⟩
  cases H
  exact gw 8 F rfl fun _ F => ⟨_, rfl, F.sb, s8⟩
 intro _ w8 hJ
 obtain ⟨p0, rfl, F, sa⟩ := hJ
 have H := R1
 clear R1 H1
 try dsimp only at H
 obtain ⟨o3, H2, R2⟩ := Aa H
 clear H
 refine ge 2 F rfl fun _ F => BA (fun a w_ => Fr a 66 [(3, v3), (4, jP g0), (8, jP g32)] ∧ SL w [] w_ [A8 g0 118 (jI o3.1 :: jI o3.2.1 :: AU o3.2.2), A8 g32 118 jZ]) ?_ ?_
 ·have H := H2
  refine gc 3 F rfl fun _ F => AG F sa m1 3 rfl fun _ F => AH F H 0 1 rfl rfl rfl (fun h5 H _ F => ?_) (fun h5 H _ F => ?_)
  ·obtain ⟨x1, h6, H⟩ := Aa H
   obtain ⟨x2, h7, H⟩ := Aa H
   refine Cq Bq sa.f2.drop ?_
   obtain ⟨a4, h8, h9⟩ := FK Flat.u8 (fun _ hC => (Eb hr2 hC)) sa.drew.f2.drop Br rfl h6
   refine hq [1, 2, 3, 4, 5] F sa.drew.f2.drop (QI.ev 1 rfl <| QI.ld m1 rfl <| QI.ev 1 rfl <| QI.ix h8 rfl <| QI.op rfl (fun _ hC => An BF rfl (Bn.at_ (h9 _ hC) (o := 0) rfl)) rfl <| QI.nil) (by kernel_rfl) fun _ F => ?_
   refine ho 0 rfl (by kernel_rfl) ?_
   refine D3 F sa.drew m2 1 rfl fun _ F => ⟨sa.drew.f2.drop, ?_⟩
   refine ho 6 rfl (by kernel_rfl) ?_
   refine B5 F sa.drew (V7 h7) 1 rfl rfl rfl rfl fun w9 _ F sc => ⟨sc.f2.drop, ?_⟩
   refine hq [7, 8, 9] F sc.f2.drop (QI.ev 3 rfl <| QI.nil) (by kernel_rfl) fun _ F => ?_
   refine ho 10 rfl (by kernel_rfl) ?_
   refine AP (ds := (jI x2.1.Locals :: jI x2.1.Height :: AU x2.1.Slots)) F sc.f2 rfl rfl (by simpa using AX) (Ab rfl (Ab rfl (Bp _))) (by simp) fun wa _ F sd => ?_
   refine gw 1 F rfl fun _ F => ⟨sd.drop, ?_⟩
   refine CP (by kernel_rfl) ?_
   cases H
   exact ⟨F.sb, sd.f2.drop⟩
  cases H
  exact ⟨F.sb, sa.f1.drop.f1⟩
 intro _ wb hJ
 obtain ⟨F, se⟩ := hJ
 have H := R2
 clear R2 H2
 refine ge 5 F rfl fun _ F => ?_
 obtain ⟨o4, H3, R3⟩ := Aa H
 clear H
 refine gx F (Ah rfl underlying47 (fR hr3 se)) 3 rfl rfl fun _ F => BA (fun a w_ => ∃ p1 : Int × Int × (Vector UInt8 24), o4 = .inr (p1) ∧ Fr a 66 [(4, jP g0), (8, jP g32)] ∧ SL w [] w_ [A8 g0 118 (jI p1.1 :: jI p1.2.1 :: AU p1.2.2), A8 g32 118 jZ]) ?_ ?_
 ·have H := H3
  refine gc 1 F rfl fun _ F => Cy (GF a3) (fun sf a w_ => Fr a 66 [(4, jP g0), (8, jP g32), (47, v3), (48, jI (a3.length : Int)), (49, jI sf.2.2.2)] ∧ SL w [] w_ [A8 g0 118 (jI sf.1 :: jI sf.2.1 :: AU sf.2.2.1), A8 g32 118 jZ]) H ?_ ?_
  ·exact ⟨F.sb, se⟩
  intro sf _ wc ha o5 H hr
  obtain ⟨F, sg⟩ := ha
  replace H : GF a3 sf = some o5 := H
  unfold GF at H
  refine gc 6 F rfl fun _ F => AH F H 6 4 rfl rfl rfl (fun hb H _ F => ?_) (fun hb H _ F => ?_)
  ·obtain ⟨x3, hc, H⟩ := Aa H
   obtain ⟨a5, hd, he⟩ := HM Flat.u8 (Eb hr3 sg) Br rfl hc
   refine gi F hd 0 rfl fun _ F => ?_
   obtain ⟨x4, hf, H⟩ := Aa H
   refine gx F (An BF rfl (Bn.at_ he (o := 0) rfl)) 5 rfl rfl fun _ F => D3 F sg m0 1 rfl fun _ F => B5 F sg (Wy hf) 3 rfl rfl rfl rfl fun wd _ F sh => Af F sh AO rfl rfl fun g2 we _ F si => ?_
   refine AP (ds := (jI x4.1.Locals :: jI x4.1.Height :: AU x4.1.Slots)) F si rfl rfl (by simpa using AX) (Ab rfl (Ab rfl (Bp _))) (by simp) fun wf _ F sj => ?_
   refine gw 10 F rfl fun _ F => AH F H 2 3 rfl rfl rfl (fun hg H _ F => ?_) (fun hg H _ F => ?_)
   ·refine gx F (Al (vs := []) AO Ch rfl (cs := jZ) (BG)) 1 rfl rfl fun _ F => ?_
    refine AP (ds := jZ) F sj.f2 rfl rfl (by simpa using AX) (Ab rfl (Ab rfl (Bp _))) (by simp) fun wg _ F sk => ?_
    cases H
    obtain rfl := hr _ rfl
    replace H := R3
    try dsimp only at H
    cases H
    refine gw 11 F rfl fun _ F => ?_
    refine Ak (rs := [.cell 8 118, .tmp 9]) (vs := [.agg ⟨jZ⟩, jI x4.2]) F (by rfl) ⟨_, _, rfl, Am sk m0 rfl AZ (by simp), _, _, rfl, Ao rfl, rfl⟩ ⟨_, rfl, ⟨rfl, sk.drop.drop.drop⟩⟩
   refine D3 F sj m0 0 rfl fun _ F => ?_
   refine AP (ds := (jI x4.1.Locals :: jI x4.1.Height :: AU x4.1.Slots)) F sj.f1 rfl rfl (by simpa using AX) (Ab rfl (Ab rfl (Bp _))) (by simp) fun wh _ F sl => ?_
   cases H
   exact gw 7 F rfl fun _ F => ⟨_, rfl, F.sb, sl.f1.drop⟩
  cases H
  obtain rfl := hr _ rfl
  exact ⟨_, rfl, F.sb, sg⟩
 intro _ wi hJ
 obtain ⟨p1, rfl, F, sm⟩ := hJ
 have H := R3
 clear R3 H3
 try dsimp only at H
 refine ge 3 F rfl fun _ F => D3 F sm m0 0 rfl fun _ F => ?_
 refine AP (ds := (jI p1.1 :: jI p1.2.1 :: AU p1.2.2)) F sm.f1 rfl rfl (by simpa using AX) (Ab rfl (Ab rfl (Bp _))) (by simp) fun wj _ F sn => ?_
 cases H
 refine gw 4 F rfl fun _ F => ?_
 refine Ak (rs := [.cell 8 118, .tmp 9]) (vs := [.agg ⟨(jI p1.1 :: jI p1.2.1 :: AU p1.2.2)⟩, jI 0]) F (by rfl) ⟨_, _, rfl, Am sn m0 rfl AZ (by simp), _, _, rfl, Ao rfl, rfl⟩ ⟨_, rfl, ⟨rfl, sn.drop.drop⟩⟩
theorem VD {w : World} {v0 : Value} {a0 : List UInt8} {r : (List UInt8)} (hr0 : Rd Ty.u8 w [] v0 a0) (H : Se a0 = some r) :
    Calls prog 203 #[v0] w (B9 fun u_ w_ => ∃ u0 : Value, u_ = u0 ∧ SL w [] w_ [Sl Ty.u8 u0 r]) := by
 have s0 : SL w [] w [] := SL.Bt w
 refine BD func203 ntmps203 6 rfl rfl rfl fun _ F2 => ?_
 unfold Se at H
 obtain ⟨x0, h0, H⟩ := Aa H
 obtain ⟨x1, h1, H⟩ := Aa H
 refine Cq Bq s0 ?_
 obtain ⟨a1, h2, h3⟩ := FK Flat.u8 (fun _ hC => (Eb hr0 hC)) s0.drew Br rfl h0
 obtain ⟨a2, h4, h5⟩ := FK Flat.u8 (fun _ hC => (Eb hr0 hC)) s0.drew Br rfl h1
 refine hq [0, 1, 2, 3, 4, 5] F2 s0.drew (QI.ev 1 rfl <| QI.ix h2 rfl <| QI.op rfl (fun _ hC => An BF rfl (Bn.at_ (h3 _ hC) (o := 0) rfl)) rfl <| QI.ev 1 rfl <| QI.ix h4 rfl <| QI.op rfl (fun _ hC => An BF rfl (Bn.at_ (h5 _ hC) (o := 0) rfl)) rfl <| QI.nil) (by kernel_rfl) fun _ F => ?_
 refine ho 6 rfl (by kernel_rfl) ?_
 refine Ae (parts := [(0, .tmp 5), (1, .tmp 8)]) Flat.u8 ([x0, x1] : List UInt8) F s0.drew Br rfl (by decide) rfl rfl rfl (by simp [Value.cells]) rfl rfl rfl fun v1 w0 _ F s1 => ?_
 refine gw 1 F rfl fun _ F => ⟨s1.drop, ?_⟩
 refine hq [7] F s1.drop (QI.ev 1 rfl <| QI.nil) (by kernel_rfl) fun _ F => ?_
 refine CP (by kernel_rfl) ?_
 cases H
 exact ge 2 F rfl fun _ F => rt F ⟨v1, rfl, s1⟩
theorem Vi {w : World} {v0 : Value} {a0 : List UInt8} {r : (List UInt8)} (hr0 : Rd Ty.u8 w [] v0 a0) (H : SE a0 = some r) :
    Calls prog 204 #[v0] w (B9 fun u_ w_ => ∃ u0 : Value, u_ = u0 ∧ SL w [] w_ [Sl Ty.u8 u0 r]) := by
 have s0 : SL w [] w [] := SL.Bt w
 refine BD func204 ntmps204 6 rfl rfl rfl fun _ F2 => ?_
 unfold SE at H
 obtain ⟨x0, h0, H⟩ := Aa H
 obtain ⟨x1, h1, H⟩ := Aa H
 refine Cq Bq s0 ?_
 obtain ⟨a1, h2, h3⟩ := FK Flat.u8 (fun _ hC => (Eb hr0 hC)) s0.drew Br rfl h0
 obtain ⟨a2, h4, h5⟩ := FK Flat.u8 (fun _ hC => (Eb hr0 hC)) s0.drew Br rfl h1
 refine hq [0, 1, 2, 3, 4, 5] F2 s0.drew (QI.ev 1 rfl <| QI.ix h2 rfl <| QI.op rfl (fun _ hC => An BF rfl (Bn.at_ (h3 _ hC) (o := 0) rfl)) rfl <| QI.ev 1 rfl <| QI.ix h4 rfl <| QI.op rfl (fun _ hC => An BF rfl (Bn.at_ (h5 _ hC) (o := 0) rfl)) rfl <| QI.nil) (by kernel_rfl) fun _ F => ?_
 refine ho 6 rfl (by kernel_rfl) ?_
 refine Ae (parts := [(0, .tmp 5), (1, .tmp 8)]) Flat.u8 ([x0, x1] : List UInt8) F s0.drew Br rfl (by decide) rfl rfl rfl (by simp [Value.cells]) rfl rfl rfl fun v1 w0 _ F s1 => ?_
 refine gw 1 F rfl fun _ F => ⟨s1.drop, ?_⟩
 refine hq [7] F s1.drop (QI.ev 1 rfl <| QI.nil) (by kernel_rfl) fun _ F => ?_
 refine CP (by kernel_rfl) ?_
 cases H
 exact ge 2 F rfl fun _ F => rt F ⟨v1, rfl, s1⟩
theorem Ahu {w : World} {FF : List Nat} {v u : Value} {x : Gv} {l r : List UInt8} (hst : B1 [JK 214 203 204 47 v x] w FF) (hr : Rd Ty.u8 w FF u l) (H : Gv.run x l = some r) :
    ∃ f caps, v = clo f caps ∧ EM prog f = true ∧ Calls prog f ([u] ++ caps).toArray w (B9 fun u_ w_ => SL w FF w_ [Sl Ty.u8 u_ r]) := by
  cases x with
  | const l' =>
    obtain ⟨qs, ⟨g, u1, rfl, rfl⟩, hs⟩ := Lf hst
    cases H
    refine ⟨214, [jP g], rfl, Acz, ?_⟩
    have s0 : SL w FF w [A8 g 47 [u1], Sl Ty.u8 u1 r] := SL.init w FF hs
    refine Kw func214 rfl ntmps214 (Nat.le_of_ble_eq_true rfl) (args := [u, jP g]) fun q0 F0 => ?_
    refine wp_seq ?_
    refine GL ?_
    refine HG F0 (PR.op (Iy rfl) <| PR.nil) fun q1 F1 => ?_
    refine Gq ?_
    refine Gn ?_
    refine wp_seq ?_
    refine GL ?_
    refine HG F1 (PR.op (Va M1 rfl (s0.FN (.head _) rfl)) <| PR.op (Iy rfl) <| PR.nil) fun q2 F2 => ?_
    refine Gq ?_
    refine Gn ?_
    refine wp_ret ?_
    exact K7 (rs := [.tmp 3]) (vs := [u1]) F2 (by rfl) ⟨_, _, rfl, RV.tmp rfl, rfl⟩ ⟨_, rfl, s0.drop⟩
  | dup =>
    obtain ⟨qs, ⟨rfl, rfl⟩, hs⟩ := Lf hst
    have hF : FF = [] := hs
    subst hF
    exact ⟨203, [], rfl, Amc, (VD hr H).mono fun _ _ ⟨v_, h1, h2⟩ => by
      obtain ⟨u0, rfl, h3⟩ := h2
      exact ⟨_, h1, h3⟩⟩
  | swap =>
    obtain ⟨qs, ⟨rfl, rfl⟩, hs⟩ := Lf hst
    have hF : FF = [] := hs
    subst hF
    exact ⟨204, [], rfl, Ade, (Vi hr H).mono fun _ _ ⟨v_, h1, h2⟩ => by
      obtain ⟨u0, rfl, h3⟩ := h2
      exact ⟨_, h1, h3⟩⟩
  | nil => cases H
theorem Rw {w : World} {v0_0 v0_1 : Value} {a0 : AA} {a1 : A4} {a2 : A9} {r : A4 × Int} (hr0_0 : Rd AB w [] v0_0 a0.Classes) (hr0_1 : Rd B8 w [] v0_1 a0.AQ) (H : MW a0 a1 a2 = some r) :
    Calls prog 134 #[.agg ⟨[v0_0, v0_1, jI a0.Fn]⟩, .agg ⟨(jI a1.Locals :: jI a1.Height :: AU a1.Slots)⟩, .agg ⟨[jI a2.At, jU (a2.Op.toNat : Int), jI a2.A, jI a2.B]⟩] w (B9 fun u_ w_ => u_ = .tuple ⟨[.agg ⟨(jI r.1.Locals :: jI r.1.Height :: AU r.1.Slots)⟩, jI r.2]⟩ ∧ SL w [] w_ []) := by
 have s0 : SL w [] w [] := SL.Bt w
 refine BD func134 ntmps134 2 rfl rfl rfl fun _ F0 => ?_
 unfold MW at H
 refine Ar F0 s0 rfl rfl rfl fun g0 w0 _ F s1 => Ar F s1 rfl rfl rfl fun g32 w1 _ F s2 => Ar F s2 rfl rfl rfl fun g1 w2 _ F s3 => Af F s3 AO rfl rfl fun g2 w3 _ F s4 => ?_
 obtain ⟨x0, h0, H⟩ := Aa H
 refine gw 6 F rfl fun _ F => AG F s4 m3 0 rfl fun _ F => B5 F s4 (Rn (a0 := (⟨a0.Classes, a0.AQ, a0.Fn⟩ : AA)) (hr0_0.AN s4) (hr0_1.AN s4) h0) 3 rfl rfl rfl rfl fun w4 _ F s5 => AH F H 2 5 rfl rfl rfl (fun h1 H _ F => ?_) (fun h1 H _ F => ?_)
 ·refine gx F (Al (vs := []) AO Ch rfl (cs := jZ) (BG)) 0 rfl rfl fun _ F => ?_
  refine AP (ds := jZ) F s5 rfl rfl (by simpa using AX) (Ab rfl (Ab rfl (Bp _))) (by simp) fun w5 _ F s6 => ?_
  cases H
  refine gw 5 F rfl fun _ F => ?_
  refine Ak (rs := [.cell 6 118, .tmp 7]) (vs := [.agg ⟨jZ⟩, jI 1]) F (by rfl) ⟨_, _, rfl, Am s6 m0 rfl AZ (by simp), _, _, rfl, Ao rfl, rfl⟩ ⟨_, rfl, ⟨rfl, s6.drop.drop.drop.drop⟩⟩
 obtain ⟨x1, h2, H⟩ := Aa H
 refine AG F s5 m3 0 rfl fun _ F => D3 F s5 m2 0 rfl fun _ F => B5 F s5 (Nz (hr0_0.AN s5) h2) 10 rfl rfl rfl rfl fun w6 _ F s7 => AH F H 2 4 rfl rfl rfl (fun h3 H _ F => ?_) (fun h3 H _ F => ?_)
 ·refine gx F (Al (vs := []) AO Ch rfl (cs := jZ) (BG)) 1 rfl rfl fun _ F => ?_
  refine AP (ds := jZ) F s7 rfl rfl (by simpa using AX) (Ab rfl (Ab rfl (Bp _))) (by simp) fun w7 _ F s8 => ?_
  cases H
  refine gw 5 F rfl fun _ F => ?_
  refine Ak (rs := [.cell 6 118, .tmp 7]) (vs := [.agg ⟨jZ⟩, jI x1]) F (by rfl) ⟨_, _, rfl, Am s8 m0 rfl AZ (by simp), _, _, rfl, Ao rfl, rfl⟩ ⟨_, rfl, ⟨rfl, s8.drop.drop.drop.drop⟩⟩
 obtain ⟨x2, h4, H⟩ := Aa H
 refine AG F s7 m3 0 rfl fun _ F => AG F s7 m1 0 rfl fun _ F => Df F (Yu (a0 := (⟨a0.Classes, a0.AQ, a0.Fn⟩ : AA)) (hr0_0.AN s7) (hr0_1.AN s7) h4) fun v0 w8 _ h5 F => ?_
 obtain ⟨v1, v2, rfl, h6⟩ := h5
 have s9 := s7.add h6
 refine gw 3 F rfl fun _ F => Af F s9 CC rfl rfl fun g3 w9 _ F sa => Ai F sa rfl rfl EL (Ab (Aq (fO sa m1)) (Ab (sa.Gm m2).2 Ap)) (Ac rfl) fun wa _ F sc => ?_
 obtain ⟨o0, H0, R0⟩ := Aa H
 clear H
 refine gw 4 F rfl fun _ F => BA (fun a w_ => Fr a 101 [(3, jP g0), (4, jP g32), (5, jP g1), (6, jP g2), (8, jI x2.2), (9, jP g3), (10, .bool o0)] ∧ SL w [] w_ [A8 g3 226 [v1, v2], Sl AD v1 x2.1.takes, JK 214 203 204 47 v2 x2.1.gives, A8 g2 118 jZ, A8 g1 79 [jI a2.At, jU (a2.Op.toNat : Int), jI a2.A, jI a2.B], A8 g32 118 (jI a1.Locals :: jI a1.Height :: AU a1.Slots), A8 g0 110 [v0_0, v0_1, jI a0.Fn]]) ?_ ?_
 ·have H := H0
  refine gc 2 F rfl fun _ F => AG F sc m4 2 rfl fun _ F => BB 36 F H (fun h7 H F => ?_) (fun h7 H F => ?_)
  ·cases H
   exact gw 6 F rfl fun _ F => ⟨F.sb, sc⟩
  refine gw 1 F rfl fun _ F => AK F rfl rfl ?_
  cases H
  exact AG F sc m4 4 rfl fun _ F => ⟨F.sb, sc⟩
 intro _ wb hJ
 obtain ⟨F, sd⟩ := hJ
 have H := R0
 clear R0 H0
 obtain ⟨o1, H1, R1⟩ := Aa H
 clear H
 refine ge 2 F rfl fun _ F => BA (fun a w_ => Fr a 101 [(3, jP g0), (4, jP g32), (5, jP g1), (6, jP g2), (8, jI o1), (9, jP g3)] ∧ SL w [] w_ [A8 g3 226 [v1, v2], Sl AD v1 x2.1.takes, JK 214 203 204 47 v2 x2.1.gives, A8 g2 118 jZ, A8 g1 79 [jI a2.At, jU (a2.Op.toNat : Int), jI a2.A, jI a2.B], A8 g32 118 (jI a1.Locals :: jI a1.Height :: AU a1.Slots), A8 g0 110 [v0_0, v0_1, jI a0.Fn]]) ?_ ?_
 ·have H := H1
  refine gc 5 F rfl fun _ F => BB 43 F H (fun h8 H F => ?_) (fun h8 H F => ?_)
  ·refine gw 3 F rfl fun _ F => BB 46 F H (fun h9 H F => ?_) (fun h9 H F => ?_)
   ·refine gw 1 F rfl fun _ F => AK F rfl rfl <| AG F sd m4 2 rfl fun _ F => BB 50 F H (fun ha H F => ?_) (fun ha H F => ?_)
    ·cases H
     exact gw 13 F rfl fun _ F => ⟨F.sb, sd⟩
    refine gw 1 F rfl fun _ F => AK F rfl rfl <| AG F sd m4 1 rfl fun _ F => AK F rfl rfl <| AG F sd m5 5 rfl fun _ F => AH F H 3 1 rfl rfl rfl (fun hb H _ F => ?_) (fun hb H _ F => ?_)
    ·cases H
     exact ⟨F.sb, sd⟩
    cases H
    exact ⟨F.sb, sd⟩
   cases H
   exact gw 15 F rfl fun _ F => ⟨F.sb, sd⟩
  cases H
  exact gw 18 F rfl fun _ F => ⟨F.sb, sd⟩
 intro _ wc hJ
 obtain ⟨F, se⟩ := hJ
 have H := R1
 clear R1 H1
 refine ge 8 F rfl fun _ F => AH F H 2 5 rfl rfl rfl (fun hc H _ F => ?_) (fun hc H _ F => ?_)
 ·refine gx F (Al (vs := []) AO Ch rfl (cs := jZ) (BG)) 1 rfl rfl fun _ F => ?_
  refine AP (ds := jZ) F se.f3 rfl rfl (by simpa using AX) (Ab rfl (Ab rfl (Bp _))) (by simp) fun wd _ F sf => ?_
  cases H
  refine gw 5 F rfl fun _ F => ?_
  refine Ak (rs := [.cell 6 118, .tmp 7]) (vs := [.agg ⟨jZ⟩, jI o1]) F (by rfl) ⟨_, _, rfl, Am sf m0 rfl AZ (by simp), _, _, rfl, Ao rfl, rfl⟩ ⟨_, rfl, ⟨rfl, sf.drop.drop.drop.drop.drop.drop.drop⟩⟩
 obtain ⟨x3, hd, H⟩ := Aa H
 refine AG F se m6 0 rfl fun _ F => D3 F se m5 1 rfl fun _ F => AG F se m0 0 rfl fun _ F => Df F (WQ (hr0_0.AN se) (se.rd0 m1) hd) fun v3 we _ he F => ?_
 obtain ⟨v4, rfl, hf⟩ := he
 have sg := se.add hf
 refine gw 14 F rfl fun _ F => AH F H 2 5 rfl rfl rfl (fun hg H _ F => ?_) (fun hg H _ F => ?_)
 ·refine gx F (Al (vs := []) AO Ch rfl (cs := jZ) (BG)) 1 rfl rfl fun _ F => ?_
  refine AP (ds := jZ) F sg.f4 rfl rfl (by simpa using AX) (Ab rfl (Ab rfl (Bp _))) (by simp) fun wf _ F sh => ?_
  cases H
  refine gw 5 F rfl fun _ F => ?_
  refine Ak (rs := [.cell 6 118, .tmp 7]) (vs := [.agg ⟨jZ⟩, jI x3.2]) F (by rfl) ⟨_, _, rfl, Am sh m0 rfl AZ (by simp), _, _, rfl, Ao rfl, rfl⟩ ⟨_, rfl, ⟨rfl, sh.drop.drop.drop.drop.drop.drop.drop.drop⟩⟩
 obtain ⟨x4, hh, H⟩ := Aa H
 obtain ⟨G0, hi, hj, hk, hl⟩ := SL.open_ (ps := [JK 214 203 204 47 v2 x2.1.gives]) (rest := [Sl Ty.u8 v4 x3.1, A8 g3 226 [v1, v2], Sl AD v1 x2.1.takes, A8 g2 118 jZ, A8 g1 79 [jI a2.At, jU (a2.Op.toNat : Int), jI a2.A, jI a2.B], A8 g32 118 (jI a1.Locals :: jI a1.Height :: AU a1.Slots), A8 g0 110 [v0_0, v0_1, jI a0.Fn]]) sg.f3
 obtain ⟨f0, c0, hm, hn, ho⟩ := Ahu hi (SD m0 hk) hh
 refine AG F sg m1 1 rfl fun _ F => ?_
 refine Hb (args := [.tmp 77]) F hn (Eq.trans rfl (congrArg some hm)) rfl ho rfl fun v5 wg _ hp F => ?_
 have si := hl _ _ hp
 refine gw 7 F rfl fun _ F => AG F si m5 3 rfl fun _ F => AH F H 2 4 rfl rfl rfl (fun hq H _ F => ?_) (fun hq H _ F => ?_)
 ·obtain ⟨x5, hr, H⟩ := Aa H
  refine D3 F si m6 1 rfl fun _ F => AG F si m5 0 rfl fun _ F => B5 F si (Re hr) 14 rfl rfl rfl rfl fun wh _ F sj => AH F H 2 4 rfl rfl rfl (fun hs H _ F => ?_) (fun hs H _ F => ?_)
  ·refine gx F (Al (vs := []) AO Ch rfl (cs := jZ) (BG)) 0 rfl rfl fun _ F => ?_
   refine AP (ds := jZ) F sj.f4 rfl rfl (by simpa using AX) (Ab rfl (Ab rfl (Bp _))) (by simp) fun wi _ F sk => ?_
   cases H
   refine gw 6 F rfl fun _ F => ?_
   refine Ak (rs := [.cell 6 118, .tmp 7]) (vs := [.agg ⟨jZ⟩, jI 70]) F (by rfl) ⟨_, _, rfl, Am sk m0 rfl AZ (by simp), _, _, rfl, Ao rfl, rfl⟩ ⟨_, rfl, ⟨rfl, sk.drop.drop.drop.drop.drop.drop.drop.drop⟩⟩
  refine Ae (parts := [(0, .tmp 92)]) Flat.u8 ([x5.1] : List UInt8) F sj Br rfl (by decide) rfl rfl rfl (by simp [Value.cells]) rfl rfl rfl fun v6 wj _ F sl => ?_
  obtain ⟨x6, ht, H⟩ := Aa H
  refine gw 5 F rfl fun _ F => D3 F sl m7 0 rfl fun _ F => AG F sl m6 2 rfl fun _ F => B5 F sl (Rj (sl.rd0 m2) (sl.rd0 m0) ht) 2 rfl rfl rfl rfl fun wk _ F sm => ?_
  refine AP (ds := (jI x6.1.Locals :: jI x6.1.Height :: AU x6.1.Slots)) F sm.f5 rfl rfl (by simpa using AX) (Ab rfl (Ab rfl (Bp _))) (by simp) fun wl _ F sn => ?_
  cases H
  refine gw 4 F rfl fun _ F => ?_
  refine Ak (rs := [.cell 6 118, .tmp 7]) (vs := [.agg ⟨(jI x6.1.Locals :: jI x6.1.Height :: AU x6.1.Slots)⟩, jI x6.2]) F (by rfl) ⟨_, _, rfl, Am sn m0 rfl AZ (by simp), _, _, rfl, Ao rfl, rfl⟩ ⟨_, rfl, ⟨rfl, sn.drop.drop.drop.drop.drop.drop.drop.drop.drop⟩⟩
 obtain ⟨x7, hu, H⟩ := Aa H
 refine D3 F si m6 0 rfl fun _ F => AG F si m5 2 rfl fun _ F => B5 F si (Rj (si.rd0 m1) (si.rd0 m0) hu) 2 rfl rfl rfl rfl fun wm _ F so => ?_
 refine AP (ds := (jI x7.1.Locals :: jI x7.1.Height :: AU x7.1.Slots)) F so.f4 rfl rfl (by simpa using AX) (Ab rfl (Ab rfl (Bp _))) (by simp) fun wn _ F sp => ?_
 cases H
 refine gw 4 F rfl fun _ F => ?_
 refine Ak (rs := [.cell 6 118, .tmp 7]) (vs := [.agg ⟨(jI x7.1.Locals :: jI x7.1.Height :: AU x7.1.Slots)⟩, jI x7.2]) F (by rfl) ⟨_, _, rfl, Am sp m0 rfl AZ (by simp), _, _, rfl, Ao rfl, rfl⟩ ⟨_, rfl, ⟨rfl, sp.drop.drop.drop.drop.drop.drop.drop.drop⟩⟩
theorem VA {w : World} {v0 : Value} {a0 : List A6} {a1 : A4} {a2 : A4} {r : Int} (hr0 : Rd AB w [] v0 a0) (H : MJ a0 a1 a2 = some r) :
    Calls prog 191 #[v0, .agg ⟨(jI a1.Locals :: jI a1.Height :: AU a1.Slots)⟩, .agg ⟨(jI a2.Locals :: jI a2.Height :: AU a2.Slots)⟩] w (B9 fun u_ w_ => u_ = jI r ∧ SL w [] w_ []) := by
 have s0 : SL w [] w [] := SL.Bt w
 refine BD func191 ntmps191 2 rfl rfl rfl fun _ F0 => ?_
 unfold MJ at H
 refine Ar F0 s0 rfl rfl rfl fun g0 w0 _ F s1 => Ar F s1 rfl rfl rfl fun g1 w1 _ F s2 => ?_
 obtain ⟨x0, h0, H⟩ := Aa H
 refine gw 6 F rfl fun _ F => D3 F s2 m1 0 rfl fun _ F => B5 F s2 (Nz (hr0.AN s2) h0) 10 rfl rfl rfl rfl fun w2 _ F s3 => AH F H 2 8 rfl rfl rfl (fun h1 H _ F => ?_) (fun h1 H _ F => ?_)
 ·obtain ⟨x1, h2, H⟩ := Aa H
  refine D3 F s3 m0 0 rfl fun _ F => B5 F s3 (Nz (hr0.AN s3) h2) 9 rfl rfl rfl rfl fun w3 _ F s4 => BB 18 F H (fun h3 H F => ?_) (fun h3 H F => ?_)
  ·refine gw 1 F rfl fun _ F => AK F rfl rfl <| AG F s4 m1 1 rfl fun _ F => AK F rfl rfl <| AG F s4 m0 2 rfl fun _ F => BB 24 F H (fun h4 H F => ?_) (fun h4 H F => ?_)
   ·cases H
    exact gw 21 F rfl fun _ F => rt F ⟨rfl, s4.drop.drop⟩
   refine gw 1 F rfl fun _ F => AK F rfl rfl <| AG F s4 m1 1 rfl fun _ F => AK F rfl rfl <| AG F s4 m0 5 rfl fun _ F => AH F H 11 9 rfl rfl rfl (fun h5 H _ F => ?_) (fun h5 H _ F => ?_)
   ·cases H
    exact rt F ⟨rfl, s4.drop.drop⟩
   cases H
   exact rt F ⟨rfl, s4.drop.drop⟩
  cases H
  exact gw 25 F rfl fun _ F => rt F ⟨rfl, s4.drop.drop⟩
 cases H
 exact gw 25 (F.kf (d := 18) h1) rfl fun _ F => rt F ⟨rfl, s3.drop.drop⟩
theorem Tn {w : World} {FF : List Nat} {g1 g2 g3 : Nat} {v1_0 : Value} {a0 : Int} {a1 : List A6} {a2 : Int} {a3 : UInt8} {r : Bool × UInt8} (hst : B1 [A8 g1 22 [v1_0], A8 g2 3 [jI a2], A8 g3 48 [jU (a3.toNat : Int)]] w FF) (hr1_0 : Rd AB w FF v1_0 a1) (H : KF a0 a1 a2 a3 = some r) :
    Calls prog 212 #[jI a0, jP g1, jP g2, jP g3] w (B9 fun u_ w_ => u_ = .bool r.1 ∧ SL w FF w_ [A8 g1 22 [v1_0], A8 g2 3 [jI a2], A8 g3 48 [jU (r.2.toNat : Int)]]) := by
 have s0 : SL w FF w [A8 g1 22 [v1_0], A8 g2 3 [jI a2], A8 g3 48 [jU (a3.toNat : Int)]] := SL.init w FF hst
 refine BD func212 ntmps212 8 rfl rfl rfl fun _ F2 => ?_
 unfold KF at H
 obtain ⟨x0, h0, H⟩ := Aa H
 refine AG F2 s0 m0 0 rfl fun _ F => AG F s0 m1 1 rfl fun _ F => B5 F s0 (Rb (hr1_0.AN s0) h0) 2 rfl rfl rfl rfl fun w0 _ F s1 => AH F H 3 8 rfl rfl rfl (fun h1 H _ F => ?_) (fun h1 H _ F => ?_)
 ·refine gx F (RI rfl underlying3 underlying48) 0 rfl rfl fun _ F => gx F (Te rfl rfl) 0 rfl rfl fun _ F => Ay F s1.f2 rfl rfl JL rfl rfl rfl fun w1 _ F s2 => ?_
  cases H
  exact gw 9 F rfl fun _ F => rt F ⟨rfl, s2.f2.f2⟩
 cases H
 exact rt F ⟨rfl, s1⟩
theorem Pd {w : World} {FF : List Nat} {g0 g1 g2 : Nat} {v0 v300_0 : Value} {a0 : List A6} {a1 : Int} {a300 : List A6} {a301 : Int} {a302 : UInt8} {r : UInt8} (hst : B1 [A8 g0 22 [v300_0], A8 g1 3 [jI a301], A8 g2 48 [jU (a302.toNat : Int)]] w FF) (hr0 : Rd AB w FF v0 a0) (hr300_0 : Rd AB w FF v300_0 a300) (H : Gu a0 a1 a300 a301 a302 = some r) :
    Calls prog 99 #[v0, jI a1, clo 212 [jP g0, jP g1, jP g2]] w (B9 fun u_ w_ => u_ = .tuple ⟨[]⟩ ∧ SL w FF w_ [A8 g0 22 [v300_0], A8 g1 3 [jI a301], A8 g2 48 [jU (r.toNat : Int)]]) := by
 have s0 : SL w FF w [A8 g0 22 [v300_0], A8 g1 3 [jI a301], A8 g2 48 [jU (a302.toNat : Int)]] := SL.init w FF hst
 refine BD func99 ntmps99 0 rfl rfl rfl fun _ F0 => ?_
 unfold Gu at H
 obtain ⟨o0, H0, R0⟩ := Aa H
 clear H
 refine BA (fun a w_ => ∃ p0 : UInt8, o0 = .inr (p0) ∧ Fr a 29 [] ∧ SL w FF w_ [A8 g0 22 [v300_0], A8 g1 3 [jI a301], A8 g2 48 [jU (p0.toNat : Int)]]) ?_ ?_
 ·have H := H0
  refine gc 1 F0 rfl fun _ F0 => Cy (Dx a0 a300 a301) (fun s1 a w_ => Fr a 29 [(0, v0), (1, jI s1.2), (2, clo 212 [jP g0, jP g1, jP g2])] ∧ SL w FF w_ [A8 g0 22 [v300_0], A8 g1 3 [jI a301], A8 g2 48 [jU (s1.1.toNat : Int)]]) H ?_ ?_
  ·exact ⟨F0.sb, s0⟩
  intro s1 _ w0 h0 o1 H hr
  obtain ⟨F, s2⟩ := h0
  replace H : Dx a0 a300 a301 s1 = some o1 := H
  unfold Dx at H
  refine gc 6 F rfl fun _ F => BB 9 F H (fun h1 H F => ?_) (fun h1 H F => ?_)
  ·refine gw 2 F rfl fun _ F => AK F rfl rfl <| gx F (Ah rfl underlying22 (fR hr0 s2)) 3 rfl rfl fun _ F => BB 15 F H (fun h2 H F => ?_) (fun h2 H F => ?_)
   ·obtain ⟨x0, h3, H⟩ := Aa H
    refine gw 2 F rfl fun _ F => AK F rfl rfl ?_
    obtain ⟨G0, h4, h5, h6, h7⟩ := SL.open_ (ps := [A8 g0 22 [v300_0], A8 g1 3 [jI a301], A8 g2 48 [jU (s1.1.toNat : Int)]]) (rest := []) s2.f2.f2.f2
    refine Hb (args := [.tmp 17]) F Adf rfl rfl (Tn (a0 := s1.2) (a1 := a300) (a2 := a301) (a3 := s1.1) h4 (hr300_0.pass s2.f2.f2.f2 h5) h3) rfl fun v1 w1 _ h8 F => ?_
    obtain ⟨rfl, h9⟩ := h8
    have s3 := h7 _ _ h9
    refine gw 3 F rfl fun _ F => AH F H 5 4 rfl rfl rfl (fun ha H _ F => ?_) (fun ha H _ F => ?_)
    ·obtain ⟨x1, hb, H⟩ := Aa H
     obtain ⟨a4, c0, G1, hc, hd, he, hf⟩ := Rd.idx hr0 D5 rfl hb
     obtain ⟨v2, rfl, hg⟩ := (C7 he hf)
     replace hd := hd _ _ s3
     refine gw 2 F rfl fun _ F => gi F hc 0 rfl fun _ F => gx F (Ba HF rfl) 0 rfl rfl fun _ F => gx F (An BE rfl (Bn.at_ hd (o := 1) rfl)) 11 rfl rfl fun _ F => AH F H 6 7 rfl rfl rfl (fun hh H _ F => ?_) (fun hh H _ F => ?_)
     ·cases H
      obtain rfl := hr _ rfl
      replace H := R0
      try dsimp only at H
      cases H
      exact rt F ⟨rfl, s3⟩
     cases H
     exact ⟨_, rfl, F.sb, s3⟩
    cases H
    obtain rfl := hr _ rfl
    exact ⟨_, rfl, F.sb, s3⟩
   cases H
   obtain rfl := hr _ rfl
   exact gw 11 F rfl fun _ F => ⟨_, rfl, F.sb, s2⟩
  cases H
  obtain rfl := hr _ rfl
  exact gw 17 F rfl fun _ F => ⟨_, rfl, F.sb, s2⟩
 intro _ w2 hJ
 obtain ⟨p0, rfl, F, s4⟩ := hJ
 have H := R0
 clear R0 H0
 try dsimp only at H
 cases H
 exact Tg F (by rfl) ⟨_, rfl, ⟨rfl, s4⟩⟩
theorem W3 {w : World} {v0 : Value} {a0 : List A6} {a1 : UInt8} {a2 : UInt8} {r : UInt8} (hr0 : Rd AB w [] v0 a0) (H : Mi a0 a1 a2 = some r) :
    Calls prog 192 #[v0, jU (a1.toNat : Int), jU (a2.toNat : Int)] w (B9 fun u_ w_ => u_ = jU (r.toNat : Int) ∧ SL w [] w_ []) := by
 have s0 : SL w [] w [] := SL.Bt w
 refine BD func192 ntmps192 2 rfl rfl rfl fun _ F0 => ?_
 unfold Mi at H
 refine Ar F0 s0 rfl (Ag (fR hr0 s0)) rfl fun g8 w9 _ F s1 => ?_
 obtain ⟨x0, h0, H⟩ := Aa H
 refine gw 7 F rfl fun _ F => AG F s1 m0 1 rfl fun _ F => B5 F s1 (Ho (hr0.AN s1) h0) 2 rfl rfl rfl rfl fun w0 _ F s2 => BB 15 F H (fun h1 H F => ?_) (fun h1 H F => ?_)
 ·cases H
  exact gw 17 F rfl fun _ F => rt F ⟨rfl, s2.drop⟩
 refine AK F rfl rfl ?_
 obtain ⟨x1, h2, H⟩ := Aa H
 refine AG F s2 m0 1 rfl fun _ F => AK F rfl rfl <| B5 F s2 (Ho (hr0.AN s2) h2) 5 rfl rfl rfl rfl fun w1 _ F s3 => AH F H 8 2 rfl rfl rfl (fun h3 H _ F => ?_) (fun h3 H _ F => ?_)
 ·cases H
  exact rt F ⟨rfl, s3.drop⟩
 obtain ⟨x2, h4, H⟩ := Aa H
 refine AG F s3 m0 2 rfl fun _ F => B5 F s3 (PE (hr0.AN s3) h4) 3 rfl rfl rfl rfl fun w2 _ F s4 => AH F H 9 2 rfl rfl rfl (fun h5 H _ F => ?_) (fun h5 H _ F => ?_)
 ·cases H
  exact rt F ⟨rfl, s4.drop⟩
 obtain ⟨x3, h6, H⟩ := Aa H
 refine AG F s4 m0 2 rfl fun _ F => B5 F s4 (PE (hr0.AN s4) h6) 3 rfl rfl rfl rfl fun w3 _ F s5 => AH F H 9 3 rfl rfl rfl (fun h7 H _ F => ?_) (fun h7 H _ F => ?_)
 ·cases H
  exact rt F ⟨rfl, s5.drop⟩
 obtain ⟨x4, h8, H⟩ := Aa H
 refine B5 F s5 (It h8) 2 rfl rfl rfl rfl fun w4 _ F s6 => BB 37 F H (fun h9 H F => ?_) (fun h9 H F => ?_)
 ·cases H
  exact gw 16 F rfl fun _ F => rt F ⟨rfl, s6.drop⟩
 obtain ⟨x5, ha, H⟩ := Aa H
 refine gw 1 F rfl fun _ F => AK F rfl rfl <| B5 F s6 (It ha) 5 rfl rfl rfl rfl fun w5 _ F s7 => AH F H 8 5 rfl rfl rfl (fun hb H _ F => ?_) (fun hb H _ F => ?_)
 ·cases H
  exact rt F ⟨rfl, s7.drop⟩
 refine Af F s7 Aby rfl rfl fun g0 w6 _ F s8 => Ay F s8 rfl rfl JL rfl rfl rfl fun w7 _ F s9 => ?_
 obtain ⟨x6, hc, H⟩ := Aa H
 obtain ⟨x7, hd, H⟩ := Aa H
 refine gw 3 F rfl fun _ F => Cq Bq s9 ?_
 refine hq [0, 1, 3, 4] F s9.drew (QI.ld m1 rfl <| QI.ev 1 rfl <| QI.ld m1 rfl <| QI.ev 1 rfl <| QI.nil) (by kernel_rfl) fun _ F => ?_
 refine CJ [0, 1, 2, 3, 4, 5, 6] (fun a w_ => ∃ g1 : Nat, Fr a 59 [(3, jP g8), (7, jP g0), (9, jP g1), (44, jI x6), (47, jI x7)] ∧ SL w [] w_ [A8 g0 48 [jU 5], A8 g8 22 [v0], A8 g1 3 [jI 0]]) ?_ fun hD0 => ?_
 ·rintro a w_ ⟨g1, F, sa⟩
  refine hq [7] F sa.f2.drop (QI.ev 1 rfl <| QI.nil) (by kernel_rfl) fun _ F => ?_
  refine ho 8 rfl (by kernel_rfl) ?_
  refine Ay F sa.f2 rfl rfl IW rfl rfl rfl fun w8 _ F sc => gw 1 F rfl fun _ F => ⟨sc.drop, ?_⟩
  refine CP (by kernel_rfl) ?_
  refine ge 7 F rfl fun _ F => BB 50 F H (fun he H F => ?_) (fun he H F => ?_)
  ·refine AK F rfl rfl <| AG F sc m0 4 rfl fun _ F => AH F H 1 4 rfl rfl rfl (fun hf H _ F => ?_) (fun hf H _ F => ?_)
   ·obtain ⟨x8, hg, H⟩ := Aa H
    refine AG F sc m2 1 rfl fun _ F => gx F (Gc (cs := [.tmp 3, .tmp 9, .tmp 7]) (vs := [jP g8, jP g1, jP g0]) rfl) 0 rfl rfl fun _ F => ?_
    have sd := sc.f1.f1.f2
    obtain ⟨G0, hh, hi, hj, hk⟩ := SL.open_ (ps := [A8 g8 22 [v0], A8 g1 3 [jI x7], A8 g0 48 [jU 5]]) (rest := []) sd
    refine Df F (Pd (a300 := a0) (a301 := x7) (a302 := 5) hh (hr0.pass sd hi) (hr0.pass sd hi) hg) fun v1 wa _ hl F => ?_
    obtain ⟨rfl, hm⟩ := hl
    have se := hk _ _ hm
    refine gw 4 F rfl fun _ F => ?_
    cases H
    exact AG F se m2 4 rfl fun _ F => rt F ⟨rfl, se.drop.drop.drop⟩
   cases H
   exact AG F sc m1 4 rfl fun _ F => rt F ⟨rfl, sc.drop.drop.drop⟩
  refine gw 10 F rfl fun _ F => ?_
  cases H
  exact AG F sc m1 4 rfl fun _ F => rt F ⟨rfl, sc.drop.drop.drop⟩
 refine CJ [0, 1, 2, 3, 4, 6] (fun a w_ => ∃ g1 : Nat, Fr a 59 [(3, jP g8), (7, jP g0), (9, jP g1), (44, jI x6), (45, v0), (46, jU (a2.toNat : Int))] ∧ SL w [] w_ [A8 g0 48 [jU 5], A8 g8 22 [v0], A8 g1 3 [jI 0]]) ?_ fun hD1 => ?_
 ·rintro a w_ ⟨g1, F, sf⟩
  refine ho 5 rfl (by kernel_rfl) ?_
  exact B5 F sf (Hl (hr0.AN sf) hd) 1 rfl rfl rfl rfl fun wb _ F sg => ⟨sg.f2.drop, BJ hD0 ⟨g1, F.sb, sg⟩ (by kernel_rfl)⟩
 refine E5 2 6 rfl rfl (by kernel_rfl) ?_ ?_
 ·refine B5 F s9.drew (Hl (hr0.AN s9.drew) hc) 1 rfl rfl rfl rfl fun wc _ F sh => ⟨sh, ?_⟩
  refine E5 5 6 rfl rfl (by kernel_rfl) ?_ ?_
  ·refine B5 F sh (Hl (hr0.AN sh) hd) 1 rfl rfl rfl rfl fun wb _ F sg => ⟨sg, ?_⟩
   refine ho 6 rfl (by kernel_rfl) ?_
   exact Af F sg Eg rfl rfl fun g1 wd _ F si => gw 1 F rfl fun _ F => ⟨si.drop, BJ hD0 ⟨g1, F.sb, si.f2.f2⟩ (by kernel_rfl)⟩
  exact Af F sh Eg rfl rfl fun g1 wd _ F si => gw 1 F rfl fun _ F => ⟨si.drop, BJ hD1 ⟨g1, F.sb, si.f2.f2⟩ (by kernel_rfl)⟩
 refine Af F s9.drew Eg rfl rfl fun g1 wd _ F si => gw 1 F rfl fun _ F => ⟨si.drop, ?_⟩
 refine ho 2 rfl (by kernel_rfl) ?_
 exact B5 F si (Hl (hr0.AN si) hc) 1 rfl rfl rfl rfl fun wc _ F sh => ⟨sh.drop, BJ hD1 ⟨g1, F.sb, sh.f2.f2⟩ (by kernel_rfl)⟩
theorem Qa {w : World} {v0 : Value} {a0 : List A6} {a1 : A4} {a2 : A4} {r : A4 × Int} (hr0 : Rd AB w [] v0 a0) (H : Lu a0 a1 a2 = some r) :
    Calls prog 165 #[v0, .agg ⟨(jI a1.Locals :: jI a1.Height :: AU a1.Slots)⟩, .agg ⟨(jI a2.Locals :: jI a2.Height :: AU a2.Slots)⟩] w (B9 fun u_ w_ => u_ = .tuple ⟨[.agg ⟨(jI r.1.Locals :: jI r.1.Height :: AU r.1.Slots)⟩, jI r.2]⟩ ∧ SL w [] w_ []) := by
 have s0 : SL w [] w [] := SL.Bt w
 refine BD func165 ntmps165 2 rfl rfl rfl fun _ F0 => ?_
 unfold Lu at H
 refine Ar F0 s0 rfl rfl rfl fun g0 w0 _ F s1 => Ar F s1 rfl rfl rfl fun g1 w1 _ F s2 => Af F s2 AO rfl rfl fun g32 w2 _ F s3 => ?_
 obtain ⟨x0, h0, H⟩ := Aa H
 refine gw 6 F rfl fun _ F => D3 F s3 m2 0 rfl fun _ F => D3 F s3 m1 0 rfl fun _ F => B5 F s3 (VA (hr0.AN s3) h0) 10 rfl rfl rfl rfl fun w3 _ F s4 => AH F H 2 6 rfl rfl rfl (fun h1 H _ F => ?_) (fun h1 H _ F => ?_)
 ·refine gx F (Al (vs := []) AO Ch rfl (cs := jZ) (BG)) 1 rfl rfl fun _ F => ?_
  refine AP (ds := jZ) F s4 rfl rfl (by simpa using AX) (Ab rfl (Ab rfl (Bp _))) (by simp) fun w4 _ F s5 => ?_
  cases H
  refine gw 5 F rfl fun _ F => ?_
  refine Ak (rs := [.cell 6 118, .tmp 7]) (vs := [.agg ⟨jZ⟩, jI x0]) F (by rfl) ⟨_, _, rfl, Am s5 m0 rfl AZ (by simp), _, _, rfl, Ao rfl, rfl⟩ ⟨_, rfl, ⟨rfl, s5.drop.drop.drop⟩⟩
 refine AG F s4 m2 1 rfl fun _ F => ?_
 obtain ⟨o0, H0, R0⟩ := Aa H
 clear H
 refine AG F s4 m2 4 rfl fun _ F => BA (fun a w_ => Fr a 41 [(4, jP g0), (6, jP g32)] ∧ SL w [] w_ [A8 g32 118 jZ, A8 g0 118 (jI a1.Locals :: jI a1.Height :: AU o0)]) ?_ ?_
 ·have H := H0
  refine gc 1 F rfl fun _ F => Cy (Ie a0 a1 a2) (fun s6 a w_ => Fr a 41 [(0, v0), (4, jP g0), (5, jP g1), (6, jP g32), (22, jI (wr (a1.Locals + a1.Height))), (23, jI s6.2)] ∧ SL w [] w_ [A8 g32 118 jZ, A8 g1 118 (jI a2.Locals :: jI a2.Height :: AU a2.Slots), A8 g0 118 (jI a1.Locals :: jI a1.Height :: AU s6.1)]) H ?_ ?_
  ·exact ⟨F.sb, s4⟩
  intro s6 _ w5 h2 o1 H hr
  obtain ⟨F, s7⟩ := h2
  replace H : Ie a0 a1 a2 s6 = some o1 := H
  unfold Ie at H
  refine gc 6 F rfl fun _ F => AH F H 10 4 rfl rfl rfl (fun h3 H _ F => ?_) (fun h3 H _ F => ?_)
  ·obtain ⟨x1, h4, H⟩ := Aa H
   obtain ⟨x2, h5, H⟩ := Aa H
   obtain ⟨x3, h6, H⟩ := Aa H
   obtain ⟨x4, h7, H⟩ := Aa H
   refine Cq Bq s7.f2.drop ?_
   have s8 := s7.drew
   refine hq [0, 1, 2, 3, 6, 7, 8, 9, 11] F s8.f2.drop (QI.ev 6 rfl <| QI.op rfl (fun _ hC => Ef Db h5 rfl rfl) rfl <| QI.op rfl (fun _ hC => An BF rfl (SL.Iu (pre := [jI a2.Locals, jI a2.Height]) hC m1 rfl h5)) rfl <| QI.ev 1 rfl <| QI.nil) (by kernel_rfl) fun _ F => ?_
   refine ho 4 rfl (by kernel_rfl) ?_
   refine gx F (Ef Db h4 rfl rfl) 1 rfl rfl fun _ F => ⟨s8.f2.drop, ?_⟩
   refine ho 5 rfl (by kernel_rfl) ?_
   refine gx F (An BF rfl (SL.Iu (pre := [jI a1.Locals, jI a1.Height]) s8 m2 rfl h4)) 1 rfl rfl fun _ F => ⟨s8.f2.drop, ?_⟩
   refine ho 10 rfl (by kernel_rfl) ?_
   refine B5 F s8 (W3 (hr0.AN s8) h6) 1 rfl rfl rfl rfl fun w6 _ F s9 => ⟨s9.f2.drop, ?_⟩
   refine ho 12 rfl (by kernel_rfl) ?_
   refine gx F (Ef Db h7 rfl rfl) 1 rfl rfl fun _ F => ⟨s9.f2.drop, ?_⟩
   refine ho 13 rfl (by kernel_rfl) ?_
   refine Jo (y' := x3) (pre := [jI a1.Locals, jI a1.Height]) F s9.f2 rfl h7 rfl rfl JL fun w7 _ F sa => gw 1 F rfl fun _ F => ⟨sa.drop, ?_⟩
   refine CP (by kernel_rfl) ?_
   cases H
   exact ge 6 F rfl fun _ F => ⟨_, rfl, F.sb, sa.f2.f2⟩
  cases H
  obtain rfl := hr _ rfl
  exact ⟨F.sb, s7.f1.drop⟩
 intro _ w8 hJ
 obtain ⟨F, sc⟩ := hJ
 have H := R0
 clear R0 H0
 refine ge 3 F rfl fun _ F => D3 F sc m1 0 rfl fun _ F => ?_
 refine AP (ds := (jI a1.Locals :: jI a1.Height :: AU o0)) F sc rfl rfl (by simpa using AX) (Ab rfl (Ab rfl (Bp _))) (by simp) fun w9 _ F sd => ?_
 cases H
 refine gw 4 F rfl fun _ F => ?_
 refine Ak (rs := [.cell 6 118, .tmp 7]) (vs := [.agg ⟨(jI a1.Locals :: jI a1.Height :: AU o0)⟩, jI 0]) F (by rfl) ⟨_, _, rfl, Am sd m0 rfl AZ (by simp), _, _, rfl, Ao rfl, rfl⟩ ⟨_, rfl, ⟨rfl, sd.drop.drop⟩⟩
theorem PG {w : World} {FF : List Nat} {g0 g0_4 g0_5 g0_6 : Nat} {v0_0 v0_1 v0_3 : Value} {a0 : AV} {a1 : Int} {a2 : A4} {r : Int × AV} (hst : B1 [A8 g0 154 [v0_0, v0_1, jI a0.e.Fn, v0_3, .map (some g0_4), .map (some g0_5), .map (some g0_6), jI a0.BU], Mp (Value.int .i64) (fun x : A4 => Value.agg ⟨(jI x.Locals :: jI x.Height :: AU x.Slots)⟩) g0_4 a0.frames, Mp (Value.int .i64) (fun _ : Unit => Value.agg ⟨[]⟩) g0_5 a0.fresh, Mp (Value.int .i64) (Value.int .i64) g0_6 a0.taken] w FF) (hr0_0 : Rd AB w FF v0_0 a0.e.Classes) (hr0_1 : Rd B8 w FF v0_1 a0.e.AQ) (hr0_3 : Rd Ty.u8 w FF v0_3 a0.code) (H : GX a0 a1 a2 = some r) :
    Calls prog 135 #[jP g0, jI a1, .agg ⟨(jI a2.Locals :: jI a2.Height :: AU a2.Slots)⟩] w (B9 fun u_ w_ => ∃ u0 u1 u2 : Value, u_ = jI r.1 ∧ BS AB v0_0 a0.e.Classes u0 r.2.e.Classes ∧ BS B8 v0_1 a0.e.AQ u1 r.2.e.AQ ∧ BS Ty.u8 v0_3 a0.code u2 r.2.code ∧ SL w FF w_ [A8 g0 154 [u0, u1, jI r.2.e.Fn, u2, .map (some g0_4), .map (some g0_5), .map (some g0_6), jI r.2.BU], Mp (Value.int .i64) (fun x : A4 => Value.agg ⟨(jI x.Locals :: jI x.Height :: AU x.Slots)⟩) g0_4 r.2.frames, Mp (Value.int .i64) (fun _ : Unit => Value.agg ⟨[]⟩) g0_5 r.2.fresh, Mp (Value.int .i64) (Value.int .i64) g0_6 r.2.taken]) := by
 have s0 : SL w FF w [A8 g0 154 [v0_0, v0_1, jI a0.e.Fn, v0_3, .map (some g0_4), .map (some g0_5), .map (some g0_6), jI a0.BU], Mp (Value.int .i64) (fun x : A4 => Value.agg ⟨(jI x.Locals :: jI x.Height :: AU x.Slots)⟩) g0_4 a0.frames, Mp (Value.int .i64) (fun _ : Unit => Value.agg ⟨[]⟩) g0_5 a0.fresh, Mp (Value.int .i64) (Value.int .i64) g0_6 a0.taken] := SL.init w FF hst
 refine BD func135 ntmps135 2 rfl rfl rfl fun _ F0 => ?_
 unfold GX at H
 refine Ar F0 s0 rfl rfl rfl fun g8 w9 _ F s1 => gw 8 F rfl fun _ F => AG F s1 m1 1 rfl fun _ F => gx F (U9 (k := a1) (z0 := (⟨(0 : Int), (0 : Int), (Vector.replicate 24 (0 : UInt8))⟩ : A4)) s1 m2 underlying150 Hk TX rfl rfl) 3 rfl rfl fun _ F => Af F s1 AO rfl rfl fun g1 w0 _ F s2 => ?_
 refine AP (ds := (jI (((Cd a0.frames a1).getD (⟨(0 : Int), (0 : Int), (Vector.replicate 24 (0 : UInt8))⟩ : A4)).Locals) :: jI (((Cd a0.frames a1).getD (⟨(0 : Int), (0 : Int), (Vector.replicate 24 (0 : UInt8))⟩ : A4)).Height) :: AU (((Cd a0.frames a1).getD (⟨(0 : Int), (0 : Int), (Vector.replicate 24 (0 : UInt8))⟩ : A4)).Slots))) F s2 rfl rfl (by simpa using AX) (Ab rfl (Ab rfl (Bp _))) (by simp) fun w1 _ F s3 => ?_
 obtain ⟨o0, H0, R0⟩ := Aa H
 clear H
 refine gw 4 F rfl fun _ F => BA (fun a w_ => ∃ p0 : Int × Int × (Vector UInt8 24), o0 = .inr (p0) ∧ Fr a 59 [(0, jP g0), (1, jI a1), (5, jP g8), (7, jP g1), (8, .bool ((Cd a0.frames a1).isSome))] ∧ SL w FF w_ [A8 g8 118 (jI p0.1 :: jI p0.2.1 :: AU p0.2.2), A8 g1 118 (jI (((Cd a0.frames a1).getD (⟨(0 : Int), (0 : Int), (Vector.replicate 24 (0 : UInt8))⟩ : A4)).Locals) :: jI (((Cd a0.frames a1).getD (⟨(0 : Int), (0 : Int), (Vector.replicate 24 (0 : UInt8))⟩ : A4)).Height) :: AU (((Cd a0.frames a1).getD (⟨(0 : Int), (0 : Int), (Vector.replicate 24 (0 : UInt8))⟩ : A4)).Slots)), A8 g0 154 [v0_0, v0_1, jI a0.e.Fn, v0_3, .map (some g0_4), .map (some g0_5), .map (some g0_6), jI a0.BU], Mp (Value.int .i64) (fun x : A4 => Value.agg ⟨(jI x.Locals :: jI x.Height :: AU x.Slots)⟩) g0_4 a0.frames, Mp (Value.int .i64) (fun _ : Unit => Value.agg ⟨[]⟩) g0_5 a0.fresh, Mp (Value.int .i64) (Value.int .i64) g0_6 a0.taken]) ?_ ?_
 ·have H := H0
  refine gc 5 F rfl fun _ F => AH F H 1 1 rfl rfl rfl (fun h0 H _ F => ?_) (fun h0 H _ F => ?_)
  ·obtain ⟨x0, h1, H⟩ := Aa H
   refine Cq Bq s3 ?_
   refine hq [0, 1, 2, 3, 4, 5, 6] F s3.drew (QI.ev 4 rfl <| QI.ld m2 rfl <| QI.op rfl (fun _ hC => Av AZ rfl (hC.Dk m0 (o := 0) (ds := (jI (((Cd a0.frames a1).getD (⟨(0 : Int), (0 : Int), (Vector.replicate 24 (0 : UInt8))⟩ : A4)).Locals) :: jI (((Cd a0.frames a1).getD (⟨(0 : Int), (0 : Int), (Vector.replicate 24 (0 : UInt8))⟩ : A4)).Height) :: AU (((Cd a0.frames a1).getD (⟨(0 : Int), (0 : Int), (Vector.replicate 24 (0 : UInt8))⟩ : A4)).Slots))) (Ib (pre := []) rfl rfl)) (by simp)) rfl <| QI.op rfl (fun _ hC => Av AZ rfl (hC.Dk m1 (o := 0) (ds := (jI a2.Locals :: jI a2.Height :: AU a2.Slots)) (Ib (pre := []) rfl rfl)) (by simp)) rfl <| QI.nil) (by kernel_rfl) fun _ F => ?_
   refine CJ [0, 1, 2, 3, 4, 5, 6, 7, 8, 9, 10, 11, 12] (fun a w_ => ∃ g2 : Nat, Fr a 59 [(0, jP g0), (1, jI a1), (5, jP g8), (7, jP g1), (8, .bool ((Cd a0.frames a1).isSome)), (9, jP g2), (31, jI x0.2)] ∧ SL w FF w_ [A8 g1 118 (jI (((Cd a0.frames a1).getD (⟨(0 : Int), (0 : Int), (Vector.replicate 24 (0 : UInt8))⟩ : A4)).Locals) :: jI (((Cd a0.frames a1).getD (⟨(0 : Int), (0 : Int), (Vector.replicate 24 (0 : UInt8))⟩ : A4)).Height) :: AU (((Cd a0.frames a1).getD (⟨(0 : Int), (0 : Int), (Vector.replicate 24 (0 : UInt8))⟩ : A4)).Slots)), A8 g8 118 (jI a2.Locals :: jI a2.Height :: AU a2.Slots), A8 g0 154 [v0_0, v0_1, jI a0.e.Fn, v0_3, .map (some g0_4), .map (some g0_5), .map (some g0_6), jI a0.BU], Mp (Value.int .i64) (fun x : A4 => Value.agg ⟨(jI x.Locals :: jI x.Height :: AU x.Slots)⟩) g0_4 a0.frames, Mp (Value.int .i64) (fun _ : Unit => Value.agg ⟨[]⟩) g0_5 a0.fresh, Mp (Value.int .i64) (Value.int .i64) g0_6 a0.taken, A8 g2 118 (jI x0.1.Locals :: jI x0.1.Height :: AU x0.1.Slots)]) ?_ fun hD0 => ?_
   ·rintro a w_ ⟨g2, F, s4⟩
    refine hq [13] F s4.f6.drop (QI.ev 1 rfl <| QI.nil) (by kernel_rfl) fun _ F => ?_
    refine CP (by kernel_rfl) ?_
    refine ge 8 F rfl fun _ F => AH F H 6 3 rfl rfl rfl (fun h2 H _ F => ?_) (fun h2 H _ F => ?_)
    ·refine Ay F s4.f2 rfl rfl IW rfl rfl rfl fun w2 _ F s5 => ?_
     cases H
     replace H := R0
     try dsimp only at H
     cases H
     exact gw 12 F rfl fun _ F => rt F ⟨v0_0, v0_1, v0_3, rfl, BS.refl, BS.refl, BS.refl, s5.f1.drop.f1.drop.f4.drop⟩
    refine D3 F s4 m6 0 rfl fun _ F => ?_
    refine AP (ds := (jI x0.1.Locals :: jI x0.1.Height :: AU x0.1.Slots)) F s4.f1 rfl rfl (by simpa using AX) (Ab rfl (Ab rfl (Bp _))) (by simp) fun w3 _ F s6 => ?_
    cases H
    exact gw 1 F rfl fun _ F => ⟨_, rfl, F.sb, s6.f6.drop⟩
   refine E5 7 11 rfl rfl (by kernel_rfl) ?_ ?_
   ·refine B5 F s3.drew (Qa (hr0_0.AN s3.drew) h1) 1 rfl rfl rfl rfl fun w4 _ F s7 => ⟨s7, ?_⟩
    refine hq [8, 9, 10] F s7 (QI.ev 3 rfl <| QI.nil) (by kernel_rfl) fun _ F => ?_
    refine ho 11 rfl (by kernel_rfl) ?_
    refine Af F s7 AO rfl rfl fun g2 w5 _ F s8 => gw 1 F rfl fun _ F => ⟨s8.drop, ?_⟩
    refine ho 12 rfl (by kernel_rfl) ?_
    refine AP (ds := (jI x0.1.Locals :: jI x0.1.Height :: AU x0.1.Slots)) F s8 rfl rfl (by simpa using AX) (Ab rfl (Ab rfl (Bp _))) (by simp) fun w6 _ F s9 => ?_
    exact gw 1 F rfl fun _ F => ⟨s9.drop, BJ hD0 ⟨g2, F.sb, s9.f6.f6.f6.f6.f6.f6⟩ (by kernel_rfl)⟩
   refine Af F s3.drew AO rfl rfl fun g2 w5 _ F s8 => gw 1 F rfl fun _ F => ⟨s8.drop, ?_⟩
   refine ho 7 rfl (by kernel_rfl) ?_
   refine B5 F s8 (Qa (hr0_0.AN s8) h1) 1 rfl rfl rfl rfl fun w4 _ F s7 => ⟨s7.drop, ?_⟩
   refine hq [8, 9, 10] F s7.drop (QI.ev 3 rfl <| QI.nil) (by kernel_rfl) fun _ F => ?_
   refine ho 12 rfl (by kernel_rfl) ?_
   refine AP (ds := (jI x0.1.Locals :: jI x0.1.Height :: AU x0.1.Slots)) F s7 rfl rfl (by simpa using AX) (Ab rfl (Ab rfl (Bp _))) (by simp) fun w6 _ F s9 => ?_
   exact gw 1 F rfl fun _ F => ⟨s9.drop, BJ hD0 ⟨g2, F.sb, s9.f6.f6.f6.f6.f6.f6⟩ (by kernel_rfl)⟩
  cases H
  exact ⟨_, rfl, F.sb, s3.f5.f5.f5.f5.f4.f5⟩
 intro _ w7 hJ
 obtain ⟨p0, rfl, F, sa⟩ := hJ
 have H := R0
 clear R0 H0
 try dsimp only at H
 refine ge 7 F rfl fun _ F => BB 42 F H (fun h3 H F => ?_) (fun h3 H F => ?_)
 ·refine gw 8 F rfl fun _ F => Cq Bq sa.f3.drop ?_
  refine hq [0, 1, 2, 3, 4, 5] F sa.drew.f3.drop (QI.ev 3 rfl <| QI.ld m2 rfl <| QI.ev 1 rfl <| QI.op rfl (fun _ hC => Av AZ rfl (hC.Dk m0 (o := 0) (ds := (jI p0.1 :: jI p0.2.1 :: AU p0.2.2)) (Ib (pre := []) rfl rfl)) (by simp)) rfl <| QI.nil) (by kernel_rfl) fun _ F => ?_
  refine ho 6 rfl (by kernel_rfl) ?_
  refine Js (k := a1) (u := (⟨p0.1, p0.2.1, p0.2.2⟩ : A4)) F sa.drew.f3 underlying150 Hk rfl rfl rfl fun w8 _ F sc => gw 1 F rfl fun _ F => ⟨sc.drop, ?_⟩
  refine CP (by kernel_rfl) ?_
  refine ge 5 F rfl fun _ F => AG F sc m3 1 rfl fun _ F => gx F (Al (vs := []) QG Uk rfl (cs := []) (rfl)) 0 rfl rfl fun _ F => Js (k := a1) (u := ()) F sc.f4 underlying151 Hk rfl rfl rfl fun wa _ F sd => ?_
  cases H
  exact gw 8 F rfl fun _ F => rt F ⟨v0_0, v0_1, v0_3, rfl, BS.refl, BS.refl, BS.refl, sd.f2.drop.f2.drop.f3.f1.f2.f3⟩
 refine AK F rfl rfl <| D3 F sa m0 0 rfl fun _ F => AK F rfl rfl <| D3 F sa m1 0 rfl fun _ F => AK F rfl rfl ?_
 refine gx F (SY (xs := (jI p0.1 :: jI p0.2.1 :: AU p0.2.2)) (ys := (jI (((Cd a0.frames a1).getD (⟨(0 : Int), (0 : Int), (Vector.replicate 24 (0 : UInt8))⟩ : A4)).Locals) :: jI (((Cd a0.frames a1).getD (⟨(0 : Int), (0 : Int), (Vector.replicate 24 (0 : UInt8))⟩ : A4)).Height) :: AU (((Cd a0.frames a1).getD (⟨(0 : Int), (0 : Int), (Vector.replicate 24 (0 : UInt8))⟩ : A4)).Slots))) N7 (by decide) rfl rfl (SI N7 Uv (Bi rfl (Bj BE rfl) (Bj BE rfl) (EqAt.up (j := 2) (N8 underlying3) (by decide)) (Bi rfl (Bj BE rfl) (Bj BE rfl) (EqAt.up (j := 2) (N8 underlying3) (by decide)) (Bi rfl (Qk Lh (OJ (pre := [jI p0.1, jI p0.2.1]) rfl rfl) (by simp)) (Qk Lh (OJ (pre := [jI (((Cd a0.frames a1).getD (⟨(0 : Int), (0 : Int), (Vector.replicate 24 (0 : UInt8))⟩ : A4)).Locals), jI (((Cd a0.frames a1).getD (⟨(0 : Int), (0 : Int), (Vector.replicate 24 (0 : UInt8))⟩ : A4)).Height)]) rfl rfl) (by simp)) (EqAt.up (j := 2) (Uf Db underlying48 Vm) (by decide)) SR))))) 3 rfl rfl fun _ F => ?_
 refine AH F H 1 8 rfl rfl rfl (fun h4 H _ F => ?_) (fun h4 H _ F => ?_)
 ·refine Cq Bq sa.f3.drop ?_
  refine hq [0, 1, 2, 3, 4, 5] F sa.drew.f3.drop (QI.ev 3 rfl <| QI.ld m2 rfl <| QI.ev 1 rfl <| QI.op rfl (fun _ hC => Av AZ rfl (hC.Dk m0 (o := 0) (ds := (jI p0.1 :: jI p0.2.1 :: AU p0.2.2)) (Ib (pre := []) rfl rfl)) (by simp)) rfl <| QI.nil) (by kernel_rfl) fun _ F => ?_
  refine ho 6 rfl (by kernel_rfl) ?_
  refine Js (k := a1) (u := (⟨p0.1, p0.2.1, p0.2.2⟩ : A4)) F sa.drew.f3 underlying150 Hk rfl rfl rfl fun wb _ F se => gw 1 F rfl fun _ F => ⟨se.drop, ?_⟩
  refine CP (by kernel_rfl) ?_
  refine ge 5 F rfl fun _ F => AG F se m3 1 rfl fun _ F => gx F (Al (vs := []) QG Uk rfl (cs := []) (rfl)) 0 rfl rfl fun _ F => Js (k := a1) (u := ()) F se.f4 underlying151 Hk rfl rfl rfl fun wc _ F sf => ?_
  cases H
  exact gw 8 F rfl fun _ F => rt F ⟨v0_0, v0_1, v0_3, rfl, BS.refl, BS.refl, BS.refl, sf.f2.drop.f2.drop.f3.f1.f2.f3⟩
 cases H
 exact rt F ⟨v0_0, v0_1, v0_3, rfl, BS.refl, BS.refl, BS.refl, sa.drop.drop⟩
theorem Ot {w : World} {FF : List Nat} {g1 : Nat} {v1_0 : Value} {a0 : Int} {a1 : List UInt8} {r : Int × (List UInt8)} (hst : B1 [A8 g1 42 [v1_0]] w FF) (hr1_0 : Rd Ty.u8 w FF v1_0 a1) (H : Ii a0 a1 = some r) :
    Calls prog 75 #[jI a0, jP g1] w (B9 fun u_ w_ => ∃ u0 : Value, u_ = jI r.1 ∧ BS Ty.u8 v1_0 a1 u0 r.2 ∧ SL w FF w_ [A8 g1 42 [u0]]) := by
 have s0 : SL w FF w [A8 g1 42 [v1_0]] := SL.init w FF hst
 refine BD func75 ntmps75 13 rfl rfl rfl fun _ F4 => ?_
 unfold Ii at H
 obtain ⟨x0, h0, H⟩ := Aa H
 obtain ⟨v0, h1, h2⟩ := WM (Eb hr1_0 s0) DX rfl h0 none (some a0) (.inr ⟨rfl, rfl⟩) (.inl rfl)
 have h3 := BS.refl.trans h2
 have h4 := BS.rd h2 hr1_0
 refine AG F4 s0 m0 1 rfl fun _ F => gx F (h1 _ _ _ _ _ .i64 .i64 _ _ _ _ _ rfl trivial rfl) 0 rfl rfl fun _ F => ?_
 obtain ⟨o0, H0, R0⟩ := Aa H
 clear H
 refine gx F (Ah rfl underlying42 (fR h4 s0)) 3 rfl rfl fun _ F => BA (fun a w_ => Fr a 30 [(0, jI a0), (1, jP g1), (4, jI o0)] ∧ SL w FF w_ [A8 g1 42 [v1_0]]) ?_ ?_
 ·have H := H0
  refine gc 1 F rfl fun _ F => Cy (FD x0) (fun s1 a w_ => Fr a 30 [(0, jI a0), (1, jP g1), (4, jI s1.1), (9, v0), (10, jI (x0.length : Int)), (11, jI s1.2)] ∧ SL w FF w_ [A8 g1 42 [v1_0]]) H ?_ ?_
  ·exact ⟨F.sb, s0⟩
  intro s1 _ w0 h5 o1 H hr
  obtain ⟨F, s2⟩ := h5
  replace H : FD x0 s1 = some o1 := H
  unfold FD at H
  refine gc 6 F rfl fun _ F => AH F H 6 4 rfl rfl rfl (fun h6 H _ F => ?_) (fun h6 H _ F => ?_)
  ·obtain ⟨x1, h7, H⟩ := Aa H
   obtain ⟨a2, h8, h9⟩ := HM Flat.u8 (Eb h4 s2) DX rfl h7
   refine gi F h8 0 rfl fun _ F => gx F (An LJ rfl (Bn.at_ h9 (o := 0) rfl)) 5 rfl rfl fun _ F => gx F (AAy rfl rfl rfl) 1 rfl rfl fun _ F => gx F (Lr rfl underlying5 underlying3) 0 rfl rfl fun _ F => ?_
   cases H
   exact gx F (AHg rfl rfl) 8 rfl rfl fun _ F => ⟨_, rfl, F.sb, s2⟩
  cases H
  obtain rfl := hr _ rfl
  exact ⟨F.sb, s2⟩
 intro _ w1 hJ
 obtain ⟨F, s3⟩ := hJ
 have H := R0
 clear R0 H0
 obtain ⟨x2, ha, H⟩ := Aa H
 obtain ⟨v1, hb, hc⟩ := WM (Eb hr1_0 s3) DX rfl ha (some a0) none (.inl rfl) (.inr ⟨rfl, rfl⟩)
 have hd := BS.refl.trans hc
 have he := BS.rd hc hr1_0
 refine ge 3 F rfl fun _ F => AG F s3 m0 1 rfl fun _ F => gx F (hb _ _ _ _ _ .i64 .i64 _ _ _ _ _ rfl rfl trivial) 0 rfl rfl fun _ F => Ay F s3 rfl rfl Vs (Ag (fR he s3)) (Aq (fR he s3)) rfl fun w2 _ F s4 => gw 9 F rfl fun _ F => AH F H 3 9 rfl rfl rfl (fun hf H _ F => ?_) (fun hf H _ F => ?_)
 ·refine gx F (SO rfl underlying3 underlying21) 0 rfl rfl fun _ F => ?_
  cases H
  exact gx F (SO rfl underlying21 underlying3) 5 rfl rfl fun _ F => rt F ⟨v1, rfl, hd, s4⟩
 cases H
 exact rt F ⟨v1, rfl, hd, s4⟩
theorem Ra {w : World} {v0 : Value} {a0 : List UInt8} {a1 : Int} {r : A9 × Int} (hr0 : Rd Ty.u8 w [] v0 a0) (H : I7 a0 a1 = some r) :
    Calls prog 48 #[v0, jI a1] w (B9 fun u_ w_ => u_ = .tuple ⟨[.agg ⟨[jI r.1.At, jU (r.1.Op.toNat : Int), jI r.1.A, jI r.1.B]⟩, jI r.2]⟩ ∧ SL w [] w_ []) := by
 have s0 : SL w [] w [] := SL.Bt w
 refine BD func48 ntmps48 2 rfl rfl rfl fun _ F0 => ?_
 unfold I7 at H
 refine Af F0 s0 DZ rfl rfl fun g8 w9 _ F s1 => gw 5 F rfl fun _ F => gx F (Al (vs := []) DZ SV rfl (cs := [jI 0, jU 0, jI 0, jI 0]) (rfl)) 0 rfl rfl fun _ F => Af F s1 DZ rfl rfl fun g0 w0 _ F s2 => Ai F s2 rfl rfl D4 (Ab rfl (Ab rfl (Ab rfl (Ab rfl Ap)))) (Ac rfl) fun w1 _ F s3 => gw 9 F rfl fun _ F => BB 16 F H (fun h0 H F => ?_) (fun h0 H F => ?_)
 ·refine gw 11 F rfl fun _ F => AG F s3 m0 0 rfl fun _ F => Ai F s3.f1 rfl rfl D4 (Ab rfl (Ab rfl (Ab rfl (Ab rfl Ap)))) (Ac rfl) fun w2 _ F s4 => ?_
  cases H
  refine gw 6 F rfl fun _ F => ?_
  refine Ak (rs := [.cell 4 79, .tmp 5]) (vs := [.agg ⟨[jI 0, jU 0, jI 0, jI 0]⟩, jI 1]) F (by rfl) ⟨_, _, rfl, Am s4 m0 rfl Eh rfl, _, _, rfl, Ao rfl, rfl⟩ ⟨_, rfl, ⟨rfl, s4.drop.drop⟩⟩
 refine gw 2 F rfl fun _ F => AK F rfl rfl <| gx F (Ah rfl underlying42 (fR hr0 s3)) 5 rfl rfl fun _ F => AH F H 2 4 rfl rfl rfl (fun h1 H _ F => ?_) (fun h1 H _ F => ?_)
 ·refine AG F s3 m0 0 rfl fun _ F => Ai F s3.f1 rfl rfl D4 (Ab rfl (Ab rfl (Ab rfl (Ab rfl Ap)))) (Ac rfl) fun w3 _ F s5 => ?_
  cases H
  refine gw 6 F rfl fun _ F => ?_
  refine Ak (rs := [.cell 4 79, .tmp 5]) (vs := [.agg ⟨[jI 0, jU 0, jI 0, jI 0]⟩, jI 1]) F (by rfl) ⟨_, _, rfl, Am s5 m0 rfl Eh rfl, _, _, rfl, Ao rfl, rfl⟩ ⟨_, rfl, ⟨rfl, s5.drop.drop⟩⟩
 refine gx F (Ah rfl underlying42 (fR hr0 s3)) 4 rfl rfl fun _ F => AH F H 2 4 rfl rfl rfl (fun h2 H _ F => ?_) (fun h2 H _ F => ?_)
 ·refine AG F s3 m0 0 rfl fun _ F => Ai F s3.f1 rfl rfl D4 (Ab rfl (Ab rfl (Ab rfl (Ab rfl Ap)))) (Ac rfl) fun w4 _ F s6 => ?_
  cases H
  refine gw 6 F rfl fun _ F => ?_
  refine Ak (rs := [.cell 4 79, .tmp 5]) (vs := [.agg ⟨[jI 0, jU 0, jI 0, jI 0]⟩, jI 2]) F (by rfl) ⟨_, _, rfl, Am s6 m0 rfl Eh rfl, _, _, rfl, Ao rfl, rfl⟩ ⟨_, rfl, ⟨rfl, s6.drop.drop⟩⟩
 obtain ⟨x0, h3, H⟩ := Aa H
 obtain ⟨a2, h4, h5⟩ := HM Flat.u8 (Eb hr0 s3) DX rfl h3
 obtain ⟨x1, h6, H⟩ := Aa H
 refine gi F h4 0 rfl fun _ F => gx F (An LJ rfl (Bn.at_ h5 (o := 0) rfl)) 0 rfl rfl fun _ F => B5 F s3 (J4 h6) 4 rfl rfl rfl rfl fun w5 _ F s7 => AH F H 2 3 rfl rfl rfl (fun h7 H _ F => ?_) (fun h7 H _ F => ?_)
 ·refine AG F s7 m0 0 rfl fun _ F => Ai F s7.f1 rfl rfl D4 (Ab rfl (Ab rfl (Ab rfl (Ab rfl Ap)))) (Ac rfl) fun w6 _ F s8 => ?_
  cases H
  refine gw 6 F rfl fun _ F => ?_
  refine Ak (rs := [.cell 4 79, .tmp 5]) (vs := [.agg ⟨[jI 0, jU 0, jI 0, jI 0]⟩, jI 40]) F (by rfl) ⟨_, _, rfl, Am s8 m0 rfl Eh rfl, _, _, rfl, Ao rfl, rfl⟩ ⟨_, rfl, ⟨rfl, s8.drop.drop⟩⟩
 obtain ⟨x2, h8, H⟩ := Aa H
 obtain ⟨a3, h9, ha⟩ := HM Flat.u8 (Eb hr0 s7) DX rfl h8
 obtain ⟨x3, hb, H⟩ := Aa H
 refine gx F (Ah rfl underlying42 (fR hr0 s7)) 4 rfl rfl fun _ F => gi F h9 0 rfl fun _ F => gx F (An LJ rfl (Bn.at_ ha (o := 0) rfl)) 0 rfl rfl fun _ F => B5 F s7 (J4 hb) 4 rfl rfl rfl rfl fun w7 _ F s9 => AH F H 2 8 rfl rfl rfl (fun hc H _ F => ?_) (fun hc H _ F => ?_)
 ·refine AG F s9 m0 0 rfl fun _ F => Ai F s9.f1 rfl rfl D4 (Ab rfl (Ab rfl (Ab rfl (Ab rfl Ap)))) (Ac rfl) fun w8 _ F sa => ?_
  cases H
  refine gw 6 F rfl fun _ F => ?_
  refine Ak (rs := [.cell 4 79, .tmp 5]) (vs := [.agg ⟨[jI 0, jU 0, jI 0, jI 0]⟩, jI 2]) F (by rfl) ⟨_, _, rfl, Am sa m0 rfl Eh rfl, _, _, rfl, Ao rfl, rfl⟩ ⟨_, rfl, ⟨rfl, sa.drop.drop⟩⟩
 obtain ⟨x4, hd, H⟩ := Aa H
 obtain ⟨a4, he, hf⟩ := HM Flat.u8 (Eb hr0 s9) DX rfl hd
 refine gi F he 0 rfl fun _ F => gx F (An LJ rfl (Bn.at_ hf (o := 0) rfl)) 0 rfl rfl fun _ F => gx F (Al (vs := [jI a1, jU (x4.toNat : Int)]) DZ SV rfl (cs := [jI a1, jU (x4.toNat : Int), jI 0, jI 0]) (rfl)) 0 rfl rfl fun _ F => Af F s9 DZ rfl rfl fun g1 wa _ F sb => Ai F sb rfl rfl D4 (Ab rfl (Ab rfl (Ab rfl (Ab rfl Ap)))) (Ac rfl) fun wb _ F sc => ?_
 obtain ⟨x5, hg, H⟩ := Aa H
 obtain ⟨v1, hh, hi⟩ := Rd.cut hr0 DX rfl hg (some (wr (a1 + 1))) none (.inl rfl) (.inr ⟨rfl, rfl⟩)
 refine gw 7 F rfl fun _ F => gx F (hh _ _ _ _ _ .i64 .i64 _ _ _ _ _ rfl rfl trivial) 0 rfl rfl fun _ F => Af F sc Ab3 rfl rfl fun g2 wc _ F sd => Ay F sd rfl rfl Vs (Ag (fR hi sd)) (Aq (fR hi sd)) rfl fun wd _ F se => gw 4 F rfl fun _ F => ?_
 obtain ⟨x6, hj, H⟩ := Aa H
 refine gx F (Gc (cs := [.tmp 8]) (vs := [jP g2]) rfl) 6 rfl rfl fun _ F => AG F se m1 0 rfl fun _ F => B5 F se (Rf hj) 11 rfl rfl rfl rfl fun we _ F sf => ?_
 obtain ⟨x7, hk, H⟩ := Aa H
 obtain ⟨G0, hl, hm, hn, ho⟩ := SL.open_ (ps := [A8 g2 42 [v1]]) (rest := [A8 g1 79 [jI a1, jU (x4.toNat : Int), jI 0, jI 0], A8 g0 79 [jI 0, jU 0, jI 0, jI 0], A8 g8 79 [jI 0, jU 0, jI 0, jI 0]]) sf
 refine Hb (args := [.tmp 67]) F YM rfl rfl (Ot (a0 := x6.1) (a1 := x5) hl (hi.pass sf hm) hk) rfl fun v2 wf _ hp F => ?_
 obtain ⟨v3, rfl, hq, hr⟩ := hp
 have sg := ho _ _ hr
 have hs := BS.rd hq hi
 refine gw 1 F rfl fun _ F => Ay F sg.f1 rfl rfl IW rfl rfl rfl fun wg _ F sh => ?_
 obtain ⟨x8, ht, H⟩ := Aa H
 obtain ⟨G1, hu, hv, hw, hx⟩ := SL.open_ (ps := [A8 g2 42 [v3]]) (rest := [A8 g1 79 [jI a1, jU (x4.toNat : Int), jI x7.1, jI 0], A8 g0 79 [jI 0, jU 0, jI 0, jI 0], A8 g8 79 [jI 0, jU 0, jI 0, jI 0]]) sh.f1
 refine gw 6 F rfl fun _ F => ?_
 refine Hb (args := [.tmp 71]) F YM rfl rfl (Ot (a0 := x6.2) (a1 := x7.2) hu (hs.pass sh.f1 hv) ht) rfl fun v4 wh _ hy F => ?_
 obtain ⟨v5, rfl, hz, h10⟩ := hy
 have si := hx _ _ h10
 have h11 := BS.rd hz hs
 refine gw 1 F rfl fun _ F => Ay F si.f1 rfl rfl IW rfl rfl rfl fun wi _ F sj => gw 6 F rfl fun _ F => AG F sj m0 2 rfl fun _ F => BB 77 F H (fun h12 H F => ?_) (fun h12 H F => ?_)
 ·refine gw 1 F rfl fun _ F => AK F rfl rfl <| AG F sj m0 4 rfl fun _ F => AH F H 2 4 rfl rfl rfl (fun h13 H _ F => ?_) (fun h13 H _ F => ?_)
  ·refine AG F sj m2 0 rfl fun _ F => Ai F sj.f3 rfl rfl D4 (Ab rfl (Ab rfl (Ab rfl (Ab rfl Ap)))) (Ac rfl) fun wj _ F sk => ?_
   cases H
   refine gw 5 F rfl fun _ F => ?_
   refine Ak (rs := [.cell 4 79, .tmp 5]) (vs := [.agg ⟨[jI 0, jU 0, jI 0, jI 0]⟩, jI 5]) F (by rfl) ⟨_, _, rfl, Am sk m0 rfl Eh rfl, _, _, rfl, Ao rfl, rfl⟩ ⟨_, rfl, ⟨rfl, sk.drop.drop.drop.drop⟩⟩
  refine AG F sj m0 0 rfl fun _ F => Ai F sj.f3 rfl rfl D4 (Ab rfl (Ab rfl (Ab rfl (Ab rfl Ap)))) (Ac rfl) fun wk _ F sl => ?_
  cases H
  refine gw 4 F rfl fun _ F => ?_
  refine Ak (rs := [.cell 4 79, .tmp 5]) (vs := [.agg ⟨[jI a1, jU (x4.toNat : Int), jI x7.1, jI x8.1]⟩, jI 0]) F (by rfl) ⟨_, _, rfl, Am sl m0 rfl Eh rfl, _, _, rfl, Ao rfl, rfl⟩ ⟨_, rfl, ⟨rfl, sl.drop.drop.drop.drop⟩⟩
 refine gw 11 F rfl fun _ F => AG F sj m0 0 rfl fun _ F => Ai F sj.f3 rfl rfl D4 (Ab rfl (Ab rfl (Ab rfl (Ab rfl Ap)))) (Ac rfl) fun wl _ F sm => ?_
 cases H
 refine gw 4 F rfl fun _ F => ?_
 refine Ak (rs := [.cell 4 79, .tmp 5]) (vs := [.agg ⟨[jI a1, jU (x4.toNat : Int), jI x7.1, jI x8.1]⟩, jI 0]) F (by rfl) ⟨_, _, rfl, Am sm m0 rfl Eh rfl, _, _, rfl, Ao rfl, rfl⟩ ⟨_, rfl, ⟨rfl, sm.drop.drop.drop.drop⟩⟩
theorem TE {w : World} {a0 : UInt8} {r : Bool} (H : MA a0 = some r) :
    Calls prog 88 #[jU (a0.toNat : Int)] w (B9 fun u_ w_ => u_ = .bool r ∧ SL w [] w_ []) := by
 have s0 : SL w [] w [] := SL.Bt w
 refine BD func88 ntmps88 10 rfl rfl rfl fun _ F => ?_
 unfold MA at H
 refine BB 5 F H (fun h0 H F => ?_) (fun h0 H F => ?_)
 ·cases H
  exact gw 11 F rfl fun _ F => rt F ⟨rfl, s0⟩
 refine gw 4 F rfl fun _ F => BB 9 F H (fun h1 H F => ?_) (fun h1 H F => ?_)
 ·cases H
  exact gw 7 F rfl fun _ F => rt F ⟨rfl, s0⟩
 cases H
 exact gw 7 F rfl fun _ F => rt F ⟨rfl, s0⟩
theorem Pb {w : World} {a0 : UInt8} {r : Bool} (H : Ks a0 = some r) :
    Calls prog 89 #[jU (a0.toNat : Int)] w (B9 fun u_ w_ => u_ = .bool r ∧ SL w [] w_ []) := by
 have s0 : SL w [] w [] := SL.Bt w
 refine BD func89 ntmps89 10 rfl rfl rfl fun _ F8 => ?_
 unfold Ks at H
 refine BB 5 F8 H (fun hb9 H F => ?_) (fun hb9 H F => ?_)
 ·cases H
  exact gw 7 F rfl fun _ F => rt F ⟨rfl, s0⟩
 cases H
 exact gw 7 F rfl fun _ F => rt F ⟨rfl, s0⟩
theorem PD {w : World} {FF : List Nat} {g0 g0_4 g0_5 g0_6 : Nat} {v0_0 v0_1 v0_3 : Value} {a0 : AV} {a1 : Int} {r : Int × AV} (hst : B1 [A8 g0 154 [v0_0, v0_1, jI a0.e.Fn, v0_3, .map (some g0_4), .map (some g0_5), .map (some g0_6), jI a0.BU], Mp (Value.int .i64) (fun x : A4 => Value.agg ⟨(jI x.Locals :: jI x.Height :: AU x.Slots)⟩) g0_4 a0.frames, Mp (Value.int .i64) (fun _ : Unit => Value.agg ⟨[]⟩) g0_5 a0.fresh, Mp (Value.int .i64) (Value.int .i64) g0_6 a0.taken] w FF) (hr0_0 : Rd AB w FF v0_0 a0.e.Classes) (hr0_1 : Rd B8 w FF v0_1 a0.e.AQ) (hr0_3 : Rd Ty.u8 w FF v0_3 a0.code) (H : He a0 a1 = some r) :
    Calls prog 105 #[jP g0, jI a1] w (B9 fun u_ w_ => ∃ u0 u1 u2 : Value, u_ = jI r.1 ∧ BS AB v0_0 a0.e.Classes u0 r.2.e.Classes ∧ BS B8 v0_1 a0.e.AQ u1 r.2.e.AQ ∧ BS Ty.u8 v0_3 a0.code u2 r.2.code ∧ SL w FF w_ [A8 g0 154 [u0, u1, jI r.2.e.Fn, u2, .map (some g0_4), .map (some g0_5), .map (some g0_6), jI r.2.BU], Mp (Value.int .i64) (fun x : A4 => Value.agg ⟨(jI x.Locals :: jI x.Height :: AU x.Slots)⟩) g0_4 r.2.frames, Mp (Value.int .i64) (fun _ : Unit => Value.agg ⟨[]⟩) g0_5 r.2.fresh, Mp (Value.int .i64) (Value.int .i64) g0_6 r.2.taken]) := by
 have s0 : SL w FF w [A8 g0 154 [v0_0, v0_1, jI a0.e.Fn, v0_3, .map (some g0_4), .map (some g0_5), .map (some g0_6), jI a0.BU], Mp (Value.int .i64) (fun x : A4 => Value.agg ⟨(jI x.Locals :: jI x.Height :: AU x.Slots)⟩) g0_4 a0.frames, Mp (Value.int .i64) (fun _ : Unit => Value.agg ⟨[]⟩) g0_5 a0.fresh, Mp (Value.int .i64) (Value.int .i64) g0_6 a0.taken] := SL.init w FF hst
 refine BD func105 ntmps105 11 rfl rfl rfl fun _ F9 => ?_
 unfold He at H
 refine Ay F9 s0 rfl rfl IW rfl rfl rfl fun w0 _ F s1 => gw 9 F rfl fun _ F => AG F s1 m0 0 rfl fun _ F => gx F (Ah rfl underlying42 (fR hr0_3 s1)) 3 rfl rfl fun _ F => AH F H 7 7 rfl rfl rfl (fun h0 H _ F => ?_) (fun h0 H _ F => ?_)
 ·cases H
  exact rt F ⟨v0_0, v0_1, v0_3, rfl, BS.refl, BS.refl, BS.refl, s1⟩
 obtain ⟨x0, h1, H⟩ := Aa H
 refine AG F s1 m0 1 rfl fun _ F => B5 F s1 (Ra (hr0_3.AN s1) h1) 3 rfl rfl rfl rfl fun w1 _ F s2 => Af F s2 DZ rfl rfl fun g1 w2 _ F s3 => Ai F s3 rfl rfl D4 (Ab rfl (Ab rfl (Ab rfl (Ab rfl Ap)))) (Ac rfl) fun w3 _ F s4 => gw 10 F rfl fun _ F => AH F H 8 6 rfl rfl rfl (fun h2 H _ F => ?_) (fun h2 H _ F => ?_)
 ·cases H
  exact rt F ⟨v0_0, v0_1, v0_3, rfl, BS.refl, BS.refl, BS.refl, s4.drop⟩
 obtain ⟨x1, h3, H⟩ := Aa H
 refine AG F s4 m0 0 rfl fun _ F => ?_
 have s5 := s4.f4.f4.f4.f4
 obtain ⟨G0, h4, h5, h6, h7⟩ := SL.open_ (ps := [A8 g0 154 [v0_0, v0_1, jI a0.e.Fn, v0_3, .map (some g0_4), .map (some g0_5), .map (some g0_6), jI a1], Mp (Value.int .i64) (fun x : A4 => Value.agg ⟨(jI x.Locals :: jI x.Height :: AU x.Slots)⟩) g0_4 a0.frames, Mp (Value.int .i64) (fun _ : Unit => Value.agg ⟨[]⟩) g0_5 a0.fresh, Mp (Value.int .i64) (Value.int .i64) g0_6 a0.taken]) (rest := [A8 g1 79 [jI x0.1.At, jU (x0.1.Op.toNat : Int), jI x0.1.A, jI x0.1.B]]) s5
 refine Df F (Qf (a0 := (⟨(⟨a0.e.Classes, a0.e.AQ, a0.e.Fn⟩ : AA), a0.code, a0.frames, a0.fresh, a0.taken, a1⟩ : AV)) h4 (hr0_0.pass s5 h5) (hr0_1.pass s5 h5) (hr0_3.pass s5 h5) h3) fun v0 w4 _ h8 F => ?_
 obtain ⟨v1, v2, v3, rfl, h9, ha, hb, hc⟩ := h8
 have s6 := h7 _ _ hc
 have hd := BS.rd h9 hr0_0
 have he := BS.trans BS.refl h9
 have hf := BS.rd ha hr0_1
 have hg := BS.trans BS.refl ha
 have hh := BS.rd hb hr0_3
 have hi := BS.trans BS.refl hb
 refine gw 3 F rfl fun _ F => AH F H 7 3 rfl rfl rfl (fun hj H _ F => ?_) (fun hj H _ F => ?_)
 ·cases H
  exact rt F ⟨v1, v2, v3, rfl, he, hg, hi, s6.f4.drop⟩
 obtain ⟨x2, hk, H⟩ := Aa H
 refine Cq Bq s6 ?_
 have s7 := s6.drew
 refine hq [0, 1, 2, 3, 4, 5, 6, 7, 8, 9, 10] F s7 (QI.ev 3 rfl <| QI.op rfl (fun _ hC => Av Ln rfl (hC.Dk m0 (o := 0) (ds := [v1, v2, jI x1.2.e.Fn]) (OR _ rfl)) rfl) rfl <| QI.ev 3 rfl <| QI.ld m0 rfl <| QI.ev 1 rfl <| QI.op rfl (fun _ hC => Wa (k := a1) (z0 := (⟨(0 : Int), (0 : Int), (Vector.replicate 24 (0 : UInt8))⟩ : A4)) hC m1 underlying150 Hk TX rfl rfl) rfl <| QI.ld m4 rfl <| QI.nil) (by kernel_rfl) fun _ F => ?_
 refine CJ [0, 1, 2, 3, 4, 5, 6, 7, 8, 9, 10, 11, 12, 13, 14, 15, 16] (fun a w_ => ∃ g2 : Nat, Fr a 111 [(0, jP g0), (1, jI a1), (5, jP g1), (6, jI x0.2), (7, jP g2), (54, jI x2.2)] ∧ SL w FF w_ [A8 g0 154 [v1, v2, jI x1.2.e.Fn, v3, .map (some g0_4), .map (some g0_5), .map (some g0_6), jI x1.2.BU], Mp (Value.int .i64) (fun x : A4 => Value.agg ⟨(jI x.Locals :: jI x.Height :: AU x.Slots)⟩) g0_4 x1.2.frames, Mp (Value.int .i64) (fun _ : Unit => Value.agg ⟨[]⟩) g0_5 x1.2.fresh, Mp (Value.int .i64) (Value.int .i64) g0_6 x1.2.taken, A8 g1 79 [jI x0.1.At, jU (x0.1.Op.toNat : Int), jI x0.1.A, jI x0.1.B], A8 g2 118 (jI x2.1.Locals :: jI x2.1.Height :: AU x2.1.Slots)]) ?_ fun hD0 => ?_
 ·rintro a w_ ⟨g2, F, s8⟩
  refine hq [17] F s8.f5.drop (QI.ev 1 rfl <| QI.nil) (by kernel_rfl) fun _ F => ?_
  refine CP (by kernel_rfl) ?_
  refine ge 8 F rfl fun _ F => AH F H 8 11 rfl rfl rfl (fun hl H _ F => ?_) (fun hl H _ F => ?_)
  ·cases H
   exact rt F ⟨v1, v2, v3, rfl, he, hg, hi, s8.f4.drop.f4.drop⟩
  obtain ⟨x3, hm, H⟩ := Aa H
  refine AG F s8 m4 0 rfl fun _ F => B5 F s8 (J4 hm) 5 rfl rfl rfl rfl fun w5 _ F s9 => ?_
  obtain ⟨o0, H0, R0⟩ := Aa H
  clear H
  refine BA (fun a w_ => ∃ p0 : (List Int), o0 = .inr (p0) ∧ ∃ v4 : Value, Fr a 111 [(0, jP g0), (5, jP g1), (7, jP g2), (8, v4), (9, jI (wr (a1 + x3)))] ∧ SL w FF w_ [A8 g0 154 [v1, v2, jI x1.2.e.Fn, v3, .map (some g0_4), .map (some g0_5), .map (some g0_6), jI x1.2.BU], Mp (Value.int .i64) (fun x : A4 => Value.agg ⟨(jI x.Locals :: jI x.Height :: AU x.Slots)⟩) g0_4 x1.2.frames, Mp (Value.int .i64) (fun _ : Unit => Value.agg ⟨[]⟩) g0_5 x1.2.fresh, Mp (Value.int .i64) (Value.int .i64) g0_6 x1.2.taken, A8 g1 79 [jI x0.1.At, jU (x0.1.Op.toNat : Int), jI x0.1.A, jI x0.1.B], A8 g2 118 (jI x2.1.Locals :: jI x2.1.Height :: AU x2.1.Slots), Sl (Ty.int .i64) v4 p0]) ?_ ?_
  ·have H := H0
   obtain ⟨x4, hn, H⟩ := Aa H
   refine gc 3 F rfl fun _ F => AG F s9 m4 0 rfl fun _ F => B5 F s9 (Pb hn) 2 rfl rfl rfl rfl fun w6 _ F sa => AH F H 2 1 rfl rfl rfl (fun hp H _ F => ?_) (fun hp H _ F => ?_)
   ·refine HA Bq sa F (QR.ev 1 rfl <| QR.ld m4 rfl <| QR.ev 3 rfl <| QR.ld m0 rfl <| QR.qo (fun _ hC => Ah rfl underlying42 (JI (Eb hh hC))) rfl <| QR.ev 1 rfl <| Bb) fun w7 _ sc F => ge 1 F rfl fun _ F => AH F H 9 5 rfl rfl rfl (fun hs H _ F => ?_) (fun hs H _ F => ?_)
    ·cases H
     replace H := R0
     try dsimp only at H
     cases H
     exact rt F ⟨v1, v2, v3, rfl, he, hg, hi, sc.f4.drop.f4.drop⟩
    refine AG F sc m4 0 rfl fun _ F => ?_
    refine Ae (parts := [(0, .tmp 76)]) (Flat.int .i64) ([x0.1.A] : List Int) F sc Bz rfl (by decide) rfl rfl rfl (by simp [Value.cells]) rfl rfl rfl fun v5 w8 _ F sd => ?_
    obtain ⟨x5, ht, H⟩ := Aa H
    have se := (SL.BI (T := (Ty.int .i64)) sd)
    obtain ⟨_, hr_⟩ := (se.BK m1)
    refine Aw (Flat.int .i64) F se Bz rfl rfl rfl rfl hr_ rfl rfl ht rfl fun v6 w9 _ F sf => ?_
    have s580' := sf.f1.drop
    cases H
    exact gw 2 F rfl fun _ F => ⟨_, rfl, v6, F.sb, s580'.f6.f6.f6.f6.f6.f6⟩
   cases H
   exact ⟨_, rfl, (.slice none 0 0), F.sb, (SL.BI (T := (Ty.int .i64)) sa).f6.f6.f6.f6.f6.f6⟩
  intro _ wa hJ
  obtain ⟨p0, rfl, v4, F, sg⟩ := hJ
  have H := R0
  clear R0 H0
  try dsimp only at H
  obtain ⟨o1, H1, R1⟩ := Aa H
  clear H
  refine ge 2 F rfl fun _ F => BA (fun a w_ => ∃ p1 : (List Int), o1 = .inr (p1) ∧ ∃ v7 : Value, Fr a 111 [(0, jP g0), (7, jP g2), (8, v7)] ∧ SL w FF w_ [A8 g0 154 [v1, v2, jI x1.2.e.Fn, v3, .map (some g0_4), .map (some g0_5), .map (some g0_6), jI x1.2.BU], Mp (Value.int .i64) (fun x : A4 => Value.agg ⟨(jI x.Locals :: jI x.Height :: AU x.Slots)⟩) g0_4 x1.2.frames, Mp (Value.int .i64) (fun _ : Unit => Value.agg ⟨[]⟩) g0_5 x1.2.fresh, Mp (Value.int .i64) (Value.int .i64) g0_6 x1.2.taken, A8 g2 118 (jI x2.1.Locals :: jI x2.1.Height :: AU x2.1.Slots), Sl (Ty.int .i64) v7 p1]) ?_ ?_
  ·have H := H1
   obtain ⟨x6, hu, H⟩ := Aa H
   refine gc 3 F rfl fun _ F => AG F sg m4 0 rfl fun _ F => B5 F sg (TE hu) 3 rfl rfl rfl rfl fun wb _ F sh => AH F H 7 1 rfl rfl rfl (fun hv H _ F => ?_) (fun hv H _ F => ?_)
   ·refine AG F sh m0 0 rfl fun _ F => gx F (Ah rfl underlying42 (fR hh sh)) 3 rfl rfl fun _ F => AH F H 9 5 rfl rfl rfl (fun hw H _ F => ?_) (fun hw H _ F => ?_)
    ·cases H
     replace H := R1
     try dsimp only at H
     cases H
     exact rt F ⟨v1, v2, v3, rfl, he, hg, hi, sh.f4.drop.f4.drop.f4.drop⟩
    refine Ae (parts := [(0, .tmp 91)]) (Flat.int .i64) ([wr (a1 + x3)] : List Int) F sh Bz rfl (by decide) rfl rfl rfl (by simp [Value.cells]) rfl rfl rfl fun v8 wc _ F si => ?_
    obtain ⟨x7, hx, H⟩ := Aa H
    obtain ⟨_, hr_⟩ := (si.f7.BK m1)
    refine Aw (Flat.int .i64) F si.f7 Bz rfl rfl rfl rfl hr_ rfl rfl hx rfl fun v9 wd _ F sj => ?_
    have s854' := sj.f1.drop
    cases H
    exact gw 2 F rfl fun _ F => ⟨_, rfl, v9, F.sb, s854'.f5.drop.f5.f5.f5.f5.f5⟩
   cases H
   exact ⟨_, rfl, v4, F.sb, sh.f4.drop⟩
  intro _ we hJ
  obtain ⟨p1, rfl, v7, F, sk⟩ := hJ
  have H := R1
  clear R1 H1
  try dsimp only at H
  obtain ⟨x8, hy, H⟩ := Aa H
  obtain ⟨G1, hz, h10, h11, h12⟩ := SL.open_ (ps := [Sl (Ty.int .i64) v7 p1]) (rest := [A8 g0 154 [v1, v2, jI x1.2.e.Fn, v3, .map (some g0_4), .map (some g0_5), .map (some g0_6), jI x1.2.BU], Mp (Value.int .i64) (fun x : A4 => Value.agg ⟨(jI x.Locals :: jI x.Height :: AU x.Slots)⟩) g0_4 x1.2.frames, Mp (Value.int .i64) (fun _ : Unit => Value.agg ⟨[]⟩) g0_5 x1.2.fresh, Mp (Value.int .i64) (Value.int .i64) g0_6 x1.2.taken, A8 g2 118 (jI x2.1.Locals :: jI x2.1.Height :: AU x2.1.Slots)]) sk.f5
  refine ge 4 F rfl fun _ F => As (args := [.tmp 94]) F Tf rfl (TM Px hz hy) rfl fun va wf _ h13 F => ?_
  obtain ⟨rfl, h14⟩ := h13
  have sl := h12 _ _ h14
  obtain ⟨x9, h15, H⟩ := Aa H
  obtain ⟨G2, h16, h17, h18, h19⟩ := SL.open_ (ps := [Sl (Ty.int .i64) v7 x8]) (rest := [A8 g0 154 [v1, v2, jI x1.2.e.Fn, v3, .map (some g0_4), .map (some g0_5), .map (some g0_6), jI x1.2.BU], Mp (Value.int .i64) (fun x : A4 => Value.agg ⟨(jI x.Locals :: jI x.Height :: AU x.Slots)⟩) g0_4 x1.2.frames, Mp (Value.int .i64) (fun _ : Unit => Value.agg ⟨[]⟩) g0_5 x1.2.fresh, Mp (Value.int .i64) (Value.int .i64) g0_6 x1.2.taken, A8 g2 118 (jI x2.1.Locals :: jI x2.1.Height :: AU x2.1.Slots)]) sl
  refine gw 6 F rfl fun _ F => As (args := [.tmp 96]) F YJ rfl (Tq Su h16 h15) rfl fun vb wg _ h1a F => ?_
  have sm := h19 _ _ h1a
  obtain ⟨o2, H2, R2⟩ := Aa H
  clear H
  refine gx F (Ah rfl underlying28 (fO sm m0)) 3 rfl rfl fun _ F => BA (fun a w_ => ∃ p2 : (List A6) × (List Bl) × Int × (List UInt8) × Int × (List (Int × A4)) × (List (Int × Unit)) × (List (Int × Int)), o2 = .inr (p2) ∧ ∃ vc vd ve : Value, Rd AB w FF vc p2.1 ∧ Rd B8 w FF vd p2.2.1 ∧ Rd Ty.u8 w FF ve p2.2.2.2.1 ∧ BS AB v0_0 a0.e.Classes vc p2.1 ∧ BS B8 v0_1 a0.e.AQ vd p2.2.1 ∧ BS Ty.u8 v0_3 a0.code ve p2.2.2.2.1 ∧ Fr a 111 [] ∧ SL w FF w_ [A8 g0 154 [vc, vd, jI p2.2.2.1, ve, .map (some g0_4), .map (some g0_5), .map (some g0_6), jI p2.2.2.2.2.1], Mp (Value.int .i64) (fun x : A4 => Value.agg ⟨(jI x.Locals :: jI x.Height :: AU x.Slots)⟩) g0_4 p2.2.2.2.2.2.1, Mp (Value.int .i64) (fun _ : Unit => Value.agg ⟨[]⟩) g0_5 p2.2.2.2.2.2.2.1, Mp (Value.int .i64) (Value.int .i64) g0_6 p2.2.2.2.2.2.2.2]) ?_ ?_
  ·have H := H2
   refine gc 1 F rfl fun _ F => Cy (Du x2 x9) (fun sn a w_ => ∃ vf vg vh : Value, Rd AB w FF vf sn.1 ∧ Rd B8 w FF vg sn.2.1 ∧ Rd Ty.u8 w FF vh sn.2.2.2.1 ∧ BS AB v0_0 a0.e.Classes vf sn.1 ∧ BS B8 v0_1 a0.e.AQ vg sn.2.1 ∧ BS Ty.u8 v0_3 a0.code vh sn.2.2.2.1 ∧ Fr a 111 [(0, jP g0), (7, jP g2), (97, vb), (98, jI (x9.length : Int)), (99, jI sn.2.2.2.2.2.2.2.2)] ∧ SL w FF w_ [Sl (Ty.int .i64) vb x9, A8 g0 154 [vf, vg, jI sn.2.2.1, vh, .map (some g0_4), .map (some g0_5), .map (some g0_6), jI sn.2.2.2.2.1], Mp (Value.int .i64) (fun x : A4 => Value.agg ⟨(jI x.Locals :: jI x.Height :: AU x.Slots)⟩) g0_4 sn.2.2.2.2.2.1, Mp (Value.int .i64) (fun _ : Unit => Value.agg ⟨[]⟩) g0_5 sn.2.2.2.2.2.2.1, Mp (Value.int .i64) (Value.int .i64) g0_6 sn.2.2.2.2.2.2.2.1, A8 g2 118 (jI x2.1.Locals :: jI x2.1.Height :: AU x2.1.Slots)]) H ?_ ?_
   ·exact ⟨v1, v2, v3, hd, hf, hh, he, hg, hi, F.sb, sm⟩
   intro sn _ wh h1b o3 H hr
   obtain ⟨vf, vg, vh, h1c, h1d, h1e, h1f, h1g, h1h, F, so⟩ := h1b
   replace H : Du x2 x9 sn = some o3 := H
   unfold Du at H
   refine gc 6 F rfl fun _ F => AH F H 6 4 rfl rfl rfl (fun h1i H _ F => ?_) (fun h1i H _ F => ?_)
   ·obtain ⟨xa, h1j, H⟩ := Aa H
    obtain ⟨a2, h1k, h1l⟩ := Ax (Flat.int .i64) so m0 Bz rfl h1j
    refine gi F h1k 0 rfl fun _ F => ?_
    obtain ⟨xb, h1m, H⟩ := Aa H
    refine gx F (An BE rfl (Bn.at_ (SL.C0 (Flat.int .i64) so m0 h1l h1j) (o := 0) rfl)) 7 rfl rfl fun _ F => D3 F so m5 0 rfl fun _ F => ?_
    have sp := so.f4.f4.f4.f4
    obtain ⟨G3, h1n, h1o, h1p, h1q⟩ := SL.open_ (ps := [A8 g0 154 [vf, vg, jI sn.2.2.1, vh, .map (some g0_4), .map (some g0_5), .map (some g0_6), jI sn.2.2.2.2.1], Mp (Value.int .i64) (fun x : A4 => Value.agg ⟨(jI x.Locals :: jI x.Height :: AU x.Slots)⟩) g0_4 sn.2.2.2.2.2.1, Mp (Value.int .i64) (fun _ : Unit => Value.agg ⟨[]⟩) g0_5 sn.2.2.2.2.2.2.1, Mp (Value.int .i64) (Value.int .i64) g0_6 sn.2.2.2.2.2.2.2.1]) (rest := [Sl (Ty.int .i64) vb x9, A8 g2 118 (jI x2.1.Locals :: jI x2.1.Height :: AU x2.1.Slots)]) sp
    refine Df F (PG (a0 := (⟨(⟨sn.1, sn.2.1, sn.2.2.1⟩ : AA), sn.2.2.2.1, sn.2.2.2.2.2.1, sn.2.2.2.2.2.2.1, sn.2.2.2.2.2.2.2.1, sn.2.2.2.2.1⟩ : AV)) h1n (h1c.pass sp h1o) (h1d.pass sp h1o) (h1e.pass sp h1o) h1m) fun vi wi _ h1r F => ?_
    obtain ⟨vj, vk, vl, rfl, h1s, h1t, h1u, h1v⟩ := h1r
    have sq := h1q _ _ h1v
    have h1w := BS.rd h1s h1c
    have h1x := BS.trans h1f h1s
    have h1y := BS.rd h1t h1d
    have h1z := BS.trans h1g h1t
    have h20 := BS.rd h1u h1e
    have h21 := BS.trans h1h h1u
    refine gw 9 F rfl fun _ F => AH F H 13 7 rfl rfl rfl (fun h22 H _ F => ?_) (fun h22 H _ F => ?_)
    ·cases H
     obtain rfl := hr _ rfl
     replace H := R2
     try dsimp only at H
     cases H
     exact rt F ⟨vj, vk, vl, rfl, h1x, h1z, h21, sq.f4.drop.f4.drop⟩
    cases H
    exact ⟨_, rfl, vj, vk, vl, h1w, h1y, h20, h1x, h1z, h21, F.sb, sq.f5.f4.f4.f4.f4.f5⟩
   cases H
   obtain rfl := hr _ rfl
   exact ⟨_, rfl, vf, vg, vh, h1c, h1d, h1e, h1f, h1g, h1h, F.sb, so.drop.f4.drop⟩
  intro _ wj hJ
  obtain ⟨p2, rfl, vc, vd, ve, h23, h24, h25, h26, h27, h28, F, sr⟩ := hJ
  have H := R2
  clear R2 H2
  try dsimp only at H
  cases H
  exact ge 7 F rfl fun _ F => rt F ⟨vc, vd, ve, rfl, h26, h27, h28, sr⟩
 refine E5 11 15 rfl rfl (by kernel_rfl) ?_ ?_
 ·refine B5 F s7 (Rw (a0 := (⟨x1.2.e.Classes, x1.2.e.AQ, x1.2.e.Fn⟩ : AA)) (hd.AN s7) (hf.AN s7) hk) 1 rfl rfl rfl rfl fun wk _ F ss => ⟨ss, ?_⟩
  refine hq [12, 13, 14] F ss (QI.ev 3 rfl <| QI.nil) (by kernel_rfl) fun _ F => ?_
  refine ho 15 rfl (by kernel_rfl) ?_
  refine Af F ss AO rfl rfl fun g2 wl _ F st => gw 1 F rfl fun _ F => ⟨st.drop, ?_⟩
  refine ho 16 rfl (by kernel_rfl) ?_
  refine AP (ds := (jI x2.1.Locals :: jI x2.1.Height :: AU x2.1.Slots)) F st rfl rfl (by simpa using AX) (Ab rfl (Ab rfl (Bp _))) (by simp) fun wm _ F su => ?_
  exact gw 1 F rfl fun _ F => ⟨su.drop, BJ hD0 ⟨g2, F.sb, su.f5.f5.f5.f5.f5⟩ (by kernel_rfl)⟩
 refine Af F s7 AO rfl rfl fun g2 wl _ F st => gw 1 F rfl fun _ F => ⟨st.drop, ?_⟩
 refine ho 11 rfl (by kernel_rfl) ?_
 refine B5 F st (Rw (a0 := (⟨x1.2.e.Classes, x1.2.e.AQ, x1.2.e.Fn⟩ : AA)) (hd.AN st) (hf.AN st) hk) 1 rfl rfl rfl rfl fun wk _ F ss => ⟨ss.drop, ?_⟩
 refine hq [12, 13, 14] F ss.drop (QI.ev 3 rfl <| QI.nil) (by kernel_rfl) fun _ F => ?_
 refine ho 16 rfl (by kernel_rfl) ?_
 refine AP (ds := (jI x2.1.Locals :: jI x2.1.Height :: AU x2.1.Slots)) F ss rfl rfl (by simpa using AX) (Ab rfl (Ab rfl (Bp _))) (by simp) fun wm _ F su => ?_
 exact gw 1 F rfl fun _ F => ⟨su.drop, BJ hD0 ⟨g2, F.sb, su.f5.f5.f5.f5.f5⟩ (by kernel_rfl)⟩
def UF (p0 : Value) (q0 : List A6) (p1 : Value) (q1 : List Bl) (p2 : Value) (q2 : List UInt8) (v : Value) (s : AV) (qs : List Ck) : Prop := ∃ k0 k1 k2 k3 : Nat, ∃ v0 v1 v2 : Value, v = jP k0 ∧ BS AB p0 q0 v0 s.e.Classes ∧ BS B8 p1 q1 v1 s.e.AQ ∧ BS Ty.u8 p2 q2 v2 s.code ∧ qs = [A8 k0 154 [v0, v1, jI s.e.Fn, v2, .map (some k1), .map (some k2), .map (some k3), jI s.BU], Mp (Value.int .i64) (fun x : A4 => Value.agg ⟨(jI x.Locals :: jI x.Height :: AU x.Slots)⟩) k1 s.frames, Mp (Value.int .i64) (fun _ : Unit => Value.agg ⟨[]⟩) k2 s.fresh, Mp (Value.int .i64) (Value.int .i64) k3 s.taken]
theorem Vp {w : World} {v0_0 v0_1 v2 : Value} {a0 : AA} {a1 : Int} {a2 : List UInt8} {r : (Option AV) × Int × Int} (hr0_0 : Rd AB w [] v0_0 a0.Classes) (hr0_1 : Rd B8 w [] v0_1 a0.AQ) (hr2 : Rd Ty.u8 w [] v2 a2) (H : Nm a0 a1 a2 = some r) :
    Calls prog 71 #[.agg ⟨[v0_0, v0_1, jI a0.Fn]⟩, jI a1, v2] w (B9 fun u_ w_ => ∃ u0 : Value, u_ = .tuple ⟨[u0, jI r.2.1, jI r.2.2]⟩ ∧ SL w [] w_ [Xi u0 r.1 (UF v0_0 a0.Classes v0_1 a0.AQ v2 a2 u0)]) := by
 have s0 : SL w [] w [] := SL.Bt w
 refine BD func71 ntmps71 2 rfl rfl rfl fun _ F0 => ?_
 unfold Nm at H
 refine Ar F0 s0 rfl rfl rfl fun g8 w9 _ F s1 => gw 5 F rfl fun _ F => sck 0 rfl ?_
 obtain ⟨x0, h0, H⟩ := Aa H
 refine gc 3 F rfl fun _ F => AG F s1 m0 1 rfl fun _ F => B5 F s1 (Ym (a0 := (⟨a0.Classes, a0.AQ, a0.Fn⟩ : AA)) (hr0_0.AN s1) (hr0_1.AN s1) h0) 9 rfl rfl rfl rfl fun w0 _ F s2 => AH F H 11 6 rfl rfl rfl (fun h1 H _ F => ?_) (fun h1 H _ F => ?_)
 ·cases H
  exact rt F ⟨(.pointer none), rfl, (SL.Pn s2).f1.drop⟩
 refine gx F (Ah rfl underlying42 (fR hr2 s2)) 3 rfl rfl fun _ F => AH F H 10 3 rfl rfl rfl (fun h2 H _ F => ?_) (fun h2 H _ F => ?_)
 ·cases H
  exact rt F ⟨(.pointer none), rfl, (SL.Pn s2).f1.drop⟩
 obtain ⟨x1, h3, H⟩ := Aa H
 obtain ⟨x2, h4, H⟩ := Aa H
 refine Cq Bq s2 ?_
 obtain ⟨a3, c0, G0, h5, h6, h7, h8⟩ := Rd.idx hr0_1 E2 rfl h3
 obtain ⟨v0, rfl, h9⟩ := (Ga h7 h8)
 have hc157_ := h6; clear h6; have h6 := fun w_ (hC : SL w [] w_ [A8 g8 110 [v0_0, v0_1, jI a0.Fn]]) => hc157_ _ _ hC
 refine hq [0, 1, 2, 3, 4, 5, 6, 7, 8, 9] F s2.drew (QI.ev 1 rfl <| QI.ld m0 rfl <| QI.ev 1 rfl <| QI.ld m0 rfl <| QI.ev 1 rfl <| QI.ld m0 rfl <| QI.ix h5 rfl <| QI.op rfl (fun _ hC => Ba M7 rfl) rfl <| QI.op rfl (fun _ hC => An M1 rfl (Bn.at_ (h6 _ hC) (o := 0) rfl)) rfl <| QI.ev 1 rfl <| QI.nil) (by kernel_rfl) fun _ F => ?_
 refine CJ [0, 1, 2, 3, 4, 5, 6, 7, 8, 9, 10, 11, 12, 13, 14, 15] (fun a w_ => ∃ g0 : Nat, Fr a 88 [(2, v2), (3, jP g8), (10, jP g0), (38, jI x2.2)] ∧ SL w [] w_ [A8 g8 110 [v0_0, v0_1, jI a0.Fn], A8 g0 118 (jI x2.1.Locals :: jI x2.1.Height :: AU x2.1.Slots)]) ?_ fun hD0 => ?_
 ·rintro a w_ ⟨g0, F, s3⟩
  refine hq [16] F s3.f1.drop (QI.ev 1 rfl <| QI.nil) (by kernel_rfl) fun _ F => ?_
  refine CP (by kernel_rfl) ?_
  refine ge 3 F rfl fun _ F => AG F s3 m0 1 rfl fun _ F => Q6 (Value.int .i64) (fun x : A4 => Value.agg ⟨(jI x.Locals :: jI x.Height :: AU x.Slots)⟩) F s3 rfl fun g1 w1 _ F s4 => D3 F s4 m2 0 rfl fun _ F => Wh (k := 0) (u := (⟨x2.1.Locals, x2.1.Height, x2.1.Slots⟩ : A4)) F s4 underlying150 Hk rfl rfl rfl fun w2 _ F s5 => gw 1 F rfl fun _ F => Q6 (Value.int .i64) (fun _ : Unit => Value.agg ⟨[]⟩) F s5 rfl fun g2 w3 _ F s6 => gx F (Al (vs := []) QG Uk rfl (cs := []) (rfl)) 0 rfl rfl fun _ F => Wh (k := 0) (u := ()) F s6 underlying151 Hk rfl rfl rfl fun w4 _ F s7 => gw 1 F rfl fun _ F => Q6 (Value.int .i64) (Value.int .i64) F s7 rfl fun g3 w5 _ F s8 => ?_
  have ha := (fR hr0_0 s8)
  have hb := (fR hr0_1 s8)
  have hc := (fR hr2 s8)
  refine gx F (Al (vs := [.agg ⟨[v0_0, v0_1, jI a0.Fn]⟩, v2, .map (some g1), .map (some g2), .map (some g3)]) YZ Aox rfl (cs := [v0_0, v0_1, jI a0.Fn, v2, .map (some g1), .map (some g2), .map (some g3), jI 0]) (Xm (pre := []) (zs := [.slice none 0 0, .slice none 0 0, jI 0]) (post := [.slice none 0 0, .map none, .map none, .map none, jI 0]) rfl rfl <| Do rfl (Ag hc) (by simp) <| Do rfl rfl (by simp) <| Do rfl rfl (by simp) <| Do rfl rfl (by simp) <| BG)) 0 rfl rfl fun _ F => ?_
  refine Ar F s8 rfl rfl rfl fun g4 w6 _ F s9 => ?_
  obtain ⟨o0, H0, R0⟩ := Aa H
  clear H
  refine gw 12 F rfl fun _ F => BA (fun a w_ => ∃ v1 v3 v4 : Value, Rd AB w [] v1 o0.1 ∧ Rd B8 w [] v3 o0.2.1 ∧ Rd Ty.u8 w [] v4 o0.2.2.2.1 ∧ BS AB v0_0 a0.Classes v1 o0.1 ∧ BS B8 v0_1 a0.AQ v3 o0.2.1 ∧ BS Ty.u8 v2 a2 v4 o0.2.2.2.1 ∧ Fr a 88 [(12, jP g4), (13, jI o0.2.2.2.2.2.2.2.2)] ∧ SL w [] w_ [A8 g4 154 [v1, v3, jI o0.2.2.1, v4, .map (some g1), .map (some g2), .map (some g3), jI o0.2.2.2.2.1], Mp (Value.int .i64) (fun x : A4 => Value.agg ⟨(jI x.Locals :: jI x.Height :: AU x.Slots)⟩) g1 o0.2.2.2.2.2.1, Mp (Value.int .i64) (fun _ : Unit => Value.agg ⟨[]⟩) g2 o0.2.2.2.2.2.2.1, Mp (Value.int .i64) (Value.int .i64) g3 o0.2.2.2.2.2.2.2.1]) ?_ ?_
  ·have H := H0
   refine gc 1 F rfl fun _ F => Cy (Gb a2) (fun sa a w_ => ∃ v5 v6 v7 : Value, Rd AB w [] v5 sa.1 ∧ Rd B8 w [] v6 sa.2.1 ∧ Rd Ty.u8 w [] v7 sa.2.2.2.1 ∧ BS AB v0_0 a0.Classes v5 sa.1 ∧ BS B8 v0_1 a0.AQ v6 sa.2.1 ∧ BS Ty.u8 v2 a2 v7 sa.2.2.2.1 ∧ Fr a 88 [(2, v2), (12, jP g4), (13, jI sa.2.2.2.2.2.2.2.2)] ∧ SL w [] w_ [A8 g4 154 [v5, v6, jI sa.2.2.1, v7, .map (some g1), .map (some g2), .map (some g3), jI sa.2.2.2.2.1], Mp (Value.int .i64) (Value.int .i64) g3 sa.2.2.2.2.2.1, Mp (Value.int .i64) (fun _ : Unit => Value.agg ⟨[]⟩) g2 sa.2.2.2.2.2.2.1, Mp (Value.int .i64) (fun x : A4 => Value.agg ⟨(jI x.Locals :: jI x.Height :: AU x.Slots)⟩) g1 sa.2.2.2.2.2.2.2.1]) H ?_ ?_
   ·exact ⟨v0_0, v0_1, v2, hr0_0, hr0_1, hr2, BS.refl, BS.refl, BS.refl, F.sb, s9.f4.drop.f4.drop⟩
   intro sa _ w7 hd o1 H hr
   obtain ⟨v5, v6, v7, he, hf, hg, hh, hi, hj, F, sc⟩ := hd
   replace H : Gb a2 sa = some o1 := H
   unfold Gb at H
   refine gc 6 F rfl fun _ F => AG F sc m0 0 rfl fun _ F => gx F (Abx sc m2 underlying151 rfl) 3 rfl rfl fun _ F => AH F H 6 4 rfl rfl rfl (fun hk H _ F => ?_) (fun hk H _ F => ?_)
   ·refine gx F (Ah rfl underlying42 (fR hr2 sc)) 9 rfl rfl fun _ F => AG F sc m0 0 rfl fun _ F => XR F sc.f2 underlying151 rfl rfl fun i0 w8 _ F sd => ?_
    obtain ⟨o2, H1, R1⟩ := Aa H
    clear H
    refine gw 2 F rfl fun _ F => BA (fun a w_ => Fr a 88 [(2, v2), (12, jP g4), (14, jI o2)] ∧ SL w [] w_ [Mp (Value.int .i64) (fun _ : Unit => Value.agg ⟨[]⟩) g2 sa.2.2.2.2.2.2.1, A8 g4 154 [v5, v6, jI sa.2.2.1, v7, .map (some g1), .map (some g2), .map (some g3), jI sa.2.2.2.2.1], Mp (Value.int .i64) (Value.int .i64) g3 sa.2.2.2.2.2.1, Mp (Value.int .i64) (fun x : A4 => Value.agg ⟨(jI x.Locals :: jI x.Height :: AU x.Slots)⟩) g1 sa.2.2.2.2.2.2.2.1]) ?_ ?_
    ·have H := H1
     obtain ⟨o3, Hr, H2⟩ := Aa H
     refine gc 1 F rfl fun _ F => AMa (FX) (fun j0 se a w_ => Fr a 88 [(2, v2), (12, jP g4), (14, jI se), (62, jP i0)] ∧ SL w [] w_ [Oi (Value.int .i64) (fun _ : Unit => Value.agg ⟨[]⟩) g2 i0 sa.2.2.2.2.2.2.1 j0, A8 g4 154 [v5, v6, jI sa.2.2.1, v7, .map (some g1), .map (some g2), .map (some g3), jI sa.2.2.2.2.1], Mp (Value.int .i64) (Value.int .i64) g3 sa.2.2.2.2.2.1, Mp (Value.int .i64) (fun x : A4 => Value.agg ⟨(jI x.Locals :: jI x.Height :: AU x.Slots)⟩) g1 sa.2.2.2.2.2.2.2.1]) Hr ?_ ?_
     ·exact ⟨F.sb, sd⟩
     clear H Hr
     intro j0 se _ wa hl hm hn
     obtain ⟨F, sf⟩ := hl
     refine gc 2 F rfl fun _ F => YI F sf rfl rfl (fun _ hp F => ?_) (fun j1 p0 wb _ hs ht hu F sg => ?_)
     ·have H := AI8 H2 (hm hp)
      try dsimp only at H
      have sh : SL w [] _ [Mp (Value.int .i64) (fun _ : Unit => Value.agg ⟨[]⟩) g2 sa.2.2.2.2.2.2.1, A8 g4 154 [v5, v6, jI sa.2.2.1, v7, .map (some g1), .map (some g2), .map (some g3), jI sa.2.2.2.2.1], Mp (Value.int .i64) (Value.int .i64) g3 sa.2.2.2.2.2.1, Mp (Value.int .i64) (fun x : A4 => Value.agg ⟨(jI x.Locals :: jI x.Height :: AU x.Slots)⟩) g1 sa.2.2.2.2.2.2.2.1] := (SL.unit sf)
      cases H
      exact gw 9 F rfl fun _ F => ⟨F.sb, sh⟩
     obtain ⟨o4, hv, hr0⟩ := hn j1 p0 hs ht hu
     replace hv : FX p0 se = some o4 := hv
     have H := hv
     unfold FX at H
     have hr := fun r' h => AJ3 H2 (hr0 r' h)
     clear hr0
     refine gw 10 F rfl fun _ F => gx F (XP sg m0 hs rfl) 7 rfl rfl fun _ F => ?_
     cases H
     exact gx F (A3h rfl rfl) 3 rfl rfl fun _ F => ⟨j1, p0, _, hs, ht, hu, hv, ⟨F.sb, sg⟩⟩
    intro _ wc hJ
    obtain ⟨F, si⟩ := hJ
    have H := R1
    clear R1 H1
    refine ge 6 F rfl fun _ F => AG F si m1 1 rfl fun _ F => ZM (k := o2) F si underlying151 Hk rfl rfl fun wd _ F sj => ?_
    obtain ⟨x3, hw, H⟩ := Aa H
    have sk := sj.f2.f1.f3.f3
    obtain ⟨G1, hx, hy, hz, h10⟩ := SL.open_ (ps := [A8 g4 154 [v5, v6, jI sa.2.2.1, v7, .map (some g1), .map (some g2), .map (some g3), jI sa.2.2.2.2.1], Mp (Value.int .i64) (fun x : A4 => Value.agg ⟨(jI x.Locals :: jI x.Height :: AU x.Slots)⟩) g1 sa.2.2.2.2.2.2.2.1, Mp (Value.int .i64) (fun _ : Unit => Value.agg ⟨[]⟩) g2 (I5 sa.2.2.2.2.2.2.1 o2), Mp (Value.int .i64) (Value.int .i64) g3 sa.2.2.2.2.2.1]) (rest := []) sk
    refine gw 6 F rfl fun _ F => Df F (PD (a0 := (⟨(⟨sa.1, sa.2.1, sa.2.2.1⟩ : AA), sa.2.2.2.1, sa.2.2.2.2.2.2.2.1, (I5 sa.2.2.2.2.2.2.1 o2), sa.2.2.2.2.2.1, sa.2.2.2.2.1⟩ : AV)) hx (he.pass sk hy) (hf.pass sk hy) (hg.pass sk hy) hw) fun v8 we _ h11 F => ?_
    obtain ⟨v9, va, vb, rfl, h12, h13, h14, h15⟩ := h11
    have sl := h10 _ _ h15
    have h16 := BS.rd h12 he
    have h17 := BS.trans hh h12
    have h18 := BS.rd h13 hf
    have h19 := BS.trans hi h13
    have h1a := BS.rd h14 hg
    have h1b := BS.trans hj h14
    refine gw 9 F rfl fun _ F => AH F H 4 2 rfl rfl rfl (fun h1c H _ F => ?_) (fun h1c H _ F => ?_)
    ·cases H
     obtain rfl := hr _ rfl
     exact ⟨v9, va, vb, h16, h18, h1a, h17, h19, h1b, F.sb, sl⟩
    cases H
    exact ⟨_, rfl, v9, va, vb, h16, h18, h1a, h17, h19, h1b, F.sb, sl.f1.f2.f3.f3⟩
   cases H
   obtain rfl := hr _ rfl
   exact ⟨v5, v6, v7, he, hf, hg, hh, hi, hj, F.sb, sc.f1.f2.f3.f3⟩
  intro _ wf hJ
  obtain ⟨v1, v3, v4, h1d, h1e, h1f, h1g, h1h, h1i, F, sm⟩ := hJ
  have H := R0
  clear R0 H0
  refine ge 8 F rfl fun _ F => AH F H 1 12 rfl rfl rfl (fun h1j H _ F => ?_) (fun h1j H _ F => ?_)
  ·refine HA Bq sm F (QR.ev 3 rfl <| QR.ld m0 rfl <| QR.ev 4 rfl <| Bb) fun wg _ sn F => ?_
   cases H
   exact ge 4 F rfl fun _ F => rt F ⟨(.pointer none), rfl, (SL.Pn sn).f1.drop.f1.drop.f1.drop.f1.drop⟩
  cases H
  exact rt F ⟨_, rfl, (SL.XZ (qs := [A8 g4 154 [v1, v3, jI o0.2.2.1, v4, .map (some g1), .map (some g2), .map (some g3), jI o0.2.2.2.2.1], Mp (Value.int .i64) (fun x : A4 => Value.agg ⟨(jI x.Locals :: jI x.Height :: AU x.Slots)⟩) g1 o0.2.2.2.2.2.1, Mp (Value.int .i64) (fun _ : Unit => Value.agg ⟨[]⟩) g2 o0.2.2.2.2.2.2.1, Mp (Value.int .i64) (Value.int .i64) g3 o0.2.2.2.2.2.2.2.1]) ⟨g4, g1, g2, g3, v1, v3, v4, rfl, h1g, h1h, h1i, rfl⟩ sm.f3.f3.f3.f3)⟩
 refine E5 10 14 rfl rfl (by kernel_rfl) ?_ ?_
 ·refine B5 F s2.drew (LP (hr0_0.AN s2.drew) (h9.AN s2.drew) h4) 1 rfl rfl rfl rfl fun wh _ F so => ⟨so, ?_⟩
  refine hq [11, 12, 13] F so (QI.ev 3 rfl <| QI.nil) (by kernel_rfl) fun _ F => ?_
  refine ho 14 rfl (by kernel_rfl) ?_
  refine Af F so AO rfl rfl fun g0 wi _ F sp => gw 1 F rfl fun _ F => ⟨sp.drop, ?_⟩
  refine ho 15 rfl (by kernel_rfl) ?_
  refine AP (ds := (jI x2.1.Locals :: jI x2.1.Height :: AU x2.1.Slots)) F sp rfl rfl (by simpa using AX) (Ab rfl (Ab rfl (Bp _))) (by simp) fun wj _ F sq => ?_
  exact gw 1 F rfl fun _ F => ⟨sq.drop, BJ hD0 ⟨g0, F.sb, sq.f1⟩ (by kernel_rfl)⟩
 refine Af F s2.drew AO rfl rfl fun g0 wi _ F sp => gw 1 F rfl fun _ F => ⟨sp.drop, ?_⟩
 refine ho 10 rfl (by kernel_rfl) ?_
 refine B5 F sp (LP (hr0_0.AN sp) (h9.AN sp) h4) 1 rfl rfl rfl rfl fun wh _ F so => ⟨so.drop, ?_⟩
 refine hq [11, 12, 13] F so.drop (QI.ev 3 rfl <| QI.nil) (by kernel_rfl) fun _ F => ?_
 refine ho 15 rfl (by kernel_rfl) ?_
 refine AP (ds := (jI x2.1.Locals :: jI x2.1.Height :: AU x2.1.Slots)) F so rfl rfl (by simpa using AX) (Ab rfl (Ab rfl (Bp _))) (by simp) fun wj _ F sq => ?_
 exact gw 1 F rfl fun _ F => ⟨sq.drop, BJ hD0 ⟨g0, F.sb, sq.f1⟩ (by kernel_rfl)⟩
theorem W2 {w : World} {v0_0 v0_1 v2 : Value} {a0 : AA} {a1 : Int} {a2 : List UInt8} {r : (List BO) × Int × Int} (hr0_0 : Rd AB w [] v0_0 a0.Classes) (hr0_1 : Rd B8 w [] v0_1 a0.AQ) (hr2 : Rd Ty.u8 w [] v2 a2) (H : Mh a0 a1 a2 = some r) :
    Calls prog 47 #[.agg ⟨[v0_0, v0_1, jI a0.Fn]⟩, jI a1, v2] w (B9 fun u_ w_ => ∃ u0 : Value, u_ = .tuple ⟨[u0, jI r.2.1, jI r.2.2]⟩ ∧ SL w [] w_ [Sl Dy u0 r.1]) := by
 have s0 : SL w [] w [] := SL.Bt w
 refine BD func47 ntmps47 2 rfl rfl rfl fun _ F0 => ?_
 unfold Mh at H
 refine Ar F0 s0 rfl rfl rfl fun g8 w9 _ F s1 => ?_
 obtain ⟨x0, h0, H⟩ := Aa H
 refine gw 7 F rfl fun _ F => AG F s1 m0 2 rfl fun _ F => Df F (Vp (a0 := (⟨a0.Classes, a0.AQ, a0.Fn⟩ : AA)) (hr0_0.AN s1) (hr0_1.AN s1) (hr2.AN s1) h0) fun v0 w0 _ h1 F => ?_
 obtain ⟨v1, rfl, h2⟩ := h1
 have s2 := s1.add h2
 refine gw 16 F rfl fun _ F => AH F H 11 9 rfl rfl rfl (fun h3 H _ F => ?_) (fun h3 H _ F => ?_)
 ·cases H
  exact rt F ⟨(.slice none 0 0), rfl, (SL.BI (T := Dy) s2).f1.drop.f1.drop⟩
 obtain ⟨x1, h4, H⟩ := Aa H
 obtain ⟨_, ⟨g0, g1, g2, g3, v3, v4, v5, rfl, h5, h6, h7, rfl⟩, s3⟩ := SL.Ti s2 h4
 have h8 := BS.rd h5 hr0_0
 have h9 := BS.rd h6 hr0_1
 have ha := BS.rd h7 hr2
 refine gc 4 F rfl fun _ F => AG F s3 m0 0 rfl fun _ F => As (args := [.tmp 30]) F A5u rfl (Ag4 TA) rfl fun v6 w1 _ hb F => ?_
 obtain ⟨g4, hc, hd⟩ := hb
 obtain rfl : v6 = clo 107 [jP g4] := hc
 have s4 : SL w [] _ [A8 g4 150 [.map (some g1)], A8 g0 154 [v3, v4, jI x1.e.Fn, v5, .map (some g1), .map (some g2), .map (some g3), jI x1.BU], Mp (Value.int .i64) (fun x : A4 => Value.agg ⟨(jI x.Locals :: jI x.Height :: AU x.Slots)⟩) g1 x1.frames, Mp (Value.int .i64) (fun _ : Unit => Value.agg ⟨[]⟩) g2 x1.fresh, Mp (Value.int .i64) (Value.int .i64) g3 x1.taken, A8 g8 110 [v0_0, v0_1, jI a0.Fn]] := SL.add s3 hd
 obtain ⟨x2, he, H⟩ := Aa H
 obtain ⟨G0, hf, hg, hh, hi⟩ := SL.open_ (ps := [Mp (Value.int .i64) (fun x : A4 => Value.agg ⟨(jI x.Locals :: jI x.Height :: AU x.Slots)⟩) g1 x1.frames, A8 g4 150 [.map (some g1)]]) (rest := [A8 g0 154 [v3, v4, jI x1.e.Fn, v5, .map (some g1), .map (some g2), .map (some g3), jI x1.BU], Mp (Value.int .i64) (fun _ : Unit => Value.agg ⟨[]⟩) g2 x1.fresh, Mp (Value.int .i64) (Value.int .i64) g3 x1.taken, A8 g8 110 [v0_0, v0_1, jI a0.Fn]]) s4.f2
 refine As (args := [.tmp 31]) F Ayw rfl (Zt Yx TA Px rfl Apm Tf Amh hf he) rfl fun v7 w2 _ hj F => ?_
 have s5 : SL w [] _ [Mp (Value.int .i64) (fun x : A4 => Value.agg ⟨(jI x.Locals :: jI x.Height :: AU x.Slots)⟩) g1 x1.frames, Sl (Ty.int .i64) v7 x2, A8 g0 154 [v3, v4, jI x1.e.Fn, v5, .map (some g1), .map (some g2), .map (some g3), jI x1.BU], Mp (Value.int .i64) (fun _ : Unit => Value.agg ⟨[]⟩) g2 x1.fresh, Mp (Value.int .i64) (Value.int .i64) g3 x1.taken, A8 g8 110 [v0_0, v0_1, jI a0.Fn]] := hi _ _ hj
 obtain ⟨o0, H0, R0⟩ := Aa H
 clear H
 refine gx F (Ah rfl underlying28 (fO s5 m1)) 3 rfl rfl fun _ F => BA (fun a w_ => ∃ v8 : Value, Fr a 51 [(12, v8)] ∧ SL w [] w_ [Mp (Value.int .i64) (fun x : A4 => Value.agg ⟨(jI x.Locals :: jI x.Height :: AU x.Slots)⟩) g1 x1.frames, Mp (Value.int .i64) (fun _ : Unit => Value.agg ⟨[]⟩) g2 x1.fresh, Mp (Value.int .i64) (Value.int .i64) g3 x1.taken, Sl Dy v8 o0]) ?_ ?_
 ·have H := H0
  refine gc 1 F rfl fun _ F => Cy (G8 x1 x2) (fun s6 a w_ => ∃ v9 : Value, Fr a 51 [(9, jP g0), (12, v9), (32, v7), (33, jI (x2.length : Int)), (34, jI s6.2)] ∧ SL w [] w_ [Mp (Value.int .i64) (fun x : A4 => Value.agg ⟨(jI x.Locals :: jI x.Height :: AU x.Slots)⟩) g1 x1.frames, Sl (Ty.int .i64) v7 x2, A8 g0 154 [v3, v4, jI x1.e.Fn, v5, .map (some g1), .map (some g2), .map (some g3), jI x1.BU], Mp (Value.int .i64) (fun _ : Unit => Value.agg ⟨[]⟩) g2 x1.fresh, Mp (Value.int .i64) (Value.int .i64) g3 x1.taken, Sl Dy v9 s6.1]) H ?_ ?_
  ·exact ⟨(.slice none 0 0), F.sb, (SL.BI (T := Dy) s5).f6.drop.f5.f5.f5.f5.f5⟩
  intro s6 _ w3 hk o1 H hr
  obtain ⟨v9, F, s7⟩ := hk
  replace H : G8 x1 x2 s6 = some o1 := H
  unfold G8 at H
  refine gc 6 F rfl fun _ F => AH F H 6 4 rfl rfl rfl (fun hl H _ F => ?_) (fun hl H _ F => ?_)
  ·obtain ⟨x3, hm, H⟩ := Aa H
   obtain ⟨a3, hn, ho⟩ := Ax (Flat.int .i64) s7 m1 Bz rfl hm
   refine gi F hn 0 rfl fun _ F => gx F (An BE rfl (Bn.at_ (SL.C0 (Flat.int .i64) s7 m1 ho hm) (o := 0) rfl)) 9 rfl rfl fun _ F => AG F s7 m2 1 rfl fun _ F => gx F (Wa (k := x3) (z0 := (⟨(0 : Int), (0 : Int), (Vector.replicate 24 (0 : UInt8))⟩ : A4)) s7 m0 underlying150 Hk TX rfl rfl) 0 rfl rfl fun _ F => ?_
   refine gx F (Al (vs := [jI x3, .agg ⟨(jI (((Cd x1.frames x3).getD (⟨(0 : Int), (0 : Int), (Vector.replicate 24 (0 : UInt8))⟩ : A4)).Locals) :: jI (((Cd x1.frames x3).getD (⟨(0 : Int), (0 : Int), (Vector.replicate 24 (0 : UInt8))⟩ : A4)).Height) :: AU (((Cd x1.frames x3).getD (⟨(0 : Int), (0 : Int), (Vector.replicate 24 (0 : UInt8))⟩ : A4)).Slots))⟩]) QH XF rfl (cs := (jI x3 :: .bool false :: jI (((Cd x1.frames x3).getD (⟨(0 : Int), (0 : Int), (Vector.replicate 24 (0 : UInt8))⟩ : A4)).Locals) :: jI (((Cd x1.frames x3).getD (⟨(0 : Int), (0 : Int), (Vector.replicate 24 (0 : UInt8))⟩ : A4)).Height) :: AU (((Cd x1.frames x3).getD (⟨(0 : Int), (0 : Int), (Vector.replicate 24 (0 : UInt8))⟩ : A4)).Slots))) (Do rfl rfl (by simp) <| Xm (pre := [jI x3, .bool false]) (zs := jZ) (post := []) (by first | rfl | simp) (by simp) <| (by first | exact BG | simp [BG]))) 0 rfl rfl fun _ F => ?_
   refine Ae (parts := [(0, .tmp 46)]) Gs ([(⟨x3, false, (⟨((Cd x1.frames x3).getD (⟨(0 : Int), (0 : Int), (Vector.replicate 24 (0 : UInt8))⟩ : A4)).Locals, ((Cd x1.frames x3).getD (⟨(0 : Int), (0 : Int), (Vector.replicate 24 (0 : UInt8))⟩ : A4)).Height, ((Cd x1.frames x3).getD (⟨(0 : Int), (0 : Int), (Vector.replicate 24 (0 : UInt8))⟩ : A4)).Slots⟩ : A4)⟩ : BO)] : List BO) F s7 KX rfl (by decide) rfl rfl rfl (by simp [Value.cells]) rfl rfl rfl fun va w4 _ F s8 => ?_
   obtain ⟨x4, hp, H⟩ := Aa H
   obtain ⟨_, hr_⟩ := (s8.f6.BK m1)
   refine Aw Gs F s8.f6 KX rfl rfl rfl rfl hr_ rfl rfl hp rfl fun vb w5 _ F s9 => ?_
   have s2277' := s9.f1.drop
   cases H
   exact gw 8 F rfl fun _ F => ⟨_, rfl, vb, F.sb, s2277'.f5.f5.f5.f5.f5⟩
  cases H
  obtain rfl := hr _ rfl
  exact ⟨v9, F.sb, s7.f1.drop.f1.drop⟩
 intro _ w6 hJ
 obtain ⟨v8, F, sa⟩ := hJ
 have H := R0
 clear R0 H0
 cases H
 exact ge 10 F rfl fun _ F => rt F ⟨v8, rfl, sa.drop.drop.drop⟩
def W9 (v : Value) (s : Cf) (qs : List Ck) : Prop := ∃ k0 : Nat, ∃ v0 : Value, v = jP k0 ∧ qs = [A8 k0 81 [v0, jI s.CW], Sl Bs v0 s.l]
theorem OY {w : World} {v0_1 v0_2 v0_3 : Value} {a0 : AL} {a1 : Int} {r : (Option Cf) × Int × Int} (hr0_1 : Rd AB w [] v0_1 a0.Classes) (hr0_2 : Rd Cc w [] v0_2 a0.Funcs) (hr0_3 : Rd (Ty.slice Ty.u8) w [] v0_3 a0.Ca) (H : Kx a0 a1 = some r) :
    Calls prog 26 #[.agg ⟨[.string ⟨⟨a0.Name⟩⟩, v0_1, v0_2, v0_3]⟩, jI a1] w (B9 fun u_ w_ => ∃ u0 : Value, u_ = .tuple ⟨[u0, jI r.2.1, jI r.2.2]⟩ ∧ SL w [] w_ [Xi u0 r.1 (W9 u0)]) := by
 have s0 : SL w [] w [] := SL.Bt w
 refine BD func26 ntmps26 2 rfl rfl rfl fun _ F0 => ?_
 unfold Kx at H
 refine Ar F0 s0 rfl rfl rfl fun g8 w9 _ F s1 => ?_
 obtain ⟨x0, h0, H⟩ := Aa H
 refine gw 7 F rfl fun _ F => AG F s1 m0 1 rfl fun _ F => Df F (Yi (a0 := (⟨a0.Name, a0.Classes, a0.Funcs, a0.Ca⟩ : AL)) (hr0_1.AN s1) (hr0_2.AN s1) (hr0_3.AN s1) h0) fun v0 w0 _ h1 F => ?_
 obtain ⟨v1, v2, rfl, h2⟩ := h1
 have s2 := s1.add h2
 refine gw 3 F rfl fun _ F => Af F s2 Gx rfl rfl fun g0 w1 _ F s3 => Ai F s3 rfl rfl J3 (Ab (Aq (fO s3 m1)) (Ab (Aq (fO s3 m2)) (Ab rfl Ap))) (Ac rfl) fun w2 _ F s4 => gw 10 F rfl fun _ F => AH F H 9 4 rfl rfl rfl (fun h3 H _ F => ?_) (fun h3 H _ F => ?_)
 ·cases H
  exact rt F ⟨(.pointer none), rfl, (SL.Pn s4).f1.drop.f1.drop.f1.drop.f1.drop⟩
 obtain ⟨x1, h4, H⟩ := Aa H
 obtain ⟨a2, c0, G0, h5, h6, h7, h8⟩ := Rd.idx hr0_2 Ke rfl h4
 obtain ⟨v3, v4, rfl, h9, ha⟩ := (Jv h7 h8)
 replace h6 := h6 _ _ s4
 refine gw 1 F rfl fun _ F => AG F s4 m3 1 rfl fun _ F => gi F h5 0 rfl fun _ F => gx F (Av My rfl h6 rfl) 0 rfl rfl fun _ F => Af F s4 Oa rfl rfl fun g1 w3 _ F s5 => Ai F s5 rfl rfl Qe (Ab rfl (Ab (Aq (fR h9 s5)) (Ab rfl (Ab rfl (Ab (Aq (fR ha s5)) Ap))))) (Ac rfl) fun w4 _ F s6 => ?_
 obtain ⟨x2, hb, H⟩ := Aa H
 refine gw 4 F rfl fun _ F => AG F s6 m1 1 rfl fun _ F => AG F s6 m0 1 rfl fun _ F => AG F s6 m0 0 rfl fun _ F => Df F (W2 (a0 := (⟨x0.1.Classes, x0.1.AQ, x0.1.Fn⟩ : AA)) (s6.rd0 m2) (s6.rd0 m3) (ha.AN s6) hb) fun v5 w5 _ hc F => ?_
 obtain ⟨v6, rfl, hd⟩ := hc
 have s7 := s6.add hd
 refine gw 16 F rfl fun _ F => AH F H 11 4 rfl rfl rfl (fun he H _ F => ?_) (fun he H _ F => ?_)
 ·cases H
  exact rt F ⟨(.pointer none), rfl, (SL.Pn s7).f1.drop.f1.drop.f1.drop.f1.drop.f1.drop.f1.drop⟩
 refine gx F (Al (vs := []) Aa7 Axr rfl (cs := [.slice none 0 0, jI 0]) (rfl)) 0 rfl rfl fun _ F => Ar F s7 rfl rfl rfl fun g2 w6 _ F s8 => gw 7 F rfl fun _ F => ?_
 obtain ⟨o0, H0, R0⟩ := Aa H
 clear H
 refine gx F (Ah rfl underlying113 (fO s8 m1)) 3 rfl rfl fun _ F => BA (fun a w_ => ∃ v7 : Value, Fr a 84 [(13, jP g2)] ∧ SL w [] w_ [A8 g2 81 [v7, jI o0.2], Sl Bs v7 o0.1]) ?_ ?_
 ·have H := H0
  refine gc 1 F rfl fun _ F => Cy (Il x1 x2) (fun s9 a w_ => ∃ v8 : Value, Fr a 84 [(9, jP g1), (13, jP g2), (47, v6), (48, jI (x2.1.length : Int)), (49, jI s9.2.2)] ∧ SL w [] w_ [A8 g2 81 [v8, jI s9.2.1], Sl Dy v6 x2.1, A8 g1 52 [.string ⟨⟨x1.Name⟩⟩, v3, jU (x1.Sig.Result.toNat : Int), jI x1.Locals, v4], Sl Bs v8 s9.1]) H ?_ ?_
  ·exact ⟨(.slice none 0 0), F.sb, (SL.BI (T := Bs) s8).f4.drop.f4.drop.f4.drop.f4.drop.f3.f3.f3⟩
  intro s9 _ w7 hf o1 H hr
  obtain ⟨v8, F, sa⟩ := hf
  replace H : Il x1 x2 s9 = some o1 := H
  unfold Il at H
  refine gc 6 F rfl fun _ F => AH F H 6 4 rfl rfl rfl (fun hg H _ F => ?_) (fun hg H _ F => ?_)
  ·obtain ⟨x3, hh, H⟩ := Aa H
   obtain ⟨a3, hi, hj⟩ := Ax Gs sa m1 KX rfl hh
   refine gi F hi 0 rfl fun _ F => ?_
   refine gx F (Av ZL rfl (SL.C0 Gs sa m1 hj hh) (by simp)) 0 rfl rfl fun _ F => ?_
   refine Af F sa QH rfl rfl fun g3 w8 _ F sc => ?_
   refine AP (ds := (jI x3.At :: .bool x3.Dead :: jI x3.Frame.Locals :: jI x3.Frame.Height :: AU x3.Frame.Slots)) F sc rfl rfl (by simpa using Aqn) (Ab rfl (Ab rfl (Ab rfl (Ab rfl (Bp _))))) (by simp) fun wa _ F sd => ?_
   obtain ⟨x4, hk, H⟩ := Aa H
   refine gw 5 F rfl fun _ F => AG F sd m3 1 rfl fun _ F => AG F sd m0 0 rfl fun _ F => B5 F sd (Ra (ha.AN sd) hk) 3 rfl rfl rfl rfl fun wb _ F se => Af F se DZ rfl rfl fun g4 wc _ F sf => Ai F sf rfl rfl D4 (Ab rfl (Ab rfl (Ab rfl (Ab rfl Ap)))) (Ac rfl) fun wd _ F sg => ?_
   obtain ⟨x5, hl, H⟩ := Aa H
   refine gw 4 F rfl fun _ F => Cq Bq sg.f2.drop.f4.drop ?_
   have sh := sg.drew
   refine hq [0, 1, 2, 3, 5] F sh.f2.drop.f4.drop (QI.ev 4 rfl <| QI.ld m0 rfl <| QI.nil) (by kernel_rfl) fun _ F => ?_
   refine CJ [0, 1, 2, 3, 4, 5, 6] (fun a w_ => ∃ v9 : Value, Fr a 84 [(9, jP g1), (13, jP g2), (15, jP g3), (47, v6), (48, jI (x2.1.length : Int)), (49, jI s9.2.2), (61, jP g2), (65, v8), (67, v9)] ∧ SL w [] w_ [A8 g4 79 [jI x4.1.At, jU (x4.1.Op.toNat : Int), jI x4.1.A, jI x4.1.B], A8 g3 120 (jI x3.At :: .bool x3.Dead :: jI x3.Frame.Locals :: jI x3.Frame.Height :: AU x3.Frame.Slots), Sl Dy v6 x2.1, A8 g1 52 [.string ⟨⟨x1.Name⟩⟩, v3, jU (x1.Sig.Result.toNat : Int), jI x1.Locals, v4], Sl Bs v9 ([(⟨x4.1.At, x4.1.Op, x4.1.A, x4.1.B⟩ : A9)] : List A9), A8 g2 81 [v8, jI s9.2.1], Sl Bs v8 s9.1]) ?_ fun hD0 => ?_
   ·rintro a w_ ⟨v9, F, si⟩
    refine ho 7 rfl (by kernel_rfl) ?_
    obtain ⟨_, hr_⟩ := (si.f6.BK m5)
    refine Aw Dq F si.f6 IF rfl rfl rfl rfl hr_ rfl rfl hl rfl fun va we _ F sj => ?_
    have s10860618' := sj.f5.drop
    refine gw 1 F rfl fun _ F => ⟨s10860618'.drop.f4.drop, ?_⟩
    refine hq [8, 9] F s10860618'.drop.f4.drop (QI.ev 2 rfl <| QI.nil) (by kernel_rfl) fun _ F => ?_
    refine ho 10 rfl (by kernel_rfl) ?_
    have sk := s10860618'.f5
    refine Ay F sk rfl rfl A38 (Ag (fO sk m1)) (Aq (fO sk m1)) rfl fun wf _ F sl => gw 1 F rfl fun _ F => ⟨sl.drop.drop, ?_⟩
    refine CP (by kernel_rfl) ?_
    refine ge 1 F rfl fun _ F => Cq Bq sl.drop ?_
    have sm := sl.drew
    refine hq [0, 1, 2, 3, 5, 6, 7] F sm.drop (QI.ev 6 rfl <| QI.ld m2 rfl <| QI.nil) (by kernel_rfl) fun _ F => ?_
    refine ho 4 rfl (by kernel_rfl) ?_
    refine AG F sm m0 1 rfl fun _ F => ⟨sm.drop, ?_⟩
    refine hq [8, 9, 10] F sm.drop (QI.op rfl (fun _ hC => Axh rfl rfl) rfl <| QI.ev 2 rfl <| QI.nil) (by kernel_rfl) fun _ F => ?_
    refine ho 11 rfl (by kernel_rfl) ?_
    refine Ay F sm rfl rfl IW rfl rfl rfl fun wg _ F sn => gw 1 F rfl fun _ F => ⟨sn.drop, ?_⟩
    refine CP (by kernel_rfl) ?_
    cases H
    exact ge 6 F rfl fun _ F => ⟨_, rfl, va, F.sb, sn.f2.drop.f2.drop.f1.f3.f3.f3⟩
   refine E5 4 6 rfl rfl (by kernel_rfl) ?_ ?_
   ·refine AG F sh m2 1 rfl fun _ F => ⟨sh.f2.drop.f4.drop, ?_⟩
    refine ho 6 rfl (by kernel_rfl) ?_
    refine Ae (parts := [(0, .tmp 66)]) Dq ([(⟨x4.1.At, x4.1.Op, x4.1.A, x4.1.B⟩ : A9)] : List A9) F sh IF rfl (by decide) rfl rfl rfl (by simp [Value.cells]) rfl rfl rfl fun v9 wh _ F so => ?_
    exact gw 1 F rfl fun _ F => ⟨so.drop.f2.drop.f4.drop, BJ hD0 ⟨v9, F.sb, so.f6.f4.f2.f6.f6.f6.f6⟩ (by kernel_rfl)⟩
   refine Ae (parts := [(0, .tmp 66)]) Dq ([(⟨x4.1.At, x4.1.Op, x4.1.A, x4.1.B⟩ : A9)] : List A9) F sh IF rfl (by decide) rfl rfl rfl (by simp [Value.cells]) rfl rfl rfl fun v9 wh _ F so => ?_
   refine gw 1 F rfl fun _ F => ⟨so.drop.f2.drop.f4.drop, ?_⟩
   refine ho 4 rfl (by kernel_rfl) ?_
   exact AG F so m3 1 rfl fun _ F => ⟨so.drop.f2.drop.f4.drop, BJ hD0 ⟨v9, F.sb, so.f6.f4.f2.f6.f6.f6.f6⟩ (by kernel_rfl)⟩
  cases H
  obtain rfl := hr _ rfl
  exact ⟨v8, F.sb, sa.f1.drop.f1.drop⟩
 intro _ wi hJ
 obtain ⟨v7, F, sp⟩ := hJ
 have H := R0
 clear R0 H0
 cases H
 exact ge 10 F rfl fun _ F => rt F ⟨_, rfl, (SL.XZ (qs := [A8 g2 81 [v7, jI o0.2], Sl Bs v7 o0.1]) ⟨g2, v7, rfl, rfl⟩ sp.f1.f1)⟩
theorem Rz {w : World} {FF : List Nat} {g0 : Nat} {v0_0 : Value} {a0 : Cf} {r : (List Int)} (hst : B1 [A8 g0 81 [v0_0, jI a0.CW], Sl Bs v0_0 a0.l] w FF) (H : IZ a0 = some r) :
    Calls prog 27 #[jP g0] w (B9 fun u_ w_ => ∃ u0 : Value, u_ = u0 ∧ SL w FF w_ [A8 g0 81 [v0_0, jI a0.CW], Sl Bs v0_0 a0.l, Sl (Ty.int .i64) u0 r]) := by
 have s0 : SL w FF w [A8 g0 81 [v0_0, jI a0.CW], Sl Bs v0_0 a0.l] := SL.init w FF hst
 refine BD func27 ntmps27 16 rfl rfl rfl fun _ F => ?_
 unfold IZ at H
 refine AG F s0 m0 0 rfl fun _ F => ?_
 obtain ⟨o0, H0, R0⟩ := Aa H
 clear H
 refine gx F (Ah rfl underlying75 (fO s0 m1)) 3 rfl rfl fun _ F => BA (fun a w_ => ∃ v0 : Value, Fr a 28 [(3, v0)] ∧ SL w FF w_ [A8 g0 81 [v0_0, jI a0.CW], Sl Bs v0_0 a0.l, Sl (Ty.int .i64) v0 o0]) ?_ ?_
 ·have H := H0
  refine gc 1 F rfl fun _ F => Cy (Fj a0) (fun s1 a w_ => ∃ v1 : Value, Fr a 28 [(3, v1), (9, v0_0), (10, jI (a0.l.length : Int)), (11, jI s1.2)] ∧ SL w FF w_ [A8 g0 81 [v0_0, jI a0.CW], Sl Bs v0_0 a0.l, Sl (Ty.int .i64) v1 s1.1]) H ?_ ?_
  ·exact ⟨(.slice none 0 0), F.sb, (SL.BI (T := (Ty.int .i64)) s0).f2.f2⟩
  intro s1 _ w0 h0 o1 H hr
  obtain ⟨v1, F, s2⟩ := h0
  replace H : Fj a0 s1 = some o1 := H
  unfold Fj at H
  refine gc 6 F rfl fun _ F => AH F H 6 4 rfl rfl rfl (fun h1 H _ F => ?_) (fun h1 H _ F => ?_)
  ·obtain ⟨x0, h2, H⟩ := Aa H
   obtain ⟨a1, h3, h4⟩ := Ax Dq s2 m1 IF rfl h2
   refine gi F h3 0 rfl fun _ F => gx F (Av Eh rfl (SL.C0 Dq s2 m1 h4 h2) rfl) 0 rfl rfl fun _ F => Af F s2 DZ rfl rfl fun g1 w1 _ F s3 => Ai F s3 rfl rfl D4 (Ab rfl (Ab rfl (Ab rfl (Ab rfl Ap)))) (Ac rfl) fun w2 _ F s4 => gw 5 F rfl fun _ F => AG F s4 m0 3 rfl fun _ F => AH F H 3 7 rfl rfl rfl (fun h5 H _ F => ?_) (fun h5 H _ F => ?_)
   ·refine AG F s4 m0 0 rfl fun _ F => ?_
    refine Ae (parts := [(0, .tmp 20)]) (Flat.int .i64) ([x0.A] : List Int) F s4 Bz rfl (by decide) rfl rfl rfl (by simp [Value.cells]) rfl rfl rfl fun v2 w3 _ F s5 => ?_
    obtain ⟨x1, h6, H⟩ := Aa H
    obtain ⟨_, hr_⟩ := (s5.f4.BK m1)
    refine Aw (Flat.int .i64) F s5.f4 Bz rfl rfl rfl rfl hr_ rfl rfl h6 rfl fun v3 w4 _ F s6 => ?_
    have s3264' := s6.f1.drop
    cases H
    exact gw 8 F rfl fun _ F => ⟨_, rfl, v3, F.sb, s3264'.f1.drop.f2.f2⟩
   cases H
   exact ⟨_, rfl, v1, F.sb, s4.drop⟩
  cases H
  obtain rfl := hr _ rfl
  exact ⟨v1, F.sb, s2⟩
 intro _ w5 hJ
 obtain ⟨v0, F, s7⟩ := hJ
 have H := R0
 clear R0 H0
 obtain ⟨x2, h7, H⟩ := Aa H
 obtain ⟨G0, h8, h9, ha, hb⟩ := SL.open_ (ps := [Sl (Ty.int .i64) v0 o0]) (rest := [A8 g0 81 [v0_0, jI a0.CW], Sl Bs v0_0 a0.l]) s7.f2
 refine ge 4 F rfl fun _ F => As (args := [.tmp 24]) F Tf rfl (TM Px h8 h7) rfl fun v4 w6 _ hc F => ?_
 obtain ⟨rfl, hd⟩ := hc
 have s8 := hb _ _ hd
 obtain ⟨x3, he, H⟩ := Aa H
 obtain ⟨G1, hf, hg, hh, hi⟩ := SL.open_ (ps := [Sl (Ty.int .i64) v0 x2]) (rest := [A8 g0 81 [v0_0, jI a0.CW], Sl Bs v0_0 a0.l]) s8
 refine gw 5 F rfl fun _ F => As (args := [.tmp 26]) F YJ rfl (Tq Su hf he) rfl fun v5 w7 _ hj F => ?_
 have s9 := hi _ _ hj
 cases H
 exact gw 4 F rfl fun _ F => rt F ⟨v5, rfl, s9.f2.f2⟩
theorem WA {w : World} {v0_1 v0_2 v0_3 : Value} {a0 : AL} {a1 : Int} {r : (List Int) × Int × Int} (hr0_1 : Rd AB w [] v0_1 a0.Classes) (hr0_2 : Rd Cc w [] v0_2 a0.Funcs) (hr0_3 : Rd (Ty.slice Ty.u8) w [] v0_3 a0.Ca) (H : NE a0 a1 = some r) :
    Calls prog 13 #[.agg ⟨[.string ⟨⟨a0.Name⟩⟩, v0_1, v0_2, v0_3]⟩, jI a1] w (B9 fun u_ w_ => ∃ u0 : Value, u_ = .tuple ⟨[u0, jI r.2.1, jI r.2.2]⟩ ∧ SL w [] w_ [Sl (Ty.int .i64) u0 r.1]) := by
 have s0 : SL w [] w [] := SL.Bt w
 refine BD func13 ntmps13 2 rfl rfl rfl fun _ F0 => ?_
 unfold NE at H
 refine Ar F0 s0 rfl rfl rfl fun g8 w9 _ F s1 => ?_
 obtain ⟨x0, h0, H⟩ := Aa H
 refine gw 7 F rfl fun _ F => AG F s1 m0 1 rfl fun _ F => Df F (OY (a0 := (⟨a0.Name, a0.Classes, a0.Funcs, a0.Ca⟩ : AL)) (hr0_1.AN s1) (hr0_2.AN s1) (hr0_3.AN s1) h0) fun v0 w0 _ h1 F => ?_
 obtain ⟨v1, rfl, h2⟩ := h1
 have s2 := s1.add h2
 refine gw 16 F rfl fun _ F => AH F H 11 3 rfl rfl rfl (fun h3 H _ F => ?_) (fun h3 H _ F => ?_)
 ·cases H
  exact rt F ⟨(.slice none 0 0), rfl, (SL.BI (T := (Ty.int .i64)) s2).f1.drop.f1.drop⟩
 obtain ⟨x1, h4, H⟩ := Aa H
 obtain ⟨_, ⟨g0, v2, rfl, rfl⟩, s3⟩ := SL.Ti s2 h4
 obtain ⟨x2, h5, H⟩ := Aa H
 obtain ⟨G0, h6, h7, h8, h9⟩ := SL.open_ (ps := [A8 g0 81 [v2, jI x1.CW], Sl Bs v2 x1.l]) (rest := [A8 g8 26 [.string ⟨⟨a0.Name⟩⟩, v0_1, v0_2, v0_3]]) s3.f1.f1
 refine gc 2 F rfl fun _ F => Df F (Rz (a0 := (⟨x1.l, x1.CW⟩ : Cf)) h6 h5) fun v3 w1 _ ha F => ?_
 obtain ⟨_, rfl, hb⟩ := ha
 have s4 := h9 _ _ hb
 cases H
 exact gw 6 F rfl fun _ F => rt F ⟨v3, rfl, s4.drop.drop.f1.drop⟩
theorem S7 {w : World} {v0_1 v0_2 v0_3 : Value} {a0 : AL} {a1 : Int} {r : AA × Bool} {wb : World} {Fb : List Nat} (hb : Fm wb Fb w) (hB : ∀ k ∈ ([] : List Nat), k ∈ Fb ∨ wb.heap.size ≤ k) (hr0_1 : Rd AB wb Fb v0_1 a0.Classes) (hr0_2 : Rd Cc wb Fb v0_2 a0.Funcs) (hr0_3 : Rd (Ty.slice Ty.u8) wb Fb v0_3 a0.Ca) (H : IL a0 a1 = some r) :
    Calls prog 55 #[.agg ⟨[.string ⟨⟨a0.Name⟩⟩, v0_1, v0_2, v0_3]⟩, jI a1] w (B9 fun u_ w_ => ∃ u0 u1 : Value, u_ = .tuple ⟨[.agg ⟨[u0, u1, jI r.1.Fn]⟩, .bool r.2]⟩ ∧ BS AB v0_1 a0.Classes u0 r.1.Classes ∧ SL w [] w_ [Sl (Er wb Fb) u1 r.1.AQ]) := by
 have s0 : SL w [] w [] := SL.Bt w
 refine BD func55 ntmps55 2 rfl rfl rfl fun _ F0 => ?_
 unfold IL at H
 refine Ar F0 s0 rfl rfl rfl fun g0 w0 _ F s1 => Af F s1 Gx rfl rfl fun g1 w2 _ F s2 => gw 9 F rfl fun _ F => BB 10 F H (fun h0 H F => ?_) (fun h0 H F => ?_)
 ·refine gw 11 F rfl fun _ F => gx F (Al (vs := []) Gx Nv rfl (cs := [.slice none 0 0, .slice none 0 0, jI 0]) (rfl)) 0 rfl rfl fun _ F => Ai F s2 rfl rfl J3 (Ab rfl (Ab rfl (Ab rfl Ap))) (Ac rfl) fun w3 _ F s3 => ?_
  cases H
  refine gw 5 F rfl fun _ F => ?_
  refine Ak (rs := [.cell 4 110, .tmp 5]) (vs := [.agg ⟨[.slice none 0 0, .slice none 0 0, jI 0]⟩, .bool false]) F (by rfl) ⟨_, _, rfl, Am s3 m0 rfl Ln rfl, _, _, rfl, Ao rfl, rfl⟩ ⟨_, rfl, ⟨(.slice none 0 0), (.slice none 0 0), rfl, BS.nil, (SL.BI (T := (Er wb Fb)) s3).f1.drop.f1.drop⟩⟩
 refine gw 2 F rfl fun _ F => AK F rfl rfl <| AG F s2 m1 0 rfl fun _ F => AK F rfl rfl <| gx F (Ah rfl underlying23 (JI (Eb hr0_2 (SL.up hb hB s2)))) 4 rfl rfl fun _ F => AH F H 2 5 rfl rfl rfl (fun h1 H _ F => ?_) (fun h1 H _ F => ?_)
 ·refine gx F (Al (vs := []) Gx Nv rfl (cs := [.slice none 0 0, .slice none 0 0, jI 0]) (rfl)) 0 rfl rfl fun _ F => Ai F s2 rfl rfl J3 (Ab rfl (Ab rfl (Ab rfl Ap))) (Ac rfl) fun w4 _ F s4 => ?_
  cases H
  refine gw 5 F rfl fun _ F => ?_
  refine Ak (rs := [.cell 4 110, .tmp 5]) (vs := [.agg ⟨[.slice none 0 0, .slice none 0 0, jI 0]⟩, .bool false]) F (by rfl) ⟨_, _, rfl, Am s4 m0 rfl Ln rfl, _, _, rfl, Ao rfl, rfl⟩ ⟨_, rfl, ⟨(.slice none 0 0), (.slice none 0 0), rfl, BS.nil, (SL.BI (T := (Er wb Fb)) s4).f1.drop.f1.drop⟩⟩
 have h2 := (JI (Eb hr0_1 (SL.up hb hB s2)))
 refine AG F s2 m1 1 rfl fun _ F => ?_
 refine gx F (Al (vs := [v0_1, jI a1]) Gx Nv rfl (cs := [v0_1, .slice none 0 0, jI a1]) (by obtain ⟨_, _, e_0⟩ := h2; rw [e_0] <;> rfl)) 0 rfl rfl fun _ F => ?_
 refine Af F s2 Gx rfl rfl fun g2 w5 _ F s5 => Ai F s5 rfl rfl J3 (Ab (Aq (JI (Eb hr0_1 (SL.up hb hB s5)))) (Ab rfl (Ab rfl Ap))) (Ac rfl) fun w6 _ F s6 => ?_
 obtain ⟨o0, H0, R0⟩ := Aa H
 clear H
 refine gw 8 F rfl fun _ F => BA (fun a w_ => ∃ v0 : Value, Fr a 41 [(4, jP g1), (6, jP g2)] ∧ SL w [] w_ [A8 g2 110 [v0_1, v0, jI a1], A8 g1 110 [.slice none 0 0, .slice none 0 0, jI 0], Sl (Er wb Fb) v0 o0]) ?_ ?_
 ·have H := H0
  refine gc 1 F rfl fun _ F => Cy (Gk a0) (fun s7 a w_ => ∃ v1 : Value, Fr a 41 [(2, jP g0), (4, jP g1), (6, jP g2), (7, jI s7.2)] ∧ SL w [] w_ [A8 g2 110 [v0_1, v1, jI a1], A8 g1 110 [.slice none 0 0, .slice none 0 0, jI 0], A8 g0 26 [.string ⟨⟨a0.Name⟩⟩, v0_1, v0_2, v0_3], Sl (Er wb Fb) v1 s7.1]) H ?_ ?_
  ·exact ⟨(.slice none 0 0), F.sb, (SL.BI (T := (Er wb Fb)) s6).f3.f3.f3⟩
  intro s7 _ w7 h3 o1 H hr
  obtain ⟨v1, F, s8⟩ := h3
  replace H : Gk a0 s7 = some o1 := H
  unfold Gk at H
  refine gc 5 F rfl fun _ F => AG F s8 m2 0 rfl fun _ F => gx F (Ah rfl underlying23 (JI (Eb hr0_2 (SL.up hb hB s8)))) 3 rfl rfl fun _ F => AH F H 4 4 rfl rfl rfl (fun h4 H _ F => ?_) (fun h4 H _ F => ?_)
  ·obtain ⟨x0, h5, H⟩ := Aa H
   obtain ⟨x1, h6, H⟩ := Aa H
   refine Cq Bq s8.drop.f2.drop ?_
   have s9 := s8.drew
   obtain ⟨a2, c0, G0, h7, h8, h9, ha⟩ := Rd.idx hr0_2 Ke rfl h5
   obtain ⟨v2, v3, rfl, hc, hd⟩ := (Jv h9 ha)
   have hc5868_ := h8; clear h8; have h8 := fun w_ (hC : SL w [] w_ [A8 g1 110 [.slice none 0 0, .slice none 0 0, jI 0], A8 g0 26 [.string ⟨⟨a0.Name⟩⟩, v0_1, v0_2, v0_3]]) => hc5868_ _ _ (SL.up hb hB hC)
   refine hq [0, 2, 3, 4, 5, 6, 7] F s9.drop.f2.drop (QI.ev 2 rfl <| QI.ld m1 rfl <| QI.ev 1 rfl <| QI.ix h7 rfl <| QI.op rfl (fun _ hC => Ba Ab5 rfl) rfl <| QI.op rfl (fun _ hC => Av J1 rfl (Bn.sub (h8 _ hC) 1 (ds := [v2, jU (x0.Sig.Result.toNat : Int)]) (OR _ rfl)) rfl) rfl <| QI.nil) (by kernel_rfl) fun _ F => ?_
   refine CJ [0, 1, 2, 3, 4, 5, 6, 7, 8] (fun a w_ => ∃ v4 : Value, Fr a 41 [(2, jP g0), (4, jP g1), (6, jP g2), (7, jI s7.2), (30, v1), (37, v4)] ∧ SL w [] w_ [A8 g1 110 [.slice none 0 0, .slice none 0 0, jI 0], A8 g0 26 [.string ⟨⟨a0.Name⟩⟩, v0_1, v0_2, v0_3], Sl (Er wb Fb) v4 ([(⟨x0.Sig.Bv, x0.Sig.Result⟩ : Bl)] : List Bl), A8 g2 110 [v0_1, v1, jI a1], Sl (Er wb Fb) v1 s7.1]) ?_ fun hD0 => ?_
   ·rintro a w_ ⟨v4, F, sa⟩
    refine ho 9 rfl (by kernel_rfl) ?_
    refine Bh F sa.f2.f4 E2 rfl rfl rfl rfl rfl rfl h6 rfl fun v5 w8 _ F sc => gw 1 F rfl fun _ F => ⟨sc.drop.f2.drop, ?_⟩
    refine hq [10] F sc.drop.f2.drop (QI.ev 1 rfl <| QI.nil) (by kernel_rfl) fun _ F => ?_
    refine ho 11 rfl (by kernel_rfl) ?_
    refine Ay F sc.f3 rfl rfl Xh (Ag (fO sc.f3 m1)) (Aq (fO sc.f3 m1)) rfl fun w9 _ F sd => gw 1 F rfl fun _ F => ⟨sd.drop.drop, ?_⟩
    refine CP (by kernel_rfl) ?_
    cases H
    exact ge 7 F rfl fun _ F => ⟨_, rfl, v5, F.sb, sd.f1.f3.f3.f3⟩
   refine E5 1 8 rfl rfl (by kernel_rfl) ?_ ?_
   ·refine AG F s9 m0 1 rfl fun _ F => ⟨s9.drop.f2.drop, ?_⟩
    refine ho 8 rfl (by kernel_rfl) ?_
    have se : SL w [] _ (Dt (Er wb Fb) (⟨x0.Sig.Bv, x0.Sig.Result⟩ : Bl) [v2, jU (x0.Sig.Result.toNat : Int)] :: [A8 g2 110 [v0_1, v1, jI a1], A8 g1 110 [.slice none 0 0, .slice none 0 0, jI 0], A8 g0 26 [.string ⟨⟨a0.Name⟩⟩, v0_1, v0_2, v0_3], Sl (Er wb Fb) v1 s7.1]) := (SL.PQ (f := Ge) (x := (⟨x0.Sig.Bv, x0.Sig.Result⟩ : Bl)) (SL.JJ (SL.At3 (T := Ty.u8) (w1 := wb) (F1 := Fb) (SL.KN s9 Flat.u8 x0.Sig.Result) hc)))
    refine Bd F se E2 rfl (by decide) rfl rfl rfl fun v4 wa _ F sf => ?_
    exact gw 1 F rfl fun _ F => ⟨sf.drop.drop.f2.drop, BJ hD0 ⟨v4, F.sb, sf.f4.f2.f2.f4.f4⟩ (by kernel_rfl)⟩
   have se : SL w [] _ (Dt (Er wb Fb) (⟨x0.Sig.Bv, x0.Sig.Result⟩ : Bl) [v2, jU (x0.Sig.Result.toNat : Int)] :: [A8 g2 110 [v0_1, v1, jI a1], A8 g1 110 [.slice none 0 0, .slice none 0 0, jI 0], A8 g0 26 [.string ⟨⟨a0.Name⟩⟩, v0_1, v0_2, v0_3], Sl (Er wb Fb) v1 s7.1]) := (SL.PQ (f := Ge) (x := (⟨x0.Sig.Bv, x0.Sig.Result⟩ : Bl)) (SL.JJ (SL.At3 (T := Ty.u8) (w1 := wb) (F1 := Fb) (SL.KN s9 Flat.u8 x0.Sig.Result) hc)))
   refine Bd F se E2 rfl (by decide) rfl rfl rfl fun v4 wa _ F sf => ?_
   refine gw 1 F rfl fun _ F => ⟨sf.drop.drop.f2.drop, ?_⟩
   refine ho 1 rfl (by kernel_rfl) ?_
   exact AG F sf m1 1 rfl fun _ F => ⟨sf.drop.drop.f2.drop, BJ hD0 ⟨v4, F.sb, sf.f4.f2.f2.f4.f4⟩ (by kernel_rfl)⟩
  cases H
  obtain rfl := hr _ rfl
  exact ⟨v1, F.sb, s8.f2.drop⟩
 intro _ wc hJ
 obtain ⟨v0, F, sg⟩ := hJ
 have H := R0
 clear R0 H0
 refine ge 3 F rfl fun _ F => AG F sg m0 0 rfl fun _ F => Ai F sg.f1 rfl rfl J3 (Ab (Aq (JI (Eb hr0_1 (SL.up hb hB sg.f1)))) (Ab (Aq (fO sg.f1 m2)) (Ab rfl Ap))) (Ac rfl) fun wd _ F sh => ?_
 cases H
 refine gw 4 F rfl fun _ F => ?_
 refine Ak (rs := [.cell 4 110, .tmp 5]) (vs := [.agg ⟨[v0_1, v0, jI a1]⟩, .bool true]) F (by rfl) ⟨_, _, rfl, Am sh m0 rfl Ln rfl, _, _, rfl, Ao rfl, rfl⟩ ⟨_, rfl, ⟨v0_1, v0, rfl, BS.refl, sh.drop.drop⟩⟩
theorem Ns {w : World} {v0 : Value} {a0 : List A6} {a1 : Int} {r : (List Int)} (hr0 : Rd AB w [] v0 a0) (H : Hg a0 a1 = some r) :
    Calls prog 126 #[v0, jI a1] w (B9 fun u_ w_ => ∃ u0 : Value, u_ = u0 ∧ SL w [] w_ [Sl (Ty.int .i64) u0 r]) := by
 have s0 : SL w [] w [] := SL.Bt w
 refine BD func126 ntmps126 11 rfl rfl rfl fun _ F4 => ?_
 unfold Hg at H
 obtain ⟨o0, H0, R0⟩ := Aa H
 clear H
 refine BA (fun a w_ => ∃ v1 : Value, Fr a 31 [(5, v1)] ∧ SL w [] w_ [Sl (Ty.int .i64) v1 o0]) ?_ ?_
 ·have H := H0
  refine gc 1 F4 rfl fun _ F4 => Cy (DY a0) (fun s1 a w_ => ∃ v2 : Value, Fr a 31 [(0, v0), (1, jI s1.1), (5, v2)] ∧ SL w [] w_ [Sl (Ty.int .i64) v2 s1.2]) H ?_ ?_
  ·exact ⟨(.slice none 0 0), F4.sb, (SL.BI (T := (Ty.int .i64)) s0)⟩
  intro s1 _ w0 h0 o1 H hr
  obtain ⟨v2, F, s2⟩ := h0
  replace H : DY a0 s1 = some o1 := H
  unfold DY at H
  refine gc 6 F rfl fun _ F => BB 8 F H (fun h1 H F => ?_) (fun h1 H F => ?_)
  ·refine gw 2 F rfl fun _ F => AK F rfl rfl <| gx F (Ah rfl underlying22 (fR hr0 s2)) 3 rfl rfl fun _ F => BB 14 F H (fun h2 H F => ?_) (fun h2 H F => ?_)
   ·refine gw 1 F rfl fun _ F => AK F rfl rfl <| gx F (Ah rfl underlying28 (fO s2 m0)) 1 rfl rfl fun _ F => AK F rfl rfl <| gx F (Ah rfl underlying22 (fR hr0 s2)) 4 rfl rfl fun _ F => AH F H 7 4 rfl rfl rfl (fun h3 H _ F => ?_) (fun h3 H _ F => ?_)
    ·refine Ae (parts := [(0, .tmp 22)]) (Flat.int .i64) ([s1.1] : List Int) F s2 Bz rfl (by decide) rfl rfl rfl (by simp [Value.cells]) rfl rfl rfl fun v3 w1 _ F s3 => ?_
     obtain ⟨x0, h4, H⟩ := Aa H
     obtain ⟨_, hr_⟩ := (s3.f1.BK m1)
     refine Aw (Flat.int .i64) F s3.f1 Bz rfl rfl rfl rfl hr_ rfl rfl h4 rfl fun v4 w2 _ F s4 => ?_
     have s1102' := s4.f1.drop
     obtain ⟨x1, h5, H⟩ := Aa H
     obtain ⟨a2, c0, G0, h6, h7, h8, h9⟩ := Rd.idx hr0 D5 rfl h5
     refine gw 4 F rfl fun _ F => ?_
     obtain ⟨v5, rfl, ha⟩ := (C7 h8 h9)
     replace h7 := h7 _ _ s1102'
     refine gw 2 F rfl fun _ F => gi F h6 0 rfl fun _ F => gx F (Ba HF rfl) 0 rfl rfl fun _ F => ?_
     cases H
     exact gx F (An BE rfl (Bn.at_ h7 (o := 1) rfl)) 3 rfl rfl fun _ F => ⟨_, rfl, v4, F.sb, s1102'⟩
    cases H
    obtain rfl := hr _ rfl
    exact ⟨v2, F.sb, s2⟩
   cases H
   obtain rfl := hr _ rfl
   exact gw 13 F rfl fun _ F => ⟨v2, F.sb, s2⟩
  cases H
  obtain rfl := hr _ rfl
  exact gw 19 F rfl fun _ F => ⟨v2, F.sb, s2⟩
 intro _ w3 hJ
 obtain ⟨v1, F, s5⟩ := hJ
 have H := R0
 clear R0 H0
 cases H
 exact ge 8 F rfl fun _ F => rt F ⟨v1, rfl, s5⟩
theorem GK {w : World} {v0 : Value} {a0 : List A6} {a1 : Int} {r : (List B6)} (hr0 : Rd AB w [] v0 a0) (H : Dp a0 a1 = some r) :
    Calls prog 101 #[v0, jI a1] w (B9 fun u_ w_ => ∃ u0 : Value, u_ = u0 ∧ SL w [] w_ [Sl Ct u0 r]) := by
 have s0 : SL w [] w [] := SL.Bt w
 refine BD func101 ntmps101 9 rfl rfl rfl fun _ F => ?_
 unfold Dp at H
 obtain ⟨x0, h0, H⟩ := Aa H
 refine Df F (Ns (hr0.AN s0) h0) fun v1 w0 _ h1 F => ?_
 obtain ⟨_, rfl, h2⟩ := h1
 have s1 := s0.add h2
 refine gw 12 F rfl fun _ F => ?_
 obtain ⟨o0, H0, R0⟩ := Aa H
 clear H
 refine gx F (Ah rfl underlying28 (fO s1 m0)) 4 rfl rfl fun _ F => BA (fun a w_ => ∃ v2 : Value, Fr a 29 [(6, v2)] ∧ SL w [] w_ [Sl Ct v2 o0]) ?_ ?_
 ·have H := H0
  refine gc 1 F rfl fun _ F => Cy (Gr a0 x0) (fun s2 a w_ => ∃ v3 : Value, Fr a 29 [(0, v0), (5, v1), (6, v3), (7, jI s2.2)] ∧ SL w [] w_ [Sl (Ty.int .i64) v1 x0, Sl Ct v3 s2.1]) H ?_ ?_
  ·exact ⟨(.slice none 0 0), F.sb, (SL.BI (T := Ct) s1).f1⟩
  intro s2 _ w1 h3 o1 H hr
  obtain ⟨v3, F, s3⟩ := h3
  replace H : Gr a0 x0 s2 = some o1 := H
  unfold Gr at H
  refine gc 7 F rfl fun _ F => AH F H 5 4 rfl rfl rfl (fun h4 H _ F => ?_) (fun h4 H _ F => ?_)
  ·obtain ⟨x1, h5, H⟩ := Aa H
   obtain ⟨a2, h6, h7⟩ := Ax (Flat.int .i64) s3 m0 Bz rfl h5
   obtain ⟨x2, h8, H⟩ := Aa H
   obtain ⟨a3, c0, G0, h9, ha, hb, hc⟩ := Rd.idx hr0 D5 rfl h8
   obtain ⟨v4, rfl, hd⟩ := (C7 hb hc)
   replace ha := ha _ _ s3
   obtain ⟨x3, he, H⟩ := Aa H
   refine gw 4 F rfl fun _ F => gi F h6 0 rfl fun _ F => gx F (An BE rfl (Bn.at_ (SL.C0 (Flat.int .i64) s3 m0 h7 h5) (o := 0) rfl)) 0 rfl rfl fun _ F => gi F h9 0 rfl fun _ F => gx F (Ba Ku rfl) 0 rfl rfl fun _ F => gx F (An Lp rfl (Bn.at_ ha (o := 2) rfl)) 0 rfl rfl fun _ F => ?_
   obtain ⟨_, hr_⟩ := (Eb hd s3.f1)
   refine Aw DO F s3.f1 Hd rfl rfl rfl rfl hr_ rfl rfl he rfl fun v5 w2 _ F s4 => ?_
   cases H
   exact gw 9 F rfl fun _ F => ⟨_, rfl, v5, F.sb, s4.f1⟩
  cases H
  obtain rfl := hr _ rfl
  exact ⟨v3, F.sb, s3.drop⟩
 intro _ w3 hJ
 obtain ⟨v2, F, s5⟩ := hJ
 have H := R0
 clear R0 H0
 cases H
 exact ge 8 F rfl fun _ F => rt F ⟨v2, rfl, s5⟩
theorem EH {w : World} {v0 : Value} {a0 : List A6} {a1 : UInt8} {r : Bool} (hr0 : Rd AB w [] v0 a0) (H : Di a0 a1 = some r) :
    Calls prog 145 #[v0, jU (a1.toNat : Int)] w (B9 fun u_ w_ => u_ = .bool r ∧ SL w [] w_ []) := by
 have s0 : SL w [] w [] := SL.Bt w
 refine BD func145 ntmps145 10 rfl rfl rfl fun _ F => ?_
 unfold Di at H
 refine BB 7 F H (fun h0 H F => ?_) (fun h0 H F => ?_)
 ·cases H
  exact gw 15 F rfl fun _ F => rt F ⟨rfl, s0⟩
 refine gw 3 F rfl fun _ F => BB 10 F H (fun h1 H F => ?_) (fun h1 H F => ?_)
 ·refine gw 1 F rfl fun _ F => AK F rfl rfl <| gx F (Qo rfl rfl) 0 rfl rfl fun _ F => AK F rfl rfl <| gx F (Lr rfl underlying48 underlying3) 1 rfl rfl fun _ F => AK F rfl rfl ?_
  cases H
  exact gx F (Ah rfl underlying22 (fR hr0 s0)) 7 rfl rfl fun _ F => rt F ⟨rfl, s0⟩
 cases H
 exact gw 12 F rfl fun _ F => rt F ⟨rfl, s0⟩
theorem Kg {w : World} {v0 : Value} {a0 : List A6} {a1 : UInt8} {r : Bool} (hr0 : Rd AB w [] v0 a0) (H : Fi a0 a1 = some r) :
    Calls prog 144 #[v0, jU (a1.toNat : Int)] w (B9 fun u_ w_ => u_ = .bool r ∧ SL w [] w_ []) := by
 have s0 : SL w [] w [] := SL.Bt w
 refine BD func144 ntmps144 9 rfl rfl rfl fun _ F => ?_
 unfold Fi at H
 obtain ⟨x0, h0, H⟩ := Aa H
 refine B5 F s0 (EH (hr0.AN s0) h0) 1 rfl rfl rfl rfl fun w0 _ F s1 => BB 8 F H (fun h1 H F => ?_) (fun h1 H F => ?_)
 ·refine gw 4 F rfl fun _ F => BB 12 F H (fun h2 H F => ?_) (fun h2 H F => ?_)
  ·cases H
   exact gw 7 F rfl fun _ F => rt F ⟨rfl, s1⟩
  cases H
  exact gw 7 F rfl fun _ F => rt F ⟨rfl, s1⟩
 cases H
 exact gw 11 F rfl fun _ F => rt F ⟨rfl, s1⟩
theorem M8 {w : World} {a0 : List UInt8} {r : Bool} (H : Gj a0 = some r) :
    Calls prog 167 #[.string ⟨⟨a0⟩⟩] w (B9 fun u_ w_ => u_ = .bool r ∧ SL w [] w_ []) := by
 have s0 : SL w [] w [] := SL.Bt w
 refine BD func167 ntmps167 9 rfl rfl rfl fun _ F => ?_
 unfold Gj at H
 refine gx F (LA rfl underlying9) 2 rfl rfl fun _ F => BB 9 F H (fun h0 H F => ?_) (fun h0 H F => ?_)
 ·cases H
  exact gw 14 F rfl fun _ F => rt F ⟨rfl, s0⟩
 refine gw 1 F rfl fun _ F => AK F rfl rfl <| gx F (LA rfl underlying9) 4 rfl rfl fun _ F => AH F H 7 8 rfl rfl rfl (fun h1 H _ F => ?_) (fun h1 H _ F => ?_)
 ·cases H
  exact rt F ⟨rfl, s0⟩
 obtain ⟨o0, H0, R0⟩ := Aa H
 clear H
 refine BA (fun a w_ => ∃ p0 : Unit, o0 = .inr (p0) ∧ Fr a 55 [] ∧ SL w [] w_ []) ?_ ?_
 ·have H := H0
  refine gc 1 F rfl fun _ F => Cy (ET a0) (fun s1 a w_ => Fr a 55 [(0, .string ⟨⟨a0⟩⟩), (3, jI s1)] ∧ SL w [] w_ []) H ?_ ?_
  ·exact ⟨F.sb, s0⟩
  intro s1 _ w0 h2 o1 H hr
  obtain ⟨F, s2⟩ := h2
  replace H : ET a0 s1 = some o1 := H
  unfold ET at H
  refine gc 5 F rfl fun _ F => gx F (LA rfl underlying9) 3 rfl rfl fun _ F => AH F H 8 4 rfl rfl rfl (fun h3 H _ F => ?_) (fun h3 H _ F => ?_)
  ·obtain ⟨x0, h4, H⟩ := Aa H
   obtain ⟨o2, H1, R1⟩ := Aa H
   clear H
   refine gx F (YF rfl rfl underlying9 h4) 4 rfl rfl fun _ F => BA (fun a w_ => Fr a 55 [(0, .string ⟨⟨a0⟩⟩), (3, jI s1), (4, jU (x0.toNat : Int)), (5, .bool o2)] ∧ SL w [] w_ []) ?_ ?_
   ·have H := H1
    refine gc 4 F rfl fun _ F => BB 25 F H (fun h5 H F => ?_) (fun h5 H F => ?_)
    ·refine gw 4 F rfl fun _ F => BB 29 F H (fun h6 H F => ?_) (fun h6 H F => ?_)
     ·cases H
      exact gw 9 F rfl fun _ F => ⟨F.sb, s2⟩
     refine gw 3 F rfl fun _ F => BB 32 F H (fun h7 H F => ?_) (fun h7 H F => ?_)
     ·cases H
      exact gw 6 F rfl fun _ F => ⟨F.sb, s2⟩
     cases H
     exact gw 6 F rfl fun _ F => ⟨F.sb, s2⟩
    refine gw 7 F rfl fun _ F => BB 32 F H (fun h8 H F => ?_) (fun h8 H F => ?_)
    ·cases H
     exact gw 6 F rfl fun _ F => ⟨F.sb, s2⟩
    cases H
    exact gw 6 F rfl fun _ F => ⟨F.sb, s2⟩
   intro _ w1 hJ
   obtain ⟨F, s3⟩ := hJ
   have H := R1
   clear R1 H1
   refine ge 6 F rfl fun _ F => BB 39 F H (fun h9 H F => ?_) (fun h9 H F => ?_)
   ·refine gw 3 F rfl fun _ F => BB 42 F H (fun ha H F => ?_) (fun ha H F => ?_)
    ·cases H
     obtain rfl := hr _ rfl
     replace H := R0
     try dsimp only at H
     cases H
     exact gw 27 F rfl fun _ F => rt F ⟨rfl, s3⟩
    refine gw 3 F rfl fun _ F => BB 45 F H (fun hb H F => ?_) (fun hb H F => ?_)
    ·refine gw 3 F rfl fun _ F => BB 48 F H (fun hc H F => ?_) (fun hc H F => ?_)
     ·cases H
      obtain rfl := hr _ rfl
      replace H := R0
      try dsimp only at H
      cases H
      exact gw 21 F rfl fun _ F => rt F ⟨rfl, s3⟩
     refine gw 8 F rfl fun _ F => AH F H 12 8 rfl rfl rfl (fun hd H _ F => ?_) (fun hd H _ F => ?_)
     ·cases H
      obtain rfl := hr _ rfl
      replace H := R0
      try dsimp only at H
      cases H
      exact rt F ⟨rfl, s3⟩
     cases H
     exact ⟨_, rfl, F.sb, s3⟩
    cases H
    exact gw 20 F rfl fun _ F => ⟨_, rfl, F.sb, s3⟩
   cases H
   exact gw 26 F rfl fun _ F => ⟨_, rfl, F.sb, s3⟩
  cases H
  obtain rfl := hr _ rfl
  exact ⟨_, rfl, F.sb, s2⟩
 intro _ w2 hJ
 obtain ⟨p0, rfl, F, s4⟩ := hJ
 have H := R0
 clear R0 H0
 try dsimp only at H
 cases H
 exact ge 7 F rfl fun _ F => rt F ⟨rfl, s4⟩
theorem Rl {w : World} {a0 : UInt8} {r : (List UInt8)} (H : JH a0 = some r) :
    Calls prog 193 #[jU (a0.toNat : Int)] w (B9 fun u_ w_ => u_ = .string ⟨⟨r⟩⟩ ∧ SL w [] w_ []) := by
 have s0 : SL w [] w [] := SL.Bt w
 refine BD func193 ntmps193 18 rfl rfl rfl fun _ F => ?_
 unfold JH at H
 refine AH F H 8 6 rfl rfl rfl (fun h0 H _ F => ?_) (fun h0 H _ F => ?_)
 ·cases H
  exact rt F ⟨rfl, s0⟩
 refine AH F H 8 6 rfl rfl rfl (fun h1 H _ F => ?_) (fun h1 H _ F => ?_)
 ·cases H
  exact rt F ⟨rfl, s0⟩
 refine AH F H 8 6 rfl rfl rfl (fun h2 H _ F => ?_) (fun h2 H _ F => ?_)
 ·cases H
  exact rt F ⟨rfl, s0⟩
 refine AH F H 8 6 rfl rfl rfl (fun h3 H _ F => ?_) (fun h3 H _ F => ?_)
 ·cases H
  exact rt F ⟨rfl, s0⟩
 refine AH F H 8 6 rfl rfl rfl (fun h4 H _ F => ?_) (fun h4 H _ F => ?_)
 ·cases H
  exact rt F ⟨rfl, s0⟩
 refine AH F H 8 9 rfl rfl rfl (fun h5 H _ F => ?_) (fun h5 H _ F => ?_)
 ·cases H
  exact rt F ⟨rfl, s0⟩
 cases H
 exact rt F ⟨rfl, s0⟩
theorem PZ {w : World} {a0 : List UInt8} {r : Bool} (H : H7 a0 = some r) :
    Calls prog 168 #[.string ⟨⟨a0⟩⟩] w (B9 fun u_ w_ => u_ = .bool r ∧ SL w [] w_ []) := by
 have s0 : SL w [] w [] := SL.Bt w
 refine BD func168 ntmps168 11 rfl rfl rfl fun _ F => ?_
 unfold H7 at H
 obtain ⟨o0, H0, R0⟩ := Aa H
 clear H
 refine BA (fun a w_ => ∃ p0 : Unit, o0 = .inr (p0) ∧ Fr a 12 [] ∧ SL w [] w_ []) ?_ ?_
 ·have H := H0
  refine gc 1 F rfl fun _ F => Cy (Dz a0) (fun s1 a w_ => Fr a 12 [(0, .string ⟨⟨a0⟩⟩), (3, jU (s1.toNat : Int))] ∧ SL w [] w_ []) H ?_ ?_
  ·exact ⟨F.sb, s0⟩
  intro s1 _ w0 h0 o1 H hr
  obtain ⟨F, s2⟩ := h0
  replace H : Dz a0 s1 = some o1 := H
  unfold Dz at H
  refine gc 7 F rfl fun _ F => AH F H 7 4 rfl rfl rfl (fun h1 H _ F => ?_) (fun h1 H _ F => ?_)
  ·obtain ⟨x0, h2, H⟩ := Aa H
   refine B5 F s2 (Rl h2) 1 rfl rfl rfl rfl fun w1 _ F s3 => gx F (Qg rfl rfl) 2 rfl rfl fun _ F => AH F H 12 5 rfl rfl rfl (fun h3 H _ F => ?_) (fun h3 H _ F => ?_)
   ·cases H
    obtain rfl := hr _ rfl
    replace H := R0
    try dsimp only at H
    cases H
    exact rt F ⟨rfl, s3⟩
   cases H
   exact gx F (Te rfl rfl) 2 rfl rfl fun _ F => ⟨_, rfl, F.sb, s3⟩
  cases H
  obtain rfl := hr _ rfl
  exact ⟨_, rfl, F.sb, s2⟩
 intro _ w2 hJ
 obtain ⟨p0, rfl, F, s4⟩ := hJ
 have H := R0
 clear R0 H0
 try dsimp only at H
 cases H
 exact ge 7 F rfl fun _ F => rt F ⟨rfl, s4⟩
theorem Lb {w : World} {v0 : Value} {a0 : List B6} {a1 : List UInt8} {r : Bool} (hr0 : Rd Ct w [] v0 a0) (H : Jc a0 a1 = some r) :
    Calls prog 169 #[v0, .string ⟨⟨a1⟩⟩] w (B9 fun u_ w_ => u_ = .bool r ∧ SL w [] w_ []) := by
 have s0 : SL w [] w [] := SL.Bt w
 refine BD func169 ntmps169 11 rfl rfl rfl fun _ F => ?_
 unfold Jc at H
 obtain ⟨o0, H0, R0⟩ := Aa H
 clear H
 refine BA (fun a w_ => ∃ p0 : Unit, o0 = .inr (p0) ∧ Fr a 19 [] ∧ SL w [] w_ []) ?_ ?_
 ·have H := H0
  refine gc 1 F rfl fun _ F => Cy (EZ a0 a1) (fun s1 a w_ => Fr a 19 [(0, v0), (1, .string ⟨⟨a1⟩⟩), (5, jI s1)] ∧ SL w [] w_ []) H ?_ ?_
  ·exact ⟨F.sb, s0⟩
  intro s1 _ w0 h0 o1 H hr
  obtain ⟨F, s2⟩ := h0
  replace H : EZ a0 a1 s1 = some o1 := H
  unfold EZ at H
  refine gc 5 F rfl fun _ F => gx F (Ah rfl underlying101 (fR hr0 s2)) 3 rfl rfl fun _ F => AH F H 8 4 rfl rfl rfl (fun h1 H _ F => ?_) (fun h1 H _ F => ?_)
  ·obtain ⟨x0, h2, H⟩ := Aa H
   obtain ⟨a2, h3, h4⟩ := HM DO (Eb hr0 s2) Hd rfl h2
   refine gi F h3 0 rfl fun _ F => gx F (Ba UT rfl) 0 rfl rfl fun _ F => gx F (An IC rfl (Bn.at_ h4 (o := 0) rfl)) 1 rfl rfl fun _ F => gx F (Qg rfl rfl) 2 rfl rfl fun _ F => AH F H 12 8 rfl rfl rfl (fun h5 H _ F => ?_) (fun h5 H _ F => ?_)
   ·cases H
    obtain rfl := hr _ rfl
    replace H := R0
    try dsimp only at H
    cases H
    exact rt F ⟨rfl, s2⟩
   cases H
   exact ⟨_, rfl, F.sb, s2⟩
  cases H
  obtain rfl := hr _ rfl
  exact ⟨_, rfl, F.sb, s2⟩
 intro _ w1 hJ
 obtain ⟨p0, rfl, F, s3⟩ := hJ
 have H := R0
 clear R0 H0
 try dsimp only at H
 cases H
 exact ge 7 F rfl fun _ F => rt F ⟨rfl, s3⟩
theorem Q3 {w : World} {v0 : Value} {a0 : List A6} {a1 : Int} {r : Int} (hr0 : Rd AB w [] v0 a0) (H : HN a0 a1 = some r) :
    Calls prog 143 #[v0, jI a1] w (B9 fun u_ w_ => u_ = jI r ∧ SL w [] w_ []) := by
 have s0 : SL w [] w [] := SL.Bt w
 refine BD func143 ntmps143 7 rfl rfl rfl fun _ F2 => ?_
 unfold HN at H
 obtain ⟨x0, h0, H⟩ := Aa H
 obtain ⟨a2, c0, G0, h1, h2, h3, h4⟩ := Rd.idx hr0 D5 rfl h0
 obtain ⟨v1, rfl, h5⟩ := (C7 h3 h4)
 replace h2 := h2 _ _ s0
 refine gw 2 F2 rfl fun _ F => gi F h1 0 rfl fun _ F => gx F (Av Ob rfl h2 rfl) 0 rfl rfl fun _ F => Af F s0 OB rfl rfl fun g0 w0 _ F s1 => Ai F s1 rfl rfl Q4 (Ab rfl (Ab rfl (Ab (Aq (fR h5 s1)) Ap))) (Ac rfl) fun w1 _ F s2 => gw 9 F rfl fun _ F => AH F H 7 6 rfl rfl rfl (fun h6 H _ F => ?_) (fun h6 H _ F => ?_)
 ·cases H
  exact rt F ⟨rfl, s2.drop⟩
 obtain ⟨x1, h7, H⟩ := Aa H
 refine AG F s2 m0 0 rfl fun _ F => B5 F s2 (M8 h7) 2 rfl rfl rfl rfl fun w2 _ F s3 => BB 20 F H (fun h8 H F => ?_) (fun h8 H F => ?_)
 ·cases H
  exact gw 14 F rfl fun _ F => rt F ⟨rfl, s3.drop⟩
 refine gw 1 F rfl fun _ F => AK F rfl rfl <| AG F s3 m0 0 rfl fun _ F => ?_
 obtain ⟨x2, h9, H⟩ := Aa H
 refine AK F rfl rfl <| B5 F s3 (PZ h9) 3 rfl rfl rfl rfl fun w3 _ F s4 => AH F H 7 8 rfl rfl rfl (fun ha H _ F => ?_) (fun ha H _ F => ?_)
 ·cases H
  exact rt F ⟨rfl, s4.drop⟩
 obtain ⟨o0, H0, R0⟩ := Aa H
 clear H
 refine BA (fun a w_ => ∃ p0 : Unit, o0 = .inr (p0) ∧ Fr a 92 [(0, v0), (1, jI a1), (5, jP g0)] ∧ SL w [] w_ [A8 g0 103 [.string ⟨⟨x0.Name⟩⟩, jI x0.B2, v1]]) ?_ ?_
 ·have H := H0
  refine gc 1 F rfl fun _ F => Cy (E4 a0 a1 x0) (fun s5 a w_ => Fr a 92 [(0, v0), (1, jI a1), (5, jP g0), (6, jI s5)] ∧ SL w [] w_ [A8 g0 103 [.string ⟨⟨x0.Name⟩⟩, jI x0.B2, v1]]) H ?_ ?_
  ·exact ⟨F.sb, s4⟩
  intro s5 _ w4 hb o1 H hr
  obtain ⟨F, s6⟩ := hb
  replace H : E4 a0 a1 x0 s5 = some o1 := H
  unfold E4 at H
  refine gc 8 F rfl fun _ F => AH F H 5 4 rfl rfl rfl (fun hc H _ F => ?_) (fun hc H _ F => ?_)
  ·obtain ⟨x3, hd, H⟩ := Aa H
   obtain ⟨a3, c1, G1, he, hf, hg, hh⟩ := Rd.idx hr0 D5 rfl hd
   obtain ⟨v2, rfl, hi⟩ := (C7 hg hh)
   have hc2060_ := hf; clear hf; have hf := fun w_ (hC : SL w [] w_ [A8 g0 103 [.string ⟨⟨x0.Name⟩⟩, jI x0.B2, v1]]) => hc2060_ _ _ hC
   refine HA Bq s6 F (QR.ev 2 rfl <| QR.ix he rfl <| QR.qo (fun _ hC => Ba K0 rfl) rfl <| QR.qo (fun _ hC => An IC rfl (Bn.at_ (hf _ hC) (o := 0) rfl)) rfl <| QR.ev 1 rfl <| QR.ld m0 rfl <| QR.qo (fun _ hC => Qg rfl rfl) rfl <| Bb) fun w5 _ s7 F => ge 1 F rfl fun _ F => AH F H 12 8 rfl rfl rfl (fun hj H _ F => ?_) (fun hj H _ F => ?_)
   ·cases H
    obtain rfl := hr _ rfl
    replace H := R0
    try dsimp only at H
    cases H
    exact rt F ⟨rfl, s7.drop⟩
   cases H
   exact ⟨_, rfl, F.sb, s7⟩
  cases H
  obtain rfl := hr _ rfl
  exact ⟨_, rfl, F.sb, s6⟩
 intro _ w6 hJ
 obtain ⟨p0, rfl, F, s8⟩ := hJ
 have H := R0
 clear R0 H0
 try dsimp only at H
 refine ge 5 F rfl fun _ F => AG F s8 m0 2 rfl fun _ F => BB 41 F H (fun hk H F => ?_) (fun hk H F => ?_)
 ·cases H
  exact gw 15 F rfl fun _ F => rt F ⟨rfl, s8.drop⟩
 refine gw 1 F rfl fun _ F => AK F rfl rfl <| AG F s8 m0 5 rfl fun _ F => AH F H 7 6 rfl rfl rfl (fun hl H _ F => ?_) (fun hl H _ F => ?_)
 ·cases H
  exact rt F ⟨rfl, s8.drop⟩
 obtain ⟨x4, hm, H⟩ := Aa H
 refine AG F s8 m0 0 rfl fun _ F => Df F (GK (hr0.AN s8) hm) fun v3 w7 _ hn F => ?_
 obtain ⟨_, rfl, ho⟩ := hn
 have s9 := s8.add ho
 obtain ⟨o2, H1, R1⟩ := Aa H
 clear H
 refine gw 9 F rfl fun _ F => BA (fun a w_ => ∃ p1 : Unit, o2 = .inr (p1) ∧ Fr a 92 [(5, jP g0), (7, v3)] ∧ SL w [] w_ [Sl Ct v3 x4, A8 g0 103 [.string ⟨⟨x0.Name⟩⟩, jI x0.B2, v1]]) ?_ ?_
 ·have H := H1
  refine gc 1 F rfl fun _ F => Cy (DJ a0 x0 x4) (fun sa a w_ => Fr a 92 [(0, v0), (5, jP g0), (7, v3), (8, jI sa)] ∧ SL w [] w_ [Sl Ct v3 x4, A8 g0 103 [.string ⟨⟨x0.Name⟩⟩, jI x0.B2, v1]]) H ?_ ?_
  ·exact ⟨F.sb, s9⟩
  intro sa _ w8 hp o3 H hr
  obtain ⟨F, sc⟩ := hp
  replace H : DJ a0 x0 x4 sa = some o3 := H
  unfold DJ at H
  refine gc 5 F rfl fun _ F => AG F sc m1 0 rfl fun _ F => gx F (Ah rfl underlying101 (fR h5 sc)) 3 rfl rfl fun _ F => AH F H 7 4 rfl rfl rfl (fun hq H _ F => ?_) (fun hq H _ F => ?_)
  ·obtain ⟨x5, hs, H⟩ := Aa H
   obtain ⟨a4, ht, hu⟩ := HM DO (Eb h5 sc) Hd rfl hs
   refine AG F sc m1 1 rfl fun _ F => gi F ht 0 rfl fun _ F => gx F (Av NR rfl hu rfl) 0 rfl rfl fun _ F => Af F sc QD rfl rfl fun g1 w9 _ F sd => Ai F sd rfl rfl TQ (Ab rfl (Ab rfl Ap)) (Ac rfl) fun wa _ F se => ?_
   obtain ⟨x6, hv, H⟩ := Aa H
   refine gw 6 F rfl fun _ F => AG F se m0 0 rfl fun _ F => B5 F se (M8 hv) 3 rfl rfl rfl rfl fun wb _ F sf => AH F H 13 4 rfl rfl rfl (fun hw H _ F => ?_) (fun hw H _ F => ?_)
   ·cases H
    obtain rfl := hr _ rfl
    replace H := R1
    try dsimp only at H
    cases H
    exact rt F ⟨rfl, sf.drop.drop.drop⟩
   obtain ⟨x7, hx, H⟩ := Aa H
   refine Be x7 (fun hy => ?_) (fun hy => ?_)
   ·replace H := Mt hy H
    refine HA Bq sf F (QR.ev 2 rfl <| QR.ld m0 rfl <| QR.call (args := [.tmp 67, .tmp 69]) Un rfl (fun _ hC => Bf (Lb (a0 := x4) (a1 := x5.Name) (hC.rd0 m1) hx) hC) <| QR.ev 1 rfl <| QR.qs rfl rfl (Aj rfl hy) Ad rfl rfl <| QR.qs rfl rfl (Aj rfl hy) Ad rfl rfl <| QR.qs rfl rfl (Aj rfl hy) Ad rfl rfl <| QR.qs rfl rfl (Aj rfl hy) Ad rfl rfl <| QR.qs rfl rfl (Aj rfl hy) Ad rfl rfl <| QR.qs rfl rfl (Aj rfl hy) Ad rfl rfl <| QR.qs rfl rfl (Aj rfl hy) Ad rfl rfl <| QR.qo (fun _ hC => Bg (KC rfl hy) rfl) rfl <| Bb) fun wc _ sg F => ?_
    cases H
    obtain rfl := hr _ rfl
    replace H := R1
    try dsimp only at H
    cases H
    exact ge 15 F rfl fun _ F => rt F ⟨rfl, sg.drop.drop.drop⟩
   replace H := Ms hy H
   obtain ⟨x8, hz, H⟩ := Aa H
   obtain ⟨v4, h10, h11⟩ := Rd.cut h5 Hd rfl hz none (some sa) (.inr ⟨rfl, rfl⟩) (.inl rfl)
   obtain ⟨x9, h12, H⟩ := Aa H
   refine HA Bq sf F (QR.ev 2 rfl <| QR.ld m0 rfl <| QR.call (args := [.tmp 67, .tmp 69]) Un rfl (fun _ hC => Bf (Lb (a0 := x4) (a1 := x5.Name) (hC.rd0 m1) hx) hC) <| QR.ev 1 rfl <| QR.qg (fun _ hC => XM Ku rfl rfl) rfl rfl (Aj rfl hy) rfl rfl <| QR.qg (fun _ hC => An Lp rfl (hC.FN m2 rfl)) rfl rfl (Aj rfl hy) rfl rfl <| QR.qg (fun _ hC => Az rfl) rfl rfl (Aj rfl hy) rfl rfl <| QR.qg (fun _ hC => h10 _ _ _ _ _ .i64 .i64 _ _ _ _ _ rfl trivial rfl) rfl rfl (Aj rfl hy) rfl rfl <| QR.qg (fun _ hC => XM UT rfl rfl) rfl rfl (Aj rfl hy) rfl rfl <| QR.qg (fun _ hC => An IC rfl (hC.FN m0 rfl)) rfl rfl (Aj rfl hy) rfl rfl <| QR.ZF rfl (Aj rfl hy) (args := [.tmp 75, .tmp 77]) Un rfl (fun _ hC => Bf (Lb (a0 := x8) (a1 := x5.Name) (h11.AN hC) h12) hC) <| QR.qo (fun _ hC => Bk (KC rfl hy) rfl) rfl <| Bb) fun wd _ sh F => ge 1 F rfl fun _ F => AH F H 13 6 rfl rfl rfl (fun h13 H _ F => ?_) (fun h13 H _ F => ?_)
   ·cases H
    obtain rfl := hr _ rfl
    replace H := R1
    try dsimp only at H
    cases H
    exact rt F ⟨rfl, sh.drop.drop.drop⟩
   obtain ⟨xa, h14, H⟩ := Aa H
   refine AG F sh m0 0 rfl fun _ F => B5 F sh (Kg (hr0.AN sh) h14) 3 rfl rfl rfl rfl fun we _ F si => AH F H 12 8 rfl rfl rfl (fun h15 H _ F => ?_) (fun h15 H _ F => ?_)
   ·cases H
    obtain rfl := hr _ rfl
    replace H := R1
    try dsimp only at H
    cases H
    exact rt F ⟨rfl, si.drop.drop.drop⟩
   cases H
   exact ⟨_, rfl, F.sb, si.drop⟩
  cases H
  obtain rfl := hr _ rfl
  exact ⟨_, rfl, F.sb, sc⟩
 intro _ wf hJ
 obtain ⟨p1, rfl, F, sj⟩ := hJ
 have H := R1
 clear R1 H1
 try dsimp only at H
 refine ge 5 F rfl fun _ F => AG F sj m1 0 rfl fun _ F => gx F (Ah rfl underlying101 (fR h5 sj)) 1 rfl rfl fun _ F => gx F (Ah rfl underlying101 (fO sj m0)) 4 rfl rfl fun _ F => AH F H 7 8 rfl rfl rfl (fun h16 H _ F => ?_) (fun h16 H _ F => ?_)
 ·cases H
  exact rt F ⟨rfl, sj.drop.drop⟩
 cases H
 exact rt F ⟨rfl, sj.drop.drop⟩
theorem ML {w : World} {v0 : Value} {a0 : List A6} {r : Int × Int} (hr0 : Rd AB w [] v0 a0) (H : G9 a0 = some r) :
    Calls prog 119 #[v0] w (B9 fun u_ w_ => u_ = .tuple ⟨[jI r.1, jI r.2]⟩ ∧ SL w [] w_ []) := by
 have s0 : SL w [] w [] := SL.Bt w
 refine BD func119 ntmps119 12 rfl rfl rfl fun _ F => ?_
 unfold G9 at H
 obtain ⟨o0, H0, R0⟩ := Aa H
 clear H
 refine BA (fun a w_ => ∃ p0 : Unit, o0 = .inr (p0) ∧ Fr a 19 [] ∧ SL w [] w_ []) ?_ ?_
 ·have H := H0
  refine gc 1 F rfl fun _ F => Cy (Eu a0) (fun s1 a w_ => Fr a 19 [(0, v0), (4, jI s1)] ∧ SL w [] w_ []) H ?_ ?_
  ·exact ⟨F.sb, s0⟩
  intro s1 _ w0 h0 o1 H hr
  obtain ⟨F, s2⟩ := h0
  replace H : Eu a0 s1 = some o1 := H
  unfold Eu at H
  refine gc 5 F rfl fun _ F => gx F (Ah rfl underlying22 (fR hr0 s2)) 3 rfl rfl fun _ F => AH F H 8 4 rfl rfl rfl (fun h1 H _ F => ?_) (fun h1 H _ F => ?_)
  ·obtain ⟨x0, h2, H⟩ := Aa H
   refine B5 F s2 (Q3 (hr0.AN s2) h2) 9 rfl rfl rfl rfl fun w1 _ F s3 => AH F H 15 8 rfl rfl rfl (fun h3 H _ F => ?_) (fun h3 H _ F => ?_)
   ·cases H
    obtain rfl := hr _ rfl
    replace H := R0
    try dsimp only at H
    cases H
    exact rt F ⟨rfl, s3⟩
   cases H
   exact ⟨_, rfl, F.sb, s3⟩
  cases H
  obtain rfl := hr _ rfl
  exact ⟨_, rfl, F.sb, s2⟩
 intro _ w2 hJ
 obtain ⟨p0, rfl, F, s4⟩ := hJ
 have H := R0
 clear R0 H0
 try dsimp only at H
 cases H
 exact ge 8 F rfl fun _ F => rt F ⟨rfl, s4⟩
theorem PX {w : World} {v0 v1_0 : Value} {a0 : List A6} {a1 : Bl} {r : Bool} (hr0 : Rd AB w [] v0 a0) (hr1_0 : Rd Ty.u8 w [] v1_0 a1.Bv) (H : H9 a0 a1 = some r) :
    Calls prog 120 #[v0, .agg ⟨[v1_0, jU (a1.Result.toNat : Int)]⟩] w (B9 fun u_ w_ => u_ = .bool r ∧ SL w [] w_ []) := by
 have s0 : SL w [] w [] := SL.Bt w
 refine BD func120 ntmps120 2 rfl rfl rfl fun _ F0 => ?_
 unfold H9 at H
 refine Ar F0 s0 rfl rfl rfl fun g8 w9 _ F s1 => ?_
 obtain ⟨o0, H0, R0⟩ := Aa H
 clear H
 refine gw 9 F rfl fun _ F => BA (fun a w_ => ∃ p0 : Unit, o0 = .inr (p0) ∧ Fr a 36 [(0, v0), (3, jP g8)] ∧ SL w [] w_ [A8 g8 50 [v1_0, jU (a1.Result.toNat : Int)]]) ?_ ?_
 ·have H := H0
  refine gc 1 F rfl fun _ F => Cy (Ee a0 a1) (fun s2 a w_ => Fr a 36 [(0, v0), (3, jP g8), (5, jI s2)] ∧ SL w [] w_ [A8 g8 50 [v1_0, jU (a1.Result.toNat : Int)]]) H ?_ ?_
  ·exact ⟨F.sb, s1⟩
  intro s2 _ w0 h0 o1 H hr
  obtain ⟨F, s3⟩ := h0
  replace H : Ee a0 a1 s2 = some o1 := H
  unfold Ee at H
  refine gc 5 F rfl fun _ F => AG F s3 m0 0 rfl fun _ F => gx F (Ah rfl underlying47 (fR hr1_0 s3)) 3 rfl rfl fun _ F => AH F H 8 4 rfl rfl rfl (fun h1 H _ F => ?_) (fun h1 H _ F => ?_)
  ·obtain ⟨x0, h2, H⟩ := Aa H
   obtain ⟨a2, h3, h4⟩ := HM Flat.u8 (Eb hr1_0 s3) Br rfl h2
   obtain ⟨x1, h5, H⟩ := Aa H
   refine AG F s3 m0 1 rfl fun _ F => gi F h3 0 rfl fun _ F => gx F (An BF rfl (Bn.at_ h4 (o := 0) rfl)) 0 rfl rfl fun _ F => B5 F s3 (Kg (hr0.AN s3) h5) 3 rfl rfl rfl rfl fun w1 _ F s4 => AH F H 12 8 rfl rfl rfl (fun h6 H _ F => ?_) (fun h6 H _ F => ?_)
   ·cases H
    obtain rfl := hr _ rfl
    replace H := R0
    try dsimp only at H
    cases H
    exact rt F ⟨rfl, s4.drop⟩
   cases H
   exact ⟨_, rfl, F.sb, s4⟩
  cases H
  obtain rfl := hr _ rfl
  exact ⟨_, rfl, F.sb, s3⟩
 intro _ w2 hJ
 obtain ⟨p0, rfl, F, s5⟩ := hJ
 have H := R0
 clear R0 H0
 try dsimp only at H
 refine ge 4 F rfl fun _ F => AG F s5 m0 0 rfl fun _ F => gx F (Ah rfl underlying47 (fR hr1_0 s5)) 2 rfl rfl fun _ F => BB 25 F H (fun h7 H F => ?_) (fun h7 H F => ?_)
 ·refine gw 1 F rfl fun _ F => AK F rfl rfl <| AG F s5 m0 2 rfl fun _ F => BB 29 F H (fun h8 H F => ?_) (fun h8 H F => ?_)
  ·cases H
   exact gw 10 F rfl fun _ F => rt F ⟨rfl, s5.drop⟩
  refine gw 2 F rfl fun _ F => AK F rfl rfl <| AG F s5 m0 0 rfl fun _ F => ?_
  obtain ⟨x2, h9, H⟩ := Aa H
  refine AK F rfl rfl <| B5 F s5 (Kg (hr0.AN s5) h9) 6 rfl rfl rfl rfl fun w3 _ F s6 => ?_
  cases H
  exact rt F ⟨rfl, s6.drop⟩
 cases H
 exact gw 14 F rfl fun _ F => rt F ⟨rfl, s5.drop⟩
theorem Q8 {w : World} {a0 : Int} {r : A4 × Int} (H : HY a0 = some r) :
    Calls prog 121 #[jI a0] w (B9 fun u_ w_ => u_ = .tuple ⟨[.agg ⟨(jI r.1.Locals :: jI r.1.Height :: AU r.1.Slots)⟩, jI r.2]⟩ ∧ SL w [] w_ []) := by
 have s0 : SL w [] w [] := SL.Bt w
 refine BD func121 ntmps121 2 rfl rfl rfl fun _ F0 => ?_
 unfold HY at H
 refine Af F0 s0 AO rfl rfl fun g8 w9 _ F s1 => gw 9 F rfl fun _ F => BB 6 F H (fun h0 H F => ?_) (fun h0 H F => ?_)
 ·refine gw 8 F rfl fun _ F => gx F (Al (vs := []) AO Ch rfl (cs := jZ) (BG)) 0 rfl rfl fun _ F => ?_
  refine AP (ds := jZ) F s1 rfl rfl (by simpa using AX) (Ab rfl (Ab rfl (Bp _))) (by simp) fun w0 _ F s2 => ?_
  cases H
  refine gw 5 F rfl fun _ F => ?_
  refine Ak (rs := [.cell 2 118, .tmp 3]) (vs := [.agg ⟨jZ⟩, jI 1]) F (by rfl) ⟨_, _, rfl, Am s2 m0 rfl AZ (by simp), _, _, rfl, Ao rfl, rfl⟩ ⟨_, rfl, ⟨rfl, s2.drop⟩⟩
 refine gw 5 F rfl fun _ F => AH F H 2 5 rfl rfl rfl (fun h1 H _ F => ?_) (fun h1 H _ F => ?_)
 ·refine gx F (Al (vs := []) AO Ch rfl (cs := jZ) (BG)) 0 rfl rfl fun _ F => ?_
  refine AP (ds := jZ) F s1 rfl rfl (by simpa using AX) (Ab rfl (Ab rfl (Bp _))) (by simp) fun w1 _ F s3 => ?_
  cases H
  refine gw 5 F rfl fun _ F => ?_
  refine Ak (rs := [.cell 2 118, .tmp 3]) (vs := [.agg ⟨jZ⟩, jI 1]) F (by rfl) ⟨_, _, rfl, Am s3 m0 rfl AZ (by simp), _, _, rfl, Ao rfl, rfl⟩ ⟨_, rfl, ⟨rfl, s3.drop⟩⟩
 refine gx F (Al (vs := [jI a0]) AO Ch rfl (cs := (jI a0 :: jI 0 :: AU (Vector.replicate 24 (0 : UInt8)))) (Do rfl rfl (by simp) <| BG)) 0 rfl rfl fun _ F => ?_
 refine AP (ds := (jI a0 :: jI 0 :: AU (Vector.replicate 24 (0 : UInt8)))) F s1 rfl rfl (by simpa using AX) (Ab rfl (Ab rfl (Bp _))) (by simp) fun w2 _ F s4 => ?_
 cases H
 refine gw 4 F rfl fun _ F => ?_
 refine Ak (rs := [.cell 2 118, .tmp 3]) (vs := [.agg ⟨(jI a0 :: jI 0 :: AU (Vector.replicate 24 (0 : UInt8)))⟩, jI 0]) F (by rfl) ⟨_, _, rfl, Am s4 m0 rfl AZ (by simp), _, _, rfl, Ao rfl, rfl⟩ ⟨_, rfl, ⟨rfl, s4.drop⟩⟩
theorem Qd {w : World} {v0 : Value} {a0 : List A6} {a1 : UInt8} {r : Bool} (hr0 : Rd AB w [] v0 a0) (H : H8 a0 a1 = some r) :
    Calls prog 122 #[v0, jU (a1.toNat : Int)] w (B9 fun u_ w_ => u_ = .bool r ∧ SL w [] w_ []) := by
 have s0 : SL w [] w [] := SL.Bt w
 refine BD func122 ntmps122 9 rfl rfl rfl fun _ F => ?_
 unfold H8 at H
 obtain ⟨x0, h0, H⟩ := Aa H
 refine B5 F s0 (EH (hr0.AN s0) h0) 1 rfl rfl rfl rfl fun w0 _ F s1 => BB 8 F H (fun h1 H F => ?_) (fun h1 H F => ?_)
 ·refine gw 4 F rfl fun _ F => BB 12 F H (fun h2 H F => ?_) (fun h2 H F => ?_)
  ·cases H
   exact gw 7 F rfl fun _ F => rt F ⟨rfl, s1⟩
  cases H
  exact gw 7 F rfl fun _ F => rt F ⟨rfl, s1⟩
 cases H
 exact gw 11 F rfl fun _ F => rt F ⟨rfl, s1⟩
theorem Ky {w : World} {v0 v1 : Value} {a0 : List A6} {a1 : List UInt8} {a2 : Int} {r : A4 × Int} (hr0 : Rd AB w [] v0 a0) (hr1 : Rd Ty.u8 w [] v1 a1) (H : Ec a0 a1 a2 = some r) :
    Calls prog 81 #[v0, v1, jI a2] w (B9 fun u_ w_ => u_ = .tuple ⟨[.agg ⟨(jI r.1.Locals :: jI r.1.Height :: AU r.1.Slots)⟩, jI r.2]⟩ ∧ SL w [] w_ []) := by
 have s0 : SL w [] w [] := SL.Bt w
 refine BD func81 ntmps81 2 rfl rfl rfl fun _ F0 => ?_
 unfold Ec at H
 refine Af F0 s0 AO rfl rfl fun g8 w9 _ F s1 => ?_
 obtain ⟨x0, h0, H⟩ := Aa H
 refine gw 6 F rfl fun _ F => B5 F s1 (Q8 h0) 3 rfl rfl rfl rfl fun w0 _ F s2 => Af F s2 AO rfl rfl fun g0 w1 _ F s3 => ?_
 refine AP (ds := (jI x0.1.Locals :: jI x0.1.Height :: AU x0.1.Slots)) F s3 rfl rfl (by simpa using AX) (Ab rfl (Ab rfl (Bp _))) (by simp) fun w2 _ F s4 => ?_
 refine gw 9 F rfl fun _ F => BB 19 F H (fun h1 H F => ?_) (fun h1 H F => ?_)
 ·refine gw 15 F rfl fun _ F => gx F (Al (vs := []) AO Ch rfl (cs := jZ) (BG)) 0 rfl rfl fun _ F => ?_
  refine AP (ds := jZ) F s4.f1 rfl rfl (by simpa using AX) (Ab rfl (Ab rfl (Bp _))) (by simp) fun w3 _ F s5 => ?_
  cases H
  refine gw 5 F rfl fun _ F => ?_
  refine Ak (rs := [.cell 6 118, .tmp 7]) (vs := [.agg ⟨jZ⟩, jI 1]) F (by rfl) ⟨_, _, rfl, Am s5 m0 rfl AZ (by simp), _, _, rfl, Ao rfl, rfl⟩ ⟨_, rfl, ⟨rfl, s5.drop.drop⟩⟩
 refine gw 1 F rfl fun _ F => AK F rfl rfl <| gx F (Ah rfl underlying47 (fR hr1 s4)) 3 rfl rfl fun _ F => BB 24 F H (fun h2 H F => ?_) (fun h2 H F => ?_)
 ·refine gw 10 F rfl fun _ F => gx F (Al (vs := []) AO Ch rfl (cs := jZ) (BG)) 0 rfl rfl fun _ F => ?_
  refine AP (ds := jZ) F s4.f1 rfl rfl (by simpa using AX) (Ab rfl (Ab rfl (Bp _))) (by simp) fun w4 _ F s6 => ?_
  cases H
  refine gw 5 F rfl fun _ F => ?_
  refine Ak (rs := [.cell 6 118, .tmp 7]) (vs := [.agg ⟨jZ⟩, jI 1]) F (by rfl) ⟨_, _, rfl, Am s6 m0 rfl AZ (by simp), _, _, rfl, Ao rfl, rfl⟩ ⟨_, rfl, ⟨rfl, s6.drop.drop⟩⟩
 refine gw 1 F rfl fun _ F => AK F rfl rfl <| gx F (Ah rfl underlying47 (fR hr1 s4)) 5 rfl rfl fun _ F => AH F H 2 6 rfl rfl rfl (fun h3 H _ F => ?_) (fun h3 H _ F => ?_)
 ·refine gx F (Al (vs := []) AO Ch rfl (cs := jZ) (BG)) 0 rfl rfl fun _ F => ?_
  refine AP (ds := jZ) F s4.f1 rfl rfl (by simpa using AX) (Ab rfl (Ab rfl (Bp _))) (by simp) fun w5 _ F s7 => ?_
  cases H
  refine gw 5 F rfl fun _ F => ?_
  refine Ak (rs := [.cell 6 118, .tmp 7]) (vs := [.agg ⟨jZ⟩, jI 1]) F (by rfl) ⟨_, _, rfl, Am s7 m0 rfl AZ (by simp), _, _, rfl, Ao rfl, rfl⟩ ⟨_, rfl, ⟨rfl, s7.drop.drop⟩⟩
 obtain ⟨o0, H0, R0⟩ := Aa H
 clear H
 refine gx F (Ah rfl underlying47 (fR hr1 s4)) 3 rfl rfl fun _ F => BA (fun a w_ => ∃ p0 : (Vector UInt8 24), o0 = .inr (p0) ∧ Fr a 49 [(6, jP g8), (8, jP g0)] ∧ SL w [] w_ [A8 g0 118 (jI x0.1.Locals :: jI x0.1.Height :: AU p0), A8 g8 118 jZ]) ?_ ?_
 ·have H := H0
  refine gc 1 F rfl fun _ F => Cy (Dn a0 a1) (fun s8 a w_ => Fr a 49 [(0, v0), (6, jP g8), (8, jP g0), (31, v1), (32, jI (a1.length : Int)), (33, jI s8.2)] ∧ SL w [] w_ [A8 g0 118 (jI x0.1.Locals :: jI x0.1.Height :: AU s8.1), A8 g8 118 jZ]) H ?_ ?_
  ·exact ⟨F.sb, s4⟩
  intro s8 _ w6 h4 o1 H hr
  obtain ⟨F, s9⟩ := h4
  replace H : Dn a0 a1 s8 = some o1 := H
  unfold Dn at H
  refine gc 6 F rfl fun _ F => AH F H 7 4 rfl rfl rfl (fun h5 H _ F => ?_) (fun h5 H _ F => ?_)
  ·obtain ⟨x1, h6, H⟩ := Aa H
   obtain ⟨a3, h7, h8⟩ := HM Flat.u8 (Eb hr1 s9) Br rfl h6
   refine gi F h7 0 rfl fun _ F => ?_
   obtain ⟨x2, h9, H⟩ := Aa H
   refine gx F (An BF rfl (Bn.at_ h8 (o := 0) rfl)) 9 rfl rfl fun _ F => B5 F s9 (Qd (hr0.AN s9) h9) 3 rfl rfl rfl rfl fun w7 _ F sa => AH F H 2 6 rfl rfl rfl (fun ha H _ F => ?_) (fun ha H _ F => ?_)
   ·refine gx F (Al (vs := []) AO Ch rfl (cs := jZ) (BG)) 0 rfl rfl fun _ F => ?_
    refine AP (ds := jZ) F sa.f1 rfl rfl (by simpa using AX) (Ab rfl (Ab rfl (Bp _))) (by simp) fun w8 _ F sc => ?_
    cases H
    obtain rfl := hr _ rfl
    replace H := R0
    try dsimp only at H
    cases H
    refine gw 11 F rfl fun _ F => ?_
    refine Ak (rs := [.cell 6 118, .tmp 7]) (vs := [.agg ⟨jZ⟩, jI 1]) F (by rfl) ⟨_, _, rfl, Am sc m0 rfl AZ (by simp), _, _, rfl, Ao rfl, rfl⟩ ⟨_, rfl, ⟨rfl, sc.drop.drop⟩⟩
   obtain ⟨x3, hb, H⟩ := Aa H
   refine gx F (Ef Db hb rfl rfl) 0 rfl rfl fun _ F => Jo (y' := x1) (pre := [jI x0.1.Locals, jI x0.1.Height]) F sa rfl hb rfl rfl JL fun wa _ F sd => ?_
   cases H
   exact gw 7 F rfl fun _ F => ⟨_, rfl, F.sb, sd⟩
  cases H
  obtain rfl := hr _ rfl
  exact ⟨_, rfl, F.sb, s9⟩
 intro _ wb hJ
 obtain ⟨p0, rfl, F, se⟩ := hJ
 have H := R0
 clear R0 H0
 try dsimp only at H
 refine ge 3 F rfl fun _ F => D3 F se m0 0 rfl fun _ F => ?_
 refine AP (ds := (jI x0.1.Locals :: jI x0.1.Height :: AU p0)) F se.f1 rfl rfl (by simpa using AX) (Ab rfl (Ab rfl (Bp _))) (by simp) fun wc _ F sf => ?_
 cases H
 refine gw 4 F rfl fun _ F => ?_
 refine Ak (rs := [.cell 6 118, .tmp 7]) (vs := [.agg ⟨(jI x0.1.Locals :: jI x0.1.Height :: AU p0)⟩, jI 0]) F (by rfl) ⟨_, _, rfl, Am sf m0 rfl AZ (by simp), _, _, rfl, Ao rfl, rfl⟩ ⟨_, rfl, ⟨rfl, sf.drop.drop⟩⟩
theorem Rs {w : World} {v0_0 v0_1 : Value} {a0 : AA} {a1 : Int} {r : Int} (hr0_0 : Rd AB w [] v0_0 a0.Classes) (hr0_1 : Rd B8 w [] v0_1 a0.AQ) (H : EI a0 a1 = some r) :
    Calls prog 80 #[.agg ⟨[v0_0, v0_1, jI a0.Fn]⟩, jI a1] w (B9 fun u_ w_ => u_ = jI r ∧ SL w [] w_ []) := by
 have s0 : SL w [] w [] := SL.Bt w
 refine BD func80 ntmps80 2 rfl rfl rfl fun _ F0 => ?_
 unfold EI at H
 refine Ar F0 s0 rfl rfl rfl fun g8 w9 _ F s1 => ?_
 obtain ⟨x0, h0, H⟩ := Aa H
 refine gw 6 F rfl fun _ F => AG F s1 m0 0 rfl fun _ F => B5 F s1 (ML (hr0_0.AN s1) h0) 14 rfl rfl rfl rfl fun w0 _ F s2 => AH F H 8 6 rfl rfl rfl (fun h1 H _ F => ?_) (fun h1 H _ F => ?_)
 ·cases H
  exact rt F ⟨rfl, s2.drop⟩
 refine AG F s2 m0 0 rfl fun _ F => gx F (Ah rfl underlying108 (fR hr0_1 s2)) 3 rfl rfl fun _ F => AH F H 7 8 rfl rfl rfl (fun h2 H _ F => ?_) (fun h2 H _ F => ?_)
 ·cases H
  exact rt F ⟨rfl, s2.drop⟩
 obtain ⟨o0, H0, R0⟩ := Aa H
 clear H
 refine BA (fun a w_ => ∃ p0 : Unit, o0 = .inr (p0) ∧ Fr a 71 [(1, jI a1), (2, jP g8)] ∧ SL w [] w_ [A8 g8 110 [v0_0, v0_1, jI a0.Fn]]) ?_ ?_
 ·have H := H0
  refine gc 1 F rfl fun _ F => Cy (CE a0) (fun s3 a w_ => Fr a 71 [(1, jI a1), (2, jP g8), (7, jI s3)] ∧ SL w [] w_ [A8 g8 110 [v0_0, v0_1, jI a0.Fn]]) H ?_ ?_
  ·exact ⟨F.sb, s2⟩
  intro s3 _ w1 h3 o1 H hr
  obtain ⟨F, s4⟩ := h3
  replace H : CE a0 s3 = some o1 := H
  unfold CE at H
  refine gc 5 F rfl fun _ F => AG F s4 m0 0 rfl fun _ F => gx F (Ah rfl underlying108 (fR hr0_1 s4)) 3 rfl rfl fun _ F => AH F H 7 4 rfl rfl rfl (fun h4 H _ F => ?_) (fun h4 H _ F => ?_)
  ·obtain ⟨x1, h5, H⟩ := Aa H
   obtain ⟨a3, c0, G0, h6, h7, h8, h9⟩ := Rd.idx hr0_1 E2 rfl h5
   obtain ⟨v0, rfl, ha⟩ := (Ga h8 h9)
   replace h7 := h7 _ _ s4
   refine gw 1 F rfl fun _ F => AG F s4 m0 1 rfl fun _ F => gi F h6 0 rfl fun _ F => gx F (Ba M7 rfl) 0 rfl rfl fun _ F => gx F (An M1 rfl (Bn.at_ h7 (o := 0) rfl)) 0 rfl rfl fun _ F => gx F (Ah rfl underlying47 (fR ha s4)) 3 rfl rfl fun _ F => AH F H 13 3 rfl rfl rfl (fun hb H _ F => ?_) (fun hb H _ F => ?_)
   ·cases H
    obtain rfl := hr _ rfl
    replace H := R0
    try dsimp only at H
    cases H
    exact rt F ⟨rfl, s4.drop⟩
   obtain ⟨x2, hc, H⟩ := Aa H
   obtain ⟨a4, c1, G1, hd, he, hf, hg⟩ := Rd.idx hr0_1 E2 rfl hc
   obtain ⟨v1, rfl, hh⟩ := (Ga hf hg)
   have hc6512_ := he; clear he; have he := fun w_ (hC : SL w [] w_ [A8 g8 110 [v0_0, v0_1, jI a0.Fn]]) => hc6512_ _ _ hC
   obtain ⟨x3, hi, H⟩ := Aa H
   refine HA Bq s4 F (QR.ev 1 rfl <| QR.ld m0 rfl <| QR.ev 1 rfl <| QR.ld m0 rfl <| QR.ev 1 rfl <| QR.ix hd rfl <| QR.qo (fun _ hC => Av J1 rfl (he _ hC) rfl) rfl <| QR.call (args := [.tmp 37, .tmp 42]) Aex rfl (fun _ hC => Bf (PX (a0 := a0.Classes) (a1 := x2) (hr0_0.AN hC) (hh.AN hC) hi) hC) <| QR.ev 1 rfl <| Bb) fun w2 _ s5 F => ge 1 F rfl fun _ F => AH F H 12 8 rfl rfl rfl (fun hj H _ F => ?_) (fun hj H _ F => ?_)
   ·cases H
    obtain rfl := hr _ rfl
    replace H := R0
    try dsimp only at H
    cases H
    exact rt F ⟨rfl, s5.drop⟩
   cases H
   exact ⟨_, rfl, F.sb, s5⟩
  cases H
  obtain rfl := hr _ rfl
  exact ⟨_, rfl, F.sb, s4⟩
 intro _ w3 hJ
 obtain ⟨p0, rfl, F, s6⟩ := hJ
 have H := R0
 clear R0 H0
 try dsimp only at H
 refine ge 5 F rfl fun _ F => AG F s6 m0 2 rfl fun _ F => BB 48 F H (fun hk H F => ?_) (fun hk H F => ?_)
 ·cases H
  exact gw 17 F rfl fun _ F => rt F ⟨rfl, s6.drop⟩
 refine gw 1 F rfl fun _ F => AK F rfl rfl <| AG F s6 m0 1 rfl fun _ F => AK F rfl rfl <| AG F s6 m0 0 rfl fun _ F => AK F rfl rfl <| gx F (Ah rfl underlying108 (fR hr0_1 s6)) 4 rfl rfl fun _ F => AH F H 7 3 rfl rfl rfl (fun hl H _ F => ?_) (fun hl H _ F => ?_)
 ·cases H
  exact rt F ⟨rfl, s6.drop⟩
 obtain ⟨x4, hm, H⟩ := Aa H
 obtain ⟨a5, c2, G2, hn, ho, hp, hq⟩ := Rd.idx hr0_1 E2 rfl hm
 obtain ⟨v2, rfl, hs⟩ := (Ga hp hq)
 have hc6597_ := ho; clear ho; have ho := fun w_ (hC : SL w [] w_ [A8 g8 110 [v0_0, v0_1, jI a0.Fn]]) => hc6597_ _ _ hC
 obtain ⟨x5, ht, H⟩ := Aa H
 refine HA Bq s6 F (QR.ev 1 rfl <| QR.ld m0 rfl <| QR.ev 1 rfl <| QR.ld m0 rfl <| QR.ev 1 rfl <| QR.ld m0 rfl <| QR.ix hn rfl <| QR.qo (fun _ hC => Ba M7 rfl) rfl <| QR.qo (fun _ hC => An M1 rfl (Bn.at_ (ho _ hC) (o := 0) rfl)) rfl <| QR.ev 1 rfl <| QR.call (args := [.tmp 58, .tmp 65, .tmp 66]) A6g rfl (fun _ hC => Bf (Ky (a0 := a0.Classes) (a1 := x4.Bv) (a2 := a1) (hr0_0.AN hC) (hs.AN hC) ht) hC) <| QR.ev 4 rfl <| Bb) fun w4 _ s7 F => ?_
 cases H
 exact ge 8 F rfl fun _ F => rt F ⟨rfl, s7.drop⟩
theorem Od {w : World} {v0_0 v0_1 v0_2 v0_3 : Value} {a0 : AM} {r : Int} (hr0_0 : Rd Ty.bool w [] v0_0 a0.Has) (hr0_1 : Rd BM w [] v0_1 a0.Frame) (hr0_2 : Rd Ty.bool w [] v0_2 a0.C2) (hr0_3 : Rd (Ty.int .i64) w [] v0_3 a0.Taken) (H : FH a0 = some r) :
    Calls prog 82 #[.agg ⟨[v0_0, v0_1, v0_2, v0_3]⟩] w (B9 fun u_ w_ => u_ = jI r ∧ SL w [] w_ []) := by
 have s0 : SL w [] w [] := SL.Bt w
 refine BD func82 ntmps82 2 rfl rfl rfl fun _ F0 => ?_
 unfold FH at H
 refine Ar F0 s0 rfl rfl rfl fun g8 w9 _ F s1 => ?_
 obtain ⟨o0, H0, R0⟩ := Aa H
 clear H
 refine gw 9 F rfl fun _ F => BA (fun a w_ => ∃ p0 : Unit, o0 = .inr (p0) ∧ Fr a 17 [] ∧ SL w [] w_ []) ?_ ?_
 ·have H := H0
  refine gc 1 F rfl fun _ F => Cy (Dj a0) (fun s2 a w_ => Fr a 17 [(1, jP g8), (3, jI s2)] ∧ SL w [] w_ [A8 g8 164 [v0_0, v0_1, v0_2, v0_3]]) H ?_ ?_
  ·exact ⟨F.sb, s1⟩
  intro s2 _ w0 h0 o1 H hr
  obtain ⟨F, s3⟩ := h0
  replace H : Dj a0 s2 = some o1 := H
  unfold Dj at H
  refine gc 5 F rfl fun _ F => AG F s3 m0 0 rfl fun _ F => gx F (Ah rfl underlying44 (fR hr0_2 s3)) 3 rfl rfl fun _ F => AH F H 7 4 rfl rfl rfl (fun h1 H _ F => ?_) (fun h1 H _ F => ?_)
  ·obtain ⟨x0, h2, H⟩ := Aa H
   obtain ⟨a1, h3, h4⟩ := HM Flat.bool (Eb hr0_2 s3) Co rfl h2
   refine AG F s3 m0 1 rfl fun _ F => gi F h3 0 rfl fun _ F => gx F (An Vq rfl (Bn.at_ h4 (o := 0) rfl)) 2 rfl rfl fun _ F => AH F H 13 8 rfl rfl rfl (fun h5 H _ F => ?_) (fun h5 H _ F => ?_)
   ·cases H
    obtain rfl := hr _ rfl
    replace H := R0
    try dsimp only at H
    cases H
    exact rt F ⟨rfl, s3.drop⟩
   cases H
   exact ⟨_, rfl, F.sb, s3⟩
  cases H
  obtain rfl := hr _ rfl
  exact ⟨_, rfl, F.sb, s3.drop⟩
 intro _ w1 hJ
 obtain ⟨p0, rfl, F, s4⟩ := hJ
 have H := R0
 clear R0 H0
 try dsimp only at H
 cases H
 exact ge 7 F rfl fun _ F => rt F ⟨rfl, s4⟩
theorem Np {w : World} {v0_0 v0_1 v0_2 v0_3 : Value} {a0 : AM} {a1 : Int} {a2 : Int} {r : Bool} (hr0_0 : Rd Ty.bool w [] v0_0 a0.Has) (hr0_1 : Rd BM w [] v0_1 a0.Frame) (hr0_2 : Rd Ty.bool w [] v0_2 a0.C2) (hr0_3 : Rd (Ty.int .i64) w [] v0_3 a0.Taken) (H : E9 a0 a1 a2 = some r) :
    Calls prog 123 #[.agg ⟨[v0_0, v0_1, v0_2, v0_3]⟩, jI a1, jI a2] w (B9 fun u_ w_ => u_ = .bool r ∧ SL w [] w_ []) := by
 have s0 : SL w [] w [] := SL.Bt w
 refine BD func123 ntmps123 2 rfl rfl rfl fun _ F0 => ?_
 unfold E9 at H
 refine Ar F0 s0 rfl rfl rfl fun g8 w9 _ F s1 => ?_
 obtain ⟨o0, H0, R0⟩ := Aa H
 clear H
 refine gw 9 F rfl fun _ F => BA (fun a w_ => ∃ p0 : Unit, o0 = .inr (p0) ∧ Fr a 44 [] ∧ SL w [] w_ []) ?_ ?_
 ·have H := H0
  refine gc 1 F rfl fun _ F => Cy (CN a0 a1 a2) (fun s2 a w_ => Fr a 44 [(1, jI a1), (2, jI a2), (3, jP g8), (7, jI s2)] ∧ SL w [] w_ [A8 g8 164 [v0_0, v0_1, v0_2, v0_3]]) H ?_ ?_
  ·exact ⟨F.sb, s1⟩
  intro s2 _ w0 h0 o1 H hr
  obtain ⟨F, s3⟩ := h0
  replace H : CN a0 a1 a2 s2 = some o1 := H
  unfold CN at H
  refine gc 5 F rfl fun _ F => AG F s3 m0 0 rfl fun _ F => gx F (Ah rfl underlying28 (fR hr0_3 s3)) 3 rfl rfl fun _ F => AH F H 7 4 rfl rfl rfl (fun h1 H _ F => ?_) (fun h1 H _ F => ?_)
  ·obtain ⟨x0, h2, H⟩ := Aa H
   obtain ⟨a3, h3, h4⟩ := HM (Flat.int .i64) (Eb hr0_3 s3) Bz rfl h2
   refine AG F s3 m0 1 rfl fun _ F => gi F h3 0 rfl fun _ F => gx F (An BE rfl (Bn.at_ h4 (o := 0) rfl)) 2 rfl rfl fun _ F => BB 21 F H (fun h5 H F => ?_) (fun h5 H F => ?_)
   ·refine gw 5 F rfl fun _ F => BB 26 F H (fun h6 H F => ?_) (fun h6 H F => ?_)
    ·refine gw 3 F rfl fun _ F => AK F rfl rfl ?_
     obtain ⟨x1, h7, H⟩ := Aa H
     obtain ⟨a4, h8, h9⟩ := HM (Flat.int .i64) (Eb hr0_3 s3) Bz rfl h7
     refine AG F s3 m0 1 rfl fun _ F => AK F rfl rfl <| gi F h8 0 rfl fun _ F => AK F rfl rfl <| gx F (An BE rfl (Bn.at_ h9 (o := 0) rfl)) 4 rfl rfl fun _ F => BB 37 F H (fun ha H F => ?_) (fun ha H F => ?_)
     ·refine gw 8 F rfl fun _ F => AH F H 12 8 rfl rfl rfl (fun hb H _ F => ?_) (fun hb H _ F => ?_)
      ·cases H
       obtain rfl := hr _ rfl
       replace H := R0
       try dsimp only at H
       cases H
       exact rt F ⟨rfl, s3.drop⟩
      cases H
      exact ⟨_, rfl, F.sb, s3⟩
     cases H
     exact gw 17 F rfl fun _ F => ⟨_, rfl, F.sb, s3⟩
    cases H
    exact gw 28 F rfl fun _ F => ⟨_, rfl, F.sb, s3⟩
   cases H
   exact gw 33 F rfl fun _ F => ⟨_, rfl, F.sb, s3⟩
  cases H
  obtain rfl := hr _ rfl
  exact ⟨_, rfl, F.sb, s3.drop⟩
 intro _ w1 hJ
 obtain ⟨p0, rfl, F, s4⟩ := hJ
 have H := R0
 clear R0 H0
 try dsimp only at H
 cases H
 exact ge 7 F rfl fun _ F => rt F ⟨rfl, s4⟩
theorem MC {w : World} {v0 : Value} {a0 : List A6} {a1 : UInt8} {r : Bool} (hr0 : Rd AB w [] v0 a0) (H : Gl a0 a1 = some r) :
    Calls prog 170 #[v0, jU (a1.toNat : Int)] w (B9 fun u_ w_ => u_ = .bool r ∧ SL w [] w_ []) := by
 have s0 : SL w [] w [] := SL.Bt w
 refine BD func170 ntmps170 9 rfl rfl rfl fun _ F => ?_
 unfold Gl at H
 obtain ⟨x0, h0, H⟩ := Aa H
 refine B5 F s0 (EH (hr0.AN s0) h0) 1 rfl rfl rfl rfl fun w0 _ F s1 => BB 8 F H (fun h1 H F => ?_) (fun h1 H F => ?_)
 ·refine gw 4 F rfl fun _ F => BB 12 F H (fun h2 H F => ?_) (fun h2 H F => ?_)
  ·cases H
   exact gw 7 F rfl fun _ F => rt F ⟨rfl, s1⟩
  cases H
  exact gw 7 F rfl fun _ F => rt F ⟨rfl, s1⟩
 cases H
 exact gw 11 F rfl fun _ F => rt F ⟨rfl, s1⟩
theorem RO {w : World} {v0_0 v0_1 : Value} {a0 : AA} {r : Bool} (hr0_0 : Rd AB w [] v0_0 a0.Classes) (hr0_1 : Rd B8 w [] v0_1 a0.AQ) (H : G6 a0 = some r) :
    Calls prog 146 #[.agg ⟨[v0_0, v0_1, jI a0.Fn]⟩] w (B9 fun u_ w_ => u_ = .bool r ∧ SL w [] w_ []) := by
 have s0 : SL w [] w [] := SL.Bt w
 refine BD func146 ntmps146 2 rfl rfl rfl fun _ F0 => ?_
 unfold G6 at H
 refine Ar F0 s0 rfl rfl rfl fun g8 w9 _ F s1 => ?_
 obtain ⟨x0, h0, H⟩ := Aa H
 refine gw 7 F rfl fun _ F => AG F s1 m0 0 rfl fun _ F => B5 F s1 (ML (hr0_0.AN s1) h0) 13 rfl rfl rfl rfl fun w0 _ F s2 => AH F H 7 6 rfl rfl rfl (fun h1 H _ F => ?_) (fun h1 H _ F => ?_)
 ·cases H
  exact rt F ⟨rfl, s2.drop⟩
 refine AG F s2 m0 0 rfl fun _ F => gx F (Ah rfl underlying108 (fR hr0_1 s2)) 2 rfl rfl fun _ F => BB 21 F H (fun h2 H F => ?_) (fun h2 H F => ?_)
 ·cases H
  exact gw 22 F rfl fun _ F => rt F ⟨rfl, s2.drop⟩
 refine gw 1 F rfl fun _ F => AK F rfl rfl <| AG F s2 m0 3 rfl fun _ F => BB 26 F H (fun h3 H F => ?_) (fun h3 H F => ?_)
 ·cases H
  exact gw 17 F rfl fun _ F => rt F ⟨rfl, s2.drop⟩
 refine gw 1 F rfl fun _ F => AK F rfl rfl <| AG F s2 m0 1 rfl fun _ F => AK F rfl rfl <| AG F s2 m0 0 rfl fun _ F => AK F rfl rfl <| gx F (Ah rfl underlying108 (fR hr0_1 s2)) 4 rfl rfl fun _ F => AH F H 7 6 rfl rfl rfl (fun h4 H _ F => ?_) (fun h4 H _ F => ?_)
 ·cases H
  exact rt F ⟨rfl, s2.drop⟩
 refine AG F s2 m0 0 rfl fun _ F => ?_
 obtain ⟨o0, H0, R0⟩ := Aa H
 clear H
 refine gx F (Ah rfl underlying108 (fR hr0_1 s2)) 3 rfl rfl fun _ F => BA (fun a w_ => ∃ p0 : Unit, o0 = .inr (p0) ∧ Fr a 72 [] ∧ SL w [] w_ []) ?_ ?_
 ·have H := H0
  refine gc 1 F rfl fun _ F => Cy (DF a0) (fun s3 a w_ => Fr a 72 [(1, jP g8), (35, v0_1), (36, jI (a0.AQ.length : Int)), (37, jI s3)] ∧ SL w [] w_ [A8 g8 110 [v0_0, v0_1, jI a0.Fn]]) H ?_ ?_
  ·exact ⟨F.sb, s2⟩
  intro s3 _ w1 h5 o1 H hr
  obtain ⟨F, s4⟩ := h5
  replace H : DF a0 s3 = some o1 := H
  unfold DF at H
  refine gc 6 F rfl fun _ F => AH F H 6 4 rfl rfl rfl (fun h6 H _ F => ?_) (fun h6 H _ F => ?_)
  ·obtain ⟨x1, h7, H⟩ := Aa H
   obtain ⟨a1, c0, G0, h8, h9, ha, hb⟩ := Rd.idx hr0_1 E2 rfl h7
   obtain ⟨v0, rfl, hc⟩ := (Ga ha hb)
   replace h9 := h9 _ _ s4
   refine gi F h8 0 rfl fun _ F => gx F (Av J1 rfl h9 rfl) 0 rfl rfl fun _ F => Af F s4 KT rfl rfl fun g0 w2 _ F s5 => Ai F s5 rfl rfl OG (Ab (Aq (fR hc s5)) (Ab rfl Ap)) (Ac rfl) fun w3 _ F s6 => ?_
   obtain ⟨o2, H1, R1⟩ := Aa H
   clear H
   refine gw 3 F rfl fun _ F => BA (fun a w_ => ∃ p1 : Bool × Bool, o2 = .inr (p1) ∧ Fr a 72 [(1, jP g8), (6, jP g0), (35, v0_1), (36, jI (a0.AQ.length : Int)), (37, jI s3), (46, .pointer (some ⟨g0, 1, none⟩)), (47, jU (x1.Result.toNat : Int)), (48, .bool ((x1.Result.toNat : Int) != 0)), (49, .bool p1.1), (56, .bool p1.2)] ∧ SL w [] w_ [A8 g0 50 [v0, jU (x1.Result.toNat : Int)], A8 g8 110 [v0_0, v0_1, jI a0.Fn]]) ?_ ?_
   ·have H := H1
    refine gc 3 F rfl fun _ F => AG F s6 m0 0 rfl fun _ F => gx F (Ah rfl underlying47 (fR hc s6)) 2 rfl rfl fun _ F => BB 45 F H (fun hd H F => ?_) (fun hd H F => ?_)
    ·cases H
     replace H := R1
     try dsimp only at H
     cases H
     obtain rfl := hr _ rfl
     replace H := R0
     try dsimp only at H
     cases H
     exact gw 29 F rfl fun _ F => rt F ⟨rfl, s6.drop.drop⟩
    refine gw 1 F rfl fun _ F => AK F rfl rfl <| AG F s6 m0 2 rfl fun _ F => BB 49 F H (fun he H F => ?_) (fun he H F => ?_)
    ·refine gw 1 F rfl fun _ F => AK F rfl rfl <| AG F s6 m1 1 rfl fun _ F => AK F rfl rfl <| AG F s6 m0 0 rfl fun _ F => ?_
     obtain ⟨x2, hf, H⟩ := Aa H
     refine AK F rfl rfl <| B5 F s6 (MC (hr0_0.AN s6) hf) 5 rfl rfl rfl rfl fun w4 _ F s7 => AH F H 14 1 rfl rfl rfl (fun hg H _ F => ?_) (fun hg H _ F => ?_)
     ·cases H
      replace H := R1
      try dsimp only at H
      cases H
      obtain rfl := hr _ rfl
      replace H := R0
      try dsimp only at H
      cases H
      exact rt F ⟨rfl, s7.drop.drop⟩
     cases H
     exact ⟨_, rfl, F.sb, s7⟩
    cases H
    exact gw 12 F rfl fun _ F => ⟨_, rfl, F.sb, s6⟩
   intro _ w5 hJ
   obtain ⟨p1, rfl, F, s8⟩ := hJ
   have H := R1
   clear R1 H1
   try dsimp only at H
   refine ge 4 F rfl fun _ F => AG F s8 m0 0 rfl fun _ F => ?_
   obtain ⟨o3, H2, R2⟩ := Aa H
   clear H
   refine gx F (Ah rfl underlying47 (fR hc s8)) 3 rfl rfl fun _ F => BA (fun a w_ => ∃ p2 : Unit, o3 = .inr (p2) ∧ Fr a 72 [(1, jP g8), (35, v0_1), (36, jI (a0.AQ.length : Int)), (37, jI s3), (46, .pointer (some ⟨g0, 1, none⟩)), (47, jU (x1.Result.toNat : Int)), (48, .bool ((x1.Result.toNat : Int) != 0)), (49, .bool p1.1), (56, .bool p1.2)] ∧ SL w [] w_ [A8 g0 50 [v0, jU (x1.Result.toNat : Int)], A8 g8 110 [v0_0, v0_1, jI a0.Fn]]) ?_ ?_
   ·have H := H2
    refine gc 1 F rfl fun _ F => Cy (DD a0 x1) (fun s9 a w_ => Fr a 72 [(1, jP g8), (35, v0_1), (36, jI (a0.AQ.length : Int)), (37, jI s3), (46, .pointer (some ⟨g0, 1, none⟩)), (47, jU (x1.Result.toNat : Int)), (48, .bool ((x1.Result.toNat : Int) != 0)), (49, .bool p1.1), (56, .bool p1.2), (59, v0), (60, jI (x1.Bv.length : Int)), (61, jI s9)] ∧ SL w [] w_ [A8 g0 50 [v0, jU (x1.Result.toNat : Int)], A8 g8 110 [v0_0, v0_1, jI a0.Fn]]) H ?_ ?_
    ·exact ⟨F.sb, s8⟩
    intro s9 _ w6 hh o4 H hr
    obtain ⟨F, sa⟩ := hh
    replace H : DD a0 x1 s9 = some o4 := H
    unfold DD at H
    refine gc 6 F rfl fun _ F => AH F H 6 4 rfl rfl rfl (fun hi H _ F => ?_) (fun hi H _ F => ?_)
    ·obtain ⟨x3, hj, H⟩ := Aa H
     obtain ⟨a2, hk, hl⟩ := HM Flat.u8 (Eb hc sa) Br rfl hj
     refine gi F hk 0 rfl fun _ F => ?_
     obtain ⟨x4, hm, H⟩ := Aa H
     refine gx F (An BF rfl (Bn.at_ hl (o := 0) rfl)) 6 rfl rfl fun _ F => AG F sa m1 1 rfl fun _ F => B5 F sa (MC (hr0_0.AN sa) hm) 3 rfl rfl rfl rfl fun w7 _ F sc => AH F H 17 7 rfl rfl rfl (fun hn H _ F => ?_) (fun hn H _ F => ?_)
     ·cases H
      obtain rfl := hr _ rfl
      replace H := R2
      try dsimp only at H
      cases H
      obtain rfl := hr _ rfl
      replace H := R0
      try dsimp only at H
      cases H
      exact rt F ⟨rfl, sc.drop.drop⟩
     cases H
     exact ⟨_, rfl, F.sb, sc⟩
    cases H
    obtain rfl := hr _ rfl
    exact ⟨_, rfl, F.sb, sa⟩
   intro _ w8 hJ
   obtain ⟨p2, rfl, F, sd⟩ := hJ
   have H := R2
   clear R2 H2
   try dsimp only at H
   cases H
   exact ge 6 F rfl fun _ F => ⟨_, rfl, F.sb, sd.drop⟩
  cases H
  obtain rfl := hr _ rfl
  exact ⟨_, rfl, F.sb, s4.drop⟩
 intro _ wa hJ
 obtain ⟨p0, rfl, F, se⟩ := hJ
 have H := R0
 clear R0 H0
 try dsimp only at H
 cases H
 exact ge 7 F rfl fun _ F => rt F ⟨rfl, se⟩
theorem K1 {w : World} {a0 : A4} {r : Bool} (H : FC a0 = some r) :
    Calls prog 171 #[.agg ⟨(jI a0.Locals :: jI a0.Height :: AU a0.Slots)⟩] w (B9 fun u_ w_ => u_ = .bool r ∧ SL w [] w_ []) := by
 have s0 : SL w [] w [] := SL.Bt w
 refine BD func171 ntmps171 2 rfl rfl rfl fun _ F0 => ?_
 unfold FC at H
 refine Ar F0 s0 rfl rfl rfl fun g8 w9 _ F s1 => gw 6 F rfl fun _ F => AG F s1 m0 2 rfl fun _ F => BB 6 F H (fun h0 H F => ?_) (fun h0 H F => ?_)
 ·refine gw 1 F rfl fun _ F => AK F rfl rfl <| AG F s1 m0 3 rfl fun _ F => BB 11 F H (fun h1 H F => ?_) (fun h1 H F => ?_)
  ·refine gw 1 F rfl fun _ F => AK F rfl rfl <| AG F s1 m0 3 rfl fun _ F => BB 16 F H (fun h2 H F => ?_) (fun h2 H F => ?_)
   ·refine gw 1 F rfl fun _ F => AK F rfl rfl <| AG F s1 m0 3 rfl fun _ F => BB 21 F H (fun h3 H F => ?_) (fun h3 H F => ?_)
    ·refine gw 1 F rfl fun _ F => AK F rfl rfl <| AG F s1 m0 1 rfl fun _ F => AK F rfl rfl ?_
     cases H
     exact AG F s1 m0 7 rfl fun _ F => rt F ⟨rfl, s1.drop⟩
    cases H
    exact gw 11 F rfl fun _ F => rt F ⟨rfl, s1.drop⟩
   cases H
   exact gw 16 F rfl fun _ F => rt F ⟨rfl, s1.drop⟩
  cases H
  exact gw 21 F rfl fun _ F => rt F ⟨rfl, s1.drop⟩
 cases H
 exact gw 26 F rfl fun _ F => rt F ⟨rfl, s1.drop⟩
theorem Kq {w : World} {v0 : Value} {a0 : List A6} {a1 : A4} {r : Int} (hr0 : Rd AB w [] v0 a0) (H : EA a0 a1 = some r) :
    Calls prog 147 #[v0, .agg ⟨(jI a1.Locals :: jI a1.Height :: AU a1.Slots)⟩] w (B9 fun u_ w_ => u_ = jI r ∧ SL w [] w_ []) := by
 have s0 : SL w [] w [] := SL.Bt w
 refine BD func147 ntmps147 2 rfl rfl rfl fun _ F0 => ?_
 unfold EA at H
 refine Ar F0 s0 rfl rfl rfl fun g8 w9 _ F s1 => ?_
 obtain ⟨x0, h0, H⟩ := Aa H
 refine gw 6 F rfl fun _ F => D3 F s1 m0 0 rfl fun _ F => B5 F s1 (K1 h0) 3 rfl rfl rfl rfl fun w0 _ F s2 => AH F H 7 6 rfl rfl rfl (fun h1 H _ F => ?_) (fun h1 H _ F => ?_)
 ·cases H
  exact rt F ⟨rfl, s2.drop⟩
 refine AG F s2 m0 1 rfl fun _ F => ?_
 obtain ⟨o0, H0, R0⟩ := Aa H
 clear H
 refine AG F s2 m0 4 rfl fun _ F => BA (fun a w_ => ∃ p0 : Unit, o0 = .inr (p0) ∧ Fr a 40 [(0, v0), (3, jP g8)] ∧ SL w [] w_ [A8 g8 118 (jI a1.Locals :: jI a1.Height :: AU a1.Slots)]) ?_ ?_
 ·have H := H0
  refine gc 1 F rfl fun _ F => Cy (E1 a1) (fun s3 a w_ => Fr a 40 [(0, v0), (3, jP g8), (5, jI s3)] ∧ SL w [] w_ [A8 g8 118 (jI a1.Locals :: jI a1.Height :: AU a1.Slots)]) H ?_ ?_
  ·exact ⟨F.sb, s2⟩
  intro s3 _ w1 h2 o1 H hr
  obtain ⟨F, s4⟩ := h2
  replace H : E1 a1 s3 = some o1 := H
  unfold E1 at H
  refine gc 7 F rfl fun _ F => AH F H 8 4 rfl rfl rfl (fun h3 H _ F => ?_) (fun h3 H _ F => ?_)
  ·obtain ⟨x1, h4, H⟩ := Aa H
   refine gx F (Ef Db h4 rfl rfl) 0 rfl rfl fun _ F => gx F (An BF rfl (SL.Iu (pre := [jI a1.Locals, jI a1.Height]) s4 m0 rfl h4)) 3 rfl rfl fun _ F => AH F H 12 8 rfl rfl rfl (fun h5 H _ F => ?_) (fun h5 H _ F => ?_)
   ·cases H
    obtain rfl := hr _ rfl
    replace H := R0
    try dsimp only at H
    cases H
    exact rt F ⟨rfl, s4.drop⟩
   cases H
   exact ⟨_, rfl, F.sb, s4⟩
  cases H
  obtain rfl := hr _ rfl
  exact ⟨_, rfl, F.sb, s4⟩
 intro _ w2 hJ
 obtain ⟨p0, rfl, F, s5⟩ := hJ
 have H := R0
 clear R0 H0
 try dsimp only at H
 obtain ⟨o2, H1, R1⟩ := Aa H
 clear H
 refine ge 7 F rfl fun _ F => BA (fun a w_ => ∃ p1 : Unit, o2 = .inr (p1) ∧ Fr a 40 [] ∧ SL w [] w_ []) ?_ ?_
 ·have H := H1
  refine gc 1 F rfl fun _ F => Cy (Ex a0 a1) (fun s6 a w_ => Fr a 40 [(0, v0), (3, jP g8), (6, jI s6)] ∧ SL w [] w_ [A8 g8 118 (jI a1.Locals :: jI a1.Height :: AU a1.Slots)]) H ?_ ?_
  ·exact ⟨F.sb, s5⟩
  intro s6 _ w3 h6 o3 H hr
  obtain ⟨F, s7⟩ := h6
  replace H : Ex a0 a1 s6 = some o3 := H
  unfold Ex at H
  refine gc 5 F rfl fun _ F => AG F s7 m0 1 rfl fun _ F => AG F s7 m0 4 rfl fun _ F => AH F H 9 4 rfl rfl rfl (fun h7 H _ F => ?_) (fun h7 H _ F => ?_)
  ·obtain ⟨x2, h8, H⟩ := Aa H
   obtain ⟨x3, h9, H⟩ := Aa H
   refine gx F (Ef Db h8 rfl rfl) 0 rfl rfl fun _ F => gx F (An BF rfl (SL.Iu (pre := [jI a1.Locals, jI a1.Height]) s7 m0 rfl h8)) 0 rfl rfl fun _ F => B5 F s7 (EH (hr0.AN s7) h9) 3 rfl rfl rfl rfl fun w4 _ F s8 => AH F H 12 8 rfl rfl rfl (fun ha H _ F => ?_) (fun ha H _ F => ?_)
   ·cases H
    obtain rfl := hr _ rfl
    replace H := R1
    try dsimp only at H
    cases H
    exact rt F ⟨rfl, s8.drop⟩
   cases H
   exact ⟨_, rfl, F.sb, s8⟩
  cases H
  obtain rfl := hr _ rfl
  exact ⟨_, rfl, F.sb, s7.drop⟩
 intro _ w5 hJ
 obtain ⟨p1, rfl, F, s9⟩ := hJ
 have H := R1
 clear R1 H1
 try dsimp only at H
 cases H
 exact ge 7 F rfl fun _ F => rt F ⟨rfl, s9⟩
theorem LR {w : World} {v0_0 v0_1 : Value} {a0 : AA} {a1 : A9} {r : Int} (hr0_0 : Rd AB w [] v0_0 a0.Classes) (hr0_1 : Rd B8 w [] v0_1 a0.AQ) (H : Fq a0 a1 = some r) :
    Calls prog 148 #[.agg ⟨[v0_0, v0_1, jI a0.Fn]⟩, .agg ⟨[jI a1.At, jU (a1.Op.toNat : Int), jI a1.A, jI a1.B]⟩] w (B9 fun u_ w_ => u_ = jI r ∧ SL w [] w_ []) := by
 have s0 : SL w [] w [] := SL.Bt w
 refine BD func148 ntmps148 2 rfl rfl rfl fun _ F0 => ?_
 unfold Fq at H
 refine Ar F0 s0 rfl rfl rfl fun g0 w0 _ F s1 => Ar F s1 rfl rfl rfl fun g1 w1 _ F s2 => ?_
 obtain ⟨o0, H0, R0⟩ := Aa H
 clear H
 refine gw 4 F rfl fun _ F => BA (fun a w_ => ∃ p0 : Unit, o0 = .inr (p0) ∧ Fr a 59 [(2, jP g0), (3, jP g1)] ∧ SL w [] w_ [A8 g1 79 [jI a1.At, jU (a1.Op.toNat : Int), jI a1.A, jI a1.B], A8 g0 110 [v0_0, v0_1, jI a0.Fn]]) ?_ ?_
 ·have H := H0
  refine gc 3 F rfl fun _ F => AG F s2 m0 9 rfl fun _ F => AH F H 3 1 rfl rfl rfl (fun h0 H _ F => ?_) (fun h0 H _ F => ?_)
  ·refine AG F s2 m0 2 rfl fun _ F => BB 12 F H (fun h1 H F => ?_) (fun h1 H F => ?_)
   ·cases H
    replace H := R0
    try dsimp only at H
    cases H
    exact gw 19 F rfl fun _ F => rt F ⟨rfl, s2.drop.drop⟩
   refine gw 1 F rfl fun _ F => AK F rfl rfl <| AG F s2 m0 1 rfl fun _ F => AK F rfl rfl <| AG F s2 m1 0 rfl fun _ F => AK F rfl rfl <| gx F (Ah rfl underlying108 (fR hr0_1 s2)) 4 rfl rfl fun _ F => AH F H 9 2 rfl rfl rfl (fun h2 H _ F => ?_) (fun h2 H _ F => ?_)
   ·cases H
    replace H := R0
    try dsimp only at H
    cases H
    exact rt F ⟨rfl, s2.drop.drop⟩
   cases H
   exact ⟨_, rfl, F.sb, s2⟩
  obtain ⟨o1, H1, R1⟩ := Aa H
  clear H
  refine BA (fun a w_ => Fr a 59 [(2, jP g0), (3, jP g1), (20, .bool o1)] ∧ SL w [] w_ [A8 g1 79 [jI a1.At, jU (a1.Op.toNat : Int), jI a1.A, jI a1.B], A8 g0 110 [v0_0, v0_1, jI a0.Fn]]) ?_ ?_
  ·have H := H1
   refine gc 6 F rfl fun _ F => AH F H 1 6 rfl rfl rfl (fun h3 H _ F => ?_) (fun h3 H _ F => ?_)
   ·cases H
    exact ⟨F.sb, s2⟩
   refine AH F H 1 6 rfl rfl rfl (fun h4 H _ F => ?_) (fun h4 H _ F => ?_)
   ·cases H
    exact ⟨F.sb, s2⟩
   refine AH F H 1 6 rfl rfl rfl (fun h5 H _ F => ?_) (fun h5 H _ F => ?_)
   ·cases H
    exact ⟨F.sb, s2⟩
   refine AH F H 1 4 rfl rfl rfl (fun h6 H _ F => ?_) (fun h6 H _ F => ?_)
   ·cases H
    exact ⟨F.sb, s2⟩
   cases H
   exact ⟨F.sb, s2⟩
  intro _ w2 hJ
  obtain ⟨F, s3⟩ := hJ
  have H := R1
  clear R1 H1
  refine ge 1 F rfl fun _ F => AH F H 3 2 rfl rfl rfl (fun h7 H _ F => ?_) (fun h7 H _ F => ?_)
  ·refine AG F s3 m0 2 rfl fun _ F => BB 29 F H (fun h8 H F => ?_) (fun h8 H F => ?_)
   ·cases H
    replace H := R0
    try dsimp only at H
    cases H
    exact gw 19 F rfl fun _ F => rt F ⟨rfl, s3.drop.drop⟩
   refine gw 1 F rfl fun _ F => AK F rfl rfl <| AG F s3 m0 1 rfl fun _ F => AK F rfl rfl <| AG F s3 m1 0 rfl fun _ F => AK F rfl rfl <| gx F (Ah rfl underlying22 (fR hr0_0 s3)) 4 rfl rfl fun _ F => AH F H 9 2 rfl rfl rfl (fun h9 H _ F => ?_) (fun h9 H _ F => ?_)
   ·cases H
    replace H := R0
    try dsimp only at H
    cases H
    exact rt F ⟨rfl, s3.drop.drop⟩
   cases H
   exact ⟨_, rfl, F.sb, s3⟩
  cases H
  exact ⟨_, rfl, F.sb, s3⟩
 intro _ w3 hJ
 obtain ⟨p0, rfl, F, s4⟩ := hJ
 have H := R0
 clear R0 H0
 try dsimp only at H
 refine ge 5 F rfl fun _ F => AG F s4 m0 2 rfl fun _ F => BB 40 F H (fun ha H F => ?_) (fun ha H F => ?_)
 ·refine gw 8 F rfl fun _ F => Be (decide (a1.B < 0)) (fun hgs3 => ?_) (fun hgs3 => ?_)
  ·replace H := Mt hgs3 H
   refine Cq Bq s4 ?_
   refine hq [0, 1, 2, 3, 4, 5, 6, 7, 8, 9, 10, 11, 12, 13] F s4.drew (QI.ev 1 rfl <| QI.ld m0 rfl <| QI.ev 2 rfl <| QI.kn (dj := 48) rfl hgs3 <| QI.ev 10 rfl <| QI.nil) (by kernel_rfl) fun _ F => ?_
   refine CP (by kernel_rfl) ?_
   cases H
   exact ge 9 F rfl fun _ F => rt F ⟨rfl, s4.drew.drop.drop⟩
  replace H := Ms hgs3 H
  obtain ⟨x0, hb, H⟩ := Aa H
  refine Cq Bq s4 ?_
  refine hq [0, 1, 2, 3, 4, 5, 6, 7, 8, 9] F s4.drew (QI.ev 1 rfl <| QI.ld m0 rfl <| QI.ev 2 rfl <| QI.kn (dj := 48) rfl hgs3 <| QI.ev 1 rfl <| QI.gop rfl (fun _ hC => An BE rfl (hC.FN m0 rfl)) rfl rfl rfl rfl rfl <| QI.ev 1 rfl <| QI.gop rfl (fun _ hC => An XH rfl (hC.FN m1 rfl)) rfl rfl rfl rfl rfl <| QI.ev 1 rfl <| QI.gop rfl (fun _ hC => An BE rfl (hC.FN m0 rfl)) rfl rfl rfl rfl rfl <| QI.nil) (by kernel_rfl) fun _ F => ?_
  refine ho 10 rfl (by kernel_rfl) ?_
  refine AK F rfl rfl <| Df F (GK (hr0_0.AN s4.drew) hb) fun v0 w4 _ hc F => ?_
  obtain ⟨_, rfl, hd⟩ := hc
  have s5 := s4.drew.add hd
  refine gw 1 F rfl fun _ F => ⟨s5.drop, ?_⟩
  refine ho 11 rfl (by kernel_rfl) ?_
  refine AK F rfl rfl <| gx F (Ah rfl underlying101 (fO s5 m0)) 1 rfl rfl fun _ F => ⟨s5.drop, ?_⟩
  refine hq [12, 13] F s5.drop (QI.ev 2 rfl <| QI.nil) (by kernel_rfl) fun _ F => ?_
  refine CP (by kernel_rfl) ?_
  refine ge 1 F rfl fun _ F => AH F H 7 8 rfl rfl rfl (fun he H _ F => ?_) (fun he H _ F => ?_)
  ·cases H
   exact rt F ⟨rfl, s5.drop.drop.drop⟩
  cases H
  exact rt F ⟨rfl, s5.drop.drop.drop⟩
 refine gw 1 F rfl fun _ F => AK F rfl rfl <| AG F s4 m0 4 rfl fun _ F => AH F H 1 8 rfl rfl rfl (fun hf H _ F => ?_) (fun hf H _ F => ?_)
 ·refine Be (decide (a1.B < 0)) (fun hgs4 => ?_) (fun hgs4 => ?_)
  ·replace H := Mt hgs4 H
   refine Cq Bq s4 ?_
   refine hq [0, 1, 2, 3, 4, 5, 6, 7, 8, 9, 10, 11, 12, 13] F s4.drew (QI.ev 1 rfl <| QI.ld m0 rfl <| QI.ev 2 rfl <| QI.kn (dj := 48) rfl hgs4 <| QI.ev 10 rfl <| QI.nil) (by kernel_rfl) fun _ F => ?_
   refine CP (by kernel_rfl) ?_
   cases H
   exact ge 9 F rfl fun _ F => rt F ⟨rfl, s4.drew.drop.drop⟩
  replace H := Ms hgs4 H
  obtain ⟨x1, hg, H⟩ := Aa H
  refine Cq Bq s4 ?_
  refine hq [0, 1, 2, 3, 4, 5, 6, 7, 8, 9] F s4.drew (QI.ev 1 rfl <| QI.ld m0 rfl <| QI.ev 2 rfl <| QI.kn (dj := 48) rfl hgs4 <| QI.ev 1 rfl <| QI.gop rfl (fun _ hC => An BE rfl (hC.FN m0 rfl)) rfl rfl rfl rfl rfl <| QI.ev 1 rfl <| QI.gop rfl (fun _ hC => An XH rfl (hC.FN m1 rfl)) rfl rfl rfl rfl rfl <| QI.ev 1 rfl <| QI.gop rfl (fun _ hC => An BE rfl (hC.FN m0 rfl)) rfl rfl rfl rfl rfl <| QI.nil) (by kernel_rfl) fun _ F => ?_
  refine ho 10 rfl (by kernel_rfl) ?_
  refine AK F rfl rfl <| Df F (GK (hr0_0.AN s4.drew) hg) fun v1 w5 _ hh F => ?_
  obtain ⟨_, rfl, hi⟩ := hh
  have s6 := s4.drew.add hi
  refine gw 1 F rfl fun _ F => ⟨s6.drop, ?_⟩
  refine ho 11 rfl (by kernel_rfl) ?_
  refine AK F rfl rfl <| gx F (Ah rfl underlying101 (fO s6 m0)) 1 rfl rfl fun _ F => ⟨s6.drop, ?_⟩
  refine hq [12, 13] F s6.drop (QI.ev 2 rfl <| QI.nil) (by kernel_rfl) fun _ F => ?_
  refine CP (by kernel_rfl) ?_
  refine ge 1 F rfl fun _ F => AH F H 7 8 rfl rfl rfl (fun hj H _ F => ?_) (fun hj H _ F => ?_)
  ·cases H
   exact rt F ⟨rfl, s6.drop.drop.drop⟩
  cases H
  exact rt F ⟨rfl, s6.drop.drop.drop⟩
 cases H
 exact rt F ⟨rfl, s4.drop.drop⟩
theorem KD {w : World} {a0 : UInt8} {r : (List UInt8)} (H : FY a0 = some r) :
    Calls prog 194 #[jU (a0.toNat : Int)] w (B9 fun u_ w_ => ∃ u0 : Value, u_ = u0 ∧ SL w [] w_ [Sl Ty.u8 u0 r]) := by
 have s0 : SL w [] w [] := SL.Bt w
 refine BD func194 ntmps194 12 rfl rfl rfl fun _ F => ?_
 unfold FY at H
 refine AH F H 7 5 rfl rfl rfl (fun h0 H _ F => ?_) (fun h0 H _ F => ?_)
 ·cases H
  exact rt F ⟨(.slice none 0 0), rfl, (SL.BI (T := Ty.u8) s0)⟩
 refine Ae (parts := [(0, .tmp 5)]) Flat.u8 ([a0] : List UInt8) F s0 Br rfl (by decide) rfl rfl rfl (by simp [Value.cells]) rfl rfl rfl fun v0 w0 _ F s1 => ?_
 cases H
 exact gw 4 F rfl fun _ F => rt F ⟨v0, rfl, s1⟩
theorem Kt {w : World} {a0 : Int} {r : UInt8} (H : Ea a0 = some r) :
    Calls prog 195 #[jI a0] w (B9 fun u_ w_ => u_ = jU (r.toNat : Int) ∧ SL w [] w_ []) := by
 have s0 : SL w [] w [] := SL.Bt w
 refine BD func195 ntmps195 8 rfl rfl rfl fun _ F7 => ?_
 unfold Ea at H
 refine gx F7 (RI rfl underlying3 underlying48) 0 rfl rfl fun _ F8 => ?_
 cases H
 exact gx F8 (Te rfl rfl) 4 rfl rfl fun _ F => rt F ⟨rfl, s0⟩
theorem Qz {w : World} {v0_0 v0_1 : Value} {a0 : AA} {a1 : A9} {r : (List UInt8)} {wb : World} {Fb : List Nat} (hb : Fm wb Fb w) (hB : ∀ k ∈ ([] : List Nat), k ∈ Fb ∨ wb.heap.size ≤ k) (hr0_0 : Rd AB wb Fb v0_0 a0.Classes) (hr0_1 : Rd B8 wb Fb v0_1 a0.AQ) (H : HJ a0 a1 = some r) :
    Calls prog 172 #[.agg ⟨[v0_0, v0_1, jI a0.Fn]⟩, .agg ⟨[jI a1.At, jU (a1.Op.toNat : Int), jI a1.A, jI a1.B]⟩] w (B9 fun u_ w_ => ∃ u0 : Value, u_ = u0 ∧ SL w [] w_ [Mx Ty.u8 wb Fb u0 r]) := by
 have s0 : SL w [] w [] := SL.Bt w
 refine BD func172 ntmps172 2 rfl rfl rfl fun _ F0 => ?_
 unfold HJ at H
 refine Ar F0 s0 rfl rfl rfl fun g0 w0 _ F s1 => Ar F s1 rfl rfl rfl fun g1 w1 _ F s2 => gw 7 F rfl fun _ F => AG F s2 m0 9 rfl fun _ F => AH F H 2 1 rfl rfl rfl (fun h0 H _ F => ?_) (fun h0 H _ F => ?_)
 ·refine Ae (parts := [(0, .const (jU 254))]) Flat.u8 ([(254 : UInt8)] : List UInt8) F s2 Br rfl (by decide) rfl rfl rfl (by simp [Value.cells]) rfl rfl rfl fun v0 w2 _ F s3 => ?_
  cases H
  exact gw 6 F rfl fun _ F => rt F ⟨v0, rfl, (SL.Ia (wb := wb) (Fb := Fb) s3).f1.drop.f1.drop⟩
 obtain ⟨o0, H0, R0⟩ := Aa H
 clear H
 refine BA (fun a w_ => Fr a 94 [(2, jP g0), (3, jP g1), (6, jU (a1.Op.toNat : Int)), (10, .bool o0)] ∧ SL w [] w_ [A8 g1 79 [jI a1.At, jU (a1.Op.toNat : Int), jI a1.A, jI a1.B], A8 g0 110 [v0_0, v0_1, jI a0.Fn]]) ?_ ?_
 ·have H := H0
  refine gc 6 F rfl fun _ F => AH F H 1 4 rfl rfl rfl (fun h1 H _ F => ?_) (fun h1 H _ F => ?_)
  ·cases H
   exact ⟨F.sb, s2⟩
  cases H
  exact ⟨F.sb, s2⟩
 intro _ w3 hJ
 obtain ⟨F, s4⟩ := hJ
 have H := R0
 clear R0 H0
 refine ge 1 F rfl fun _ F => AH F H 2 6 rfl rfl rfl (fun h2 H _ F => ?_) (fun h2 H _ F => ?_)
 ·refine Ae (parts := [(0, .const (jU 255))]) Flat.u8 ([(255 : UInt8)] : List UInt8) F s4 Br rfl (by decide) rfl rfl rfl (by simp [Value.cells]) rfl rfl rfl fun v1 w4 _ F s5 => ?_
  cases H
  exact gw 6 F rfl fun _ F => rt F ⟨v1, rfl, (SL.Ia (wb := wb) (Fb := Fb) s5).f1.drop.f1.drop⟩
 refine AH F H 2 1 rfl rfl rfl (fun h3 H _ F => ?_) (fun h3 H _ F => ?_)
 ·refine Ae (parts := [(0, .const (jU 255)), (1, .const (jU 255))]) Flat.u8 ([(255 : UInt8), (255 : UInt8)] : List UInt8) F s4 Br rfl (by decide) rfl rfl rfl (by simp [Value.cells]) rfl rfl rfl fun v2 w5 _ F s6 => ?_
  cases H
  exact gw 6 F rfl fun _ F => rt F ⟨v2, rfl, (SL.Ia (wb := wb) (Fb := Fb) s6).f1.drop.f1.drop⟩
 obtain ⟨o1, H1, R1⟩ := Aa H
 clear H
 refine BA (fun a w_ => Fr a 94 [(2, jP g0), (3, jP g1), (6, jU (a1.Op.toNat : Int)), (17, .bool o1)] ∧ SL w [] w_ [A8 g1 79 [jI a1.At, jU (a1.Op.toNat : Int), jI a1.A, jI a1.B], A8 g0 110 [v0_0, v0_1, jI a0.Fn]]) ?_ ?_
 ·have H := H1
  refine gc 6 F rfl fun _ F => AH F H 1 6 rfl rfl rfl (fun h4 H _ F => ?_) (fun h4 H _ F => ?_)
  ·cases H
   exact ⟨F.sb, s4⟩
  refine AH F H 1 6 rfl rfl rfl (fun h5 H _ F => ?_) (fun h5 H _ F => ?_)
  ·cases H
   exact ⟨F.sb, s4⟩
  refine AH F H 1 6 rfl rfl rfl (fun h6 H _ F => ?_) (fun h6 H _ F => ?_)
  ·cases H
   exact ⟨F.sb, s4⟩
  refine AH F H 1 6 rfl rfl rfl (fun h7 H _ F => ?_) (fun h7 H _ F => ?_)
  ·cases H
   exact ⟨F.sb, s4⟩
  refine AH F H 1 4 rfl rfl rfl (fun h8 H _ F => ?_) (fun h8 H _ F => ?_)
  ·cases H
   exact ⟨F.sb, s4⟩
  cases H
  exact ⟨F.sb, s4⟩
 intro _ w6 hJ
 obtain ⟨F, s7⟩ := hJ
 have H := R1
 clear R1 H1
 refine ge 1 F rfl fun _ F => AH F H 2 1 rfl rfl rfl (fun h9 H _ F => ?_) (fun h9 H _ F => ?_)
 ·refine Ae (parts := [(0, .const (jU 1)), (1, .const (jU 1))]) Flat.u8 ([(1 : UInt8), (1 : UInt8)] : List UInt8) F s7 Br rfl (by decide) rfl rfl rfl (by simp [Value.cells]) rfl rfl rfl fun v3 w7 _ F s8 => ?_
  cases H
  exact gw 6 F rfl fun _ F => rt F ⟨v3, rfl, (SL.Ia (wb := wb) (Fb := Fb) s8).f1.drop.f1.drop⟩
 obtain ⟨o2, H2, R2⟩ := Aa H
 clear H
 refine BA (fun a w_ => Fr a 94 [(2, jP g0), (3, jP g1), (6, jU (a1.Op.toNat : Int)), (25, .bool o2)] ∧ SL w [] w_ [A8 g1 79 [jI a1.At, jU (a1.Op.toNat : Int), jI a1.A, jI a1.B], A8 g0 110 [v0_0, v0_1, jI a0.Fn]]) ?_ ?_
 ·have H := H2
  refine gc 6 F rfl fun _ F => AH F H 1 6 rfl rfl rfl (fun ha H _ F => ?_) (fun ha H _ F => ?_)
  ·cases H
   exact ⟨F.sb, s7⟩
  refine AH F H 1 4 rfl rfl rfl (fun hc H _ F => ?_) (fun hc H _ F => ?_)
  ·cases H
   exact ⟨F.sb, s7⟩
  cases H
  exact ⟨F.sb, s7⟩
 intro _ w8 hJ
 obtain ⟨F, s9⟩ := hJ
 have H := R2
 clear R2 H2
 refine ge 1 F rfl fun _ F => AH F H 2 6 rfl rfl rfl (fun hd H _ F => ?_) (fun hd H _ F => ?_)
 ·refine Ae (parts := [(0, .const (jU 1))]) Flat.u8 ([(1 : UInt8)] : List UInt8) F s9 Br rfl (by decide) rfl rfl rfl (by simp [Value.cells]) rfl rfl rfl fun v4 w9 _ F sa => ?_
  cases H
  exact gw 6 F rfl fun _ F => rt F ⟨v4, rfl, (SL.Ia (wb := wb) (Fb := Fb) sa).f1.drop.f1.drop⟩
 refine AH F H 2 1 rfl rfl rfl (fun he H _ F => ?_) (fun he H _ F => ?_)
 ·refine Ae (parts := [(0, .const (jU 255)), (1, .const (jU 255))]) Flat.u8 ([(255 : UInt8), (255 : UInt8)] : List UInt8) F s9 Br rfl (by decide) rfl rfl rfl (by simp [Value.cells]) rfl rfl rfl fun v5 wa _ F sc => ?_
  cases H
  exact gw 6 F rfl fun _ F => rt F ⟨v5, rfl, (SL.Ia (wb := wb) (Fb := Fb) sc).f1.drop.f1.drop⟩
 obtain ⟨o3, H3, R3⟩ := Aa H
 clear H
 refine BA (fun a w_ => Fr a 94 [(2, jP g0), (3, jP g1), (6, jU (a1.Op.toNat : Int)), (33, .bool o3)] ∧ SL w [] w_ [A8 g1 79 [jI a1.At, jU (a1.Op.toNat : Int), jI a1.A, jI a1.B], A8 g0 110 [v0_0, v0_1, jI a0.Fn]]) ?_ ?_
 ·have H := H3
  refine gc 6 F rfl fun _ F => AH F H 1 4 rfl rfl rfl (fun hf H _ F => ?_) (fun hf H _ F => ?_)
  ·cases H
   exact ⟨F.sb, s9⟩
  cases H
  exact ⟨F.sb, s9⟩
 intro _ wc hJ
 obtain ⟨F, sd⟩ := hJ
 have H := R3
 clear R3 H3
 refine ge 1 F rfl fun _ F => AH F H 2 6 rfl rfl rfl (fun hg H _ F => ?_) (fun hg H _ F => ?_)
 ·refine Ae (parts := [(0, .const (jU 2))]) Flat.u8 ([(2 : UInt8)] : List UInt8) F sd Br rfl (by decide) rfl rfl rfl (by simp [Value.cells]) rfl rfl rfl fun v6 wd _ F se => ?_
  cases H
  exact gw 6 F rfl fun _ F => rt F ⟨v6, rfl, (SL.Ia (wb := wb) (Fb := Fb) se).f1.drop.f1.drop⟩
 refine AH F H 2 6 rfl rfl rfl (fun hh H _ F => ?_) (fun hh H _ F => ?_)
 ·refine Ae (parts := [(0, .const (jU 253)), (1, .const (jU 253))]) Flat.u8 ([(253 : UInt8), (253 : UInt8)] : List UInt8) F sd Br rfl (by decide) rfl rfl rfl (by simp [Value.cells]) rfl rfl rfl fun v7 we _ F sf => ?_
  cases H
  exact gw 6 F rfl fun _ F => rt F ⟨v7, rfl, (SL.Ia (wb := wb) (Fb := Fb) sf).f1.drop.f1.drop⟩
 refine AH F H 2 6 rfl rfl rfl (fun hi H _ F => ?_) (fun hi H _ F => ?_)
 ·obtain ⟨x0, hj, H⟩ := Aa H
  obtain ⟨a2, c0, G0, hk, hl, hm, hn⟩ := Rd.idx hr0_1 E2 rfl hj
  obtain ⟨v8, rfl, hp⟩ := (Ga hm hn)
  replace hl := hl _ _ (SL.up hb hB sd)
  refine gw 1 F rfl fun _ F => AG F sd m1 1 rfl fun _ F => AG F sd m0 0 rfl fun _ F => gi F hk 0 rfl fun _ F => gx F (Ba M7 rfl) 0 rfl rfl fun _ F => ?_
  cases H
  exact gx F (An M1 rfl (Bn.at_ hl (o := 0) rfl)) 6 rfl rfl fun _ F => rt F ⟨v8, rfl, (SL.AGk sd hp).f1.drop.f1.drop⟩
 refine AH F H 2 6 rfl rfl rfl (fun hr H _ F => ?_) (fun hr H _ F => ?_)
 ·obtain ⟨x1, hs, H⟩ := Aa H
  obtain ⟨a3, c1, G1, ht, hu, hv, hw⟩ := Rd.idx hr0_1 E2 rfl hs
  obtain ⟨v9, rfl, hx⟩ := (Ga hv hw)
  replace hu := hu _ _ (SL.up hb hB sd)
  obtain ⟨x2, hy, H⟩ := Aa H
  refine gw 1 F rfl fun _ F => AG F sd m1 1 rfl fun _ F => AG F sd m1 0 rfl fun _ F => gi F ht 0 rfl fun _ F => gx F (Ba RY rfl) 0 rfl rfl fun _ F => gx F (An BF rfl (Bn.at_ hu (o := 1) rfl)) 0 rfl rfl fun _ F => Df F (KD hy) fun va wf _ hz F => ?_
  obtain ⟨_, rfl, h10⟩ := hz
  have sg := sd.add h10
  cases H
  exact gw 6 F rfl fun _ F => rt F ⟨va, rfl, (SL.Ia (wb := wb) (Fb := Fb) sg).f1.drop.f1.drop⟩
 refine AH F H 3 6 rfl rfl rfl (fun h11 H _ F => ?_) (fun h11 H _ F => ?_)
 ·obtain ⟨x3, h12, H⟩ := Aa H
  refine AG F sd m0 0 rfl fun _ F => B5 F sd (Kt h12) 0 rfl rfl rfl rfl fun wg _ F sh => ?_
  refine Ae (parts := [(0, .tmp 63)]) Flat.u8 ([x3] : List UInt8) F sh Br rfl (by decide) rfl rfl rfl (by simp [Value.cells]) rfl rfl rfl fun vb wh _ F si => ?_
  cases H
  exact gw 6 F rfl fun _ F => rt F ⟨vb, rfl, (SL.Ia (wb := wb) (Fb := Fb) si).f1.drop.f1.drop⟩
 refine AH F H 1 6 rfl rfl rfl (fun h13 H _ F => ?_) (fun h13 H _ F => ?_)
 ·obtain ⟨x4, h14, H⟩ := Aa H
  obtain ⟨x5, h15, H⟩ := Aa H
  obtain ⟨x6, h16, H⟩ := Aa H
  refine Cq Bq sd ?_
  refine hq [0, 1, 3, 4, 5, 6, 8, 9] F sd.drew (QI.ev 1 rfl <| QI.ld m0 rfl <| QI.ev 1 rfl <| QI.ld m1 rfl <| QI.ev 1 rfl <| QI.ld m0 rfl <| QI.ev 1 rfl <| QI.ld m0 rfl <| QI.nil) (by kernel_rfl) fun _ F => ?_
  refine ho 2 rfl (by kernel_rfl) ?_
  refine B5 F sd.drew (Kt h14) 1 rfl rfl rfl rfl fun wi _ F sj => ⟨sj, ?_⟩
  refine ho 7 rfl (by kernel_rfl) ?_
  refine Df F (GK (hr0_0.AN (SL.up hb hB sj)) h15) fun vc wj _ h17 F => ?_
  obtain ⟨_, rfl, h18⟩ := h17
  have sk := sj.add h18
  refine gw 1 F rfl fun _ F => ⟨sk.drop, ?_⟩
  refine ho 10 rfl (by kernel_rfl) ?_
  obtain ⟨a4, h19, h1a⟩ := Ax DO sk m0 Hd rfl h16
  refine gi F h19 1 rfl fun _ F => ⟨sk.drop, ?_⟩
  refine hq [11] F sk.drop (QI.op rfl (fun _ hC => Ba QX rfl) rfl <| QI.nil) (by kernel_rfl) fun _ F => ?_
  refine ho 12 rfl (by kernel_rfl) ?_
  refine gx F (An BF rfl (Bn.at_ (SL.C0 DO sk m0 h1a h16) (o := 1) rfl)) 1 rfl rfl fun _ F => ⟨sk.drop, ?_⟩
  refine ho 13 rfl (by kernel_rfl) ?_
  refine Ae (parts := [(0, .tmp 69), (1, .tmp 79)]) Flat.u8 ([x4, x6.GQ] : List UInt8) F sk Br rfl (by decide) rfl rfl rfl (by simp [Value.cells]) rfl rfl rfl fun vd wk _ F sl => ?_
  refine gw 1 F rfl fun _ F => ⟨sl.drop.drop, ?_⟩
  refine hq [14] F sl.drop.drop (QI.ev 1 rfl <| QI.nil) (by kernel_rfl) fun _ F => ?_
  refine CP (by kernel_rfl) ?_
  cases H
  exact ge 4 F rfl fun _ F => rt F ⟨vd, rfl, (SL.Ia (wb := wb) (Fb := Fb) sl).f1.drop.f1.drop.f1.drop⟩
 refine AH F H 2 6 rfl rfl rfl (fun h1b H _ F => ?_) (fun h1b H _ F => ?_)
 ·refine Ae (parts := [(0, .const (jU 4))]) Flat.u8 ([(4 : UInt8)] : List UInt8) F sd Br rfl (by decide) rfl rfl rfl (by simp [Value.cells]) rfl rfl rfl fun ve wl _ F sm => ?_
  cases H
  exact gw 6 F rfl fun _ F => rt F ⟨ve, rfl, (SL.Ia (wb := wb) (Fb := Fb) sm).f1.drop.f1.drop⟩
 refine AH F H 2 6 rfl rfl rfl (fun h1c H _ F => ?_) (fun h1c H _ F => ?_)
 ·refine Ae (parts := [(0, .const (jU 4)), (1, .const (jU 1))]) Flat.u8 ([(4 : UInt8), (1 : UInt8)] : List UInt8) F sd Br rfl (by decide) rfl rfl rfl (by simp [Value.cells]) rfl rfl rfl fun vf wm _ F sn => ?_
  cases H
  exact gw 6 F rfl fun _ F => rt F ⟨vf, rfl, (SL.Ia (wb := wb) (Fb := Fb) sn).f1.drop.f1.drop⟩
 refine AH F H 2 7 rfl rfl rfl (fun h1d H _ F => ?_) (fun h1d H _ F => ?_)
 ·refine Ae (parts := [(0, .const (jU 4)), (1, .const (jU 1)), (2, .const (jU 1))]) Flat.u8 ([(4 : UInt8), (1 : UInt8), (1 : UInt8)] : List UInt8) F sd Br rfl (by decide) rfl rfl rfl (by simp [Value.cells]) rfl rfl rfl fun vg wn _ F so => ?_
  cases H
  exact gw 6 F rfl fun _ F => rt F ⟨vg, rfl, (SL.Ia (wb := wb) (Fb := Fb) so).f1.drop.f1.drop⟩
 refine AH F H 5 5 rfl rfl rfl (fun h1e H _ F => ?_) (fun h1e H _ F => ?_)
 ·refine Ae (parts := [(0, .const (jU 253))]) Flat.u8 ([(253 : UInt8)] : List UInt8) F sd Br rfl (by decide) rfl rfl rfl (by simp [Value.cells]) rfl rfl rfl fun vh wo _ F sp => ?_
  cases H
  exact gw 6 F rfl fun _ F => rt F ⟨vh, rfl, (SL.Ia (wb := wb) (Fb := Fb) sp).f1.drop.f1.drop⟩
 refine AH F H 2 9 rfl rfl rfl (fun h1f H _ F => ?_) (fun h1f H _ F => ?_)
 ·refine Ae (parts := [(0, .const (jU 253))]) Flat.u8 ([(253 : UInt8)] : List UInt8) F sd Br rfl (by decide) rfl rfl rfl (by simp [Value.cells]) rfl rfl rfl fun vi wp _ F sq => ?_
  cases H
  exact gw 6 F rfl fun _ F => rt F ⟨vi, rfl, (SL.Ia (wb := wb) (Fb := Fb) sq).f1.drop.f1.drop⟩
 cases H
 exact rt F ⟨(.slice none 0 0), rfl, (SL.Ia (wb := wb) (Fb := Fb) (SL.BI (T := Ty.u8) sd)).f1.drop.f1.drop⟩
theorem I4 {w : World} {a0 : UInt8} {r : Bool} (H : E8 a0 = some r) :
    Calls prog 196 #[jU (a0.toNat : Int)] w (B9 fun u_ w_ => u_ = .bool r ∧ SL w [] w_ []) := by
 have s0 : SL w [] w [] := SL.Bt w
 refine BD func196 ntmps196 10 rfl rfl rfl fun _ F => ?_
 unfold E8 at H
 refine BB 5 F H (fun h0 H F => ?_) (fun h0 H F => ?_)
 ·cases H
  exact gw 15 F rfl fun _ F => rt F ⟨rfl, s0⟩
 refine gw 4 F rfl fun _ F => BB 9 F H (fun h1 H F => ?_) (fun h1 H F => ?_)
 ·cases H
  exact gw 11 F rfl fun _ F => rt F ⟨rfl, s0⟩
 refine gw 4 F rfl fun _ F => BB 13 F H (fun h2 H F => ?_) (fun h2 H F => ?_)
 ·cases H
  exact gw 7 F rfl fun _ F => rt F ⟨rfl, s0⟩
 cases H
 exact gw 7 F rfl fun _ F => rt F ⟨rfl, s0⟩
theorem Jt {w : World} {v0 : Value} {a0 : List A6} {a1 : UInt8} {a2 : UInt8} {r : Bool} (hr0 : Rd AB w [] v0 a0) (H : FM a0 a1 a2 = some r) :
    Calls prog 197 #[v0, jU (a1.toNat : Int), jU (a2.toNat : Int)] w (B9 fun u_ w_ => u_ = .bool r ∧ SL w [] w_ []) := by
 have s0 : SL w [] w [] := SL.Bt w
 refine BD func197 ntmps197 10 rfl rfl rfl fun _ F => ?_
 unfold FM at H
 obtain ⟨x0, h0, H⟩ := Aa H
 refine B5 F s0 (EH (hr0.AN s0) h0) 2 rfl rfl rfl rfl fun w0 _ F s1 => BB 13 F H (fun h1 H F => ?_) (fun h1 H F => ?_)
 ·cases H
  exact gw 15 F rfl fun _ F => rt F ⟨rfl, s1⟩
 obtain ⟨x1, h2, H⟩ := Aa H
 refine gw 2 F rfl fun _ F => AK F rfl rfl <| B5 F s1 (EH (hr0.AN s1) h2) 4 rfl rfl rfl rfl fun w1 _ F s2 => AH F H 7 3 rfl rfl rfl (fun h3 H _ F => ?_) (fun h3 H _ F => ?_)
 ·cases H
  exact rt F ⟨rfl, s2⟩
 obtain ⟨o0, H0, R0⟩ := Aa H
 clear H
 refine BA (fun a w_ => ∃ p0 : Unit, o0 = .inr (p0) ∧ Fr a 67 [(0, v0), (1, jU (a1.toNat : Int)), (2, jU (a2.toNat : Int))] ∧ SL w [] w_ []) ?_ ?_
 ·have H := H0
  refine gc 6 F rfl fun _ F => BB 22 F H (fun h4 H F => ?_) (fun h4 H F => ?_)
  ·cases H
   replace H := R0
   try dsimp only at H
   cases H
   exact gw 30 F rfl fun _ F => rt F ⟨rfl, s2⟩
  refine gw 4 F rfl fun _ F => BB 26 F H (fun h5 H F => ?_) (fun h5 H F => ?_)
  ·cases H
   replace H := R0
   try dsimp only at H
   cases H
   exact gw 26 F rfl fun _ F => rt F ⟨rfl, s2⟩
  refine gw 3 F rfl fun _ F => BB 29 F H (fun h6 H F => ?_) (fun h6 H F => ?_)
  ·obtain ⟨x2, h7, H⟩ := Aa H
   refine gw 1 F rfl fun _ F => AK F rfl rfl <| B5 F s2 (I4 h7) 3 rfl rfl rfl rfl fun w2 _ F s3 => BB 34 F H (fun h8 H F => ?_) (fun h8 H F => ?_)
   ·cases H
    replace H := R0
    try dsimp only at H
    cases H
    exact gw 18 F rfl fun _ F => rt F ⟨rfl, s3⟩
   obtain ⟨x3, h9, H⟩ := Aa H
   refine gw 1 F rfl fun _ F => AK F rfl rfl <| B5 F s3 (I4 h9) 1 rfl rfl rfl rfl fun w3 _ F s4 => BB 37 F H (fun ha H F => ?_) (fun ha H F => ?_)
   ·refine gw 6 F rfl fun _ F => AH F H 8 1 rfl rfl rfl (fun hb H _ F => ?_) (fun hb H _ F => ?_)
    ·cases H
     replace H := R0
     try dsimp only at H
     cases H
     exact rt F ⟨rfl, s4⟩
    cases H
    exact ⟨_, rfl, F.sb, s4⟩
   cases H
   exact gw 8 F rfl fun _ F => ⟨_, rfl, F.sb, s4⟩
  obtain ⟨x4, hc, H⟩ := Aa H
  refine gw 6 F rfl fun _ F => AK F rfl rfl <| B5 F s2 (I4 hc) 1 rfl rfl rfl rfl fun w4 _ F s5 => BB 37 F H (fun hd H F => ?_) (fun hd H F => ?_)
  ·refine gw 6 F rfl fun _ F => AH F H 8 1 rfl rfl rfl (fun he H _ F => ?_) (fun he H _ F => ?_)
   ·cases H
    replace H := R0
    try dsimp only at H
    cases H
    exact rt F ⟨rfl, s5⟩
   cases H
   exact ⟨_, rfl, F.sb, s5⟩
  cases H
  exact gw 8 F rfl fun _ F => ⟨_, rfl, F.sb, s5⟩
 intro _ w5 hJ
 obtain ⟨p0, rfl, F, s6⟩ := hJ
 have H := R0
 clear R0 H0
 try dsimp only at H
 refine ge 7 F rfl fun _ F => BB 44 F H (fun hf H F => ?_) (fun hf H F => ?_)
 ·cases H
  exact gw 13 F rfl fun _ F => rt F ⟨rfl, s6⟩
 refine gw 5 F rfl fun _ F => AH F H 7 6 rfl rfl rfl (fun hg H _ F => ?_) (fun hg H _ F => ?_)
 ·cases H
  exact rt F ⟨rfl, s6⟩
 obtain ⟨x5, hh, H⟩ := Aa H
 refine gx F (Qo rfl rfl) 0 rfl rfl fun _ F => gx F (Lr rfl underlying48 underlying3) 0 rfl rfl fun _ F => Df F (Ns (hr0.AN s6) hh) fun v1 w6 _ hi F => ?_
 obtain ⟨_, rfl, hj⟩ := hi
 have s7 := s6.add hj
 obtain ⟨o1, H1, R1⟩ := Aa H
 clear H
 refine gw 9 F rfl fun _ F => BA (fun a w_ => ∃ p1 : Unit, o1 = .inr (p1) ∧ Fr a 67 [] ∧ SL w [] w_ []) ?_ ?_
 ·have H := H1
  refine gc 1 F rfl fun _ F => Cy (Ff a2 x5) (fun s8 a w_ => Fr a 67 [(2, jU (a2.toNat : Int)), (7, v1), (8, jI s8)] ∧ SL w [] w_ [Sl (Ty.int .i64) v1 x5]) H ?_ ?_
  ·exact ⟨F.sb, s7⟩
  intro s8 _ w7 hk o2 H hr
  obtain ⟨F, s9⟩ := hk
  replace H : Ff a2 x5 s8 = some o2 := H
  unfold Ff at H
  refine gc 5 F rfl fun _ F => gx F (Ah rfl underlying28 (fO s9 m0)) 3 rfl rfl fun _ F => AH F H 8 4 rfl rfl rfl (fun hl H _ F => ?_) (fun hl H _ F => ?_)
  ·obtain ⟨x6, hm, H⟩ := Aa H
   obtain ⟨a3, hn, ho⟩ := Ax (Flat.int .i64) s9 m0 Bz rfl hm
   refine gi F hn 0 rfl fun _ F => gx F (An BE rfl (Bn.at_ (SL.C0 (Flat.int .i64) s9 m0 ho hm) (o := 0) rfl)) 1 rfl rfl fun _ F => gx F (Qo rfl rfl) 0 rfl rfl fun _ F => gx F (Lr rfl underlying48 underlying3) 3 rfl rfl fun _ F => AH F H 12 8 rfl rfl rfl (fun hp H _ F => ?_) (fun hp H _ F => ?_)
   ·cases H
    obtain rfl := hr _ rfl
    replace H := R1
    try dsimp only at H
    cases H
    exact rt F ⟨rfl, s9.drop⟩
   cases H
   exact ⟨_, rfl, F.sb, s9⟩
  cases H
  obtain rfl := hr _ rfl
  exact ⟨_, rfl, F.sb, s9.drop⟩
 intro _ w8 hJ
 obtain ⟨p1, rfl, F, sa⟩ := hJ
 have H := R1
 clear R1 H1
 try dsimp only at H
 cases H
 exact ge 7 F rfl fun _ F => rt F ⟨rfl, sa⟩
theorem Qp {w : World} {v0 : Value} {a0 : List A6} {a1 : UInt8} {a2 : UInt8} {r : Bool} (hr0 : Rd AB w [] v0 a0) (H : Hz a0 a1 a2 = some r) :
    Calls prog 173 #[v0, jU (a1.toNat : Int), jU (a2.toNat : Int)] w (B9 fun u_ w_ => u_ = .bool r ∧ SL w [] w_ []) := by
 have s0 : SL w [] w [] := SL.Bt w
 refine BD func173 ntmps173 18 rfl rfl rfl fun _ F => ?_
 unfold Hz at H
 refine AH F H 8 6 rfl rfl rfl (fun h0 H _ F => ?_) (fun h0 H _ F => ?_)
 ·cases H
  exact rt F ⟨rfl, s0⟩
 refine AH F H 10 6 rfl rfl rfl (fun h1 H _ F => ?_) (fun h1 H _ F => ?_)
 ·cases H
  exact rt F ⟨rfl, s0⟩
 refine AH F H 3 8 rfl rfl rfl (fun h2 H _ F => ?_) (fun h2 H _ F => ?_)
 ·obtain ⟨x0, h3, H⟩ := Aa H
  refine B5 F s0 (I4 h3) 6 rfl rfl rfl rfl fun w0 _ F s1 => ?_
  cases H
  exact rt F ⟨rfl, s1⟩
 obtain ⟨x1, h4, H⟩ := Aa H
 refine B5 F s0 (Jt (hr0.AN s0) h4) 4 rfl rfl rfl rfl fun w1 _ F s2 => ?_
 cases H
 exact rt F ⟨rfl, s2⟩
theorem Q5 {w : World} {v0_0 v0_1 : Value} {a0 : AA} {a1 : A9} {r : (List UInt8)} (hr0_0 : Rd AB w [] v0_0 a0.Classes) (hr0_1 : Rd B8 w [] v0_1 a0.AQ) (H : HT a0 a1 = some r) :
    Calls prog 174 #[.agg ⟨[v0_0, v0_1, jI a0.Fn]⟩, .agg ⟨[jI a1.At, jU (a1.Op.toNat : Int), jI a1.A, jI a1.B]⟩] w (B9 fun u_ w_ => ∃ u0 : Value, u_ = u0 ∧ SL w [] w_ [Sl Ty.u8 u0 r]) := by
 have s0 : SL w [] w [] := SL.Bt w
 refine BD func174 ntmps174 2 rfl rfl rfl fun _ F0 => ?_
 unfold HT at H
 refine Ar F0 s0 rfl rfl rfl fun g0 w0 _ F s1 => Ar F s1 rfl rfl rfl fun g1 w1 _ F s2 => gw 7 F rfl fun _ F => ?_
 obtain ⟨o0, H0, R0⟩ := Aa H
 clear H
 refine AG F s2 m0 4 rfl fun _ F => BA (fun a w_ => Fr a 69 [(2, jP g0), (3, jP g1), (6, jU (a1.Op.toNat : Int)), (7, .bool o0)] ∧ SL w [] w_ [A8 g1 79 [jI a1.At, jU (a1.Op.toNat : Int), jI a1.A, jI a1.B], A8 g0 110 [v0_0, v0_1, jI a0.Fn]]) ?_ ?_
 ·have H := H0
  refine gc 6 F rfl fun _ F => AH F H 1 6 rfl rfl rfl (fun h0 H _ F => ?_) (fun h0 H _ F => ?_)
  ·cases H
   exact ⟨F.sb, s2⟩
  refine AH F H 1 6 rfl rfl rfl (fun h1 H _ F => ?_) (fun h1 H _ F => ?_)
  ·cases H
   exact ⟨F.sb, s2⟩
  refine AH F H 1 6 rfl rfl rfl (fun h2 H _ F => ?_) (fun h2 H _ F => ?_)
  ·cases H
   exact ⟨F.sb, s2⟩
  refine AH F H 1 6 rfl rfl rfl (fun h3 H _ F => ?_) (fun h3 H _ F => ?_)
  ·cases H
   exact ⟨F.sb, s2⟩
  refine AH F H 1 6 rfl rfl rfl (fun h4 H _ F => ?_) (fun h4 H _ F => ?_)
  ·cases H
   exact ⟨F.sb, s2⟩
  refine AH F H 1 6 rfl rfl rfl (fun h5 H _ F => ?_) (fun h5 H _ F => ?_)
  ·cases H
   exact ⟨F.sb, s2⟩
  refine AH F H 1 6 rfl rfl rfl (fun h6 H _ F => ?_) (fun h6 H _ F => ?_)
  ·cases H
   exact ⟨F.sb, s2⟩
  refine AH F H 1 4 rfl rfl rfl (fun h7 H _ F => ?_) (fun h7 H _ F => ?_)
  ·cases H
   exact ⟨F.sb, s2⟩
  cases H
  exact ⟨F.sb, s2⟩
 intro _ w2 hJ
 obtain ⟨F, s3⟩ := hJ
 have H := R0
 clear R0 H0
 refine ge 1 F rfl fun _ F => AH F H 2 1 rfl rfl rfl (fun h8 H _ F => ?_) (fun h8 H _ F => ?_)
 ·refine Ae (parts := [(0, .const (jU 1))]) Flat.u8 ([(1 : UInt8)] : List UInt8) F s3 Br rfl (by decide) rfl rfl rfl (by simp [Value.cells]) rfl rfl rfl fun v0 w3 _ F s4 => ?_
  cases H
  exact gw 6 F rfl fun _ F => rt F ⟨v0, rfl, s4.f1.drop.f1.drop⟩
 obtain ⟨o1, H1, R1⟩ := Aa H
 clear H
 refine BA (fun a w_ => Fr a 69 [(2, jP g0), (3, jP g1), (6, jU (a1.Op.toNat : Int)), (18, .bool o1)] ∧ SL w [] w_ [A8 g1 79 [jI a1.At, jU (a1.Op.toNat : Int), jI a1.A, jI a1.B], A8 g0 110 [v0_0, v0_1, jI a0.Fn]]) ?_ ?_
 ·have H := H1
  refine gc 6 F rfl fun _ F => AH F H 1 6 rfl rfl rfl (fun h9 H _ F => ?_) (fun h9 H _ F => ?_)
  ·cases H
   exact ⟨F.sb, s3⟩
  refine AH F H 1 6 rfl rfl rfl (fun ha H _ F => ?_) (fun ha H _ F => ?_)
  ·cases H
   exact ⟨F.sb, s3⟩
  refine AH F H 1 6 rfl rfl rfl (fun hb H _ F => ?_) (fun hb H _ F => ?_)
  ·cases H
   exact ⟨F.sb, s3⟩
  refine AH F H 1 6 rfl rfl rfl (fun hc H _ F => ?_) (fun hc H _ F => ?_)
  ·cases H
   exact ⟨F.sb, s3⟩
  refine AH F H 1 4 rfl rfl rfl (fun hd H _ F => ?_) (fun hd H _ F => ?_)
  ·cases H
   exact ⟨F.sb, s3⟩
  cases H
  exact ⟨F.sb, s3⟩
 intro _ w4 hJ
 obtain ⟨F, s5⟩ := hJ
 have H := R1
 clear R1 H1
 refine ge 1 F rfl fun _ F => AH F H 2 6 rfl rfl rfl (fun he H _ F => ?_) (fun he H _ F => ?_)
 ·refine Ae (parts := [(0, .const (jU 2))]) Flat.u8 ([(2 : UInt8)] : List UInt8) F s5 Br rfl (by decide) rfl rfl rfl (by simp [Value.cells]) rfl rfl rfl fun v1 w5 _ F s6 => ?_
  cases H
  exact gw 6 F rfl fun _ F => rt F ⟨v1, rfl, s6.f1.drop.f1.drop⟩
 refine AH F H 2 6 rfl rfl rfl (fun hf H _ F => ?_) (fun hf H _ F => ?_)
 ·refine Ae (parts := [(0, .const (jU 3))]) Flat.u8 ([(3 : UInt8)] : List UInt8) F s5 Br rfl (by decide) rfl rfl rfl (by simp [Value.cells]) rfl rfl rfl fun v2 w6 _ F s7 => ?_
  cases H
  exact gw 6 F rfl fun _ F => rt F ⟨v2, rfl, s7.f1.drop.f1.drop⟩
 refine AH F H 2 1 rfl rfl rfl (fun hg H _ F => ?_) (fun hg H _ F => ?_)
 ·refine Ae (parts := [(0, .const (jU 255))]) Flat.u8 ([(255 : UInt8)] : List UInt8) F s5 Br rfl (by decide) rfl rfl rfl (by simp [Value.cells]) rfl rfl rfl fun v3 w7 _ F s8 => ?_
  cases H
  exact gw 6 F rfl fun _ F => rt F ⟨v3, rfl, s8.f1.drop.f1.drop⟩
 obtain ⟨o2, H2, R2⟩ := Aa H
 clear H
 refine BA (fun a w_ => Fr a 69 [(2, jP g0), (3, jP g1), (6, jU (a1.Op.toNat : Int)), (32, .bool o2)] ∧ SL w [] w_ [A8 g1 79 [jI a1.At, jU (a1.Op.toNat : Int), jI a1.A, jI a1.B], A8 g0 110 [v0_0, v0_1, jI a0.Fn]]) ?_ ?_
 ·have H := H2
  refine gc 6 F rfl fun _ F => AH F H 1 4 rfl rfl rfl (fun hh H _ F => ?_) (fun hh H _ F => ?_)
  ·cases H
   exact ⟨F.sb, s5⟩
  cases H
  exact ⟨F.sb, s5⟩
 intro _ w8 hJ
 obtain ⟨F, s9⟩ := hJ
 have H := R2
 clear R2 H2
 refine ge 1 F rfl fun _ F => AH F H 2 6 rfl rfl rfl (fun hi H _ F => ?_) (fun hi H _ F => ?_)
 ·refine Ae (parts := [(0, .const (jU 255)), (1, .const (jU 255))]) Flat.u8 ([(255 : UInt8), (255 : UInt8)] : List UInt8) F s9 Br rfl (by decide) rfl rfl rfl (by simp [Value.cells]) rfl rfl rfl fun v4 w9 _ F sa => ?_
  cases H
  exact gw 6 F rfl fun _ F => rt F ⟨v4, rfl, sa.f1.drop.f1.drop⟩
 refine AH F H 2 1 rfl rfl rfl (fun hj H _ F => ?_) (fun hj H _ F => ?_)
 ·obtain ⟨x0, hk, H⟩ := Aa H
  obtain ⟨a2, c0, G0, hl, hm, hn, hp⟩ := Rd.idx hr0_1 E2 rfl hk
  obtain ⟨v5, rfl, hr⟩ := (Ga hn hp)
  replace hm := hm _ _ s9
  obtain ⟨x1, hs, H⟩ := Aa H
  refine gw 1 F rfl fun _ F => AG F s9 m1 1 rfl fun _ F => AG F s9 m0 0 rfl fun _ F => gi F hl 0 rfl fun _ F => gx F (Ba RY rfl) 0 rfl rfl fun _ F => gx F (An BF rfl (Bn.at_ hm (o := 1) rfl)) 0 rfl rfl fun _ F => Df F (KD hs) fun v6 wa _ ht F => ?_
  obtain ⟨_, rfl, hu⟩ := ht
  have sc := s9.add hu
  cases H
  exact gw 6 F rfl fun _ F => rt F ⟨v6, rfl, sc.f1.drop.f1.drop⟩
 obtain ⟨o3, H3, R3⟩ := Aa H
 clear H
 refine BA (fun a w_ => Fr a 69 [(2, jP g0), (3, jP g1), (6, jU (a1.Op.toNat : Int)), (46, .bool o3)] ∧ SL w [] w_ [A8 g1 79 [jI a1.At, jU (a1.Op.toNat : Int), jI a1.A, jI a1.B], A8 g0 110 [v0_0, v0_1, jI a0.Fn]]) ?_ ?_
 ·have H := H3
  refine gc 6 F rfl fun _ F => AH F H 1 4 rfl rfl rfl (fun hv H _ F => ?_) (fun hv H _ F => ?_)
  ·cases H
   exact ⟨F.sb, s9⟩
  cases H
  exact ⟨F.sb, s9⟩
 intro _ wb hJ
 obtain ⟨F, sd⟩ := hJ
 have H := R3
 clear R3 H3
 refine ge 1 F rfl fun _ F => AH F H 3 6 rfl rfl rfl (fun hw H _ F => ?_) (fun hw H _ F => ?_)
 ·obtain ⟨x2, hx, H⟩ := Aa H
  refine AG F sd m0 0 rfl fun _ F => B5 F sd (Kt hx) 0 rfl rfl rfl rfl fun wc _ F se => ?_
  refine Ae (parts := [(0, .tmp 51)]) Flat.u8 ([x2] : List UInt8) F se Br rfl (by decide) rfl rfl rfl (by simp [Value.cells]) rfl rfl rfl fun v7 wd _ F sf => ?_
  cases H
  exact gw 6 F rfl fun _ F => rt F ⟨v7, rfl, sf.f1.drop.f1.drop⟩
 refine AH F H 1 6 rfl rfl rfl (fun hy H _ F => ?_) (fun hy H _ F => ?_)
 ·obtain ⟨x3, hz, H⟩ := Aa H
  obtain ⟨x4, h10, H⟩ := Aa H
  obtain ⟨x5, h11, H⟩ := Aa H
  refine Cq Bq sd ?_
  refine hq [0, 1, 2, 3, 5, 6] F sd.drew (QI.ev 1 rfl <| QI.ld m1 rfl <| QI.ev 1 rfl <| QI.ld m0 rfl <| QI.ev 1 rfl <| QI.ld m0 rfl <| QI.nil) (by kernel_rfl) fun _ F => ?_
  refine ho 4 rfl (by kernel_rfl) ?_
  refine Df F (GK (hr0_0.AN sd.drew) hz) fun v8 we _ h12 F => ?_
  obtain ⟨_, rfl, h13⟩ := h12
  have sg := sd.drew.add h13
  refine gw 1 F rfl fun _ F => ⟨sg.drop, ?_⟩
  refine ho 7 rfl (by kernel_rfl) ?_
  obtain ⟨a3, h14, h15⟩ := Ax DO sg m0 Hd rfl h10
  refine gi F h14 1 rfl fun _ F => ⟨sg.drop, ?_⟩
  refine hq [8] F sg.drop (QI.op rfl (fun _ hC => Ba QX rfl) rfl <| QI.nil) (by kernel_rfl) fun _ F => ?_
  refine ho 9 rfl (by kernel_rfl) ?_
  refine gx F (An BF rfl (Bn.at_ (SL.C0 DO sg m0 h15 h10) (o := 1) rfl)) 1 rfl rfl fun _ F => ⟨sg.drop, ?_⟩
  refine ho 10 rfl (by kernel_rfl) ?_
  refine Df F (KD h11) fun v9 wf _ h16 F => ?_
  obtain ⟨_, rfl, h17⟩ := h16
  have sh := sg.add h17
  refine gw 1 F rfl fun _ F => ⟨sh.drop.drop, ?_⟩
  refine hq [11] F sh.drop.drop (QI.ev 1 rfl <| QI.nil) (by kernel_rfl) fun _ F => ?_
  refine CP (by kernel_rfl) ?_
  cases H
  exact ge 4 F rfl fun _ F => rt F ⟨v9, rfl, sh.f1.drop.f1.drop.f1.drop⟩
 refine AH F H 2 9 rfl rfl rfl (fun h18 H _ F => ?_) (fun h18 H _ F => ?_)
 ·refine Ae (parts := [(0, .const (jU 4))]) Flat.u8 ([(4 : UInt8)] : List UInt8) F sd Br rfl (by decide) rfl rfl rfl (by simp [Value.cells]) rfl rfl rfl fun va wg _ F si => ?_
  cases H
  exact gw 6 F rfl fun _ F => rt F ⟨va, rfl, si.f1.drop.f1.drop⟩
 cases H
 exact rt F ⟨(.slice none 0 0), rfl, (SL.BI (T := Ty.u8) sd).f1.drop.f1.drop⟩
theorem Nr {w : World} {a0 : A4} {r : A4} (H : Hj a0 = some r) :
    Calls prog 198 #[.agg ⟨(jI a0.Locals :: jI a0.Height :: AU a0.Slots)⟩] w (B9 fun u_ w_ => u_ = .agg ⟨(jI r.Locals :: jI r.Height :: AU r.Slots)⟩ ∧ SL w [] w_ []) := by
 have s0 : SL w [] w [] := SL.Bt w
 refine BD func198 ntmps198 2 rfl rfl rfl fun _ F0 => ?_
 unfold Hj at H
 refine Ar F0 s0 rfl rfl rfl fun g0 w0 _ F s1 => Af F s1 AO rfl rfl fun g1 w1 _ F s2 => gw 6 F rfl fun _ F => AG F s2 m1 1 rfl fun _ F => ?_
 obtain ⟨o0, H0, R0⟩ := Aa H
 clear H
 refine AG F s2 m1 4 rfl fun _ F => BA (fun a w_ => Fr a 17 [(1, jP g0), (2, jP g1)] ∧ SL w [] w_ [A8 g1 118 jZ, A8 g0 118 (jI a0.Locals :: jI a0.Height :: AU o0)]) ?_ ?_
 ·have H := H0
  refine gc 1 F rfl fun _ F => Cy (EJ) (fun s3 a w_ => Fr a 17 [(1, jP g0), (2, jP g1), (3, jI s3.2)] ∧ SL w [] w_ [A8 g1 118 jZ, A8 g0 118 (jI a0.Locals :: jI a0.Height :: AU s3.1)]) H ?_ ?_
  ·exact ⟨F.sb, s2⟩
  intro s3 _ w2 h0 o1 H hr
  obtain ⟨F, s4⟩ := h0
  replace H : EJ s3 = some o1 := H
  unfold EJ at H
  refine gc 7 F rfl fun _ F => AH F H 7 4 rfl rfl rfl (fun h1 H _ F => ?_) (fun h1 H _ F => ?_)
  ·obtain ⟨x0, h2, H⟩ := Aa H
   refine gx F (Ef Db h2 rfl rfl) 0 rfl rfl fun _ F => Jo (y' := (0 : UInt8)) (pre := [jI a0.Locals, jI a0.Height]) F s4.f1 rfl h2 rfl rfl JL fun w3 _ F s5 => ?_
   cases H
   exact gw 8 F rfl fun _ F => ⟨_, rfl, F.sb, s5.f1⟩
  cases H
  obtain rfl := hr _ rfl
  exact ⟨F.sb, s4⟩
 intro _ w4 hJ
 obtain ⟨F, s6⟩ := hJ
 have H := R0
 clear R0 H0
 refine ge 3 F rfl fun _ F => D3 F s6 m1 0 rfl fun _ F => ?_
 refine AP (ds := (jI a0.Locals :: jI a0.Height :: AU o0)) F s6 rfl rfl (by simpa using AX) (Ab rfl (Ab rfl (Bp _))) (by simp) fun w5 _ F s7 => ?_
 cases H
 refine gw 3 F rfl fun _ F => ?_
 refine Ak (rs := [.cell 2 118]) (vs := [.agg ⟨(jI a0.Locals :: jI a0.Height :: AU o0)⟩]) F (by rfl) ⟨_, _, rfl, Am s7 m0 rfl AZ (by simp), rfl⟩ ⟨_, rfl, ⟨rfl, s7.drop.drop⟩⟩
theorem Rq {w : World} {a0 : A4} {r : A4 × UInt8 × Int} (H : IK a0 = some r) :
    Calls prog 175 #[.agg ⟨(jI a0.Locals :: jI a0.Height :: AU a0.Slots)⟩] w (B9 fun u_ w_ => u_ = .tuple ⟨[.agg ⟨(jI r.1.Locals :: jI r.1.Height :: AU r.1.Slots)⟩, jU (r.2.1.toNat : Int), jI r.2.2]⟩ ∧ SL w [] w_ []) := by
 have s0 : SL w [] w [] := SL.Bt w
 refine BD func175 ntmps175 2 rfl rfl rfl fun _ F0 => ?_
 unfold IK at H
 refine Ar F0 s0 rfl rfl rfl fun g0 w0 _ F s1 => Af F s1 AO rfl rfl fun g1 w1 _ F s2 => ?_
 obtain ⟨x0, h0, H⟩ := Aa H
 refine gw 7 F rfl fun _ F => D3 F s2 m1 0 rfl fun _ F => B5 F s2 (K1 h0) 3 rfl rfl rfl rfl fun w2 _ F s3 => AH F H 2 6 rfl rfl rfl (fun h1 H _ F => ?_) (fun h1 H _ F => ?_)
 ·refine gx F (Al (vs := []) AO Ch rfl (cs := jZ) (BG)) 0 rfl rfl fun _ F => ?_
  refine AP (ds := jZ) F s3 rfl rfl (by simpa using AX) (Ab rfl (Ab rfl (Bp _))) (by simp) fun w3 _ F s4 => ?_
  cases H
  refine gw 6 F rfl fun _ F => ?_
  refine Ak (rs := [.cell 2 118, .tmp 3, .tmp 4]) (vs := [.agg ⟨jZ⟩, jU 0, jI 32]) F (by rfl) ⟨_, _, rfl, Am s4 m0 rfl AZ (by simp), _, _, rfl, Ao rfl, _, _, rfl, Ao rfl, rfl⟩ ⟨_, rfl, ⟨rfl, s4.drop.drop⟩⟩
 refine AG F s3 m1 3 rfl fun _ F => AH F H 2 5 rfl rfl rfl (fun h2 H _ F => ?_) (fun h2 H _ F => ?_)
 ·refine gx F (Al (vs := []) AO Ch rfl (cs := jZ) (BG)) 0 rfl rfl fun _ F => ?_
  refine AP (ds := jZ) F s3 rfl rfl (by simpa using AX) (Ab rfl (Ab rfl (Bp _))) (by simp) fun w4 _ F s5 => ?_
  cases H
  refine gw 6 F rfl fun _ F => ?_
  refine Ak (rs := [.cell 2 118, .tmp 3, .tmp 4]) (vs := [.agg ⟨jZ⟩, jU 0, jI 30]) F (by rfl) ⟨_, _, rfl, Am s5 m0 rfl AZ (by simp), _, _, rfl, Ao rfl, _, _, rfl, Ao rfl, rfl⟩ ⟨_, rfl, ⟨rfl, s5.drop.drop⟩⟩
 obtain ⟨x1, h3, H⟩ := Aa H
 refine AG F s3 m1 1 rfl fun _ F => AG F s3 m1 3 rfl fun _ F => gx F (Ef Db h3 rfl rfl) 0 rfl rfl fun _ F => gx F (An BF rfl (SL.Iu (pre := [jI a0.Locals, jI a0.Height]) s3 m1 rfl h3)) 6 rfl rfl fun _ F => AG F s3 m1 2 rfl fun _ F => Ay F s3.f1 rfl rfl IW rfl rfl rfl fun w5 _ F s6 => ?_
 obtain ⟨x2, h4, H⟩ := Aa H
 refine gw 4 F rfl fun _ F => D3 F s6 m0 0 rfl fun _ F => B5 F s6 (Nr h4) 1 rfl rfl rfl rfl fun w6 _ F s7 => ?_
 refine AP (ds := (jI x2.Locals :: jI x2.Height :: AU x2.Slots)) F s7.f1 rfl rfl (by simpa using AX) (Ab rfl (Ab rfl (Bp _))) (by simp) fun w7 _ F s8 => ?_
 cases H
 refine gw 5 F rfl fun _ F => ?_
 refine Ak (rs := [.cell 2 118, .tmp 3, .tmp 4]) (vs := [.agg ⟨(jI x2.Locals :: jI x2.Height :: AU x2.Slots)⟩, jU (x1.toNat : Int), jI 0]) F (by rfl) ⟨_, _, rfl, Am s8 m0 rfl AZ (by simp), _, _, rfl, Ao rfl, _, _, rfl, Ao rfl, rfl⟩ ⟨_, rfl, ⟨rfl, s8.drop.drop⟩⟩
theorem Rk {w : World} {a0 : A4} {a1 : UInt8} {r : A4 × Int} (H : Iw a0 a1 = some r) :
    Calls prog 176 #[.agg ⟨(jI a0.Locals :: jI a0.Height :: AU a0.Slots)⟩, jU (a1.toNat : Int)] w (B9 fun u_ w_ => u_ = .tuple ⟨[.agg ⟨(jI r.1.Locals :: jI r.1.Height :: AU r.1.Slots)⟩, jI r.2]⟩ ∧ SL w [] w_ []) := by
 have s0 : SL w [] w [] := SL.Bt w
 refine BD func176 ntmps176 2 rfl rfl rfl fun _ F0 => ?_
 unfold Iw at H
 refine Ar F0 s0 rfl rfl rfl fun g0 w0 _ F s1 => Af F s1 AO rfl rfl fun g1 w1 _ F s2 => ?_
 obtain ⟨x0, h0, H⟩ := Aa H
 refine gw 6 F rfl fun _ F => D3 F s2 m1 0 rfl fun _ F => B5 F s2 (K1 h0) 3 rfl rfl rfl rfl fun w2 _ F s3 => AH F H 2 5 rfl rfl rfl (fun h1 H _ F => ?_) (fun h1 H _ F => ?_)
 ·refine gx F (Al (vs := []) AO Ch rfl (cs := jZ) (BG)) 0 rfl rfl fun _ F => ?_
  refine AP (ds := jZ) F s3 rfl rfl (by simpa using AX) (Ab rfl (Ab rfl (Bp _))) (by simp) fun w3 _ F s4 => ?_
  cases H
  refine gw 5 F rfl fun _ F => ?_
  refine Ak (rs := [.cell 4 118, .tmp 5]) (vs := [.agg ⟨jZ⟩, jI 32]) F (by rfl) ⟨_, _, rfl, Am s4 m0 rfl AZ (by simp), _, _, rfl, Ao rfl, rfl⟩ ⟨_, rfl, ⟨rfl, s4.drop.drop⟩⟩
 refine AG F s3 m1 1 rfl fun _ F => AG F s3 m1 11 rfl fun _ F => AH F H 2 4 rfl rfl rfl (fun h2 H _ F => ?_) (fun h2 H _ F => ?_)
 ·refine gx F (Al (vs := []) AO Ch rfl (cs := jZ) (BG)) 0 rfl rfl fun _ F => ?_
  refine AP (ds := jZ) F s3 rfl rfl (by simpa using AX) (Ab rfl (Ab rfl (Bp _))) (by simp) fun w4 _ F s5 => ?_
  cases H
  refine gw 5 F rfl fun _ F => ?_
  refine Ak (rs := [.cell 4 118, .tmp 5]) (vs := [.agg ⟨jZ⟩, jI 31]) F (by rfl) ⟨_, _, rfl, Am s5 m0 rfl AZ (by simp), _, _, rfl, Ao rfl, rfl⟩ ⟨_, rfl, ⟨rfl, s5.drop.drop⟩⟩
 obtain ⟨x1, h3, H⟩ := Aa H
 refine D3 F s3 m1 0 rfl fun _ F => B5 F s3 (Nr h3) 0 rfl rfl rfl rfl fun w5 _ F s6 => ?_
 refine AP (ds := (jI x1.Locals :: jI x1.Height :: AU x1.Slots)) F s6.f1 rfl rfl (by simpa using AX) (Ab rfl (Ab rfl (Bp _))) (by simp) fun w6 _ F s7 => ?_
 obtain ⟨x2, h4, H⟩ := Aa H
 refine gw 7 F rfl fun _ F => gx F (Ef Db h4 rfl rfl) 0 rfl rfl fun _ F => Jo (y' := a1) (pre := [jI x1.Locals, jI x1.Height]) F s7 rfl h4 rfl rfl JL fun w7 _ F s8 => gw 5 F rfl fun _ F => AG F s8 m0 2 rfl fun _ F => Ay F s8 rfl rfl IW rfl rfl rfl fun w8 _ F s9 => gw 4 F rfl fun _ F => D3 F s9 m0 0 rfl fun _ F => ?_
 refine AP (ds := (jI x1.Locals :: jI (wr (x1.Height + 1)) :: AU (Ir x1.Slots (wr (a0.Locals + a0.Height)) a1))) F s9.f1 rfl rfl (by simpa using AX) (Ab rfl (Ab rfl (Bp _))) (by simp) fun w9 _ F sa => ?_
 cases H
 refine gw 4 F rfl fun _ F => ?_
 refine Ak (rs := [.cell 4 118, .tmp 5]) (vs := [.agg ⟨(jI x1.Locals :: jI (wr (x1.Height + 1)) :: AU (Ir x1.Slots (wr (a0.Locals + a0.Height)) a1))⟩, jI 0]) F (by rfl) ⟨_, _, rfl, Am sa m0 rfl AZ (by simp), _, _, rfl, Ao rfl, rfl⟩ ⟨_, rfl, ⟨rfl, sa.drop.drop⟩⟩
end Go.Proofs.YtfcpkcehecmcpaaGreat
