/- Texts merged (5). -/
import Derived.Test.YtfcpkcehecmcpaaGreatKd
set_option linter.unusedVariables false
set_option linter.unusedSimpArgs false
namespace Go.Proofs.YtfcpkcehecmcpaaGreat
open Go Go.RowKit Go.Pv Go.Proofs.Tryz
open Go.Pv renaming bind_ok → Aa, A4c → Ab, Axz → Ae, A42 → Af, Azp → Ag, ABh → Ah, Ayd → Ai, AAu → Aj, Aqk → Ak, A5f → Al, A5q → An, A7b → Ap, A46 → Aq, Ats → Ar, Awy → As, A7c → Au, Au3 → Av, Auf → Aw, A63 → Ax, Axq → Ay, Ar2 → Az, A6m → Ba, A44 → Bc, Az2 → Bd, bool_split → Be, A6u → Bf, Aya → Bg, Av3 → Bh, A5j → Bi, Axf → Bj, Ax2 → Bk
open Nat renaming le_of_ble_eq_true → Ac
open Bool renaming noConfusion → Ad
open Go.Pv.RV renaming blk → Am, tmp → Ao
open Go.Pv.QR renaming nil → Bb
theorem Amm {w : World} {a0 : UInt8} {r : Bool} (H : Ajz a0 = some r) :
    Calls prog 210 #[jU (a0.toNat : Int)] w (Ret fun u_ w_ => u_ = .bool r ∧ SL w [] w_ []) := by
 have s0 : SL w [] w [] := SL.Abr w
 refine cin func210 ntmps210 10 rfl rfl rfl fun _ F => ?_
 unfold Ajz at H
 refine bsp 5 F H (fun h0 H F => ?_) (fun h0 H F => ?_)
 ·cases H
  exact gw 15 F rfl fun _ F => rt F ⟨rfl, s0⟩
 refine gw 4 F rfl fun _ F => bsp 9 F H (fun h1 H F => ?_) (fun h1 H F => ?_)
 ·cases H
  exact gw 11 F rfl fun _ F => rt F ⟨rfl, s0⟩
 refine gw 4 F rfl fun _ F => bsp 13 F H (fun h2 H F => ?_) (fun h2 H F => ?_)
 ·cases H
  exact gw 7 F rfl fun _ F => rt F ⟨rfl, s0⟩
 cases H
 exact gw 7 F rfl fun _ F => rt F ⟨rfl, s0⟩
theorem A3p {w : World} {FF : List Nat} {g1 g2 : Nat} {a0 : Int} {a1 : Int} {a2 : Bool} {r : Bool × Bool} (hst : Acd [Cw g1 3 [jI a1], Cw g2 4 [.bool a2]] w FF) (H : Aqv a0 a1 a2 = some r) :
    Calls prog 219 #[jI a0, jP g1, jP g2] w (Ret fun u_ w_ => u_ = .bool r.1 ∧ SL w FF w_ [Cw g1 3 [jI a1], Cw g2 4 [.bool r.2]]) := by
 have s0 : SL w FF w [Cw g1 3 [jI a1], Cw g2 4 [.bool a2]] := SL.init w FF hst
 refine cin func219 ntmps219 8 rfl rfl rfl fun _ F => ?_
 unfold Aqv at H
 refine Ki F s0 m0 1 rfl fun _ F => Ay F s0.f1 rfl rfl Avx rfl rfl rfl fun w0 _ F s1 => gw 4 F rfl fun _ F => ?_
 cases H
 exact Ki F s1 m0 5 rfl fun _ F => rt F ⟨rfl, s1.f1⟩
theorem Aw4 {w : World} {FF : List Nat} {g0 g1 : Nat} {v0 : Value} {a0 : List BV} {a1 : Int} {a300 : Int} {a301 : Bool} {r : Bool} (hst : Acd [Cw g0 3 [jI a300], Cw g1 4 [.bool a301]] w FF) (hr0 : Rd Hw w FF v0 a0) (H : Alo a0 a1 a300 a301 = some r) :
    Calls prog 99 #[v0, jI a1, clo 219 [jP g0, jP g1]] w (Ret fun u_ w_ => u_ = .tuple ⟨[]⟩ ∧ SL w FF w_ [Cw g0 3 [jI a300], Cw g1 4 [.bool r]]) := by
 have s0 : SL w FF w [Cw g0 3 [jI a300], Cw g1 4 [.bool a301]] := SL.init w FF hst
 refine cin func99 ntmps99 0 rfl rfl rfl fun _ F0 => ?_
 unfold Alo at H
 obtain ⟨o0, H0, R0⟩ := Aa H
 clear H
 refine Acs (fun a w_ => ∃ p0 : Bool, o0 = .inr (p0) ∧ Fr a 29 [] ∧ SL w FF w_ [Cw g0 3 [jI a300], Cw g1 4 [.bool p0]]) ?_ ?_
 ·have H := H0
  refine gc 1 F0 rfl fun _ F0 => lpk (Aft a0 a300) (fun s1 a w_ => Fr a 29 [(0, v0), (1, jI s1.2), (2, clo 219 [jP g0, jP g1])] ∧ SL w FF w_ [Cw g0 3 [jI a300], Cw g1 4 [.bool s1.1]]) H ?_ ?_
  ·exact ⟨F0.sb, s0⟩
  intro s1 _ w0 h0 o1 H hr
  obtain ⟨F, s2⟩ := h0
  replace H : Aft a0 a300 s1 = some o1 := H
  unfold Aft at H
  refine gc 6 F rfl fun _ F => bsp 9 F H (fun h1 H F => ?_) (fun h1 H F => ?_)
  ·refine gw 2 F rfl fun _ F => Lm F rfl rfl <| gx F (Ah rfl underlying22 (fR hr0 s2)) 3 rfl rfl fun _ F => bsp 15 F H (fun h2 H F => ?_) (fun h2 H F => ?_)
   ·obtain ⟨x0, h3, H⟩ := Aa H
    refine gw 2 F rfl fun _ F => Lm F rfl rfl ?_
    obtain ⟨G0, h4, h5, h6, h7⟩ := SL.open_ (ps := [Cw g0 3 [jI a300], Cw g1 4 [.bool s1.1]]) (rest := []) s2.f1.f1
    refine Aky (args := [.tmp 17]) F AIx rfl rfl (A3p (a0 := s1.2) (a1 := a300) (a2 := s1.1) h4 h3) rfl fun v1 w1 _ h8 F => ?_
    obtain ⟨rfl, h9⟩ := h8
    have s3 := h7 _ _ h9
    refine gw 3 F rfl fun _ F => Ll F H 5 4 rfl rfl rfl (fun ha H _ F => ?_) (fun ha H _ F => ?_)
    ·obtain ⟨x1, hb, H⟩ := Aa H
     obtain ⟨a3, c0, G1, hc, hd, he, hf⟩ := Rd.idx hr0 Af2 rfl hb
     obtain ⟨v2, rfl, hg⟩ := (Ael he hf)
     replace hd := hd _ _ s3
     refine gw 2 F rfl fun _ F => gi F hc 0 rfl fun _ F => gx F (Ba Aln rfl) 0 rfl rfl fun _ F => gx F (An Acx rfl (Abe.at_ hd (o := 1) rfl)) 11 rfl rfl fun _ F => Ll F H 6 7 rfl rfl rfl (fun hh H _ F => ?_) (fun hh H _ F => ?_)
     ·cases H
      obtain rfl := hr _ rfl
      replace H := R0
      try dsimp only at H
      cases H
      exact rt F ⟨rfl, s3⟩
     cases H
     exact ⟨_, rfl, F.sb, s3⟩
    cases H
    obtain rfl := hr _ rfl
    exact ⟨_, rfl, F.sb, s3⟩
   cases H
   obtain rfl := hr _ rfl
   exact gw 11 F rfl fun _ F => ⟨_, rfl, F.sb, s2⟩
  cases H
  obtain rfl := hr _ rfl
  exact gw 17 F rfl fun _ F => ⟨_, rfl, F.sb, s2⟩
 intro _ w2 hJ
 obtain ⟨p0, rfl, F, s4⟩ := hJ
 have H := R0
 clear R0 H0
 try dsimp only at H
 cases H
 exact A24 F (by rfl) ⟨_, rfl, ⟨rfl, s4⟩⟩
theorem A0u {w : World} {v0 : Value} {a0 : List BV} {a1 : Int} {a2 : Int} {r : Bool} (hr0 : Rd Hw w [] v0 a0) (H : Aqg a0 a1 a2 = some r) :
    Calls prog 213 #[v0, jI a1, jI a2] w (Ret fun u_ w_ => u_ = .bool r ∧ SL w [] w_ []) := by
 have s0 : SL w [] w [] := SL.Abr w
 refine cin func213 ntmps213 2 rfl rfl rfl fun _ F0 => ?_
 unfold Aqg at H
 refine Ar F0 s0 rfl rfl rfl fun g8 w9 _ F s1 => gw 5 F rfl fun _ F => Af F s1 Ad9 rfl rfl fun g0 w0 _ F s2 => Ay F s2 rfl rfl Avx rfl rfl rfl fun w1 _ F s3 => ?_
 obtain ⟨x0, h0, H⟩ := Aa H
 refine gw 6 F rfl fun _ F => gx F (Ajn (cs := [.tmp 5, .tmp 7]) (vs := [jP g8, jP g0]) rfl) 0 rfl rfl fun _ F => ?_
 obtain ⟨G0, h1, h2, h3, h4⟩ := SL.open_ (ps := [Cw g8 3 [jI a2], Cw g0 4 [.bool false]]) (rest := []) s3.f1
 refine std F (Aw4 (a300 := a2) (a301 := false) h1 (hr0.pass s3.f1 h2) h0) fun v1 w2 _ h5 F => ?_
 obtain ⟨rfl, h6⟩ := h5
 have s4 := h4 _ _ h6
 refine gw 4 F rfl fun _ F => ?_
 cases H
 exact Ki F s4 m1 4 rfl fun _ F => rt F ⟨rfl, s4.drop.drop⟩
theorem Aym {w : World} {v0 : Value} {a0 : List BV} {a1 : UInt8} {a2 : UInt8} {r : Bool} (hr0 : Rd Hw w [] v0 a0) (H : Aq9 a0 a1 a2 = some r) :
    Calls prog 211 #[v0, jU (a1.toNat : Int), jU (a2.toNat : Int)] w (Ret fun u_ w_ => u_ = .bool r ∧ SL w [] w_ []) := by
 have s0 : SL w [] w [] := SL.Abr w
 refine cin func211 ntmps211 10 rfl rfl rfl fun _ F => ?_
 unfold Aq9 at H
 obtain ⟨x0, h0, H⟩ := Aa H
 refine gca F s0 (Ak6 (hr0.M3 s0) h0) 2 rfl rfl rfl rfl fun w0 _ F s1 => bsp 13 F H (fun h1 H F => ?_) (fun h1 H F => ?_)
 ·cases H
  exact gw 15 F rfl fun _ F => rt F ⟨rfl, s1⟩
 obtain ⟨x1, h2, H⟩ := Aa H
 refine gw 2 F rfl fun _ F => Lm F rfl rfl <| gca F s1 (Ak6 (hr0.M3 s1) h2) 4 rfl rfl rfl rfl fun w1 _ F s2 => Ll F H 7 10 rfl rfl rfl (fun h3 H _ F => ?_) (fun h3 H _ F => ?_)
 ·cases H
  exact rt F ⟨rfl, s2⟩
 refine bsp 23 F H (fun h4 H F => ?_) (fun h4 H F => ?_)
 ·cases H
  exact gw 15 F rfl fun _ F => rt F ⟨rfl, s2⟩
 refine gw 6 F rfl fun _ F => Ll F H 8 5 rfl rfl rfl (fun h5 H _ F => ?_) (fun h5 H _ F => ?_)
 ·cases H
  exact rt F ⟨rfl, s2⟩
 refine bsp 30 F H (fun h6 H F => ?_) (fun h6 H F => ?_)
 ·obtain ⟨x2, h7, H⟩ := Aa H
  refine gw 10 F rfl fun _ F => gca F s2 (Amm h7) 1 rfl rfl rfl rfl fun w2 _ F s3 => bsp 36 F H (fun h8 H F => ?_) (fun h8 H F => ?_)
  ·obtain ⟨x3, h9, H⟩ := Aa H
   refine gw 1 F rfl fun _ F => Lm F rfl rfl <| gca F s3 (Amm h9) 7 rfl rfl rfl rfl fun w3 _ F s4 => ?_
   cases H
   exact rt F ⟨rfl, s4⟩
  cases H
  exact gw 9 F rfl fun _ F => rt F ⟨rfl, s3⟩
 refine gw 6 F rfl fun _ F => Ll F H 3 7 rfl rfl rfl (fun ha H _ F => ?_) (fun ha H _ F => ?_)
 ·obtain ⟨x4, hb, H⟩ := Aa H
  refine gca F s2 (Amm hb) 1 rfl rfl rfl rfl fun w4 _ F s5 => bsp 36 F H (fun hc H F => ?_) (fun hc H F => ?_)
  ·obtain ⟨x5, hd, H⟩ := Aa H
   refine gw 1 F rfl fun _ F => Lm F rfl rfl <| gca F s5 (Amm hd) 7 rfl rfl rfl rfl fun w5 _ F s6 => ?_
   cases H
   exact rt F ⟨rfl, s6⟩
  cases H
  exact gw 9 F rfl fun _ F => rt F ⟨rfl, s5⟩
 obtain ⟨x6, he, H⟩ := Aa H
 refine gca F s2 (Ak8 (hr0.M3 s2) he) 2 rfl rfl rfl rfl fun w6 _ F s7 => ?_
 obtain ⟨x7, hf, H⟩ := Aa H
 refine gca F s7 (Ak8 (hr0.M3 s7) hf) 9 rfl rfl rfl rfl fun w7 _ F s8 => bsp 48 F H (fun hg H F => ?_) (fun hg H F => ?_)
 ·refine gw 4 F rfl fun _ F => bsp 52 F H (fun hh H F => ?_) (fun hh H F => ?_)
  ·obtain ⟨x8, hi, H⟩ := Aa H
   refine gw 3 F rfl fun _ F => Lm F rfl rfl <| gca F s8 (A0u (hr0.M3 s8) hi) 5 rfl rfl rfl rfl fun w8 _ F s9 => ?_
   cases H
   exact rt F ⟨rfl, s9⟩
  cases H
  exact gw 9 F rfl fun _ F => rt F ⟨rfl, s8⟩
 cases H
 exact gw 13 F rfl fun _ F => rt F ⟨rfl, s8⟩
theorem AB1 {w : World} {v0 : Value} {a0 : List BV} {a1 : BQ} {a2 : UInt8} {a3 : UInt8} {r : Bool} (hr0 : Rd Hw w [] v0 a0) (H : Avf a0 a1 a2 a3 = some r) :
    Calls prog 187 #[v0, .agg ⟨[jI a1.kind, jU (a1.t.toNat : Int)]⟩, jU (a2.toNat : Int), jU (a3.toNat : Int)] w (Ret fun u_ w_ => u_ = .bool r ∧ SL w [] w_ []) := by
 have s0 : SL w [] w [] := SL.Abr w
 refine cin func187 ntmps187 2 rfl rfl rfl fun _ F0 => ?_
 unfold Avf at H
 refine Ar F0 s0 rfl rfl rfl fun g8 w9 _ F s1 => gw 7 F rfl fun _ F => Ki F s1 m0 9 rfl fun _ F => Ll F H 10 6 rfl rfl rfl (fun h0 H _ F => ?_) (fun h0 H _ F => ?_)
 ·cases H
  exact rt F ⟨rfl, s1.drop⟩
 refine Ll F H 3 6 rfl rfl rfl (fun h1 H _ F => ?_) (fun h1 H _ F => ?_)
 ·obtain ⟨x0, h2, H⟩ := Aa H
  refine gca F s1 (Amm h2) 6 rfl rfl rfl rfl fun w0 _ F s2 => ?_
  cases H
  exact rt F ⟨rfl, s2.drop⟩
 refine Ll F H 6 6 rfl rfl rfl (fun h3 H _ F => ?_) (fun h3 H _ F => ?_)
 ·refine bsp 24 F H (fun h4 H F => ?_) (fun h4 H F => ?_)
  ·refine gw 3 F rfl fun _ F => bsp 27 F H (fun h5 H F => ?_) (fun h5 H F => ?_)
   ·cases H
    exact gw 10 F rfl fun _ F => rt F ⟨rfl, s1.drop⟩
   cases H
   exact gw 10 F rfl fun _ F => rt F ⟨rfl, s1.drop⟩
  cases H
  exact gw 13 F rfl fun _ F => rt F ⟨rfl, s1.drop⟩
 refine Ll F H 5 9 rfl rfl rfl (fun h6 H _ F => ?_) (fun h6 H _ F => ?_)
 ·obtain ⟨x1, h7, H⟩ := Aa H
  refine Ki F s1 m0 0 rfl fun _ F => gca F s1 (Aym (hr0.M3 s1) h7) 6 rfl rfl rfl rfl fun w1 _ F s3 => ?_
  cases H
  exact rt F ⟨rfl, s3.drop⟩
 cases H
 exact rt F ⟨rfl, s1.drop⟩
theorem ABc {w : World} {v0 v2 : Value} {a0 : List BV} {a1 : B0} {a2 : List BQ} {r : (List UInt8) × Int} (hr0 : Rd Hw w [] v0 a0) (hr2 : Rd HO w [] v2 a2) (H : Ar1 a0 a1 a2 = some r) :
    Calls prog 162 #[v0, .agg ⟨(jI a1.Locals :: jI a1.Height :: XK a1.Slots)⟩, v2] w (Ret fun u_ w_ => ∃ u0 : Value, u_ = .tuple ⟨[u0, jI r.2]⟩ ∧ SL w [] w_ [Sl Ty.u8 u0 r.1]) := by
 have s0 : SL w [] w [] := SL.Abr w
 refine cin func162 ntmps162 2 rfl rfl rfl fun _ F0 => ?_
 unfold Ar1 at H
 refine Ar F0 s0 rfl rfl rfl fun g8 w9 _ F s1 => gw 8 F rfl fun _ F => Ki F s1 m0 1 rfl fun _ F => gx F (Ah rfl underlying224 (fR hr2 s1)) 3 rfl rfl fun _ F => Ll F H 8 11 rfl rfl rfl (fun h0 H _ F => ?_) (fun h0 H _ F => ?_)
 ·cases H
  exact rt F ⟨(.slice none 0 0), rfl, (SL.Ac3 (T := Ty.u8) s1).f1.drop⟩
 obtain ⟨o0, H0, R0⟩ := Aa H
 clear H
 refine gx F (Ah rfl underlying224 (fR hr2 s1)) 3 rfl rfl fun _ F => Acs (fun a w_ => ∃ v1 : Value, Fr a 59 [(0, v0), (2, v2), (8, v1)] ∧ SL w [] w_ [Sl Ty.u8 v1 o0]) ?_ ?_
 ·have H := H0
  refine gc 1 F rfl fun _ F => lpk (Ami a1 a2) (fun s2 a w_ => ∃ v3 : Value, Fr a 59 [(0, v0), (2, v2), (4, jP g8), (8, v3), (20, jI (a2.length : Int)), (21, jI s2.2)] ∧ SL w [] w_ [Cw g8 118 (jI a1.Locals :: jI a1.Height :: XK a1.Slots), Sl Ty.u8 v3 s2.1]) H ?_ ?_
  ·exact ⟨(.slice none 0 0), F.sb, (SL.Ac3 (T := Ty.u8) s1).f1⟩
  intro s2 _ w0 h1 o1 H hr
  obtain ⟨v3, F, s3⟩ := h1
  replace H : Ami a1 a2 s2 = some o1 := H
  unfold Ami at H
  refine gc 6 F rfl fun _ F => Ll F H 12 4 rfl rfl rfl (fun h2 H _ F => ?_) (fun h2 H _ F => ?_)
  ·obtain ⟨x0, h3, H⟩ := Aa H
   refine gla F s3 m0 1 rfl fun _ F => gx F (Ah rfl underlying224 (fR hr2 s3)) 3 rfl rfl fun _ F => gca F s3 (A1r h3) 10 rfl rfl rfl rfl fun w1 _ F s4 => ?_
   refine Ae (parts := [(0, .tmp 35)]) Flat.u8 ([x0.1] : List UInt8) F s4 Abp rfl (by decide) rfl rfl rfl (by simp [Value.cells]) rfl rfl rfl fun v4 w2 _ F s5 => ?_
   obtain ⟨x1, h4, H⟩ := Aa H
   obtain ⟨_, hr_⟩ := (s5.f2.Ac5 m1)
   refine Aw Flat.u8 F s5.f2 Abp rfl rfl rfl rfl hr_ rfl rfl h4 rfl fun v5 w3 _ F s6 => ?_
   have s2557' := s6.f1.drop
   cases H
   exact gw 8 F rfl fun _ F => ⟨_, rfl, v5, F.sb, s2557'.f1⟩
  cases H
  obtain rfl := hr _ rfl
  exact ⟨v3, F.sb, s3.drop⟩
 intro _ w4 hJ
 obtain ⟨v1, F, s7⟩ := hJ
 have H := R0
 clear R0 H0
 refine ge 5 F rfl fun _ F => ?_
 obtain ⟨o2, H1, R1⟩ := Aa H
 clear H
 refine gx F (Ah rfl underlying47 (fO s7 m0)) 3 rfl rfl fun _ F => Acs (fun a w_ => ∃ p0 : Unit, o2 = .inr (p0) ∧ Fr a 59 [(8, v1)] ∧ SL w [] w_ [Sl Ty.u8 v1 o0]) ?_ ?_
 ·have H := H1
  refine gc 1 F rfl fun _ F => lpk (Amo a0 a2 o0) (fun s8 a w_ => Fr a 59 [(0, v0), (2, v2), (8, v1), (39, v1), (40, jI (o0.length : Int)), (41, jI s8)] ∧ SL w [] w_ [Sl Ty.u8 v1 o0]) H ?_ ?_
  ·exact ⟨F.sb, s7⟩
  intro s8 _ w5 h5 o3 H hr
  obtain ⟨F, s9⟩ := h5
  replace H : Amo a0 a2 o0 s8 = some o3 := H
  unfold Amo at H
  refine gc 6 F rfl fun _ F => Ll F H 7 4 rfl rfl rfl (fun h6 H _ F => ?_) (fun h6 H _ F => ?_)
  ·obtain ⟨x2, h7, H⟩ := Aa H
   obtain ⟨a4, h8, h9⟩ := Ax Flat.u8 s9 m0 Abp rfl h7
   refine gi F h8 0 rfl fun _ F => ?_
   obtain ⟨x3, ha, H⟩ := Aa H
   obtain ⟨a5, hb, hc⟩ := Ai7 Adk (fun _ hC => (rdL hr2 hC)) s9 Aea rfl ha
   obtain ⟨x4, hd, H⟩ := Aa H
   obtain ⟨a6, he, hf⟩ := Ai7 Flat.u8 (fun _ hC => (hC.Ac5 m0)) s9 Abp rfl hd
   obtain ⟨x5, hg, H⟩ := Aa H
   refine gx F (An Acy rfl (Abe.at_ (SL.Aef Flat.u8 s9 m0 h9 h7) (o := 0) rfl)) 5 rfl rfl fun _ F => Alj Abj s9 F (QR.ev 3 rfl <| QR.ix hb rfl <| QR.qo (fun _ hC => Av A8n rfl (hc _ hC) rfl) rfl <| QR.ev 2 rfl <| QR.ix he rfl <| QR.qo (fun _ hC => An Acy rfl (Abe.at_ (hf _ hC) (o := 0) rfl)) rfl <| QR.call (args := [.tmp 46, .tmp 50, .tmp 51, .tmp 54]) AH1 rfl (fun _ hC => Bf (AB1 (a0 := a0) (a1 := x3) (a2 := x2) (a3 := x4) (hr0.M3 hC) hg) hC) <| QR.ev 1 rfl <| Bb) fun w6 _ sa F => ge 1 F rfl fun _ F => Ll F H 13 7 rfl rfl rfl (fun hh H _ F => ?_) (fun hh H _ F => ?_)
   ·cases H
    obtain rfl := hr _ rfl
    replace H := R1
    try dsimp only at H
    cases H
    exact rt F ⟨(.slice none 0 0), rfl, (SL.Ac3 (T := Ty.u8) sa).f1.drop⟩
   cases H
   exact ⟨_, rfl, F.sb, sa⟩
  cases H
  obtain rfl := hr _ rfl
  exact ⟨_, rfl, F.sb, s9⟩
 intro _ w7 hJ
 obtain ⟨p0, rfl, F, sc⟩ := hJ
 have H := R1
 clear R1 H1
 try dsimp only at H
 cases H
 exact ge 9 F rfl fun _ F => rt F ⟨v1, rfl, sc⟩
theorem A0q {w : World} {a0 : B0} {a1 : Int} {r : UInt8 × Int} (H : Aoo a0 a1 = some r) :
    Calls prog 163 #[.agg ⟨(jI a0.Locals :: jI a0.Height :: XK a0.Slots)⟩, jI a1] w (Ret fun u_ w_ => u_ = .tuple ⟨[jU (r.1.toNat : Int), jI r.2]⟩ ∧ SL w [] w_ []) := by
 have s0 : SL w [] w [] := SL.Abr w
 refine cin func163 ntmps163 2 rfl rfl rfl fun _ F0 => ?_
 unfold Aoo at H
 refine Ar F0 s0 rfl rfl rfl fun g8 w9 _ F s1 => ?_
 obtain ⟨x0, h0, H⟩ := Aa H
 refine gw 8 F rfl fun _ F => gla F s1 m0 0 rfl fun _ F => gca F s1 (Aoa h0) 4 rfl rfl rfl rfl fun w0 _ F s2 => Ll F H 9 5 rfl rfl rfl (fun h1 H _ F => ?_) (fun h1 H _ F => ?_)
 ·cases H
  exact rt F ⟨rfl, s2.drop⟩
 refine bsp 13 F H (fun h2 H F => ?_) (fun h2 H F => ?_)
 ·cases H
  exact gw 18 F rfl fun _ F => rt F ⟨rfl, s2.drop⟩
 refine gw 2 F rfl fun _ F => Lm F rfl rfl <| Ki F s2 m0 5 rfl fun _ F => Ll F H 9 7 rfl rfl rfl (fun h3 H _ F => ?_) (fun h3 H _ F => ?_)
 ·cases H
  exact rt F ⟨rfl, s2.drop⟩
 obtain ⟨x1, h4, H⟩ := Aa H
 refine gx F (Agt Ae9 h4 rfl rfl) 0 rfl rfl fun _ F => ?_
 cases H
 exact gx F (An Acy rfl (SL.Amp (pre := [jI a0.Locals, jI a0.Height]) s2 m0 rfl h4)) 5 rfl rfl fun _ F => rt F ⟨rfl, s2.drop⟩
theorem A9z {w : World} {a0 : B0} {r : B0 × UInt8 × Int} (H : At6 a0 = some r) :
    Calls prog 188 #[.agg ⟨(jI a0.Locals :: jI a0.Height :: XK a0.Slots)⟩] w (Ret fun u_ w_ => u_ = .tuple ⟨[.agg ⟨(jI r.1.Locals :: jI r.1.Height :: XK r.1.Slots)⟩, jU (r.2.1.toNat : Int), jI r.2.2]⟩ ∧ SL w [] w_ []) := by
 have s0 : SL w [] w [] := SL.Abr w
 refine cin func188 ntmps188 2 rfl rfl rfl fun _ F0 => ?_
 unfold At6 at H
 refine Ar F0 s0 rfl rfl rfl fun g0 w0 _ F s1 => Af F s1 Ol rfl rfl fun g1 w1 _ F s2 => ?_
 obtain ⟨x0, h0, H⟩ := Aa H
 refine gw 6 F rfl fun _ F => gla F s2 m1 0 rfl fun _ F => gca F s2 (A1r h0) 14 rfl rfl rfl rfl fun w2 _ F s3 => Ll F H 2 5 rfl rfl rfl (fun h1 H _ F => ?_) (fun h1 H _ F => ?_)
 ·refine gx F (Al (vs := []) Ol Adw rfl (cs := jZ) (Ac1)) 1 rfl rfl fun _ F => ?_
  refine O4 (ds := jZ) F s3 rfl rfl (by simpa using Aay) (Ab rfl (Ab rfl (Abi _))) (by simp) fun w3 _ F s4 => ?_
  cases H
  refine gw 6 F rfl fun _ F => ?_
  refine Ak (rs := [.cell 2 118, .tmp 3, .tmp 4]) (vs := [.agg ⟨jZ⟩, jU 0, jI x0.2]) F (by rfl) ⟨_, _, rfl, Am s4 m0 rfl Aa9 (by simp), _, _, rfl, Ao rfl, _, _, rfl, Ao rfl, rfl⟩ ⟨_, rfl, ⟨rfl, s4.drop.drop⟩⟩
 refine Ki F s3 m1 2 rfl fun _ F => Ay F s3.f1 rfl rfl Anj rfl rfl rfl fun w4 _ F s5 => ?_
 obtain ⟨x1, h2, H⟩ := Aa H
 refine gw 4 F rfl fun _ F => gla F s5 m0 0 rfl fun _ F => gca F s5 (As1 h2) 1 rfl rfl rfl rfl fun w5 _ F s6 => ?_
 refine O4 (ds := (jI x1.Locals :: jI x1.Height :: XK x1.Slots)) F s6.f1 rfl rfl (by simpa using Aay) (Ab rfl (Ab rfl (Abi _))) (by simp) fun w6 _ F s7 => ?_
 cases H
 refine gw 5 F rfl fun _ F => ?_
 refine Ak (rs := [.cell 2 118, .tmp 3, .tmp 4]) (vs := [.agg ⟨(jI x1.Locals :: jI x1.Height :: XK x1.Slots)⟩, jU (x0.1.toNat : Int), jI 0]) F (by rfl) ⟨_, _, rfl, Am s7 m0 rfl Aa9 (by simp), _, _, rfl, Ao rfl, _, _, rfl, Ao rfl, rfl⟩ ⟨_, rfl, ⟨rfl, s7.drop.drop⟩⟩
theorem A7t {w : World} {a0 : B0} {a1 : Int} {a2 : UInt8} {r : B0 × Int} (H : Ara a0 a1 a2 = some r) :
    Calls prog 189 #[.agg ⟨(jI a0.Locals :: jI a0.Height :: XK a0.Slots)⟩, jI a1, jU (a2.toNat : Int)] w (Ret fun u_ w_ => u_ = .tuple ⟨[.agg ⟨(jI r.1.Locals :: jI r.1.Height :: XK r.1.Slots)⟩, jI r.2]⟩ ∧ SL w [] w_ []) := by
 have s0 : SL w [] w [] := SL.Abr w
 refine cin func189 ntmps189 2 rfl rfl rfl fun _ F0 => ?_
 unfold Ara at H
 refine Ar F0 s0 rfl rfl rfl fun g0 w0 _ F s1 => Af F s1 Ol rfl rfl fun g1 w1 _ F s2 => ?_
 obtain ⟨x0, h0, H⟩ := Aa H
 refine gw 5 F rfl fun _ F => gla F s2 m1 1 rfl fun _ F => gca F s2 (A0q h0) 14 rfl rfl rfl rfl fun w2 _ F s3 => Ll F H 2 4 rfl rfl rfl (fun h1 H _ F => ?_) (fun h1 H _ F => ?_)
 ·refine gx F (Al (vs := []) Ol Adw rfl (cs := jZ) (Ac1)) 1 rfl rfl fun _ F => ?_
  refine O4 (ds := jZ) F s3 rfl rfl (by simpa using Aay) (Ab rfl (Ab rfl (Abi _))) (by simp) fun w3 _ F s4 => ?_
  cases H
  refine gw 5 F rfl fun _ F => ?_
  refine Ak (rs := [.cell 6 118, .tmp 7]) (vs := [.agg ⟨jZ⟩, jI x0.2]) F (by rfl) ⟨_, _, rfl, Am s4 m0 rfl Aa9 (by simp), _, _, rfl, Ao rfl, rfl⟩ ⟨_, rfl, ⟨rfl, s4.drop.drop⟩⟩
 obtain ⟨x1, h2, H⟩ := Aa H
 refine gla F s3 m1 0 rfl fun _ F => gca F s3 (As1 h2) 0 rfl rfl rfl rfl fun w4 _ F s5 => ?_
 refine O4 (ds := (jI x1.Locals :: jI x1.Height :: XK x1.Slots)) F s5.f1 rfl rfl (by simpa using Aay) (Ab rfl (Ab rfl (Abi _))) (by simp) fun w5 _ F s6 => ?_
 obtain ⟨x2, h3, H⟩ := Aa H
 refine gw 7 F rfl fun _ F => gx F (Agt Ae9 h3 rfl rfl) 0 rfl rfl fun _ F => Aoe (y' := a2) (pre := [jI x1.Locals, jI x1.Height]) F s6 rfl h3 rfl rfl Apn fun w6 _ F s7 => gw 4 F rfl fun _ F => gla F s7 m0 0 rfl fun _ F => ?_
 refine O4 (ds := (jI x1.Locals :: jI x1.Height :: XK (Amj x1.Slots a1 a2))) F s7.f1 rfl rfl (by simpa using Aay) (Ab rfl (Ab rfl (Abi _))) (by simp) fun w7 _ F s8 => ?_
 cases H
 refine gw 4 F rfl fun _ F => ?_
 refine Ak (rs := [.cell 6 118, .tmp 7]) (vs := [.agg ⟨(jI x1.Locals :: jI x1.Height :: XK (Amj x1.Slots a1 a2))⟩, jI 0]) F (by rfl) ⟨_, _, rfl, Am s8 m0 rfl Aa9 (by simp), _, _, rfl, Ao rfl, rfl⟩ ⟨_, rfl, ⟨rfl, s8.drop.drop⟩⟩
theorem A82 {w : World} {a0 : B0} {a1 : UInt8} {r : B0 × Int} (H : Asu a0 a1 = some r) :
    Calls prog 190 #[.agg ⟨(jI a0.Locals :: jI a0.Height :: XK a0.Slots)⟩, jU (a1.toNat : Int)] w (Ret fun u_ w_ => u_ = .tuple ⟨[.agg ⟨(jI r.1.Locals :: jI r.1.Height :: XK r.1.Slots)⟩, jI r.2]⟩ ∧ SL w [] w_ []) := by
 have s0 : SL w [] w [] := SL.Abr w
 refine cin func190 ntmps190 2 rfl rfl rfl fun _ F0 => ?_
 unfold Asu at H
 refine Ar F0 s0 rfl rfl rfl fun g0 w0 _ F s1 => Af F s1 Ol rfl rfl fun g1 w1 _ F s2 => ?_
 obtain ⟨x0, h0, H⟩ := Aa H
 refine gw 7 F rfl fun _ F => gla F s2 m1 0 rfl fun _ F => gca F s2 (Aoa h0) 4 rfl rfl rfl rfl fun w2 _ F s3 => Ll F H 2 3 rfl rfl rfl (fun h1 H _ F => ?_) (fun h1 H _ F => ?_)
 ·refine gx F (Al (vs := []) Ol Adw rfl (cs := jZ) (Ac1)) 0 rfl rfl fun _ F => ?_
  refine O4 (ds := jZ) F s3 rfl rfl (by simpa using Aay) (Ab rfl (Ab rfl (Abi _))) (by simp) fun w3 _ F s4 => ?_
  cases H
  refine gw 6 F rfl fun _ F => ?_
  refine Ak (rs := [.cell 4 118, .tmp 5]) (vs := [.agg ⟨jZ⟩, jI 32]) F (by rfl) ⟨_, _, rfl, Am s4 m0 rfl Aa9 (by simp), _, _, rfl, Ao rfl, rfl⟩ ⟨_, rfl, ⟨rfl, s4.drop.drop⟩⟩
 refine Ki F s3 m1 1 rfl fun _ F => Ki F s3 m1 5 rfl fun _ F => Ll F H 2 5 rfl rfl rfl (fun h2 H _ F => ?_) (fun h2 H _ F => ?_)
 ·refine gx F (Al (vs := []) Ol Adw rfl (cs := jZ) (Ac1)) 0 rfl rfl fun _ F => ?_
  refine O4 (ds := jZ) F s3 rfl rfl (by simpa using Aay) (Ab rfl (Ab rfl (Abi _))) (by simp) fun w4 _ F s5 => ?_
  cases H
  refine gw 6 F rfl fun _ F => ?_
  refine Ak (rs := [.cell 4 118, .tmp 5]) (vs := [.agg ⟨jZ⟩, jI 31]) F (by rfl) ⟨_, _, rfl, Am s5 m0 rfl Aa9 (by simp), _, _, rfl, Ao rfl, rfl⟩ ⟨_, rfl, ⟨rfl, s5.drop.drop⟩⟩
 obtain ⟨x1, h3, H⟩ := Aa H
 refine gla F s3 m1 0 rfl fun _ F => gca F s3 (As1 h3) 0 rfl rfl rfl rfl fun w5 _ F s6 => ?_
 refine O4 (ds := (jI x1.Locals :: jI x1.Height :: XK x1.Slots)) F s6.f1 rfl rfl (by simpa using Aay) (Ab rfl (Ab rfl (Abi _))) (by simp) fun w6 _ F s7 => ?_
 obtain ⟨x2, h4, H⟩ := Aa H
 refine gw 5 F rfl fun _ F => Ki F s7 m0 1 rfl fun _ F => Ki F s7 m0 3 rfl fun _ F => gx F (Agt Ae9 h4 rfl rfl) 0 rfl rfl fun _ F => Aoe (y' := a1) (pre := [jI x1.Locals, jI x1.Height]) F s7 rfl h4 rfl rfl Apn fun w7 _ F s8 => gw 5 F rfl fun _ F => Ki F s8 m0 2 rfl fun _ F => Ay F s8 rfl rfl Anj rfl rfl rfl fun w8 _ F s9 => gw 4 F rfl fun _ F => gla F s9 m0 0 rfl fun _ F => ?_
 refine O4 (ds := (jI x1.Locals :: jI (wr (x1.Height + 1)) :: XK (Amj x1.Slots (wr (x1.Locals + x1.Height)) a1))) F s9.f1 rfl rfl (by simpa using Aay) (Ab rfl (Ab rfl (Abi _))) (by simp) fun w9 _ F sa => ?_
 cases H
 refine gw 4 F rfl fun _ F => ?_
 refine Ak (rs := [.cell 4 118, .tmp 5]) (vs := [.agg ⟨(jI x1.Locals :: jI (wr (x1.Height + 1)) :: XK (Amj x1.Slots (wr (x1.Locals + x1.Height)) a1))⟩, jI 0]) F (by rfl) ⟨_, _, rfl, Am sa m0 rfl Aa9 (by simp), _, _, rfl, Ao rfl, rfl⟩ ⟨_, rfl, ⟨rfl, sa.drop.drop⟩⟩
theorem A0t {w : World} {v2 v3 : Value} {a0 : B0} {a1 : CO} {a2 : List UInt8} {a3 : List UInt8} {r : B0 × Int} (hr2 : Rd Ty.u8 w [] v2 a2) (hr3 : Rd Ty.u8 w [] v3 a3) (H : Am2 a0 a1 a2 a3 = some r) :
    Calls prog 164 #[.agg ⟨(jI a0.Locals :: jI a0.Height :: XK a0.Slots)⟩, .agg ⟨[jI a1.At, jU (a1.Op.toNat : Int), jI a1.A, jI a1.B]⟩, v2, v3] w (Ret fun u_ w_ => u_ = .tuple ⟨[.agg ⟨(jI r.1.Locals :: jI r.1.Height :: XK r.1.Slots)⟩, jI r.2]⟩ ∧ SL w [] w_ []) := by
 have s0 : SL w [] w [] := SL.Abr w
 refine cin func164 ntmps164 2 rfl rfl rfl fun _ F0 => ?_
 unfold Am2 at H
 refine Ar F0 s0 rfl rfl rfl fun g0 w0 _ F s1 => Ar F s1 rfl rfl rfl fun g1 w1 _ F s2 => Af F s2 Ol rfl rfl fun g32 w2 _ F s3 => gw 7 F rfl fun _ F => ?_
 obtain ⟨o0, H0, R0⟩ := Aa H
 clear H
 refine gx F (Ah rfl underlying47 (fR hr2 s3)) 3 rfl rfl fun _ F => Acs (fun a w_ => Fr a 66 [(2, v2), (3, v3), (4, jP g0), (5, jP g1), (8, jP g32)] ∧ SL w [] w_ [Cw g32 118 jZ, Cw g1 79 [jI a1.At, jU (a1.Op.toNat : Int), jI a1.A, jI a1.B], Cw g0 118 (jI o0.1 :: jI o0.2.1 :: XK o0.2.2)]) ?_ ?_
 ·have H := H0
  refine gc 1 F rfl fun _ F => lpk (Ana a2) (fun s4 a w_ => Fr a 66 [(2, v2), (3, v3), (4, jP g0), (5, jP g1), (8, jP g32), (15, jI (a2.length : Int)), (16, jI s4.2.2.2)] ∧ SL w [] w_ [Cw g32 118 jZ, Cw g1 79 [jI a1.At, jU (a1.Op.toNat : Int), jI a1.A, jI a1.B], Cw g0 118 (jI s4.1 :: jI s4.2.1 :: XK s4.2.2.1)]) H ?_ ?_
  ·exact ⟨F.sb, s3⟩
  intro s4 _ w3 h0 o1 H hr
  obtain ⟨F, s5⟩ := h0
  replace H : Ana a2 s4 = some o1 := H
  unfold Ana at H
  refine gc 6 F rfl fun _ F => Ll F H 5 4 rfl rfl rfl (fun h1 H _ F => ?_) (fun h1 H _ F => ?_)
  ·obtain ⟨x0, h2, H⟩ := Aa H
   refine gla F s5 m2 0 rfl fun _ F => gca F s5 (A9z h2) 4 rfl rfl rfl rfl fun w4 _ F s6 => ?_
   refine O4 (ds := (jI x0.1.Locals :: jI x0.1.Height :: XK x0.1.Slots)) F s6.f2 rfl rfl (by simpa using Aay) (Ab rfl (Ab rfl (Abi _))) (by simp) fun w5 _ F s7 => ?_
   cases H
   exact gw 7 F rfl fun _ F => ⟨_, rfl, F.sb, s7.f2.f2⟩
  cases H
  obtain rfl := hr _ rfl
  exact ⟨F.sb, s5⟩
 intro _ w6 hJ
 obtain ⟨F, s8⟩ := hJ
 have H := R0
 clear R0 H0
 obtain ⟨o2, H1, R1⟩ := Aa H
 clear H
 refine ge 2 F rfl fun _ F => Acs (fun a w_ => ∃ p0 : Unit, o2 = .inr (p0) ∧ Fr a 66 [(2, v2), (3, v3), (4, jP g0), (5, jP g1), (8, jP g32)] ∧ SL w [] w_ [Cw g32 118 jZ, Cw g1 79 [jI a1.At, jU (a1.Op.toNat : Int), jI a1.A, jI a1.B], Cw g0 118 (jI o0.1 :: jI o0.2.1 :: XK o0.2.2)]) ?_ ?_
 ·have H := H1
  refine gc 3 F rfl fun _ F => Ki F s8 m1 2 rfl fun _ F => bsp 28 F H (fun h3 H F => ?_) (fun h3 H F => ?_)
  ·refine gw 1 F rfl fun _ F => Lm F rfl rfl <| Ki F s8 m2 4 rfl fun _ F => Ll F H 2 1 rfl rfl rfl (fun h4 H _ F => ?_) (fun h4 H _ F => ?_)
   ·refine gx F (Al (vs := []) Ol Adw rfl (cs := jZ) (Ac1)) 0 rfl rfl fun _ F => ?_
    refine O4 (ds := jZ) F s8 rfl rfl (by simpa using Aay) (Ab rfl (Ab rfl (Abi _))) (by simp) fun w7 _ F s9 => ?_
    cases H
    replace H := R1
    try dsimp only at H
    cases H
    refine gw 6 F rfl fun _ F => ?_
    refine Ak (rs := [.cell 8 118, .tmp 9]) (vs := [.agg ⟨jZ⟩, jI 73]) F (by rfl) ⟨_, _, rfl, Am s9 m0 rfl Aa9 (by simp), _, _, rfl, Ao rfl, rfl⟩ ⟨_, rfl, ⟨rfl, s9.drop.drop.drop⟩⟩
   cases H
   exact ⟨_, rfl, F.sb, s8⟩
  cases H
  exact gw 8 F rfl fun _ F => ⟨_, rfl, F.sb, s8⟩
 intro _ w8 hJ
 obtain ⟨p0, rfl, F, sa⟩ := hJ
 have H := R1
 clear R1 H1
 try dsimp only at H
 obtain ⟨o3, H2, R2⟩ := Aa H
 clear H
 refine ge 2 F rfl fun _ F => Acs (fun a w_ => Fr a 66 [(3, v3), (4, jP g0), (8, jP g32)] ∧ SL w [] w_ [Cw g0 118 (jI o3.1 :: jI o3.2.1 :: XK o3.2.2), Cw g32 118 jZ]) ?_ ?_
 ·have H := H2
  refine gc 3 F rfl fun _ F => Ki F sa m1 3 rfl fun _ F => Ll F H 0 1 rfl rfl rfl (fun h5 H _ F => ?_) (fun h5 H _ F => ?_)
  ·obtain ⟨x1, h6, H⟩ := Aa H
   obtain ⟨x2, h7, H⟩ := Aa H
   refine Ad4 Abj sa.f2.drop ?_
   obtain ⟨a4, h8, h9⟩ := Ai7 Flat.u8 (fun _ hC => (rdL hr2 hC)) sa.drew.f2.drop Abp rfl h6
   refine hq [1, 2, 3, 4, 5] F sa.drew.f2.drop (QI.ev 1 rfl <| QI.ld m1 rfl <| QI.ev 1 rfl <| QI.ix h8 rfl <| QI.op rfl (fun _ hC => An Acy rfl (Abe.at_ (h9 _ hC) (o := 0) rfl)) rfl <| QI.nil) (by kernel_rfl) fun _ F => ?_
   refine ho 0 rfl (by kernel_rfl) ?_
   refine gla F sa.drew m2 1 rfl fun _ F => ⟨sa.drew.f2.drop, ?_⟩
   refine ho 6 rfl (by kernel_rfl) ?_
   refine gca F sa.drew (A7t h7) 1 rfl rfl rfl rfl fun w9 _ F sc => ⟨sc.f2.drop, ?_⟩
   refine hq [7, 8, 9] F sc.f2.drop (QI.ev 3 rfl <| QI.nil) (by kernel_rfl) fun _ F => ?_
   refine ho 10 rfl (by kernel_rfl) ?_
   refine O4 (ds := (jI x2.1.Locals :: jI x2.1.Height :: XK x2.1.Slots)) F sc.f2 rfl rfl (by simpa using Aay) (Ab rfl (Ab rfl (Abi _))) (by simp) fun wa _ F sd => ?_
   refine gw 1 F rfl fun _ F => ⟨sd.drop, ?_⟩
   refine Aew (by kernel_rfl) ?_
   cases H
   exact ⟨F.sb, sd.f2.drop⟩
  cases H
  exact ⟨F.sb, sa.f1.drop.f1⟩
 intro _ wb hJ
 obtain ⟨F, se⟩ := hJ
 have H := R2
 clear R2 H2
 refine ge 5 F rfl fun _ F => ?_
 obtain ⟨o4, H3, R3⟩ := Aa H
 clear H
 refine gx F (Ah rfl underlying47 (fR hr3 se)) 3 rfl rfl fun _ F => Acs (fun a w_ => ∃ p1 : Int × Int × (Vector UInt8 24), o4 = .inr (p1) ∧ Fr a 66 [(4, jP g0), (8, jP g32)] ∧ SL w [] w_ [Cw g0 118 (jI p1.1 :: jI p1.2.1 :: XK p1.2.2), Cw g32 118 jZ]) ?_ ?_
 ·have H := H3
  refine gc 1 F rfl fun _ F => lpk (Akb a3) (fun sf a w_ => Fr a 66 [(4, jP g0), (8, jP g32), (47, v3), (48, jI (a3.length : Int)), (49, jI sf.2.2.2)] ∧ SL w [] w_ [Cw g0 118 (jI sf.1 :: jI sf.2.1 :: XK sf.2.2.1), Cw g32 118 jZ]) H ?_ ?_
  ·exact ⟨F.sb, se⟩
  intro sf _ wc ha o5 H hr
  obtain ⟨F, sg⟩ := ha
  replace H : Akb a3 sf = some o5 := H
  unfold Akb at H
  refine gc 6 F rfl fun _ F => Ll F H 6 4 rfl rfl rfl (fun hb H _ F => ?_) (fun hb H _ F => ?_)
  ·obtain ⟨x3, hc, H⟩ := Aa H
   obtain ⟨a5, hd, he⟩ := Alr Flat.u8 (rdL hr3 sg) Abp rfl hc
   refine gi F hd 0 rfl fun _ F => ?_
   obtain ⟨x4, hf, H⟩ := Aa H
   refine gx F (An Acy rfl (Abe.at_ he (o := 0) rfl)) 5 rfl rfl fun _ F => gla F sg m0 1 rfl fun _ F => gca F sg (A82 hf) 3 rfl rfl rfl rfl fun wd _ F sh => Af F sh Ol rfl rfl fun g2 we _ F si => ?_
   refine O4 (ds := (jI x4.1.Locals :: jI x4.1.Height :: XK x4.1.Slots)) F si rfl rfl (by simpa using Aay) (Ab rfl (Ab rfl (Abi _))) (by simp) fun wf _ F sj => ?_
   refine gw 10 F rfl fun _ F => Ll F H 2 3 rfl rfl rfl (fun hg H _ F => ?_) (fun hg H _ F => ?_)
   ·refine gx F (Al (vs := []) Ol Adw rfl (cs := jZ) (Ac1)) 1 rfl rfl fun _ F => ?_
    refine O4 (ds := jZ) F sj.f2 rfl rfl (by simpa using Aay) (Ab rfl (Ab rfl (Abi _))) (by simp) fun wg _ F sk => ?_
    cases H
    obtain rfl := hr _ rfl
    replace H := R3
    try dsimp only at H
    cases H
    refine gw 11 F rfl fun _ F => ?_
    refine Ak (rs := [.cell 8 118, .tmp 9]) (vs := [.agg ⟨jZ⟩, jI x4.2]) F (by rfl) ⟨_, _, rfl, Am sk m0 rfl Aa9 (by simp), _, _, rfl, Ao rfl, rfl⟩ ⟨_, rfl, ⟨rfl, sk.drop.drop.drop⟩⟩
   refine gla F sj m0 0 rfl fun _ F => ?_
   refine O4 (ds := (jI x4.1.Locals :: jI x4.1.Height :: XK x4.1.Slots)) F sj.f1 rfl rfl (by simpa using Aay) (Ab rfl (Ab rfl (Abi _))) (by simp) fun wh _ F sl => ?_
   cases H
   exact gw 7 F rfl fun _ F => ⟨_, rfl, F.sb, sl.f1.drop⟩
  cases H
  obtain rfl := hr _ rfl
  exact ⟨_, rfl, F.sb, sg⟩
 intro _ wi hJ
 obtain ⟨p1, rfl, F, sm⟩ := hJ
 have H := R3
 clear R3 H3
 try dsimp only at H
 refine ge 3 F rfl fun _ F => gla F sm m0 0 rfl fun _ F => ?_
 refine O4 (ds := (jI p1.1 :: jI p1.2.1 :: XK p1.2.2)) F sm.f1 rfl rfl (by simpa using Aay) (Ab rfl (Ab rfl (Abi _))) (by simp) fun wj _ F sn => ?_
 cases H
 refine gw 4 F rfl fun _ F => ?_
 refine Ak (rs := [.cell 8 118, .tmp 9]) (vs := [.agg ⟨(jI p1.1 :: jI p1.2.1 :: XK p1.2.2)⟩, jI 0]) F (by rfl) ⟨_, _, rfl, Am sn m0 rfl Aa9 (by simp), _, _, rfl, Ao rfl, rfl⟩ ⟨_, rfl, ⟨rfl, sn.drop.drop⟩⟩
theorem A7v {w : World} {v0 : Value} {a0 : List UInt8} {r : (List UInt8)} (hr0 : Rd Ty.u8 w [] v0 a0) (H : A2j a0 = some r) :
    Calls prog 203 #[v0] w (Ret fun u_ w_ => ∃ u0 : Value, u_ = u0 ∧ SL w [] w_ [Sl Ty.u8 u0 r]) := by
 have s0 : SL w [] w [] := SL.Abr w
 refine cin func203 ntmps203 6 rfl rfl rfl fun _ F2 => ?_
 unfold A2j at H
 obtain ⟨x0, h0, H⟩ := Aa H
 obtain ⟨x1, h1, H⟩ := Aa H
 refine Ad4 Abj s0 ?_
 obtain ⟨a1, h2, h3⟩ := Ai7 Flat.u8 (fun _ hC => (rdL hr0 hC)) s0.drew Abp rfl h0
 obtain ⟨a2, h4, h5⟩ := Ai7 Flat.u8 (fun _ hC => (rdL hr0 hC)) s0.drew Abp rfl h1
 refine hq [0, 1, 2, 3, 4, 5] F2 s0.drew (QI.ev 1 rfl <| QI.ix h2 rfl <| QI.op rfl (fun _ hC => An Acy rfl (Abe.at_ (h3 _ hC) (o := 0) rfl)) rfl <| QI.ev 1 rfl <| QI.ix h4 rfl <| QI.op rfl (fun _ hC => An Acy rfl (Abe.at_ (h5 _ hC) (o := 0) rfl)) rfl <| QI.nil) (by kernel_rfl) fun _ F => ?_
 refine ho 6 rfl (by kernel_rfl) ?_
 refine Ae (parts := [(0, .tmp 5), (1, .tmp 8)]) Flat.u8 ([x0, x1] : List UInt8) F s0.drew Abp rfl (by decide) rfl rfl rfl (by simp [Value.cells]) rfl rfl rfl fun v1 w0 _ F s1 => ?_
 refine gw 1 F rfl fun _ F => ⟨s1.drop, ?_⟩
 refine hq [7] F s1.drop (QI.ev 1 rfl <| QI.nil) (by kernel_rfl) fun _ F => ?_
 refine Aew (by kernel_rfl) ?_
 cases H
 exact ge 2 F rfl fun _ F => rt F ⟨v1, rfl, s1⟩
theorem A7o {w : World} {v0 : Value} {a0 : List UInt8} {r : (List UInt8)} (hr0 : Rd Ty.u8 w [] v0 a0) (H : A1j a0 = some r) :
    Calls prog 204 #[v0] w (Ret fun u_ w_ => ∃ u0 : Value, u_ = u0 ∧ SL w [] w_ [Sl Ty.u8 u0 r]) := by
 have s0 : SL w [] w [] := SL.Abr w
 refine cin func204 ntmps204 6 rfl rfl rfl fun _ F2 => ?_
 unfold A1j at H
 obtain ⟨x0, h0, H⟩ := Aa H
 obtain ⟨x1, h1, H⟩ := Aa H
 refine Ad4 Abj s0 ?_
 obtain ⟨a1, h2, h3⟩ := Ai7 Flat.u8 (fun _ hC => (rdL hr0 hC)) s0.drew Abp rfl h0
 obtain ⟨a2, h4, h5⟩ := Ai7 Flat.u8 (fun _ hC => (rdL hr0 hC)) s0.drew Abp rfl h1
 refine hq [0, 1, 2, 3, 4, 5] F2 s0.drew (QI.ev 1 rfl <| QI.ix h2 rfl <| QI.op rfl (fun _ hC => An Acy rfl (Abe.at_ (h3 _ hC) (o := 0) rfl)) rfl <| QI.ev 1 rfl <| QI.ix h4 rfl <| QI.op rfl (fun _ hC => An Acy rfl (Abe.at_ (h5 _ hC) (o := 0) rfl)) rfl <| QI.nil) (by kernel_rfl) fun _ F => ?_
 refine ho 6 rfl (by kernel_rfl) ?_
 refine Ae (parts := [(0, .tmp 5), (1, .tmp 8)]) Flat.u8 ([x0, x1] : List UInt8) F s0.drew Abp rfl (by decide) rfl rfl rfl (by simp [Value.cells]) rfl rfl rfl fun v1 w0 _ F s1 => ?_
 refine gw 1 F rfl fun _ F => ⟨s1.drop, ?_⟩
 refine hq [7] F s1.drop (QI.ev 1 rfl <| QI.nil) (by kernel_rfl) fun _ F => ?_
 refine Aew (by kernel_rfl) ?_
 cases H
 exact ge 2 F rfl fun _ F => rt F ⟨v1, rfl, s1⟩
theorem AId {w : World} {FF : List Nat} {v u : Value} {x : Gv} {l r : List UInt8} (hst : Acd [Gvc 214 203 204 47 v x] w FF) (hr : Rd Ty.u8 w FF u l) (H : Gv.run x l = some r) :
    ∃ f caps, v = clo f caps ∧ fnB prog f = true ∧ Calls prog f ([u] ++ caps).toArray w (Ret fun u_ w_ => SL w FF w_ [Sl Ty.u8 u_ r]) := by
  cases x with
  | const l' =>
    obtain ⟨qs, ⟨g, u1, rfl, rfl⟩, hs⟩ := Arh hst
    cases H
    refine ⟨214, [jP g], rfl, AIh, ?_⟩
    have s0 : SL w FF w [Cw g 47 [u1], Sl Ty.u8 u1 r] := SL.init w FF hs
    refine Ap7 func214 rfl ntmps214 (Nat.le_of_ble_eq_true rfl) (args := [u, jP g]) fun q0 F0 => ?_
    refine wp_seq ?_
    refine Akh ?_
    refine Alp F0 (PR.op (Ams rfl) <| PR.nil) fun q1 F1 => ?_
    refine Aj3 ?_
    refine Aj0 ?_
    refine wp_seq ?_
    refine Akh ?_
    refine Alp F1 (PR.op (A5q As9 rfl (s0.Ai8 (.head _) rfl)) <| PR.op (Ams rfl) <| PR.nil) fun q2 F2 => ?_
    refine Aj3 ?_
    refine Aj0 ?_
    refine wp_ret ?_
    exact Aqk (rs := [.tmp 3]) (vs := [u1]) F2 (by rfl) ⟨_, _, rfl, RV.tmp rfl, rfl⟩ ⟨_, rfl, s0.drop⟩
  | dup =>
    obtain ⟨qs, ⟨rfl, rfl⟩, hs⟩ := Arh hst
    have hF : FF = [] := hs
    subst hF
    exact ⟨203, [], rfl, AH6, (A7v hr H).mono fun _ _ ⟨v_, h1, h2⟩ => by
      obtain ⟨u0, rfl, h3⟩ := h2
      exact ⟨_, h1, h3⟩⟩
  | swap =>
    obtain ⟨qs, ⟨rfl, rfl⟩, hs⟩ := Arh hst
    have hF : FF = [] := hs
    subst hF
    exact ⟨204, [], rfl, AIv, (A7o hr H).mono fun _ _ ⟨v_, h1, h2⟩ => by
      obtain ⟨u0, rfl, h3⟩ := h2
      exact ⟨_, h1, h3⟩⟩
  | nil => cases H
theorem A09 {w : World} {v0_0 v0_1 : Value} {a0 : GG} {a1 : B0} {a2 : CO} {r : B0 × Int} (hr0_0 : Rd Hw w [] v0_0 a0.Classes) (hr0_1 : Rd Ach w [] v0_1 a0.OS) (H : Aug a0 a1 a2 = some r) :
    Calls prog 134 #[.agg ⟨[v0_0, v0_1, jI a0.Fn]⟩, .agg ⟨(jI a1.Locals :: jI a1.Height :: XK a1.Slots)⟩, .agg ⟨[jI a2.At, jU (a2.Op.toNat : Int), jI a2.A, jI a2.B]⟩] w (Ret fun u_ w_ => u_ = .tuple ⟨[.agg ⟨(jI r.1.Locals :: jI r.1.Height :: XK r.1.Slots)⟩, jI r.2]⟩ ∧ SL w [] w_ []) := by
 have s0 : SL w [] w [] := SL.Abr w
 refine cin func134 ntmps134 2 rfl rfl rfl fun _ F0 => ?_
 unfold Aug at H
 refine Ar F0 s0 rfl rfl rfl fun g0 w0 _ F s1 => Ar F s1 rfl rfl rfl fun g32 w1 _ F s2 => Ar F s2 rfl rfl rfl fun g1 w2 _ F s3 => Af F s3 Ol rfl rfl fun g2 w3 _ F s4 => ?_
 obtain ⟨x0, h0, H⟩ := Aa H
 refine gw 6 F rfl fun _ F => Ki F s4 m3 0 rfl fun _ F => gca F s4 (A2s (a0 := (⟨a0.Classes, a0.OS, a0.Fn⟩ : GG)) (hr0_0.M3 s4) (hr0_1.M3 s4) h0) 3 rfl rfl rfl rfl fun w4 _ F s5 => Ll F H 2 5 rfl rfl rfl (fun h1 H _ F => ?_) (fun h1 H _ F => ?_)
 ·refine gx F (Al (vs := []) Ol Adw rfl (cs := jZ) (Ac1)) 0 rfl rfl fun _ F => ?_
  refine O4 (ds := jZ) F s5 rfl rfl (by simpa using Aay) (Ab rfl (Ab rfl (Abi _))) (by simp) fun w5 _ F s6 => ?_
  cases H
  refine gw 5 F rfl fun _ F => ?_
  refine Ak (rs := [.cell 6 118, .tmp 7]) (vs := [.agg ⟨jZ⟩, jI 1]) F (by rfl) ⟨_, _, rfl, Am s6 m0 rfl Aa9 (by simp), _, _, rfl, Ao rfl, rfl⟩ ⟨_, rfl, ⟨rfl, s6.drop.drop.drop.drop⟩⟩
 obtain ⟨x1, h2, H⟩ := Aa H
 refine Ki F s5 m3 0 rfl fun _ F => gla F s5 m2 0 rfl fun _ F => gca F s5 (Aux (hr0_0.M3 s5) h2) 10 rfl rfl rfl rfl fun w6 _ F s7 => Ll F H 2 4 rfl rfl rfl (fun h3 H _ F => ?_) (fun h3 H _ F => ?_)
 ·refine gx F (Al (vs := []) Ol Adw rfl (cs := jZ) (Ac1)) 1 rfl rfl fun _ F => ?_
  refine O4 (ds := jZ) F s7 rfl rfl (by simpa using Aay) (Ab rfl (Ab rfl (Abi _))) (by simp) fun w7 _ F s8 => ?_
  cases H
  refine gw 5 F rfl fun _ F => ?_
  refine Ak (rs := [.cell 6 118, .tmp 7]) (vs := [.agg ⟨jZ⟩, jI x1]) F (by rfl) ⟨_, _, rfl, Am s8 m0 rfl Aa9 (by simp), _, _, rfl, Ao rfl, rfl⟩ ⟨_, rfl, ⟨rfl, s8.drop.drop.drop.drop⟩⟩
 obtain ⟨x2, h4, H⟩ := Aa H
 refine Ki F s7 m3 0 rfl fun _ F => Ki F s7 m1 0 rfl fun _ F => std F (ACb (a0 := (⟨a0.Classes, a0.OS, a0.Fn⟩ : GG)) (hr0_0.M3 s7) (hr0_1.M3 s7) h4) fun v0 w8 _ h5 F => ?_
 obtain ⟨v1, v2, rfl, h6⟩ := h5
 have s9 := s7.add h6
 refine gw 3 F rfl fun _ F => Af F s9 Aeo rfl rfl fun g3 w9 _ F sa => Ai F sa rfl rfl Ahy (Ab (Aq (fO sa m1)) (Ab (sa.Ajx m2).2 Ap)) (Ac rfl) fun wa _ F sc => ?_
 obtain ⟨o0, H0, R0⟩ := Aa H
 clear H
 refine gw 4 F rfl fun _ F => Acs (fun a w_ => Fr a 101 [(3, jP g0), (4, jP g32), (5, jP g1), (6, jP g2), (8, jI x2.2), (9, jP g3), (10, .bool o0)] ∧ SL w [] w_ [Cw g3 226 [v1, v2], Sl HO v1 x2.1.takes, Gvc 214 203 204 47 v2 x2.1.gives, Cw g2 118 jZ, Cw g1 79 [jI a2.At, jU (a2.Op.toNat : Int), jI a2.A, jI a2.B], Cw g32 118 (jI a1.Locals :: jI a1.Height :: XK a1.Slots), Cw g0 110 [v0_0, v0_1, jI a0.Fn]]) ?_ ?_
 ·have H := H0
  refine gc 2 F rfl fun _ F => Ki F sc m4 2 rfl fun _ F => bsp 36 F H (fun h7 H F => ?_) (fun h7 H F => ?_)
  ·cases H
   exact gw 6 F rfl fun _ F => ⟨F.sb, sc⟩
  refine gw 1 F rfl fun _ F => Lm F rfl rfl ?_
  cases H
  exact Ki F sc m4 4 rfl fun _ F => ⟨F.sb, sc⟩
 intro _ wb hJ
 obtain ⟨F, sd⟩ := hJ
 have H := R0
 clear R0 H0
 obtain ⟨o1, H1, R1⟩ := Aa H
 clear H
 refine ge 2 F rfl fun _ F => Acs (fun a w_ => Fr a 101 [(3, jP g0), (4, jP g32), (5, jP g1), (6, jP g2), (8, jI o1), (9, jP g3)] ∧ SL w [] w_ [Cw g3 226 [v1, v2], Sl HO v1 x2.1.takes, Gvc 214 203 204 47 v2 x2.1.gives, Cw g2 118 jZ, Cw g1 79 [jI a2.At, jU (a2.Op.toNat : Int), jI a2.A, jI a2.B], Cw g32 118 (jI a1.Locals :: jI a1.Height :: XK a1.Slots), Cw g0 110 [v0_0, v0_1, jI a0.Fn]]) ?_ ?_
 ·have H := H1
  refine gc 5 F rfl fun _ F => bsp 43 F H (fun h8 H F => ?_) (fun h8 H F => ?_)
  ·refine gw 3 F rfl fun _ F => bsp 46 F H (fun h9 H F => ?_) (fun h9 H F => ?_)
   ·refine gw 1 F rfl fun _ F => Lm F rfl rfl <| Ki F sd m4 2 rfl fun _ F => bsp 50 F H (fun ha H F => ?_) (fun ha H F => ?_)
    ·cases H
     exact gw 13 F rfl fun _ F => ⟨F.sb, sd⟩
    refine gw 1 F rfl fun _ F => Lm F rfl rfl <| Ki F sd m4 1 rfl fun _ F => Lm F rfl rfl <| Ki F sd m5 5 rfl fun _ F => Ll F H 3 1 rfl rfl rfl (fun hb H _ F => ?_) (fun hb H _ F => ?_)
    ·cases H
     exact ⟨F.sb, sd⟩
    cases H
    exact ⟨F.sb, sd⟩
   cases H
   exact gw 15 F rfl fun _ F => ⟨F.sb, sd⟩
  cases H
  exact gw 18 F rfl fun _ F => ⟨F.sb, sd⟩
 intro _ wc hJ
 obtain ⟨F, se⟩ := hJ
 have H := R1
 clear R1 H1
 refine ge 8 F rfl fun _ F => Ll F H 2 5 rfl rfl rfl (fun hc H _ F => ?_) (fun hc H _ F => ?_)
 ·refine gx F (Al (vs := []) Ol Adw rfl (cs := jZ) (Ac1)) 1 rfl rfl fun _ F => ?_
  refine O4 (ds := jZ) F se.f3 rfl rfl (by simpa using Aay) (Ab rfl (Ab rfl (Abi _))) (by simp) fun wd _ F sf => ?_
  cases H
  refine gw 5 F rfl fun _ F => ?_
  refine Ak (rs := [.cell 6 118, .tmp 7]) (vs := [.agg ⟨jZ⟩, jI o1]) F (by rfl) ⟨_, _, rfl, Am sf m0 rfl Aa9 (by simp), _, _, rfl, Ao rfl, rfl⟩ ⟨_, rfl, ⟨rfl, sf.drop.drop.drop.drop.drop.drop.drop⟩⟩
 obtain ⟨x3, hd, H⟩ := Aa H
 refine Ki F se m6 0 rfl fun _ F => gla F se m5 1 rfl fun _ F => Ki F se m0 0 rfl fun _ F => std F (ABc (hr0_0.M3 se) (se.rd0 m1) hd) fun v3 we _ he F => ?_
 obtain ⟨v4, rfl, hf⟩ := he
 have sg := se.add hf
 refine gw 14 F rfl fun _ F => Ll F H 2 5 rfl rfl rfl (fun hg H _ F => ?_) (fun hg H _ F => ?_)
 ·refine gx F (Al (vs := []) Ol Adw rfl (cs := jZ) (Ac1)) 1 rfl rfl fun _ F => ?_
  refine O4 (ds := jZ) F sg.f4 rfl rfl (by simpa using Aay) (Ab rfl (Ab rfl (Abi _))) (by simp) fun wf _ F sh => ?_
  cases H
  refine gw 5 F rfl fun _ F => ?_
  refine Ak (rs := [.cell 6 118, .tmp 7]) (vs := [.agg ⟨jZ⟩, jI x3.2]) F (by rfl) ⟨_, _, rfl, Am sh m0 rfl Aa9 (by simp), _, _, rfl, Ao rfl, rfl⟩ ⟨_, rfl, ⟨rfl, sh.drop.drop.drop.drop.drop.drop.drop.drop⟩⟩
 obtain ⟨x4, hh, H⟩ := Aa H
 obtain ⟨G0, hi, hj, hk, hl⟩ := SL.open_ (ps := [Gvc 214 203 204 47 v2 x2.1.gives]) (rest := [Sl Ty.u8 v4 x3.1, Cw g3 226 [v1, v2], Sl HO v1 x2.1.takes, Cw g2 118 jZ, Cw g1 79 [jI a2.At, jU (a2.Op.toNat : Int), jI a2.A, jI a2.B], Cw g32 118 (jI a1.Locals :: jI a1.Height :: XK a1.Slots), Cw g0 110 [v0_0, v0_1, jI a0.Fn]]) sg.f3
 obtain ⟨f0, c0, hm, hn, ho⟩ := AId hi (A1p m0 hk) hh
 refine Ki F sg m1 1 rfl fun _ F => ?_
 refine Aky (args := [.tmp 77]) F hn (Eq.trans rfl (congrArg some hm)) rfl ho rfl fun v5 wg _ hp F => ?_
 have si := hl _ _ hp
 refine gw 7 F rfl fun _ F => Ki F si m5 3 rfl fun _ F => Ll F H 2 4 rfl rfl rfl (fun hq H _ F => ?_) (fun hq H _ F => ?_)
 ·obtain ⟨x5, hr, H⟩ := Aa H
  refine gla F si m6 1 rfl fun _ F => Ki F si m5 0 rfl fun _ F => gca F si (A0q hr) 14 rfl rfl rfl rfl fun wh _ F sj => Ll F H 2 4 rfl rfl rfl (fun hs H _ F => ?_) (fun hs H _ F => ?_)
  ·refine gx F (Al (vs := []) Ol Adw rfl (cs := jZ) (Ac1)) 0 rfl rfl fun _ F => ?_
   refine O4 (ds := jZ) F sj.f4 rfl rfl (by simpa using Aay) (Ab rfl (Ab rfl (Abi _))) (by simp) fun wi _ F sk => ?_
   cases H
   refine gw 6 F rfl fun _ F => ?_
   refine Ak (rs := [.cell 6 118, .tmp 7]) (vs := [.agg ⟨jZ⟩, jI 70]) F (by rfl) ⟨_, _, rfl, Am sk m0 rfl Aa9 (by simp), _, _, rfl, Ao rfl, rfl⟩ ⟨_, rfl, ⟨rfl, sk.drop.drop.drop.drop.drop.drop.drop.drop⟩⟩
  refine Ae (parts := [(0, .tmp 92)]) Flat.u8 ([x5.1] : List UInt8) F sj Abp rfl (by decide) rfl rfl rfl (by simp [Value.cells]) rfl rfl rfl fun v6 wj _ F sl => ?_
  obtain ⟨x6, ht, H⟩ := Aa H
  refine gw 5 F rfl fun _ F => gla F sl m7 0 rfl fun _ F => Ki F sl m6 2 rfl fun _ F => gca F sl (A0t (sl.rd0 m2) (sl.rd0 m0) ht) 2 rfl rfl rfl rfl fun wk _ F sm => ?_
  refine O4 (ds := (jI x6.1.Locals :: jI x6.1.Height :: XK x6.1.Slots)) F sm.f5 rfl rfl (by simpa using Aay) (Ab rfl (Ab rfl (Abi _))) (by simp) fun wl _ F sn => ?_
  cases H
  refine gw 4 F rfl fun _ F => ?_
  refine Ak (rs := [.cell 6 118, .tmp 7]) (vs := [.agg ⟨(jI x6.1.Locals :: jI x6.1.Height :: XK x6.1.Slots)⟩, jI x6.2]) F (by rfl) ⟨_, _, rfl, Am sn m0 rfl Aa9 (by simp), _, _, rfl, Ao rfl, rfl⟩ ⟨_, rfl, ⟨rfl, sn.drop.drop.drop.drop.drop.drop.drop.drop.drop⟩⟩
 obtain ⟨x7, hu, H⟩ := Aa H
 refine gla F si m6 0 rfl fun _ F => Ki F si m5 2 rfl fun _ F => gca F si (A0t (si.rd0 m1) (si.rd0 m0) hu) 2 rfl rfl rfl rfl fun wm _ F so => ?_
 refine O4 (ds := (jI x7.1.Locals :: jI x7.1.Height :: XK x7.1.Slots)) F so.f4 rfl rfl (by simpa using Aay) (Ab rfl (Ab rfl (Abi _))) (by simp) fun wn _ F sp => ?_
 cases H
 refine gw 4 F rfl fun _ F => ?_
 refine Ak (rs := [.cell 6 118, .tmp 7]) (vs := [.agg ⟨(jI x7.1.Locals :: jI x7.1.Height :: XK x7.1.Slots)⟩, jI x7.2]) F (by rfl) ⟨_, _, rfl, Am sp m0 rfl Aa9 (by simp), _, _, rfl, Ao rfl, rfl⟩ ⟨_, rfl, ⟨rfl, sp.drop.drop.drop.drop.drop.drop.drop.drop⟩⟩
theorem A7l {w : World} {v0 : Value} {a0 : List BV} {a1 : B0} {a2 : B0} {r : Int} (hr0 : Rd Hw w [] v0 a0) (H : Att a0 a1 a2 = some r) :
    Calls prog 191 #[v0, .agg ⟨(jI a1.Locals :: jI a1.Height :: XK a1.Slots)⟩, .agg ⟨(jI a2.Locals :: jI a2.Height :: XK a2.Slots)⟩] w (Ret fun u_ w_ => u_ = jI r ∧ SL w [] w_ []) := by
 have s0 : SL w [] w [] := SL.Abr w
 refine cin func191 ntmps191 2 rfl rfl rfl fun _ F0 => ?_
 unfold Att at H
 refine Ar F0 s0 rfl rfl rfl fun g0 w0 _ F s1 => Ar F s1 rfl rfl rfl fun g1 w1 _ F s2 => ?_
 obtain ⟨x0, h0, H⟩ := Aa H
 refine gw 6 F rfl fun _ F => gla F s2 m1 0 rfl fun _ F => gca F s2 (Aux (hr0.M3 s2) h0) 10 rfl rfl rfl rfl fun w2 _ F s3 => Ll F H 2 8 rfl rfl rfl (fun h1 H _ F => ?_) (fun h1 H _ F => ?_)
 ·obtain ⟨x1, h2, H⟩ := Aa H
  refine gla F s3 m0 0 rfl fun _ F => gca F s3 (Aux (hr0.M3 s3) h2) 9 rfl rfl rfl rfl fun w3 _ F s4 => bsp 18 F H (fun h3 H F => ?_) (fun h3 H F => ?_)
  ·refine gw 1 F rfl fun _ F => Lm F rfl rfl <| Ki F s4 m1 1 rfl fun _ F => Lm F rfl rfl <| Ki F s4 m0 2 rfl fun _ F => bsp 24 F H (fun h4 H F => ?_) (fun h4 H F => ?_)
   ·cases H
    exact gw 21 F rfl fun _ F => rt F ⟨rfl, s4.drop.drop⟩
   refine gw 1 F rfl fun _ F => Lm F rfl rfl <| Ki F s4 m1 1 rfl fun _ F => Lm F rfl rfl <| Ki F s4 m0 5 rfl fun _ F => Ll F H 11 9 rfl rfl rfl (fun h5 H _ F => ?_) (fun h5 H _ F => ?_)
   ·cases H
    exact rt F ⟨rfl, s4.drop.drop⟩
   cases H
   exact rt F ⟨rfl, s4.drop.drop⟩
  cases H
  exact gw 25 F rfl fun _ F => rt F ⟨rfl, s4.drop.drop⟩
 cases H
 exact gw 25 (F.kf (d := 18) h1) rfl fun _ F => rt F ⟨rfl, s3.drop.drop⟩
theorem A3m {w : World} {FF : List Nat} {g1 g2 g3 : Nat} {v1_0 : Value} {a0 : Int} {a1 : List BV} {a2 : Int} {a3 : UInt8} {r : Bool × UInt8} (hst : Acd [Cw g1 22 [v1_0], Cw g2 3 [jI a2], Cw g3 48 [jU (a3.toNat : Int)]] w FF) (hr1_0 : Rd Hw w FF v1_0 a1) (H : Aqr a0 a1 a2 a3 = some r) :
    Calls prog 212 #[jI a0, jP g1, jP g2, jP g3] w (Ret fun u_ w_ => u_ = .bool r.1 ∧ SL w FF w_ [Cw g1 22 [v1_0], Cw g2 3 [jI a2], Cw g3 48 [jU (r.2.toNat : Int)]]) := by
 have s0 : SL w FF w [Cw g1 22 [v1_0], Cw g2 3 [jI a2], Cw g3 48 [jU (a3.toNat : Int)]] := SL.init w FF hst
 refine cin func212 ntmps212 8 rfl rfl rfl fun _ F2 => ?_
 unfold Aqr at H
 obtain ⟨x0, h0, H⟩ := Aa H
 refine Ki F2 s0 m0 0 rfl fun _ F => Ki F s0 m1 1 rfl fun _ F => gca F s0 (A0u (hr1_0.M3 s0) h0) 2 rfl rfl rfl rfl fun w0 _ F s1 => Ll F H 3 8 rfl rfl rfl (fun h1 H _ F => ?_) (fun h1 H _ F => ?_)
 ·refine gx F (A05 rfl underlying3 underlying48) 0 rfl rfl fun _ F => gx F (A3c rfl rfl) 0 rfl rfl fun _ F => Ay F s1.f2 rfl rfl Apn rfl rfl rfl fun w1 _ F s2 => ?_
  cases H
  exact gw 9 F rfl fun _ F => rt F ⟨rfl, s2.f2.f2⟩
 cases H
 exact rt F ⟨rfl, s1⟩
theorem Axb {w : World} {FF : List Nat} {g0 g1 g2 : Nat} {v0 v300_0 : Value} {a0 : List BV} {a1 : Int} {a300 : List BV} {a301 : Int} {a302 : UInt8} {r : UInt8} (hst : Acd [Cw g0 22 [v300_0], Cw g1 3 [jI a301], Cw g2 48 [jU (a302.toNat : Int)]] w FF) (hr0 : Rd Hw w FF v0 a0) (hr300_0 : Rd Hw w FF v300_0 a300) (H : Ajy a0 a1 a300 a301 a302 = some r) :
    Calls prog 99 #[v0, jI a1, clo 212 [jP g0, jP g1, jP g2]] w (Ret fun u_ w_ => u_ = .tuple ⟨[]⟩ ∧ SL w FF w_ [Cw g0 22 [v300_0], Cw g1 3 [jI a301], Cw g2 48 [jU (r.toNat : Int)]]) := by
 have s0 : SL w FF w [Cw g0 22 [v300_0], Cw g1 3 [jI a301], Cw g2 48 [jU (a302.toNat : Int)]] := SL.init w FF hst
 refine cin func99 ntmps99 0 rfl rfl rfl fun _ F0 => ?_
 unfold Ajy at H
 obtain ⟨o0, H0, R0⟩ := Aa H
 clear H
 refine Acs (fun a w_ => ∃ p0 : UInt8, o0 = .inr (p0) ∧ Fr a 29 [] ∧ SL w FF w_ [Cw g0 22 [v300_0], Cw g1 3 [jI a301], Cw g2 48 [jU (p0.toNat : Int)]]) ?_ ?_
 ·have H := H0
  refine gc 1 F0 rfl fun _ F0 => lpk (Afv a0 a300 a301) (fun s1 a w_ => Fr a 29 [(0, v0), (1, jI s1.2), (2, clo 212 [jP g0, jP g1, jP g2])] ∧ SL w FF w_ [Cw g0 22 [v300_0], Cw g1 3 [jI a301], Cw g2 48 [jU (s1.1.toNat : Int)]]) H ?_ ?_
  ·exact ⟨F0.sb, s0⟩
  intro s1 _ w0 h0 o1 H hr
  obtain ⟨F, s2⟩ := h0
  replace H : Afv a0 a300 a301 s1 = some o1 := H
  unfold Afv at H
  refine gc 6 F rfl fun _ F => bsp 9 F H (fun h1 H F => ?_) (fun h1 H F => ?_)
  ·refine gw 2 F rfl fun _ F => Lm F rfl rfl <| gx F (Ah rfl underlying22 (fR hr0 s2)) 3 rfl rfl fun _ F => bsp 15 F H (fun h2 H F => ?_) (fun h2 H F => ?_)
   ·obtain ⟨x0, h3, H⟩ := Aa H
    refine gw 2 F rfl fun _ F => Lm F rfl rfl ?_
    obtain ⟨G0, h4, h5, h6, h7⟩ := SL.open_ (ps := [Cw g0 22 [v300_0], Cw g1 3 [jI a301], Cw g2 48 [jU (s1.1.toNat : Int)]]) (rest := []) s2.f2.f2.f2
    refine Aky (args := [.tmp 17]) F AI2 rfl rfl (A3m (a0 := s1.2) (a1 := a300) (a2 := a301) (a3 := s1.1) h4 (hr300_0.pass s2.f2.f2.f2 h5) h3) rfl fun v1 w1 _ h8 F => ?_
    obtain ⟨rfl, h9⟩ := h8
    have s3 := h7 _ _ h9
    refine gw 3 F rfl fun _ F => Ll F H 5 4 rfl rfl rfl (fun ha H _ F => ?_) (fun ha H _ F => ?_)
    ·obtain ⟨x1, hb, H⟩ := Aa H
     obtain ⟨a4, c0, G1, hc, hd, he, hf⟩ := Rd.idx hr0 Af2 rfl hb
     obtain ⟨v2, rfl, hg⟩ := (Ael he hf)
     replace hd := hd _ _ s3
     refine gw 2 F rfl fun _ F => gi F hc 0 rfl fun _ F => gx F (Ba Aln rfl) 0 rfl rfl fun _ F => gx F (An Acx rfl (Abe.at_ hd (o := 1) rfl)) 11 rfl rfl fun _ F => Ll F H 6 7 rfl rfl rfl (fun hh H _ F => ?_) (fun hh H _ F => ?_)
     ·cases H
      obtain rfl := hr _ rfl
      replace H := R0
      try dsimp only at H
      cases H
      exact rt F ⟨rfl, s3⟩
     cases H
     exact ⟨_, rfl, F.sb, s3⟩
    cases H
    obtain rfl := hr _ rfl
    exact ⟨_, rfl, F.sb, s3⟩
   cases H
   obtain rfl := hr _ rfl
   exact gw 11 F rfl fun _ F => ⟨_, rfl, F.sb, s2⟩
  cases H
  obtain rfl := hr _ rfl
  exact gw 17 F rfl fun _ F => ⟨_, rfl, F.sb, s2⟩
 intro _ w2 hJ
 obtain ⟨p0, rfl, F, s4⟩ := hJ
 have H := R0
 clear R0 H0
 try dsimp only at H
 cases H
 exact A24 F (by rfl) ⟨_, rfl, ⟨rfl, s4⟩⟩
theorem A87 {w : World} {v0 : Value} {a0 : List BV} {a1 : UInt8} {a2 : UInt8} {r : UInt8} (hr0 : Rd Hw w [] v0 a0) (H : Ast a0 a1 a2 = some r) :
    Calls prog 192 #[v0, jU (a1.toNat : Int), jU (a2.toNat : Int)] w (Ret fun u_ w_ => u_ = jU (r.toNat : Int) ∧ SL w [] w_ []) := by
 have s0 : SL w [] w [] := SL.Abr w
 refine cin func192 ntmps192 2 rfl rfl rfl fun _ F0 => ?_
 unfold Ast at H
 refine Ar F0 s0 rfl (Ag (fR hr0 s0)) rfl fun g8 w9 _ F s1 => ?_
 obtain ⟨x0, h0, H⟩ := Aa H
 refine gw 7 F rfl fun _ F => Ki F s1 m0 1 rfl fun _ F => gca F s1 (Ak6 (hr0.M3 s1) h0) 2 rfl rfl rfl rfl fun w0 _ F s2 => bsp 15 F H (fun h1 H F => ?_) (fun h1 H F => ?_)
 ·cases H
  exact gw 17 F rfl fun _ F => rt F ⟨rfl, s2.drop⟩
 refine Lm F rfl rfl ?_
 obtain ⟨x1, h2, H⟩ := Aa H
 refine Ki F s2 m0 1 rfl fun _ F => Lm F rfl rfl <| gca F s2 (Ak6 (hr0.M3 s2) h2) 5 rfl rfl rfl rfl fun w1 _ F s3 => Ll F H 8 2 rfl rfl rfl (fun h3 H _ F => ?_) (fun h3 H _ F => ?_)
 ·cases H
  exact rt F ⟨rfl, s3.drop⟩
 obtain ⟨x2, h4, H⟩ := Aa H
 refine Ki F s3 m0 2 rfl fun _ F => gca F s3 (Aym (hr0.M3 s3) h4) 3 rfl rfl rfl rfl fun w2 _ F s4 => Ll F H 9 2 rfl rfl rfl (fun h5 H _ F => ?_) (fun h5 H _ F => ?_)
 ·cases H
  exact rt F ⟨rfl, s4.drop⟩
 obtain ⟨x3, h6, H⟩ := Aa H
 refine Ki F s4 m0 2 rfl fun _ F => gca F s4 (Aym (hr0.M3 s4) h6) 3 rfl rfl rfl rfl fun w3 _ F s5 => Ll F H 9 3 rfl rfl rfl (fun h7 H _ F => ?_) (fun h7 H _ F => ?_)
 ·cases H
  exact rt F ⟨rfl, s5.drop⟩
 obtain ⟨x4, h8, H⟩ := Aa H
 refine gca F s5 (Amm h8) 2 rfl rfl rfl rfl fun w4 _ F s6 => bsp 37 F H (fun h9 H F => ?_) (fun h9 H F => ?_)
 ·cases H
  exact gw 16 F rfl fun _ F => rt F ⟨rfl, s6.drop⟩
 obtain ⟨x5, ha, H⟩ := Aa H
 refine gw 1 F rfl fun _ F => Lm F rfl rfl <| gca F s6 (Amm ha) 5 rfl rfl rfl rfl fun w5 _ F s7 => Ll F H 8 5 rfl rfl rfl (fun hb H _ F => ?_) (fun hb H _ F => ?_)
 ·cases H
  exact rt F ⟨rfl, s7.drop⟩
 refine Af F s7 AEy rfl rfl fun g0 w6 _ F s8 => Ay F s8 rfl rfl Apn rfl rfl rfl fun w7 _ F s9 => ?_
 obtain ⟨x6, hc, H⟩ := Aa H
 obtain ⟨x7, hd, H⟩ := Aa H
 refine gw 3 F rfl fun _ F => Ad4 Abj s9 ?_
 refine hq [0, 1, 3, 4] F s9.drew (QI.ld m1 rfl <| QI.ev 1 rfl <| QI.ld m1 rfl <| QI.ev 1 rfl <| QI.nil) (by kernel_rfl) fun _ F => ?_
 refine Aes [0, 1, 2, 3, 4, 5, 6] (fun a w_ => ∃ g1 : Nat, Fr a 59 [(3, jP g8), (7, jP g0), (9, jP g1), (44, jI x6), (47, jI x7)] ∧ SL w [] w_ [Cw g0 48 [jU 5], Cw g8 22 [v0], Cw g1 3 [jI 0]]) ?_ fun hD0 => ?_
 ·rintro a w_ ⟨g1, F, sa⟩
  refine hq [7] F sa.f2.drop (QI.ev 1 rfl <| QI.nil) (by kernel_rfl) fun _ F => ?_
  refine ho 8 rfl (by kernel_rfl) ?_
  refine Ay F sa.f2 rfl rfl Anj rfl rfl rfl fun w8 _ F sc => gw 1 F rfl fun _ F => ⟨sc.drop, ?_⟩
  refine Aew (by kernel_rfl) ?_
  refine ge 7 F rfl fun _ F => bsp 50 F H (fun he H F => ?_) (fun he H F => ?_)
  ·refine Lm F rfl rfl <| Ki F sc m0 4 rfl fun _ F => Ll F H 1 4 rfl rfl rfl (fun hf H _ F => ?_) (fun hf H _ F => ?_)
   ·obtain ⟨x8, hg, H⟩ := Aa H
    refine Ki F sc m2 1 rfl fun _ F => gx F (Ajn (cs := [.tmp 3, .tmp 9, .tmp 7]) (vs := [jP g8, jP g1, jP g0]) rfl) 0 rfl rfl fun _ F => ?_
    have sd := sc.f1.f1.f2
    obtain ⟨G0, hh, hi, hj, hk⟩ := SL.open_ (ps := [Cw g8 22 [v0], Cw g1 3 [jI x7], Cw g0 48 [jU 5]]) (rest := []) sd
    refine std F (Axb (a300 := a0) (a301 := x7) (a302 := 5) hh (hr0.pass sd hi) (hr0.pass sd hi) hg) fun v1 wa _ hl F => ?_
    obtain ⟨rfl, hm⟩ := hl
    have se := hk _ _ hm
    refine gw 4 F rfl fun _ F => ?_
    cases H
    exact Ki F se m2 4 rfl fun _ F => rt F ⟨rfl, se.drop.drop.drop⟩
   cases H
   exact Ki F sc m1 4 rfl fun _ F => rt F ⟨rfl, sc.drop.drop.drop⟩
  refine gw 10 F rfl fun _ F => ?_
  cases H
  exact Ki F sc m1 4 rfl fun _ F => rt F ⟨rfl, sc.drop.drop.drop⟩
 refine Aes [0, 1, 2, 3, 4, 6] (fun a w_ => ∃ g1 : Nat, Fr a 59 [(3, jP g8), (7, jP g0), (9, jP g1), (44, jI x6), (45, v0), (46, jU (a2.toNat : Int))] ∧ SL w [] w_ [Cw g0 48 [jU 5], Cw g8 22 [v0], Cw g1 3 [jI 0]]) ?_ fun hD1 => ?_
 ·rintro a w_ ⟨g1, F, sf⟩
  refine ho 5 rfl (by kernel_rfl) ?_
  exact gca F sf (Ak8 (hr0.M3 sf) hd) 1 rfl rfl rfl rfl fun wb _ F sg => ⟨sg.f2.drop, hto hD0 ⟨g1, F.sb, sg⟩ (by kernel_rfl)⟩
 refine ho2 2 6 rfl rfl (by kernel_rfl) ?_ ?_
 ·refine gca F s9.drew (Ak8 (hr0.M3 s9.drew) hc) 1 rfl rfl rfl rfl fun wc _ F sh => ⟨sh, ?_⟩
  refine ho2 5 6 rfl rfl (by kernel_rfl) ?_ ?_
  ·refine gca F sh (Ak8 (hr0.M3 sh) hd) 1 rfl rfl rfl rfl fun wb _ F sg => ⟨sg, ?_⟩
   refine ho 6 rfl (by kernel_rfl) ?_
   exact Af F sg Agu rfl rfl fun g1 wd _ F si => gw 1 F rfl fun _ F => ⟨si.drop, hto hD0 ⟨g1, F.sb, si.f2.f2⟩ (by kernel_rfl)⟩
  exact Af F sh Agu rfl rfl fun g1 wd _ F si => gw 1 F rfl fun _ F => ⟨si.drop, hto hD1 ⟨g1, F.sb, si.f2.f2⟩ (by kernel_rfl)⟩
 refine Af F s9.drew Agu rfl rfl fun g1 wd _ F si => gw 1 F rfl fun _ F => ⟨si.drop, ?_⟩
 refine ho 2 rfl (by kernel_rfl) ?_
 exact gca F si (Ak8 (hr0.M3 si) hc) 1 rfl rfl rfl rfl fun wc _ F sh => ⟨sh.drop, hto hD1 ⟨g1, F.sb, sh.f2.f2⟩ (by kernel_rfl)⟩
theorem Ay5 {w : World} {v0 : Value} {a0 : List BV} {a1 : B0} {a2 : B0} {r : B0 × Int} (hr0 : Rd Hw w [] v0 a0) (H : Arp a0 a1 a2 = some r) :
    Calls prog 165 #[v0, .agg ⟨(jI a1.Locals :: jI a1.Height :: XK a1.Slots)⟩, .agg ⟨(jI a2.Locals :: jI a2.Height :: XK a2.Slots)⟩] w (Ret fun u_ w_ => u_ = .tuple ⟨[.agg ⟨(jI r.1.Locals :: jI r.1.Height :: XK r.1.Slots)⟩, jI r.2]⟩ ∧ SL w [] w_ []) := by
 have s0 : SL w [] w [] := SL.Abr w
 refine cin func165 ntmps165 2 rfl rfl rfl fun _ F0 => ?_
 unfold Arp at H
 refine Ar F0 s0 rfl rfl rfl fun g0 w0 _ F s1 => Ar F s1 rfl rfl rfl fun g1 w1 _ F s2 => Af F s2 Ol rfl rfl fun g32 w2 _ F s3 => ?_
 obtain ⟨x0, h0, H⟩ := Aa H
 refine gw 6 F rfl fun _ F => gla F s3 m2 0 rfl fun _ F => gla F s3 m1 0 rfl fun _ F => gca F s3 (A7l (hr0.M3 s3) h0) 10 rfl rfl rfl rfl fun w3 _ F s4 => Ll F H 2 6 rfl rfl rfl (fun h1 H _ F => ?_) (fun h1 H _ F => ?_)
 ·refine gx F (Al (vs := []) Ol Adw rfl (cs := jZ) (Ac1)) 1 rfl rfl fun _ F => ?_
  refine O4 (ds := jZ) F s4 rfl rfl (by simpa using Aay) (Ab rfl (Ab rfl (Abi _))) (by simp) fun w4 _ F s5 => ?_
  cases H
  refine gw 5 F rfl fun _ F => ?_
  refine Ak (rs := [.cell 6 118, .tmp 7]) (vs := [.agg ⟨jZ⟩, jI x0]) F (by rfl) ⟨_, _, rfl, Am s5 m0 rfl Aa9 (by simp), _, _, rfl, Ao rfl, rfl⟩ ⟨_, rfl, ⟨rfl, s5.drop.drop.drop⟩⟩
 refine Ki F s4 m2 1 rfl fun _ F => ?_
 obtain ⟨o0, H0, R0⟩ := Aa H
 clear H
 refine Ki F s4 m2 4 rfl fun _ F => Acs (fun a w_ => Fr a 41 [(4, jP g0), (6, jP g32)] ∧ SL w [] w_ [Cw g32 118 jZ, Cw g0 118 (jI a1.Locals :: jI a1.Height :: XK o0)]) ?_ ?_
 ·have H := H0
  refine gc 1 F rfl fun _ F => lpk (Al9 a0 a1 a2) (fun s6 a w_ => Fr a 41 [(0, v0), (4, jP g0), (5, jP g1), (6, jP g32), (22, jI (wr (a1.Locals + a1.Height))), (23, jI s6.2)] ∧ SL w [] w_ [Cw g32 118 jZ, Cw g1 118 (jI a2.Locals :: jI a2.Height :: XK a2.Slots), Cw g0 118 (jI a1.Locals :: jI a1.Height :: XK s6.1)]) H ?_ ?_
  ·exact ⟨F.sb, s4⟩
  intro s6 _ w5 h2 o1 H hr
  obtain ⟨F, s7⟩ := h2
  replace H : Al9 a0 a1 a2 s6 = some o1 := H
  unfold Al9 at H
  refine gc 6 F rfl fun _ F => Ll F H 10 4 rfl rfl rfl (fun h3 H _ F => ?_) (fun h3 H _ F => ?_)
  ·obtain ⟨x1, h4, H⟩ := Aa H
   obtain ⟨x2, h5, H⟩ := Aa H
   obtain ⟨x3, h6, H⟩ := Aa H
   obtain ⟨x4, h7, H⟩ := Aa H
   refine Ad4 Abj s7.f2.drop ?_
   have s8 := s7.drew
   refine hq [0, 1, 2, 3, 6, 7, 8, 9, 11] F s8.f2.drop (QI.ev 6 rfl <| QI.op rfl (fun _ hC => Agt Ae9 h5 rfl rfl) rfl <| QI.op rfl (fun _ hC => An Acy rfl (SL.Amp (pre := [jI a2.Locals, jI a2.Height]) hC m1 rfl h5)) rfl <| QI.ev 1 rfl <| QI.nil) (by kernel_rfl) fun _ F => ?_
   refine ho 4 rfl (by kernel_rfl) ?_
   refine gx F (Agt Ae9 h4 rfl rfl) 1 rfl rfl fun _ F => ⟨s8.f2.drop, ?_⟩
   refine ho 5 rfl (by kernel_rfl) ?_
   refine gx F (An Acy rfl (SL.Amp (pre := [jI a1.Locals, jI a1.Height]) s8 m2 rfl h4)) 1 rfl rfl fun _ F => ⟨s8.f2.drop, ?_⟩
   refine ho 10 rfl (by kernel_rfl) ?_
   refine gca F s8 (A87 (hr0.M3 s8) h6) 1 rfl rfl rfl rfl fun w6 _ F s9 => ⟨s9.f2.drop, ?_⟩
   refine ho 12 rfl (by kernel_rfl) ?_
   refine gx F (Agt Ae9 h7 rfl rfl) 1 rfl rfl fun _ F => ⟨s9.f2.drop, ?_⟩
   refine ho 13 rfl (by kernel_rfl) ?_
   refine Aoe (y' := x3) (pre := [jI a1.Locals, jI a1.Height]) F s9.f2 rfl h7 rfl rfl Apn fun w7 _ F sa => gw 1 F rfl fun _ F => ⟨sa.drop, ?_⟩
   refine Aew (by kernel_rfl) ?_
   cases H
   exact ge 6 F rfl fun _ F => ⟨_, rfl, F.sb, sa.f2.f2⟩
  cases H
  obtain rfl := hr _ rfl
  exact ⟨F.sb, s7.f1.drop⟩
 intro _ w8 hJ
 obtain ⟨F, sc⟩ := hJ
 have H := R0
 clear R0 H0
 refine ge 3 F rfl fun _ F => gla F sc m1 0 rfl fun _ F => ?_
 refine O4 (ds := (jI a1.Locals :: jI a1.Height :: XK o0)) F sc rfl rfl (by simpa using Aay) (Ab rfl (Ab rfl (Abi _))) (by simp) fun w9 _ F sd => ?_
 cases H
 refine gw 4 F rfl fun _ F => ?_
 refine Ak (rs := [.cell 6 118, .tmp 7]) (vs := [.agg ⟨(jI a1.Locals :: jI a1.Height :: XK o0)⟩, jI 0]) F (by rfl) ⟨_, _, rfl, Am sd m0 rfl Aa9 (by simp), _, _, rfl, Ao rfl, rfl⟩ ⟨_, rfl, ⟨rfl, sd.drop.drop⟩⟩
theorem Ayi {w : World} {FF : List Nat} {g0 g0_4 g0_5 g0_6 : Nat} {v0_0 v0_1 v0_3 : Value} {a0 : Aae} {a1 : Int} {a2 : B0} {r : Int × Aae} (hst : Acd [Cw g0 154 [v0_0, v0_1, jI a0.e.Fn, v0_3, .map (some g0_4), .map (some g0_5), .map (some g0_6), jI a0.Ade], Mp (Value.int .i64) (fun x : B0 => Value.agg ⟨(jI x.Locals :: jI x.Height :: XK x.Slots)⟩) g0_4 a0.frames, Mp (Value.int .i64) (fun _ : Unit => Value.agg ⟨[]⟩) g0_5 a0.fresh, Mp (Value.int .i64) (Value.int .i64) g0_6 a0.taken] w FF) (hr0_0 : Rd Hw w FF v0_0 a0.e.Classes) (hr0_1 : Rd Ach w FF v0_1 a0.e.OS) (hr0_3 : Rd Ty.u8 w FF v0_3 a0.code) (H : Akz a0 a1 a2 = some r) :
    Calls prog 135 #[jP g0, jI a1, .agg ⟨(jI a2.Locals :: jI a2.Height :: XK a2.Slots)⟩] w (Ret fun u_ w_ => ∃ u0 u1 u2 : Value, u_ = jI r.1 ∧ Adc Hw v0_0 a0.e.Classes u0 r.2.e.Classes ∧ Adc Ach v0_1 a0.e.OS u1 r.2.e.OS ∧ Adc Ty.u8 v0_3 a0.code u2 r.2.code ∧ SL w FF w_ [Cw g0 154 [u0, u1, jI r.2.e.Fn, u2, .map (some g0_4), .map (some g0_5), .map (some g0_6), jI r.2.Ade], Mp (Value.int .i64) (fun x : B0 => Value.agg ⟨(jI x.Locals :: jI x.Height :: XK x.Slots)⟩) g0_4 r.2.frames, Mp (Value.int .i64) (fun _ : Unit => Value.agg ⟨[]⟩) g0_5 r.2.fresh, Mp (Value.int .i64) (Value.int .i64) g0_6 r.2.taken]) := by
 have s0 : SL w FF w [Cw g0 154 [v0_0, v0_1, jI a0.e.Fn, v0_3, .map (some g0_4), .map (some g0_5), .map (some g0_6), jI a0.Ade], Mp (Value.int .i64) (fun x : B0 => Value.agg ⟨(jI x.Locals :: jI x.Height :: XK x.Slots)⟩) g0_4 a0.frames, Mp (Value.int .i64) (fun _ : Unit => Value.agg ⟨[]⟩) g0_5 a0.fresh, Mp (Value.int .i64) (Value.int .i64) g0_6 a0.taken] := SL.init w FF hst
 refine cin func135 ntmps135 2 rfl rfl rfl fun _ F0 => ?_
 unfold Akz at H
 refine Ar F0 s0 rfl rfl rfl fun g8 w9 _ F s1 => gw 8 F rfl fun _ F => Ki F s1 m1 1 rfl fun _ F => gx F (A6q (k := a1) (z0 := (⟨(0 : Int), (0 : Int), (Vector.replicate 24 (0 : UInt8))⟩ : B0)) s1 m2 underlying150 Ak2 A4j rfl rfl) 3 rfl rfl fun _ F => Af F s1 Ol rfl rfl fun g1 w0 _ F s2 => ?_
 refine O4 (ds := (jI (((Adq a0.frames a1).getD (⟨(0 : Int), (0 : Int), (Vector.replicate 24 (0 : UInt8))⟩ : B0)).Locals) :: jI (((Adq a0.frames a1).getD (⟨(0 : Int), (0 : Int), (Vector.replicate 24 (0 : UInt8))⟩ : B0)).Height) :: XK (((Adq a0.frames a1).getD (⟨(0 : Int), (0 : Int), (Vector.replicate 24 (0 : UInt8))⟩ : B0)).Slots))) F s2 rfl rfl (by simpa using Aay) (Ab rfl (Ab rfl (Abi _))) (by simp) fun w1 _ F s3 => ?_
 obtain ⟨o0, H0, R0⟩ := Aa H
 clear H
 refine gw 4 F rfl fun _ F => Acs (fun a w_ => ∃ p0 : Int × Int × (Vector UInt8 24), o0 = .inr (p0) ∧ Fr a 59 [(0, jP g0), (1, jI a1), (5, jP g8), (7, jP g1), (8, .bool ((Adq a0.frames a1).isSome))] ∧ SL w FF w_ [Cw g8 118 (jI p0.1 :: jI p0.2.1 :: XK p0.2.2), Cw g1 118 (jI (((Adq a0.frames a1).getD (⟨(0 : Int), (0 : Int), (Vector.replicate 24 (0 : UInt8))⟩ : B0)).Locals) :: jI (((Adq a0.frames a1).getD (⟨(0 : Int), (0 : Int), (Vector.replicate 24 (0 : UInt8))⟩ : B0)).Height) :: XK (((Adq a0.frames a1).getD (⟨(0 : Int), (0 : Int), (Vector.replicate 24 (0 : UInt8))⟩ : B0)).Slots)), Cw g0 154 [v0_0, v0_1, jI a0.e.Fn, v0_3, .map (some g0_4), .map (some g0_5), .map (some g0_6), jI a0.Ade], Mp (Value.int .i64) (fun x : B0 => Value.agg ⟨(jI x.Locals :: jI x.Height :: XK x.Slots)⟩) g0_4 a0.frames, Mp (Value.int .i64) (fun _ : Unit => Value.agg ⟨[]⟩) g0_5 a0.fresh, Mp (Value.int .i64) (Value.int .i64) g0_6 a0.taken]) ?_ ?_
 ·have H := H0
  refine gc 5 F rfl fun _ F => Ll F H 1 1 rfl rfl rfl (fun h0 H _ F => ?_) (fun h0 H _ F => ?_)
  ·obtain ⟨x0, h1, H⟩ := Aa H
   refine Ad4 Abj s3 ?_
   refine hq [0, 1, 2, 3, 4, 5, 6] F s3.drew (QI.ev 4 rfl <| QI.ld m2 rfl <| QI.op rfl (fun _ hC => Av Aa9 rfl (hC.Afh m0 (o := 0) (ds := (jI (((Adq a0.frames a1).getD (⟨(0 : Int), (0 : Int), (Vector.replicate 24 (0 : UInt8))⟩ : B0)).Locals) :: jI (((Adq a0.frames a1).getD (⟨(0 : Int), (0 : Int), (Vector.replicate 24 (0 : UInt8))⟩ : B0)).Height) :: XK (((Adq a0.frames a1).getD (⟨(0 : Int), (0 : Int), (Vector.replicate 24 (0 : UInt8))⟩ : B0)).Slots))) (Al8 (pre := []) rfl rfl)) (by simp)) rfl <| QI.op rfl (fun _ hC => Av Aa9 rfl (hC.Afh m1 (o := 0) (ds := (jI a2.Locals :: jI a2.Height :: XK a2.Slots)) (Al8 (pre := []) rfl rfl)) (by simp)) rfl <| QI.nil) (by kernel_rfl) fun _ F => ?_
   refine Aes [0, 1, 2, 3, 4, 5, 6, 7, 8, 9, 10, 11, 12] (fun a w_ => ∃ g2 : Nat, Fr a 59 [(0, jP g0), (1, jI a1), (5, jP g8), (7, jP g1), (8, .bool ((Adq a0.frames a1).isSome)), (9, jP g2), (31, jI x0.2)] ∧ SL w FF w_ [Cw g1 118 (jI (((Adq a0.frames a1).getD (⟨(0 : Int), (0 : Int), (Vector.replicate 24 (0 : UInt8))⟩ : B0)).Locals) :: jI (((Adq a0.frames a1).getD (⟨(0 : Int), (0 : Int), (Vector.replicate 24 (0 : UInt8))⟩ : B0)).Height) :: XK (((Adq a0.frames a1).getD (⟨(0 : Int), (0 : Int), (Vector.replicate 24 (0 : UInt8))⟩ : B0)).Slots)), Cw g8 118 (jI a2.Locals :: jI a2.Height :: XK a2.Slots), Cw g0 154 [v0_0, v0_1, jI a0.e.Fn, v0_3, .map (some g0_4), .map (some g0_5), .map (some g0_6), jI a0.Ade], Mp (Value.int .i64) (fun x : B0 => Value.agg ⟨(jI x.Locals :: jI x.Height :: XK x.Slots)⟩) g0_4 a0.frames, Mp (Value.int .i64) (fun _ : Unit => Value.agg ⟨[]⟩) g0_5 a0.fresh, Mp (Value.int .i64) (Value.int .i64) g0_6 a0.taken, Cw g2 118 (jI x0.1.Locals :: jI x0.1.Height :: XK x0.1.Slots)]) ?_ fun hD0 => ?_
   ·rintro a w_ ⟨g2, F, s4⟩
    refine hq [13] F s4.f6.drop (QI.ev 1 rfl <| QI.nil) (by kernel_rfl) fun _ F => ?_
    refine Aew (by kernel_rfl) ?_
    refine ge 8 F rfl fun _ F => Ll F H 6 3 rfl rfl rfl (fun h2 H _ F => ?_) (fun h2 H _ F => ?_)
    ·refine Ay F s4.f2 rfl rfl Anj rfl rfl rfl fun w2 _ F s5 => ?_
     cases H
     replace H := R0
     try dsimp only at H
     cases H
     exact gw 12 F rfl fun _ F => rt F ⟨v0_0, v0_1, v0_3, rfl, Adc.refl, Adc.refl, Adc.refl, s5.f1.drop.f1.drop.f4.drop⟩
    refine gla F s4 m6 0 rfl fun _ F => ?_
    refine O4 (ds := (jI x0.1.Locals :: jI x0.1.Height :: XK x0.1.Slots)) F s4.f1 rfl rfl (by simpa using Aay) (Ab rfl (Ab rfl (Abi _))) (by simp) fun w3 _ F s6 => ?_
    cases H
    exact gw 1 F rfl fun _ F => ⟨_, rfl, F.sb, s6.f6.drop⟩
   refine ho2 7 11 rfl rfl (by kernel_rfl) ?_ ?_
   ·refine gca F s3.drew (Ay5 (hr0_0.M3 s3.drew) h1) 1 rfl rfl rfl rfl fun w4 _ F s7 => ⟨s7, ?_⟩
    refine hq [8, 9, 10] F s7 (QI.ev 3 rfl <| QI.nil) (by kernel_rfl) fun _ F => ?_
    refine ho 11 rfl (by kernel_rfl) ?_
    refine Af F s7 Ol rfl rfl fun g2 w5 _ F s8 => gw 1 F rfl fun _ F => ⟨s8.drop, ?_⟩
    refine ho 12 rfl (by kernel_rfl) ?_
    refine O4 (ds := (jI x0.1.Locals :: jI x0.1.Height :: XK x0.1.Slots)) F s8 rfl rfl (by simpa using Aay) (Ab rfl (Ab rfl (Abi _))) (by simp) fun w6 _ F s9 => ?_
    exact gw 1 F rfl fun _ F => ⟨s9.drop, hto hD0 ⟨g2, F.sb, s9.f6.f6.f6.f6.f6.f6⟩ (by kernel_rfl)⟩
   refine Af F s3.drew Ol rfl rfl fun g2 w5 _ F s8 => gw 1 F rfl fun _ F => ⟨s8.drop, ?_⟩
   refine ho 7 rfl (by kernel_rfl) ?_
   refine gca F s8 (Ay5 (hr0_0.M3 s8) h1) 1 rfl rfl rfl rfl fun w4 _ F s7 => ⟨s7.drop, ?_⟩
   refine hq [8, 9, 10] F s7.drop (QI.ev 3 rfl <| QI.nil) (by kernel_rfl) fun _ F => ?_
   refine ho 12 rfl (by kernel_rfl) ?_
   refine O4 (ds := (jI x0.1.Locals :: jI x0.1.Height :: XK x0.1.Slots)) F s7 rfl rfl (by simpa using Aay) (Ab rfl (Ab rfl (Abi _))) (by simp) fun w6 _ F s9 => ?_
   exact gw 1 F rfl fun _ F => ⟨s9.drop, hto hD0 ⟨g2, F.sb, s9.f6.f6.f6.f6.f6.f6⟩ (by kernel_rfl)⟩
  cases H
  exact ⟨_, rfl, F.sb, s3.f5.f5.f5.f5.f4.f5⟩
 intro _ w7 hJ
 obtain ⟨p0, rfl, F, sa⟩ := hJ
 have H := R0
 clear R0 H0
 try dsimp only at H
 refine ge 7 F rfl fun _ F => bsp 42 F H (fun h3 H F => ?_) (fun h3 H F => ?_)
 ·refine gw 8 F rfl fun _ F => Ad4 Abj sa.f3.drop ?_
  refine hq [0, 1, 2, 3, 4, 5] F sa.drew.f3.drop (QI.ev 3 rfl <| QI.ld m2 rfl <| QI.ev 1 rfl <| QI.op rfl (fun _ hC => Av Aa9 rfl (hC.Afh m0 (o := 0) (ds := (jI p0.1 :: jI p0.2.1 :: XK p0.2.2)) (Al8 (pre := []) rfl rfl)) (by simp)) rfl <| QI.nil) (by kernel_rfl) fun _ F => ?_
  refine ho 6 rfl (by kernel_rfl) ?_
  refine Aoj (k := a1) (u := (⟨p0.1, p0.2.1, p0.2.2⟩ : B0)) F sa.drew.f3 underlying150 Ak2 rfl rfl rfl fun w8 _ F sc => gw 1 F rfl fun _ F => ⟨sc.drop, ?_⟩
  refine Aew (by kernel_rfl) ?_
  refine ge 5 F rfl fun _ F => Ki F sc m3 1 rfl fun _ F => gx F (Al (vs := []) Azl A4n rfl (cs := []) (rfl)) 0 rfl rfl fun _ F => Aoj (k := a1) (u := ()) F sc.f4 underlying151 Ak2 rfl rfl rfl fun wa _ F sd => ?_
  cases H
  exact gw 8 F rfl fun _ F => rt F ⟨v0_0, v0_1, v0_3, rfl, Adc.refl, Adc.refl, Adc.refl, sd.f2.drop.f2.drop.f3.f1.f2.f3⟩
 refine Lm F rfl rfl <| gla F sa m0 0 rfl fun _ F => Lm F rfl rfl <| gla F sa m1 0 rfl fun _ F => Lm F rfl rfl ?_
 refine gx F (A21 (xs := (jI p0.1 :: jI p0.2.1 :: XK p0.2.2)) (ys := (jI (((Adq a0.frames a1).getD (⟨(0 : Int), (0 : Int), (Vector.replicate 24 (0 : UInt8))⟩ : B0)).Locals) :: jI (((Adq a0.frames a1).getD (⟨(0 : Int), (0 : Int), (Vector.replicate 24 (0 : UInt8))⟩ : B0)).Height) :: XK (((Adq a0.frames a1).getD (⟨(0 : Int), (0 : Int), (Vector.replicate 24 (0 : UInt8))⟩ : B0)).Slots))) Au6 (by decide) rfl rfl (A3g Au6 A4u (Bi rfl (Bj Acx rfl) (Bj Acx rfl) (EqAt.up (j := 2) (Auu underlying3) (by decide)) (Bi rfl (Bj Acx rfl) (Bj Acx rfl) (EqAt.up (j := 2) (Auu underlying3) (by decide)) (Bi rfl (Ay7 Arc (Aw0 (pre := [jI p0.1, jI p0.2.1]) rfl rfl) (by simp)) (Ay7 Arc (Aw0 (pre := [jI (((Adq a0.frames a1).getD (⟨(0 : Int), (0 : Int), (Vector.replicate 24 (0 : UInt8))⟩ : B0)).Locals), jI (((Adq a0.frames a1).getD (⟨(0 : Int), (0 : Int), (Vector.replicate 24 (0 : UInt8))⟩ : B0)).Height)]) rfl rfl) (by simp)) (EqAt.up (j := 2) (A4e Ae9 underlying48 A6v) (by decide)) A3f))))) 3 rfl rfl fun _ F => ?_
 refine Ll F H 1 8 rfl rfl rfl (fun h4 H _ F => ?_) (fun h4 H _ F => ?_)
 ·refine Ad4 Abj sa.f3.drop ?_
  refine hq [0, 1, 2, 3, 4, 5] F sa.drew.f3.drop (QI.ev 3 rfl <| QI.ld m2 rfl <| QI.ev 1 rfl <| QI.op rfl (fun _ hC => Av Aa9 rfl (hC.Afh m0 (o := 0) (ds := (jI p0.1 :: jI p0.2.1 :: XK p0.2.2)) (Al8 (pre := []) rfl rfl)) (by simp)) rfl <| QI.nil) (by kernel_rfl) fun _ F => ?_
  refine ho 6 rfl (by kernel_rfl) ?_
  refine Aoj (k := a1) (u := (⟨p0.1, p0.2.1, p0.2.2⟩ : B0)) F sa.drew.f3 underlying150 Ak2 rfl rfl rfl fun wb _ F se => gw 1 F rfl fun _ F => ⟨se.drop, ?_⟩
  refine Aew (by kernel_rfl) ?_
  refine ge 5 F rfl fun _ F => Ki F se m3 1 rfl fun _ F => gx F (Al (vs := []) Azl A4n rfl (cs := []) (rfl)) 0 rfl rfl fun _ F => Aoj (k := a1) (u := ()) F se.f4 underlying151 Ak2 rfl rfl rfl fun wc _ F sf => ?_
  cases H
  exact gw 8 F rfl fun _ F => rt F ⟨v0_0, v0_1, v0_3, rfl, Adc.refl, Adc.refl, Adc.refl, sf.f2.drop.f2.drop.f3.f1.f2.f3⟩
 cases H
 exact rt F ⟨v0_0, v0_1, v0_3, rfl, Adc.refl, Adc.refl, Adc.refl, sa.drop.drop⟩
theorem Awb {w : World} {FF : List Nat} {g1 : Nat} {v1_0 : Value} {a0 : Int} {a1 : List UInt8} {r : Int × (List UInt8)} (hst : Acd [Cw g1 42 [v1_0]] w FF) (hr1_0 : Rd Ty.u8 w FF v1_0 a1) (H : Ama a0 a1 = some r) :
    Calls prog 75 #[jI a0, jP g1] w (Ret fun u_ w_ => ∃ u0 : Value, u_ = jI r.1 ∧ Adc Ty.u8 v1_0 a1 u0 r.2 ∧ SL w FF w_ [Cw g1 42 [u0]]) := by
 have s0 : SL w FF w [Cw g1 42 [v1_0]] := SL.init w FF hst
 refine cin func75 ntmps75 13 rfl rfl rfl fun _ F4 => ?_
 unfold Ama at H
 obtain ⟨x0, h0, H⟩ := Aa H
 obtain ⟨v0, h1, h2⟩ := A96 (rdL hr1_0 s0) Agm rfl h0 none (some a0) (.inr ⟨rfl, rfl⟩) (.inl rfl)
 have h3 := Adc.refl.trans h2
 have h4 := Adc.rd h2 hr1_0
 refine Ki F4 s0 m0 1 rfl fun _ F => gx F (h1 _ _ _ _ _ .i64 .i64 _ _ _ _ _ rfl trivial rfl) 0 rfl rfl fun _ F => ?_
 obtain ⟨o0, H0, R0⟩ := Aa H
 clear H
 refine gx F (Ah rfl underlying42 (fR h4 s0)) 3 rfl rfl fun _ F => Acs (fun a w_ => Fr a 30 [(0, jI a0), (1, jP g1), (4, jI o0)] ∧ SL w FF w_ [Cw g1 42 [v1_0]]) ?_ ?_
 ·have H := H0
  refine gc 1 F rfl fun _ F => lpk (Ai0 x0) (fun s1 a w_ => Fr a 30 [(0, jI a0), (1, jP g1), (4, jI s1.1), (9, v0), (10, jI (x0.length : Int)), (11, jI s1.2)] ∧ SL w FF w_ [Cw g1 42 [v1_0]]) H ?_ ?_
  ·exact ⟨F.sb, s0⟩
  intro s1 _ w0 h5 o1 H hr
  obtain ⟨F, s2⟩ := h5
  replace H : Ai0 x0 s1 = some o1 := H
  unfold Ai0 at H
  refine gc 6 F rfl fun _ F => Ll F H 6 4 rfl rfl rfl (fun h6 H _ F => ?_) (fun h6 H _ F => ?_)
  ·obtain ⟨x1, h7, H⟩ := Aa H
   obtain ⟨a2, h8, h9⟩ := Alr Flat.u8 (rdL h4 s2) Agm rfl h7
   refine gi F h8 0 rfl fun _ F => gx F (An Ase rfl (Abe.at_ h9 (o := 0) rfl)) 5 rfl rfl fun _ F => gx F (AMz rfl rfl rfl) 1 rfl rfl fun _ F => gx F (Arl rfl underlying5 underlying3) 0 rfl rfl fun _ F => ?_
   cases H
   exact gx F (AOt rfl rfl) 8 rfl rfl fun _ F => ⟨_, rfl, F.sb, s2⟩
  cases H
  obtain rfl := hr _ rfl
  exact ⟨F.sb, s2⟩
 intro _ w1 hJ
 obtain ⟨F, s3⟩ := hJ
 have H := R0
 clear R0 H0
 obtain ⟨x2, ha, H⟩ := Aa H
 obtain ⟨v1, hb, hc⟩ := A96 (rdL hr1_0 s3) Agm rfl ha (some a0) none (.inl rfl) (.inr ⟨rfl, rfl⟩)
 have hd := Adc.refl.trans hc
 have he := Adc.rd hc hr1_0
 refine ge 3 F rfl fun _ F => Ki F s3 m0 1 rfl fun _ F => gx F (hb _ _ _ _ _ .i64 .i64 _ _ _ _ _ rfl rfl trivial) 0 rfl rfl fun _ F => Ay F s3 rfl rfl A64 (Ag (fR he s3)) (Aq (fR he s3)) rfl fun w2 _ F s4 => gw 9 F rfl fun _ F => Ll F H 3 9 rfl rfl rfl (fun hf H _ F => ?_) (fun hf H _ F => ?_)
 ·refine gx F (A20 rfl underlying3 underlying21) 0 rfl rfl fun _ F => ?_
  cases H
  exact gx F (A20 rfl underlying21 underlying3) 5 rfl rfl fun _ F => rt F ⟨v1, rfl, hd, s4⟩
 cases H
 exact rt F ⟨v1, rfl, hd, s4⟩
theorem A0r {w : World} {v0 : Value} {a0 : List UInt8} {a1 : Int} {r : CO × Int} (hr0 : Rd Ty.u8 w [] v0 a0) (H : Am4 a0 a1 = some r) :
    Calls prog 48 #[v0, jI a1] w (Ret fun u_ w_ => u_ = .tuple ⟨[.agg ⟨[jI r.1.At, jU (r.1.Op.toNat : Int), jI r.1.A, jI r.1.B]⟩, jI r.2]⟩ ∧ SL w [] w_ []) := by
 have s0 : SL w [] w [] := SL.Abr w
 refine cin func48 ntmps48 2 rfl rfl rfl fun _ F0 => ?_
 unfold Am4 at H
 refine Af F0 s0 Agp rfl rfl fun g8 w9 _ F s1 => gw 5 F rfl fun _ F => gx F (Al (vs := []) Agp A3b rfl (cs := [jI 0, jU 0, jI 0, jI 0]) (rfl)) 0 rfl rfl fun _ F => Af F s1 Agp rfl rfl fun g0 w0 _ F s2 => Ai F s2 rfl rfl Af1 (Ab rfl (Ab rfl (Ab rfl (Ab rfl Ap)))) (Ac rfl) fun w1 _ F s3 => gw 9 F rfl fun _ F => bsp 16 F H (fun h0 H F => ?_) (fun h0 H F => ?_)
 ·refine gw 11 F rfl fun _ F => Ki F s3 m0 0 rfl fun _ F => Ai F s3.f1 rfl rfl Af1 (Ab rfl (Ab rfl (Ab rfl (Ab rfl Ap)))) (Ac rfl) fun w2 _ F s4 => ?_
  cases H
  refine gw 6 F rfl fun _ F => ?_
  refine Ak (rs := [.cell 4 79, .tmp 5]) (vs := [.agg ⟨[jI 0, jU 0, jI 0, jI 0]⟩, jI 1]) F (by rfl) ⟨_, _, rfl, Am s4 m0 rfl Agw rfl, _, _, rfl, Ao rfl, rfl⟩ ⟨_, rfl, ⟨rfl, s4.drop.drop⟩⟩
 refine gw 2 F rfl fun _ F => Lm F rfl rfl <| gx F (Ah rfl underlying42 (fR hr0 s3)) 5 rfl rfl fun _ F => Ll F H 2 4 rfl rfl rfl (fun h1 H _ F => ?_) (fun h1 H _ F => ?_)
 ·refine Ki F s3 m0 0 rfl fun _ F => Ai F s3.f1 rfl rfl Af1 (Ab rfl (Ab rfl (Ab rfl (Ab rfl Ap)))) (Ac rfl) fun w3 _ F s5 => ?_
  cases H
  refine gw 6 F rfl fun _ F => ?_
  refine Ak (rs := [.cell 4 79, .tmp 5]) (vs := [.agg ⟨[jI 0, jU 0, jI 0, jI 0]⟩, jI 1]) F (by rfl) ⟨_, _, rfl, Am s5 m0 rfl Agw rfl, _, _, rfl, Ao rfl, rfl⟩ ⟨_, rfl, ⟨rfl, s5.drop.drop⟩⟩
 refine gx F (Ah rfl underlying42 (fR hr0 s3)) 4 rfl rfl fun _ F => Ll F H 2 4 rfl rfl rfl (fun h2 H _ F => ?_) (fun h2 H _ F => ?_)
 ·refine Ki F s3 m0 0 rfl fun _ F => Ai F s3.f1 rfl rfl Af1 (Ab rfl (Ab rfl (Ab rfl (Ab rfl Ap)))) (Ac rfl) fun w4 _ F s6 => ?_
  cases H
  refine gw 6 F rfl fun _ F => ?_
  refine Ak (rs := [.cell 4 79, .tmp 5]) (vs := [.agg ⟨[jI 0, jU 0, jI 0, jI 0]⟩, jI 2]) F (by rfl) ⟨_, _, rfl, Am s6 m0 rfl Agw rfl, _, _, rfl, Ao rfl, rfl⟩ ⟨_, rfl, ⟨rfl, s6.drop.drop⟩⟩
 obtain ⟨x0, h3, H⟩ := Aa H
 obtain ⟨a2, h4, h5⟩ := Alr Flat.u8 (rdL hr0 s3) Agm rfl h3
 obtain ⟨x1, h6, H⟩ := Aa H
 refine gi F h4 0 rfl fun _ F => gx F (An Ase rfl (Abe.at_ h5 (o := 0) rfl)) 0 rfl rfl fun _ F => gca F s3 (Aos h6) 4 rfl rfl rfl rfl fun w5 _ F s7 => Ll F H 2 3 rfl rfl rfl (fun h7 H _ F => ?_) (fun h7 H _ F => ?_)
 ·refine Ki F s7 m0 0 rfl fun _ F => Ai F s7.f1 rfl rfl Af1 (Ab rfl (Ab rfl (Ab rfl (Ab rfl Ap)))) (Ac rfl) fun w6 _ F s8 => ?_
  cases H
  refine gw 6 F rfl fun _ F => ?_
  refine Ak (rs := [.cell 4 79, .tmp 5]) (vs := [.agg ⟨[jI 0, jU 0, jI 0, jI 0]⟩, jI 40]) F (by rfl) ⟨_, _, rfl, Am s8 m0 rfl Agw rfl, _, _, rfl, Ao rfl, rfl⟩ ⟨_, rfl, ⟨rfl, s8.drop.drop⟩⟩
 obtain ⟨x2, h8, H⟩ := Aa H
 obtain ⟨a3, h9, ha⟩ := Alr Flat.u8 (rdL hr0 s7) Agm rfl h8
 obtain ⟨x3, hb, H⟩ := Aa H
 refine gx F (Ah rfl underlying42 (fR hr0 s7)) 4 rfl rfl fun _ F => gi F h9 0 rfl fun _ F => gx F (An Ase rfl (Abe.at_ ha (o := 0) rfl)) 0 rfl rfl fun _ F => gca F s7 (Aos hb) 4 rfl rfl rfl rfl fun w7 _ F s9 => Ll F H 2 8 rfl rfl rfl (fun hc H _ F => ?_) (fun hc H _ F => ?_)
 ·refine Ki F s9 m0 0 rfl fun _ F => Ai F s9.f1 rfl rfl Af1 (Ab rfl (Ab rfl (Ab rfl (Ab rfl Ap)))) (Ac rfl) fun w8 _ F sa => ?_
  cases H
  refine gw 6 F rfl fun _ F => ?_
  refine Ak (rs := [.cell 4 79, .tmp 5]) (vs := [.agg ⟨[jI 0, jU 0, jI 0, jI 0]⟩, jI 2]) F (by rfl) ⟨_, _, rfl, Am sa m0 rfl Agw rfl, _, _, rfl, Ao rfl, rfl⟩ ⟨_, rfl, ⟨rfl, sa.drop.drop⟩⟩
 obtain ⟨x4, hd, H⟩ := Aa H
 obtain ⟨a4, he, hf⟩ := Alr Flat.u8 (rdL hr0 s9) Agm rfl hd
 refine gi F he 0 rfl fun _ F => gx F (An Ase rfl (Abe.at_ hf (o := 0) rfl)) 0 rfl rfl fun _ F => gx F (Al (vs := [jI a1, jU (x4.toNat : Int)]) Agp A3b rfl (cs := [jI a1, jU (x4.toNat : Int), jI 0, jI 0]) (rfl)) 0 rfl rfl fun _ F => Af F s9 Agp rfl rfl fun g1 wa _ F sb => Ai F sb rfl rfl Af1 (Ab rfl (Ab rfl (Ab rfl (Ab rfl Ap)))) (Ac rfl) fun wb _ F sc => ?_
 obtain ⟨x5, hg, H⟩ := Aa H
 obtain ⟨v1, hh, hi⟩ := Rd.cut hr0 Agm rfl hg (some (wr (a1 + 1))) none (.inl rfl) (.inr ⟨rfl, rfl⟩)
 refine gw 7 F rfl fun _ F => gx F (hh _ _ _ _ _ .i64 .i64 _ _ _ _ _ rfl rfl trivial) 0 rfl rfl fun _ F => Af F sc AHa rfl rfl fun g2 wc _ F sd => Ay F sd rfl rfl A64 (Ag (fR hi sd)) (Aq (fR hi sd)) rfl fun wd _ F se => gw 4 F rfl fun _ F => ?_
 obtain ⟨x6, hj, H⟩ := Aa H
 refine gx F (Ajn (cs := [.tmp 8]) (vs := [jP g2]) rfl) 6 rfl rfl fun _ F => Ki F se m1 0 rfl fun _ F => gca F se (A0p hj) 11 rfl rfl rfl rfl fun we _ F sf => ?_
 obtain ⟨x7, hk, H⟩ := Aa H
 obtain ⟨G0, hl, hm, hn, ho⟩ := SL.open_ (ps := [Cw g2 42 [v1]]) (rest := [Cw g1 79 [jI a1, jU (x4.toNat : Int), jI 0, jI 0], Cw g0 79 [jI 0, jU 0, jI 0, jI 0], Cw g8 79 [jI 0, jU 0, jI 0, jI 0]]) sf
 refine Aky (args := [.tmp 67]) F ADh rfl rfl (Awb (a0 := x6.1) (a1 := x5) hl (hi.pass sf hm) hk) rfl fun v2 wf _ hp F => ?_
 obtain ⟨v3, rfl, hq, hr⟩ := hp
 have sg := ho _ _ hr
 have hs := Adc.rd hq hi
 refine gw 1 F rfl fun _ F => Ay F sg.f1 rfl rfl Anj rfl rfl rfl fun wg _ F sh => ?_
 obtain ⟨x8, ht, H⟩ := Aa H
 obtain ⟨G1, hu, hv, hw, hx⟩ := SL.open_ (ps := [Cw g2 42 [v3]]) (rest := [Cw g1 79 [jI a1, jU (x4.toNat : Int), jI x7.1, jI 0], Cw g0 79 [jI 0, jU 0, jI 0, jI 0], Cw g8 79 [jI 0, jU 0, jI 0, jI 0]]) sh.f1
 refine gw 6 F rfl fun _ F => ?_
 refine Aky (args := [.tmp 71]) F ADh rfl rfl (Awb (a0 := x6.2) (a1 := x7.2) hu (hs.pass sh.f1 hv) ht) rfl fun v4 wh _ hy F => ?_
 obtain ⟨v5, rfl, hz, h10⟩ := hy
 have si := hx _ _ h10
 have h11 := Adc.rd hz hs
 refine gw 1 F rfl fun _ F => Ay F si.f1 rfl rfl Anj rfl rfl rfl fun wi _ F sj => gw 6 F rfl fun _ F => Ki F sj m0 2 rfl fun _ F => bsp 77 F H (fun h12 H F => ?_) (fun h12 H F => ?_)
 ·refine gw 1 F rfl fun _ F => Lm F rfl rfl <| Ki F sj m0 4 rfl fun _ F => Ll F H 2 4 rfl rfl rfl (fun h13 H _ F => ?_) (fun h13 H _ F => ?_)
  ·refine Ki F sj m2 0 rfl fun _ F => Ai F sj.f3 rfl rfl Af1 (Ab rfl (Ab rfl (Ab rfl (Ab rfl Ap)))) (Ac rfl) fun wj _ F sk => ?_
   cases H
   refine gw 5 F rfl fun _ F => ?_
   refine Ak (rs := [.cell 4 79, .tmp 5]) (vs := [.agg ⟨[jI 0, jU 0, jI 0, jI 0]⟩, jI 5]) F (by rfl) ⟨_, _, rfl, Am sk m0 rfl Agw rfl, _, _, rfl, Ao rfl, rfl⟩ ⟨_, rfl, ⟨rfl, sk.drop.drop.drop.drop⟩⟩
  refine Ki F sj m0 0 rfl fun _ F => Ai F sj.f3 rfl rfl Af1 (Ab rfl (Ab rfl (Ab rfl (Ab rfl Ap)))) (Ac rfl) fun wk _ F sl => ?_
  cases H
  refine gw 4 F rfl fun _ F => ?_
  refine Ak (rs := [.cell 4 79, .tmp 5]) (vs := [.agg ⟨[jI a1, jU (x4.toNat : Int), jI x7.1, jI x8.1]⟩, jI 0]) F (by rfl) ⟨_, _, rfl, Am sl m0 rfl Agw rfl, _, _, rfl, Ao rfl, rfl⟩ ⟨_, rfl, ⟨rfl, sl.drop.drop.drop.drop⟩⟩
 refine gw 11 F rfl fun _ F => Ki F sj m0 0 rfl fun _ F => Ai F sj.f3 rfl rfl Af1 (Ab rfl (Ab rfl (Ab rfl (Ab rfl Ap)))) (Ac rfl) fun wl _ F sm => ?_
 cases H
 refine gw 4 F rfl fun _ F => ?_
 refine Ak (rs := [.cell 4 79, .tmp 5]) (vs := [.agg ⟨[jI a1, jU (x4.toNat : Int), jI x7.1, jI x8.1]⟩, jI 0]) F (by rfl) ⟨_, _, rfl, Am sm m0 rfl Agw rfl, _, _, rfl, Ao rfl, rfl⟩ ⟨_, rfl, ⟨rfl, sm.drop.drop.drop.drop⟩⟩
theorem A37 {w : World} {a0 : UInt8} {r : Bool} (H : Atq a0 = some r) :
    Calls prog 88 #[jU (a0.toNat : Int)] w (Ret fun u_ w_ => u_ = .bool r ∧ SL w [] w_ []) := by
 have s0 : SL w [] w [] := SL.Abr w
 refine cin func88 ntmps88 10 rfl rfl rfl fun _ F => ?_
 unfold Atq at H
 refine bsp 5 F H (fun h0 H F => ?_) (fun h0 H F => ?_)
 ·cases H
  exact gw 11 F rfl fun _ F => rt F ⟨rfl, s0⟩
 refine gw 4 F rfl fun _ F => bsp 9 F H (fun h1 H F => ?_) (fun h1 H F => ?_)
 ·cases H
  exact gw 7 F rfl fun _ F => rt F ⟨rfl, s0⟩
 cases H
 exact gw 7 F rfl fun _ F => rt F ⟨rfl, s0⟩
theorem Aw5 {w : World} {a0 : UInt8} {r : Bool} (H : Aqc a0 = some r) :
    Calls prog 89 #[jU (a0.toNat : Int)] w (Ret fun u_ w_ => u_ = .bool r ∧ SL w [] w_ []) := by
 have s0 : SL w [] w [] := SL.Abr w
 refine cin func89 ntmps89 10 rfl rfl rfl fun _ F8 => ?_
 unfold Aqc at H
 refine bsp 5 F8 H (fun hb9 H F => ?_) (fun hb9 H F => ?_)
 ·cases H
  exact gw 7 F rfl fun _ F => rt F ⟨rfl, s0⟩
 cases H
 exact gw 7 F rfl fun _ F => rt F ⟨rfl, s0⟩
theorem Ayl {w : World} {FF : List Nat} {g0 g0_4 g0_5 g0_6 : Nat} {v0_0 v0_1 v0_3 : Value} {a0 : Aae} {a1 : Int} {r : Int × Aae} (hst : Acd [Cw g0 154 [v0_0, v0_1, jI a0.e.Fn, v0_3, .map (some g0_4), .map (some g0_5), .map (some g0_6), jI a0.Ade], Mp (Value.int .i64) (fun x : B0 => Value.agg ⟨(jI x.Locals :: jI x.Height :: XK x.Slots)⟩) g0_4 a0.frames, Mp (Value.int .i64) (fun _ : Unit => Value.agg ⟨[]⟩) g0_5 a0.fresh, Mp (Value.int .i64) (Value.int .i64) g0_6 a0.taken] w FF) (hr0_0 : Rd Hw w FF v0_0 a0.e.Classes) (hr0_1 : Rd Ach w FF v0_1 a0.e.OS) (hr0_3 : Rd Ty.u8 w FF v0_3 a0.code) (H : Akp a0 a1 = some r) :
    Calls prog 105 #[jP g0, jI a1] w (Ret fun u_ w_ => ∃ u0 u1 u2 : Value, u_ = jI r.1 ∧ Adc Hw v0_0 a0.e.Classes u0 r.2.e.Classes ∧ Adc Ach v0_1 a0.e.OS u1 r.2.e.OS ∧ Adc Ty.u8 v0_3 a0.code u2 r.2.code ∧ SL w FF w_ [Cw g0 154 [u0, u1, jI r.2.e.Fn, u2, .map (some g0_4), .map (some g0_5), .map (some g0_6), jI r.2.Ade], Mp (Value.int .i64) (fun x : B0 => Value.agg ⟨(jI x.Locals :: jI x.Height :: XK x.Slots)⟩) g0_4 r.2.frames, Mp (Value.int .i64) (fun _ : Unit => Value.agg ⟨[]⟩) g0_5 r.2.fresh, Mp (Value.int .i64) (Value.int .i64) g0_6 r.2.taken]) := by
 have s0 : SL w FF w [Cw g0 154 [v0_0, v0_1, jI a0.e.Fn, v0_3, .map (some g0_4), .map (some g0_5), .map (some g0_6), jI a0.Ade], Mp (Value.int .i64) (fun x : B0 => Value.agg ⟨(jI x.Locals :: jI x.Height :: XK x.Slots)⟩) g0_4 a0.frames, Mp (Value.int .i64) (fun _ : Unit => Value.agg ⟨[]⟩) g0_5 a0.fresh, Mp (Value.int .i64) (Value.int .i64) g0_6 a0.taken] := SL.init w FF hst
 refine cin func105 ntmps105 11 rfl rfl rfl fun _ F9 => ?_
 unfold Akp at H
 refine Ay F9 s0 rfl rfl Anj rfl rfl rfl fun w0 _ F s1 => gw 9 F rfl fun _ F => Ki F s1 m0 0 rfl fun _ F => gx F (Ah rfl underlying42 (fR hr0_3 s1)) 3 rfl rfl fun _ F => Ll F H 7 7 rfl rfl rfl (fun h0 H _ F => ?_) (fun h0 H _ F => ?_)
 ·cases H
  exact rt F ⟨v0_0, v0_1, v0_3, rfl, Adc.refl, Adc.refl, Adc.refl, s1⟩
 obtain ⟨x0, h1, H⟩ := Aa H
 refine Ki F s1 m0 1 rfl fun _ F => gca F s1 (A0r (hr0_3.M3 s1) h1) 3 rfl rfl rfl rfl fun w1 _ F s2 => Af F s2 Agp rfl rfl fun g1 w2 _ F s3 => Ai F s3 rfl rfl Af1 (Ab rfl (Ab rfl (Ab rfl (Ab rfl Ap)))) (Ac rfl) fun w3 _ F s4 => gw 10 F rfl fun _ F => Ll F H 8 6 rfl rfl rfl (fun h2 H _ F => ?_) (fun h2 H _ F => ?_)
 ·cases H
  exact rt F ⟨v0_0, v0_1, v0_3, rfl, Adc.refl, Adc.refl, Adc.refl, s4.drop⟩
 obtain ⟨x1, h3, H⟩ := Aa H
 refine Ki F s4 m0 0 rfl fun _ F => ?_
 have s5 := s4.f4.f4.f4.f4
 obtain ⟨G0, h4, h5, h6, h7⟩ := SL.open_ (ps := [Cw g0 154 [v0_0, v0_1, jI a0.e.Fn, v0_3, .map (some g0_4), .map (some g0_5), .map (some g0_6), jI a1], Mp (Value.int .i64) (fun x : B0 => Value.agg ⟨(jI x.Locals :: jI x.Height :: XK x.Slots)⟩) g0_4 a0.frames, Mp (Value.int .i64) (fun _ : Unit => Value.agg ⟨[]⟩) g0_5 a0.fresh, Mp (Value.int .i64) (Value.int .i64) g0_6 a0.taken]) (rest := [Cw g1 79 [jI x0.1.At, jU (x0.1.Op.toNat : Int), jI x0.1.A, jI x0.1.B]]) s5
 refine std F (Ay9 (a0 := (⟨(⟨a0.e.Classes, a0.e.OS, a0.e.Fn⟩ : GG), a0.code, a0.frames, a0.fresh, a0.taken, a1⟩ : Aae)) h4 (hr0_0.pass s5 h5) (hr0_1.pass s5 h5) (hr0_3.pass s5 h5) h3) fun v0 w4 _ h8 F => ?_
 obtain ⟨v1, v2, v3, rfl, h9, ha, hb, hc⟩ := h8
 have s6 := h7 _ _ hc
 have hd := Adc.rd h9 hr0_0
 have he := Adc.trans Adc.refl h9
 have hf := Adc.rd ha hr0_1
 have hg := Adc.trans Adc.refl ha
 have hh := Adc.rd hb hr0_3
 have hi := Adc.trans Adc.refl hb
 refine gw 3 F rfl fun _ F => Ll F H 7 3 rfl rfl rfl (fun hj H _ F => ?_) (fun hj H _ F => ?_)
 ·cases H
  exact rt F ⟨v1, v2, v3, rfl, he, hg, hi, s6.f4.drop⟩
 obtain ⟨x2, hk, H⟩ := Aa H
 refine Ad4 Abj s6 ?_
 have s7 := s6.drew
 refine hq [0, 1, 2, 3, 4, 5, 6, 7, 8, 9, 10] F s7 (QI.ev 3 rfl <| QI.op rfl (fun _ hC => Av Art rfl (hC.Afh m0 (o := 0) (ds := [v1, v2, jI x1.2.e.Fn]) (Aw8 _ rfl)) rfl) rfl <| QI.ev 3 rfl <| QI.ld m0 rfl <| QI.ev 1 rfl <| QI.op rfl (fun _ hC => A7z (k := a1) (z0 := (⟨(0 : Int), (0 : Int), (Vector.replicate 24 (0 : UInt8))⟩ : B0)) hC m1 underlying150 Ak2 A4j rfl rfl) rfl <| QI.ld m4 rfl <| QI.nil) (by kernel_rfl) fun _ F => ?_
 refine Aes [0, 1, 2, 3, 4, 5, 6, 7, 8, 9, 10, 11, 12, 13, 14, 15, 16] (fun a w_ => ∃ g2 : Nat, Fr a 111 [(0, jP g0), (1, jI a1), (5, jP g1), (6, jI x0.2), (7, jP g2), (54, jI x2.2)] ∧ SL w FF w_ [Cw g0 154 [v1, v2, jI x1.2.e.Fn, v3, .map (some g0_4), .map (some g0_5), .map (some g0_6), jI x1.2.Ade], Mp (Value.int .i64) (fun x : B0 => Value.agg ⟨(jI x.Locals :: jI x.Height :: XK x.Slots)⟩) g0_4 x1.2.frames, Mp (Value.int .i64) (fun _ : Unit => Value.agg ⟨[]⟩) g0_5 x1.2.fresh, Mp (Value.int .i64) (Value.int .i64) g0_6 x1.2.taken, Cw g1 79 [jI x0.1.At, jU (x0.1.Op.toNat : Int), jI x0.1.A, jI x0.1.B], Cw g2 118 (jI x2.1.Locals :: jI x2.1.Height :: XK x2.1.Slots)]) ?_ fun hD0 => ?_
 ·rintro a w_ ⟨g2, F, s8⟩
  refine hq [17] F s8.f5.drop (QI.ev 1 rfl <| QI.nil) (by kernel_rfl) fun _ F => ?_
  refine Aew (by kernel_rfl) ?_
  refine ge 8 F rfl fun _ F => Ll F H 8 11 rfl rfl rfl (fun hl H _ F => ?_) (fun hl H _ F => ?_)
  ·cases H
   exact rt F ⟨v1, v2, v3, rfl, he, hg, hi, s8.f4.drop.f4.drop⟩
  obtain ⟨x3, hm, H⟩ := Aa H
  refine Ki F s8 m4 0 rfl fun _ F => gca F s8 (Aos hm) 5 rfl rfl rfl rfl fun w5 _ F s9 => ?_
  obtain ⟨o0, H0, R0⟩ := Aa H
  clear H
  refine Acs (fun a w_ => ∃ p0 : (List Int), o0 = .inr (p0) ∧ ∃ v4 : Value, Fr a 111 [(0, jP g0), (5, jP g1), (7, jP g2), (8, v4), (9, jI (wr (a1 + x3)))] ∧ SL w FF w_ [Cw g0 154 [v1, v2, jI x1.2.e.Fn, v3, .map (some g0_4), .map (some g0_5), .map (some g0_6), jI x1.2.Ade], Mp (Value.int .i64) (fun x : B0 => Value.agg ⟨(jI x.Locals :: jI x.Height :: XK x.Slots)⟩) g0_4 x1.2.frames, Mp (Value.int .i64) (fun _ : Unit => Value.agg ⟨[]⟩) g0_5 x1.2.fresh, Mp (Value.int .i64) (Value.int .i64) g0_6 x1.2.taken, Cw g1 79 [jI x0.1.At, jU (x0.1.Op.toNat : Int), jI x0.1.A, jI x0.1.B], Cw g2 118 (jI x2.1.Locals :: jI x2.1.Height :: XK x2.1.Slots), Sl (Ty.int .i64) v4 p0]) ?_ ?_
  ·have H := H0
   obtain ⟨x4, hn, H⟩ := Aa H
   refine gc 3 F rfl fun _ F => Ki F s9 m4 0 rfl fun _ F => gca F s9 (Aw5 hn) 2 rfl rfl rfl rfl fun w6 _ F sa => Ll F H 2 1 rfl rfl rfl (fun hp H _ F => ?_) (fun hp H _ F => ?_)
   ·refine Alj Abj sa F (QR.ev 1 rfl <| QR.ld m4 rfl <| QR.ev 3 rfl <| QR.ld m0 rfl <| QR.qo (fun _ hC => Ah rfl underlying42 (Ao3 (rdL hh hC))) rfl <| QR.ev 1 rfl <| Bb) fun w7 _ sc F => ge 1 F rfl fun _ F => Ll F H 9 5 rfl rfl rfl (fun hs H _ F => ?_) (fun hs H _ F => ?_)
    ·cases H
     replace H := R0
     try dsimp only at H
     cases H
     exact rt F ⟨v1, v2, v3, rfl, he, hg, hi, sc.f4.drop.f4.drop⟩
    refine Ki F sc m4 0 rfl fun _ F => ?_
    refine Ae (parts := [(0, .tmp 76)]) (Flat.int .i64) ([x0.1.A] : List Int) F sc Abt rfl (by decide) rfl rfl rfl (by simp [Value.cells]) rfl rfl rfl fun v5 w8 _ F sd => ?_
    obtain ⟨x5, ht, H⟩ := Aa H
    have se := (SL.Ac3 (T := (Ty.int .i64)) sd)
    obtain ⟨_, hr_⟩ := (se.Ac5 m1)
    refine Aw (Flat.int .i64) F se Abt rfl rfl rfl rfl hr_ rfl rfl ht rfl fun v6 w9 _ F sf => ?_
    have s580' := sf.f1.drop
    cases H
    exact gw 2 F rfl fun _ F => ⟨_, rfl, v6, F.sb, s580'.f6.f6.f6.f6.f6.f6⟩
   cases H
   exact ⟨_, rfl, (.slice none 0 0), F.sb, (SL.Ac3 (T := (Ty.int .i64)) sa).f6.f6.f6.f6.f6.f6⟩
  intro _ wa hJ
  obtain ⟨p0, rfl, v4, F, sg⟩ := hJ
  have H := R0
  clear R0 H0
  try dsimp only at H
  obtain ⟨o1, H1, R1⟩ := Aa H
  clear H
  refine ge 2 F rfl fun _ F => Acs (fun a w_ => ∃ p1 : (List Int), o1 = .inr (p1) ∧ ∃ v7 : Value, Fr a 111 [(0, jP g0), (7, jP g2), (8, v7)] ∧ SL w FF w_ [Cw g0 154 [v1, v2, jI x1.2.e.Fn, v3, .map (some g0_4), .map (some g0_5), .map (some g0_6), jI x1.2.Ade], Mp (Value.int .i64) (fun x : B0 => Value.agg ⟨(jI x.Locals :: jI x.Height :: XK x.Slots)⟩) g0_4 x1.2.frames, Mp (Value.int .i64) (fun _ : Unit => Value.agg ⟨[]⟩) g0_5 x1.2.fresh, Mp (Value.int .i64) (Value.int .i64) g0_6 x1.2.taken, Cw g2 118 (jI x2.1.Locals :: jI x2.1.Height :: XK x2.1.Slots), Sl (Ty.int .i64) v7 p1]) ?_ ?_
  ·have H := H1
   obtain ⟨x6, hu, H⟩ := Aa H
   refine gc 3 F rfl fun _ F => Ki F sg m4 0 rfl fun _ F => gca F sg (A37 hu) 3 rfl rfl rfl rfl fun wb _ F sh => Ll F H 7 1 rfl rfl rfl (fun hv H _ F => ?_) (fun hv H _ F => ?_)
   ·refine Ki F sh m0 0 rfl fun _ F => gx F (Ah rfl underlying42 (fR hh sh)) 3 rfl rfl fun _ F => Ll F H 9 5 rfl rfl rfl (fun hw H _ F => ?_) (fun hw H _ F => ?_)
    ·cases H
     replace H := R1
     try dsimp only at H
     cases H
     exact rt F ⟨v1, v2, v3, rfl, he, hg, hi, sh.f4.drop.f4.drop.f4.drop⟩
    refine Ae (parts := [(0, .tmp 91)]) (Flat.int .i64) ([wr (a1 + x3)] : List Int) F sh Abt rfl (by decide) rfl rfl rfl (by simp [Value.cells]) rfl rfl rfl fun v8 wc _ F si => ?_
    obtain ⟨x7, hx, H⟩ := Aa H
    obtain ⟨_, hr_⟩ := (si.f7.Ac5 m1)
    refine Aw (Flat.int .i64) F si.f7 Abt rfl rfl rfl rfl hr_ rfl rfl hx rfl fun v9 wd _ F sj => ?_
    have s854' := sj.f1.drop
    cases H
    exact gw 2 F rfl fun _ F => ⟨_, rfl, v9, F.sb, s854'.f5.drop.f5.f5.f5.f5.f5⟩
   cases H
   exact ⟨_, rfl, v4, F.sb, sh.f4.drop⟩
  intro _ we hJ
  obtain ⟨p1, rfl, v7, F, sk⟩ := hJ
  have H := R1
  clear R1 H1
  try dsimp only at H
  obtain ⟨x8, hy, H⟩ := Aa H
  obtain ⟨G1, hz, h10, h11, h12⟩ := SL.open_ (ps := [Sl (Ty.int .i64) v7 p1]) (rest := [Cw g0 154 [v1, v2, jI x1.2.e.Fn, v3, .map (some g0_4), .map (some g0_5), .map (some g0_6), jI x1.2.Ade], Mp (Value.int .i64) (fun x : B0 => Value.agg ⟨(jI x.Locals :: jI x.Height :: XK x.Slots)⟩) g0_4 x1.2.frames, Mp (Value.int .i64) (fun _ : Unit => Value.agg ⟨[]⟩) g0_5 x1.2.fresh, Mp (Value.int .i64) (Value.int .i64) g0_6 x1.2.taken, Cw g2 118 (jI x2.1.Locals :: jI x2.1.Height :: XK x2.1.Slots)]) sk.f5
  refine ge 4 F rfl fun _ F => As (args := [.tmp 94]) F A2z rfl (A5e Ax8 hz hy) rfl fun va wf _ h13 F => ?_
  obtain ⟨rfl, h14⟩ := h13
  have sl := h12 _ _ h14
  obtain ⟨x9, h15, H⟩ := Aa H
  obtain ⟨G2, h16, h17, h18, h19⟩ := SL.open_ (ps := [Sl (Ty.int .i64) v7 x8]) (rest := [Cw g0 154 [v1, v2, jI x1.2.e.Fn, v3, .map (some g0_4), .map (some g0_5), .map (some g0_6), jI x1.2.Ade], Mp (Value.int .i64) (fun x : B0 => Value.agg ⟨(jI x.Locals :: jI x.Height :: XK x.Slots)⟩) g0_4 x1.2.frames, Mp (Value.int .i64) (fun _ : Unit => Value.agg ⟨[]⟩) g0_5 x1.2.fresh, Mp (Value.int .i64) (Value.int .i64) g0_6 x1.2.taken, Cw g2 118 (jI x2.1.Locals :: jI x2.1.Height :: XK x2.1.Slots)]) sl
  refine gw 6 F rfl fun _ F => As (args := [.tmp 96]) F ACn rfl (A31 A00 h16 h15) rfl fun vb wg _ h1a F => ?_
  have sm := h19 _ _ h1a
  obtain ⟨o2, H2, R2⟩ := Aa H
  clear H
  refine gx F (Ah rfl underlying28 (fO sm m0)) 3 rfl rfl fun _ F => Acs (fun a w_ => ∃ p2 : (List BV) × (List Aa6) × Int × (List UInt8) × Int × (List (Int × B0)) × (List (Int × Unit)) × (List (Int × Int)), o2 = .inr (p2) ∧ ∃ vc vd ve : Value, Rd Hw w FF vc p2.1 ∧ Rd Ach w FF vd p2.2.1 ∧ Rd Ty.u8 w FF ve p2.2.2.2.1 ∧ Adc Hw v0_0 a0.e.Classes vc p2.1 ∧ Adc Ach v0_1 a0.e.OS vd p2.2.1 ∧ Adc Ty.u8 v0_3 a0.code ve p2.2.2.2.1 ∧ Fr a 111 [] ∧ SL w FF w_ [Cw g0 154 [vc, vd, jI p2.2.2.1, ve, .map (some g0_4), .map (some g0_5), .map (some g0_6), jI p2.2.2.2.2.1], Mp (Value.int .i64) (fun x : B0 => Value.agg ⟨(jI x.Locals :: jI x.Height :: XK x.Slots)⟩) g0_4 p2.2.2.2.2.2.1, Mp (Value.int .i64) (fun _ : Unit => Value.agg ⟨[]⟩) g0_5 p2.2.2.2.2.2.2.1, Mp (Value.int .i64) (Value.int .i64) g0_6 p2.2.2.2.2.2.2.2]) ?_ ?_
  ·have H := H2
   refine gc 1 F rfl fun _ F => lpk (Afs x2 x9) (fun sn a w_ => ∃ vf vg vh : Value, Rd Hw w FF vf sn.1 ∧ Rd Ach w FF vg sn.2.1 ∧ Rd Ty.u8 w FF vh sn.2.2.2.1 ∧ Adc Hw v0_0 a0.e.Classes vf sn.1 ∧ Adc Ach v0_1 a0.e.OS vg sn.2.1 ∧ Adc Ty.u8 v0_3 a0.code vh sn.2.2.2.1 ∧ Fr a 111 [(0, jP g0), (7, jP g2), (97, vb), (98, jI (x9.length : Int)), (99, jI sn.2.2.2.2.2.2.2.2)] ∧ SL w FF w_ [Sl (Ty.int .i64) vb x9, Cw g0 154 [vf, vg, jI sn.2.2.1, vh, .map (some g0_4), .map (some g0_5), .map (some g0_6), jI sn.2.2.2.2.1], Mp (Value.int .i64) (fun x : B0 => Value.agg ⟨(jI x.Locals :: jI x.Height :: XK x.Slots)⟩) g0_4 sn.2.2.2.2.2.1, Mp (Value.int .i64) (fun _ : Unit => Value.agg ⟨[]⟩) g0_5 sn.2.2.2.2.2.2.1, Mp (Value.int .i64) (Value.int .i64) g0_6 sn.2.2.2.2.2.2.2.1, Cw g2 118 (jI x2.1.Locals :: jI x2.1.Height :: XK x2.1.Slots)]) H ?_ ?_
   ·exact ⟨v1, v2, v3, hd, hf, hh, he, hg, hi, F.sb, sm⟩
   intro sn _ wh h1b o3 H hr
   obtain ⟨vf, vg, vh, h1c, h1d, h1e, h1f, h1g, h1h, F, so⟩ := h1b
   replace H : Afs x2 x9 sn = some o3 := H
   unfold Afs at H
   refine gc 6 F rfl fun _ F => Ll F H 6 4 rfl rfl rfl (fun h1i H _ F => ?_) (fun h1i H _ F => ?_)
   ·obtain ⟨xa, h1j, H⟩ := Aa H
    obtain ⟨a2, h1k, h1l⟩ := Ax (Flat.int .i64) so m0 Abt rfl h1j
    refine gi F h1k 0 rfl fun _ F => ?_
    obtain ⟨xb, h1m, H⟩ := Aa H
    refine gx F (An Acx rfl (Abe.at_ (SL.Aef (Flat.int .i64) so m0 h1l h1j) (o := 0) rfl)) 7 rfl rfl fun _ F => gla F so m5 0 rfl fun _ F => ?_
    have sp := so.f4.f4.f4.f4
    obtain ⟨G3, h1n, h1o, h1p, h1q⟩ := SL.open_ (ps := [Cw g0 154 [vf, vg, jI sn.2.2.1, vh, .map (some g0_4), .map (some g0_5), .map (some g0_6), jI sn.2.2.2.2.1], Mp (Value.int .i64) (fun x : B0 => Value.agg ⟨(jI x.Locals :: jI x.Height :: XK x.Slots)⟩) g0_4 sn.2.2.2.2.2.1, Mp (Value.int .i64) (fun _ : Unit => Value.agg ⟨[]⟩) g0_5 sn.2.2.2.2.2.2.1, Mp (Value.int .i64) (Value.int .i64) g0_6 sn.2.2.2.2.2.2.2.1]) (rest := [Sl (Ty.int .i64) vb x9, Cw g2 118 (jI x2.1.Locals :: jI x2.1.Height :: XK x2.1.Slots)]) sp
    refine std F (Ayi (a0 := (⟨(⟨sn.1, sn.2.1, sn.2.2.1⟩ : GG), sn.2.2.2.1, sn.2.2.2.2.2.1, sn.2.2.2.2.2.2.1, sn.2.2.2.2.2.2.2.1, sn.2.2.2.2.1⟩ : Aae)) h1n (h1c.pass sp h1o) (h1d.pass sp h1o) (h1e.pass sp h1o) h1m) fun vi wi _ h1r F => ?_
    obtain ⟨vj, vk, vl, rfl, h1s, h1t, h1u, h1v⟩ := h1r
    have sq := h1q _ _ h1v
    have h1w := Adc.rd h1s h1c
    have h1x := Adc.trans h1f h1s
    have h1y := Adc.rd h1t h1d
    have h1z := Adc.trans h1g h1t
    have h20 := Adc.rd h1u h1e
    have h21 := Adc.trans h1h h1u
    refine gw 9 F rfl fun _ F => Ll F H 13 7 rfl rfl rfl (fun h22 H _ F => ?_) (fun h22 H _ F => ?_)
    ·cases H
     obtain rfl := hr _ rfl
     replace H := R2
     try dsimp only at H
     cases H
     exact rt F ⟨vj, vk, vl, rfl, h1x, h1z, h21, sq.f4.drop.f4.drop⟩
    cases H
    exact ⟨_, rfl, vj, vk, vl, h1w, h1y, h20, h1x, h1z, h21, F.sb, sq.f5.f4.f4.f4.f4.f5⟩
   cases H
   obtain rfl := hr _ rfl
   exact ⟨_, rfl, vf, vg, vh, h1c, h1d, h1e, h1f, h1g, h1h, F.sb, so.drop.f4.drop⟩
  intro _ wj hJ
  obtain ⟨p2, rfl, vc, vd, ve, h23, h24, h25, h26, h27, h28, F, sr⟩ := hJ
  have H := R2
  clear R2 H2
  try dsimp only at H
  cases H
  exact ge 7 F rfl fun _ F => rt F ⟨vc, vd, ve, rfl, h26, h27, h28, sr⟩
 refine ho2 11 15 rfl rfl (by kernel_rfl) ?_ ?_
 ·refine gca F s7 (A09 (a0 := (⟨x1.2.e.Classes, x1.2.e.OS, x1.2.e.Fn⟩ : GG)) (hd.M3 s7) (hf.M3 s7) hk) 1 rfl rfl rfl rfl fun wk _ F ss => ⟨ss, ?_⟩
  refine hq [12, 13, 14] F ss (QI.ev 3 rfl <| QI.nil) (by kernel_rfl) fun _ F => ?_
  refine ho 15 rfl (by kernel_rfl) ?_
  refine Af F ss Ol rfl rfl fun g2 wl _ F st => gw 1 F rfl fun _ F => ⟨st.drop, ?_⟩
  refine ho 16 rfl (by kernel_rfl) ?_
  refine O4 (ds := (jI x2.1.Locals :: jI x2.1.Height :: XK x2.1.Slots)) F st rfl rfl (by simpa using Aay) (Ab rfl (Ab rfl (Abi _))) (by simp) fun wm _ F su => ?_
  exact gw 1 F rfl fun _ F => ⟨su.drop, hto hD0 ⟨g2, F.sb, su.f5.f5.f5.f5.f5⟩ (by kernel_rfl)⟩
 refine Af F s7 Ol rfl rfl fun g2 wl _ F st => gw 1 F rfl fun _ F => ⟨st.drop, ?_⟩
 refine ho 11 rfl (by kernel_rfl) ?_
 refine gca F st (A09 (a0 := (⟨x1.2.e.Classes, x1.2.e.OS, x1.2.e.Fn⟩ : GG)) (hd.M3 st) (hf.M3 st) hk) 1 rfl rfl rfl rfl fun wk _ F ss => ⟨ss.drop, ?_⟩
 refine hq [12, 13, 14] F ss.drop (QI.ev 3 rfl <| QI.nil) (by kernel_rfl) fun _ F => ?_
 refine ho 16 rfl (by kernel_rfl) ?_
 refine O4 (ds := (jI x2.1.Locals :: jI x2.1.Height :: XK x2.1.Slots)) F ss rfl rfl (by simpa using Aay) (Ab rfl (Ab rfl (Abi _))) (by simp) fun wm _ F su => ?_
 exact gw 1 F rfl fun _ F => ⟨su.drop, hto hD0 ⟨g2, F.sb, su.f5.f5.f5.f5.f5⟩ (by kernel_rfl)⟩
def A6b (p0 : Value) (q0 : List BV) (p1 : Value) (q1 : List Aa6) (p2 : Value) (q2 : List UInt8) (v : Value) (s : Aae) (qs : List Ck) : Prop := ∃ k0 k1 k2 k3 : Nat, ∃ v0 v1 v2 : Value, v = jP k0 ∧ Adc Hw p0 q0 v0 s.e.Classes ∧ Adc Ach p1 q1 v1 s.e.OS ∧ Adc Ty.u8 p2 q2 v2 s.code ∧ qs = [Cw k0 154 [v0, v1, jI s.e.Fn, v2, .map (some k1), .map (some k2), .map (some k3), jI s.Ade], Mp (Value.int .i64) (fun x : B0 => Value.agg ⟨(jI x.Locals :: jI x.Height :: XK x.Slots)⟩) k1 s.frames, Mp (Value.int .i64) (fun _ : Unit => Value.agg ⟨[]⟩) k2 s.fresh, Mp (Value.int .i64) (Value.int .i64) k3 s.taken]
theorem A7e {w : World} {v0_0 v0_1 v2 : Value} {a0 : GG} {a1 : Int} {a2 : List UInt8} {r : (Option Aae) × Int × Int} (hr0_0 : Rd Hw w [] v0_0 a0.Classes) (hr0_1 : Rd Ach w [] v0_1 a0.OS) (hr2 : Rd Ty.u8 w [] v2 a2) (H : At4 a0 a1 a2 = some r) :
    Calls prog 71 #[.agg ⟨[v0_0, v0_1, jI a0.Fn]⟩, jI a1, v2] w (Ret fun u_ w_ => ∃ u0 : Value, u_ = .tuple ⟨[u0, jI r.2.1, jI r.2.2]⟩ ∧ SL w [] w_ [AAb u0 r.1 (A6b v0_0 a0.Classes v0_1 a0.OS v2 a2 u0)]) := by
 have s0 : SL w [] w [] := SL.Abr w
 refine cin func71 ntmps71 2 rfl rfl rfl fun _ F0 => ?_
 unfold At4 at H
 refine Ar F0 s0 rfl rfl rfl fun g8 w9 _ F s1 => gw 5 F rfl fun _ F => sck 0 rfl ?_
 obtain ⟨x0, h0, H⟩ := Aa H
 refine gc 3 F rfl fun _ F => Ki F s1 m0 1 rfl fun _ F => gca F s1 (ACd (a0 := (⟨a0.Classes, a0.OS, a0.Fn⟩ : GG)) (hr0_0.M3 s1) (hr0_1.M3 s1) h0) 9 rfl rfl rfl rfl fun w0 _ F s2 => Ll F H 11 6 rfl rfl rfl (fun h1 H _ F => ?_) (fun h1 H _ F => ?_)
 ·cases H
  exact rt F ⟨(.pointer none), rfl, (SL.Axu s2).f1.drop⟩
 refine gx F (Ah rfl underlying42 (fR hr2 s2)) 3 rfl rfl fun _ F => Ll F H 10 3 rfl rfl rfl (fun h2 H _ F => ?_) (fun h2 H _ F => ?_)
 ·cases H
  exact rt F ⟨(.pointer none), rfl, (SL.Axu s2).f1.drop⟩
 obtain ⟨x1, h3, H⟩ := Aa H
 obtain ⟨x2, h4, H⟩ := Aa H
 refine Ad4 Abj s2 ?_
 obtain ⟨a3, c0, G0, h5, h6, h7, h8⟩ := Rd.idx hr0_1 Ahb rfl h3
 obtain ⟨v0, rfl, h9⟩ := (Ajk h7 h8)
 have hc157_ := h6; clear h6; have h6 := fun w_ (hC : SL w [] w_ [Cw g8 110 [v0_0, v0_1, jI a0.Fn]]) => hc157_ _ _ hC
 refine hq [0, 1, 2, 3, 4, 5, 6, 7, 8, 9] F s2.drew (QI.ev 1 rfl <| QI.ld m0 rfl <| QI.ev 1 rfl <| QI.ld m0 rfl <| QI.ev 1 rfl <| QI.ld m0 rfl <| QI.ix h5 rfl <| QI.op rfl (fun _ hC => Ba Atk rfl) rfl <| QI.op rfl (fun _ hC => An As9 rfl (Abe.at_ (h6 _ hC) (o := 0) rfl)) rfl <| QI.ev 1 rfl <| QI.nil) (by kernel_rfl) fun _ F => ?_
 refine Aes [0, 1, 2, 3, 4, 5, 6, 7, 8, 9, 10, 11, 12, 13, 14, 15] (fun a w_ => ∃ g0 : Nat, Fr a 88 [(2, v2), (3, jP g8), (10, jP g0), (38, jI x2.2)] ∧ SL w [] w_ [Cw g8 110 [v0_0, v0_1, jI a0.Fn], Cw g0 118 (jI x2.1.Locals :: jI x2.1.Height :: XK x2.1.Slots)]) ?_ fun hD0 => ?_
 ·rintro a w_ ⟨g0, F, s3⟩
  refine hq [16] F s3.f1.drop (QI.ev 1 rfl <| QI.nil) (by kernel_rfl) fun _ F => ?_
  refine Aew (by kernel_rfl) ?_
  refine ge 3 F rfl fun _ F => Ki F s3 m0 1 rfl fun _ F => Azk (Value.int .i64) (fun x : B0 => Value.agg ⟨(jI x.Locals :: jI x.Height :: XK x.Slots)⟩) F s3 rfl fun g1 w1 _ F s4 => gla F s4 m2 0 rfl fun _ F => A8x (k := 0) (u := (⟨x2.1.Locals, x2.1.Height, x2.1.Slots⟩ : B0)) F s4 underlying150 Ak2 rfl rfl rfl fun w2 _ F s5 => gw 1 F rfl fun _ F => Azk (Value.int .i64) (fun _ : Unit => Value.agg ⟨[]⟩) F s5 rfl fun g2 w3 _ F s6 => gx F (Al (vs := []) Azl A4n rfl (cs := []) (rfl)) 0 rfl rfl fun _ F => A8x (k := 0) (u := ()) F s6 underlying151 Ak2 rfl rfl rfl fun w4 _ F s7 => gw 1 F rfl fun _ F => Azk (Value.int .i64) (Value.int .i64) F s7 rfl fun g3 w5 _ F s8 => ?_
  have ha := (fR hr0_0 s8)
  have hb := (fR hr0_1 s8)
  have hc := (fR hr2 s8)
  refine gx F (Al (vs := [.agg ⟨[v0_0, v0_1, jI a0.Fn]⟩, v2, .map (some g1), .map (some g2), .map (some g3)]) AEd AH0 rfl (cs := [v0_0, v0_1, jI a0.Fn, v2, .map (some g1), .map (some g2), .map (some g3), jI 0]) (A9l (pre := []) (zs := [.slice none 0 0, .slice none 0 0, jI 0]) (post := [.slice none 0 0, .map none, .map none, .map none, jI 0]) rfl rfl <| Afm rfl (Ag hc) (by simp) <| Afm rfl rfl (by simp) <| Afm rfl rfl (by simp) <| Afm rfl rfl (by simp) <| Ac1)) 0 rfl rfl fun _ F => ?_
  refine Ar F s8 rfl rfl rfl fun g4 w6 _ F s9 => ?_
  obtain ⟨o0, H0, R0⟩ := Aa H
  clear H
  refine gw 12 F rfl fun _ F => Acs (fun a w_ => ∃ v1 v3 v4 : Value, Rd Hw w [] v1 o0.1 ∧ Rd Ach w [] v3 o0.2.1 ∧ Rd Ty.u8 w [] v4 o0.2.2.2.1 ∧ Adc Hw v0_0 a0.Classes v1 o0.1 ∧ Adc Ach v0_1 a0.OS v3 o0.2.1 ∧ Adc Ty.u8 v2 a2 v4 o0.2.2.2.1 ∧ Fr a 88 [(12, jP g4), (13, jI o0.2.2.2.2.2.2.2.2)] ∧ SL w [] w_ [Cw g4 154 [v1, v3, jI o0.2.2.1, v4, .map (some g1), .map (some g2), .map (some g3), jI o0.2.2.2.2.1], Mp (Value.int .i64) (fun x : B0 => Value.agg ⟨(jI x.Locals :: jI x.Height :: XK x.Slots)⟩) g1 o0.2.2.2.2.2.1, Mp (Value.int .i64) (fun _ : Unit => Value.agg ⟨[]⟩) g2 o0.2.2.2.2.2.2.1, Mp (Value.int .i64) (Value.int .i64) g3 o0.2.2.2.2.2.2.2.1]) ?_ ?_
  ·have H := H0
   refine gc 1 F rfl fun _ F => lpk (Ajl a2) (fun sa a w_ => ∃ v5 v6 v7 : Value, Rd Hw w [] v5 sa.1 ∧ Rd Ach w [] v6 sa.2.1 ∧ Rd Ty.u8 w [] v7 sa.2.2.2.1 ∧ Adc Hw v0_0 a0.Classes v5 sa.1 ∧ Adc Ach v0_1 a0.OS v6 sa.2.1 ∧ Adc Ty.u8 v2 a2 v7 sa.2.2.2.1 ∧ Fr a 88 [(2, v2), (12, jP g4), (13, jI sa.2.2.2.2.2.2.2.2)] ∧ SL w [] w_ [Cw g4 154 [v5, v6, jI sa.2.2.1, v7, .map (some g1), .map (some g2), .map (some g3), jI sa.2.2.2.2.1], Mp (Value.int .i64) (Value.int .i64) g3 sa.2.2.2.2.2.1, Mp (Value.int .i64) (fun _ : Unit => Value.agg ⟨[]⟩) g2 sa.2.2.2.2.2.2.1, Mp (Value.int .i64) (fun x : B0 => Value.agg ⟨(jI x.Locals :: jI x.Height :: XK x.Slots)⟩) g1 sa.2.2.2.2.2.2.2.1]) H ?_ ?_
   ·exact ⟨v0_0, v0_1, v2, hr0_0, hr0_1, hr2, Adc.refl, Adc.refl, Adc.refl, F.sb, s9.f4.drop.f4.drop⟩
   intro sa _ w7 hd o1 H hr
   obtain ⟨v5, v6, v7, he, hf, hg, hh, hi, hj, F, sc⟩ := hd
   replace H : Ajl a2 sa = some o1 := H
   unfold Ajl at H
   refine gc 6 F rfl fun _ F => Ki F sc m0 0 rfl fun _ F => gx F (AG0 sc m2 underlying151 rfl) 3 rfl rfl fun _ F => Ll F H 6 4 rfl rfl rfl (fun hk H _ F => ?_) (fun hk H _ F => ?_)
   ·refine gx F (Ah rfl underlying42 (fR hr2 sc)) 9 rfl rfl fun _ F => Ki F sc m0 0 rfl fun _ F => AA1 F sc.f2 underlying151 rfl rfl fun i0 w8 _ F sd => ?_
    obtain ⟨o2, H1, R1⟩ := Aa H
    clear H
    refine gw 2 F rfl fun _ F => Acs (fun a w_ => Fr a 88 [(2, v2), (12, jP g4), (14, jI o2)] ∧ SL w [] w_ [Mp (Value.int .i64) (fun _ : Unit => Value.agg ⟨[]⟩) g2 sa.2.2.2.2.2.2.1, Cw g4 154 [v5, v6, jI sa.2.2.1, v7, .map (some g1), .map (some g2), .map (some g3), jI sa.2.2.2.2.1], Mp (Value.int .i64) (Value.int .i64) g3 sa.2.2.2.2.2.1, Mp (Value.int .i64) (fun x : B0 => Value.agg ⟨(jI x.Locals :: jI x.Height :: XK x.Slots)⟩) g1 sa.2.2.2.2.2.2.2.1]) ?_ ?_
    ·have H := H1
     obtain ⟨o3, Hr, H2⟩ := Aa H
     refine gc 1 F rfl fun _ F => AO2 (Aji) (fun j0 se a w_ => Fr a 88 [(2, v2), (12, jP g4), (14, jI se), (62, jP i0)] ∧ SL w [] w_ [Av4 (Value.int .i64) (fun _ : Unit => Value.agg ⟨[]⟩) g2 i0 sa.2.2.2.2.2.2.1 j0, Cw g4 154 [v5, v6, jI sa.2.2.1, v7, .map (some g1), .map (some g2), .map (some g3), jI sa.2.2.2.2.1], Mp (Value.int .i64) (Value.int .i64) g3 sa.2.2.2.2.2.1, Mp (Value.int .i64) (fun x : B0 => Value.agg ⟨(jI x.Locals :: jI x.Height :: XK x.Slots)⟩) g1 sa.2.2.2.2.2.2.2.1]) Hr ?_ ?_
     ·exact ⟨F.sb, sd⟩
     clear H Hr
     intro j0 se _ wa hl hm hn
     obtain ⟨F, sf⟩ := hl
     refine gc 2 F rfl fun _ F => ADa F sf rfl rfl (fun _ hp F => ?_) (fun j1 p0 wb _ hs ht hu F sg => ?_)
     ·have H := AOh H2 (hm hp)
      try dsimp only at H
      have sh : SL w [] _ [Mp (Value.int .i64) (fun _ : Unit => Value.agg ⟨[]⟩) g2 sa.2.2.2.2.2.2.1, Cw g4 154 [v5, v6, jI sa.2.2.1, v7, .map (some g1), .map (some g2), .map (some g3), jI sa.2.2.2.2.1], Mp (Value.int .i64) (Value.int .i64) g3 sa.2.2.2.2.2.1, Mp (Value.int .i64) (fun x : B0 => Value.agg ⟨(jI x.Locals :: jI x.Height :: XK x.Slots)⟩) g1 sa.2.2.2.2.2.2.2.1] := (SL.unit sf)
      cases H
      exact gw 9 F rfl fun _ F => ⟨F.sb, sh⟩
     obtain ⟨o4, hv, hr0⟩ := hn j1 p0 hs ht hu
     replace hv : Aji p0 se = some o4 := hv
     have H := hv
     unfold Aji at H
     have hr := fun r' h => AOl H2 (hr0 r' h)
     clear hr0
     refine gw 10 F rfl fun _ F => gx F (A9u sg m0 hs rfl) 7 rfl rfl fun _ F => ?_
     cases H
     exact gx F (AKp rfl rfl) 3 rfl rfl fun _ F => ⟨j1, p0, _, hs, ht, hu, hv, ⟨F.sb, sg⟩⟩
    intro _ wc hJ
    obtain ⟨F, si⟩ := hJ
    have H := R1
    clear R1 H1
    refine ge 6 F rfl fun _ F => Ki F si m1 1 rfl fun _ F => AE6 (k := o2) F si underlying151 Ak2 rfl rfl fun wd _ F sj => ?_
    obtain ⟨x3, hw, H⟩ := Aa H
    have sk := sj.f2.f1.f3.f3
    obtain ⟨G1, hx, hy, hz, h10⟩ := SL.open_ (ps := [Cw g4 154 [v5, v6, jI sa.2.2.1, v7, .map (some g1), .map (some g2), .map (some g3), jI sa.2.2.2.2.1], Mp (Value.int .i64) (fun x : B0 => Value.agg ⟨(jI x.Locals :: jI x.Height :: XK x.Slots)⟩) g1 sa.2.2.2.2.2.2.2.1, Mp (Value.int .i64) (fun _ : Unit => Value.agg ⟨[]⟩) g2 (Amz sa.2.2.2.2.2.2.1 o2), Mp (Value.int .i64) (Value.int .i64) g3 sa.2.2.2.2.2.1]) (rest := []) sk
    refine gw 6 F rfl fun _ F => std F (Ayl (a0 := (⟨(⟨sa.1, sa.2.1, sa.2.2.1⟩ : GG), sa.2.2.2.1, sa.2.2.2.2.2.2.2.1, (Amz sa.2.2.2.2.2.2.1 o2), sa.2.2.2.2.2.1, sa.2.2.2.2.1⟩ : Aae)) hx (he.pass sk hy) (hf.pass sk hy) (hg.pass sk hy) hw) fun v8 we _ h11 F => ?_
    obtain ⟨v9, va, vb, rfl, h12, h13, h14, h15⟩ := h11
    have sl := h10 _ _ h15
    have h16 := Adc.rd h12 he
    have h17 := Adc.trans hh h12
    have h18 := Adc.rd h13 hf
    have h19 := Adc.trans hi h13
    have h1a := Adc.rd h14 hg
    have h1b := Adc.trans hj h14
    refine gw 9 F rfl fun _ F => Ll F H 4 2 rfl rfl rfl (fun h1c H _ F => ?_) (fun h1c H _ F => ?_)
    ·cases H
     obtain rfl := hr _ rfl
     exact ⟨v9, va, vb, h16, h18, h1a, h17, h19, h1b, F.sb, sl⟩
    cases H
    exact ⟨_, rfl, v9, va, vb, h16, h18, h1a, h17, h19, h1b, F.sb, sl.f1.f2.f3.f3⟩
   cases H
   obtain rfl := hr _ rfl
   exact ⟨v5, v6, v7, he, hf, hg, hh, hi, hj, F.sb, sc.f1.f2.f3.f3⟩
  intro _ wf hJ
  obtain ⟨v1, v3, v4, h1d, h1e, h1f, h1g, h1h, h1i, F, sm⟩ := hJ
  have H := R0
  clear R0 H0
  refine ge 8 F rfl fun _ F => Ll F H 1 12 rfl rfl rfl (fun h1j H _ F => ?_) (fun h1j H _ F => ?_)
  ·refine Alj Abj sm F (QR.ev 3 rfl <| QR.ld m0 rfl <| QR.ev 4 rfl <| Bb) fun wg _ sn F => ?_
   cases H
   exact ge 4 F rfl fun _ F => rt F ⟨(.pointer none), rfl, (SL.Axu sn).f1.drop.f1.drop.f1.drop.f1.drop⟩
  cases H
  exact rt F ⟨_, rfl, (SL.ABt (qs := [Cw g4 154 [v1, v3, jI o0.2.2.1, v4, .map (some g1), .map (some g2), .map (some g3), jI o0.2.2.2.2.1], Mp (Value.int .i64) (fun x : B0 => Value.agg ⟨(jI x.Locals :: jI x.Height :: XK x.Slots)⟩) g1 o0.2.2.2.2.2.1, Mp (Value.int .i64) (fun _ : Unit => Value.agg ⟨[]⟩) g2 o0.2.2.2.2.2.2.1, Mp (Value.int .i64) (Value.int .i64) g3 o0.2.2.2.2.2.2.2.1]) ⟨g4, g1, g2, g3, v1, v3, v4, rfl, h1g, h1h, h1i, rfl⟩ sm.f3.f3.f3.f3)⟩
 refine ho2 10 14 rfl rfl (by kernel_rfl) ?_ ?_
 ·refine gca F s2.drew (Ar8 (hr0_0.M3 s2.drew) (h9.M3 s2.drew) h4) 1 rfl rfl rfl rfl fun wh _ F so => ⟨so, ?_⟩
  refine hq [11, 12, 13] F so (QI.ev 3 rfl <| QI.nil) (by kernel_rfl) fun _ F => ?_
  refine ho 14 rfl (by kernel_rfl) ?_
  refine Af F so Ol rfl rfl fun g0 wi _ F sp => gw 1 F rfl fun _ F => ⟨sp.drop, ?_⟩
  refine ho 15 rfl (by kernel_rfl) ?_
  refine O4 (ds := (jI x2.1.Locals :: jI x2.1.Height :: XK x2.1.Slots)) F sp rfl rfl (by simpa using Aay) (Ab rfl (Ab rfl (Abi _))) (by simp) fun wj _ F sq => ?_
  exact gw 1 F rfl fun _ F => ⟨sq.drop, hto hD0 ⟨g0, F.sb, sq.f1⟩ (by kernel_rfl)⟩
 refine Af F s2.drew Ol rfl rfl fun g0 wi _ F sp => gw 1 F rfl fun _ F => ⟨sp.drop, ?_⟩
 refine ho 10 rfl (by kernel_rfl) ?_
 refine gca F sp (Ar8 (hr0_0.M3 sp) (h9.M3 sp) h4) 1 rfl rfl rfl rfl fun wh _ F so => ⟨so.drop, ?_⟩
 refine hq [11, 12, 13] F so.drop (QI.ev 3 rfl <| QI.nil) (by kernel_rfl) fun _ F => ?_
 refine ho 15 rfl (by kernel_rfl) ?_
 refine O4 (ds := (jI x2.1.Locals :: jI x2.1.Height :: XK x2.1.Slots)) F so rfl rfl (by simpa using Aay) (Ab rfl (Ab rfl (Abi _))) (by simp) fun wj _ F sq => ?_
 exact gw 1 F rfl fun _ F => ⟨sq.drop, hto hD0 ⟨g0, F.sb, sq.f1⟩ (by kernel_rfl)⟩
theorem A89 {w : World} {v0_0 v0_1 v2 : Value} {a0 : GG} {a1 : Int} {a2 : List UInt8} {r : (List Ac9) × Int × Int} (hr0_0 : Rd Hw w [] v0_0 a0.Classes) (hr0_1 : Rd Ach w [] v0_1 a0.OS) (hr2 : Rd Ty.u8 w [] v2 a2) (H : Asr a0 a1 a2 = some r) :
    Calls prog 47 #[.agg ⟨[v0_0, v0_1, jI a0.Fn]⟩, jI a1, v2] w (Ret fun u_ w_ => ∃ u0 : Value, u_ = .tuple ⟨[u0, jI r.2.1, jI r.2.2]⟩ ∧ SL w [] w_ [Sl Afx u0 r.1]) := by
 have s0 : SL w [] w [] := SL.Abr w
 refine cin func47 ntmps47 2 rfl rfl rfl fun _ F0 => ?_
 unfold Asr at H
 refine Ar F0 s0 rfl rfl rfl fun g8 w9 _ F s1 => ?_
 obtain ⟨x0, h0, H⟩ := Aa H
 refine gw 7 F rfl fun _ F => Ki F s1 m0 2 rfl fun _ F => std F (A7e (a0 := (⟨a0.Classes, a0.OS, a0.Fn⟩ : GG)) (hr0_0.M3 s1) (hr0_1.M3 s1) (hr2.M3 s1) h0) fun v0 w0 _ h1 F => ?_
 obtain ⟨v1, rfl, h2⟩ := h1
 have s2 := s1.add h2
 refine gw 16 F rfl fun _ F => Ll F H 11 9 rfl rfl rfl (fun h3 H _ F => ?_) (fun h3 H _ F => ?_)
 ·cases H
  exact rt F ⟨(.slice none 0 0), rfl, (SL.Ac3 (T := Afx) s2).f1.drop.f1.drop⟩
 obtain ⟨x1, h4, H⟩ := Aa H
 obtain ⟨_, ⟨g0, g1, g2, g3, v3, v4, v5, rfl, h5, h6, h7, rfl⟩, s3⟩ := SL.A3k s2 h4
 have h8 := Adc.rd h5 hr0_0
 have h9 := Adc.rd h6 hr0_1
 have ha := Adc.rd h7 hr2
 refine gc 4 F rfl fun _ F => Ki F s3 m0 0 rfl fun _ F => As (args := [.tmp 30]) F AKl rfl (AIq A3r) rfl fun v6 w1 _ hb F => ?_
 obtain ⟨g4, hc, hd⟩ := hb
 obtain rfl : v6 = clo 107 [jP g4] := hc
 have s4 : SL w [] _ [Cw g4 150 [.map (some g1)], Cw g0 154 [v3, v4, jI x1.e.Fn, v5, .map (some g1), .map (some g2), .map (some g3), jI x1.Ade], Mp (Value.int .i64) (fun x : B0 => Value.agg ⟨(jI x.Locals :: jI x.Height :: XK x.Slots)⟩) g1 x1.frames, Mp (Value.int .i64) (fun _ : Unit => Value.agg ⟨[]⟩) g2 x1.fresh, Mp (Value.int .i64) (Value.int .i64) g3 x1.taken, Cw g8 110 [v0_0, v0_1, jI a0.Fn]] := SL.add s3 hd
 obtain ⟨x2, he, H⟩ := Aa H
 obtain ⟨G0, hf, hg, hh, hi⟩ := SL.open_ (ps := [Mp (Value.int .i64) (fun x : B0 => Value.agg ⟨(jI x.Locals :: jI x.Height :: XK x.Slots)⟩) g1 x1.frames, Cw g4 150 [.map (some g1)]]) (rest := [Cw g0 154 [v3, v4, jI x1.e.Fn, v5, .map (some g1), .map (some g2), .map (some g3), jI x1.Ade], Mp (Value.int .i64) (fun _ : Unit => Value.agg ⟨[]⟩) g2 x1.fresh, Mp (Value.int .i64) (Value.int .i64) g3 x1.taken, Cw g8 110 [v0_0, v0_1, jI a0.Fn]]) s4.f2
 refine As (args := [.tmp 31]) F ALd rfl (ADn ABz A3r Ax8 rfl AJq A2z AJs hf he) rfl fun v7 w2 _ hj F => ?_
 have s5 : SL w [] _ [Mp (Value.int .i64) (fun x : B0 => Value.agg ⟨(jI x.Locals :: jI x.Height :: XK x.Slots)⟩) g1 x1.frames, Sl (Ty.int .i64) v7 x2, Cw g0 154 [v3, v4, jI x1.e.Fn, v5, .map (some g1), .map (some g2), .map (some g3), jI x1.Ade], Mp (Value.int .i64) (fun _ : Unit => Value.agg ⟨[]⟩) g2 x1.fresh, Mp (Value.int .i64) (Value.int .i64) g3 x1.taken, Cw g8 110 [v0_0, v0_1, jI a0.Fn]] := hi _ _ hj
 obtain ⟨o0, H0, R0⟩ := Aa H
 clear H
 refine gx F (Ah rfl underlying28 (fO s5 m1)) 3 rfl rfl fun _ F => Acs (fun a w_ => ∃ v8 : Value, Fr a 51 [(12, v8)] ∧ SL w [] w_ [Mp (Value.int .i64) (fun x : B0 => Value.agg ⟨(jI x.Locals :: jI x.Height :: XK x.Slots)⟩) g1 x1.frames, Mp (Value.int .i64) (fun _ : Unit => Value.agg ⟨[]⟩) g2 x1.fresh, Mp (Value.int .i64) (Value.int .i64) g3 x1.taken, Sl Afx v8 o0]) ?_ ?_
 ·have H := H0
  refine gc 1 F rfl fun _ F => lpk (Akj x1 x2) (fun s6 a w_ => ∃ v9 : Value, Fr a 51 [(9, jP g0), (12, v9), (32, v7), (33, jI (x2.length : Int)), (34, jI s6.2)] ∧ SL w [] w_ [Mp (Value.int .i64) (fun x : B0 => Value.agg ⟨(jI x.Locals :: jI x.Height :: XK x.Slots)⟩) g1 x1.frames, Sl (Ty.int .i64) v7 x2, Cw g0 154 [v3, v4, jI x1.e.Fn, v5, .map (some g1), .map (some g2), .map (some g3), jI x1.Ade], Mp (Value.int .i64) (fun _ : Unit => Value.agg ⟨[]⟩) g2 x1.fresh, Mp (Value.int .i64) (Value.int .i64) g3 x1.taken, Sl Afx v9 s6.1]) H ?_ ?_
  ·exact ⟨(.slice none 0 0), F.sb, (SL.Ac3 (T := Afx) s5).f6.drop.f5.f5.f5.f5.f5⟩
  intro s6 _ w3 hk o1 H hr
  obtain ⟨v9, F, s7⟩ := hk
  replace H : Akj x1 x2 s6 = some o1 := H
  unfold Akj at H
  refine gc 6 F rfl fun _ F => Ll F H 6 4 rfl rfl rfl (fun hl H _ F => ?_) (fun hl H _ F => ?_)
  ·obtain ⟨x3, hm, H⟩ := Aa H
   obtain ⟨a3, hn, ho⟩ := Ax (Flat.int .i64) s7 m1 Abt rfl hm
   refine gi F hn 0 rfl fun _ F => gx F (An Acx rfl (Abe.at_ (SL.Aef (Flat.int .i64) s7 m1 ho hm) (o := 0) rfl)) 9 rfl rfl fun _ F => Ki F s7 m2 1 rfl fun _ F => gx F (A7z (k := x3) (z0 := (⟨(0 : Int), (0 : Int), (Vector.replicate 24 (0 : UInt8))⟩ : B0)) s7 m0 underlying150 Ak2 A4j rfl rfl) 0 rfl rfl fun _ F => ?_
   refine gx F (Al (vs := [jI x3, .agg ⟨(jI (((Adq x1.frames x3).getD (⟨(0 : Int), (0 : Int), (Vector.replicate 24 (0 : UInt8))⟩ : B0)).Locals) :: jI (((Adq x1.frames x3).getD (⟨(0 : Int), (0 : Int), (Vector.replicate 24 (0 : UInt8))⟩ : B0)).Height) :: XK (((Adq x1.frames x3).getD (⟨(0 : Int), (0 : Int), (Vector.replicate 24 (0 : UInt8))⟩ : B0)).Slots))⟩]) Azm AAg rfl (cs := (jI x3 :: .bool false :: jI (((Adq x1.frames x3).getD (⟨(0 : Int), (0 : Int), (Vector.replicate 24 (0 : UInt8))⟩ : B0)).Locals) :: jI (((Adq x1.frames x3).getD (⟨(0 : Int), (0 : Int), (Vector.replicate 24 (0 : UInt8))⟩ : B0)).Height) :: XK (((Adq x1.frames x3).getD (⟨(0 : Int), (0 : Int), (Vector.replicate 24 (0 : UInt8))⟩ : B0)).Slots))) (Afm rfl rfl (by simp) <| A9l (pre := [jI x3, .bool false]) (zs := jZ) (post := []) (by first | rfl | simp) (by simp) <| (by first | exact Ac1 | simp [Ac1]))) 0 rfl rfl fun _ F => ?_
   refine Ae (parts := [(0, .tmp 46)]) Aj2 ([(⟨x3, false, (⟨((Adq x1.frames x3).getD (⟨(0 : Int), (0 : Int), (Vector.replicate 24 (0 : UInt8))⟩ : B0)).Locals, ((Adq x1.frames x3).getD (⟨(0 : Int), (0 : Int), (Vector.replicate 24 (0 : UInt8))⟩ : B0)).Height, ((Adq x1.frames x3).getD (⟨(0 : Int), (0 : Int), (Vector.replicate 24 (0 : UInt8))⟩ : B0)).Slots⟩ : B0)⟩ : Ac9)] : List Ac9) F s7 Arb rfl (by decide) rfl rfl rfl (by simp [Value.cells]) rfl rfl rfl fun va w4 _ F s8 => ?_
   obtain ⟨x4, hp, H⟩ := Aa H
   obtain ⟨_, hr_⟩ := (s8.f6.Ac5 m1)
   refine Aw Aj2 F s8.f6 Arb rfl rfl rfl rfl hr_ rfl rfl hp rfl fun vb w5 _ F s9 => ?_
   have s2277' := s9.f1.drop
   cases H
   exact gw 8 F rfl fun _ F => ⟨_, rfl, vb, F.sb, s2277'.f5.f5.f5.f5.f5⟩
  cases H
  obtain rfl := hr _ rfl
  exact ⟨v9, F.sb, s7.f1.drop.f1.drop⟩
 intro _ w6 hJ
 obtain ⟨v8, F, sa⟩ := hJ
 have H := R0
 clear R0 H0
 cases H
 exact ge 10 F rfl fun _ F => rt F ⟨v8, rfl, sa.drop.drop.drop⟩
def A9b (v : Value) (s : Ads) (qs : List Ck) : Prop := ∃ k0 : Nat, ∃ v0 : Value, v = jP k0 ∧ qs = [Cw k0 81 [v0, jI s.Ae3], Sl Abq v0 s.l]
theorem Axn {w : World} {v0_1 v0_2 v0_3 : Value} {a0 : LK} {a1 : Int} {r : (Option Ads) × Int × Int} (hr0_1 : Rd Hw w [] v0_1 a0.Classes) (hr0_2 : Rd Ado w [] v0_2 a0.Funcs) (hr0_3 : Rd (Ty.slice Ty.u8) w [] v0_3 a0.Adm) (H : Ap9 a0 a1 = some r) :
    Calls prog 26 #[.agg ⟨[.string ⟨⟨a0.Name⟩⟩, v0_1, v0_2, v0_3]⟩, jI a1] w (Ret fun u_ w_ => ∃ u0 : Value, u_ = .tuple ⟨[u0, jI r.2.1, jI r.2.2]⟩ ∧ SL w [] w_ [AAb u0 r.1 (A9b u0)]) := by
 have s0 : SL w [] w [] := SL.Abr w
 refine cin func26 ntmps26 2 rfl rfl rfl fun _ F0 => ?_
 unfold Ap9 at H
 refine Ar F0 s0 rfl rfl rfl fun g8 w9 _ F s1 => ?_
 obtain ⟨x0, h0, H⟩ := Aa H
 refine gw 7 F rfl fun _ F => Ki F s1 m0 1 rfl fun _ F => std F (AB9 (a0 := (⟨a0.Name, a0.Classes, a0.Funcs, a0.Adm⟩ : LK)) (hr0_1.M3 s1) (hr0_2.M3 s1) (hr0_3.M3 s1) h0) fun v0 w0 _ h1 F => ?_
 obtain ⟨v1, v2, rfl, h2⟩ := h1
 have s2 := s1.add h2
 refine gw 3 F rfl fun _ F => Af F s2 Aj5 rfl rfl fun g0 w1 _ F s3 => Ai F s3 rfl rfl Aoq (Ab (Aq (fO s3 m1)) (Ab (Aq (fO s3 m2)) (Ab rfl Ap))) (Ac rfl) fun w2 _ F s4 => gw 10 F rfl fun _ F => Ll F H 9 4 rfl rfl rfl (fun h3 H _ F => ?_) (fun h3 H _ F => ?_)
 ·cases H
  exact rt F ⟨(.pointer none), rfl, (SL.Axu s4).f1.drop.f1.drop.f1.drop.f1.drop⟩
 obtain ⟨x1, h4, H⟩ := Aa H
 obtain ⟨a2, c0, G0, h5, h6, h7, h8⟩ := Rd.idx hr0_2 Api rfl h4
 obtain ⟨v3, v4, rfl, h9, ha⟩ := (An9 h7 h8)
 replace h6 := h6 _ _ s4
 refine gw 1 F rfl fun _ F => Ki F s4 m3 1 rfl fun _ F => gi F h5 0 rfl fun _ F => gx F (Av As8 rfl h6 rfl) 0 rfl rfl fun _ F => Af F s4 Avu rfl rfl fun g1 w3 _ F s5 => Ai F s5 rfl rfl Ayz (Ab rfl (Ab (Aq (fR h9 s5)) (Ab rfl (Ab rfl (Ab (Aq (fR ha s5)) Ap))))) (Ac rfl) fun w4 _ F s6 => ?_
 obtain ⟨x2, hb, H⟩ := Aa H
 refine gw 4 F rfl fun _ F => Ki F s6 m1 1 rfl fun _ F => Ki F s6 m0 1 rfl fun _ F => Ki F s6 m0 0 rfl fun _ F => std F (A89 (a0 := (⟨x0.1.Classes, x0.1.OS, x0.1.Fn⟩ : GG)) (s6.rd0 m2) (s6.rd0 m3) (ha.M3 s6) hb) fun v5 w5 _ hc F => ?_
 obtain ⟨v6, rfl, hd⟩ := hc
 have s7 := s6.add hd
 refine gw 16 F rfl fun _ F => Ll F H 11 4 rfl rfl rfl (fun he H _ F => ?_) (fun he H _ F => ?_)
 ·cases H
  exact rt F ⟨(.pointer none), rfl, (SL.Axu s7).f1.drop.f1.drop.f1.drop.f1.drop.f1.drop.f1.drop⟩
 refine gx F (Al (vs := []) AG1 AKe rfl (cs := [.slice none 0 0, jI 0]) (rfl)) 0 rfl rfl fun _ F => Ar F s7 rfl rfl rfl fun g2 w6 _ F s8 => gw 7 F rfl fun _ F => ?_
 obtain ⟨o0, H0, R0⟩ := Aa H
 clear H
 refine gx F (Ah rfl underlying113 (fO s8 m1)) 3 rfl rfl fun _ F => Acs (fun a w_ => ∃ v7 : Value, Fr a 84 [(13, jP g2)] ∧ SL w [] w_ [Cw g2 81 [v7, jI o0.2], Sl Abq v7 o0.1]) ?_ ?_
 ·have H := H0
  refine gc 1 F rfl fun _ F => lpk (Aml x1 x2) (fun s9 a w_ => ∃ v8 : Value, Fr a 84 [(9, jP g1), (13, jP g2), (47, v6), (48, jI (x2.1.length : Int)), (49, jI s9.2.2)] ∧ SL w [] w_ [Cw g2 81 [v8, jI s9.2.1], Sl Afx v6 x2.1, Cw g1 52 [.string ⟨⟨x1.Name⟩⟩, v3, jU (x1.Sig.Result.toNat : Int), jI x1.Locals, v4], Sl Abq v8 s9.1]) H ?_ ?_
  ·exact ⟨(.slice none 0 0), F.sb, (SL.Ac3 (T := Abq) s8).f4.drop.f4.drop.f4.drop.f4.drop.f3.f3.f3⟩
  intro s9 _ w7 hf o1 H hr
  obtain ⟨v8, F, sa⟩ := hf
  replace H : Aml x1 x2 s9 = some o1 := H
  unfold Aml at H
  refine gc 6 F rfl fun _ F => Ll F H 6 4 rfl rfl rfl (fun hg H _ F => ?_) (fun hg H _ F => ?_)
  ·obtain ⟨x3, hh, H⟩ := Aa H
   obtain ⟨a3, hi, hj⟩ := Ax Aj2 sa m1 Arb rfl hh
   refine gi F hi 0 rfl fun _ F => ?_
   refine gx F (Av AE4 rfl (SL.Aef Aj2 sa m1 hj hh) (by simp)) 0 rfl rfl fun _ F => ?_
   refine Af F sa Azm rfl rfl fun g3 w8 _ F sc => ?_
   refine O4 (ds := (jI x3.At :: .bool x3.Dead :: jI x3.Frame.Locals :: jI x3.Frame.Height :: XK x3.Frame.Slots)) F sc rfl rfl (by simpa using AIn) (Ab rfl (Ab rfl (Ab rfl (Ab rfl (Abi _))))) (by simp) fun wa _ F sd => ?_
   obtain ⟨x4, hk, H⟩ := Aa H
   refine gw 5 F rfl fun _ F => Ki F sd m3 1 rfl fun _ F => Ki F sd m0 0 rfl fun _ F => gca F sd (A0r (ha.M3 sd) hk) 3 rfl rfl rfl rfl fun wb _ F se => Af F se Agp rfl rfl fun g4 wc _ F sf => Ai F sf rfl rfl Af1 (Ab rfl (Ab rfl (Ab rfl (Ab rfl Ap)))) (Ac rfl) fun wd _ F sg => ?_
   obtain ⟨x5, hl, H⟩ := Aa H
   refine gw 4 F rfl fun _ F => Ad4 Abj sg.f2.drop.f4.drop ?_
   have sh := sg.drew
   refine hq [0, 1, 2, 3, 5] F sh.f2.drop.f4.drop (QI.ev 4 rfl <| QI.ld m0 rfl <| QI.nil) (by kernel_rfl) fun _ F => ?_
   refine Aes [0, 1, 2, 3, 4, 5, 6] (fun a w_ => ∃ v9 : Value, Fr a 84 [(9, jP g1), (13, jP g2), (15, jP g3), (47, v6), (48, jI (x2.1.length : Int)), (49, jI s9.2.2), (61, jP g2), (65, v8), (67, v9)] ∧ SL w [] w_ [Cw g4 79 [jI x4.1.At, jU (x4.1.Op.toNat : Int), jI x4.1.A, jI x4.1.B], Cw g3 120 (jI x3.At :: .bool x3.Dead :: jI x3.Frame.Locals :: jI x3.Frame.Height :: XK x3.Frame.Slots), Sl Afx v6 x2.1, Cw g1 52 [.string ⟨⟨x1.Name⟩⟩, v3, jU (x1.Sig.Result.toNat : Int), jI x1.Locals, v4], Sl Abq v9 ([(⟨x4.1.At, x4.1.Op, x4.1.A, x4.1.B⟩ : CO)] : List CO), Cw g2 81 [v8, jI s9.2.1], Sl Abq v8 s9.1]) ?_ fun hD0 => ?_
   ·rintro a w_ ⟨v9, F, si⟩
    refine ho 7 rfl (by kernel_rfl) ?_
    obtain ⟨_, hr_⟩ := (si.f6.Ac5 m5)
    refine Aw Afp F si.f6 Am6 rfl rfl rfl rfl hr_ rfl rfl hl rfl fun va we _ F sj => ?_
    have s10860618' := sj.f5.drop
    refine gw 1 F rfl fun _ F => ⟨s10860618'.drop.f4.drop, ?_⟩
    refine hq [8, 9] F s10860618'.drop.f4.drop (QI.ev 2 rfl <| QI.nil) (by kernel_rfl) fun _ F => ?_
    refine ho 10 rfl (by kernel_rfl) ?_
    have sk := s10860618'.f5
    refine Ay F sk rfl rfl AKg (Ag (fO sk m1)) (Aq (fO sk m1)) rfl fun wf _ F sl => gw 1 F rfl fun _ F => ⟨sl.drop.drop, ?_⟩
    refine Aew (by kernel_rfl) ?_
    refine ge 1 F rfl fun _ F => Ad4 Abj sl.drop ?_
    have sm := sl.drew
    refine hq [0, 1, 2, 3, 5, 6, 7] F sm.drop (QI.ev 6 rfl <| QI.ld m2 rfl <| QI.nil) (by kernel_rfl) fun _ F => ?_
    refine ho 4 rfl (by kernel_rfl) ?_
    refine Ki F sm m0 1 rfl fun _ F => ⟨sm.drop, ?_⟩
    refine hq [8, 9, 10] F sm.drop (QI.op rfl (fun _ hC => ALm rfl rfl) rfl <| QI.ev 2 rfl <| QI.nil) (by kernel_rfl) fun _ F => ?_
    refine ho 11 rfl (by kernel_rfl) ?_
    refine Ay F sm rfl rfl Anj rfl rfl rfl fun wg _ F sn => gw 1 F rfl fun _ F => ⟨sn.drop, ?_⟩
    refine Aew (by kernel_rfl) ?_
    cases H
    exact ge 6 F rfl fun _ F => ⟨_, rfl, va, F.sb, sn.f2.drop.f2.drop.f1.f3.f3.f3⟩
   refine ho2 4 6 rfl rfl (by kernel_rfl) ?_ ?_
   ·refine Ki F sh m2 1 rfl fun _ F => ⟨sh.f2.drop.f4.drop, ?_⟩
    refine ho 6 rfl (by kernel_rfl) ?_
    refine Ae (parts := [(0, .tmp 66)]) Afp ([(⟨x4.1.At, x4.1.Op, x4.1.A, x4.1.B⟩ : CO)] : List CO) F sh Am6 rfl (by decide) rfl rfl rfl (by simp [Value.cells]) rfl rfl rfl fun v9 wh _ F so => ?_
    exact gw 1 F rfl fun _ F => ⟨so.drop.f2.drop.f4.drop, hto hD0 ⟨v9, F.sb, so.f6.f4.f2.f6.f6.f6.f6⟩ (by kernel_rfl)⟩
   refine Ae (parts := [(0, .tmp 66)]) Afp ([(⟨x4.1.At, x4.1.Op, x4.1.A, x4.1.B⟩ : CO)] : List CO) F sh Am6 rfl (by decide) rfl rfl rfl (by simp [Value.cells]) rfl rfl rfl fun v9 wh _ F so => ?_
   refine gw 1 F rfl fun _ F => ⟨so.drop.f2.drop.f4.drop, ?_⟩
   refine ho 4 rfl (by kernel_rfl) ?_
   exact Ki F so m3 1 rfl fun _ F => ⟨so.drop.f2.drop.f4.drop, hto hD0 ⟨v9, F.sb, so.f6.f4.f2.f6.f6.f6.f6⟩ (by kernel_rfl)⟩
  cases H
  obtain rfl := hr _ rfl
  exact ⟨v8, F.sb, sa.f1.drop.f1.drop⟩
 intro _ wi hJ
 obtain ⟨v7, F, sp⟩ := hJ
 have H := R0
 clear R0 H0
 cases H
 exact ge 10 F rfl fun _ F => rt F ⟨_, rfl, (SL.ABt (qs := [Cw g2 81 [v7, jI o0.2], Sl Abq v7 o0.1]) ⟨g2, v7, rfl, rfl⟩ sp.f1.f1)⟩
theorem A1o {w : World} {FF : List Nat} {g0 : Nat} {v0_0 : Value} {a0 : Ads} {r : (List Int)} (hst : Acd [Cw g0 81 [v0_0, jI a0.Ae3], Sl Abq v0_0 a0.l] w FF) (H : Anl a0 = some r) :
    Calls prog 27 #[jP g0] w (Ret fun u_ w_ => ∃ u0 : Value, u_ = u0 ∧ SL w FF w_ [Cw g0 81 [v0_0, jI a0.Ae3], Sl Abq v0_0 a0.l, Sl (Ty.int .i64) u0 r]) := by
 have s0 : SL w FF w [Cw g0 81 [v0_0, jI a0.Ae3], Sl Abq v0_0 a0.l] := SL.init w FF hst
 refine cin func27 ntmps27 16 rfl rfl rfl fun _ F => ?_
 unfold Anl at H
 refine Ki F s0 m0 0 rfl fun _ F => ?_
 obtain ⟨o0, H0, R0⟩ := Aa H
 clear H
 refine gx F (Ah rfl underlying75 (fO s0 m1)) 3 rfl rfl fun _ F => Acs (fun a w_ => ∃ v0 : Value, Fr a 28 [(3, v0)] ∧ SL w FF w_ [Cw g0 81 [v0_0, jI a0.Ae3], Sl Abq v0_0 a0.l, Sl (Ty.int .i64) v0 o0]) ?_ ?_
 ·have H := H0
  refine gc 1 F rfl fun _ F => lpk (Aim a0) (fun s1 a w_ => ∃ v1 : Value, Fr a 28 [(3, v1), (9, v0_0), (10, jI (a0.l.length : Int)), (11, jI s1.2)] ∧ SL w FF w_ [Cw g0 81 [v0_0, jI a0.Ae3], Sl Abq v0_0 a0.l, Sl (Ty.int .i64) v1 s1.1]) H ?_ ?_
  ·exact ⟨(.slice none 0 0), F.sb, (SL.Ac3 (T := (Ty.int .i64)) s0).f2.f2⟩
  intro s1 _ w0 h0 o1 H hr
  obtain ⟨v1, F, s2⟩ := h0
  replace H : Aim a0 s1 = some o1 := H
  unfold Aim at H
  refine gc 6 F rfl fun _ F => Ll F H 6 4 rfl rfl rfl (fun h1 H _ F => ?_) (fun h1 H _ F => ?_)
  ·obtain ⟨x0, h2, H⟩ := Aa H
   obtain ⟨a1, h3, h4⟩ := Ax Afp s2 m1 Am6 rfl h2
   refine gi F h3 0 rfl fun _ F => gx F (Av Agw rfl (SL.Aef Afp s2 m1 h4 h2) rfl) 0 rfl rfl fun _ F => Af F s2 Agp rfl rfl fun g1 w1 _ F s3 => Ai F s3 rfl rfl Af1 (Ab rfl (Ab rfl (Ab rfl (Ab rfl Ap)))) (Ac rfl) fun w2 _ F s4 => gw 5 F rfl fun _ F => Ki F s4 m0 3 rfl fun _ F => Ll F H 3 7 rfl rfl rfl (fun h5 H _ F => ?_) (fun h5 H _ F => ?_)
   ·refine Ki F s4 m0 0 rfl fun _ F => ?_
    refine Ae (parts := [(0, .tmp 20)]) (Flat.int .i64) ([x0.A] : List Int) F s4 Abt rfl (by decide) rfl rfl rfl (by simp [Value.cells]) rfl rfl rfl fun v2 w3 _ F s5 => ?_
    obtain ⟨x1, h6, H⟩ := Aa H
    obtain ⟨_, hr_⟩ := (s5.f4.Ac5 m1)
    refine Aw (Flat.int .i64) F s5.f4 Abt rfl rfl rfl rfl hr_ rfl rfl h6 rfl fun v3 w4 _ F s6 => ?_
    have s3264' := s6.f1.drop
    cases H
    exact gw 8 F rfl fun _ F => ⟨_, rfl, v3, F.sb, s3264'.f1.drop.f2.f2⟩
   cases H
   exact ⟨_, rfl, v1, F.sb, s4.drop⟩
  cases H
  obtain rfl := hr _ rfl
  exact ⟨v1, F.sb, s2⟩
 intro _ w5 hJ
 obtain ⟨v0, F, s7⟩ := hJ
 have H := R0
 clear R0 H0
 obtain ⟨x2, h7, H⟩ := Aa H
 obtain ⟨G0, h8, h9, ha, hb⟩ := SL.open_ (ps := [Sl (Ty.int .i64) v0 o0]) (rest := [Cw g0 81 [v0_0, jI a0.Ae3], Sl Abq v0_0 a0.l]) s7.f2
 refine ge 4 F rfl fun _ F => As (args := [.tmp 24]) F A2z rfl (A5e Ax8 h8 h7) rfl fun v4 w6 _ hc F => ?_
 obtain ⟨rfl, hd⟩ := hc
 have s8 := hb _ _ hd
 obtain ⟨x3, he, H⟩ := Aa H
 obtain ⟨G1, hf, hg, hh, hi⟩ := SL.open_ (ps := [Sl (Ty.int .i64) v0 x2]) (rest := [Cw g0 81 [v0_0, jI a0.Ae3], Sl Abq v0_0 a0.l]) s8
 refine gw 5 F rfl fun _ F => As (args := [.tmp 26]) F ACn rfl (A31 A00 hf he) rfl fun v5 w7 _ hj F => ?_
 have s9 := hi _ _ hj
 cases H
 exact gw 4 F rfl fun _ F => rt F ⟨v5, rfl, s9.f2.f2⟩
theorem A85 {w : World} {v0_1 v0_2 v0_3 : Value} {a0 : LK} {a1 : Int} {r : (List Int) × Int × Int} (hr0_1 : Rd Hw w [] v0_1 a0.Classes) (hr0_2 : Rd Ado w [] v0_2 a0.Funcs) (hr0_3 : Rd (Ty.slice Ty.u8) w [] v0_3 a0.Adm) (H : Avc a0 a1 = some r) :
    Calls prog 13 #[.agg ⟨[.string ⟨⟨a0.Name⟩⟩, v0_1, v0_2, v0_3]⟩, jI a1] w (Ret fun u_ w_ => ∃ u0 : Value, u_ = .tuple ⟨[u0, jI r.2.1, jI r.2.2]⟩ ∧ SL w [] w_ [Sl (Ty.int .i64) u0 r.1]) := by
 have s0 : SL w [] w [] := SL.Abr w
 refine cin func13 ntmps13 2 rfl rfl rfl fun _ F0 => ?_
 unfold Avc at H
 refine Ar F0 s0 rfl rfl rfl fun g8 w9 _ F s1 => ?_
 obtain ⟨x0, h0, H⟩ := Aa H
 refine gw 7 F rfl fun _ F => Ki F s1 m0 1 rfl fun _ F => std F (Axn (a0 := (⟨a0.Name, a0.Classes, a0.Funcs, a0.Adm⟩ : LK)) (hr0_1.M3 s1) (hr0_2.M3 s1) (hr0_3.M3 s1) h0) fun v0 w0 _ h1 F => ?_
 obtain ⟨v1, rfl, h2⟩ := h1
 have s2 := s1.add h2
 refine gw 16 F rfl fun _ F => Ll F H 11 3 rfl rfl rfl (fun h3 H _ F => ?_) (fun h3 H _ F => ?_)
 ·cases H
  exact rt F ⟨(.slice none 0 0), rfl, (SL.Ac3 (T := (Ty.int .i64)) s2).f1.drop.f1.drop⟩
 obtain ⟨x1, h4, H⟩ := Aa H
 obtain ⟨_, ⟨g0, v2, rfl, rfl⟩, s3⟩ := SL.A3k s2 h4
 obtain ⟨x2, h5, H⟩ := Aa H
 obtain ⟨G0, h6, h7, h8, h9⟩ := SL.open_ (ps := [Cw g0 81 [v2, jI x1.Ae3], Sl Abq v2 x1.l]) (rest := [Cw g8 26 [.string ⟨⟨a0.Name⟩⟩, v0_1, v0_2, v0_3]]) s3.f1.f1
 refine gc 2 F rfl fun _ F => std F (A1o (a0 := (⟨x1.l, x1.Ae3⟩ : Ads)) h6 h5) fun v3 w1 _ ha F => ?_
 obtain ⟨_, rfl, hb⟩ := ha
 have s4 := h9 _ _ hb
 cases H
 exact gw 6 F rfl fun _ F => rt F ⟨v3, rfl, s4.drop.drop.f1.drop⟩
theorem A1e {w : World} {v0_1 v0_2 v0_3 : Value} {a0 : LK} {a1 : Int} {r : GG × Bool} {wb : World} {Fb : List Nat} (hb : Fm wb Fb w) (hB : ∀ k ∈ ([] : List Nat), k ∈ Fb ∨ wb.heap.size ≤ k) (hr0_1 : Rd Hw wb Fb v0_1 a0.Classes) (hr0_2 : Rd Ado wb Fb v0_2 a0.Funcs) (hr0_3 : Rd (Ty.slice Ty.u8) wb Fb v0_3 a0.Adm) (H : Anq a0 a1 = some r) :
    Calls prog 55 #[.agg ⟨[.string ⟨⟨a0.Name⟩⟩, v0_1, v0_2, v0_3]⟩, jI a1] w (Ret fun u_ w_ => ∃ u0 u1 : Value, u_ = .tuple ⟨[.agg ⟨[u0, u1, jI r.1.Fn]⟩, .bool r.2]⟩ ∧ Adc Hw v0_1 a0.Classes u0 r.1.Classes ∧ SL w [] w_ [Sl (Ag6 wb Fb) u1 r.1.OS]) := by
 have s0 : SL w [] w [] := SL.Abr w
 refine cin func55 ntmps55 2 rfl rfl rfl fun _ F0 => ?_
 unfold Anq at H
 refine Ar F0 s0 rfl rfl rfl fun g0 w0 _ F s1 => Af F s1 Aj5 rfl rfl fun g1 w2 _ F s2 => gw 9 F rfl fun _ F => bsp 10 F H (fun h0 H F => ?_) (fun h0 H F => ?_)
 ·refine gw 11 F rfl fun _ F => gx F (Al (vs := []) Aj5 Auz rfl (cs := [.slice none 0 0, .slice none 0 0, jI 0]) (rfl)) 0 rfl rfl fun _ F => Ai F s2 rfl rfl Aoq (Ab rfl (Ab rfl (Ab rfl Ap))) (Ac rfl) fun w3 _ F s3 => ?_
  cases H
  refine gw 5 F rfl fun _ F => ?_
  refine Ak (rs := [.cell 4 110, .tmp 5]) (vs := [.agg ⟨[.slice none 0 0, .slice none 0 0, jI 0]⟩, .bool false]) F (by rfl) ⟨_, _, rfl, Am s3 m0 rfl Art rfl, _, _, rfl, Ao rfl, rfl⟩ ⟨_, rfl, ⟨(.slice none 0 0), (.slice none 0 0), rfl, Adc.nil, (SL.Ac3 (T := (Ag6 wb Fb)) s3).f1.drop.f1.drop⟩⟩
 refine gw 2 F rfl fun _ F => Lm F rfl rfl <| Ki F s2 m1 0 rfl fun _ F => Lm F rfl rfl <| gx F (Ah rfl underlying23 (Ao3 (rdL hr0_2 (SL.up hb hB s2)))) 4 rfl rfl fun _ F => Ll F H 2 5 rfl rfl rfl (fun h1 H _ F => ?_) (fun h1 H _ F => ?_)
 ·refine gx F (Al (vs := []) Aj5 Auz rfl (cs := [.slice none 0 0, .slice none 0 0, jI 0]) (rfl)) 0 rfl rfl fun _ F => Ai F s2 rfl rfl Aoq (Ab rfl (Ab rfl (Ab rfl Ap))) (Ac rfl) fun w4 _ F s4 => ?_
  cases H
  refine gw 5 F rfl fun _ F => ?_
  refine Ak (rs := [.cell 4 110, .tmp 5]) (vs := [.agg ⟨[.slice none 0 0, .slice none 0 0, jI 0]⟩, .bool false]) F (by rfl) ⟨_, _, rfl, Am s4 m0 rfl Art rfl, _, _, rfl, Ao rfl, rfl⟩ ⟨_, rfl, ⟨(.slice none 0 0), (.slice none 0 0), rfl, Adc.nil, (SL.Ac3 (T := (Ag6 wb Fb)) s4).f1.drop.f1.drop⟩⟩
 have h2 := (Ao3 (rdL hr0_1 (SL.up hb hB s2)))
 refine Ki F s2 m1 1 rfl fun _ F => ?_
 refine gx F (Al (vs := [v0_1, jI a1]) Aj5 Auz rfl (cs := [v0_1, .slice none 0 0, jI a1]) (by obtain ⟨_, _, e_0⟩ := h2; rw [e_0] <;> rfl)) 0 rfl rfl fun _ F => ?_
 refine Af F s2 Aj5 rfl rfl fun g2 w5 _ F s5 => Ai F s5 rfl rfl Aoq (Ab (Aq (Ao3 (rdL hr0_1 (SL.up hb hB s5)))) (Ab rfl (Ab rfl Ap))) (Ac rfl) fun w6 _ F s6 => ?_
 obtain ⟨o0, H0, R0⟩ := Aa H
 clear H
 refine gw 8 F rfl fun _ F => Acs (fun a w_ => ∃ v0 : Value, Fr a 41 [(4, jP g1), (6, jP g2)] ∧ SL w [] w_ [Cw g2 110 [v0_1, v0, jI a1], Cw g1 110 [.slice none 0 0, .slice none 0 0, jI 0], Sl (Ag6 wb Fb) v0 o0]) ?_ ?_
 ·have H := H0
  refine gc 1 F rfl fun _ F => lpk (Ajs a0) (fun s7 a w_ => ∃ v1 : Value, Fr a 41 [(2, jP g0), (4, jP g1), (6, jP g2), (7, jI s7.2)] ∧ SL w [] w_ [Cw g2 110 [v0_1, v1, jI a1], Cw g1 110 [.slice none 0 0, .slice none 0 0, jI 0], Cw g0 26 [.string ⟨⟨a0.Name⟩⟩, v0_1, v0_2, v0_3], Sl (Ag6 wb Fb) v1 s7.1]) H ?_ ?_
  ·exact ⟨(.slice none 0 0), F.sb, (SL.Ac3 (T := (Ag6 wb Fb)) s6).f3.f3.f3⟩
  intro s7 _ w7 h3 o1 H hr
  obtain ⟨v1, F, s8⟩ := h3
  replace H : Ajs a0 s7 = some o1 := H
  unfold Ajs at H
  refine gc 5 F rfl fun _ F => Ki F s8 m2 0 rfl fun _ F => gx F (Ah rfl underlying23 (Ao3 (rdL hr0_2 (SL.up hb hB s8)))) 3 rfl rfl fun _ F => Ll F H 4 4 rfl rfl rfl (fun h4 H _ F => ?_) (fun h4 H _ F => ?_)
  ·obtain ⟨x0, h5, H⟩ := Aa H
   obtain ⟨x1, h6, H⟩ := Aa H
   refine Ad4 Abj s8.drop.f2.drop ?_
   have s9 := s8.drew
   obtain ⟨a2, c0, G0, h7, h8, h9, ha⟩ := Rd.idx hr0_2 Api rfl h5
   obtain ⟨v2, v3, rfl, hc, hd⟩ := (An9 h9 ha)
   have hc5868_ := h8; clear h8; have h8 := fun w_ (hC : SL w [] w_ [Cw g1 110 [.slice none 0 0, .slice none 0 0, jI 0], Cw g0 26 [.string ⟨⟨a0.Name⟩⟩, v0_1, v0_2, v0_3]]) => hc5868_ _ _ (SL.up hb hB hC)
   refine hq [0, 2, 3, 4, 5, 6, 7] F s9.drop.f2.drop (QI.ev 2 rfl <| QI.ld m1 rfl <| QI.ev 1 rfl <| QI.ix h7 rfl <| QI.op rfl (fun _ hC => Ba AGu rfl) rfl <| QI.op rfl (fun _ hC => Av Aot rfl (Abe.sub (h8 _ hC) 1 (ds := [v2, jU (x0.Sig.Result.toNat : Int)]) (Aw8 _ rfl)) rfl) rfl <| QI.nil) (by kernel_rfl) fun _ F => ?_
   refine Aes [0, 1, 2, 3, 4, 5, 6, 7, 8] (fun a w_ => ∃ v4 : Value, Fr a 41 [(2, jP g0), (4, jP g1), (6, jP g2), (7, jI s7.2), (30, v1), (37, v4)] ∧ SL w [] w_ [Cw g1 110 [.slice none 0 0, .slice none 0 0, jI 0], Cw g0 26 [.string ⟨⟨a0.Name⟩⟩, v0_1, v0_2, v0_3], Sl (Ag6 wb Fb) v4 ([(⟨x0.Sig.Abs, x0.Sig.Result⟩ : Aa6)] : List Aa6), Cw g2 110 [v0_1, v1, jI a1], Sl (Ag6 wb Fb) v1 s7.1]) ?_ fun hD0 => ?_
   ·rintro a w_ ⟨v4, F, sa⟩
    refine ho 9 rfl (by kernel_rfl) ?_
    refine Bh F sa.f2.f4 Ahb rfl rfl rfl rfl rfl rfl h6 rfl fun v5 w8 _ F sc => gw 1 F rfl fun _ F => ⟨sc.drop.f2.drop, ?_⟩
    refine hq [10] F sc.drop.f2.drop (QI.ev 1 rfl <| QI.nil) (by kernel_rfl) fun _ F => ?_
    refine ho 11 rfl (by kernel_rfl) ?_
    refine Ay F sc.f3 rfl rfl A9q (Ag (fO sc.f3 m1)) (Aq (fO sc.f3 m1)) rfl fun w9 _ F sd => gw 1 F rfl fun _ F => ⟨sd.drop.drop, ?_⟩
    refine Aew (by kernel_rfl) ?_
    cases H
    exact ge 7 F rfl fun _ F => ⟨_, rfl, v5, F.sb, sd.f1.f3.f3.f3⟩
   refine ho2 1 8 rfl rfl (by kernel_rfl) ?_ ?_
   ·refine Ki F s9 m0 1 rfl fun _ F => ⟨s9.drop.f2.drop, ?_⟩
    refine ho 8 rfl (by kernel_rfl) ?_
    have se : SL w [] _ (Dt (Ag6 wb Fb) (⟨x0.Sig.Abs, x0.Sig.Result⟩ : Aa6) [v2, jU (x0.Sig.Result.toNat : Int)] :: [Cw g2 110 [v0_1, v1, jI a1], Cw g1 110 [.slice none 0 0, .slice none 0 0, jI 0], Cw g0 26 [.string ⟨⟨a0.Name⟩⟩, v0_1, v0_2, v0_3], Sl (Ag6 wb Fb) v1 s7.1]) := (SL.Ayp (f := Ajo) (x := (⟨x0.Sig.Abs, x0.Sig.Result⟩ : Aa6)) (SL.Ao4 (SL.AJ9 (T := Ty.u8) (w1 := wb) (F1 := Fb) (SL.Aqy s9 Flat.u8 x0.Sig.Result) hc)))
    refine Bd F se Ahb rfl (by decide) rfl rfl rfl fun v4 wa _ F sf => ?_
    exact gw 1 F rfl fun _ F => ⟨sf.drop.drop.f2.drop, hto hD0 ⟨v4, F.sb, sf.f4.f2.f2.f4.f4⟩ (by kernel_rfl)⟩
   have se : SL w [] _ (Dt (Ag6 wb Fb) (⟨x0.Sig.Abs, x0.Sig.Result⟩ : Aa6) [v2, jU (x0.Sig.Result.toNat : Int)] :: [Cw g2 110 [v0_1, v1, jI a1], Cw g1 110 [.slice none 0 0, .slice none 0 0, jI 0], Cw g0 26 [.string ⟨⟨a0.Name⟩⟩, v0_1, v0_2, v0_3], Sl (Ag6 wb Fb) v1 s7.1]) := (SL.Ayp (f := Ajo) (x := (⟨x0.Sig.Abs, x0.Sig.Result⟩ : Aa6)) (SL.Ao4 (SL.AJ9 (T := Ty.u8) (w1 := wb) (F1 := Fb) (SL.Aqy s9 Flat.u8 x0.Sig.Result) hc)))
   refine Bd F se Ahb rfl (by decide) rfl rfl rfl fun v4 wa _ F sf => ?_
   refine gw 1 F rfl fun _ F => ⟨sf.drop.drop.f2.drop, ?_⟩
   refine ho 1 rfl (by kernel_rfl) ?_
   exact Ki F sf m1 1 rfl fun _ F => ⟨sf.drop.drop.f2.drop, hto hD0 ⟨v4, F.sb, sf.f4.f2.f2.f4.f4⟩ (by kernel_rfl)⟩
  cases H
  obtain rfl := hr _ rfl
  exact ⟨v1, F.sb, s8.f2.drop⟩
 intro _ wc hJ
 obtain ⟨v0, F, sg⟩ := hJ
 have H := R0
 clear R0 H0
 refine ge 3 F rfl fun _ F => Ki F sg m0 0 rfl fun _ F => Ai F sg.f1 rfl rfl Aoq (Ab (Aq (Ao3 (rdL hr0_1 (SL.up hb hB sg.f1)))) (Ab (Aq (fO sg.f1 m2)) (Ab rfl Ap))) (Ac rfl) fun wd _ F sh => ?_
 cases H
 refine gw 4 F rfl fun _ F => ?_
 refine Ak (rs := [.cell 4 110, .tmp 5]) (vs := [.agg ⟨[v0_1, v0, jI a1]⟩, .bool true]) F (by rfl) ⟨_, _, rfl, Am sh m0 rfl Art rfl, _, _, rfl, Ao rfl, rfl⟩ ⟨_, rfl, ⟨v0_1, v0, rfl, Adc.refl, sh.drop.drop⟩⟩
theorem Auq {w : World} {v0 : Value} {a0 : List BV} {a1 : Int} {r : (List Int)} (hr0 : Rd Hw w [] v0 a0) (H : Ak3 a0 a1 = some r) :
    Calls prog 126 #[v0, jI a1] w (Ret fun u_ w_ => ∃ u0 : Value, u_ = u0 ∧ SL w [] w_ [Sl (Ty.int .i64) u0 r]) := by
 have s0 : SL w [] w [] := SL.Abr w
 refine cin func126 ntmps126 11 rfl rfl rfl fun _ F4 => ?_
 unfold Ak3 at H
 obtain ⟨o0, H0, R0⟩ := Aa H
 clear H
 refine Acs (fun a w_ => ∃ v1 : Value, Fr a 31 [(5, v1)] ∧ SL w [] w_ [Sl (Ty.int .i64) v1 o0]) ?_ ?_
 ·have H := H0
  refine gc 1 F4 rfl fun _ F4 => lpk (Agq a0) (fun s1 a w_ => ∃ v2 : Value, Fr a 31 [(0, v0), (1, jI s1.1), (5, v2)] ∧ SL w [] w_ [Sl (Ty.int .i64) v2 s1.2]) H ?_ ?_
  ·exact ⟨(.slice none 0 0), F4.sb, (SL.Ac3 (T := (Ty.int .i64)) s0)⟩
  intro s1 _ w0 h0 o1 H hr
  obtain ⟨v2, F, s2⟩ := h0
  replace H : Agq a0 s1 = some o1 := H
  unfold Agq at H
  refine gc 6 F rfl fun _ F => bsp 8 F H (fun h1 H F => ?_) (fun h1 H F => ?_)
  ·refine gw 2 F rfl fun _ F => Lm F rfl rfl <| gx F (Ah rfl underlying22 (fR hr0 s2)) 3 rfl rfl fun _ F => bsp 14 F H (fun h2 H F => ?_) (fun h2 H F => ?_)
   ·refine gw 1 F rfl fun _ F => Lm F rfl rfl <| gx F (Ah rfl underlying28 (fO s2 m0)) 1 rfl rfl fun _ F => Lm F rfl rfl <| gx F (Ah rfl underlying22 (fR hr0 s2)) 4 rfl rfl fun _ F => Ll F H 7 4 rfl rfl rfl (fun h3 H _ F => ?_) (fun h3 H _ F => ?_)
    ·refine Ae (parts := [(0, .tmp 22)]) (Flat.int .i64) ([s1.1] : List Int) F s2 Abt rfl (by decide) rfl rfl rfl (by simp [Value.cells]) rfl rfl rfl fun v3 w1 _ F s3 => ?_
     obtain ⟨x0, h4, H⟩ := Aa H
     obtain ⟨_, hr_⟩ := (s3.f1.Ac5 m1)
     refine Aw (Flat.int .i64) F s3.f1 Abt rfl rfl rfl rfl hr_ rfl rfl h4 rfl fun v4 w2 _ F s4 => ?_
     have s1102' := s4.f1.drop
     obtain ⟨x1, h5, H⟩ := Aa H
     obtain ⟨a2, c0, G0, h6, h7, h8, h9⟩ := Rd.idx hr0 Af2 rfl h5
     refine gw 4 F rfl fun _ F => ?_
     obtain ⟨v5, rfl, ha⟩ := (Ael h8 h9)
     replace h7 := h7 _ _ s1102'
     refine gw 2 F rfl fun _ F => gi F h6 0 rfl fun _ F => gx F (Ba Aln rfl) 0 rfl rfl fun _ F => ?_
     cases H
     exact gx F (An Acx rfl (Abe.at_ h7 (o := 1) rfl)) 3 rfl rfl fun _ F => ⟨_, rfl, v4, F.sb, s1102'⟩
    cases H
    obtain rfl := hr _ rfl
    exact ⟨v2, F.sb, s2⟩
   cases H
   obtain rfl := hr _ rfl
   exact gw 13 F rfl fun _ F => ⟨v2, F.sb, s2⟩
  cases H
  obtain rfl := hr _ rfl
  exact gw 19 F rfl fun _ F => ⟨v2, F.sb, s2⟩
 intro _ w3 hJ
 obtain ⟨v1, F, s5⟩ := hJ
 have H := R0
 clear R0 H0
 cases H
 exact ge 8 F rfl fun _ F => rt F ⟨v1, rfl, s5⟩
theorem Akk {w : World} {v0 : Value} {a0 : List BV} {a1 : Int} {r : (List Acg)} (hr0 : Rd Hw w [] v0 a0) (H : Afq a0 a1 = some r) :
    Calls prog 101 #[v0, jI a1] w (Ret fun u_ w_ => ∃ u0 : Value, u_ = u0 ∧ SL w [] w_ [Sl Ad8 u0 r]) := by
 have s0 : SL w [] w [] := SL.Abr w
 refine cin func101 ntmps101 9 rfl rfl rfl fun _ F => ?_
 unfold Afq at H
 obtain ⟨x0, h0, H⟩ := Aa H
 refine std F (Auq (hr0.M3 s0) h0) fun v1 w0 _ h1 F => ?_
 obtain ⟨_, rfl, h2⟩ := h1
 have s1 := s0.add h2
 refine gw 12 F rfl fun _ F => ?_
 obtain ⟨o0, H0, R0⟩ := Aa H
 clear H
 refine gx F (Ah rfl underlying28 (fO s1 m0)) 4 rfl rfl fun _ F => Acs (fun a w_ => ∃ v2 : Value, Fr a 29 [(6, v2)] ∧ SL w [] w_ [Sl Ad8 v2 o0]) ?_ ?_
 ·have H := H0
  refine gc 1 F rfl fun _ F => lpk (Aj1 a0 x0) (fun s2 a w_ => ∃ v3 : Value, Fr a 29 [(0, v0), (5, v1), (6, v3), (7, jI s2.2)] ∧ SL w [] w_ [Sl (Ty.int .i64) v1 x0, Sl Ad8 v3 s2.1]) H ?_ ?_
  ·exact ⟨(.slice none 0 0), F.sb, (SL.Ac3 (T := Ad8) s1).f1⟩
  intro s2 _ w1 h3 o1 H hr
  obtain ⟨v3, F, s3⟩ := h3
  replace H : Aj1 a0 x0 s2 = some o1 := H
  unfold Aj1 at H
  refine gc 7 F rfl fun _ F => Ll F H 5 4 rfl rfl rfl (fun h4 H _ F => ?_) (fun h4 H _ F => ?_)
  ·obtain ⟨x1, h5, H⟩ := Aa H
   obtain ⟨a2, h6, h7⟩ := Ax (Flat.int .i64) s3 m0 Abt rfl h5
   obtain ⟨x2, h8, H⟩ := Aa H
   obtain ⟨a3, c0, G0, h9, ha, hb, hc⟩ := Rd.idx hr0 Af2 rfl h8
   obtain ⟨v4, rfl, hd⟩ := (Ael hb hc)
   replace ha := ha _ _ s3
   obtain ⟨x3, he, H⟩ := Aa H
   refine gw 4 F rfl fun _ F => gi F h6 0 rfl fun _ F => gx F (An Acx rfl (Abe.at_ (SL.Aef (Flat.int .i64) s3 m0 h7 h5) (o := 0) rfl)) 0 rfl rfl fun _ F => gi F h9 0 rfl fun _ F => gx F (Ba Ap4 rfl) 0 rfl rfl fun _ F => gx F (An Arj rfl (Abe.at_ ha (o := 2) rfl)) 0 rfl rfl fun _ F => ?_
   obtain ⟨_, hr_⟩ := (rdL hd s3.f1)
   refine Aw Agh F s3.f1 Aks rfl rfl rfl rfl hr_ rfl rfl he rfl fun v5 w2 _ F s4 => ?_
   cases H
   exact gw 9 F rfl fun _ F => ⟨_, rfl, v5, F.sb, s4.f1⟩
  cases H
  obtain rfl := hr _ rfl
  exact ⟨v3, F.sb, s3.drop⟩
 intro _ w3 hJ
 obtain ⟨v2, F, s5⟩ := hJ
 have H := R0
 clear R0 H0
 cases H
 exact ge 8 F rfl fun _ F => rt F ⟨v2, rfl, s5⟩
theorem Ah2 {w : World} {v0 : Value} {a0 : List BV} {a1 : UInt8} {r : Bool} (hr0 : Rd Hw w [] v0 a0) (H : Aff a0 a1 = some r) :
    Calls prog 145 #[v0, jU (a1.toNat : Int)] w (Ret fun u_ w_ => u_ = .bool r ∧ SL w [] w_ []) := by
 have s0 : SL w [] w [] := SL.Abr w
 refine cin func145 ntmps145 10 rfl rfl rfl fun _ F => ?_
 unfold Aff at H
 refine bsp 7 F H (fun h0 H F => ?_) (fun h0 H F => ?_)
 ·cases H
  exact gw 15 F rfl fun _ F => rt F ⟨rfl, s0⟩
 refine gw 3 F rfl fun _ F => bsp 10 F H (fun h1 H F => ?_) (fun h1 H F => ?_)
 ·refine gw 1 F rfl fun _ F => Lm F rfl rfl <| gx F (Ayr rfl rfl) 0 rfl rfl fun _ F => Lm F rfl rfl <| gx F (Arl rfl underlying48 underlying3) 1 rfl rfl fun _ F => Lm F rfl rfl ?_
  cases H
  exact gx F (Ah rfl underlying22 (fR hr0 s0)) 7 rfl rfl fun _ F => rt F ⟨rfl, s0⟩
 cases H
 exact gw 12 F rfl fun _ F => rt F ⟨rfl, s0⟩
theorem Aph {w : World} {v0 : Value} {a0 : List BV} {a1 : UInt8} {r : Bool} (hr0 : Rd Hw w [] v0 a0) (H : Aig a0 a1 = some r) :
    Calls prog 144 #[v0, jU (a1.toNat : Int)] w (Ret fun u_ w_ => u_ = .bool r ∧ SL w [] w_ []) := by
 have s0 : SL w [] w [] := SL.Abr w
 refine cin func144 ntmps144 9 rfl rfl rfl fun _ F => ?_
 unfold Aig at H
 obtain ⟨x0, h0, H⟩ := Aa H
 refine gca F s0 (Ah2 (hr0.M3 s0) h0) 1 rfl rfl rfl rfl fun w0 _ F s1 => bsp 8 F H (fun h1 H F => ?_) (fun h1 H F => ?_)
 ·refine gw 4 F rfl fun _ F => bsp 12 F H (fun h2 H F => ?_) (fun h2 H F => ?_)
  ·cases H
   exact gw 7 F rfl fun _ F => rt F ⟨rfl, s1⟩
  cases H
  exact gw 7 F rfl fun _ F => rt F ⟨rfl, s1⟩
 cases H
 exact gw 11 F rfl fun _ F => rt F ⟨rfl, s1⟩
theorem Ate {w : World} {a0 : List UInt8} {r : Bool} (H : Ajr a0 = some r) :
    Calls prog 167 #[.string ⟨⟨a0⟩⟩] w (Ret fun u_ w_ => u_ = .bool r ∧ SL w [] w_ []) := by
 have s0 : SL w [] w [] := SL.Abr w
 refine cin func167 ntmps167 9 rfl rfl rfl fun _ F => ?_
 unfold Ajr at H
 refine gx F (Ar5 rfl underlying9) 2 rfl rfl fun _ F => bsp 9 F H (fun h0 H F => ?_) (fun h0 H F => ?_)
 ·cases H
  exact gw 14 F rfl fun _ F => rt F ⟨rfl, s0⟩
 refine gw 1 F rfl fun _ F => Lm F rfl rfl <| gx F (Ar5 rfl underlying9) 4 rfl rfl fun _ F => Ll F H 7 8 rfl rfl rfl (fun h1 H _ F => ?_) (fun h1 H _ F => ?_)
 ·cases H
  exact rt F ⟨rfl, s0⟩
 obtain ⟨o0, H0, R0⟩ := Aa H
 clear H
 refine Acs (fun a w_ => ∃ p0 : Unit, o0 = .inr (p0) ∧ Fr a 55 [] ∧ SL w [] w_ []) ?_ ?_
 ·have H := H0
  refine gc 1 F rfl fun _ F => lpk (Aib a0) (fun s1 a w_ => Fr a 55 [(0, .string ⟨⟨a0⟩⟩), (3, jI s1)] ∧ SL w [] w_ []) H ?_ ?_
  ·exact ⟨F.sb, s0⟩
  intro s1 _ w0 h2 o1 H hr
  obtain ⟨F, s2⟩ := h2
  replace H : Aib a0 s1 = some o1 := H
  unfold Aib at H
  refine gc 5 F rfl fun _ F => gx F (Ar5 rfl underlying9) 3 rfl rfl fun _ F => Ll F H 8 4 rfl rfl rfl (fun h3 H _ F => ?_) (fun h3 H _ F => ?_)
  ·obtain ⟨x0, h4, H⟩ := Aa H
   obtain ⟨o2, H1, R1⟩ := Aa H
   clear H
   refine gx F (ACp rfl rfl underlying9 h4) 4 rfl rfl fun _ F => Acs (fun a w_ => Fr a 55 [(0, .string ⟨⟨a0⟩⟩), (3, jI s1), (4, jU (x0.toNat : Int)), (5, .bool o2)] ∧ SL w [] w_ []) ?_ ?_
   ·have H := H1
    refine gc 4 F rfl fun _ F => bsp 25 F H (fun h5 H F => ?_) (fun h5 H F => ?_)
    ·refine gw 4 F rfl fun _ F => bsp 29 F H (fun h6 H F => ?_) (fun h6 H F => ?_)
     ·cases H
      exact gw 9 F rfl fun _ F => ⟨F.sb, s2⟩
     refine gw 3 F rfl fun _ F => bsp 32 F H (fun h7 H F => ?_) (fun h7 H F => ?_)
     ·cases H
      exact gw 6 F rfl fun _ F => ⟨F.sb, s2⟩
     cases H
     exact gw 6 F rfl fun _ F => ⟨F.sb, s2⟩
    refine gw 7 F rfl fun _ F => bsp 32 F H (fun h8 H F => ?_) (fun h8 H F => ?_)
    ·cases H
     exact gw 6 F rfl fun _ F => ⟨F.sb, s2⟩
    cases H
    exact gw 6 F rfl fun _ F => ⟨F.sb, s2⟩
   intro _ w1 hJ
   obtain ⟨F, s3⟩ := hJ
   have H := R1
   clear R1 H1
   refine ge 6 F rfl fun _ F => bsp 39 F H (fun h9 H F => ?_) (fun h9 H F => ?_)
   ·refine gw 3 F rfl fun _ F => bsp 42 F H (fun ha H F => ?_) (fun ha H F => ?_)
    ·cases H
     obtain rfl := hr _ rfl
     replace H := R0
     try dsimp only at H
     cases H
     exact gw 27 F rfl fun _ F => rt F ⟨rfl, s3⟩
    refine gw 3 F rfl fun _ F => bsp 45 F H (fun hb H F => ?_) (fun hb H F => ?_)
    ·refine gw 3 F rfl fun _ F => bsp 48 F H (fun hc H F => ?_) (fun hc H F => ?_)
     ·cases H
      obtain rfl := hr _ rfl
      replace H := R0
      try dsimp only at H
      cases H
      exact gw 21 F rfl fun _ F => rt F ⟨rfl, s3⟩
     refine gw 8 F rfl fun _ F => Ll F H 12 8 rfl rfl rfl (fun hd H _ F => ?_) (fun hd H _ F => ?_)
     ·cases H
      obtain rfl := hr _ rfl
      replace H := R0
      try dsimp only at H
      cases H
      exact rt F ⟨rfl, s3⟩
     cases H
     exact ⟨_, rfl, F.sb, s3⟩
    cases H
    exact gw 20 F rfl fun _ F => ⟨_, rfl, F.sb, s3⟩
   cases H
   exact gw 26 F rfl fun _ F => ⟨_, rfl, F.sb, s3⟩
  cases H
  obtain rfl := hr _ rfl
  exact ⟨_, rfl, F.sb, s2⟩
 intro _ w2 hJ
 obtain ⟨p0, rfl, F, s4⟩ := hJ
 have H := R0
 clear R0 H0
 try dsimp only at H
 cases H
 exact ge 7 F rfl fun _ F => rt F ⟨rfl, s4⟩
theorem A0x {w : World} {a0 : UInt8} {r : (List UInt8)} (H : Aoy a0 = some r) :
    Calls prog 193 #[jU (a0.toNat : Int)] w (Ret fun u_ w_ => u_ = .string ⟨⟨r⟩⟩ ∧ SL w [] w_ []) := by
 have s0 : SL w [] w [] := SL.Abr w
 refine cin func193 ntmps193 18 rfl rfl rfl fun _ F => ?_
 unfold Aoy at H
 refine Ll F H 8 6 rfl rfl rfl (fun h0 H _ F => ?_) (fun h0 H _ F => ?_)
 ·cases H
  exact rt F ⟨rfl, s0⟩
 refine Ll F H 8 6 rfl rfl rfl (fun h1 H _ F => ?_) (fun h1 H _ F => ?_)
 ·cases H
  exact rt F ⟨rfl, s0⟩
 refine Ll F H 8 6 rfl rfl rfl (fun h2 H _ F => ?_) (fun h2 H _ F => ?_)
 ·cases H
  exact rt F ⟨rfl, s0⟩
 refine Ll F H 8 6 rfl rfl rfl (fun h3 H _ F => ?_) (fun h3 H _ F => ?_)
 ·cases H
  exact rt F ⟨rfl, s0⟩
 refine Ll F H 8 6 rfl rfl rfl (fun h4 H _ F => ?_) (fun h4 H _ F => ?_)
 ·cases H
  exact rt F ⟨rfl, s0⟩
 refine Ll F H 8 9 rfl rfl rfl (fun h5 H _ F => ?_) (fun h5 H _ F => ?_)
 ·cases H
  exact rt F ⟨rfl, s0⟩
 cases H
 exact rt F ⟨rfl, s0⟩
theorem Azc {w : World} {a0 : List UInt8} {r : Bool} (H : Alh a0 = some r) :
    Calls prog 168 #[.string ⟨⟨a0⟩⟩] w (Ret fun u_ w_ => u_ = .bool r ∧ SL w [] w_ []) := by
 have s0 : SL w [] w [] := SL.Abr w
 refine cin func168 ntmps168 11 rfl rfl rfl fun _ F => ?_
 unfold Alh at H
 obtain ⟨o0, H0, R0⟩ := Aa H
 clear H
 refine Acs (fun a w_ => ∃ p0 : Unit, o0 = .inr (p0) ∧ Fr a 12 [] ∧ SL w [] w_ []) ?_ ?_
 ·have H := H0
  refine gc 1 F rfl fun _ F => lpk (Afy a0) (fun s1 a w_ => Fr a 12 [(0, .string ⟨⟨a0⟩⟩), (3, jU (s1.toNat : Int))] ∧ SL w [] w_ []) H ?_ ?_
  ·exact ⟨F.sb, s0⟩
  intro s1 _ w0 h0 o1 H hr
  obtain ⟨F, s2⟩ := h0
  replace H : Afy a0 s1 = some o1 := H
  unfold Afy at H
  refine gc 7 F rfl fun _ F => Ll F H 7 4 rfl rfl rfl (fun h1 H _ F => ?_) (fun h1 H _ F => ?_)
  ·obtain ⟨x0, h2, H⟩ := Aa H
   refine gca F s2 (A0x h2) 1 rfl rfl rfl rfl fun w1 _ F s3 => gx F (Ayt rfl rfl) 2 rfl rfl fun _ F => Ll F H 12 5 rfl rfl rfl (fun h3 H _ F => ?_) (fun h3 H _ F => ?_)
   ·cases H
    obtain rfl := hr _ rfl
    replace H := R0
    try dsimp only at H
    cases H
    exact rt F ⟨rfl, s3⟩
   cases H
   exact gx F (A3c rfl rfl) 2 rfl rfl fun _ F => ⟨_, rfl, F.sb, s3⟩
  cases H
  obtain rfl := hr _ rfl
  exact ⟨_, rfl, F.sb, s2⟩
 intro _ w2 hJ
 obtain ⟨p0, rfl, F, s4⟩ := hJ
 have H := R0
 clear R0 H0
 try dsimp only at H
 cases H
 exact ge 7 F rfl fun _ F => rt F ⟨rfl, s4⟩
theorem Aq4 {w : World} {v0 : Value} {a0 : List Acg} {a1 : List UInt8} {r : Bool} (hr0 : Rd Ad8 w [] v0 a0) (H : Ans a0 a1 = some r) :
    Calls prog 169 #[v0, .string ⟨⟨a1⟩⟩] w (Ret fun u_ w_ => u_ = .bool r ∧ SL w [] w_ []) := by
 have s0 : SL w [] w [] := SL.Abr w
 refine cin func169 ntmps169 11 rfl rfl rfl fun _ F => ?_
 unfold Ans at H
 obtain ⟨o0, H0, R0⟩ := Aa H
 clear H
 refine Acs (fun a w_ => ∃ p0 : Unit, o0 = .inr (p0) ∧ Fr a 19 [] ∧ SL w [] w_ []) ?_ ?_
 ·have H := H0
  refine gc 1 F rfl fun _ F => lpk (Ain a0 a1) (fun s1 a w_ => Fr a 19 [(0, v0), (1, .string ⟨⟨a1⟩⟩), (5, jI s1)] ∧ SL w [] w_ []) H ?_ ?_
  ·exact ⟨F.sb, s0⟩
  intro s1 _ w0 h0 o1 H hr
  obtain ⟨F, s2⟩ := h0
  replace H : Ain a0 a1 s1 = some o1 := H
  unfold Ain at H
  refine gc 5 F rfl fun _ F => gx F (Ah rfl underlying101 (fR hr0 s2)) 3 rfl rfl fun _ F => Ll F H 8 4 rfl rfl rfl (fun h1 H _ F => ?_) (fun h1 H _ F => ?_)
  ·obtain ⟨x0, h2, H⟩ := Aa H
   obtain ⟨a2, h3, h4⟩ := Alr Agh (rdL hr0 s2) Aks rfl h2
   refine gi F h3 0 rfl fun _ F => gx F (Ba A6j rfl) 0 rfl rfl fun _ F => gx F (An Am7 rfl (Abe.at_ h4 (o := 0) rfl)) 1 rfl rfl fun _ F => gx F (Ayt rfl rfl) 2 rfl rfl fun _ F => Ll F H 12 8 rfl rfl rfl (fun h5 H _ F => ?_) (fun h5 H _ F => ?_)
   ·cases H
    obtain rfl := hr _ rfl
    replace H := R0
    try dsimp only at H
    cases H
    exact rt F ⟨rfl, s2⟩
   cases H
   exact ⟨_, rfl, F.sb, s2⟩
  cases H
  obtain rfl := hr _ rfl
  exact ⟨_, rfl, F.sb, s2⟩
 intro _ w1 hJ
 obtain ⟨p0, rfl, F, s3⟩ := hJ
 have H := R0
 clear R0 H0
 try dsimp only at H
 cases H
 exact ge 7 F rfl fun _ F => rt F ⟨rfl, s3⟩
theorem A0f {w : World} {v0 : Value} {a0 : List BV} {a1 : Int} {r : Int} (hr0 : Rd Hw w [] v0 a0) (H : Alx a0 a1 = some r) :
    Calls prog 143 #[v0, jI a1] w (Ret fun u_ w_ => u_ = jI r ∧ SL w [] w_ []) := by
 have s0 : SL w [] w [] := SL.Abr w
 refine cin func143 ntmps143 7 rfl rfl rfl fun _ F2 => ?_
 unfold Alx at H
 obtain ⟨x0, h0, H⟩ := Aa H
 obtain ⟨a2, c0, G0, h1, h2, h3, h4⟩ := Rd.idx hr0 Af2 rfl h0
 obtain ⟨v1, rfl, h5⟩ := (Ael h3 h4)
 replace h2 := h2 _ _ s0
 refine gw 2 F2 rfl fun _ F => gi F h1 0 rfl fun _ F => gx F (Av Avm rfl h2 rfl) 0 rfl rfl fun _ F => Af F s0 Awt rfl rfl fun g0 w0 _ F s1 => Ai F s1 rfl rfl Az5 (Ab rfl (Ab rfl (Ab (Aq (fR h5 s1)) Ap))) (Ac rfl) fun w1 _ F s2 => gw 9 F rfl fun _ F => Ll F H 7 6 rfl rfl rfl (fun h6 H _ F => ?_) (fun h6 H _ F => ?_)
 ·cases H
  exact rt F ⟨rfl, s2.drop⟩
 obtain ⟨x1, h7, H⟩ := Aa H
 refine Ki F s2 m0 0 rfl fun _ F => gca F s2 (Ate h7) 2 rfl rfl rfl rfl fun w2 _ F s3 => bsp 20 F H (fun h8 H F => ?_) (fun h8 H F => ?_)
 ·cases H
  exact gw 14 F rfl fun _ F => rt F ⟨rfl, s3.drop⟩
 refine gw 1 F rfl fun _ F => Lm F rfl rfl <| Ki F s3 m0 0 rfl fun _ F => ?_
 obtain ⟨x2, h9, H⟩ := Aa H
 refine Lm F rfl rfl <| gca F s3 (Azc h9) 3 rfl rfl rfl rfl fun w3 _ F s4 => Ll F H 7 8 rfl rfl rfl (fun ha H _ F => ?_) (fun ha H _ F => ?_)
 ·cases H
  exact rt F ⟨rfl, s4.drop⟩
 obtain ⟨o0, H0, R0⟩ := Aa H
 clear H
 refine Acs (fun a w_ => ∃ p0 : Unit, o0 = .inr (p0) ∧ Fr a 92 [(0, v0), (1, jI a1), (5, jP g0)] ∧ SL w [] w_ [Cw g0 103 [.string ⟨⟨x0.Name⟩⟩, jI x0.Ace, v1]]) ?_ ?_
 ·have H := H0
  refine gc 1 F rfl fun _ F => lpk (Ahc a0 a1 x0) (fun s5 a w_ => Fr a 92 [(0, v0), (1, jI a1), (5, jP g0), (6, jI s5)] ∧ SL w [] w_ [Cw g0 103 [.string ⟨⟨x0.Name⟩⟩, jI x0.Ace, v1]]) H ?_ ?_
  ·exact ⟨F.sb, s4⟩
  intro s5 _ w4 hb o1 H hr
  obtain ⟨F, s6⟩ := hb
  replace H : Ahc a0 a1 x0 s5 = some o1 := H
  unfold Ahc at H
  refine gc 8 F rfl fun _ F => Ll F H 5 4 rfl rfl rfl (fun hc H _ F => ?_) (fun hc H _ F => ?_)
  ·obtain ⟨x3, hd, H⟩ := Aa H
   obtain ⟨a3, c1, G1, he, hf, hg, hh⟩ := Rd.idx hr0 Af2 rfl hd
   obtain ⟨v2, rfl, hi⟩ := (Ael hg hh)
   have hc2060_ := hf; clear hf; have hf := fun w_ (hC : SL w [] w_ [Cw g0 103 [.string ⟨⟨x0.Name⟩⟩, jI x0.Ace, v1]]) => hc2060_ _ _ hC
   refine Alj Abj s6 F (QR.ev 2 rfl <| QR.ix he rfl <| QR.qo (fun _ hC => Ba Ap8 rfl) rfl <| QR.qo (fun _ hC => An Am7 rfl (Abe.at_ (hf _ hC) (o := 0) rfl)) rfl <| QR.ev 1 rfl <| QR.ld m0 rfl <| QR.qo (fun _ hC => Ayt rfl rfl) rfl <| Bb) fun w5 _ s7 F => ge 1 F rfl fun _ F => Ll F H 12 8 rfl rfl rfl (fun hj H _ F => ?_) (fun hj H _ F => ?_)
   ·cases H
    obtain rfl := hr _ rfl
    replace H := R0
    try dsimp only at H
    cases H
    exact rt F ⟨rfl, s7.drop⟩
   cases H
   exact ⟨_, rfl, F.sb, s7⟩
  cases H
  obtain rfl := hr _ rfl
  exact ⟨_, rfl, F.sb, s6⟩
 intro _ w6 hJ
 obtain ⟨p0, rfl, F, s8⟩ := hJ
 have H := R0
 clear R0 H0
 try dsimp only at H
 refine ge 5 F rfl fun _ F => Ki F s8 m0 2 rfl fun _ F => bsp 41 F H (fun hk H F => ?_) (fun hk H F => ?_)
 ·cases H
  exact gw 15 F rfl fun _ F => rt F ⟨rfl, s8.drop⟩
 refine gw 1 F rfl fun _ F => Lm F rfl rfl <| Ki F s8 m0 5 rfl fun _ F => Ll F H 7 6 rfl rfl rfl (fun hl H _ F => ?_) (fun hl H _ F => ?_)
 ·cases H
  exact rt F ⟨rfl, s8.drop⟩
 obtain ⟨x4, hm, H⟩ := Aa H
 refine Ki F s8 m0 0 rfl fun _ F => std F (Akk (hr0.M3 s8) hm) fun v3 w7 _ hn F => ?_
 obtain ⟨_, rfl, ho⟩ := hn
 have s9 := s8.add ho
 obtain ⟨o2, H1, R1⟩ := Aa H
 clear H
 refine gw 9 F rfl fun _ F => Acs (fun a w_ => ∃ p1 : Unit, o2 = .inr (p1) ∧ Fr a 92 [(5, jP g0), (7, v3)] ∧ SL w [] w_ [Sl Ad8 v3 x4, Cw g0 103 [.string ⟨⟨x0.Name⟩⟩, jI x0.Ace, v1]]) ?_ ?_
 ·have H := H1
  refine gc 1 F rfl fun _ F => lpk (Aga a0 x0 x4) (fun sa a w_ => Fr a 92 [(0, v0), (5, jP g0), (7, v3), (8, jI sa)] ∧ SL w [] w_ [Sl Ad8 v3 x4, Cw g0 103 [.string ⟨⟨x0.Name⟩⟩, jI x0.Ace, v1]]) H ?_ ?_
  ·exact ⟨F.sb, s9⟩
  intro sa _ w8 hp o3 H hr
  obtain ⟨F, sc⟩ := hp
  replace H : Aga a0 x0 x4 sa = some o3 := H
  unfold Aga at H
  refine gc 5 F rfl fun _ F => Ki F sc m1 0 rfl fun _ F => gx F (Ah rfl underlying101 (fR h5 sc)) 3 rfl rfl fun _ F => Ll F H 7 4 rfl rfl rfl (fun hq H _ F => ?_) (fun hq H _ F => ?_)
  ·obtain ⟨x5, hs, H⟩ := Aa H
   obtain ⟨a4, ht, hu⟩ := Alr Agh (rdL h5 sc) Aks rfl hs
   refine Ki F sc m1 1 rfl fun _ F => gi F ht 0 rfl fun _ F => gx F (Av Avs rfl hu rfl) 0 rfl rfl fun _ F => Af F sc Azz rfl rfl fun g1 w9 _ F sd => Ai F sd rfl rfl A4z (Ab rfl (Ab rfl Ap)) (Ac rfl) fun wa _ F se => ?_
   obtain ⟨x6, hv, H⟩ := Aa H
   refine gw 6 F rfl fun _ F => Ki F se m0 0 rfl fun _ F => gca F se (Ate hv) 3 rfl rfl rfl rfl fun wb _ F sf => Ll F H 13 4 rfl rfl rfl (fun hw H _ F => ?_) (fun hw H _ F => ?_)
   ·cases H
    obtain rfl := hr _ rfl
    replace H := R1
    try dsimp only at H
    cases H
    exact rt F ⟨rfl, sf.drop.drop.drop⟩
   obtain ⟨x7, hx, H⟩ := Aa H
   refine Be x7 (fun hy => ?_) (fun hy => ?_)
   ·replace H := As3 hy H
    refine Alj Abj sf F (QR.ev 2 rfl <| QR.ld m0 rfl <| QR.call (args := [.tmp 67, .tmp 69]) A5c rfl (fun _ hC => Bf (Aq4 (a0 := x4) (a1 := x5.Name) (hC.rd0 m1) hx) hC) <| QR.ev 1 rfl <| QR.qs rfl rfl (Aj rfl hy) Ad rfl rfl <| QR.qs rfl rfl (Aj rfl hy) Ad rfl rfl <| QR.qs rfl rfl (Aj rfl hy) Ad rfl rfl <| QR.qs rfl rfl (Aj rfl hy) Ad rfl rfl <| QR.qs rfl rfl (Aj rfl hy) Ad rfl rfl <| QR.qs rfl rfl (Aj rfl hy) Ad rfl rfl <| QR.qs rfl rfl (Aj rfl hy) Ad rfl rfl <| QR.qo (fun _ hC => Bg (Aqo rfl hy) rfl) rfl <| Bb) fun wc _ sg F => ?_
    cases H
    obtain rfl := hr _ rfl
    replace H := R1
    try dsimp only at H
    cases H
    exact ge 15 F rfl fun _ F => rt F ⟨rfl, sg.drop.drop.drop⟩
   replace H := As4 hy H
   obtain ⟨x8, hz, H⟩ := Aa H
   obtain ⟨v4, h10, h11⟩ := Rd.cut h5 Aks rfl hz none (some sa) (.inr ⟨rfl, rfl⟩) (.inl rfl)
   obtain ⟨x9, h12, H⟩ := Aa H
   refine Alj Abj sf F (QR.ev 2 rfl <| QR.ld m0 rfl <| QR.call (args := [.tmp 67, .tmp 69]) A5c rfl (fun _ hC => Bf (Aq4 (a0 := x4) (a1 := x5.Name) (hC.rd0 m1) hx) hC) <| QR.ev 1 rfl <| QR.qg (fun _ hC => AAk Ap4 rfl rfl) rfl rfl (Aj rfl hy) rfl rfl <| QR.qg (fun _ hC => An Arj rfl (hC.Ai8 m2 rfl)) rfl rfl (Aj rfl hy) rfl rfl <| QR.qg (fun _ hC => Az rfl) rfl rfl (Aj rfl hy) rfl rfl <| QR.qg (fun _ hC => h10 _ _ _ _ _ .i64 .i64 _ _ _ _ _ rfl trivial rfl) rfl rfl (Aj rfl hy) rfl rfl <| QR.qg (fun _ hC => AAk A6j rfl rfl) rfl rfl (Aj rfl hy) rfl rfl <| QR.qg (fun _ hC => An Am7 rfl (hC.Ai8 m0 rfl)) rfl rfl (Aj rfl hy) rfl rfl <| QR.AEq rfl (Aj rfl hy) (args := [.tmp 75, .tmp 77]) A5c rfl (fun _ hC => Bf (Aq4 (a0 := x8) (a1 := x5.Name) (h11.M3 hC) h12) hC) <| QR.qo (fun _ hC => Bk (Aqo rfl hy) rfl) rfl <| Bb) fun wd _ sh F => ge 1 F rfl fun _ F => Ll F H 13 6 rfl rfl rfl (fun h13 H _ F => ?_) (fun h13 H _ F => ?_)
   ·cases H
    obtain rfl := hr _ rfl
    replace H := R1
    try dsimp only at H
    cases H
    exact rt F ⟨rfl, sh.drop.drop.drop⟩
   obtain ⟨xa, h14, H⟩ := Aa H
   refine Ki F sh m0 0 rfl fun _ F => gca F sh (Aph (hr0.M3 sh) h14) 3 rfl rfl rfl rfl fun we _ F si => Ll F H 12 8 rfl rfl rfl (fun h15 H _ F => ?_) (fun h15 H _ F => ?_)
   ·cases H
    obtain rfl := hr _ rfl
    replace H := R1
    try dsimp only at H
    cases H
    exact rt F ⟨rfl, si.drop.drop.drop⟩
   cases H
   exact ⟨_, rfl, F.sb, si.drop⟩
  cases H
  obtain rfl := hr _ rfl
  exact ⟨_, rfl, F.sb, sc⟩
 intro _ wf hJ
 obtain ⟨p1, rfl, F, sj⟩ := hJ
 have H := R1
 clear R1 H1
 try dsimp only at H
 refine ge 5 F rfl fun _ F => Ki F sj m1 0 rfl fun _ F => gx F (Ah rfl underlying101 (fR h5 sj)) 1 rfl rfl fun _ F => gx F (Ah rfl underlying101 (fO sj m0)) 4 rfl rfl fun _ F => Ll F H 7 8 rfl rfl rfl (fun h16 H _ F => ?_) (fun h16 H _ F => ?_)
 ·cases H
  exact rt F ⟨rfl, sj.drop.drop⟩
 cases H
 exact rt F ⟨rfl, sj.drop.drop⟩
theorem Aty {w : World} {v0 : Value} {a0 : List BV} {r : Int × Int} (hr0 : Rd Hw w [] v0 a0) (H : Ake a0 = some r) :
    Calls prog 119 #[v0] w (Ret fun u_ w_ => u_ = .tuple ⟨[jI r.1, jI r.2]⟩ ∧ SL w [] w_ []) := by
 have s0 : SL w [] w [] := SL.Abr w
 refine cin func119 ntmps119 12 rfl rfl rfl fun _ F => ?_
 unfold Ake at H
 obtain ⟨o0, H0, R0⟩ := Aa H
 clear H
 refine Acs (fun a w_ => ∃ p0 : Unit, o0 = .inr (p0) ∧ Fr a 19 [] ∧ SL w [] w_ []) ?_ ?_
 ·have H := H0
  refine gc 1 F rfl fun _ F => lpk (Ag9 a0) (fun s1 a w_ => Fr a 19 [(0, v0), (4, jI s1)] ∧ SL w [] w_ []) H ?_ ?_
  ·exact ⟨F.sb, s0⟩
  intro s1 _ w0 h0 o1 H hr
  obtain ⟨F, s2⟩ := h0
  replace H : Ag9 a0 s1 = some o1 := H
  unfold Ag9 at H
  refine gc 5 F rfl fun _ F => gx F (Ah rfl underlying22 (fR hr0 s2)) 3 rfl rfl fun _ F => Ll F H 8 4 rfl rfl rfl (fun h1 H _ F => ?_) (fun h1 H _ F => ?_)
  ·obtain ⟨x0, h2, H⟩ := Aa H
   refine gca F s2 (A0f (hr0.M3 s2) h2) 9 rfl rfl rfl rfl fun w1 _ F s3 => Ll F H 15 8 rfl rfl rfl (fun h3 H _ F => ?_) (fun h3 H _ F => ?_)
   ·cases H
    obtain rfl := hr _ rfl
    replace H := R0
    try dsimp only at H
    cases H
    exact rt F ⟨rfl, s3⟩
   cases H
   exact ⟨_, rfl, F.sb, s3⟩
  cases H
  obtain rfl := hr _ rfl
  exact ⟨_, rfl, F.sb, s2⟩
 intro _ w2 hJ
 obtain ⟨p0, rfl, F, s4⟩ := hJ
 have H := R0
 clear R0 H0
 try dsimp only at H
 cases H
 exact ge 8 F rfl fun _ F => rt F ⟨rfl, s4⟩
theorem Ayq {w : World} {v0 v1_0 : Value} {a0 : List BV} {a1 : Aa6} {r : Bool} (hr0 : Rd Hw w [] v0 a0) (hr1_0 : Rd Ty.u8 w [] v1_0 a1.Abs) (H : Ale a0 a1 = some r) :
    Calls prog 120 #[v0, .agg ⟨[v1_0, jU (a1.Result.toNat : Int)]⟩] w (Ret fun u_ w_ => u_ = .bool r ∧ SL w [] w_ []) := by
 have s0 : SL w [] w [] := SL.Abr w
 refine cin func120 ntmps120 2 rfl rfl rfl fun _ F0 => ?_
 unfold Ale at H
 refine Ar F0 s0 rfl rfl rfl fun g8 w9 _ F s1 => ?_
 obtain ⟨o0, H0, R0⟩ := Aa H
 clear H
 refine gw 9 F rfl fun _ F => Acs (fun a w_ => ∃ p0 : Unit, o0 = .inr (p0) ∧ Fr a 36 [(0, v0), (3, jP g8)] ∧ SL w [] w_ [Cw g8 50 [v1_0, jU (a1.Result.toNat : Int)]]) ?_ ?_
 ·have H := H0
  refine gc 1 F rfl fun _ F => lpk (Agv a0 a1) (fun s2 a w_ => Fr a 36 [(0, v0), (3, jP g8), (5, jI s2)] ∧ SL w [] w_ [Cw g8 50 [v1_0, jU (a1.Result.toNat : Int)]]) H ?_ ?_
  ·exact ⟨F.sb, s1⟩
  intro s2 _ w0 h0 o1 H hr
  obtain ⟨F, s3⟩ := h0
  replace H : Agv a0 a1 s2 = some o1 := H
  unfold Agv at H
  refine gc 5 F rfl fun _ F => Ki F s3 m0 0 rfl fun _ F => gx F (Ah rfl underlying47 (fR hr1_0 s3)) 3 rfl rfl fun _ F => Ll F H 8 4 rfl rfl rfl (fun h1 H _ F => ?_) (fun h1 H _ F => ?_)
  ·obtain ⟨x0, h2, H⟩ := Aa H
   obtain ⟨a2, h3, h4⟩ := Alr Flat.u8 (rdL hr1_0 s3) Abp rfl h2
   obtain ⟨x1, h5, H⟩ := Aa H
   refine Ki F s3 m0 1 rfl fun _ F => gi F h3 0 rfl fun _ F => gx F (An Acy rfl (Abe.at_ h4 (o := 0) rfl)) 0 rfl rfl fun _ F => gca F s3 (Aph (hr0.M3 s3) h5) 3 rfl rfl rfl rfl fun w1 _ F s4 => Ll F H 12 8 rfl rfl rfl (fun h6 H _ F => ?_) (fun h6 H _ F => ?_)
   ·cases H
    obtain rfl := hr _ rfl
    replace H := R0
    try dsimp only at H
    cases H
    exact rt F ⟨rfl, s4.drop⟩
   cases H
   exact ⟨_, rfl, F.sb, s4⟩
  cases H
  obtain rfl := hr _ rfl
  exact ⟨_, rfl, F.sb, s3⟩
 intro _ w2 hJ
 obtain ⟨p0, rfl, F, s5⟩ := hJ
 have H := R0
 clear R0 H0
 try dsimp only at H
 refine ge 4 F rfl fun _ F => Ki F s5 m0 0 rfl fun _ F => gx F (Ah rfl underlying47 (fR hr1_0 s5)) 2 rfl rfl fun _ F => bsp 25 F H (fun h7 H F => ?_) (fun h7 H F => ?_)
 ·refine gw 1 F rfl fun _ F => Lm F rfl rfl <| Ki F s5 m0 2 rfl fun _ F => bsp 29 F H (fun h8 H F => ?_) (fun h8 H F => ?_)
  ·cases H
   exact gw 10 F rfl fun _ F => rt F ⟨rfl, s5.drop⟩
  refine gw 2 F rfl fun _ F => Lm F rfl rfl <| Ki F s5 m0 0 rfl fun _ F => ?_
  obtain ⟨x2, h9, H⟩ := Aa H
  refine Lm F rfl rfl <| gca F s5 (Aph (hr0.M3 s5) h9) 6 rfl rfl rfl rfl fun w3 _ F s6 => ?_
  cases H
  exact rt F ⟨rfl, s6.drop⟩
 cases H
 exact gw 14 F rfl fun _ F => rt F ⟨rfl, s5.drop⟩
theorem Azs {w : World} {a0 : Int} {r : B0 × Int} (H : Alu a0 = some r) :
    Calls prog 121 #[jI a0] w (Ret fun u_ w_ => u_ = .tuple ⟨[.agg ⟨(jI r.1.Locals :: jI r.1.Height :: XK r.1.Slots)⟩, jI r.2]⟩ ∧ SL w [] w_ []) := by
 have s0 : SL w [] w [] := SL.Abr w
 refine cin func121 ntmps121 2 rfl rfl rfl fun _ F0 => ?_
 unfold Alu at H
 refine Af F0 s0 Ol rfl rfl fun g8 w9 _ F s1 => gw 9 F rfl fun _ F => bsp 6 F H (fun h0 H F => ?_) (fun h0 H F => ?_)
 ·refine gw 8 F rfl fun _ F => gx F (Al (vs := []) Ol Adw rfl (cs := jZ) (Ac1)) 0 rfl rfl fun _ F => ?_
  refine O4 (ds := jZ) F s1 rfl rfl (by simpa using Aay) (Ab rfl (Ab rfl (Abi _))) (by simp) fun w0 _ F s2 => ?_
  cases H
  refine gw 5 F rfl fun _ F => ?_
  refine Ak (rs := [.cell 2 118, .tmp 3]) (vs := [.agg ⟨jZ⟩, jI 1]) F (by rfl) ⟨_, _, rfl, Am s2 m0 rfl Aa9 (by simp), _, _, rfl, Ao rfl, rfl⟩ ⟨_, rfl, ⟨rfl, s2.drop⟩⟩
 refine gw 5 F rfl fun _ F => Ll F H 2 5 rfl rfl rfl (fun h1 H _ F => ?_) (fun h1 H _ F => ?_)
 ·refine gx F (Al (vs := []) Ol Adw rfl (cs := jZ) (Ac1)) 0 rfl rfl fun _ F => ?_
  refine O4 (ds := jZ) F s1 rfl rfl (by simpa using Aay) (Ab rfl (Ab rfl (Abi _))) (by simp) fun w1 _ F s3 => ?_
  cases H
  refine gw 5 F rfl fun _ F => ?_
  refine Ak (rs := [.cell 2 118, .tmp 3]) (vs := [.agg ⟨jZ⟩, jI 1]) F (by rfl) ⟨_, _, rfl, Am s3 m0 rfl Aa9 (by simp), _, _, rfl, Ao rfl, rfl⟩ ⟨_, rfl, ⟨rfl, s3.drop⟩⟩
 refine gx F (Al (vs := [jI a0]) Ol Adw rfl (cs := (jI a0 :: jI 0 :: XK (Vector.replicate 24 (0 : UInt8)))) (Afm rfl rfl (by simp) <| Ac1)) 0 rfl rfl fun _ F => ?_
 refine O4 (ds := (jI a0 :: jI 0 :: XK (Vector.replicate 24 (0 : UInt8)))) F s1 rfl rfl (by simpa using Aay) (Ab rfl (Ab rfl (Abi _))) (by simp) fun w2 _ F s4 => ?_
 cases H
 refine gw 4 F rfl fun _ F => ?_
 refine Ak (rs := [.cell 2 118, .tmp 3]) (vs := [.agg ⟨(jI a0 :: jI 0 :: XK (Vector.replicate 24 (0 : UInt8)))⟩, jI 0]) F (by rfl) ⟨_, _, rfl, Am s4 m0 rfl Aa9 (by simp), _, _, rfl, Ao rfl, rfl⟩ ⟨_, rfl, ⟨rfl, s4.drop⟩⟩
theorem Ay2 {w : World} {v0 : Value} {a0 : List BV} {a1 : UInt8} {r : Bool} (hr0 : Rd Hw w [] v0 a0) (H : Alf a0 a1 = some r) :
    Calls prog 122 #[v0, jU (a1.toNat : Int)] w (Ret fun u_ w_ => u_ = .bool r ∧ SL w [] w_ []) := by
 have s0 : SL w [] w [] := SL.Abr w
 refine cin func122 ntmps122 9 rfl rfl rfl fun _ F => ?_
 unfold Alf at H
 obtain ⟨x0, h0, H⟩ := Aa H
 refine gca F s0 (Ah2 (hr0.M3 s0) h0) 1 rfl rfl rfl rfl fun w0 _ F s1 => bsp 8 F H (fun h1 H F => ?_) (fun h1 H F => ?_)
 ·refine gw 4 F rfl fun _ F => bsp 12 F H (fun h2 H F => ?_) (fun h2 H F => ?_)
  ·cases H
   exact gw 7 F rfl fun _ F => rt F ⟨rfl, s1⟩
  cases H
  exact gw 7 F rfl fun _ F => rt F ⟨rfl, s1⟩
 cases H
 exact gw 11 F rfl fun _ F => rt F ⟨rfl, s1⟩
theorem Aqd {w : World} {v0 v1 : Value} {a0 : List BV} {a1 : List UInt8} {a2 : Int} {r : B0 × Int} (hr0 : Rd Hw w [] v0 a0) (hr1 : Rd Ty.u8 w [] v1 a1) (H : Ags a0 a1 a2 = some r) :
    Calls prog 81 #[v0, v1, jI a2] w (Ret fun u_ w_ => u_ = .tuple ⟨[.agg ⟨(jI r.1.Locals :: jI r.1.Height :: XK r.1.Slots)⟩, jI r.2]⟩ ∧ SL w [] w_ []) := by
 have s0 : SL w [] w [] := SL.Abr w
 refine cin func81 ntmps81 2 rfl rfl rfl fun _ F0 => ?_
 unfold Ags at H
 refine Af F0 s0 Ol rfl rfl fun g8 w9 _ F s1 => ?_
 obtain ⟨x0, h0, H⟩ := Aa H
 refine gw 6 F rfl fun _ F => gca F s1 (Azs h0) 3 rfl rfl rfl rfl fun w0 _ F s2 => Af F s2 Ol rfl rfl fun g0 w1 _ F s3 => ?_
 refine O4 (ds := (jI x0.1.Locals :: jI x0.1.Height :: XK x0.1.Slots)) F s3 rfl rfl (by simpa using Aay) (Ab rfl (Ab rfl (Abi _))) (by simp) fun w2 _ F s4 => ?_
 refine gw 9 F rfl fun _ F => bsp 19 F H (fun h1 H F => ?_) (fun h1 H F => ?_)
 ·refine gw 15 F rfl fun _ F => gx F (Al (vs := []) Ol Adw rfl (cs := jZ) (Ac1)) 0 rfl rfl fun _ F => ?_
  refine O4 (ds := jZ) F s4.f1 rfl rfl (by simpa using Aay) (Ab rfl (Ab rfl (Abi _))) (by simp) fun w3 _ F s5 => ?_
  cases H
  refine gw 5 F rfl fun _ F => ?_
  refine Ak (rs := [.cell 6 118, .tmp 7]) (vs := [.agg ⟨jZ⟩, jI 1]) F (by rfl) ⟨_, _, rfl, Am s5 m0 rfl Aa9 (by simp), _, _, rfl, Ao rfl, rfl⟩ ⟨_, rfl, ⟨rfl, s5.drop.drop⟩⟩
 refine gw 1 F rfl fun _ F => Lm F rfl rfl <| gx F (Ah rfl underlying47 (fR hr1 s4)) 3 rfl rfl fun _ F => bsp 24 F H (fun h2 H F => ?_) (fun h2 H F => ?_)
 ·refine gw 10 F rfl fun _ F => gx F (Al (vs := []) Ol Adw rfl (cs := jZ) (Ac1)) 0 rfl rfl fun _ F => ?_
  refine O4 (ds := jZ) F s4.f1 rfl rfl (by simpa using Aay) (Ab rfl (Ab rfl (Abi _))) (by simp) fun w4 _ F s6 => ?_
  cases H
  refine gw 5 F rfl fun _ F => ?_
  refine Ak (rs := [.cell 6 118, .tmp 7]) (vs := [.agg ⟨jZ⟩, jI 1]) F (by rfl) ⟨_, _, rfl, Am s6 m0 rfl Aa9 (by simp), _, _, rfl, Ao rfl, rfl⟩ ⟨_, rfl, ⟨rfl, s6.drop.drop⟩⟩
 refine gw 1 F rfl fun _ F => Lm F rfl rfl <| gx F (Ah rfl underlying47 (fR hr1 s4)) 5 rfl rfl fun _ F => Ll F H 2 6 rfl rfl rfl (fun h3 H _ F => ?_) (fun h3 H _ F => ?_)
 ·refine gx F (Al (vs := []) Ol Adw rfl (cs := jZ) (Ac1)) 0 rfl rfl fun _ F => ?_
  refine O4 (ds := jZ) F s4.f1 rfl rfl (by simpa using Aay) (Ab rfl (Ab rfl (Abi _))) (by simp) fun w5 _ F s7 => ?_
  cases H
  refine gw 5 F rfl fun _ F => ?_
  refine Ak (rs := [.cell 6 118, .tmp 7]) (vs := [.agg ⟨jZ⟩, jI 1]) F (by rfl) ⟨_, _, rfl, Am s7 m0 rfl Aa9 (by simp), _, _, rfl, Ao rfl, rfl⟩ ⟨_, rfl, ⟨rfl, s7.drop.drop⟩⟩
 obtain ⟨o0, H0, R0⟩ := Aa H
 clear H
 refine gx F (Ah rfl underlying47 (fR hr1 s4)) 3 rfl rfl fun _ F => Acs (fun a w_ => ∃ p0 : (Vector UInt8 24), o0 = .inr (p0) ∧ Fr a 49 [(6, jP g8), (8, jP g0)] ∧ SL w [] w_ [Cw g0 118 (jI x0.1.Locals :: jI x0.1.Height :: XK p0), Cw g8 118 jZ]) ?_ ?_
 ·have H := H0
  refine gc 1 F rfl fun _ F => lpk (Afn a0 a1) (fun s8 a w_ => Fr a 49 [(0, v0), (6, jP g8), (8, jP g0), (31, v1), (32, jI (a1.length : Int)), (33, jI s8.2)] ∧ SL w [] w_ [Cw g0 118 (jI x0.1.Locals :: jI x0.1.Height :: XK s8.1), Cw g8 118 jZ]) H ?_ ?_
  ·exact ⟨F.sb, s4⟩
  intro s8 _ w6 h4 o1 H hr
  obtain ⟨F, s9⟩ := h4
  replace H : Afn a0 a1 s8 = some o1 := H
  unfold Afn at H
  refine gc 6 F rfl fun _ F => Ll F H 7 4 rfl rfl rfl (fun h5 H _ F => ?_) (fun h5 H _ F => ?_)
  ·obtain ⟨x1, h6, H⟩ := Aa H
   obtain ⟨a3, h7, h8⟩ := Alr Flat.u8 (rdL hr1 s9) Abp rfl h6
   refine gi F h7 0 rfl fun _ F => ?_
   obtain ⟨x2, h9, H⟩ := Aa H
   refine gx F (An Acy rfl (Abe.at_ h8 (o := 0) rfl)) 9 rfl rfl fun _ F => gca F s9 (Ay2 (hr0.M3 s9) h9) 3 rfl rfl rfl rfl fun w7 _ F sa => Ll F H 2 6 rfl rfl rfl (fun ha H _ F => ?_) (fun ha H _ F => ?_)
   ·refine gx F (Al (vs := []) Ol Adw rfl (cs := jZ) (Ac1)) 0 rfl rfl fun _ F => ?_
    refine O4 (ds := jZ) F sa.f1 rfl rfl (by simpa using Aay) (Ab rfl (Ab rfl (Abi _))) (by simp) fun w8 _ F sc => ?_
    cases H
    obtain rfl := hr _ rfl
    replace H := R0
    try dsimp only at H
    cases H
    refine gw 11 F rfl fun _ F => ?_
    refine Ak (rs := [.cell 6 118, .tmp 7]) (vs := [.agg ⟨jZ⟩, jI 1]) F (by rfl) ⟨_, _, rfl, Am sc m0 rfl Aa9 (by simp), _, _, rfl, Ao rfl, rfl⟩ ⟨_, rfl, ⟨rfl, sc.drop.drop⟩⟩
   obtain ⟨x3, hb, H⟩ := Aa H
   refine gx F (Agt Ae9 hb rfl rfl) 0 rfl rfl fun _ F => Aoe (y' := x1) (pre := [jI x0.1.Locals, jI x0.1.Height]) F sa rfl hb rfl rfl Apn fun wa _ F sd => ?_
   cases H
   exact gw 7 F rfl fun _ F => ⟨_, rfl, F.sb, sd⟩
  cases H
  obtain rfl := hr _ rfl
  exact ⟨_, rfl, F.sb, s9⟩
 intro _ wb hJ
 obtain ⟨p0, rfl, F, se⟩ := hJ
 have H := R0
 clear R0 H0
 try dsimp only at H
 refine ge 3 F rfl fun _ F => gla F se m0 0 rfl fun _ F => ?_
 refine O4 (ds := (jI x0.1.Locals :: jI x0.1.Height :: XK p0)) F se.f1 rfl rfl (by simpa using Aay) (Ab rfl (Ab rfl (Abi _))) (by simp) fun wc _ F sf => ?_
 cases H
 refine gw 4 F rfl fun _ F => ?_
 refine Ak (rs := [.cell 6 118, .tmp 7]) (vs := [.agg ⟨(jI x0.1.Locals :: jI x0.1.Height :: XK p0)⟩, jI 0]) F (by rfl) ⟨_, _, rfl, Am sf m0 rfl Aa9 (by simp), _, _, rfl, Ao rfl, rfl⟩ ⟨_, rfl, ⟨rfl, sf.drop.drop⟩⟩
theorem A1z {w : World} {v0_0 v0_1 : Value} {a0 : GG} {a1 : Int} {r : Int} (hr0_0 : Rd Hw w [] v0_0 a0.Classes) (hr0_1 : Rd Ach w [] v0_1 a0.OS) (H : Ah1 a0 a1 = some r) :
    Calls prog 80 #[.agg ⟨[v0_0, v0_1, jI a0.Fn]⟩, jI a1] w (Ret fun u_ w_ => u_ = jI r ∧ SL w [] w_ []) := by
 have s0 : SL w [] w [] := SL.Abr w
 refine cin func80 ntmps80 2 rfl rfl rfl fun _ F0 => ?_
 unfold Ah1 at H
 refine Ar F0 s0 rfl rfl rfl fun g8 w9 _ F s1 => ?_
 obtain ⟨x0, h0, H⟩ := Aa H
 refine gw 6 F rfl fun _ F => Ki F s1 m0 0 rfl fun _ F => gca F s1 (Aty (hr0_0.M3 s1) h0) 14 rfl rfl rfl rfl fun w0 _ F s2 => Ll F H 8 6 rfl rfl rfl (fun h1 H _ F => ?_) (fun h1 H _ F => ?_)
 ·cases H
  exact rt F ⟨rfl, s2.drop⟩
 refine Ki F s2 m0 0 rfl fun _ F => gx F (Ah rfl underlying108 (fR hr0_1 s2)) 3 rfl rfl fun _ F => Ll F H 7 8 rfl rfl rfl (fun h2 H _ F => ?_) (fun h2 H _ F => ?_)
 ·cases H
  exact rt F ⟨rfl, s2.drop⟩
 obtain ⟨o0, H0, R0⟩ := Aa H
 clear H
 refine Acs (fun a w_ => ∃ p0 : Unit, o0 = .inr (p0) ∧ Fr a 71 [(1, jI a1), (2, jP g8)] ∧ SL w [] w_ [Cw g8 110 [v0_0, v0_1, jI a0.Fn]]) ?_ ?_
 ·have H := H0
  refine gc 1 F rfl fun _ F => lpk (Aep a0) (fun s3 a w_ => Fr a 71 [(1, jI a1), (2, jP g8), (7, jI s3)] ∧ SL w [] w_ [Cw g8 110 [v0_0, v0_1, jI a0.Fn]]) H ?_ ?_
  ·exact ⟨F.sb, s2⟩
  intro s3 _ w1 h3 o1 H hr
  obtain ⟨F, s4⟩ := h3
  replace H : Aep a0 s3 = some o1 := H
  unfold Aep at H
  refine gc 5 F rfl fun _ F => Ki F s4 m0 0 rfl fun _ F => gx F (Ah rfl underlying108 (fR hr0_1 s4)) 3 rfl rfl fun _ F => Ll F H 7 4 rfl rfl rfl (fun h4 H _ F => ?_) (fun h4 H _ F => ?_)
  ·obtain ⟨x1, h5, H⟩ := Aa H
   obtain ⟨a3, c0, G0, h6, h7, h8, h9⟩ := Rd.idx hr0_1 Ahb rfl h5
   obtain ⟨v0, rfl, ha⟩ := (Ajk h8 h9)
   replace h7 := h7 _ _ s4
   refine gw 1 F rfl fun _ F => Ki F s4 m0 1 rfl fun _ F => gi F h6 0 rfl fun _ F => gx F (Ba Atk rfl) 0 rfl rfl fun _ F => gx F (An As9 rfl (Abe.at_ h7 (o := 0) rfl)) 0 rfl rfl fun _ F => gx F (Ah rfl underlying47 (fR ha s4)) 3 rfl rfl fun _ F => Ll F H 13 3 rfl rfl rfl (fun hb H _ F => ?_) (fun hb H _ F => ?_)
   ·cases H
    obtain rfl := hr _ rfl
    replace H := R0
    try dsimp only at H
    cases H
    exact rt F ⟨rfl, s4.drop⟩
   obtain ⟨x2, hc, H⟩ := Aa H
   obtain ⟨a4, c1, G1, hd, he, hf, hg⟩ := Rd.idx hr0_1 Ahb rfl hc
   obtain ⟨v1, rfl, hh⟩ := (Ajk hf hg)
   have hc6512_ := he; clear he; have he := fun w_ (hC : SL w [] w_ [Cw g8 110 [v0_0, v0_1, jI a0.Fn]]) => hc6512_ _ _ hC
   obtain ⟨x3, hi, H⟩ := Aa H
   refine Alj Abj s4 F (QR.ev 1 rfl <| QR.ld m0 rfl <| QR.ev 1 rfl <| QR.ld m0 rfl <| QR.ev 1 rfl <| QR.ix hd rfl <| QR.qo (fun _ hC => Av Aot rfl (he _ hC) rfl) rfl <| QR.call (args := [.tmp 37, .tmp 42]) AJm rfl (fun _ hC => Bf (Ayq (a0 := a0.Classes) (a1 := x2) (hr0_0.M3 hC) (hh.M3 hC) hi) hC) <| QR.ev 1 rfl <| Bb) fun w2 _ s5 F => ge 1 F rfl fun _ F => Ll F H 12 8 rfl rfl rfl (fun hj H _ F => ?_) (fun hj H _ F => ?_)
   ·cases H
    obtain rfl := hr _ rfl
    replace H := R0
    try dsimp only at H
    cases H
    exact rt F ⟨rfl, s5.drop⟩
   cases H
   exact ⟨_, rfl, F.sb, s5⟩
  cases H
  obtain rfl := hr _ rfl
  exact ⟨_, rfl, F.sb, s4⟩
 intro _ w3 hJ
 obtain ⟨p0, rfl, F, s6⟩ := hJ
 have H := R0
 clear R0 H0
 try dsimp only at H
 refine ge 5 F rfl fun _ F => Ki F s6 m0 2 rfl fun _ F => bsp 48 F H (fun hk H F => ?_) (fun hk H F => ?_)
 ·cases H
  exact gw 17 F rfl fun _ F => rt F ⟨rfl, s6.drop⟩
 refine gw 1 F rfl fun _ F => Lm F rfl rfl <| Ki F s6 m0 1 rfl fun _ F => Lm F rfl rfl <| Ki F s6 m0 0 rfl fun _ F => Lm F rfl rfl <| gx F (Ah rfl underlying108 (fR hr0_1 s6)) 4 rfl rfl fun _ F => Ll F H 7 3 rfl rfl rfl (fun hl H _ F => ?_) (fun hl H _ F => ?_)
 ·cases H
  exact rt F ⟨rfl, s6.drop⟩
 obtain ⟨x4, hm, H⟩ := Aa H
 obtain ⟨a5, c2, G2, hn, ho, hp, hq⟩ := Rd.idx hr0_1 Ahb rfl hm
 obtain ⟨v2, rfl, hs⟩ := (Ajk hp hq)
 have hc6597_ := ho; clear ho; have ho := fun w_ (hC : SL w [] w_ [Cw g8 110 [v0_0, v0_1, jI a0.Fn]]) => hc6597_ _ _ hC
 obtain ⟨x5, ht, H⟩ := Aa H
 refine Alj Abj s6 F (QR.ev 1 rfl <| QR.ld m0 rfl <| QR.ev 1 rfl <| QR.ld m0 rfl <| QR.ev 1 rfl <| QR.ld m0 rfl <| QR.ix hn rfl <| QR.qo (fun _ hC => Ba Atk rfl) rfl <| QR.qo (fun _ hC => An As9 rfl (Abe.at_ (ho _ hC) (o := 0) rfl)) rfl <| QR.ev 1 rfl <| QR.call (args := [.tmp 58, .tmp 65, .tmp 66]) ALl rfl (fun _ hC => Bf (Aqd (a0 := a0.Classes) (a1 := x4.Abs) (a2 := a1) (hr0_0.M3 hC) (hs.M3 hC) ht) hC) <| QR.ev 4 rfl <| Bb) fun w4 _ s7 F => ?_
 cases H
 exact ge 8 F rfl fun _ F => rt F ⟨rfl, s7.drop⟩
theorem Av5 {w : World} {v0_0 v0_1 v0_2 v0_3 : Value} {a0 : LX} {r : Int} (hr0_0 : Rd Ty.bool w [] v0_0 a0.Has) (hr0_1 : Rd Ac7 w [] v0_1 a0.Frame) (hr0_2 : Rd Ty.bool w [] v0_2 a0.Aeg) (hr0_3 : Rd (Ty.int .i64) w [] v0_3 a0.Taken) (H : Ai5 a0 = some r) :
    Calls prog 82 #[.agg ⟨[v0_0, v0_1, v0_2, v0_3]⟩] w (Ret fun u_ w_ => u_ = jI r ∧ SL w [] w_ []) := by
 have s0 : SL w [] w [] := SL.Abr w
 refine cin func82 ntmps82 2 rfl rfl rfl fun _ F0 => ?_
 unfold Ai5 at H
 refine Ar F0 s0 rfl rfl rfl fun g8 w9 _ F s1 => ?_
 obtain ⟨o0, H0, R0⟩ := Aa H
 clear H
 refine gw 9 F rfl fun _ F => Acs (fun a w_ => ∃ p0 : Unit, o0 = .inr (p0) ∧ Fr a 17 [] ∧ SL w [] w_ []) ?_ ?_
 ·have H := H0
  refine gc 1 F rfl fun _ F => lpk (Afg a0) (fun s2 a w_ => Fr a 17 [(1, jP g8), (3, jI s2)] ∧ SL w [] w_ [Cw g8 164 [v0_0, v0_1, v0_2, v0_3]]) H ?_ ?_
  ·exact ⟨F.sb, s1⟩
  intro s2 _ w0 h0 o1 H hr
  obtain ⟨F, s3⟩ := h0
  replace H : Afg a0 s2 = some o1 := H
  unfold Afg at H
  refine gc 5 F rfl fun _ F => Ki F s3 m0 0 rfl fun _ F => gx F (Ah rfl underlying44 (fR hr0_2 s3)) 3 rfl rfl fun _ F => Ll F H 7 4 rfl rfl rfl (fun h1 H _ F => ?_) (fun h1 H _ F => ?_)
  ·obtain ⟨x0, h2, H⟩ := Aa H
   obtain ⟨a1, h3, h4⟩ := Alr Flat.bool (rdL hr0_2 s3) Ad2 rfl h2
   refine Ki F s3 m0 1 rfl fun _ F => gi F h3 0 rfl fun _ F => gx F (An A6x rfl (Abe.at_ h4 (o := 0) rfl)) 2 rfl rfl fun _ F => Ll F H 13 8 rfl rfl rfl (fun h5 H _ F => ?_) (fun h5 H _ F => ?_)
   ·cases H
    obtain rfl := hr _ rfl
    replace H := R0
    try dsimp only at H
    cases H
    exact rt F ⟨rfl, s3.drop⟩
   cases H
   exact ⟨_, rfl, F.sb, s3⟩
  cases H
  obtain rfl := hr _ rfl
  exact ⟨_, rfl, F.sb, s3.drop⟩
 intro _ w1 hJ
 obtain ⟨p0, rfl, F, s4⟩ := hJ
 have H := R0
 clear R0 H0
 try dsimp only at H
 cases H
 exact ge 7 F rfl fun _ F => rt F ⟨rfl, s4⟩
theorem Aun {w : World} {v0_0 v0_1 v0_2 v0_3 : Value} {a0 : LX} {a1 : Int} {a2 : Int} {r : Bool} (hr0_0 : Rd Ty.bool w [] v0_0 a0.Has) (hr0_1 : Rd Ac7 w [] v0_1 a0.Frame) (hr0_2 : Rd Ty.bool w [] v0_2 a0.Aeg) (hr0_3 : Rd (Ty.int .i64) w [] v0_3 a0.Taken) (H : Aho a0 a1 a2 = some r) :
    Calls prog 123 #[.agg ⟨[v0_0, v0_1, v0_2, v0_3]⟩, jI a1, jI a2] w (Ret fun u_ w_ => u_ = .bool r ∧ SL w [] w_ []) := by
 have s0 : SL w [] w [] := SL.Abr w
 refine cin func123 ntmps123 2 rfl rfl rfl fun _ F0 => ?_
 unfold Aho at H
 refine Ar F0 s0 rfl rfl rfl fun g8 w9 _ F s1 => ?_
 obtain ⟨o0, H0, R0⟩ := Aa H
 clear H
 refine gw 9 F rfl fun _ F => Acs (fun a w_ => ∃ p0 : Unit, o0 = .inr (p0) ∧ Fr a 44 [] ∧ SL w [] w_ []) ?_ ?_
 ·have H := H0
  refine gc 1 F rfl fun _ F => lpk (Aev a0 a1 a2) (fun s2 a w_ => Fr a 44 [(1, jI a1), (2, jI a2), (3, jP g8), (7, jI s2)] ∧ SL w [] w_ [Cw g8 164 [v0_0, v0_1, v0_2, v0_3]]) H ?_ ?_
  ·exact ⟨F.sb, s1⟩
  intro s2 _ w0 h0 o1 H hr
  obtain ⟨F, s3⟩ := h0
  replace H : Aev a0 a1 a2 s2 = some o1 := H
  unfold Aev at H
  refine gc 5 F rfl fun _ F => Ki F s3 m0 0 rfl fun _ F => gx F (Ah rfl underlying28 (fR hr0_3 s3)) 3 rfl rfl fun _ F => Ll F H 7 4 rfl rfl rfl (fun h1 H _ F => ?_) (fun h1 H _ F => ?_)
  ·obtain ⟨x0, h2, H⟩ := Aa H
   obtain ⟨a3, h3, h4⟩ := Alr (Flat.int .i64) (rdL hr0_3 s3) Abt rfl h2
   refine Ki F s3 m0 1 rfl fun _ F => gi F h3 0 rfl fun _ F => gx F (An Acx rfl (Abe.at_ h4 (o := 0) rfl)) 2 rfl rfl fun _ F => bsp 21 F H (fun h5 H F => ?_) (fun h5 H F => ?_)
   ·refine gw 5 F rfl fun _ F => bsp 26 F H (fun h6 H F => ?_) (fun h6 H F => ?_)
    ·refine gw 3 F rfl fun _ F => Lm F rfl rfl ?_
     obtain ⟨x1, h7, H⟩ := Aa H
     obtain ⟨a4, h8, h9⟩ := Alr (Flat.int .i64) (rdL hr0_3 s3) Abt rfl h7
     refine Ki F s3 m0 1 rfl fun _ F => Lm F rfl rfl <| gi F h8 0 rfl fun _ F => Lm F rfl rfl <| gx F (An Acx rfl (Abe.at_ h9 (o := 0) rfl)) 4 rfl rfl fun _ F => bsp 37 F H (fun ha H F => ?_) (fun ha H F => ?_)
     ·refine gw 8 F rfl fun _ F => Ll F H 12 8 rfl rfl rfl (fun hb H _ F => ?_) (fun hb H _ F => ?_)
      ·cases H
       obtain rfl := hr _ rfl
       replace H := R0
       try dsimp only at H
       cases H
       exact rt F ⟨rfl, s3.drop⟩
      cases H
      exact ⟨_, rfl, F.sb, s3⟩
     cases H
     exact gw 17 F rfl fun _ F => ⟨_, rfl, F.sb, s3⟩
    cases H
    exact gw 28 F rfl fun _ F => ⟨_, rfl, F.sb, s3⟩
   cases H
   exact gw 33 F rfl fun _ F => ⟨_, rfl, F.sb, s3⟩
  cases H
  obtain rfl := hr _ rfl
  exact ⟨_, rfl, F.sb, s3.drop⟩
 intro _ w1 hJ
 obtain ⟨p0, rfl, F, s4⟩ := hJ
 have H := R0
 clear R0 H0
 try dsimp only at H
 cases H
 exact ge 7 F rfl fun _ F => rt F ⟨rfl, s4⟩
theorem Ati {w : World} {v0 : Value} {a0 : List BV} {a1 : UInt8} {r : Bool} (hr0 : Rd Hw w [] v0 a0) (H : Ajv a0 a1 = some r) :
    Calls prog 170 #[v0, jU (a1.toNat : Int)] w (Ret fun u_ w_ => u_ = .bool r ∧ SL w [] w_ []) := by
 have s0 : SL w [] w [] := SL.Abr w
 refine cin func170 ntmps170 9 rfl rfl rfl fun _ F => ?_
 unfold Ajv at H
 obtain ⟨x0, h0, H⟩ := Aa H
 refine gca F s0 (Ah2 (hr0.M3 s0) h0) 1 rfl rfl rfl rfl fun w0 _ F s1 => bsp 8 F H (fun h1 H F => ?_) (fun h1 H F => ?_)
 ·refine gw 4 F rfl fun _ F => bsp 12 F H (fun h2 H F => ?_) (fun h2 H F => ?_)
  ·cases H
   exact gw 7 F rfl fun _ F => rt F ⟨rfl, s1⟩
  cases H
  exact gw 7 F rfl fun _ F => rt F ⟨rfl, s1⟩
 cases H
 exact gw 11 F rfl fun _ F => rt F ⟨rfl, s1⟩
theorem A2p {w : World} {v0_0 v0_1 : Value} {a0 : GG} {r : Bool} (hr0_0 : Rd Hw w [] v0_0 a0.Classes) (hr0_1 : Rd Ach w [] v0_1 a0.OS) (H : Aj8 a0 = some r) :
    Calls prog 146 #[.agg ⟨[v0_0, v0_1, jI a0.Fn]⟩] w (Ret fun u_ w_ => u_ = .bool r ∧ SL w [] w_ []) := by
 have s0 : SL w [] w [] := SL.Abr w
 refine cin func146 ntmps146 2 rfl rfl rfl fun _ F0 => ?_
 unfold Aj8 at H
 refine Ar F0 s0 rfl rfl rfl fun g8 w9 _ F s1 => ?_
 obtain ⟨x0, h0, H⟩ := Aa H
 refine gw 7 F rfl fun _ F => Ki F s1 m0 0 rfl fun _ F => gca F s1 (Aty (hr0_0.M3 s1) h0) 13 rfl rfl rfl rfl fun w0 _ F s2 => Ll F H 7 6 rfl rfl rfl (fun h1 H _ F => ?_) (fun h1 H _ F => ?_)
 ·cases H
  exact rt F ⟨rfl, s2.drop⟩
 refine Ki F s2 m0 0 rfl fun _ F => gx F (Ah rfl underlying108 (fR hr0_1 s2)) 2 rfl rfl fun _ F => bsp 21 F H (fun h2 H F => ?_) (fun h2 H F => ?_)
 ·cases H
  exact gw 22 F rfl fun _ F => rt F ⟨rfl, s2.drop⟩
 refine gw 1 F rfl fun _ F => Lm F rfl rfl <| Ki F s2 m0 3 rfl fun _ F => bsp 26 F H (fun h3 H F => ?_) (fun h3 H F => ?_)
 ·cases H
  exact gw 17 F rfl fun _ F => rt F ⟨rfl, s2.drop⟩
 refine gw 1 F rfl fun _ F => Lm F rfl rfl <| Ki F s2 m0 1 rfl fun _ F => Lm F rfl rfl <| Ki F s2 m0 0 rfl fun _ F => Lm F rfl rfl <| gx F (Ah rfl underlying108 (fR hr0_1 s2)) 4 rfl rfl fun _ F => Ll F H 7 6 rfl rfl rfl (fun h4 H _ F => ?_) (fun h4 H _ F => ?_)
 ·cases H
  exact rt F ⟨rfl, s2.drop⟩
 refine Ki F s2 m0 0 rfl fun _ F => ?_
 obtain ⟨o0, H0, R0⟩ := Aa H
 clear H
 refine gx F (Ah rfl underlying108 (fR hr0_1 s2)) 3 rfl rfl fun _ F => Acs (fun a w_ => ∃ p0 : Unit, o0 = .inr (p0) ∧ Fr a 72 [] ∧ SL w [] w_ []) ?_ ?_
 ·have H := H0
  refine gc 1 F rfl fun _ F => lpk (Af8 a0) (fun s3 a w_ => Fr a 72 [(1, jP g8), (35, v0_1), (36, jI (a0.OS.length : Int)), (37, jI s3)] ∧ SL w [] w_ [Cw g8 110 [v0_0, v0_1, jI a0.Fn]]) H ?_ ?_
  ·exact ⟨F.sb, s2⟩
  intro s3 _ w1 h5 o1 H hr
  obtain ⟨F, s4⟩ := h5
  replace H : Af8 a0 s3 = some o1 := H
  unfold Af8 at H
  refine gc 6 F rfl fun _ F => Ll F H 6 4 rfl rfl rfl (fun h6 H _ F => ?_) (fun h6 H _ F => ?_)
  ·obtain ⟨x1, h7, H⟩ := Aa H
   obtain ⟨a1, c0, G0, h8, h9, ha, hb⟩ := Rd.idx hr0_1 Ahb rfl h7
   obtain ⟨v0, rfl, hc⟩ := (Ajk ha hb)
   replace h9 := h9 _ _ s4
   refine gi F h8 0 rfl fun _ F => gx F (Av Aot rfl h9 rfl) 0 rfl rfl fun _ F => Af F s4 Ars rfl rfl fun g0 w2 _ F s5 => Ai F s5 rfl rfl Awz (Ab (Aq (fR hc s5)) (Ab rfl Ap)) (Ac rfl) fun w3 _ F s6 => ?_
   obtain ⟨o2, H1, R1⟩ := Aa H
   clear H
   refine gw 3 F rfl fun _ F => Acs (fun a w_ => ∃ p1 : Bool × Bool, o2 = .inr (p1) ∧ Fr a 72 [(1, jP g8), (6, jP g0), (35, v0_1), (36, jI (a0.OS.length : Int)), (37, jI s3), (46, .pointer (some ⟨g0, 1, none⟩)), (47, jU (x1.Result.toNat : Int)), (48, .bool ((x1.Result.toNat : Int) != 0)), (49, .bool p1.1), (56, .bool p1.2)] ∧ SL w [] w_ [Cw g0 50 [v0, jU (x1.Result.toNat : Int)], Cw g8 110 [v0_0, v0_1, jI a0.Fn]]) ?_ ?_
   ·have H := H1
    refine gc 3 F rfl fun _ F => Ki F s6 m0 0 rfl fun _ F => gx F (Ah rfl underlying47 (fR hc s6)) 2 rfl rfl fun _ F => bsp 45 F H (fun hd H F => ?_) (fun hd H F => ?_)
    ·cases H
     replace H := R1
     try dsimp only at H
     cases H
     obtain rfl := hr _ rfl
     replace H := R0
     try dsimp only at H
     cases H
     exact gw 29 F rfl fun _ F => rt F ⟨rfl, s6.drop.drop⟩
    refine gw 1 F rfl fun _ F => Lm F rfl rfl <| Ki F s6 m0 2 rfl fun _ F => bsp 49 F H (fun he H F => ?_) (fun he H F => ?_)
    ·refine gw 1 F rfl fun _ F => Lm F rfl rfl <| Ki F s6 m1 1 rfl fun _ F => Lm F rfl rfl <| Ki F s6 m0 0 rfl fun _ F => ?_
     obtain ⟨x2, hf, H⟩ := Aa H
     refine Lm F rfl rfl <| gca F s6 (Ati (hr0_0.M3 s6) hf) 5 rfl rfl rfl rfl fun w4 _ F s7 => Ll F H 14 1 rfl rfl rfl (fun hg H _ F => ?_) (fun hg H _ F => ?_)
     ·cases H
      replace H := R1
      try dsimp only at H
      cases H
      obtain rfl := hr _ rfl
      replace H := R0
      try dsimp only at H
      cases H
      exact rt F ⟨rfl, s7.drop.drop⟩
     cases H
     exact ⟨_, rfl, F.sb, s7⟩
    cases H
    exact gw 12 F rfl fun _ F => ⟨_, rfl, F.sb, s6⟩
   intro _ w5 hJ
   obtain ⟨p1, rfl, F, s8⟩ := hJ
   have H := R1
   clear R1 H1
   try dsimp only at H
   refine ge 4 F rfl fun _ F => Ki F s8 m0 0 rfl fun _ F => ?_
   obtain ⟨o3, H2, R2⟩ := Aa H
   clear H
   refine gx F (Ah rfl underlying47 (fR hc s8)) 3 rfl rfl fun _ F => Acs (fun a w_ => ∃ p2 : Unit, o3 = .inr (p2) ∧ Fr a 72 [(1, jP g8), (35, v0_1), (36, jI (a0.OS.length : Int)), (37, jI s3), (46, .pointer (some ⟨g0, 1, none⟩)), (47, jU (x1.Result.toNat : Int)), (48, .bool ((x1.Result.toNat : Int) != 0)), (49, .bool p1.1), (56, .bool p1.2)] ∧ SL w [] w_ [Cw g0 50 [v0, jU (x1.Result.toNat : Int)], Cw g8 110 [v0_0, v0_1, jI a0.Fn]]) ?_ ?_
   ·have H := H2
    refine gc 1 F rfl fun _ F => lpk (Af7 a0 x1) (fun s9 a w_ => Fr a 72 [(1, jP g8), (35, v0_1), (36, jI (a0.OS.length : Int)), (37, jI s3), (46, .pointer (some ⟨g0, 1, none⟩)), (47, jU (x1.Result.toNat : Int)), (48, .bool ((x1.Result.toNat : Int) != 0)), (49, .bool p1.1), (56, .bool p1.2), (59, v0), (60, jI (x1.Abs.length : Int)), (61, jI s9)] ∧ SL w [] w_ [Cw g0 50 [v0, jU (x1.Result.toNat : Int)], Cw g8 110 [v0_0, v0_1, jI a0.Fn]]) H ?_ ?_
    ·exact ⟨F.sb, s8⟩
    intro s9 _ w6 hh o4 H hr
    obtain ⟨F, sa⟩ := hh
    replace H : Af7 a0 x1 s9 = some o4 := H
    unfold Af7 at H
    refine gc 6 F rfl fun _ F => Ll F H 6 4 rfl rfl rfl (fun hi H _ F => ?_) (fun hi H _ F => ?_)
    ·obtain ⟨x3, hj, H⟩ := Aa H
     obtain ⟨a2, hk, hl⟩ := Alr Flat.u8 (rdL hc sa) Abp rfl hj
     refine gi F hk 0 rfl fun _ F => ?_
     obtain ⟨x4, hm, H⟩ := Aa H
     refine gx F (An Acy rfl (Abe.at_ hl (o := 0) rfl)) 6 rfl rfl fun _ F => Ki F sa m1 1 rfl fun _ F => gca F sa (Ati (hr0_0.M3 sa) hm) 3 rfl rfl rfl rfl fun w7 _ F sc => Ll F H 17 7 rfl rfl rfl (fun hn H _ F => ?_) (fun hn H _ F => ?_)
     ·cases H
      obtain rfl := hr _ rfl
      replace H := R2
      try dsimp only at H
      cases H
      obtain rfl := hr _ rfl
      replace H := R0
      try dsimp only at H
      cases H
      exact rt F ⟨rfl, sc.drop.drop⟩
     cases H
     exact ⟨_, rfl, F.sb, sc⟩
    cases H
    obtain rfl := hr _ rfl
    exact ⟨_, rfl, F.sb, sa⟩
   intro _ w8 hJ
   obtain ⟨p2, rfl, F, sd⟩ := hJ
   have H := R2
   clear R2 H2
   try dsimp only at H
   cases H
   exact ge 6 F rfl fun _ F => ⟨_, rfl, F.sb, sd.drop⟩
  cases H
  obtain rfl := hr _ rfl
  exact ⟨_, rfl, F.sb, s4.drop⟩
 intro _ wa hJ
 obtain ⟨p0, rfl, F, se⟩ := hJ
 have H := R0
 clear R0 H0
 try dsimp only at H
 cases H
 exact ge 7 F rfl fun _ F => rt F ⟨rfl, se⟩
theorem Ap1 {w : World} {a0 : B0} {r : Bool} (H : Aiy a0 = some r) :
    Calls prog 171 #[.agg ⟨(jI a0.Locals :: jI a0.Height :: XK a0.Slots)⟩] w (Ret fun u_ w_ => u_ = .bool r ∧ SL w [] w_ []) := by
 have s0 : SL w [] w [] := SL.Abr w
 refine cin func171 ntmps171 2 rfl rfl rfl fun _ F0 => ?_
 unfold Aiy at H
 refine Ar F0 s0 rfl rfl rfl fun g8 w9 _ F s1 => gw 6 F rfl fun _ F => Ki F s1 m0 2 rfl fun _ F => bsp 6 F H (fun h0 H F => ?_) (fun h0 H F => ?_)
 ·refine gw 1 F rfl fun _ F => Lm F rfl rfl <| Ki F s1 m0 3 rfl fun _ F => bsp 11 F H (fun h1 H F => ?_) (fun h1 H F => ?_)
  ·refine gw 1 F rfl fun _ F => Lm F rfl rfl <| Ki F s1 m0 3 rfl fun _ F => bsp 16 F H (fun h2 H F => ?_) (fun h2 H F => ?_)
   ·refine gw 1 F rfl fun _ F => Lm F rfl rfl <| Ki F s1 m0 3 rfl fun _ F => bsp 21 F H (fun h3 H F => ?_) (fun h3 H F => ?_)
    ·refine gw 1 F rfl fun _ F => Lm F rfl rfl <| Ki F s1 m0 1 rfl fun _ F => Lm F rfl rfl ?_
     cases H
     exact Ki F s1 m0 7 rfl fun _ F => rt F ⟨rfl, s1.drop⟩
    cases H
    exact gw 11 F rfl fun _ F => rt F ⟨rfl, s1.drop⟩
   cases H
   exact gw 16 F rfl fun _ F => rt F ⟨rfl, s1.drop⟩
  cases H
  exact gw 21 F rfl fun _ F => rt F ⟨rfl, s1.drop⟩
 cases H
 exact gw 26 F rfl fun _ F => rt F ⟨rfl, s1.drop⟩
theorem Aqa {w : World} {v0 : Value} {a0 : List BV} {a1 : B0} {r : Int} (hr0 : Rd Hw w [] v0 a0) (H : Ahp a0 a1 = some r) :
    Calls prog 147 #[v0, .agg ⟨(jI a1.Locals :: jI a1.Height :: XK a1.Slots)⟩] w (Ret fun u_ w_ => u_ = jI r ∧ SL w [] w_ []) := by
 have s0 : SL w [] w [] := SL.Abr w
 refine cin func147 ntmps147 2 rfl rfl rfl fun _ F0 => ?_
 unfold Ahp at H
 refine Ar F0 s0 rfl rfl rfl fun g8 w9 _ F s1 => ?_
 obtain ⟨x0, h0, H⟩ := Aa H
 refine gw 6 F rfl fun _ F => gla F s1 m0 0 rfl fun _ F => gca F s1 (Ap1 h0) 3 rfl rfl rfl rfl fun w0 _ F s2 => Ll F H 7 6 rfl rfl rfl (fun h1 H _ F => ?_) (fun h1 H _ F => ?_)
 ·cases H
  exact rt F ⟨rfl, s2.drop⟩
 refine Ki F s2 m0 1 rfl fun _ F => ?_
 obtain ⟨o0, H0, R0⟩ := Aa H
 clear H
 refine Ki F s2 m0 4 rfl fun _ F => Acs (fun a w_ => ∃ p0 : Unit, o0 = .inr (p0) ∧ Fr a 40 [(0, v0), (3, jP g8)] ∧ SL w [] w_ [Cw g8 118 (jI a1.Locals :: jI a1.Height :: XK a1.Slots)]) ?_ ?_
 ·have H := H0
  refine gc 1 F rfl fun _ F => lpk (Ahh a1) (fun s3 a w_ => Fr a 40 [(0, v0), (3, jP g8), (5, jI s3)] ∧ SL w [] w_ [Cw g8 118 (jI a1.Locals :: jI a1.Height :: XK a1.Slots)]) H ?_ ?_
  ·exact ⟨F.sb, s2⟩
  intro s3 _ w1 h2 o1 H hr
  obtain ⟨F, s4⟩ := h2
  replace H : Ahh a1 s3 = some o1 := H
  unfold Ahh at H
  refine gc 7 F rfl fun _ F => Ll F H 8 4 rfl rfl rfl (fun h3 H _ F => ?_) (fun h3 H _ F => ?_)
  ·obtain ⟨x1, h4, H⟩ := Aa H
   refine gx F (Agt Ae9 h4 rfl rfl) 0 rfl rfl fun _ F => gx F (An Acy rfl (SL.Amp (pre := [jI a1.Locals, jI a1.Height]) s4 m0 rfl h4)) 3 rfl rfl fun _ F => Ll F H 12 8 rfl rfl rfl (fun h5 H _ F => ?_) (fun h5 H _ F => ?_)
   ·cases H
    obtain rfl := hr _ rfl
    replace H := R0
    try dsimp only at H
    cases H
    exact rt F ⟨rfl, s4.drop⟩
   cases H
   exact ⟨_, rfl, F.sb, s4⟩
  cases H
  obtain rfl := hr _ rfl
  exact ⟨_, rfl, F.sb, s4⟩
 intro _ w2 hJ
 obtain ⟨p0, rfl, F, s5⟩ := hJ
 have H := R0
 clear R0 H0
 try dsimp only at H
 obtain ⟨o2, H1, R1⟩ := Aa H
 clear H
 refine ge 7 F rfl fun _ F => Acs (fun a w_ => ∃ p1 : Unit, o2 = .inr (p1) ∧ Fr a 40 [] ∧ SL w [] w_ []) ?_ ?_
 ·have H := H1
  refine gc 1 F rfl fun _ F => lpk (Ahi a0 a1) (fun s6 a w_ => Fr a 40 [(0, v0), (3, jP g8), (6, jI s6)] ∧ SL w [] w_ [Cw g8 118 (jI a1.Locals :: jI a1.Height :: XK a1.Slots)]) H ?_ ?_
  ·exact ⟨F.sb, s5⟩
  intro s6 _ w3 h6 o3 H hr
  obtain ⟨F, s7⟩ := h6
  replace H : Ahi a0 a1 s6 = some o3 := H
  unfold Ahi at H
  refine gc 5 F rfl fun _ F => Ki F s7 m0 1 rfl fun _ F => Ki F s7 m0 4 rfl fun _ F => Ll F H 9 4 rfl rfl rfl (fun h7 H _ F => ?_) (fun h7 H _ F => ?_)
  ·obtain ⟨x2, h8, H⟩ := Aa H
   obtain ⟨x3, h9, H⟩ := Aa H
   refine gx F (Agt Ae9 h8 rfl rfl) 0 rfl rfl fun _ F => gx F (An Acy rfl (SL.Amp (pre := [jI a1.Locals, jI a1.Height]) s7 m0 rfl h8)) 0 rfl rfl fun _ F => gca F s7 (Ah2 (hr0.M3 s7) h9) 3 rfl rfl rfl rfl fun w4 _ F s8 => Ll F H 12 8 rfl rfl rfl (fun ha H _ F => ?_) (fun ha H _ F => ?_)
   ·cases H
    obtain rfl := hr _ rfl
    replace H := R1
    try dsimp only at H
    cases H
    exact rt F ⟨rfl, s8.drop⟩
   cases H
   exact ⟨_, rfl, F.sb, s8⟩
  cases H
  obtain rfl := hr _ rfl
  exact ⟨_, rfl, F.sb, s7.drop⟩
 intro _ w5 hJ
 obtain ⟨p1, rfl, F, s9⟩ := hJ
 have H := R1
 clear R1 H1
 try dsimp only at H
 cases H
 exact ge 7 F rfl fun _ F => rt F ⟨rfl, s9⟩
theorem Asg {w : World} {v0_0 v0_1 : Value} {a0 : GG} {a1 : CO} {r : Int} (hr0_0 : Rd Hw w [] v0_0 a0.Classes) (hr0_1 : Rd Ach w [] v0_1 a0.OS) (H : Ais a0 a1 = some r) :
    Calls prog 148 #[.agg ⟨[v0_0, v0_1, jI a0.Fn]⟩, .agg ⟨[jI a1.At, jU (a1.Op.toNat : Int), jI a1.A, jI a1.B]⟩] w (Ret fun u_ w_ => u_ = jI r ∧ SL w [] w_ []) := by
 have s0 : SL w [] w [] := SL.Abr w
 refine cin func148 ntmps148 2 rfl rfl rfl fun _ F0 => ?_
 unfold Ais at H
 refine Ar F0 s0 rfl rfl rfl fun g0 w0 _ F s1 => Ar F s1 rfl rfl rfl fun g1 w1 _ F s2 => ?_
 obtain ⟨o0, H0, R0⟩ := Aa H
 clear H
 refine gw 4 F rfl fun _ F => Acs (fun a w_ => ∃ p0 : Unit, o0 = .inr (p0) ∧ Fr a 59 [(2, jP g0), (3, jP g1)] ∧ SL w [] w_ [Cw g1 79 [jI a1.At, jU (a1.Op.toNat : Int), jI a1.A, jI a1.B], Cw g0 110 [v0_0, v0_1, jI a0.Fn]]) ?_ ?_
 ·have H := H0
  refine gc 3 F rfl fun _ F => Ki F s2 m0 9 rfl fun _ F => Ll F H 3 1 rfl rfl rfl (fun h0 H _ F => ?_) (fun h0 H _ F => ?_)
  ·refine Ki F s2 m0 2 rfl fun _ F => bsp 12 F H (fun h1 H F => ?_) (fun h1 H F => ?_)
   ·cases H
    replace H := R0
    try dsimp only at H
    cases H
    exact gw 19 F rfl fun _ F => rt F ⟨rfl, s2.drop.drop⟩
   refine gw 1 F rfl fun _ F => Lm F rfl rfl <| Ki F s2 m0 1 rfl fun _ F => Lm F rfl rfl <| Ki F s2 m1 0 rfl fun _ F => Lm F rfl rfl <| gx F (Ah rfl underlying108 (fR hr0_1 s2)) 4 rfl rfl fun _ F => Ll F H 9 2 rfl rfl rfl (fun h2 H _ F => ?_) (fun h2 H _ F => ?_)
   ·cases H
    replace H := R0
    try dsimp only at H
    cases H
    exact rt F ⟨rfl, s2.drop.drop⟩
   cases H
   exact ⟨_, rfl, F.sb, s2⟩
  obtain ⟨o1, H1, R1⟩ := Aa H
  clear H
  refine Acs (fun a w_ => Fr a 59 [(2, jP g0), (3, jP g1), (20, .bool o1)] ∧ SL w [] w_ [Cw g1 79 [jI a1.At, jU (a1.Op.toNat : Int), jI a1.A, jI a1.B], Cw g0 110 [v0_0, v0_1, jI a0.Fn]]) ?_ ?_
  ·have H := H1
   refine gc 6 F rfl fun _ F => Ll F H 1 6 rfl rfl rfl (fun h3 H _ F => ?_) (fun h3 H _ F => ?_)
   ·cases H
    exact ⟨F.sb, s2⟩
   refine Ll F H 1 6 rfl rfl rfl (fun h4 H _ F => ?_) (fun h4 H _ F => ?_)
   ·cases H
    exact ⟨F.sb, s2⟩
   refine Ll F H 1 6 rfl rfl rfl (fun h5 H _ F => ?_) (fun h5 H _ F => ?_)
   ·cases H
    exact ⟨F.sb, s2⟩
   refine Ll F H 1 4 rfl rfl rfl (fun h6 H _ F => ?_) (fun h6 H _ F => ?_)
   ·cases H
    exact ⟨F.sb, s2⟩
   cases H
   exact ⟨F.sb, s2⟩
  intro _ w2 hJ
  obtain ⟨F, s3⟩ := hJ
  have H := R1
  clear R1 H1
  refine ge 1 F rfl fun _ F => Ll F H 3 2 rfl rfl rfl (fun h7 H _ F => ?_) (fun h7 H _ F => ?_)
  ·refine Ki F s3 m0 2 rfl fun _ F => bsp 29 F H (fun h8 H F => ?_) (fun h8 H F => ?_)
   ·cases H
    replace H := R0
    try dsimp only at H
    cases H
    exact gw 19 F rfl fun _ F => rt F ⟨rfl, s3.drop.drop⟩
   refine gw 1 F rfl fun _ F => Lm F rfl rfl <| Ki F s3 m0 1 rfl fun _ F => Lm F rfl rfl <| Ki F s3 m1 0 rfl fun _ F => Lm F rfl rfl <| gx F (Ah rfl underlying22 (fR hr0_0 s3)) 4 rfl rfl fun _ F => Ll F H 9 2 rfl rfl rfl (fun h9 H _ F => ?_) (fun h9 H _ F => ?_)
   ·cases H
    replace H := R0
    try dsimp only at H
    cases H
    exact rt F ⟨rfl, s3.drop.drop⟩
   cases H
   exact ⟨_, rfl, F.sb, s3⟩
  cases H
  exact ⟨_, rfl, F.sb, s3⟩
 intro _ w3 hJ
 obtain ⟨p0, rfl, F, s4⟩ := hJ
 have H := R0
 clear R0 H0
 try dsimp only at H
 refine ge 5 F rfl fun _ F => Ki F s4 m0 2 rfl fun _ F => bsp 40 F H (fun ha H F => ?_) (fun ha H F => ?_)
 ·refine gw 8 F rfl fun _ F => Be (decide (a1.B < 0)) (fun hgs3 => ?_) (fun hgs3 => ?_)
  ·replace H := As3 hgs3 H
   refine Ad4 Abj s4 ?_
   refine hq [0, 1, 2, 3, 4, 5, 6, 7, 8, 9, 10, 11, 12, 13] F s4.drew (QI.ev 1 rfl <| QI.ld m0 rfl <| QI.ev 2 rfl <| QI.kn (dj := 48) rfl hgs3 <| QI.ev 10 rfl <| QI.nil) (by kernel_rfl) fun _ F => ?_
   refine Aew (by kernel_rfl) ?_
   cases H
   exact ge 9 F rfl fun _ F => rt F ⟨rfl, s4.drew.drop.drop⟩
  replace H := As4 hgs3 H
  obtain ⟨x0, hb, H⟩ := Aa H
  refine Ad4 Abj s4 ?_
  refine hq [0, 1, 2, 3, 4, 5, 6, 7, 8, 9] F s4.drew (QI.ev 1 rfl <| QI.ld m0 rfl <| QI.ev 2 rfl <| QI.kn (dj := 48) rfl hgs3 <| QI.ev 1 rfl <| QI.gop rfl (fun _ hC => An Acx rfl (hC.Ai8 m0 rfl)) rfl rfl rfl rfl rfl <| QI.ev 1 rfl <| QI.gop rfl (fun _ hC => An AAl rfl (hC.Ai8 m1 rfl)) rfl rfl rfl rfl rfl <| QI.ev 1 rfl <| QI.gop rfl (fun _ hC => An Acx rfl (hC.Ai8 m0 rfl)) rfl rfl rfl rfl rfl <| QI.nil) (by kernel_rfl) fun _ F => ?_
  refine ho 10 rfl (by kernel_rfl) ?_
  refine Lm F rfl rfl <| std F (Akk (hr0_0.M3 s4.drew) hb) fun v0 w4 _ hc F => ?_
  obtain ⟨_, rfl, hd⟩ := hc
  have s5 := s4.drew.add hd
  refine gw 1 F rfl fun _ F => ⟨s5.drop, ?_⟩
  refine ho 11 rfl (by kernel_rfl) ?_
  refine Lm F rfl rfl <| gx F (Ah rfl underlying101 (fO s5 m0)) 1 rfl rfl fun _ F => ⟨s5.drop, ?_⟩
  refine hq [12, 13] F s5.drop (QI.ev 2 rfl <| QI.nil) (by kernel_rfl) fun _ F => ?_
  refine Aew (by kernel_rfl) ?_
  refine ge 1 F rfl fun _ F => Ll F H 7 8 rfl rfl rfl (fun he H _ F => ?_) (fun he H _ F => ?_)
  ·cases H
   exact rt F ⟨rfl, s5.drop.drop.drop⟩
  cases H
  exact rt F ⟨rfl, s5.drop.drop.drop⟩
 refine gw 1 F rfl fun _ F => Lm F rfl rfl <| Ki F s4 m0 4 rfl fun _ F => Ll F H 1 8 rfl rfl rfl (fun hf H _ F => ?_) (fun hf H _ F => ?_)
 ·refine Be (decide (a1.B < 0)) (fun hgs4 => ?_) (fun hgs4 => ?_)
  ·replace H := As3 hgs4 H
   refine Ad4 Abj s4 ?_
   refine hq [0, 1, 2, 3, 4, 5, 6, 7, 8, 9, 10, 11, 12, 13] F s4.drew (QI.ev 1 rfl <| QI.ld m0 rfl <| QI.ev 2 rfl <| QI.kn (dj := 48) rfl hgs4 <| QI.ev 10 rfl <| QI.nil) (by kernel_rfl) fun _ F => ?_
   refine Aew (by kernel_rfl) ?_
   cases H
   exact ge 9 F rfl fun _ F => rt F ⟨rfl, s4.drew.drop.drop⟩
  replace H := As4 hgs4 H
  obtain ⟨x1, hg, H⟩ := Aa H
  refine Ad4 Abj s4 ?_
  refine hq [0, 1, 2, 3, 4, 5, 6, 7, 8, 9] F s4.drew (QI.ev 1 rfl <| QI.ld m0 rfl <| QI.ev 2 rfl <| QI.kn (dj := 48) rfl hgs4 <| QI.ev 1 rfl <| QI.gop rfl (fun _ hC => An Acx rfl (hC.Ai8 m0 rfl)) rfl rfl rfl rfl rfl <| QI.ev 1 rfl <| QI.gop rfl (fun _ hC => An AAl rfl (hC.Ai8 m1 rfl)) rfl rfl rfl rfl rfl <| QI.ev 1 rfl <| QI.gop rfl (fun _ hC => An Acx rfl (hC.Ai8 m0 rfl)) rfl rfl rfl rfl rfl <| QI.nil) (by kernel_rfl) fun _ F => ?_
  refine ho 10 rfl (by kernel_rfl) ?_
  refine Lm F rfl rfl <| std F (Akk (hr0_0.M3 s4.drew) hg) fun v1 w5 _ hh F => ?_
  obtain ⟨_, rfl, hi⟩ := hh
  have s6 := s4.drew.add hi
  refine gw 1 F rfl fun _ F => ⟨s6.drop, ?_⟩
  refine ho 11 rfl (by kernel_rfl) ?_
  refine Lm F rfl rfl <| gx F (Ah rfl underlying101 (fO s6 m0)) 1 rfl rfl fun _ F => ⟨s6.drop, ?_⟩
  refine hq [12, 13] F s6.drop (QI.ev 2 rfl <| QI.nil) (by kernel_rfl) fun _ F => ?_
  refine Aew (by kernel_rfl) ?_
  refine ge 1 F rfl fun _ F => Ll F H 7 8 rfl rfl rfl (fun hj H _ F => ?_) (fun hj H _ F => ?_)
  ·cases H
   exact rt F ⟨rfl, s6.drop.drop.drop⟩
  cases H
  exact rt F ⟨rfl, s6.drop.drop.drop⟩
 cases H
 exact rt F ⟨rfl, s4.drop.drop⟩
theorem Aqm {w : World} {a0 : UInt8} {r : (List UInt8)} (H : Ajh a0 = some r) :
    Calls prog 194 #[jU (a0.toNat : Int)] w (Ret fun u_ w_ => ∃ u0 : Value, u_ = u0 ∧ SL w [] w_ [Sl Ty.u8 u0 r]) := by
 have s0 : SL w [] w [] := SL.Abr w
 refine cin func194 ntmps194 12 rfl rfl rfl fun _ F => ?_
 unfold Ajh at H
 refine Ll F H 7 5 rfl rfl rfl (fun h0 H _ F => ?_) (fun h0 H _ F => ?_)
 ·cases H
  exact rt F ⟨(.slice none 0 0), rfl, (SL.Ac3 (T := Ty.u8) s0)⟩
 refine Ae (parts := [(0, .tmp 5)]) Flat.u8 ([a0] : List UInt8) F s0 Abp rfl (by decide) rfl rfl rfl (by simp [Value.cells]) rfl rfl rfl fun v0 w0 _ F s1 => ?_
 cases H
 exact gw 4 F rfl fun _ F => rt F ⟨v0, rfl, s1⟩
theorem Ap6 {w : World} {a0 : Int} {r : UInt8} (H : Agn a0 = some r) :
    Calls prog 195 #[jI a0] w (Ret fun u_ w_ => u_ = jU (r.toNat : Int) ∧ SL w [] w_ []) := by
 have s0 : SL w [] w [] := SL.Abr w
 refine cin func195 ntmps195 8 rfl rfl rfl fun _ F7 => ?_
 unfold Agn at H
 refine gx F7 (A05 rfl underlying3 underlying48) 0 rfl rfl fun _ F8 => ?_
 cases H
 exact gx F8 (A3c rfl rfl) 4 rfl rfl fun _ F => rt F ⟨rfl, s0⟩
theorem Az8 {w : World} {v0_0 v0_1 : Value} {a0 : GG} {a1 : CO} {r : (List UInt8)} {wb : World} {Fb : List Nat} (hb : Fm wb Fb w) (hB : ∀ k ∈ ([] : List Nat), k ∈ Fb ∨ wb.heap.size ≤ k) (hr0_0 : Rd Hw wb Fb v0_0 a0.Classes) (hr0_1 : Rd Ach wb Fb v0_1 a0.OS) (H : Al0 a0 a1 = some r) :
    Calls prog 172 #[.agg ⟨[v0_0, v0_1, jI a0.Fn]⟩, .agg ⟨[jI a1.At, jU (a1.Op.toNat : Int), jI a1.A, jI a1.B]⟩] w (Ret fun u_ w_ => ∃ u0 : Value, u_ = u0 ∧ SL w [] w_ [Mx Ty.u8 wb Fb u0 r]) := by
 have s0 : SL w [] w [] := SL.Abr w
 refine cin func172 ntmps172 2 rfl rfl rfl fun _ F0 => ?_
 unfold Al0 at H
 refine Ar F0 s0 rfl rfl rfl fun g0 w0 _ F s1 => Ar F s1 rfl rfl rfl fun g1 w1 _ F s2 => gw 7 F rfl fun _ F => Ki F s2 m0 9 rfl fun _ F => Ll F H 2 1 rfl rfl rfl (fun h0 H _ F => ?_) (fun h0 H _ F => ?_)
 ·refine Ae (parts := [(0, .const (jU 254))]) Flat.u8 ([(254 : UInt8)] : List UInt8) F s2 Abp rfl (by decide) rfl rfl rfl (by simp [Value.cells]) rfl rfl rfl fun v0 w2 _ F s3 => ?_
  cases H
  exact gw 6 F rfl fun _ F => rt F ⟨v0, rfl, (SL.Al6 (wb := wb) (Fb := Fb) s3).f1.drop.f1.drop⟩
 obtain ⟨o0, H0, R0⟩ := Aa H
 clear H
 refine Acs (fun a w_ => Fr a 94 [(2, jP g0), (3, jP g1), (6, jU (a1.Op.toNat : Int)), (10, .bool o0)] ∧ SL w [] w_ [Cw g1 79 [jI a1.At, jU (a1.Op.toNat : Int), jI a1.A, jI a1.B], Cw g0 110 [v0_0, v0_1, jI a0.Fn]]) ?_ ?_
 ·have H := H0
  refine gc 6 F rfl fun _ F => Ll F H 1 4 rfl rfl rfl (fun h1 H _ F => ?_) (fun h1 H _ F => ?_)
  ·cases H
   exact ⟨F.sb, s2⟩
  cases H
  exact ⟨F.sb, s2⟩
 intro _ w3 hJ
 obtain ⟨F, s4⟩ := hJ
 have H := R0
 clear R0 H0
 refine ge 1 F rfl fun _ F => Ll F H 2 6 rfl rfl rfl (fun h2 H _ F => ?_) (fun h2 H _ F => ?_)
 ·refine Ae (parts := [(0, .const (jU 255))]) Flat.u8 ([(255 : UInt8)] : List UInt8) F s4 Abp rfl (by decide) rfl rfl rfl (by simp [Value.cells]) rfl rfl rfl fun v1 w4 _ F s5 => ?_
  cases H
  exact gw 6 F rfl fun _ F => rt F ⟨v1, rfl, (SL.Al6 (wb := wb) (Fb := Fb) s5).f1.drop.f1.drop⟩
 refine Ll F H 2 1 rfl rfl rfl (fun h3 H _ F => ?_) (fun h3 H _ F => ?_)
 ·refine Ae (parts := [(0, .const (jU 255)), (1, .const (jU 255))]) Flat.u8 ([(255 : UInt8), (255 : UInt8)] : List UInt8) F s4 Abp rfl (by decide) rfl rfl rfl (by simp [Value.cells]) rfl rfl rfl fun v2 w5 _ F s6 => ?_
  cases H
  exact gw 6 F rfl fun _ F => rt F ⟨v2, rfl, (SL.Al6 (wb := wb) (Fb := Fb) s6).f1.drop.f1.drop⟩
 obtain ⟨o1, H1, R1⟩ := Aa H
 clear H
 refine Acs (fun a w_ => Fr a 94 [(2, jP g0), (3, jP g1), (6, jU (a1.Op.toNat : Int)), (17, .bool o1)] ∧ SL w [] w_ [Cw g1 79 [jI a1.At, jU (a1.Op.toNat : Int), jI a1.A, jI a1.B], Cw g0 110 [v0_0, v0_1, jI a0.Fn]]) ?_ ?_
 ·have H := H1
  refine gc 6 F rfl fun _ F => Ll F H 1 6 rfl rfl rfl (fun h4 H _ F => ?_) (fun h4 H _ F => ?_)
  ·cases H
   exact ⟨F.sb, s4⟩
  refine Ll F H 1 6 rfl rfl rfl (fun h5 H _ F => ?_) (fun h5 H _ F => ?_)
  ·cases H
   exact ⟨F.sb, s4⟩
  refine Ll F H 1 6 rfl rfl rfl (fun h6 H _ F => ?_) (fun h6 H _ F => ?_)
  ·cases H
   exact ⟨F.sb, s4⟩
  refine Ll F H 1 6 rfl rfl rfl (fun h7 H _ F => ?_) (fun h7 H _ F => ?_)
  ·cases H
   exact ⟨F.sb, s4⟩
  refine Ll F H 1 4 rfl rfl rfl (fun h8 H _ F => ?_) (fun h8 H _ F => ?_)
  ·cases H
   exact ⟨F.sb, s4⟩
  cases H
  exact ⟨F.sb, s4⟩
 intro _ w6 hJ
 obtain ⟨F, s7⟩ := hJ
 have H := R1
 clear R1 H1
 refine ge 1 F rfl fun _ F => Ll F H 2 1 rfl rfl rfl (fun h9 H _ F => ?_) (fun h9 H _ F => ?_)
 ·refine Ae (parts := [(0, .const (jU 1)), (1, .const (jU 1))]) Flat.u8 ([(1 : UInt8), (1 : UInt8)] : List UInt8) F s7 Abp rfl (by decide) rfl rfl rfl (by simp [Value.cells]) rfl rfl rfl fun v3 w7 _ F s8 => ?_
  cases H
  exact gw 6 F rfl fun _ F => rt F ⟨v3, rfl, (SL.Al6 (wb := wb) (Fb := Fb) s8).f1.drop.f1.drop⟩
 obtain ⟨o2, H2, R2⟩ := Aa H
 clear H
 refine Acs (fun a w_ => Fr a 94 [(2, jP g0), (3, jP g1), (6, jU (a1.Op.toNat : Int)), (25, .bool o2)] ∧ SL w [] w_ [Cw g1 79 [jI a1.At, jU (a1.Op.toNat : Int), jI a1.A, jI a1.B], Cw g0 110 [v0_0, v0_1, jI a0.Fn]]) ?_ ?_
 ·have H := H2
  refine gc 6 F rfl fun _ F => Ll F H 1 6 rfl rfl rfl (fun ha H _ F => ?_) (fun ha H _ F => ?_)
  ·cases H
   exact ⟨F.sb, s7⟩
  refine Ll F H 1 4 rfl rfl rfl (fun hc H _ F => ?_) (fun hc H _ F => ?_)
  ·cases H
   exact ⟨F.sb, s7⟩
  cases H
  exact ⟨F.sb, s7⟩
 intro _ w8 hJ
 obtain ⟨F, s9⟩ := hJ
 have H := R2
 clear R2 H2
 refine ge 1 F rfl fun _ F => Ll F H 2 6 rfl rfl rfl (fun hd H _ F => ?_) (fun hd H _ F => ?_)
 ·refine Ae (parts := [(0, .const (jU 1))]) Flat.u8 ([(1 : UInt8)] : List UInt8) F s9 Abp rfl (by decide) rfl rfl rfl (by simp [Value.cells]) rfl rfl rfl fun v4 w9 _ F sa => ?_
  cases H
  exact gw 6 F rfl fun _ F => rt F ⟨v4, rfl, (SL.Al6 (wb := wb) (Fb := Fb) sa).f1.drop.f1.drop⟩
 refine Ll F H 2 1 rfl rfl rfl (fun he H _ F => ?_) (fun he H _ F => ?_)
 ·refine Ae (parts := [(0, .const (jU 255)), (1, .const (jU 255))]) Flat.u8 ([(255 : UInt8), (255 : UInt8)] : List UInt8) F s9 Abp rfl (by decide) rfl rfl rfl (by simp [Value.cells]) rfl rfl rfl fun v5 wa _ F sc => ?_
  cases H
  exact gw 6 F rfl fun _ F => rt F ⟨v5, rfl, (SL.Al6 (wb := wb) (Fb := Fb) sc).f1.drop.f1.drop⟩
 obtain ⟨o3, H3, R3⟩ := Aa H
 clear H
 refine Acs (fun a w_ => Fr a 94 [(2, jP g0), (3, jP g1), (6, jU (a1.Op.toNat : Int)), (33, .bool o3)] ∧ SL w [] w_ [Cw g1 79 [jI a1.At, jU (a1.Op.toNat : Int), jI a1.A, jI a1.B], Cw g0 110 [v0_0, v0_1, jI a0.Fn]]) ?_ ?_
 ·have H := H3
  refine gc 6 F rfl fun _ F => Ll F H 1 4 rfl rfl rfl (fun hf H _ F => ?_) (fun hf H _ F => ?_)
  ·cases H
   exact ⟨F.sb, s9⟩
  cases H
  exact ⟨F.sb, s9⟩
 intro _ wc hJ
 obtain ⟨F, sd⟩ := hJ
 have H := R3
 clear R3 H3
 refine ge 1 F rfl fun _ F => Ll F H 2 6 rfl rfl rfl (fun hg H _ F => ?_) (fun hg H _ F => ?_)
 ·refine Ae (parts := [(0, .const (jU 2))]) Flat.u8 ([(2 : UInt8)] : List UInt8) F sd Abp rfl (by decide) rfl rfl rfl (by simp [Value.cells]) rfl rfl rfl fun v6 wd _ F se => ?_
  cases H
  exact gw 6 F rfl fun _ F => rt F ⟨v6, rfl, (SL.Al6 (wb := wb) (Fb := Fb) se).f1.drop.f1.drop⟩
 refine Ll F H 2 6 rfl rfl rfl (fun hh H _ F => ?_) (fun hh H _ F => ?_)
 ·refine Ae (parts := [(0, .const (jU 253)), (1, .const (jU 253))]) Flat.u8 ([(253 : UInt8), (253 : UInt8)] : List UInt8) F sd Abp rfl (by decide) rfl rfl rfl (by simp [Value.cells]) rfl rfl rfl fun v7 we _ F sf => ?_
  cases H
  exact gw 6 F rfl fun _ F => rt F ⟨v7, rfl, (SL.Al6 (wb := wb) (Fb := Fb) sf).f1.drop.f1.drop⟩
 refine Ll F H 2 6 rfl rfl rfl (fun hi H _ F => ?_) (fun hi H _ F => ?_)
 ·obtain ⟨x0, hj, H⟩ := Aa H
  obtain ⟨a2, c0, G0, hk, hl, hm, hn⟩ := Rd.idx hr0_1 Ahb rfl hj
  obtain ⟨v8, rfl, hp⟩ := (Ajk hm hn)
  replace hl := hl _ _ (SL.up hb hB sd)
  refine gw 1 F rfl fun _ F => Ki F sd m1 1 rfl fun _ F => Ki F sd m0 0 rfl fun _ F => gi F hk 0 rfl fun _ F => gx F (Ba Atk rfl) 0 rfl rfl fun _ F => ?_
  cases H
  exact gx F (An As9 rfl (Abe.at_ hl (o := 0) rfl)) 6 rfl rfl fun _ F => rt F ⟨v8, rfl, (SL.AOd sd hp).f1.drop.f1.drop⟩
 refine Ll F H 2 6 rfl rfl rfl (fun hr H _ F => ?_) (fun hr H _ F => ?_)
 ·obtain ⟨x1, hs, H⟩ := Aa H
  obtain ⟨a3, c1, G1, ht, hu, hv, hw⟩ := Rd.idx hr0_1 Ahb rfl hs
  obtain ⟨v9, rfl, hx⟩ := (Ajk hv hw)
  replace hu := hu _ _ (SL.up hb hB sd)
  obtain ⟨x2, hy, H⟩ := Aa H
  refine gw 1 F rfl fun _ F => Ki F sd m1 1 rfl fun _ F => Ki F sd m1 0 rfl fun _ F => gi F ht 0 rfl fun _ F => gx F (Ba A1g rfl) 0 rfl rfl fun _ F => gx F (An Acy rfl (Abe.at_ hu (o := 1) rfl)) 0 rfl rfl fun _ F => std F (Aqm hy) fun va wf _ hz F => ?_
  obtain ⟨_, rfl, h10⟩ := hz
  have sg := sd.add h10
  cases H
  exact gw 6 F rfl fun _ F => rt F ⟨va, rfl, (SL.Al6 (wb := wb) (Fb := Fb) sg).f1.drop.f1.drop⟩
 refine Ll F H 3 6 rfl rfl rfl (fun h11 H _ F => ?_) (fun h11 H _ F => ?_)
 ·obtain ⟨x3, h12, H⟩ := Aa H
  refine Ki F sd m0 0 rfl fun _ F => gca F sd (Ap6 h12) 0 rfl rfl rfl rfl fun wg _ F sh => ?_
  refine Ae (parts := [(0, .tmp 63)]) Flat.u8 ([x3] : List UInt8) F sh Abp rfl (by decide) rfl rfl rfl (by simp [Value.cells]) rfl rfl rfl fun vb wh _ F si => ?_
  cases H
  exact gw 6 F rfl fun _ F => rt F ⟨vb, rfl, (SL.Al6 (wb := wb) (Fb := Fb) si).f1.drop.f1.drop⟩
 refine Ll F H 1 6 rfl rfl rfl (fun h13 H _ F => ?_) (fun h13 H _ F => ?_)
 ·obtain ⟨x4, h14, H⟩ := Aa H
  obtain ⟨x5, h15, H⟩ := Aa H
  obtain ⟨x6, h16, H⟩ := Aa H
  refine Ad4 Abj sd ?_
  refine hq [0, 1, 3, 4, 5, 6, 8, 9] F sd.drew (QI.ev 1 rfl <| QI.ld m0 rfl <| QI.ev 1 rfl <| QI.ld m1 rfl <| QI.ev 1 rfl <| QI.ld m0 rfl <| QI.ev 1 rfl <| QI.ld m0 rfl <| QI.nil) (by kernel_rfl) fun _ F => ?_
  refine ho 2 rfl (by kernel_rfl) ?_
  refine gca F sd.drew (Ap6 h14) 1 rfl rfl rfl rfl fun wi _ F sj => ⟨sj, ?_⟩
  refine ho 7 rfl (by kernel_rfl) ?_
  refine std F (Akk (hr0_0.M3 (SL.up hb hB sj)) h15) fun vc wj _ h17 F => ?_
  obtain ⟨_, rfl, h18⟩ := h17
  have sk := sj.add h18
  refine gw 1 F rfl fun _ F => ⟨sk.drop, ?_⟩
  refine ho 10 rfl (by kernel_rfl) ?_
  obtain ⟨a4, h19, h1a⟩ := Ax Agh sk m0 Aks rfl h16
  refine gi F h19 1 rfl fun _ F => ⟨sk.drop, ?_⟩
  refine hq [11] F sk.drop (QI.op rfl (fun _ hC => Ba Azj rfl) rfl <| QI.nil) (by kernel_rfl) fun _ F => ?_
  refine ho 12 rfl (by kernel_rfl) ?_
  refine gx F (An Acy rfl (Abe.at_ (SL.Aef Agh sk m0 h1a h16) (o := 1) rfl)) 1 rfl rfl fun _ F => ⟨sk.drop, ?_⟩
  refine ho 13 rfl (by kernel_rfl) ?_
  refine Ae (parts := [(0, .tmp 69), (1, .tmp 79)]) Flat.u8 ([x4, x6.Akl] : List UInt8) F sk Abp rfl (by decide) rfl rfl rfl (by simp [Value.cells]) rfl rfl rfl fun vd wk _ F sl => ?_
  refine gw 1 F rfl fun _ F => ⟨sl.drop.drop, ?_⟩
  refine hq [14] F sl.drop.drop (QI.ev 1 rfl <| QI.nil) (by kernel_rfl) fun _ F => ?_
  refine Aew (by kernel_rfl) ?_
  cases H
  exact ge 4 F rfl fun _ F => rt F ⟨vd, rfl, (SL.Al6 (wb := wb) (Fb := Fb) sl).f1.drop.f1.drop.f1.drop⟩
 refine Ll F H 2 6 rfl rfl rfl (fun h1b H _ F => ?_) (fun h1b H _ F => ?_)
 ·refine Ae (parts := [(0, .const (jU 4))]) Flat.u8 ([(4 : UInt8)] : List UInt8) F sd Abp rfl (by decide) rfl rfl rfl (by simp [Value.cells]) rfl rfl rfl fun ve wl _ F sm => ?_
  cases H
  exact gw 6 F rfl fun _ F => rt F ⟨ve, rfl, (SL.Al6 (wb := wb) (Fb := Fb) sm).f1.drop.f1.drop⟩
 refine Ll F H 2 6 rfl rfl rfl (fun h1c H _ F => ?_) (fun h1c H _ F => ?_)
 ·refine Ae (parts := [(0, .const (jU 4)), (1, .const (jU 1))]) Flat.u8 ([(4 : UInt8), (1 : UInt8)] : List UInt8) F sd Abp rfl (by decide) rfl rfl rfl (by simp [Value.cells]) rfl rfl rfl fun vf wm _ F sn => ?_
  cases H
  exact gw 6 F rfl fun _ F => rt F ⟨vf, rfl, (SL.Al6 (wb := wb) (Fb := Fb) sn).f1.drop.f1.drop⟩
 refine Ll F H 2 7 rfl rfl rfl (fun h1d H _ F => ?_) (fun h1d H _ F => ?_)
 ·refine Ae (parts := [(0, .const (jU 4)), (1, .const (jU 1)), (2, .const (jU 1))]) Flat.u8 ([(4 : UInt8), (1 : UInt8), (1 : UInt8)] : List UInt8) F sd Abp rfl (by decide) rfl rfl rfl (by simp [Value.cells]) rfl rfl rfl fun vg wn _ F so => ?_
  cases H
  exact gw 6 F rfl fun _ F => rt F ⟨vg, rfl, (SL.Al6 (wb := wb) (Fb := Fb) so).f1.drop.f1.drop⟩
 refine Ll F H 5 5 rfl rfl rfl (fun h1e H _ F => ?_) (fun h1e H _ F => ?_)
 ·refine Ae (parts := [(0, .const (jU 253))]) Flat.u8 ([(253 : UInt8)] : List UInt8) F sd Abp rfl (by decide) rfl rfl rfl (by simp [Value.cells]) rfl rfl rfl fun vh wo _ F sp => ?_
  cases H
  exact gw 6 F rfl fun _ F => rt F ⟨vh, rfl, (SL.Al6 (wb := wb) (Fb := Fb) sp).f1.drop.f1.drop⟩
 refine Ll F H 2 9 rfl rfl rfl (fun h1f H _ F => ?_) (fun h1f H _ F => ?_)
 ·refine Ae (parts := [(0, .const (jU 253))]) Flat.u8 ([(253 : UInt8)] : List UInt8) F sd Abp rfl (by decide) rfl rfl rfl (by simp [Value.cells]) rfl rfl rfl fun vi wp _ F sq => ?_
  cases H
  exact gw 6 F rfl fun _ F => rt F ⟨vi, rfl, (SL.Al6 (wb := wb) (Fb := Fb) sq).f1.drop.f1.drop⟩
 cases H
 exact rt F ⟨(.slice none 0 0), rfl, (SL.Al6 (wb := wb) (Fb := Fb) (SL.Ac3 (T := Ty.u8) sd)).f1.drop.f1.drop⟩
theorem Amx {w : World} {a0 : UInt8} {r : Bool} (H : Ahn a0 = some r) :
    Calls prog 196 #[jU (a0.toNat : Int)] w (Ret fun u_ w_ => u_ = .bool r ∧ SL w [] w_ []) := by
 have s0 : SL w [] w [] := SL.Abr w
 refine cin func196 ntmps196 10 rfl rfl rfl fun _ F => ?_
 unfold Ahn at H
 refine bsp 5 F H (fun h0 H F => ?_) (fun h0 H F => ?_)
 ·cases H
  exact gw 15 F rfl fun _ F => rt F ⟨rfl, s0⟩
 refine gw 4 F rfl fun _ F => bsp 9 F H (fun h1 H F => ?_) (fun h1 H F => ?_)
 ·cases H
  exact gw 11 F rfl fun _ F => rt F ⟨rfl, s0⟩
 refine gw 4 F rfl fun _ F => bsp 13 F H (fun h2 H F => ?_) (fun h2 H F => ?_)
 ·cases H
  exact gw 7 F rfl fun _ F => rt F ⟨rfl, s0⟩
 cases H
 exact gw 7 F rfl fun _ F => rt F ⟨rfl, s0⟩
theorem Aoc {w : World} {v0 : Value} {a0 : List BV} {a1 : UInt8} {a2 : UInt8} {r : Bool} (hr0 : Rd Hw w [] v0 a0) (H : Ai6 a0 a1 a2 = some r) :
    Calls prog 197 #[v0, jU (a1.toNat : Int), jU (a2.toNat : Int)] w (Ret fun u_ w_ => u_ = .bool r ∧ SL w [] w_ []) := by
 have s0 : SL w [] w [] := SL.Abr w
 refine cin func197 ntmps197 10 rfl rfl rfl fun _ F => ?_
 unfold Ai6 at H
 obtain ⟨x0, h0, H⟩ := Aa H
 refine gca F s0 (Ah2 (hr0.M3 s0) h0) 2 rfl rfl rfl rfl fun w0 _ F s1 => bsp 13 F H (fun h1 H F => ?_) (fun h1 H F => ?_)
 ·cases H
  exact gw 15 F rfl fun _ F => rt F ⟨rfl, s1⟩
 obtain ⟨x1, h2, H⟩ := Aa H
 refine gw 2 F rfl fun _ F => Lm F rfl rfl <| gca F s1 (Ah2 (hr0.M3 s1) h2) 4 rfl rfl rfl rfl fun w1 _ F s2 => Ll F H 7 3 rfl rfl rfl (fun h3 H _ F => ?_) (fun h3 H _ F => ?_)
 ·cases H
  exact rt F ⟨rfl, s2⟩
 obtain ⟨o0, H0, R0⟩ := Aa H
 clear H
 refine Acs (fun a w_ => ∃ p0 : Unit, o0 = .inr (p0) ∧ Fr a 67 [(0, v0), (1, jU (a1.toNat : Int)), (2, jU (a2.toNat : Int))] ∧ SL w [] w_ []) ?_ ?_
 ·have H := H0
  refine gc 6 F rfl fun _ F => bsp 22 F H (fun h4 H F => ?_) (fun h4 H F => ?_)
  ·cases H
   replace H := R0
   try dsimp only at H
   cases H
   exact gw 30 F rfl fun _ F => rt F ⟨rfl, s2⟩
  refine gw 4 F rfl fun _ F => bsp 26 F H (fun h5 H F => ?_) (fun h5 H F => ?_)
  ·cases H
   replace H := R0
   try dsimp only at H
   cases H
   exact gw 26 F rfl fun _ F => rt F ⟨rfl, s2⟩
  refine gw 3 F rfl fun _ F => bsp 29 F H (fun h6 H F => ?_) (fun h6 H F => ?_)
  ·obtain ⟨x2, h7, H⟩ := Aa H
   refine gw 1 F rfl fun _ F => Lm F rfl rfl <| gca F s2 (Amx h7) 3 rfl rfl rfl rfl fun w2 _ F s3 => bsp 34 F H (fun h8 H F => ?_) (fun h8 H F => ?_)
   ·cases H
    replace H := R0
    try dsimp only at H
    cases H
    exact gw 18 F rfl fun _ F => rt F ⟨rfl, s3⟩
   obtain ⟨x3, h9, H⟩ := Aa H
   refine gw 1 F rfl fun _ F => Lm F rfl rfl <| gca F s3 (Amx h9) 1 rfl rfl rfl rfl fun w3 _ F s4 => bsp 37 F H (fun ha H F => ?_) (fun ha H F => ?_)
   ·refine gw 6 F rfl fun _ F => Ll F H 8 1 rfl rfl rfl (fun hb H _ F => ?_) (fun hb H _ F => ?_)
    ·cases H
     replace H := R0
     try dsimp only at H
     cases H
     exact rt F ⟨rfl, s4⟩
    cases H
    exact ⟨_, rfl, F.sb, s4⟩
   cases H
   exact gw 8 F rfl fun _ F => ⟨_, rfl, F.sb, s4⟩
  obtain ⟨x4, hc, H⟩ := Aa H
  refine gw 6 F rfl fun _ F => Lm F rfl rfl <| gca F s2 (Amx hc) 1 rfl rfl rfl rfl fun w4 _ F s5 => bsp 37 F H (fun hd H F => ?_) (fun hd H F => ?_)
  ·refine gw 6 F rfl fun _ F => Ll F H 8 1 rfl rfl rfl (fun he H _ F => ?_) (fun he H _ F => ?_)
   ·cases H
    replace H := R0
    try dsimp only at H
    cases H
    exact rt F ⟨rfl, s5⟩
   cases H
   exact ⟨_, rfl, F.sb, s5⟩
  cases H
  exact gw 8 F rfl fun _ F => ⟨_, rfl, F.sb, s5⟩
 intro _ w5 hJ
 obtain ⟨p0, rfl, F, s6⟩ := hJ
 have H := R0
 clear R0 H0
 try dsimp only at H
 refine ge 7 F rfl fun _ F => bsp 44 F H (fun hf H F => ?_) (fun hf H F => ?_)
 ·cases H
  exact gw 13 F rfl fun _ F => rt F ⟨rfl, s6⟩
 refine gw 5 F rfl fun _ F => Ll F H 7 6 rfl rfl rfl (fun hg H _ F => ?_) (fun hg H _ F => ?_)
 ·cases H
  exact rt F ⟨rfl, s6⟩
 obtain ⟨x5, hh, H⟩ := Aa H
 refine gx F (Ayr rfl rfl) 0 rfl rfl fun _ F => gx F (Arl rfl underlying48 underlying3) 0 rfl rfl fun _ F => std F (Auq (hr0.M3 s6) hh) fun v1 w6 _ hi F => ?_
 obtain ⟨_, rfl, hj⟩ := hi
 have s7 := s6.add hj
 obtain ⟨o1, H1, R1⟩ := Aa H
 clear H
 refine gw 9 F rfl fun _ F => Acs (fun a w_ => ∃ p1 : Unit, o1 = .inr (p1) ∧ Fr a 67 [] ∧ SL w [] w_ []) ?_ ?_
 ·have H := H1
  refine gc 1 F rfl fun _ F => lpk (Aih a2 x5) (fun s8 a w_ => Fr a 67 [(2, jU (a2.toNat : Int)), (7, v1), (8, jI s8)] ∧ SL w [] w_ [Sl (Ty.int .i64) v1 x5]) H ?_ ?_
  ·exact ⟨F.sb, s7⟩
  intro s8 _ w7 hk o2 H hr
  obtain ⟨F, s9⟩ := hk
  replace H : Aih a2 x5 s8 = some o2 := H
  unfold Aih at H
  refine gc 5 F rfl fun _ F => gx F (Ah rfl underlying28 (fO s9 m0)) 3 rfl rfl fun _ F => Ll F H 8 4 rfl rfl rfl (fun hl H _ F => ?_) (fun hl H _ F => ?_)
  ·obtain ⟨x6, hm, H⟩ := Aa H
   obtain ⟨a3, hn, ho⟩ := Ax (Flat.int .i64) s9 m0 Abt rfl hm
   refine gi F hn 0 rfl fun _ F => gx F (An Acx rfl (Abe.at_ (SL.Aef (Flat.int .i64) s9 m0 ho hm) (o := 0) rfl)) 1 rfl rfl fun _ F => gx F (Ayr rfl rfl) 0 rfl rfl fun _ F => gx F (Arl rfl underlying48 underlying3) 3 rfl rfl fun _ F => Ll F H 12 8 rfl rfl rfl (fun hp H _ F => ?_) (fun hp H _ F => ?_)
   ·cases H
    obtain rfl := hr _ rfl
    replace H := R1
    try dsimp only at H
    cases H
    exact rt F ⟨rfl, s9.drop⟩
   cases H
   exact ⟨_, rfl, F.sb, s9⟩
  cases H
  obtain rfl := hr _ rfl
  exact ⟨_, rfl, F.sb, s9.drop⟩
 intro _ w8 hJ
 obtain ⟨p1, rfl, F, sa⟩ := hJ
 have H := R1
 clear R1 H1
 try dsimp only at H
 cases H
 exact ge 7 F rfl fun _ F => rt F ⟨rfl, sa⟩
theorem Ay3 {w : World} {v0 : Value} {a0 : List BV} {a1 : UInt8} {a2 : UInt8} {r : Bool} (hr0 : Rd Hw w [] v0 a0) (H : Alg a0 a1 a2 = some r) :
    Calls prog 173 #[v0, jU (a1.toNat : Int), jU (a2.toNat : Int)] w (Ret fun u_ w_ => u_ = .bool r ∧ SL w [] w_ []) := by
 have s0 : SL w [] w [] := SL.Abr w
 refine cin func173 ntmps173 18 rfl rfl rfl fun _ F => ?_
 unfold Alg at H
 refine Ll F H 8 6 rfl rfl rfl (fun h0 H _ F => ?_) (fun h0 H _ F => ?_)
 ·cases H
  exact rt F ⟨rfl, s0⟩
 refine Ll F H 10 6 rfl rfl rfl (fun h1 H _ F => ?_) (fun h1 H _ F => ?_)
 ·cases H
  exact rt F ⟨rfl, s0⟩
 refine Ll F H 3 8 rfl rfl rfl (fun h2 H _ F => ?_) (fun h2 H _ F => ?_)
 ·obtain ⟨x0, h3, H⟩ := Aa H
  refine gca F s0 (Amx h3) 6 rfl rfl rfl rfl fun w0 _ F s1 => ?_
  cases H
  exact rt F ⟨rfl, s1⟩
 obtain ⟨x1, h4, H⟩ := Aa H
 refine gca F s0 (Aoc (hr0.M3 s0) h4) 4 rfl rfl rfl rfl fun w1 _ F s2 => ?_
 cases H
 exact rt F ⟨rfl, s2⟩
theorem A0l {w : World} {v0_0 v0_1 : Value} {a0 : GG} {a1 : CO} {r : (List UInt8)} (hr0_0 : Rd Hw w [] v0_0 a0.Classes) (hr0_1 : Rd Ach w [] v0_1 a0.OS) (H : Al3 a0 a1 = some r) :
    Calls prog 174 #[.agg ⟨[v0_0, v0_1, jI a0.Fn]⟩, .agg ⟨[jI a1.At, jU (a1.Op.toNat : Int), jI a1.A, jI a1.B]⟩] w (Ret fun u_ w_ => ∃ u0 : Value, u_ = u0 ∧ SL w [] w_ [Sl Ty.u8 u0 r]) := by
 have s0 : SL w [] w [] := SL.Abr w
 refine cin func174 ntmps174 2 rfl rfl rfl fun _ F0 => ?_
 unfold Al3 at H
 refine Ar F0 s0 rfl rfl rfl fun g0 w0 _ F s1 => Ar F s1 rfl rfl rfl fun g1 w1 _ F s2 => gw 7 F rfl fun _ F => ?_
 obtain ⟨o0, H0, R0⟩ := Aa H
 clear H
 refine Ki F s2 m0 4 rfl fun _ F => Acs (fun a w_ => Fr a 69 [(2, jP g0), (3, jP g1), (6, jU (a1.Op.toNat : Int)), (7, .bool o0)] ∧ SL w [] w_ [Cw g1 79 [jI a1.At, jU (a1.Op.toNat : Int), jI a1.A, jI a1.B], Cw g0 110 [v0_0, v0_1, jI a0.Fn]]) ?_ ?_
 ·have H := H0
  refine gc 6 F rfl fun _ F => Ll F H 1 6 rfl rfl rfl (fun h0 H _ F => ?_) (fun h0 H _ F => ?_)
  ·cases H
   exact ⟨F.sb, s2⟩
  refine Ll F H 1 6 rfl rfl rfl (fun h1 H _ F => ?_) (fun h1 H _ F => ?_)
  ·cases H
   exact ⟨F.sb, s2⟩
  refine Ll F H 1 6 rfl rfl rfl (fun h2 H _ F => ?_) (fun h2 H _ F => ?_)
  ·cases H
   exact ⟨F.sb, s2⟩
  refine Ll F H 1 6 rfl rfl rfl (fun h3 H _ F => ?_) (fun h3 H _ F => ?_)
  ·cases H
   exact ⟨F.sb, s2⟩
  refine Ll F H 1 6 rfl rfl rfl (fun h4 H _ F => ?_) (fun h4 H _ F => ?_)
  ·cases H
   exact ⟨F.sb, s2⟩
  refine Ll F H 1 6 rfl rfl rfl (fun h5 H _ F => ?_) (fun h5 H _ F => ?_)
  ·cases H
   exact ⟨F.sb, s2⟩
  refine Ll F H 1 6 rfl rfl rfl (fun h6 H _ F => ?_) (fun h6 H _ F => ?_)
  ·cases H
   exact ⟨F.sb, s2⟩
  refine Ll F H 1 4 rfl rfl rfl (fun h7 H _ F => ?_) (fun h7 H _ F => ?_)
  ·cases H
   exact ⟨F.sb, s2⟩
  cases H
  exact ⟨F.sb, s2⟩
 intro _ w2 hJ
 obtain ⟨F, s3⟩ := hJ
 have H := R0
 clear R0 H0
 refine ge 1 F rfl fun _ F => Ll F H 2 1 rfl rfl rfl (fun h8 H _ F => ?_) (fun h8 H _ F => ?_)
 ·refine Ae (parts := [(0, .const (jU 1))]) Flat.u8 ([(1 : UInt8)] : List UInt8) F s3 Abp rfl (by decide) rfl rfl rfl (by simp [Value.cells]) rfl rfl rfl fun v0 w3 _ F s4 => ?_
  cases H
  exact gw 6 F rfl fun _ F => rt F ⟨v0, rfl, s4.f1.drop.f1.drop⟩
 obtain ⟨o1, H1, R1⟩ := Aa H
 clear H
 refine Acs (fun a w_ => Fr a 69 [(2, jP g0), (3, jP g1), (6, jU (a1.Op.toNat : Int)), (18, .bool o1)] ∧ SL w [] w_ [Cw g1 79 [jI a1.At, jU (a1.Op.toNat : Int), jI a1.A, jI a1.B], Cw g0 110 [v0_0, v0_1, jI a0.Fn]]) ?_ ?_
 ·have H := H1
  refine gc 6 F rfl fun _ F => Ll F H 1 6 rfl rfl rfl (fun h9 H _ F => ?_) (fun h9 H _ F => ?_)
  ·cases H
   exact ⟨F.sb, s3⟩
  refine Ll F H 1 6 rfl rfl rfl (fun ha H _ F => ?_) (fun ha H _ F => ?_)
  ·cases H
   exact ⟨F.sb, s3⟩
  refine Ll F H 1 6 rfl rfl rfl (fun hb H _ F => ?_) (fun hb H _ F => ?_)
  ·cases H
   exact ⟨F.sb, s3⟩
  refine Ll F H 1 6 rfl rfl rfl (fun hc H _ F => ?_) (fun hc H _ F => ?_)
  ·cases H
   exact ⟨F.sb, s3⟩
  refine Ll F H 1 4 rfl rfl rfl (fun hd H _ F => ?_) (fun hd H _ F => ?_)
  ·cases H
   exact ⟨F.sb, s3⟩
  cases H
  exact ⟨F.sb, s3⟩
 intro _ w4 hJ
 obtain ⟨F, s5⟩ := hJ
 have H := R1
 clear R1 H1
 refine ge 1 F rfl fun _ F => Ll F H 2 6 rfl rfl rfl (fun he H _ F => ?_) (fun he H _ F => ?_)
 ·refine Ae (parts := [(0, .const (jU 2))]) Flat.u8 ([(2 : UInt8)] : List UInt8) F s5 Abp rfl (by decide) rfl rfl rfl (by simp [Value.cells]) rfl rfl rfl fun v1 w5 _ F s6 => ?_
  cases H
  exact gw 6 F rfl fun _ F => rt F ⟨v1, rfl, s6.f1.drop.f1.drop⟩
 refine Ll F H 2 6 rfl rfl rfl (fun hf H _ F => ?_) (fun hf H _ F => ?_)
 ·refine Ae (parts := [(0, .const (jU 3))]) Flat.u8 ([(3 : UInt8)] : List UInt8) F s5 Abp rfl (by decide) rfl rfl rfl (by simp [Value.cells]) rfl rfl rfl fun v2 w6 _ F s7 => ?_
  cases H
  exact gw 6 F rfl fun _ F => rt F ⟨v2, rfl, s7.f1.drop.f1.drop⟩
 refine Ll F H 2 1 rfl rfl rfl (fun hg H _ F => ?_) (fun hg H _ F => ?_)
 ·refine Ae (parts := [(0, .const (jU 255))]) Flat.u8 ([(255 : UInt8)] : List UInt8) F s5 Abp rfl (by decide) rfl rfl rfl (by simp [Value.cells]) rfl rfl rfl fun v3 w7 _ F s8 => ?_
  cases H
  exact gw 6 F rfl fun _ F => rt F ⟨v3, rfl, s8.f1.drop.f1.drop⟩
 obtain ⟨o2, H2, R2⟩ := Aa H
 clear H
 refine Acs (fun a w_ => Fr a 69 [(2, jP g0), (3, jP g1), (6, jU (a1.Op.toNat : Int)), (32, .bool o2)] ∧ SL w [] w_ [Cw g1 79 [jI a1.At, jU (a1.Op.toNat : Int), jI a1.A, jI a1.B], Cw g0 110 [v0_0, v0_1, jI a0.Fn]]) ?_ ?_
 ·have H := H2
  refine gc 6 F rfl fun _ F => Ll F H 1 4 rfl rfl rfl (fun hh H _ F => ?_) (fun hh H _ F => ?_)
  ·cases H
   exact ⟨F.sb, s5⟩
  cases H
  exact ⟨F.sb, s5⟩
 intro _ w8 hJ
 obtain ⟨F, s9⟩ := hJ
 have H := R2
 clear R2 H2
 refine ge 1 F rfl fun _ F => Ll F H 2 6 rfl rfl rfl (fun hi H _ F => ?_) (fun hi H _ F => ?_)
 ·refine Ae (parts := [(0, .const (jU 255)), (1, .const (jU 255))]) Flat.u8 ([(255 : UInt8), (255 : UInt8)] : List UInt8) F s9 Abp rfl (by decide) rfl rfl rfl (by simp [Value.cells]) rfl rfl rfl fun v4 w9 _ F sa => ?_
  cases H
  exact gw 6 F rfl fun _ F => rt F ⟨v4, rfl, sa.f1.drop.f1.drop⟩
 refine Ll F H 2 1 rfl rfl rfl (fun hj H _ F => ?_) (fun hj H _ F => ?_)
 ·obtain ⟨x0, hk, H⟩ := Aa H
  obtain ⟨a2, c0, G0, hl, hm, hn, hp⟩ := Rd.idx hr0_1 Ahb rfl hk
  obtain ⟨v5, rfl, hr⟩ := (Ajk hn hp)
  replace hm := hm _ _ s9
  obtain ⟨x1, hs, H⟩ := Aa H
  refine gw 1 F rfl fun _ F => Ki F s9 m1 1 rfl fun _ F => Ki F s9 m0 0 rfl fun _ F => gi F hl 0 rfl fun _ F => gx F (Ba A1g rfl) 0 rfl rfl fun _ F => gx F (An Acy rfl (Abe.at_ hm (o := 1) rfl)) 0 rfl rfl fun _ F => std F (Aqm hs) fun v6 wa _ ht F => ?_
  obtain ⟨_, rfl, hu⟩ := ht
  have sc := s9.add hu
  cases H
  exact gw 6 F rfl fun _ F => rt F ⟨v6, rfl, sc.f1.drop.f1.drop⟩
 obtain ⟨o3, H3, R3⟩ := Aa H
 clear H
 refine Acs (fun a w_ => Fr a 69 [(2, jP g0), (3, jP g1), (6, jU (a1.Op.toNat : Int)), (46, .bool o3)] ∧ SL w [] w_ [Cw g1 79 [jI a1.At, jU (a1.Op.toNat : Int), jI a1.A, jI a1.B], Cw g0 110 [v0_0, v0_1, jI a0.Fn]]) ?_ ?_
 ·have H := H3
  refine gc 6 F rfl fun _ F => Ll F H 1 4 rfl rfl rfl (fun hv H _ F => ?_) (fun hv H _ F => ?_)
  ·cases H
   exact ⟨F.sb, s9⟩
  cases H
  exact ⟨F.sb, s9⟩
 intro _ wb hJ
 obtain ⟨F, sd⟩ := hJ
 have H := R3
 clear R3 H3
 refine ge 1 F rfl fun _ F => Ll F H 3 6 rfl rfl rfl (fun hw H _ F => ?_) (fun hw H _ F => ?_)
 ·obtain ⟨x2, hx, H⟩ := Aa H
  refine Ki F sd m0 0 rfl fun _ F => gca F sd (Ap6 hx) 0 rfl rfl rfl rfl fun wc _ F se => ?_
  refine Ae (parts := [(0, .tmp 51)]) Flat.u8 ([x2] : List UInt8) F se Abp rfl (by decide) rfl rfl rfl (by simp [Value.cells]) rfl rfl rfl fun v7 wd _ F sf => ?_
  cases H
  exact gw 6 F rfl fun _ F => rt F ⟨v7, rfl, sf.f1.drop.f1.drop⟩
 refine Ll F H 1 6 rfl rfl rfl (fun hy H _ F => ?_) (fun hy H _ F => ?_)
 ·obtain ⟨x3, hz, H⟩ := Aa H
  obtain ⟨x4, h10, H⟩ := Aa H
  obtain ⟨x5, h11, H⟩ := Aa H
  refine Ad4 Abj sd ?_
  refine hq [0, 1, 2, 3, 5, 6] F sd.drew (QI.ev 1 rfl <| QI.ld m1 rfl <| QI.ev 1 rfl <| QI.ld m0 rfl <| QI.ev 1 rfl <| QI.ld m0 rfl <| QI.nil) (by kernel_rfl) fun _ F => ?_
  refine ho 4 rfl (by kernel_rfl) ?_
  refine std F (Akk (hr0_0.M3 sd.drew) hz) fun v8 we _ h12 F => ?_
  obtain ⟨_, rfl, h13⟩ := h12
  have sg := sd.drew.add h13
  refine gw 1 F rfl fun _ F => ⟨sg.drop, ?_⟩
  refine ho 7 rfl (by kernel_rfl) ?_
  obtain ⟨a3, h14, h15⟩ := Ax Agh sg m0 Aks rfl h10
  refine gi F h14 1 rfl fun _ F => ⟨sg.drop, ?_⟩
  refine hq [8] F sg.drop (QI.op rfl (fun _ hC => Ba Azj rfl) rfl <| QI.nil) (by kernel_rfl) fun _ F => ?_
  refine ho 9 rfl (by kernel_rfl) ?_
  refine gx F (An Acy rfl (Abe.at_ (SL.Aef Agh sg m0 h15 h10) (o := 1) rfl)) 1 rfl rfl fun _ F => ⟨sg.drop, ?_⟩
  refine ho 10 rfl (by kernel_rfl) ?_
  refine std F (Aqm h11) fun v9 wf _ h16 F => ?_
  obtain ⟨_, rfl, h17⟩ := h16
  have sh := sg.add h17
  refine gw 1 F rfl fun _ F => ⟨sh.drop.drop, ?_⟩
  refine hq [11] F sh.drop.drop (QI.ev 1 rfl <| QI.nil) (by kernel_rfl) fun _ F => ?_
  refine Aew (by kernel_rfl) ?_
  cases H
  exact ge 4 F rfl fun _ F => rt F ⟨v9, rfl, sh.f1.drop.f1.drop.f1.drop⟩
 refine Ll F H 2 9 rfl rfl rfl (fun h18 H _ F => ?_) (fun h18 H _ F => ?_)
 ·refine Ae (parts := [(0, .const (jU 4))]) Flat.u8 ([(4 : UInt8)] : List UInt8) F sd Abp rfl (by decide) rfl rfl rfl (by simp [Value.cells]) rfl rfl rfl fun va wg _ F si => ?_
  cases H
  exact gw 6 F rfl fun _ F => rt F ⟨va, rfl, si.f1.drop.f1.drop⟩
 cases H
 exact rt F ⟨(.slice none 0 0), rfl, (SL.Ac3 (T := Ty.u8) sd).f1.drop.f1.drop⟩
theorem Aup {w : World} {a0 : B0} {r : B0} (H : Ak0 a0 = some r) :
    Calls prog 198 #[.agg ⟨(jI a0.Locals :: jI a0.Height :: XK a0.Slots)⟩] w (Ret fun u_ w_ => u_ = .agg ⟨(jI r.Locals :: jI r.Height :: XK r.Slots)⟩ ∧ SL w [] w_ []) := by
 have s0 : SL w [] w [] := SL.Abr w
 refine cin func198 ntmps198 2 rfl rfl rfl fun _ F0 => ?_
 unfold Ak0 at H
 refine Ar F0 s0 rfl rfl rfl fun g0 w0 _ F s1 => Af F s1 Ol rfl rfl fun g1 w1 _ F s2 => gw 6 F rfl fun _ F => Ki F s2 m1 1 rfl fun _ F => ?_
 obtain ⟨o0, H0, R0⟩ := Aa H
 clear H
 refine Ki F s2 m1 4 rfl fun _ F => Acs (fun a w_ => Fr a 17 [(1, jP g0), (2, jP g1)] ∧ SL w [] w_ [Cw g1 118 jZ, Cw g0 118 (jI a0.Locals :: jI a0.Height :: XK o0)]) ?_ ?_
 ·have H := H0
  refine gc 1 F rfl fun _ F => lpk (Ah0) (fun s3 a w_ => Fr a 17 [(1, jP g0), (2, jP g1), (3, jI s3.2)] ∧ SL w [] w_ [Cw g1 118 jZ, Cw g0 118 (jI a0.Locals :: jI a0.Height :: XK s3.1)]) H ?_ ?_
  ·exact ⟨F.sb, s2⟩
  intro s3 _ w2 h0 o1 H hr
  obtain ⟨F, s4⟩ := h0
  replace H : Ah0 s3 = some o1 := H
  unfold Ah0 at H
  refine gc 7 F rfl fun _ F => Ll F H 7 4 rfl rfl rfl (fun h1 H _ F => ?_) (fun h1 H _ F => ?_)
  ·obtain ⟨x0, h2, H⟩ := Aa H
   refine gx F (Agt Ae9 h2 rfl rfl) 0 rfl rfl fun _ F => Aoe (y' := (0 : UInt8)) (pre := [jI a0.Locals, jI a0.Height]) F s4.f1 rfl h2 rfl rfl Apn fun w3 _ F s5 => ?_
   cases H
   exact gw 8 F rfl fun _ F => ⟨_, rfl, F.sb, s5.f1⟩
  cases H
  obtain rfl := hr _ rfl
  exact ⟨F.sb, s4⟩
 intro _ w4 hJ
 obtain ⟨F, s6⟩ := hJ
 have H := R0
 clear R0 H0
 refine ge 3 F rfl fun _ F => gla F s6 m1 0 rfl fun _ F => ?_
 refine O4 (ds := (jI a0.Locals :: jI a0.Height :: XK o0)) F s6 rfl rfl (by simpa using Aay) (Ab rfl (Ab rfl (Abi _))) (by simp) fun w5 _ F s7 => ?_
 cases H
 refine gw 3 F rfl fun _ F => ?_
 refine Ak (rs := [.cell 2 118]) (vs := [.agg ⟨(jI a0.Locals :: jI a0.Height :: XK o0)⟩]) F (by rfl) ⟨_, _, rfl, Am s7 m0 rfl Aa9 (by simp), rfl⟩ ⟨_, rfl, ⟨rfl, s7.drop.drop⟩⟩
theorem A2f {w : World} {a0 : B0} {r : B0 × UInt8 × Int} (H : Ani a0 = some r) :
    Calls prog 175 #[.agg ⟨(jI a0.Locals :: jI a0.Height :: XK a0.Slots)⟩] w (Ret fun u_ w_ => u_ = .tuple ⟨[.agg ⟨(jI r.1.Locals :: jI r.1.Height :: XK r.1.Slots)⟩, jU (r.2.1.toNat : Int), jI r.2.2]⟩ ∧ SL w [] w_ []) := by
 have s0 : SL w [] w [] := SL.Abr w
 refine cin func175 ntmps175 2 rfl rfl rfl fun _ F0 => ?_
 unfold Ani at H
 refine Ar F0 s0 rfl rfl rfl fun g0 w0 _ F s1 => Af F s1 Ol rfl rfl fun g1 w1 _ F s2 => ?_
 obtain ⟨x0, h0, H⟩ := Aa H
 refine gw 7 F rfl fun _ F => gla F s2 m1 0 rfl fun _ F => gca F s2 (Ap1 h0) 3 rfl rfl rfl rfl fun w2 _ F s3 => Ll F H 2 6 rfl rfl rfl (fun h1 H _ F => ?_) (fun h1 H _ F => ?_)
 ·refine gx F (Al (vs := []) Ol Adw rfl (cs := jZ) (Ac1)) 0 rfl rfl fun _ F => ?_
  refine O4 (ds := jZ) F s3 rfl rfl (by simpa using Aay) (Ab rfl (Ab rfl (Abi _))) (by simp) fun w3 _ F s4 => ?_
  cases H
  refine gw 6 F rfl fun _ F => ?_
  refine Ak (rs := [.cell 2 118, .tmp 3, .tmp 4]) (vs := [.agg ⟨jZ⟩, jU 0, jI 32]) F (by rfl) ⟨_, _, rfl, Am s4 m0 rfl Aa9 (by simp), _, _, rfl, Ao rfl, _, _, rfl, Ao rfl, rfl⟩ ⟨_, rfl, ⟨rfl, s4.drop.drop⟩⟩
 refine Ki F s3 m1 3 rfl fun _ F => Ll F H 2 5 rfl rfl rfl (fun h2 H _ F => ?_) (fun h2 H _ F => ?_)
 ·refine gx F (Al (vs := []) Ol Adw rfl (cs := jZ) (Ac1)) 0 rfl rfl fun _ F => ?_
  refine O4 (ds := jZ) F s3 rfl rfl (by simpa using Aay) (Ab rfl (Ab rfl (Abi _))) (by simp) fun w4 _ F s5 => ?_
  cases H
  refine gw 6 F rfl fun _ F => ?_
  refine Ak (rs := [.cell 2 118, .tmp 3, .tmp 4]) (vs := [.agg ⟨jZ⟩, jU 0, jI 30]) F (by rfl) ⟨_, _, rfl, Am s5 m0 rfl Aa9 (by simp), _, _, rfl, Ao rfl, _, _, rfl, Ao rfl, rfl⟩ ⟨_, rfl, ⟨rfl, s5.drop.drop⟩⟩
 obtain ⟨x1, h3, H⟩ := Aa H
 refine Ki F s3 m1 1 rfl fun _ F => Ki F s3 m1 3 rfl fun _ F => gx F (Agt Ae9 h3 rfl rfl) 0 rfl rfl fun _ F => gx F (An Acy rfl (SL.Amp (pre := [jI a0.Locals, jI a0.Height]) s3 m1 rfl h3)) 6 rfl rfl fun _ F => Ki F s3 m1 2 rfl fun _ F => Ay F s3.f1 rfl rfl Anj rfl rfl rfl fun w5 _ F s6 => ?_
 obtain ⟨x2, h4, H⟩ := Aa H
 refine gw 4 F rfl fun _ F => gla F s6 m0 0 rfl fun _ F => gca F s6 (Aup h4) 1 rfl rfl rfl rfl fun w6 _ F s7 => ?_
 refine O4 (ds := (jI x2.Locals :: jI x2.Height :: XK x2.Slots)) F s7.f1 rfl rfl (by simpa using Aay) (Ab rfl (Ab rfl (Abi _))) (by simp) fun w7 _ F s8 => ?_
 cases H
 refine gw 5 F rfl fun _ F => ?_
 refine Ak (rs := [.cell 2 118, .tmp 3, .tmp 4]) (vs := [.agg ⟨(jI x2.Locals :: jI x2.Height :: XK x2.Slots)⟩, jU (x1.toNat : Int), jI 0]) F (by rfl) ⟨_, _, rfl, Am s8 m0 rfl Aa9 (by simp), _, _, rfl, Ao rfl, _, _, rfl, Ao rfl, rfl⟩ ⟨_, rfl, ⟨rfl, s8.drop.drop⟩⟩
theorem A0v {w : World} {a0 : B0} {a1 : UInt8} {r : B0 × Int} (H : Amq a0 a1 = some r) :
    Calls prog 176 #[.agg ⟨(jI a0.Locals :: jI a0.Height :: XK a0.Slots)⟩, jU (a1.toNat : Int)] w (Ret fun u_ w_ => u_ = .tuple ⟨[.agg ⟨(jI r.1.Locals :: jI r.1.Height :: XK r.1.Slots)⟩, jI r.2]⟩ ∧ SL w [] w_ []) := by
 have s0 : SL w [] w [] := SL.Abr w
 refine cin func176 ntmps176 2 rfl rfl rfl fun _ F0 => ?_
 unfold Amq at H
 refine Ar F0 s0 rfl rfl rfl fun g0 w0 _ F s1 => Af F s1 Ol rfl rfl fun g1 w1 _ F s2 => ?_
 obtain ⟨x0, h0, H⟩ := Aa H
 refine gw 6 F rfl fun _ F => gla F s2 m1 0 rfl fun _ F => gca F s2 (Ap1 h0) 3 rfl rfl rfl rfl fun w2 _ F s3 => Ll F H 2 5 rfl rfl rfl (fun h1 H _ F => ?_) (fun h1 H _ F => ?_)
 ·refine gx F (Al (vs := []) Ol Adw rfl (cs := jZ) (Ac1)) 0 rfl rfl fun _ F => ?_
  refine O4 (ds := jZ) F s3 rfl rfl (by simpa using Aay) (Ab rfl (Ab rfl (Abi _))) (by simp) fun w3 _ F s4 => ?_
  cases H
  refine gw 5 F rfl fun _ F => ?_
  refine Ak (rs := [.cell 4 118, .tmp 5]) (vs := [.agg ⟨jZ⟩, jI 32]) F (by rfl) ⟨_, _, rfl, Am s4 m0 rfl Aa9 (by simp), _, _, rfl, Ao rfl, rfl⟩ ⟨_, rfl, ⟨rfl, s4.drop.drop⟩⟩
 refine Ki F s3 m1 1 rfl fun _ F => Ki F s3 m1 11 rfl fun _ F => Ll F H 2 4 rfl rfl rfl (fun h2 H _ F => ?_) (fun h2 H _ F => ?_)
 ·refine gx F (Al (vs := []) Ol Adw rfl (cs := jZ) (Ac1)) 0 rfl rfl fun _ F => ?_
  refine O4 (ds := jZ) F s3 rfl rfl (by simpa using Aay) (Ab rfl (Ab rfl (Abi _))) (by simp) fun w4 _ F s5 => ?_
  cases H
  refine gw 5 F rfl fun _ F => ?_
  refine Ak (rs := [.cell 4 118, .tmp 5]) (vs := [.agg ⟨jZ⟩, jI 31]) F (by rfl) ⟨_, _, rfl, Am s5 m0 rfl Aa9 (by simp), _, _, rfl, Ao rfl, rfl⟩ ⟨_, rfl, ⟨rfl, s5.drop.drop⟩⟩
 obtain ⟨x1, h3, H⟩ := Aa H
 refine gla F s3 m1 0 rfl fun _ F => gca F s3 (Aup h3) 0 rfl rfl rfl rfl fun w5 _ F s6 => ?_
 refine O4 (ds := (jI x1.Locals :: jI x1.Height :: XK x1.Slots)) F s6.f1 rfl rfl (by simpa using Aay) (Ab rfl (Ab rfl (Abi _))) (by simp) fun w6 _ F s7 => ?_
 obtain ⟨x2, h4, H⟩ := Aa H
 refine gw 7 F rfl fun _ F => gx F (Agt Ae9 h4 rfl rfl) 0 rfl rfl fun _ F => Aoe (y' := a1) (pre := [jI x1.Locals, jI x1.Height]) F s7 rfl h4 rfl rfl Apn fun w7 _ F s8 => gw 5 F rfl fun _ F => Ki F s8 m0 2 rfl fun _ F => Ay F s8 rfl rfl Anj rfl rfl rfl fun w8 _ F s9 => gw 4 F rfl fun _ F => gla F s9 m0 0 rfl fun _ F => ?_
 refine O4 (ds := (jI x1.Locals :: jI (wr (x1.Height + 1)) :: XK (Amj x1.Slots (wr (a0.Locals + a0.Height)) a1))) F s9.f1 rfl rfl (by simpa using Aay) (Ab rfl (Ab rfl (Abi _))) (by simp) fun w9 _ F sa => ?_
 cases H
 refine gw 4 F rfl fun _ F => ?_
 refine Ak (rs := [.cell 4 118, .tmp 5]) (vs := [.agg ⟨(jI x1.Locals :: jI (wr (x1.Height + 1)) :: XK (Amj x1.Slots (wr (a0.Locals + a0.Height)) a1))⟩, jI 0]) F (by rfl) ⟨_, _, rfl, Am sa m0 rfl Aa9 (by simp), _, _, rfl, Ao rfl, rfl⟩ ⟨_, rfl, ⟨rfl, sa.drop.drop⟩⟩
end Go.Proofs.YtfcpkcehecmcpaaGreat
