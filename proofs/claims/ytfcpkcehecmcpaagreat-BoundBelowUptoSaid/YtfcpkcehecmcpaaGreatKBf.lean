/- Lemmas, walks and laws that the row of this claim rests on, merged into few texts: part 6. -/
import Derived.Test.YtfcpkcehecmcpaaGreatKBe
set_option linter.unusedVariables false
set_option linter.unusedSimpArgs false
open Option renaming bind_some → Aoj
open List renaming getElem?_eq_getElem → Aok
namespace Go.Proofs.YtfcpkcehecmcpaaGreat
open Go Go.RowKit Go.Pv Go.Proofs.Tryz
open Go.Pv renaming bind_ok → Aa, Bl → Ab, LZ → Ad, KO → Ae, Ii → Af, MY → Ag, EL → Ah, HW → Ai, HY → Aj, Io → Ak, GI → Al, Hu → Ao, Uw → Ap, Km → Aq, Iu → Ar, Ce → As, MN → Au, HS → Av, OB → Aw, Us → Ax
open Nat renaming le_of_ble_eq_true → Ac
open Go.Pv.RV renaming blk → Am, tmp → An
theorem QJ {w : World} {v2 v3 : Value} {a0 : A3} {a1 : AA} {a2 : List UInt8} {a3 : List UInt8} {r : A3 × Int} (hr2 : Rd Ty.u8 w [] v2 a2) (hr3 : Rd Ty.u8 w [] v3 a3) (H : HO a0 a1 a2 a3 = some r) :
    Calls prog 164 #[.agg ⟨(jI a0.Locals :: jI a0.Height :: Bb a0.Slots)⟩, .agg ⟨[jI a1.At, jU (a1.Op.toNat : Int), jI a1.A, jI a1.B]⟩, v2, v3] w (B8 fun u_ w_ => u_ = .tuple ⟨[.agg ⟨(jI r.1.Locals :: jI r.1.Height :: Bb r.1.Slots)⟩, jI r.2]⟩ ∧ SL w [] w_ []) := by
 have s0 : SL w [] w [] := SL.BF w
 refine Cb func164 ntmps164 2 rfl rfl rfl fun _ F0 => ?_
 unfold HO at H
 refine Ao F0 s0 rfl rfl rfl fun g0 w0 _ F s1 => Ao F s1 rfl rfl rfl fun g1 w1 _ F s2 => Ag F s2 Bu rfl rfl fun g32 w2 _ F s3 => gw 7 F rfl fun _ F => ?_
 obtain ⟨o0, H0, R0⟩ := Aa H
 clear H
 refine gx F (Ak rfl underlying47 (fR hr2 s3)) 3 rfl rfl fun _ F => Cx (fun a w_ => Fr a 66 [(2, v2), (3, v3), (4, jP g0), (5, jP g1), (8, jP g32)] ∧ SL w [] w_ [AB g32 118 jZ, AB g1 79 [jI a1.At, jU (a1.Op.toNat : Int), jI a1.A, jI a1.B], AB g0 118 (jI o0.1 :: jI o0.2.1 :: Bb o0.2.2)]) ?_ ?_
 ·have H := H0
  refine gc 1 F rfl fun _ F => E6 (HU a2) (fun s4 a w_ => Fr a 66 [(2, v2), (3, v3), (4, jP g0), (5, jP g1), (8, jP g32), (15, jI (a2.length : Int)), (16, jI s4.2.2.2)] ∧ SL w [] w_ [AB g32 118 jZ, AB g1 79 [jI a1.At, jU (a1.Op.toNat : Int), jI a1.A, jI a1.B], AB g0 118 (jI s4.1 :: jI s4.2.1 :: Bb s4.2.2.1)]) H ?_ ?_
  ·exact ⟨F.sb, s3⟩
  intro s4 _ w3 h0 o1 H hr
  obtain ⟨F, s5⟩ := h0
  replace H : HU a2 s4 = some o1 := H
  unfold HU at H
  refine gc 6 F rfl fun _ F => Be F H 5 4 rfl rfl rfl (fun h1 H _ F => ?_) (fun h1 H _ F => ?_)
  ·obtain ⟨x0, h2, H⟩ := Aa H
   refine Hv F s5 m2 0 rfl fun _ F => BW F s5 (Yw h2) 4 rfl rfl rfl rfl fun w4 _ F s6 => ?_
   refine Br (ds := (jI x0.1.Locals :: jI x0.1.Height :: Bb x0.1.Slots)) F s6.f2 rfl rfl (by simpa using BA) (Ab rfl (Ab rfl (BH _))) (by simp) fun w5 _ F s7 => ?_
   cases H
   exact gw 7 F rfl fun _ F => ⟨_, rfl, F.sb, s7.f2.f2⟩
  cases H
  obtain rfl := hr _ rfl
  exact ⟨F.sb, s5⟩
 intro _ w6 hJ
 obtain ⟨F, s8⟩ := hJ
 have H := R0
 clear R0 H0
 obtain ⟨o2, H1, R1⟩ := Aa H
 clear H
 refine ge 2 F rfl fun _ F => Cx (fun a w_ => ∃ p0 : Unit, o2 = .inr (p0) ∧ Fr a 66 [(2, v2), (3, v3), (4, jP g0), (5, jP g1), (8, jP g32)] ∧ SL w [] w_ [AB g32 118 jZ, AB g1 79 [jI a1.At, jU (a1.Op.toNat : Int), jI a1.A, jI a1.B], AB g0 118 (jI o0.1 :: jI o0.2.1 :: Bb o0.2.2)]) ?_ ?_
 ·have H := H1
  refine gc 3 F rfl fun _ F => AV F s8 m1 2 rfl fun _ F => Cp 28 F H (fun h3 H F => ?_) (fun h3 H F => ?_)
  ·refine gw 1 F rfl fun _ F => AY F rfl rfl <| AV F s8 m2 4 rfl fun _ F => Be F H 2 1 rfl rfl rfl (fun h4 H _ F => ?_) (fun h4 H _ F => ?_)
   ·refine gx F (Af (vs := []) Bu Dj rfl (cs := jZ) (Ch)) 0 rfl rfl fun _ F => ?_
    refine Br (ds := jZ) F s8 rfl rfl (by simpa using BA) (Ab rfl (Ab rfl (BH _))) (by simp) fun w7 _ F s9 => ?_
    cases H
    replace H := R1
    try dsimp only at H
    cases H
    refine gw 6 F rfl fun _ F => ?_
    refine Aj (rs := [.cell 8 118, .tmp 9]) (vs := [.agg ⟨jZ⟩, jI 73]) F (by rfl) ⟨_, _, rfl, Am s9 m0 rfl BI (by simp), _, _, rfl, An rfl, rfl⟩ ⟨_, rfl, ⟨rfl, s9.drop.drop.drop⟩⟩
   cases H
   exact ⟨_, rfl, F.sb, s8⟩
  cases H
  exact gw 8 F rfl fun _ F => ⟨_, rfl, F.sb, s8⟩
 intro _ w8 hJ
 obtain ⟨p0, rfl, F, sa⟩ := hJ
 have H := R1
 clear R1 H1
 try dsimp only at H
 obtain ⟨o3, H2, R2⟩ := Aa H
 clear H
 refine ge 2 F rfl fun _ F => Cx (fun a w_ => Fr a 66 [(3, v3), (4, jP g0), (8, jP g32)] ∧ SL w [] w_ [AB g0 118 (jI o3.1 :: jI o3.2.1 :: Bb o3.2.2), AB g32 118 jZ]) ?_ ?_
 ·have H := H2
  refine gc 3 F rfl fun _ F => AV F sa m1 3 rfl fun _ F => Be F H 0 1 rfl rfl rfl (fun h5 H _ F => ?_) (fun h5 H _ F => ?_)
  ·obtain ⟨x1, h6, H⟩ := Aa H
   obtain ⟨x2, h7, H⟩ := Aa H
   refine Dk BL sa.f2.drop ?_
   obtain ⟨a4, h8, h9⟩ := TZ Flat.u8 (fun _ hC => (EZ hr2 hC)) sa.drew.f2.drop BU rfl h6
   refine hq [1, 2, 3, 4, 5] F sa.drew.f2.drop (QI.ev 1 rfl <| QI.ld m1 rfl <| QI.ev 1 rfl <| QI.ix h8 rfl <| QI.op rfl (fun _ hC => As DV rfl (Cells.at_ (h9 _ hC) (o := 0) rfl)) rfl <| QI.nil) (by kernel_rfl) fun _ F => ?_
   refine ho 0 rfl (by kernel_rfl) ?_
   refine Hv F sa.drew m2 1 rfl fun _ F => ⟨sa.drew.f2.drop, ?_⟩
   refine ho 6 rfl (by kernel_rfl) ?_
   refine BW F sa.drew (VK h7) 1 rfl rfl rfl rfl fun w9 _ F sc => ⟨sc.f2.drop, ?_⟩
   refine hq [7, 8, 9] F sc.f2.drop (QI.ev 3 rfl <| QI.nil) (by kernel_rfl) fun _ F => ?_
   refine ho 10 rfl (by kernel_rfl) ?_
   refine Br (ds := (jI x2.1.Locals :: jI x2.1.Height :: Bb x2.1.Slots)) F sc.f2 rfl rfl (by simpa using BA) (Ab rfl (Ab rfl (BH _))) (by simp) fun wa _ F sd => ?_
   refine gw 1 F rfl fun _ F => ⟨sd.drop, ?_⟩
   refine Ea (by kernel_rfl) ?_
   cases H
   exact ⟨F.sb, sd.f2.drop⟩
  cases H
  exact ⟨F.sb, sa.f1.drop.f1⟩
 intro _ wb hJ
 obtain ⟨F, se⟩ := hJ
 have H := R2
 clear R2 H2
 refine ge 5 F rfl fun _ F => ?_
 obtain ⟨o4, H3, R3⟩ := Aa H
 clear H
 refine gx F (Ak rfl underlying47 (fR hr3 se)) 3 rfl rfl fun _ F => Cx (fun a w_ => ∃ p1 : Int × Int × (Vector UInt8 24), o4 = .inr (p1) ∧ Fr a 66 [(4, jP g0), (8, jP g32)] ∧ SL w [] w_ [AB g0 118 (jI p1.1 :: jI p1.2.1 :: Bb p1.2.2), AB g32 118 jZ]) ?_ ?_
 ·have H := H3
  refine gc 1 F rfl fun _ F => E6 (Ft a3) (fun sf a w_ => Fr a 66 [(4, jP g0), (8, jP g32), (47, v3), (48, jI (a3.length : Int)), (49, jI sf.2.2.2)] ∧ SL w [] w_ [AB g0 118 (jI sf.1 :: jI sf.2.1 :: Bb sf.2.2.1), AB g32 118 jZ]) H ?_ ?_
  ·exact ⟨F.sb, se⟩
  intro sf _ wc ha o5 H hr
  obtain ⟨F, sg⟩ := ha
  replace H : Ft a3 sf = some o5 := H
  unfold Ft at H
  refine gc 6 F rfl fun _ F => Be F H 6 4 rfl rfl rfl (fun hb H _ F => ?_) (fun hb H _ F => ?_)
  ·obtain ⟨x3, hc, H⟩ := Aa H
   obtain ⟨a5, hd, he⟩ := Lm Flat.u8 (EZ hr3 sg) BU rfl hc
   refine gi F hd 0 rfl fun _ F => ?_
   obtain ⟨x4, hf, H⟩ := Aa H
   refine gx F (As DV rfl (Cells.at_ he (o := 0) rfl)) 5 rfl rfl fun _ F => Hv F sg m0 1 rfl fun _ F => BW F sg (WX hf) 3 rfl rfl rfl rfl fun wd _ F sh => Ag F sh Bu rfl rfl fun g2 we _ F si => ?_
   refine Br (ds := (jI x4.1.Locals :: jI x4.1.Height :: Bb x4.1.Slots)) F si rfl rfl (by simpa using BA) (Ab rfl (Ab rfl (BH _))) (by simp) fun wf _ F sj => ?_
   refine gw 10 F rfl fun _ F => Be F H 2 3 rfl rfl rfl (fun hg H _ F => ?_) (fun hg H _ F => ?_)
   ·refine gx F (Af (vs := []) Bu Dj rfl (cs := jZ) (Ch)) 1 rfl rfl fun _ F => ?_
    refine Br (ds := jZ) F sj.f2 rfl rfl (by simpa using BA) (Ab rfl (Ab rfl (BH _))) (by simp) fun wg _ F sk => ?_
    cases H
    obtain rfl := hr _ rfl
    replace H := R3
    try dsimp only at H
    cases H
    refine gw 11 F rfl fun _ F => ?_
    refine Aj (rs := [.cell 8 118, .tmp 9]) (vs := [.agg ⟨jZ⟩, jI x4.2]) F (by rfl) ⟨_, _, rfl, Am sk m0 rfl BI (by simp), _, _, rfl, An rfl, rfl⟩ ⟨_, rfl, ⟨rfl, sk.drop.drop.drop⟩⟩
   refine Hv F sj m0 0 rfl fun _ F => ?_
   refine Br (ds := (jI x4.1.Locals :: jI x4.1.Height :: Bb x4.1.Slots)) F sj.f1 rfl rfl (by simpa using BA) (Ab rfl (Ab rfl (BH _))) (by simp) fun wh _ F sl => ?_
   cases H
   exact gw 7 F rfl fun _ F => ⟨_, rfl, F.sb, sl.f1.drop⟩
  cases H
  obtain rfl := hr _ rfl
  exact ⟨_, rfl, F.sb, sg⟩
 intro _ wi hJ
 obtain ⟨p1, rfl, F, sm⟩ := hJ
 have H := R3
 clear R3 H3
 try dsimp only at H
 refine ge 3 F rfl fun _ F => Hv F sm m0 0 rfl fun _ F => ?_
 refine Br (ds := (jI p1.1 :: jI p1.2.1 :: Bb p1.2.2)) F sm.f1 rfl rfl (by simpa using BA) (Ab rfl (Ab rfl (BH _))) (by simp) fun wj _ F sn => ?_
 cases H
 refine gw 4 F rfl fun _ F => ?_
 refine Aj (rs := [.cell 8 118, .tmp 9]) (vs := [.agg ⟨(jI p1.1 :: jI p1.2.1 :: Bb p1.2.2)⟩, jI 0]) F (by rfl) ⟨_, _, rfl, Am sn m0 rfl BI (by simp), _, _, rfl, An rfl, rfl⟩ ⟨_, rfl, ⟨rfl, sn.drop.drop⟩⟩
theorem V3 {w : World} {v0 : Value} {a0 : List UInt8} {r : (List UInt8)} (hr0 : Rd Ty.u8 w [] v0 a0) (H : QZ a0 = some r) :
    Calls prog 203 #[v0] w (B8 fun u_ w_ => ∃ u0 : Value, u_ = u0 ∧ SL w [] w_ [Sl Ty.u8 u0 r]) := by
 have s0 : SL w [] w [] := SL.BF w
 refine Cb func203 ntmps203 6 rfl rfl rfl fun _ F2 => ?_
 unfold QZ at H
 obtain ⟨x0, h0, H⟩ := Aa H
 obtain ⟨x1, h1, H⟩ := Aa H
 refine Dk BL s0 ?_
 obtain ⟨a1, h2, h3⟩ := TZ Flat.u8 (fun _ hC => (EZ hr0 hC)) s0.drew BU rfl h0
 obtain ⟨a2, h4, h5⟩ := TZ Flat.u8 (fun _ hC => (EZ hr0 hC)) s0.drew BU rfl h1
 refine hq [0, 1, 2, 3, 4, 5] F2 s0.drew (QI.ev 1 rfl <| QI.ix h2 rfl <| QI.op rfl (fun _ hC => As DV rfl (Cells.at_ (h3 _ hC) (o := 0) rfl)) rfl <| QI.ev 1 rfl <| QI.ix h4 rfl <| QI.op rfl (fun _ hC => As DV rfl (Cells.at_ (h5 _ hC) (o := 0) rfl)) rfl <| QI.nil) (by kernel_rfl) fun _ F => ?_
 refine ho 6 rfl (by kernel_rfl) ?_
 refine Ad (parts := [(0, .tmp 5), (1, .tmp 8)]) Flat.u8 ([x0, x1] : List UInt8) F s0.drew BU rfl (by decide) rfl rfl rfl (by simp [Value.cells]) rfl rfl rfl fun v1 w0 _ F s1 => ?_
 refine gw 1 F rfl fun _ F => ⟨s1.drop, ?_⟩
 refine hq [7] F s1.drop (QI.ev 1 rfl <| QI.nil) (by kernel_rfl) fun _ F => ?_
 refine Ea (by kernel_rfl) ?_
 cases H
 exact ge 2 F rfl fun _ F => rt F ⟨v1, rfl, s1⟩
theorem VS {w : World} {v0 : Value} {a0 : List UInt8} {r : (List UInt8)} (hr0 : Rd Ty.u8 w [] v0 a0) (H : QY a0 = some r) :
    Calls prog 204 #[v0] w (B8 fun u_ w_ => ∃ u0 : Value, u_ = u0 ∧ SL w [] w_ [Sl Ty.u8 u0 r]) := by
 have s0 : SL w [] w [] := SL.BF w
 refine Cb func204 ntmps204 6 rfl rfl rfl fun _ F2 => ?_
 unfold QY at H
 obtain ⟨x0, h0, H⟩ := Aa H
 obtain ⟨x1, h1, H⟩ := Aa H
 refine Dk BL s0 ?_
 obtain ⟨a1, h2, h3⟩ := TZ Flat.u8 (fun _ hC => (EZ hr0 hC)) s0.drew BU rfl h0
 obtain ⟨a2, h4, h5⟩ := TZ Flat.u8 (fun _ hC => (EZ hr0 hC)) s0.drew BU rfl h1
 refine hq [0, 1, 2, 3, 4, 5] F2 s0.drew (QI.ev 1 rfl <| QI.ix h2 rfl <| QI.op rfl (fun _ hC => As DV rfl (Cells.at_ (h3 _ hC) (o := 0) rfl)) rfl <| QI.ev 1 rfl <| QI.ix h4 rfl <| QI.op rfl (fun _ hC => As DV rfl (Cells.at_ (h5 _ hC) (o := 0) rfl)) rfl <| QI.nil) (by kernel_rfl) fun _ F => ?_
 refine ho 6 rfl (by kernel_rfl) ?_
 refine Ad (parts := [(0, .tmp 5), (1, .tmp 8)]) Flat.u8 ([x0, x1] : List UInt8) F s0.drew BU rfl (by decide) rfl rfl rfl (by simp [Value.cells]) rfl rfl rfl fun v1 w0 _ F s1 => ?_
 refine gw 1 F rfl fun _ F => ⟨s1.drop, ?_⟩
 refine hq [7] F s1.drop (QI.ev 1 rfl <| QI.nil) (by kernel_rfl) fun _ F => ?_
 refine Ea (by kernel_rfl) ?_
 cases H
 exact ge 2 F rfl fun _ F => rt F ⟨v1, rfl, s1⟩
theorem Agr {w : World} {FF : List Nat} {v u : Value} {x : Gv} {l r : List UInt8} (hst : Ba [Ju 214 203 204 47 v x] w FF) (hr : Rd Ty.u8 w FF u l) (H : Gv.run x l = some r) :
    ∃ f caps, v = clo f caps ∧ DL prog f = true ∧ Calls prog f ([u] ++ caps).toArray w (B8 fun u_ w_ => SL w FF w_ [Sl Ty.u8 u_ r]) := by
  cases x with
  | const l' =>
    obtain ⟨qs, ⟨g, u1, rfl, rfl⟩, hs⟩ := K0 hst
    cases H
    refine ⟨214, [jP g], rfl, Ae6, ?_⟩
    have s0 : SL w FF w [AB g 47 [u1], Sl Ty.u8 u1 r] := SL.init w FF hs
    refine D7 func214 rfl ntmps214 (Nat.le_of_ble_eq_true rfl) (args := [u, jP g]) fun q0 F0 => ?_
    refine wp_seq ?_
    refine AZ ?_
    refine Gg F0 (PR.op (Hm rfl) <| PR.nil) fun q1 F1 => ?_
    refine AW ?_
    refine Fe ?_
    refine wp_seq ?_
    refine AZ ?_
    refine Gg F1 (PR.op (Ce Ud rfl (s0.BP (.head _) rfl)) <| PR.op (Hm rfl) <| PR.nil) fun q2 F2 => ?_
    refine AW ?_
    refine Fe ?_
    refine wp_ret ?_
    exact HY (rs := [.tmp 3]) (vs := [u1]) F2 (by rfl) ⟨_, _, rfl, RV.tmp rfl, rfl⟩ ⟨_, rfl, s0.drop⟩
  | dup =>
    obtain ⟨qs, ⟨rfl, rfl⟩, hs⟩ := K0 hst
    have hF : FF = [] := hs
    subst hF
    exact ⟨203, [], rfl, Afs, (V3 hr H).mono fun _ _ ⟨v_, h1, h2⟩ => by
      obtain ⟨u0, rfl, h3⟩ := h2
      exact ⟨_, h1, h3⟩⟩
  | swap =>
    obtain ⟨qs, ⟨rfl, rfl⟩, hs⟩ := K0 hst
    have hF : FF = [] := hs
    subst hF
    exact ⟨204, [], rfl, Af8, (VS hr H).mono fun _ _ ⟨v_, h1, h2⟩ => by
      obtain ⟨u0, rfl, h3⟩ := h2
      exact ⟨_, h1, h3⟩⟩
  | nil => cases H
theorem Sw {w : World} {v0_0 v0_1 : Value} {a0 : AD} {a1 : A3} {a2 : AA} {r : A3 × Int} (hr0_0 : Rd AL w [] v0_0 a0.Classes) (hr0_1 : Rd Bs w [] v0_1 a0.AP) (H : M5 a0 a1 a2 = some r) :
    Calls prog 134 #[.agg ⟨[v0_0, v0_1, jI a0.Fn]⟩, .agg ⟨(jI a1.Locals :: jI a1.Height :: Bb a1.Slots)⟩, .agg ⟨[jI a2.At, jU (a2.Op.toNat : Int), jI a2.A, jI a2.B]⟩] w (B8 fun u_ w_ => u_ = .tuple ⟨[.agg ⟨(jI r.1.Locals :: jI r.1.Height :: Bb r.1.Slots)⟩, jI r.2]⟩ ∧ SL w [] w_ []) := by
 have s0 : SL w [] w [] := SL.BF w
 refine Cb func134 ntmps134 2 rfl rfl rfl fun _ F0 => ?_
 unfold M5 at H
 refine Ao F0 s0 rfl rfl rfl fun g0 w0 _ F s1 => Ao F s1 rfl rfl rfl fun g32 w1 _ F s2 => Ao F s2 rfl rfl rfl fun g1 w2 _ F s3 => Ag F s3 Bu rfl rfl fun g2 w3 _ F s4 => ?_
 obtain ⟨x0, h0, H⟩ := Aa H
 refine gw 6 F rfl fun _ F => AV F s4 m3 0 rfl fun _ F => BW F s4 (Ro (a0 := (⟨a0.Classes, a0.AP, a0.Fn⟩ : AD)) (hr0_0.Bp s4) (hr0_1.Bp s4) h0) 3 rfl rfl rfl rfl fun w4 _ F s5 => Be F H 2 5 rfl rfl rfl (fun h1 H _ F => ?_) (fun h1 H _ F => ?_)
 ·refine gx F (Af (vs := []) Bu Dj rfl (cs := jZ) (Ch)) 0 rfl rfl fun _ F => ?_
  refine Br (ds := jZ) F s5 rfl rfl (by simpa using BA) (Ab rfl (Ab rfl (BH _))) (by simp) fun w5 _ F s6 => ?_
  cases H
  refine gw 5 F rfl fun _ F => ?_
  refine Aj (rs := [.cell 6 118, .tmp 7]) (vs := [.agg ⟨jZ⟩, jI 1]) F (by rfl) ⟨_, _, rfl, Am s6 m0 rfl BI (by simp), _, _, rfl, An rfl, rfl⟩ ⟨_, rfl, ⟨rfl, s6.drop.drop.drop.drop⟩⟩
 obtain ⟨x1, h2, H⟩ := Aa H
 refine AV F s5 m3 0 rfl fun _ F => Hv F s5 m2 0 rfl fun _ F => BW F s5 (MR (hr0_0.Bp s5) h2) 10 rfl rfl rfl rfl fun w6 _ F s7 => Be F H 2 4 rfl rfl rfl (fun h3 H _ F => ?_) (fun h3 H _ F => ?_)
 ·refine gx F (Af (vs := []) Bu Dj rfl (cs := jZ) (Ch)) 1 rfl rfl fun _ F => ?_
  refine Br (ds := jZ) F s7 rfl rfl (by simpa using BA) (Ab rfl (Ab rfl (BH _))) (by simp) fun w7 _ F s8 => ?_
  cases H
  refine gw 5 F rfl fun _ F => ?_
  refine Aj (rs := [.cell 6 118, .tmp 7]) (vs := [.agg ⟨jZ⟩, jI x1]) F (by rfl) ⟨_, _, rfl, Am s8 m0 rfl BI (by simp), _, _, rfl, An rfl, rfl⟩ ⟨_, rfl, ⟨rfl, s8.drop.drop.drop.drop⟩⟩
 obtain ⟨x2, h4, H⟩ := Aa H
 refine AV F s7 m3 0 rfl fun _ F => AV F s7 m1 0 rfl fun _ F => Ei F (Zs (a0 := (⟨a0.Classes, a0.AP, a0.Fn⟩ : AD)) (hr0_0.Bp s7) (hr0_1.Bp s7) h4) fun v0 w8 _ h5 F => ?_
 obtain ⟨v1, v2, rfl, h6⟩ := h5
 have s9 := s7.add h6
 refine gw 3 F rfl fun _ F => Ag F s9 Cw rfl rfl fun g3 w9 _ F sa => Ah F sa rfl rfl DW (Ab (Ap (fO sa m1)) (Ab (sa.EU m2).2 Al)) (Ac rfl) fun wa _ F sc => ?_
 obtain ⟨o0, H0, R0⟩ := Aa H
 clear H
 refine gw 4 F rfl fun _ F => Cx (fun a w_ => Fr a 101 [(3, jP g0), (4, jP g32), (5, jP g1), (6, jP g2), (8, jI x2.2), (9, jP g3), (10, .bool o0)] ∧ SL w [] w_ [AB g3 226 [v1, v2], Sl AE v1 x2.1.takes, Ju 214 203 204 47 v2 x2.1.gives, AB g2 118 jZ, AB g1 79 [jI a2.At, jU (a2.Op.toNat : Int), jI a2.A, jI a2.B], AB g32 118 (jI a1.Locals :: jI a1.Height :: Bb a1.Slots), AB g0 110 [v0_0, v0_1, jI a0.Fn]]) ?_ ?_
 ·have H := H0
  refine gc 2 F rfl fun _ F => AV F sc m4 2 rfl fun _ F => Cp 36 F H (fun h7 H F => ?_) (fun h7 H F => ?_)
  ·cases H
   exact gw 6 F rfl fun _ F => ⟨F.sb, sc⟩
  refine gw 1 F rfl fun _ F => AY F rfl rfl ?_
  cases H
  exact AV F sc m4 4 rfl fun _ F => ⟨F.sb, sc⟩
 intro _ wb hJ
 obtain ⟨F, sd⟩ := hJ
 have H := R0
 clear R0 H0
 obtain ⟨o1, H1, R1⟩ := Aa H
 clear H
 refine ge 2 F rfl fun _ F => Cx (fun a w_ => Fr a 101 [(3, jP g0), (4, jP g32), (5, jP g1), (6, jP g2), (8, jI o1), (9, jP g3)] ∧ SL w [] w_ [AB g3 226 [v1, v2], Sl AE v1 x2.1.takes, Ju 214 203 204 47 v2 x2.1.gives, AB g2 118 jZ, AB g1 79 [jI a2.At, jU (a2.Op.toNat : Int), jI a2.A, jI a2.B], AB g32 118 (jI a1.Locals :: jI a1.Height :: Bb a1.Slots), AB g0 110 [v0_0, v0_1, jI a0.Fn]]) ?_ ?_
 ·have H := H1
  refine gc 5 F rfl fun _ F => Cp 43 F H (fun h8 H F => ?_) (fun h8 H F => ?_)
  ·refine gw 3 F rfl fun _ F => Cp 46 F H (fun h9 H F => ?_) (fun h9 H F => ?_)
   ·refine gw 1 F rfl fun _ F => AY F rfl rfl <| AV F sd m4 2 rfl fun _ F => Cp 50 F H (fun ha H F => ?_) (fun ha H F => ?_)
    ·cases H
     exact gw 13 F rfl fun _ F => ⟨F.sb, sd⟩
    refine gw 1 F rfl fun _ F => AY F rfl rfl <| AV F sd m4 1 rfl fun _ F => AY F rfl rfl <| AV F sd m5 5 rfl fun _ F => Be F H 3 1 rfl rfl rfl (fun hb H _ F => ?_) (fun hb H _ F => ?_)
    ·cases H
     exact ⟨F.sb, sd⟩
    cases H
    exact ⟨F.sb, sd⟩
   cases H
   exact gw 15 F rfl fun _ F => ⟨F.sb, sd⟩
  cases H
  exact gw 18 F rfl fun _ F => ⟨F.sb, sd⟩
 intro _ wc hJ
 obtain ⟨F, se⟩ := hJ
 have H := R1
 clear R1 H1
 refine ge 8 F rfl fun _ F => Be F H 2 5 rfl rfl rfl (fun hc H _ F => ?_) (fun hc H _ F => ?_)
 ·refine gx F (Af (vs := []) Bu Dj rfl (cs := jZ) (Ch)) 1 rfl rfl fun _ F => ?_
  refine Br (ds := jZ) F se.f3 rfl rfl (by simpa using BA) (Ab rfl (Ab rfl (BH _))) (by simp) fun wd _ F sf => ?_
  cases H
  refine gw 5 F rfl fun _ F => ?_
  refine Aj (rs := [.cell 6 118, .tmp 7]) (vs := [.agg ⟨jZ⟩, jI o1]) F (by rfl) ⟨_, _, rfl, Am sf m0 rfl BI (by simp), _, _, rfl, An rfl, rfl⟩ ⟨_, rfl, ⟨rfl, sf.drop.drop.drop.drop.drop.drop.drop⟩⟩
 obtain ⟨x3, hd, H⟩ := Aa H
 refine AV F se m6 0 rfl fun _ F => Hv F se m5 1 rfl fun _ F => AV F se m0 0 rfl fun _ F => Ei F (Yt (hr0_0.Bp se) (se.rd0 m1) hd) fun v3 we _ he F => ?_
 obtain ⟨v4, rfl, hf⟩ := he
 have sg := se.add hf
 refine gw 14 F rfl fun _ F => Be F H 2 5 rfl rfl rfl (fun hg H _ F => ?_) (fun hg H _ F => ?_)
 ·refine gx F (Af (vs := []) Bu Dj rfl (cs := jZ) (Ch)) 1 rfl rfl fun _ F => ?_
  refine Br (ds := jZ) F sg.f4 rfl rfl (by simpa using BA) (Ab rfl (Ab rfl (BH _))) (by simp) fun wf _ F sh => ?_
  cases H
  refine gw 5 F rfl fun _ F => ?_
  refine Aj (rs := [.cell 6 118, .tmp 7]) (vs := [.agg ⟨jZ⟩, jI x3.2]) F (by rfl) ⟨_, _, rfl, Am sh m0 rfl BI (by simp), _, _, rfl, An rfl, rfl⟩ ⟨_, rfl, ⟨rfl, sh.drop.drop.drop.drop.drop.drop.drop.drop⟩⟩
 obtain ⟨x4, hh, H⟩ := Aa H
 obtain ⟨G0, hi, hj, hk, hl⟩ := SL.open_ (ps := [Ju 214 203 204 47 v2 x2.1.gives]) (rest := [Sl Ty.u8 v4 x3.1, AB g3 226 [v1, v2], Sl AE v1 x2.1.takes, AB g2 118 jZ, AB g1 79 [jI a2.At, jU (a2.Op.toNat : Int), jI a2.A, jI a2.B], AB g32 118 (jI a1.Locals :: jI a1.Height :: Bb a1.Slots), AB g0 110 [v0_0, v0_1, jI a0.Fn]]) sg.f3
 obtain ⟨f0, c0, hm, hn, ho⟩ := Agr hi (N2 m0 hk) hh
 refine AV F sg m1 1 rfl fun _ F => ?_
 refine El (args := [.tmp 77]) F hn (Eq.trans rfl (congrArg some hm)) rfl ho rfl fun v5 wg _ hp F => ?_
 have si := hl _ _ hp
 refine gw 7 F rfl fun _ F => AV F si m5 3 rfl fun _ F => Be F H 2 4 rfl rfl rfl (fun hq H _ F => ?_) (fun hq H _ F => ?_)
 ·obtain ⟨x5, hr, H⟩ := Aa H
  refine Hv F si m6 1 rfl fun _ F => AV F si m5 0 rfl fun _ F => BW F si (QQ hr) 14 rfl rfl rfl rfl fun wh _ F sj => Be F H 2 4 rfl rfl rfl (fun hs H _ F => ?_) (fun hs H _ F => ?_)
  ·refine gx F (Af (vs := []) Bu Dj rfl (cs := jZ) (Ch)) 0 rfl rfl fun _ F => ?_
   refine Br (ds := jZ) F sj.f4 rfl rfl (by simpa using BA) (Ab rfl (Ab rfl (BH _))) (by simp) fun wi _ F sk => ?_
   cases H
   refine gw 6 F rfl fun _ F => ?_
   refine Aj (rs := [.cell 6 118, .tmp 7]) (vs := [.agg ⟨jZ⟩, jI 70]) F (by rfl) ⟨_, _, rfl, Am sk m0 rfl BI (by simp), _, _, rfl, An rfl, rfl⟩ ⟨_, rfl, ⟨rfl, sk.drop.drop.drop.drop.drop.drop.drop.drop⟩⟩
  refine Ad (parts := [(0, .tmp 92)]) Flat.u8 ([x5.1] : List UInt8) F sj BU rfl (by decide) rfl rfl rfl (by simp [Value.cells]) rfl rfl rfl fun v6 wj _ F sl => ?_
  obtain ⟨x6, ht, H⟩ := Aa H
  refine gw 5 F rfl fun _ F => Hv F sl m7 0 rfl fun _ F => AV F sl m6 2 rfl fun _ F => BW F sl (QJ (sl.rd0 m2) (sl.rd0 m0) ht) 2 rfl rfl rfl rfl fun wk _ F sm => ?_
  refine Br (ds := (jI x6.1.Locals :: jI x6.1.Height :: Bb x6.1.Slots)) F sm.f5 rfl rfl (by simpa using BA) (Ab rfl (Ab rfl (BH _))) (by simp) fun wl _ F sn => ?_
  cases H
  refine gw 4 F rfl fun _ F => ?_
  refine Aj (rs := [.cell 6 118, .tmp 7]) (vs := [.agg ⟨(jI x6.1.Locals :: jI x6.1.Height :: Bb x6.1.Slots)⟩, jI x6.2]) F (by rfl) ⟨_, _, rfl, Am sn m0 rfl BI (by simp), _, _, rfl, An rfl, rfl⟩ ⟨_, rfl, ⟨rfl, sn.drop.drop.drop.drop.drop.drop.drop.drop.drop⟩⟩
 obtain ⟨x7, hu, H⟩ := Aa H
 refine Hv F si m6 0 rfl fun _ F => AV F si m5 2 rfl fun _ F => BW F si (QJ (si.rd0 m1) (si.rd0 m0) hu) 2 rfl rfl rfl rfl fun wm _ F so => ?_
 refine Br (ds := (jI x7.1.Locals :: jI x7.1.Height :: Bb x7.1.Slots)) F so.f4 rfl rfl (by simpa using BA) (Ab rfl (Ab rfl (BH _))) (by simp) fun wn _ F sp => ?_
 cases H
 refine gw 4 F rfl fun _ F => ?_
 refine Aj (rs := [.cell 6 118, .tmp 7]) (vs := [.agg ⟨(jI x7.1.Locals :: jI x7.1.Height :: Bb x7.1.Slots)⟩, jI x7.2]) F (by rfl) ⟨_, _, rfl, Am sp m0 rfl BI (by simp), _, _, rfl, An rfl, rfl⟩ ⟨_, rfl, ⟨rfl, sp.drop.drop.drop.drop.drop.drop.drop.drop⟩⟩
theorem VG {w : World} {v0 : Value} {a0 : List A9} {a1 : A3} {a2 : A3} {r : Int} (hr0 : Rd AL w [] v0 a0) (H : MC a0 a1 a2 = some r) :
    Calls prog 191 #[v0, .agg ⟨(jI a1.Locals :: jI a1.Height :: Bb a1.Slots)⟩, .agg ⟨(jI a2.Locals :: jI a2.Height :: Bb a2.Slots)⟩] w (B8 fun u_ w_ => u_ = jI r ∧ SL w [] w_ []) := by
 have s0 : SL w [] w [] := SL.BF w
 refine Cb func191 ntmps191 2 rfl rfl rfl fun _ F0 => ?_
 unfold MC at H
 refine Ao F0 s0 rfl rfl rfl fun g0 w0 _ F s1 => Ao F s1 rfl rfl rfl fun g1 w1 _ F s2 => ?_
 obtain ⟨x0, h0, H⟩ := Aa H
 refine gw 6 F rfl fun _ F => Hv F s2 m1 0 rfl fun _ F => BW F s2 (MR (hr0.Bp s2) h0) 10 rfl rfl rfl rfl fun w2 _ F s3 => Be F H 2 8 rfl rfl rfl (fun h1 H _ F => ?_) (fun h1 H _ F => ?_)
 ·obtain ⟨x1, h2, H⟩ := Aa H
  refine Hv F s3 m0 0 rfl fun _ F => BW F s3 (MR (hr0.Bp s3) h2) 9 rfl rfl rfl rfl fun w3 _ F s4 => Cp 18 F H (fun h3 H F => ?_) (fun h3 H F => ?_)
  ·refine gw 1 F rfl fun _ F => AY F rfl rfl <| AV F s4 m1 1 rfl fun _ F => AY F rfl rfl <| AV F s4 m0 2 rfl fun _ F => Cp 24 F H (fun h4 H F => ?_) (fun h4 H F => ?_)
   ·cases H
    exact gw 21 F rfl fun _ F => rt F ⟨rfl, s4.drop.drop⟩
   refine gw 1 F rfl fun _ F => AY F rfl rfl <| AV F s4 m1 1 rfl fun _ F => AY F rfl rfl <| AV F s4 m0 5 rfl fun _ F => Be F H 11 9 rfl rfl rfl (fun h5 H _ F => ?_) (fun h5 H _ F => ?_)
   ·cases H
    exact rt F ⟨rfl, s4.drop.drop⟩
   cases H
   exact rt F ⟨rfl, s4.drop.drop⟩
  cases H
  exact gw 25 F rfl fun _ F => rt F ⟨rfl, s4.drop.drop⟩
 cases H
 exact gw 25 (F.kf (d := 18) h1) rfl fun _ F => rt F ⟨rfl, s3.drop.drop⟩
theorem Ta {w : World} {FF : List Nat} {g1 g2 g3 : Nat} {v1_0 : Value} {a0 : Int} {a1 : List A9} {a2 : Int} {a3 : UInt8} {r : Bool × UInt8} (hst : Ba [AB g1 22 [v1_0], AB g2 3 [jI a2], AB g3 48 [jU (a3.toNat : Int)]] w FF) (hr1_0 : Rd AL w FF v1_0 a1) (H : Kg a0 a1 a2 a3 = some r) :
    Calls prog 212 #[jI a0, jP g1, jP g2, jP g3] w (B8 fun u_ w_ => u_ = .bool r.1 ∧ SL w FF w_ [AB g1 22 [v1_0], AB g2 3 [jI a2], AB g3 48 [jU (r.2.toNat : Int)]]) := by
 have s0 : SL w FF w [AB g1 22 [v1_0], AB g2 3 [jI a2], AB g3 48 [jU (a3.toNat : Int)]] := SL.init w FF hst
 refine Cb func212 ntmps212 8 rfl rfl rfl fun _ F2 => ?_
 unfold Kg at H
 obtain ⟨x0, h0, H⟩ := Aa H
 refine AV F2 s0 m0 0 rfl fun _ F => AV F s0 m1 1 rfl fun _ F => BW F s0 (QH (hr1_0.Bp s0) h0) 2 rfl rfl rfl rfl fun w0 _ F s1 => Be F H 3 8 rfl rfl rfl (fun h1 H _ F => ?_) (fun h1 H _ F => ?_)
 ·refine gx F (Ad9 rfl underlying3 underlying48) 0 rfl rfl fun _ F => gx F (ZR rfl rfl) 0 rfl rfl fun _ F => Au F s1.f2 rfl rfl Ov rfl rfl rfl fun w1 _ F s2 => ?_
  cases H
  exact gw 9 F rfl fun _ F => rt F ⟨rfl, s2.f2.f2⟩
 cases H
 exact rt F ⟨rfl, s1⟩
theorem OR {w : World} {FF : List Nat} {g0 g1 g2 : Nat} {v0 v300_0 : Value} {a0 : List A9} {a1 : Int} {a300 : List A9} {a301 : Int} {a302 : UInt8} {r : UInt8} (hst : Ba [AB g0 22 [v300_0], AB g1 3 [jI a301], AB g2 48 [jU (a302.toNat : Int)]] w FF) (hr0 : Rd AL w FF v0 a0) (hr300_0 : Rd AL w FF v300_0 a300) (H : Fa a0 a1 a300 a301 a302 = some r) :
    Calls prog 99 #[v0, jI a1, clo 212 [jP g0, jP g1, jP g2]] w (B8 fun u_ w_ => u_ = .tuple ⟨[]⟩ ∧ SL w FF w_ [AB g0 22 [v300_0], AB g1 3 [jI a301], AB g2 48 [jU (r.toNat : Int)]]) := by
 have s0 : SL w FF w [AB g0 22 [v300_0], AB g1 3 [jI a301], AB g2 48 [jU (a302.toNat : Int)]] := SL.init w FF hst
 refine Cb func99 ntmps99 0 rfl rfl rfl fun _ F0 => ?_
 unfold Fa at H
 obtain ⟨o0, H0, R0⟩ := Aa H
 clear H
 refine Cx (fun a w_ => ∃ p0 : UInt8, o0 = .inr (p0) ∧ Fr a 29 [] ∧ SL w FF w_ [AB g0 22 [v300_0], AB g1 3 [jI a301], AB g2 48 [jU (p0.toNat : Int)]]) ?_ ?_
 ·have H := H0
  refine gc 1 F0 rfl fun _ F0 => E6 (CW a0 a300 a301) (fun s1 a w_ => Fr a 29 [(0, v0), (1, jI s1.2), (2, clo 212 [jP g0, jP g1, jP g2])] ∧ SL w FF w_ [AB g0 22 [v300_0], AB g1 3 [jI a301], AB g2 48 [jU (s1.1.toNat : Int)]]) H ?_ ?_
  ·exact ⟨F0.sb, s0⟩
  intro s1 _ w0 h0 o1 H hr
  obtain ⟨F, s2⟩ := h0
  replace H : CW a0 a300 a301 s1 = some o1 := H
  unfold CW at H
  refine gc 6 F rfl fun _ F => Cp 9 F H (fun h1 H F => ?_) (fun h1 H F => ?_)
  ·refine gw 2 F rfl fun _ F => AY F rfl rfl <| gx F (Ak rfl underlying22 (fR hr0 s2)) 3 rfl rfl fun _ F => Cp 15 F H (fun h2 H F => ?_) (fun h2 H F => ?_)
   ·obtain ⟨x0, h3, H⟩ := Aa H
    refine gw 2 F rfl fun _ F => AY F rfl rfl ?_
    obtain ⟨G0, h4, h5, h6, h7⟩ := SL.open_ (ps := [AB g0 22 [v300_0], AB g1 3 [jI a301], AB g2 48 [jU (s1.1.toNat : Int)]]) (rest := []) s2.f2.f2.f2
    refine El (args := [.tmp 17]) F Ae2 rfl rfl (Ta (a0 := s1.2) (a1 := a300) (a2 := a301) (a3 := s1.1) h4 (hr300_0.pass s2.f2.f2.f2 h5) h3) rfl fun v1 w1 _ h8 F => ?_
    obtain ⟨rfl, h9⟩ := h8
    have s3 := h7 _ _ h9
    refine gw 3 F rfl fun _ F => Be F H 5 4 rfl rfl rfl (fun ha H _ F => ?_) (fun ha H _ F => ?_)
    ·obtain ⟨x1, hb, H⟩ := Aa H
     obtain ⟨a4, c0, G1, hc, hd, he, hf⟩ := Rd.idx hr0 GM rfl hb
     obtain ⟨v2, rfl, hg⟩ := (EV he hf)
     replace hd := hd _ _ s3
     refine gw 2 F rfl fun _ F => gi F hc 0 rfl fun _ F => gx F (Ke M6 rfl) 0 rfl rfl fun _ F => gx F (As Cn rfl (Cells.at_ hd (o := 1) rfl)) 11 rfl rfl fun _ F => Be F H 6 7 rfl rfl rfl (fun hh H _ F => ?_) (fun hh H _ F => ?_)
     ·cases H
      obtain rfl := hr _ rfl
      replace H := R0
      try dsimp only at H
      cases H
      exact rt F ⟨rfl, s3⟩
     cases H
     exact ⟨_, rfl, F.sb, s3⟩
    cases H
    obtain rfl := hr _ rfl
    exact ⟨_, rfl, F.sb, s3⟩
   cases H
   obtain rfl := hr _ rfl
   exact gw 11 F rfl fun _ F => ⟨_, rfl, F.sb, s2⟩
  cases H
  obtain rfl := hr _ rfl
  exact gw 17 F rfl fun _ F => ⟨_, rfl, F.sb, s2⟩
 intro _ w2 hJ
 obtain ⟨p0, rfl, F, s4⟩ := hJ
 have H := R0
 clear R0 H0
 try dsimp only at H
 cases H
 exact Ni F (by rfl) ⟨_, rfl, ⟨rfl, s4⟩⟩
theorem Xd {w : World} {v0 : Value} {a0 : List A9} {a1 : UInt8} {a2 : UInt8} {r : UInt8} (hr0 : Rd AL w [] v0 a0) (H : Lu a0 a1 a2 = some r) :
    Calls prog 192 #[v0, jU (a1.toNat : Int), jU (a2.toNat : Int)] w (B8 fun u_ w_ => u_ = jU (r.toNat : Int) ∧ SL w [] w_ []) := by
 have s0 : SL w [] w [] := SL.BF w
 refine Cb func192 ntmps192 2 rfl rfl rfl fun _ F0 => ?_
 unfold Lu at H
 refine Ao F0 s0 rfl (Ae (fR hr0 s0)) rfl fun g8 w9 _ F s1 => ?_
 obtain ⟨x0, h0, H⟩ := Aa H
 refine gw 7 F rfl fun _ F => AV F s1 m0 1 rfl fun _ F => BW F s1 (FR (hr0.Bp s1) h0) 2 rfl rfl rfl rfl fun w0 _ F s2 => Cp 15 F H (fun h1 H F => ?_) (fun h1 H F => ?_)
 ·cases H
  exact gw 17 F rfl fun _ F => rt F ⟨rfl, s2.drop⟩
 refine AY F rfl rfl ?_
 obtain ⟨x1, h2, H⟩ := Aa H
 refine AV F s2 m0 1 rfl fun _ F => AY F rfl rfl <| BW F s2 (FR (hr0.Bp s2) h2) 5 rfl rfl rfl rfl fun w1 _ F s3 => Be F H 8 2 rfl rfl rfl (fun h3 H _ F => ?_) (fun h3 H _ F => ?_)
 ·cases H
  exact rt F ⟨rfl, s3.drop⟩
 obtain ⟨x2, h4, H⟩ := Aa H
 refine AV F s3 m0 2 rfl fun _ F => BW F s3 (Pz (hr0.Bp s3) h4) 3 rfl rfl rfl rfl fun w2 _ F s4 => Be F H 9 2 rfl rfl rfl (fun h5 H _ F => ?_) (fun h5 H _ F => ?_)
 ·cases H
  exact rt F ⟨rfl, s4.drop⟩
 obtain ⟨x3, h6, H⟩ := Aa H
 refine AV F s4 m0 2 rfl fun _ F => BW F s4 (Pz (hr0.Bp s4) h6) 3 rfl rfl rfl rfl fun w3 _ F s5 => Be F H 9 3 rfl rfl rfl (fun h7 H _ F => ?_) (fun h7 H _ F => ?_)
 ·cases H
  exact rt F ⟨rfl, s5.drop⟩
 obtain ⟨x4, h8, H⟩ := Aa H
 refine BW F s5 (Hh h8) 2 rfl rfl rfl rfl fun w4 _ F s6 => Cp 37 F H (fun h9 H F => ?_) (fun h9 H F => ?_)
 ·cases H
  exact gw 16 F rfl fun _ F => rt F ⟨rfl, s6.drop⟩
 obtain ⟨x5, ha, H⟩ := Aa H
 refine gw 1 F rfl fun _ F => AY F rfl rfl <| BW F s6 (Hh ha) 5 rfl rfl rfl rfl fun w5 _ F s7 => Be F H 8 5 rfl rfl rfl (fun hb H _ F => ?_) (fun hb H _ F => ?_)
 ·cases H
  exact rt F ⟨rfl, s7.drop⟩
 refine Ag F s7 Ada rfl rfl fun g0 w6 _ F s8 => Au F s8 rfl rfl Ov rfl rfl rfl fun w7 _ F s9 => ?_
 obtain ⟨x6, hc, H⟩ := Aa H
 obtain ⟨x7, hd, H⟩ := Aa H
 refine gw 3 F rfl fun _ F => Dk BL s9 ?_
 refine hq [0, 1, 3, 4] F s9.drew (QI.ld m1 rfl <| QI.ev 1 rfl <| QI.ld m1 rfl <| QI.ev 1 rfl <| QI.nil) (by kernel_rfl) fun _ F => ?_
 refine Jb [0, 1, 2, 3, 4, 5, 6] (fun a w_ => ∃ g1 : Nat, Fr a 59 [(3, jP g8), (7, jP g0), (9, jP g1), (44, jI x6), (47, jI x7)] ∧ SL w [] w_ [AB g0 48 [jU 5], AB g8 22 [v0], AB g1 3 [jI 0]]) ?_ fun hD0 => ?_
 ·rintro a w_ ⟨g1, F, sa⟩
  refine hq [7] F sa.f2.drop (QI.ev 1 rfl <| QI.nil) (by kernel_rfl) fun _ F => ?_
  refine ho 8 rfl (by kernel_rfl) ?_
  refine Au F sa.f2 rfl rfl JK rfl rfl rfl fun w8 _ F sc => gw 1 F rfl fun _ F => ⟨sc.drop, ?_⟩
  refine Ea (by kernel_rfl) ?_
  refine ge 7 F rfl fun _ F => Cp 50 F H (fun he H F => ?_) (fun he H F => ?_)
  ·refine AY F rfl rfl <| AV F sc m0 4 rfl fun _ F => Be F H 1 4 rfl rfl rfl (fun hf H _ F => ?_) (fun hf H _ F => ?_)
   ·obtain ⟨x8, hg, H⟩ := Aa H
    refine AV F sc m2 1 rfl fun _ F => gx F (Eg (cs := [.tmp 3, .tmp 9, .tmp 7]) (vs := [jP g8, jP g1, jP g0]) rfl) 0 rfl rfl fun _ F => ?_
    have sd := sc.f1.f1.f2
    obtain ⟨G0, hh, hi, hj, hk⟩ := SL.open_ (ps := [AB g8 22 [v0], AB g1 3 [jI x7], AB g0 48 [jU 5]]) (rest := []) sd
    refine Ei F (OR (a300 := a0) (a301 := x7) (a302 := 5) hh (hr0.pass sd hi) (hr0.pass sd hi) hg) fun v1 wa _ hl F => ?_
    obtain ⟨rfl, hm⟩ := hl
    have se := hk _ _ hm
    refine gw 4 F rfl fun _ F => ?_
    cases H
    exact AV F se m2 4 rfl fun _ F => rt F ⟨rfl, se.drop.drop.drop⟩
   cases H
   exact AV F sc m1 4 rfl fun _ F => rt F ⟨rfl, sc.drop.drop.drop⟩
  refine gw 10 F rfl fun _ F => ?_
  cases H
  exact AV F sc m1 4 rfl fun _ F => rt F ⟨rfl, sc.drop.drop.drop⟩
 refine Jb [0, 1, 2, 3, 4, 6] (fun a w_ => ∃ g1 : Nat, Fr a 59 [(3, jP g8), (7, jP g0), (9, jP g1), (44, jI x6), (45, v0), (46, jU (a2.toNat : Int))] ∧ SL w [] w_ [AB g0 48 [jU 5], AB g8 22 [v0], AB g1 3 [jI 0]]) ?_ fun hD1 => ?_
 ·rintro a w_ ⟨g1, F, sf⟩
  refine ho 5 rfl (by kernel_rfl) ?_
  exact BW F sf (FT (hr0.Bp sf) hd) 1 rfl rfl rfl rfl fun wb _ F sg => ⟨sg.f2.drop, E5 hD0 ⟨g1, F.sb, sg⟩ (by kernel_rfl)⟩
 refine Hw 2 6 rfl rfl (by kernel_rfl) ?_ ?_
 ·refine BW F s9.drew (FT (hr0.Bp s9.drew) hc) 1 rfl rfl rfl rfl fun wc _ F sh => ⟨sh, ?_⟩
  refine Hw 5 6 rfl rfl (by kernel_rfl) ?_ ?_
  ·refine BW F sh (FT (hr0.Bp sh) hd) 1 rfl rfl rfl rfl fun wb _ F sg => ⟨sg, ?_⟩
   refine ho 6 rfl (by kernel_rfl) ?_
   exact Ag F sg Q6 rfl rfl fun g1 wd _ F si => gw 1 F rfl fun _ F => ⟨si.drop, E5 hD0 ⟨g1, F.sb, si.f2.f2⟩ (by kernel_rfl)⟩
  exact Ag F sh Q6 rfl rfl fun g1 wd _ F si => gw 1 F rfl fun _ F => ⟨si.drop, E5 hD1 ⟨g1, F.sb, si.f2.f2⟩ (by kernel_rfl)⟩
 refine Ag F s9.drew Q6 rfl rfl fun g1 wd _ F si => gw 1 F rfl fun _ F => ⟨si.drop, ?_⟩
 refine ho 2 rfl (by kernel_rfl) ?_
 exact BW F si (FT (hr0.Bp si) hc) 1 rfl rfl rfl rfl fun wc _ F sh => ⟨sh.drop, E5 hD1 ⟨g1, F.sb, sh.f2.f2⟩ (by kernel_rfl)⟩
theorem PY {w : World} {v0 : Value} {a0 : List A9} {a1 : A3} {a2 : A3} {r : A3 × Int} (hr0 : Rd AL w [] v0 a0) (H : Ko a0 a1 a2 = some r) :
    Calls prog 165 #[v0, .agg ⟨(jI a1.Locals :: jI a1.Height :: Bb a1.Slots)⟩, .agg ⟨(jI a2.Locals :: jI a2.Height :: Bb a2.Slots)⟩] w (B8 fun u_ w_ => u_ = .tuple ⟨[.agg ⟨(jI r.1.Locals :: jI r.1.Height :: Bb r.1.Slots)⟩, jI r.2]⟩ ∧ SL w [] w_ []) := by
 have s0 : SL w [] w [] := SL.BF w
 refine Cb func165 ntmps165 2 rfl rfl rfl fun _ F0 => ?_
 unfold Ko at H
 refine Ao F0 s0 rfl rfl rfl fun g0 w0 _ F s1 => Ao F s1 rfl rfl rfl fun g1 w1 _ F s2 => Ag F s2 Bu rfl rfl fun g32 w2 _ F s3 => ?_
 obtain ⟨x0, h0, H⟩ := Aa H
 refine gw 6 F rfl fun _ F => Hv F s3 m2 0 rfl fun _ F => Hv F s3 m1 0 rfl fun _ F => BW F s3 (VG (hr0.Bp s3) h0) 10 rfl rfl rfl rfl fun w3 _ F s4 => Be F H 2 6 rfl rfl rfl (fun h1 H _ F => ?_) (fun h1 H _ F => ?_)
 ·refine gx F (Af (vs := []) Bu Dj rfl (cs := jZ) (Ch)) 1 rfl rfl fun _ F => ?_
  refine Br (ds := jZ) F s4 rfl rfl (by simpa using BA) (Ab rfl (Ab rfl (BH _))) (by simp) fun w4 _ F s5 => ?_
  cases H
  refine gw 5 F rfl fun _ F => ?_
  refine Aj (rs := [.cell 6 118, .tmp 7]) (vs := [.agg ⟨jZ⟩, jI x0]) F (by rfl) ⟨_, _, rfl, Am s5 m0 rfl BI (by simp), _, _, rfl, An rfl, rfl⟩ ⟨_, rfl, ⟨rfl, s5.drop.drop.drop⟩⟩
 refine AV F s4 m2 1 rfl fun _ F => ?_
 obtain ⟨o0, H0, R0⟩ := Aa H
 clear H
 refine AV F s4 m2 4 rfl fun _ F => Cx (fun a w_ => Fr a 41 [(4, jP g0), (6, jP g32)] ∧ SL w [] w_ [AB g32 118 jZ, AB g0 118 (jI a1.Locals :: jI a1.Height :: Bb o0)]) ?_ ?_
 ·have H := H0
  refine gc 1 F rfl fun _ F => E6 (GG a0 a1 a2) (fun s6 a w_ => Fr a 41 [(0, v0), (4, jP g0), (5, jP g1), (6, jP g32), (22, jI (wr (a1.Locals + a1.Height))), (23, jI s6.2)] ∧ SL w [] w_ [AB g32 118 jZ, AB g1 118 (jI a2.Locals :: jI a2.Height :: Bb a2.Slots), AB g0 118 (jI a1.Locals :: jI a1.Height :: Bb s6.1)]) H ?_ ?_
  ·exact ⟨F.sb, s4⟩
  intro s6 _ w5 h2 o1 H hr
  obtain ⟨F, s7⟩ := h2
  replace H : GG a0 a1 a2 s6 = some o1 := H
  unfold GG at H
  refine gc 6 F rfl fun _ F => Be F H 10 4 rfl rfl rfl (fun h3 H _ F => ?_) (fun h3 H _ F => ?_)
  ·obtain ⟨x1, h4, H⟩ := Aa H
   obtain ⟨x2, h5, H⟩ := Aa H
   obtain ⟨x3, h6, H⟩ := Aa H
   obtain ⟨x4, h7, H⟩ := Aa H
   refine Dk BL s7.f2.drop ?_
   have s8 := s7.drew
   refine hq [0, 1, 2, 3, 6, 7, 8, 9, 11] F s8.f2.drop (QI.ev 6 rfl <| QI.op rfl (fun _ hC => K5 Gb h5 rfl rfl) rfl <| QI.op rfl (fun _ hC => As DV rfl (SL.QF (pre := [jI a2.Locals, jI a2.Height]) hC m1 rfl h5)) rfl <| QI.ev 1 rfl <| QI.nil) (by kernel_rfl) fun _ F => ?_
   refine ho 4 rfl (by kernel_rfl) ?_
   refine gx F (K5 Gb h4 rfl rfl) 1 rfl rfl fun _ F => ⟨s8.f2.drop, ?_⟩
   refine ho 5 rfl (by kernel_rfl) ?_
   refine gx F (As DV rfl (SL.QF (pre := [jI a1.Locals, jI a1.Height]) s8 m2 rfl h4)) 1 rfl rfl fun _ F => ⟨s8.f2.drop, ?_⟩
   refine ho 10 rfl (by kernel_rfl) ?_
   refine BW F s8 (Xd (hr0.Bp s8) h6) 1 rfl rfl rfl rfl fun w6 _ F s9 => ⟨s9.f2.drop, ?_⟩
   refine ho 12 rfl (by kernel_rfl) ?_
   refine gx F (K5 Gb h7 rfl rfl) 1 rfl rfl fun _ F => ⟨s9.f2.drop, ?_⟩
   refine ho 13 rfl (by kernel_rfl) ?_
   refine Po (y' := x3) (pre := [jI a1.Locals, jI a1.Height]) F s9.f2 rfl h7 rfl rfl Ov fun w7 _ F sa => gw 1 F rfl fun _ F => ⟨sa.drop, ?_⟩
   refine Ea (by kernel_rfl) ?_
   cases H
   exact ge 6 F rfl fun _ F => ⟨_, rfl, F.sb, sa.f2.f2⟩
  cases H
  obtain rfl := hr _ rfl
  exact ⟨F.sb, s7.f1.drop⟩
 intro _ w8 hJ
 obtain ⟨F, sc⟩ := hJ
 have H := R0
 clear R0 H0
 refine ge 3 F rfl fun _ F => Hv F sc m1 0 rfl fun _ F => ?_
 refine Br (ds := (jI a1.Locals :: jI a1.Height :: Bb o0)) F sc rfl rfl (by simpa using BA) (Ab rfl (Ab rfl (BH _))) (by simp) fun w9 _ F sd => ?_
 cases H
 refine gw 4 F rfl fun _ F => ?_
 refine Aj (rs := [.cell 6 118, .tmp 7]) (vs := [.agg ⟨(jI a1.Locals :: jI a1.Height :: Bb o0)⟩, jI 0]) F (by rfl) ⟨_, _, rfl, Am sd m0 rfl BI (by simp), _, _, rfl, An rfl, rfl⟩ ⟨_, rfl, ⟨rfl, sd.drop.drop⟩⟩
theorem P1 {w : World} {FF : List Nat} {g0 g0_4 g0_5 g0_6 : Nat} {v0_0 v0_1 v0_3 : Value} {a0 : AM} {a1 : Int} {a2 : A3} {r : Int × AM} (hst : Ba [AB g0 154 [v0_0, v0_1, jI a0.e.Fn, v0_3, .map (some g0_4), .map (some g0_5), .map (some g0_6), jI a0.B2], Mp (Value.int .i64) (fun x : A3 => Value.agg ⟨(jI x.Locals :: jI x.Height :: Bb x.Slots)⟩) g0_4 a0.frames, Mp (Value.int .i64) (fun _ : Unit => Value.agg ⟨[]⟩) g0_5 a0.fresh, Mp (Value.int .i64) (Value.int .i64) g0_6 a0.taken] w FF) (hr0_0 : Rd AL w FF v0_0 a0.e.Classes) (hr0_1 : Rd Bs w FF v0_1 a0.e.AP) (hr0_3 : Rd Ty.u8 w FF v0_3 a0.code) (H : FK a0 a1 a2 = some r) :
    Calls prog 135 #[jP g0, jI a1, .agg ⟨(jI a2.Locals :: jI a2.Height :: Bb a2.Slots)⟩] w (B8 fun u_ w_ => ∃ u0 u1 u2 : Value, u_ = jI r.1 ∧ BD AL v0_0 a0.e.Classes u0 r.2.e.Classes ∧ BD Bs v0_1 a0.e.AP u1 r.2.e.AP ∧ BD Ty.u8 v0_3 a0.code u2 r.2.code ∧ SL w FF w_ [AB g0 154 [u0, u1, jI r.2.e.Fn, u2, .map (some g0_4), .map (some g0_5), .map (some g0_6), jI r.2.B2], Mp (Value.int .i64) (fun x : A3 => Value.agg ⟨(jI x.Locals :: jI x.Height :: Bb x.Slots)⟩) g0_4 r.2.frames, Mp (Value.int .i64) (fun _ : Unit => Value.agg ⟨[]⟩) g0_5 r.2.fresh, Mp (Value.int .i64) (Value.int .i64) g0_6 r.2.taken]) := by
 have s0 : SL w FF w [AB g0 154 [v0_0, v0_1, jI a0.e.Fn, v0_3, .map (some g0_4), .map (some g0_5), .map (some g0_6), jI a0.B2], Mp (Value.int .i64) (fun x : A3 => Value.agg ⟨(jI x.Locals :: jI x.Height :: Bb x.Slots)⟩) g0_4 a0.frames, Mp (Value.int .i64) (fun _ : Unit => Value.agg ⟨[]⟩) g0_5 a0.fresh, Mp (Value.int .i64) (Value.int .i64) g0_6 a0.taken] := SL.init w FF hst
 refine Cb func135 ntmps135 2 rfl rfl rfl fun _ F0 => ?_
 unfold FK at H
 refine Ao F0 s0 rfl rfl rfl fun g8 w9 _ F s1 => gw 8 F rfl fun _ F => AV F s1 m1 1 rfl fun _ F => gx F (Vr (k := a1) (z0 := (⟨(0 : Int), (0 : Int), (Vector.replicate 24 (0 : UInt8))⟩ : A3)) s1 m2 underlying150 FM Uj rfl rfl) 3 rfl rfl fun _ F => Ag F s1 Bu rfl rfl fun g1 w0 _ F s2 => ?_
 refine Br (ds := (jI (((BJ a0.frames a1).getD (⟨(0 : Int), (0 : Int), (Vector.replicate 24 (0 : UInt8))⟩ : A3)).Locals) :: jI (((BJ a0.frames a1).getD (⟨(0 : Int), (0 : Int), (Vector.replicate 24 (0 : UInt8))⟩ : A3)).Height) :: Bb (((BJ a0.frames a1).getD (⟨(0 : Int), (0 : Int), (Vector.replicate 24 (0 : UInt8))⟩ : A3)).Slots))) F s2 rfl rfl (by simpa using BA) (Ab rfl (Ab rfl (BH _))) (by simp) fun w1 _ F s3 => ?_
 obtain ⟨o0, H0, R0⟩ := Aa H
 clear H
 refine gw 4 F rfl fun _ F => Cx (fun a w_ => ∃ p0 : Int × Int × (Vector UInt8 24), o0 = .inr (p0) ∧ Fr a 59 [(0, jP g0), (1, jI a1), (5, jP g8), (7, jP g1), (8, .bool ((BJ a0.frames a1).isSome))] ∧ SL w FF w_ [AB g8 118 (jI p0.1 :: jI p0.2.1 :: Bb p0.2.2), AB g1 118 (jI (((BJ a0.frames a1).getD (⟨(0 : Int), (0 : Int), (Vector.replicate 24 (0 : UInt8))⟩ : A3)).Locals) :: jI (((BJ a0.frames a1).getD (⟨(0 : Int), (0 : Int), (Vector.replicate 24 (0 : UInt8))⟩ : A3)).Height) :: Bb (((BJ a0.frames a1).getD (⟨(0 : Int), (0 : Int), (Vector.replicate 24 (0 : UInt8))⟩ : A3)).Slots)), AB g0 154 [v0_0, v0_1, jI a0.e.Fn, v0_3, .map (some g0_4), .map (some g0_5), .map (some g0_6), jI a0.B2], Mp (Value.int .i64) (fun x : A3 => Value.agg ⟨(jI x.Locals :: jI x.Height :: Bb x.Slots)⟩) g0_4 a0.frames, Mp (Value.int .i64) (fun _ : Unit => Value.agg ⟨[]⟩) g0_5 a0.fresh, Mp (Value.int .i64) (Value.int .i64) g0_6 a0.taken]) ?_ ?_
 ·have H := H0
  refine gc 5 F rfl fun _ F => Be F H 1 1 rfl rfl rfl (fun h0 H _ F => ?_) (fun h0 H _ F => ?_)
  ·obtain ⟨x0, h1, H⟩ := Aa H
   refine Dk BL s3 ?_
   refine hq [0, 1, 2, 3, 4, 5, 6] F s3.drew (QI.ev 4 rfl <| QI.ld m2 rfl <| QI.op rfl (fun _ hC => Ar BI rfl (hC.Do m0 (o := 0) (ds := (jI (((BJ a0.frames a1).getD (⟨(0 : Int), (0 : Int), (Vector.replicate 24 (0 : UInt8))⟩ : A3)).Locals) :: jI (((BJ a0.frames a1).getD (⟨(0 : Int), (0 : Int), (Vector.replicate 24 (0 : UInt8))⟩ : A3)).Height) :: Bb (((BJ a0.frames a1).getD (⟨(0 : Int), (0 : Int), (Vector.replicate 24 (0 : UInt8))⟩ : A3)).Slots))) (Mj (pre := []) rfl rfl)) (by simp)) rfl <| QI.op rfl (fun _ hC => Ar BI rfl (hC.Do m1 (o := 0) (ds := (jI a2.Locals :: jI a2.Height :: Bb a2.Slots)) (Mj (pre := []) rfl rfl)) (by simp)) rfl <| QI.nil) (by kernel_rfl) fun _ F => ?_
   refine Jb [0, 1, 2, 3, 4, 5, 6, 7, 8, 9, 10, 11, 12] (fun a w_ => ∃ g2 : Nat, Fr a 59 [(0, jP g0), (1, jI a1), (5, jP g8), (7, jP g1), (8, .bool ((BJ a0.frames a1).isSome)), (9, jP g2), (31, jI x0.2)] ∧ SL w FF w_ [AB g1 118 (jI (((BJ a0.frames a1).getD (⟨(0 : Int), (0 : Int), (Vector.replicate 24 (0 : UInt8))⟩ : A3)).Locals) :: jI (((BJ a0.frames a1).getD (⟨(0 : Int), (0 : Int), (Vector.replicate 24 (0 : UInt8))⟩ : A3)).Height) :: Bb (((BJ a0.frames a1).getD (⟨(0 : Int), (0 : Int), (Vector.replicate 24 (0 : UInt8))⟩ : A3)).Slots)), AB g8 118 (jI a2.Locals :: jI a2.Height :: Bb a2.Slots), AB g0 154 [v0_0, v0_1, jI a0.e.Fn, v0_3, .map (some g0_4), .map (some g0_5), .map (some g0_6), jI a0.B2], Mp (Value.int .i64) (fun x : A3 => Value.agg ⟨(jI x.Locals :: jI x.Height :: Bb x.Slots)⟩) g0_4 a0.frames, Mp (Value.int .i64) (fun _ : Unit => Value.agg ⟨[]⟩) g0_5 a0.fresh, Mp (Value.int .i64) (Value.int .i64) g0_6 a0.taken, AB g2 118 (jI x0.1.Locals :: jI x0.1.Height :: Bb x0.1.Slots)]) ?_ fun hD0 => ?_
   ·rintro a w_ ⟨g2, F, s4⟩
    refine hq [13] F s4.f6.drop (QI.ev 1 rfl <| QI.nil) (by kernel_rfl) fun _ F => ?_
    refine Ea (by kernel_rfl) ?_
    refine ge 8 F rfl fun _ F => Be F H 6 3 rfl rfl rfl (fun h2 H _ F => ?_) (fun h2 H _ F => ?_)
    ·refine Au F s4.f2 rfl rfl JK rfl rfl rfl fun w2 _ F s5 => ?_
     cases H
     replace H := R0
     try dsimp only at H
     cases H
     exact gw 12 F rfl fun _ F => rt F ⟨v0_0, v0_1, v0_3, rfl, BD.refl, BD.refl, BD.refl, s5.f1.drop.f1.drop.f4.drop⟩
    refine Hv F s4 m6 0 rfl fun _ F => ?_
    refine Br (ds := (jI x0.1.Locals :: jI x0.1.Height :: Bb x0.1.Slots)) F s4.f1 rfl rfl (by simpa using BA) (Ab rfl (Ab rfl (BH _))) (by simp) fun w3 _ F s6 => ?_
    cases H
    exact gw 1 F rfl fun _ F => ⟨_, rfl, F.sb, s6.f6.drop⟩
   refine Hw 7 11 rfl rfl (by kernel_rfl) ?_ ?_
   ·refine BW F s3.drew (PY (hr0_0.Bp s3.drew) h1) 1 rfl rfl rfl rfl fun w4 _ F s7 => ⟨s7, ?_⟩
    refine hq [8, 9, 10] F s7 (QI.ev 3 rfl <| QI.nil) (by kernel_rfl) fun _ F => ?_
    refine ho 11 rfl (by kernel_rfl) ?_
    refine Ag F s7 Bu rfl rfl fun g2 w5 _ F s8 => gw 1 F rfl fun _ F => ⟨s8.drop, ?_⟩
    refine ho 12 rfl (by kernel_rfl) ?_
    refine Br (ds := (jI x0.1.Locals :: jI x0.1.Height :: Bb x0.1.Slots)) F s8 rfl rfl (by simpa using BA) (Ab rfl (Ab rfl (BH _))) (by simp) fun w6 _ F s9 => ?_
    exact gw 1 F rfl fun _ F => ⟨s9.drop, E5 hD0 ⟨g2, F.sb, s9.f6.f6.f6.f6.f6.f6⟩ (by kernel_rfl)⟩
   refine Ag F s3.drew Bu rfl rfl fun g2 w5 _ F s8 => gw 1 F rfl fun _ F => ⟨s8.drop, ?_⟩
   refine ho 7 rfl (by kernel_rfl) ?_
   refine BW F s8 (PY (hr0_0.Bp s8) h1) 1 rfl rfl rfl rfl fun w4 _ F s7 => ⟨s7.drop, ?_⟩
   refine hq [8, 9, 10] F s7.drop (QI.ev 3 rfl <| QI.nil) (by kernel_rfl) fun _ F => ?_
   refine ho 12 rfl (by kernel_rfl) ?_
   refine Br (ds := (jI x0.1.Locals :: jI x0.1.Height :: Bb x0.1.Slots)) F s7 rfl rfl (by simpa using BA) (Ab rfl (Ab rfl (BH _))) (by simp) fun w6 _ F s9 => ?_
   exact gw 1 F rfl fun _ F => ⟨s9.drop, E5 hD0 ⟨g2, F.sb, s9.f6.f6.f6.f6.f6.f6⟩ (by kernel_rfl)⟩
  cases H
  exact ⟨_, rfl, F.sb, s3.f5.f5.f5.f5.f4.f5⟩
 intro _ w7 hJ
 obtain ⟨p0, rfl, F, sa⟩ := hJ
 have H := R0
 clear R0 H0
 try dsimp only at H
 refine ge 7 F rfl fun _ F => Cp 42 F H (fun h3 H F => ?_) (fun h3 H F => ?_)
 ·refine gw 8 F rfl fun _ F => Dk BL sa.f3.drop ?_
  refine hq [0, 1, 2, 3, 4, 5] F sa.drew.f3.drop (QI.ev 3 rfl <| QI.ld m2 rfl <| QI.ev 1 rfl <| QI.op rfl (fun _ hC => Ar BI rfl (hC.Do m0 (o := 0) (ds := (jI p0.1 :: jI p0.2.1 :: Bb p0.2.2)) (Mj (pre := []) rfl rfl)) (by simp)) rfl <| QI.nil) (by kernel_rfl) fun _ F => ?_
  refine ho 6 rfl (by kernel_rfl) ?_
  refine IQ (k := a1) (u := (⟨p0.1, p0.2.1, p0.2.2⟩ : A3)) F sa.drew.f3 underlying150 FM rfl rfl rfl fun w8 _ F sc => gw 1 F rfl fun _ F => ⟨sc.drop, ?_⟩
  refine Ea (by kernel_rfl) ?_
  refine ge 5 F rfl fun _ F => AV F sc m3 1 rfl fun _ F => gx F (Af (vs := []) Q9 Uf rfl (cs := []) (rfl)) 0 rfl rfl fun _ F => IQ (k := a1) (u := ()) F sc.f4 underlying151 FM rfl rfl rfl fun wa _ F sd => ?_
  cases H
  exact gw 8 F rfl fun _ F => rt F ⟨v0_0, v0_1, v0_3, rfl, BD.refl, BD.refl, BD.refl, sd.f2.drop.f2.drop.f3.f1.f2.f3⟩
 refine AY F rfl rfl <| Hv F sa m0 0 rfl fun _ F => AY F rfl rfl <| Hv F sa m1 0 rfl fun _ F => AY F rfl rfl ?_
 refine gx F (ZM (xs := (jI p0.1 :: jI p0.2.1 :: Bb p0.2.2)) (ys := (jI (((BJ a0.frames a1).getD (⟨(0 : Int), (0 : Int), (Vector.replicate 24 (0 : UInt8))⟩ : A3)).Locals) :: jI (((BJ a0.frames a1).getD (⟨(0 : Int), (0 : Int), (Vector.replicate 24 (0 : UInt8))⟩ : A3)).Height) :: Bb (((BJ a0.frames a1).getD (⟨(0 : Int), (0 : Int), (Vector.replicate 24 (0 : UInt8))⟩ : A3)).Slots))) Qu (by decide) rfl rfl (SB Qu Y3 (Ax rfl (Aw Cn rfl) (Aw Cn rfl) (EqAt.up (j := 2) (Nb underlying3) (by decide)) (Ax rfl (Aw Cn rfl) (Aw Cn rfl) (EqAt.up (j := 2) (Nb underlying3) (by decide)) (Ax rfl (UW Nu (SX (pre := [jI p0.1, jI p0.2.1]) rfl rfl) (by simp)) (UW Nu (SX (pre := [jI (((BJ a0.frames a1).getD (⟨(0 : Int), (0 : Int), (Vector.replicate 24 (0 : UInt8))⟩ : A3)).Locals), jI (((BJ a0.frames a1).getD (⟨(0 : Int), (0 : Int), (Vector.replicate 24 (0 : UInt8))⟩ : A3)).Height)]) rfl rfl) (by simp)) (EqAt.up (j := 2) (Ym Gb underlying48 ZF) (by decide)) SU))))) 3 rfl rfl fun _ F => ?_
 refine Be F H 1 8 rfl rfl rfl (fun h4 H _ F => ?_) (fun h4 H _ F => ?_)
 ·refine Dk BL sa.f3.drop ?_
  refine hq [0, 1, 2, 3, 4, 5] F sa.drew.f3.drop (QI.ev 3 rfl <| QI.ld m2 rfl <| QI.ev 1 rfl <| QI.op rfl (fun _ hC => Ar BI rfl (hC.Do m0 (o := 0) (ds := (jI p0.1 :: jI p0.2.1 :: Bb p0.2.2)) (Mj (pre := []) rfl rfl)) (by simp)) rfl <| QI.nil) (by kernel_rfl) fun _ F => ?_
  refine ho 6 rfl (by kernel_rfl) ?_
  refine IQ (k := a1) (u := (⟨p0.1, p0.2.1, p0.2.2⟩ : A3)) F sa.drew.f3 underlying150 FM rfl rfl rfl fun wb _ F se => gw 1 F rfl fun _ F => ⟨se.drop, ?_⟩
  refine Ea (by kernel_rfl) ?_
  refine ge 5 F rfl fun _ F => AV F se m3 1 rfl fun _ F => gx F (Af (vs := []) Q9 Uf rfl (cs := []) (rfl)) 0 rfl rfl fun _ F => IQ (k := a1) (u := ()) F se.f4 underlying151 FM rfl rfl rfl fun wc _ F sf => ?_
  cases H
  exact gw 8 F rfl fun _ F => rt F ⟨v0_0, v0_1, v0_3, rfl, BD.refl, BD.refl, BD.refl, sf.f2.drop.f2.drop.f3.f1.f2.f3⟩
 cases H
 exact rt F ⟨v0_0, v0_1, v0_3, rfl, BD.refl, BD.refl, BD.refl, sa.drop.drop⟩
theorem NR {w : World} {FF : List Nat} {g1 : Nat} {v1_0 : Value} {a0 : Int} {a1 : List UInt8} {r : Int × (List UInt8)} (hst : Ba [AB g1 42 [v1_0]] w FF) (hr1_0 : Rd Ty.u8 w FF v1_0 a1) (H : Gr a0 a1 = some r) :
    Calls prog 75 #[jI a0, jP g1] w (B8 fun u_ w_ => ∃ u0 : Value, u_ = jI r.1 ∧ BD Ty.u8 v1_0 a1 u0 r.2 ∧ SL w FF w_ [AB g1 42 [u0]]) := by
 have s0 : SL w FF w [AB g1 42 [v1_0]] := SL.init w FF hst
 refine Cb func75 ntmps75 13 rfl rfl rfl fun _ F4 => ?_
 unfold Gr at H
 obtain ⟨x0, h0, H⟩ := Aa H
 obtain ⟨v0, h1, h2⟩ := YC (EZ hr1_0 s0) ET rfl h0 none (some a0) (.inr ⟨rfl, rfl⟩) (.inl rfl)
 have h3 := BD.refl.trans h2
 have h4 := BD.rd h2 hr1_0
 refine AV F4 s0 m0 1 rfl fun _ F => gx F (h1 _ _ _ _ _ .i64 .i64 _ _ _ _ _ rfl trivial rfl) 0 rfl rfl fun _ F => ?_
 obtain ⟨o0, H0, R0⟩ := Aa H
 clear H
 refine gx F (Ak rfl underlying42 (fR h4 s0)) 3 rfl rfl fun _ F => Cx (fun a w_ => Fr a 30 [(0, jI a0), (1, jP g1), (4, jI o0)] ∧ SL w FF w_ [AB g1 42 [v1_0]]) ?_ ?_
 ·have H := H0
  refine gc 1 F rfl fun _ F => E6 (Ew x0) (fun s1 a w_ => Fr a 30 [(0, jI a0), (1, jP g1), (4, jI s1.1), (9, v0), (10, jI (x0.length : Int)), (11, jI s1.2)] ∧ SL w FF w_ [AB g1 42 [v1_0]]) H ?_ ?_
  ·exact ⟨F.sb, s0⟩
  intro s1 _ w0 h5 o1 H hr
  obtain ⟨F, s2⟩ := h5
  replace H : Ew x0 s1 = some o1 := H
  unfold Ew at H
  refine gc 6 F rfl fun _ F => Be F H 6 4 rfl rfl rfl (fun h6 H _ F => ?_) (fun h6 H _ F => ?_)
  ·obtain ⟨x1, h7, H⟩ := Aa H
   obtain ⟨a2, h8, h9⟩ := Lm Flat.u8 (EZ h4 s2) ET rfl h7
   refine gi F h8 0 rfl fun _ F => gx F (As SI rfl (Cells.at_ h9 (o := 0) rfl)) 5 rfl rfl fun _ F => gx F (Aj9 rfl rfl rfl) 1 rfl rfl fun _ F => gx F (TS rfl underlying5 underlying3) 0 rfl rfl fun _ F => ?_
   cases H
   exact gx F (Akx rfl rfl) 8 rfl rfl fun _ F => ⟨_, rfl, F.sb, s2⟩
  cases H
  obtain rfl := hr _ rfl
  exact ⟨F.sb, s2⟩
 intro _ w1 hJ
 obtain ⟨F, s3⟩ := hJ
 have H := R0
 clear R0 H0
 obtain ⟨x2, ha, H⟩ := Aa H
 obtain ⟨v1, hb, hc⟩ := YC (EZ hr1_0 s3) ET rfl ha (some a0) none (.inl rfl) (.inr ⟨rfl, rfl⟩)
 have hd := BD.refl.trans hc
 have he := BD.rd hc hr1_0
 refine ge 3 F rfl fun _ F => AV F s3 m0 1 rfl fun _ F => gx F (hb _ _ _ _ _ .i64 .i64 _ _ _ _ _ rfl rfl trivial) 0 rfl rfl fun _ F => Au F s3 rfl rfl Zw (Ae (fR he s3)) (Ap (fR he s3)) rfl fun w2 _ F s4 => gw 9 F rfl fun _ F => Be F H 3 9 rfl rfl rfl (fun hf H _ F => ?_) (fun hf H _ F => ?_)
 ·refine gx F (Ow rfl underlying3 underlying21) 0 rfl rfl fun _ F => ?_
  cases H
  exact gx F (Ow rfl underlying21 underlying3) 5 rfl rfl fun _ F => rt F ⟨v1, rfl, hd, s4⟩
 cases H
 exact rt F ⟨v1, rfl, hd, s4⟩
theorem QM {w : World} {v0 : Value} {a0 : List UInt8} {a1 : Int} {r : AA × Int} (hr0 : Rd Ty.u8 w [] v0 a0) (H : Ed a0 a1 = some r) :
    Calls prog 48 #[v0, jI a1] w (B8 fun u_ w_ => u_ = .tuple ⟨[.agg ⟨[jI r.1.At, jU (r.1.Op.toNat : Int), jI r.1.A, jI r.1.B]⟩, jI r.2]⟩ ∧ SL w [] w_ []) := by
 have s0 : SL w [] w [] := SL.BF w
 refine Cb func48 ntmps48 2 rfl rfl rfl fun _ F0 => ?_
 unfold Ed at H
 refine Ag F0 s0 IL rfl rfl fun g8 w9 _ F s1 => gw 5 F rfl fun _ F => gx F (Af (vs := []) IL Aae rfl (cs := [jI 0, jU 0, jI 0, jI 0]) (rfl)) 0 rfl rfl fun _ F => Ag F s1 IL rfl rfl fun g0 w0 _ F s2 => Ah F s2 rfl rfl GH (Ab rfl (Ab rfl (Ab rfl (Ab rfl Al)))) (Ac rfl) fun w1 _ F s3 => gw 9 F rfl fun _ F => Cp 16 F H (fun h0 H F => ?_) (fun h0 H F => ?_)
 ·refine gw 11 F rfl fun _ F => AV F s3 m0 0 rfl fun _ F => Ah F s3.f1 rfl rfl GH (Ab rfl (Ab rfl (Ab rfl (Ab rfl Al)))) (Ac rfl) fun w2 _ F s4 => ?_
  cases H
  refine gw 6 F rfl fun _ F => ?_
  refine Aj (rs := [.cell 4 79, .tmp 5]) (vs := [.agg ⟨[jI 0, jU 0, jI 0, jI 0]⟩, jI 1]) F (by rfl) ⟨_, _, rfl, Am s4 m0 rfl Fh rfl, _, _, rfl, An rfl, rfl⟩ ⟨_, rfl, ⟨rfl, s4.drop.drop⟩⟩
 refine gw 2 F rfl fun _ F => AY F rfl rfl <| gx F (Ak rfl underlying42 (fR hr0 s3)) 5 rfl rfl fun _ F => Be F H 2 4 rfl rfl rfl (fun h1 H _ F => ?_) (fun h1 H _ F => ?_)
 ·refine AV F s3 m0 0 rfl fun _ F => Ah F s3.f1 rfl rfl GH (Ab rfl (Ab rfl (Ab rfl (Ab rfl Al)))) (Ac rfl) fun w3 _ F s5 => ?_
  cases H
  refine gw 6 F rfl fun _ F => ?_
  refine Aj (rs := [.cell 4 79, .tmp 5]) (vs := [.agg ⟨[jI 0, jU 0, jI 0, jI 0]⟩, jI 1]) F (by rfl) ⟨_, _, rfl, Am s5 m0 rfl Fh rfl, _, _, rfl, An rfl, rfl⟩ ⟨_, rfl, ⟨rfl, s5.drop.drop⟩⟩
 refine gx F (Ak rfl underlying42 (fR hr0 s3)) 4 rfl rfl fun _ F => Be F H 2 4 rfl rfl rfl (fun h2 H _ F => ?_) (fun h2 H _ F => ?_)
 ·refine AV F s3 m0 0 rfl fun _ F => Ah F s3.f1 rfl rfl GH (Ab rfl (Ab rfl (Ab rfl (Ab rfl Al)))) (Ac rfl) fun w4 _ F s6 => ?_
  cases H
  refine gw 6 F rfl fun _ F => ?_
  refine Aj (rs := [.cell 4 79, .tmp 5]) (vs := [.agg ⟨[jI 0, jU 0, jI 0, jI 0]⟩, jI 2]) F (by rfl) ⟨_, _, rfl, Am s6 m0 rfl Fh rfl, _, _, rfl, An rfl, rfl⟩ ⟨_, rfl, ⟨rfl, s6.drop.drop⟩⟩
 obtain ⟨x0, h3, H⟩ := Aa H
 obtain ⟨a2, h4, h5⟩ := Lm Flat.u8 (EZ hr0 s3) ET rfl h3
 obtain ⟨x1, h6, H⟩ := Aa H
 refine gi F h4 0 rfl fun _ F => gx F (As SI rfl (Cells.at_ h5 (o := 0) rfl)) 0 rfl rfl fun _ F => BW F s3 (Jf h6) 4 rfl rfl rfl rfl fun w5 _ F s7 => Be F H 2 3 rfl rfl rfl (fun h7 H _ F => ?_) (fun h7 H _ F => ?_)
 ·refine AV F s7 m0 0 rfl fun _ F => Ah F s7.f1 rfl rfl GH (Ab rfl (Ab rfl (Ab rfl (Ab rfl Al)))) (Ac rfl) fun w6 _ F s8 => ?_
  cases H
  refine gw 6 F rfl fun _ F => ?_
  refine Aj (rs := [.cell 4 79, .tmp 5]) (vs := [.agg ⟨[jI 0, jU 0, jI 0, jI 0]⟩, jI 40]) F (by rfl) ⟨_, _, rfl, Am s8 m0 rfl Fh rfl, _, _, rfl, An rfl, rfl⟩ ⟨_, rfl, ⟨rfl, s8.drop.drop⟩⟩
 obtain ⟨x2, h8, H⟩ := Aa H
 obtain ⟨a3, h9, ha⟩ := Lm Flat.u8 (EZ hr0 s7) ET rfl h8
 obtain ⟨x3, hb, H⟩ := Aa H
 refine gx F (Ak rfl underlying42 (fR hr0 s7)) 4 rfl rfl fun _ F => gi F h9 0 rfl fun _ F => gx F (As SI rfl (Cells.at_ ha (o := 0) rfl)) 0 rfl rfl fun _ F => BW F s7 (Jf hb) 4 rfl rfl rfl rfl fun w7 _ F s9 => Be F H 2 8 rfl rfl rfl (fun hc H _ F => ?_) (fun hc H _ F => ?_)
 ·refine AV F s9 m0 0 rfl fun _ F => Ah F s9.f1 rfl rfl GH (Ab rfl (Ab rfl (Ab rfl (Ab rfl Al)))) (Ac rfl) fun w8 _ F sa => ?_
  cases H
  refine gw 6 F rfl fun _ F => ?_
  refine Aj (rs := [.cell 4 79, .tmp 5]) (vs := [.agg ⟨[jI 0, jU 0, jI 0, jI 0]⟩, jI 2]) F (by rfl) ⟨_, _, rfl, Am sa m0 rfl Fh rfl, _, _, rfl, An rfl, rfl⟩ ⟨_, rfl, ⟨rfl, sa.drop.drop⟩⟩
 obtain ⟨x4, hd, H⟩ := Aa H
 obtain ⟨a4, he, hf⟩ := Lm Flat.u8 (EZ hr0 s9) ET rfl hd
 refine gi F he 0 rfl fun _ F => gx F (As SI rfl (Cells.at_ hf (o := 0) rfl)) 0 rfl rfl fun _ F => gx F (Af (vs := [jI a1, jU (x4.toNat : Int)]) IL Aae rfl (cs := [jI a1, jU (x4.toNat : Int), jI 0, jI 0]) (rfl)) 0 rfl rfl fun _ F => Ag F s9 IL rfl rfl fun g1 wa _ F sb => Ah F sb rfl rfl GH (Ab rfl (Ab rfl (Ab rfl (Ab rfl Al)))) (Ac rfl) fun wb _ F sc => ?_
 obtain ⟨x5, hg, H⟩ := Aa H
 obtain ⟨v1, hh, hi⟩ := Rd.cut hr0 ET rfl hg (some (wr (a1 + 1))) none (.inl rfl) (.inr ⟨rfl, rfl⟩)
 refine gw 7 F rfl fun _ F => gx F (hh _ _ _ _ _ .i64 .i64 _ _ _ _ _ rfl rfl trivial) 0 rfl rfl fun _ F => Ag F sc Acz rfl rfl fun g2 wc _ F sd => Au F sd rfl rfl Zw (Ae (fR hi sd)) (Ap (fR hi sd)) rfl fun wd _ F se => gw 4 F rfl fun _ F => ?_
 obtain ⟨x6, hj, H⟩ := Aa H
 refine gx F (Eg (cs := [.tmp 8]) (vs := [jP g2]) rfl) 6 rfl rfl fun _ F => AV F se m1 0 rfl fun _ F => BW F se (QK hj) 11 rfl rfl rfl rfl fun we _ F sf => ?_
 obtain ⟨x7, hk, H⟩ := Aa H
 obtain ⟨G0, hl, hm, hn, ho⟩ := SL.open_ (ps := [AB g2 42 [v1]]) (rest := [AB g1 79 [jI a1, jU (x4.toNat : Int), jI 0, jI 0], AB g0 79 [jI 0, jU 0, jI 0, jI 0], AB g8 79 [jI 0, jU 0, jI 0, jI 0]]) sf
 refine El (args := [.tmp 67]) F ZT rfl rfl (NR (a0 := x6.1) (a1 := x5) hl (hi.pass sf hm) hk) rfl fun v2 wf _ hp F => ?_
 obtain ⟨v3, rfl, hq, hr⟩ := hp
 have sg := ho _ _ hr
 have hs := BD.rd hq hi
 refine gw 1 F rfl fun _ F => Au F sg.f1 rfl rfl JK rfl rfl rfl fun wg _ F sh => ?_
 obtain ⟨x8, ht, H⟩ := Aa H
 obtain ⟨G1, hu, hv, hw, hx⟩ := SL.open_ (ps := [AB g2 42 [v3]]) (rest := [AB g1 79 [jI a1, jU (x4.toNat : Int), jI x7.1, jI 0], AB g0 79 [jI 0, jU 0, jI 0, jI 0], AB g8 79 [jI 0, jU 0, jI 0, jI 0]]) sh.f1
 refine gw 6 F rfl fun _ F => ?_
 refine El (args := [.tmp 71]) F ZT rfl rfl (NR (a0 := x6.2) (a1 := x7.2) hu (hs.pass sh.f1 hv) ht) rfl fun v4 wh _ hy F => ?_
 obtain ⟨v5, rfl, hz, h10⟩ := hy
 have si := hx _ _ h10
 have h11 := BD.rd hz hs
 refine gw 1 F rfl fun _ F => Au F si.f1 rfl rfl JK rfl rfl rfl fun wi _ F sj => gw 6 F rfl fun _ F => AV F sj m0 2 rfl fun _ F => Cp 77 F H (fun h12 H F => ?_) (fun h12 H F => ?_)
 ·refine gw 1 F rfl fun _ F => AY F rfl rfl <| AV F sj m0 4 rfl fun _ F => Be F H 2 4 rfl rfl rfl (fun h13 H _ F => ?_) (fun h13 H _ F => ?_)
  ·refine AV F sj m2 0 rfl fun _ F => Ah F sj.f3 rfl rfl GH (Ab rfl (Ab rfl (Ab rfl (Ab rfl Al)))) (Ac rfl) fun wj _ F sk => ?_
   cases H
   refine gw 5 F rfl fun _ F => ?_
   refine Aj (rs := [.cell 4 79, .tmp 5]) (vs := [.agg ⟨[jI 0, jU 0, jI 0, jI 0]⟩, jI 5]) F (by rfl) ⟨_, _, rfl, Am sk m0 rfl Fh rfl, _, _, rfl, An rfl, rfl⟩ ⟨_, rfl, ⟨rfl, sk.drop.drop.drop.drop⟩⟩
  refine AV F sj m0 0 rfl fun _ F => Ah F sj.f3 rfl rfl GH (Ab rfl (Ab rfl (Ab rfl (Ab rfl Al)))) (Ac rfl) fun wk _ F sl => ?_
  cases H
  refine gw 4 F rfl fun _ F => ?_
  refine Aj (rs := [.cell 4 79, .tmp 5]) (vs := [.agg ⟨[jI a1, jU (x4.toNat : Int), jI x7.1, jI x8.1]⟩, jI 0]) F (by rfl) ⟨_, _, rfl, Am sl m0 rfl Fh rfl, _, _, rfl, An rfl, rfl⟩ ⟨_, rfl, ⟨rfl, sl.drop.drop.drop.drop⟩⟩
 refine gw 11 F rfl fun _ F => AV F sj m0 0 rfl fun _ F => Ah F sj.f3 rfl rfl GH (Ab rfl (Ab rfl (Ab rfl (Ab rfl Al)))) (Ac rfl) fun wl _ F sm => ?_
 cases H
 refine gw 4 F rfl fun _ F => ?_
 refine Aj (rs := [.cell 4 79, .tmp 5]) (vs := [.agg ⟨[jI a1, jU (x4.toNat : Int), jI x7.1, jI x8.1]⟩, jI 0]) F (by rfl) ⟨_, _, rfl, Am sm m0 rfl Fh rfl, _, _, rfl, An rfl, rfl⟩ ⟨_, rfl, ⟨rfl, sm.drop.drop.drop.drop⟩⟩
theorem Tl {w : World} {a0 : UInt8} {r : Bool} (H : Mf a0 = some r) :
    Calls prog 88 #[jU (a0.toNat : Int)] w (B8 fun u_ w_ => u_ = .bool r ∧ SL w [] w_ []) := by
 have s0 : SL w [] w [] := SL.BF w
 refine Cb func88 ntmps88 10 rfl rfl rfl fun _ F => ?_
 unfold Mf at H
 refine Cp 5 F H (fun h0 H F => ?_) (fun h0 H F => ?_)
 ·cases H
  exact gw 11 F rfl fun _ F => rt F ⟨rfl, s0⟩
 refine gw 4 F rfl fun _ F => Cp 9 F H (fun h1 H F => ?_) (fun h1 H F => ?_)
 ·cases H
  exact gw 7 F rfl fun _ F => rt F ⟨rfl, s0⟩
 cases H
 exact gw 7 F rfl fun _ F => rt F ⟨rfl, s0⟩
theorem O9 {w : World} {a0 : UInt8} {r : Bool} (H : JE a0 = some r) :
    Calls prog 89 #[jU (a0.toNat : Int)] w (B8 fun u_ w_ => u_ = .bool r ∧ SL w [] w_ []) := by
 have s0 : SL w [] w [] := SL.BF w
 refine Cb func89 ntmps89 10 rfl rfl rfl fun _ F8 => ?_
 unfold JE at H
 refine Cp 5 F8 H (fun hb9 H F => ?_) (fun hb9 H F => ?_)
 ·cases H
  exact gw 7 F rfl fun _ F => rt F ⟨rfl, s0⟩
 cases H
 exact gw 7 F rfl fun _ F => rt F ⟨rfl, s0⟩
theorem P2 {w : World} {FF : List Nat} {g0 g0_4 g0_5 g0_6 : Nat} {v0_0 v0_1 v0_3 : Value} {a0 : AM} {a1 : Int} {r : Int × AM} (hst : Ba [AB g0 154 [v0_0, v0_1, jI a0.e.Fn, v0_3, .map (some g0_4), .map (some g0_5), .map (some g0_6), jI a0.B2], Mp (Value.int .i64) (fun x : A3 => Value.agg ⟨(jI x.Locals :: jI x.Height :: Bb x.Slots)⟩) g0_4 a0.frames, Mp (Value.int .i64) (fun _ : Unit => Value.agg ⟨[]⟩) g0_5 a0.fresh, Mp (Value.int .i64) (Value.int .i64) g0_6 a0.taken] w FF) (hr0_0 : Rd AL w FF v0_0 a0.e.Classes) (hr0_1 : Rd Bs w FF v0_1 a0.e.AP) (hr0_3 : Rd Ty.u8 w FF v0_3 a0.code) (H : FH a0 a1 = some r) :
    Calls prog 105 #[jP g0, jI a1] w (B8 fun u_ w_ => ∃ u0 u1 u2 : Value, u_ = jI r.1 ∧ BD AL v0_0 a0.e.Classes u0 r.2.e.Classes ∧ BD Bs v0_1 a0.e.AP u1 r.2.e.AP ∧ BD Ty.u8 v0_3 a0.code u2 r.2.code ∧ SL w FF w_ [AB g0 154 [u0, u1, jI r.2.e.Fn, u2, .map (some g0_4), .map (some g0_5), .map (some g0_6), jI r.2.B2], Mp (Value.int .i64) (fun x : A3 => Value.agg ⟨(jI x.Locals :: jI x.Height :: Bb x.Slots)⟩) g0_4 r.2.frames, Mp (Value.int .i64) (fun _ : Unit => Value.agg ⟨[]⟩) g0_5 r.2.fresh, Mp (Value.int .i64) (Value.int .i64) g0_6 r.2.taken]) := by
 have s0 : SL w FF w [AB g0 154 [v0_0, v0_1, jI a0.e.Fn, v0_3, .map (some g0_4), .map (some g0_5), .map (some g0_6), jI a0.B2], Mp (Value.int .i64) (fun x : A3 => Value.agg ⟨(jI x.Locals :: jI x.Height :: Bb x.Slots)⟩) g0_4 a0.frames, Mp (Value.int .i64) (fun _ : Unit => Value.agg ⟨[]⟩) g0_5 a0.fresh, Mp (Value.int .i64) (Value.int .i64) g0_6 a0.taken] := SL.init w FF hst
 refine Cb func105 ntmps105 11 rfl rfl rfl fun _ F9 => ?_
 unfold FH at H
 refine Au F9 s0 rfl rfl JK rfl rfl rfl fun w0 _ F s1 => gw 9 F rfl fun _ F => AV F s1 m0 0 rfl fun _ F => gx F (Ak rfl underlying42 (fR hr0_3 s1)) 3 rfl rfl fun _ F => Be F H 7 7 rfl rfl rfl (fun h0 H _ F => ?_) (fun h0 H _ F => ?_)
 ·cases H
  exact rt F ⟨v0_0, v0_1, v0_3, rfl, BD.refl, BD.refl, BD.refl, s1⟩
 obtain ⟨x0, h1, H⟩ := Aa H
 refine AV F s1 m0 1 rfl fun _ F => BW F s1 (QM (hr0_3.Bp s1) h1) 3 rfl rfl rfl rfl fun w1 _ F s2 => Ag F s2 IL rfl rfl fun g1 w2 _ F s3 => Ah F s3 rfl rfl GH (Ab rfl (Ab rfl (Ab rfl (Ab rfl Al)))) (Ac rfl) fun w3 _ F s4 => gw 10 F rfl fun _ F => Be F H 8 6 rfl rfl rfl (fun h2 H _ F => ?_) (fun h2 H _ F => ?_)
 ·cases H
  exact rt F ⟨v0_0, v0_1, v0_3, rfl, BD.refl, BD.refl, BD.refl, s4.drop⟩
 obtain ⟨x1, h3, H⟩ := Aa H
 refine AV F s4 m0 0 rfl fun _ F => ?_
 have s5 := s4.f4.f4.f4.f4
 obtain ⟨G0, h4, h5, h6, h7⟩ := SL.open_ (ps := [AB g0 154 [v0_0, v0_1, jI a0.e.Fn, v0_3, .map (some g0_4), .map (some g0_5), .map (some g0_6), jI a1], Mp (Value.int .i64) (fun x : A3 => Value.agg ⟨(jI x.Locals :: jI x.Height :: Bb x.Slots)⟩) g0_4 a0.frames, Mp (Value.int .i64) (fun _ : Unit => Value.agg ⟨[]⟩) g0_5 a0.fresh, Mp (Value.int .i64) (Value.int .i64) g0_6 a0.taken]) (rest := [AB g1 79 [jI x0.1.At, jU (x0.1.Op.toNat : Int), jI x0.1.A, jI x0.1.B]]) s5
 refine Ei F (Qd (a0 := (⟨(⟨a0.e.Classes, a0.e.AP, a0.e.Fn⟩ : AD), a0.code, a0.frames, a0.fresh, a0.taken, a1⟩ : AM)) h4 (hr0_0.pass s5 h5) (hr0_1.pass s5 h5) (hr0_3.pass s5 h5) h3) fun v0 w4 _ h8 F => ?_
 obtain ⟨v1, v2, v3, rfl, h9, ha, hb, hc⟩ := h8
 have s6 := h7 _ _ hc
 have hd := BD.rd h9 hr0_0
 have he := BD.trans BD.refl h9
 have hf := BD.rd ha hr0_1
 have hg := BD.trans BD.refl ha
 have hh := BD.rd hb hr0_3
 have hi := BD.trans BD.refl hb
 refine gw 3 F rfl fun _ F => Be F H 7 3 rfl rfl rfl (fun hj H _ F => ?_) (fun hj H _ F => ?_)
 ·cases H
  exact rt F ⟨v1, v2, v3, rfl, he, hg, hi, s6.f4.drop⟩
 obtain ⟨x2, hk, H⟩ := Aa H
 refine Dk BL s6 ?_
 have s7 := s6.drew
 refine hq [0, 1, 2, 3, 4, 5, 6, 7, 8, 9, 10] F s7 (QI.ev 3 rfl <| QI.op rfl (fun _ hC => Ar Pt rfl (hC.Do m0 (o := 0) (ds := [v1, v2, jI x1.2.e.Fn]) (TB _ rfl)) rfl) rfl <| QI.ev 3 rfl <| QI.ld m0 rfl <| QI.ev 1 rfl <| QI.op rfl (fun _ hC => Wa (k := a1) (z0 := (⟨(0 : Int), (0 : Int), (Vector.replicate 24 (0 : UInt8))⟩ : A3)) hC m1 underlying150 FM Uj rfl rfl) rfl <| QI.ld m4 rfl <| QI.nil) (by kernel_rfl) fun _ F => ?_
 refine Jb [0, 1, 2, 3, 4, 5, 6, 7, 8, 9, 10, 11, 12, 13, 14, 15, 16] (fun a w_ => ∃ g2 : Nat, Fr a 111 [(0, jP g0), (1, jI a1), (5, jP g1), (6, jI x0.2), (7, jP g2), (54, jI x2.2)] ∧ SL w FF w_ [AB g0 154 [v1, v2, jI x1.2.e.Fn, v3, .map (some g0_4), .map (some g0_5), .map (some g0_6), jI x1.2.B2], Mp (Value.int .i64) (fun x : A3 => Value.agg ⟨(jI x.Locals :: jI x.Height :: Bb x.Slots)⟩) g0_4 x1.2.frames, Mp (Value.int .i64) (fun _ : Unit => Value.agg ⟨[]⟩) g0_5 x1.2.fresh, Mp (Value.int .i64) (Value.int .i64) g0_6 x1.2.taken, AB g1 79 [jI x0.1.At, jU (x0.1.Op.toNat : Int), jI x0.1.A, jI x0.1.B], AB g2 118 (jI x2.1.Locals :: jI x2.1.Height :: Bb x2.1.Slots)]) ?_ fun hD0 => ?_
 ·rintro a w_ ⟨g2, F, s8⟩
  refine hq [17] F s8.f5.drop (QI.ev 1 rfl <| QI.nil) (by kernel_rfl) fun _ F => ?_
  refine Ea (by kernel_rfl) ?_
  refine ge 8 F rfl fun _ F => Be F H 8 11 rfl rfl rfl (fun hl H _ F => ?_) (fun hl H _ F => ?_)
  ·cases H
   exact rt F ⟨v1, v2, v3, rfl, he, hg, hi, s8.f4.drop.f4.drop⟩
  obtain ⟨x3, hm, H⟩ := Aa H
  refine AV F s8 m4 0 rfl fun _ F => BW F s8 (Jf hm) 5 rfl rfl rfl rfl fun w5 _ F s9 => ?_
  obtain ⟨o0, H0, R0⟩ := Aa H
  clear H
  refine Cx (fun a w_ => ∃ p0 : (List Int), o0 = .inr (p0) ∧ ∃ v4 : Value, Fr a 111 [(0, jP g0), (5, jP g1), (7, jP g2), (8, v4), (9, jI (wr (a1 + x3)))] ∧ SL w FF w_ [AB g0 154 [v1, v2, jI x1.2.e.Fn, v3, .map (some g0_4), .map (some g0_5), .map (some g0_6), jI x1.2.B2], Mp (Value.int .i64) (fun x : A3 => Value.agg ⟨(jI x.Locals :: jI x.Height :: Bb x.Slots)⟩) g0_4 x1.2.frames, Mp (Value.int .i64) (fun _ : Unit => Value.agg ⟨[]⟩) g0_5 x1.2.fresh, Mp (Value.int .i64) (Value.int .i64) g0_6 x1.2.taken, AB g1 79 [jI x0.1.At, jU (x0.1.Op.toNat : Int), jI x0.1.A, jI x0.1.B], AB g2 118 (jI x2.1.Locals :: jI x2.1.Height :: Bb x2.1.Slots), Sl (Ty.int .i64) v4 p0]) ?_ ?_
  ·have H := H0
   obtain ⟨x4, hn, H⟩ := Aa H
   refine gc 3 F rfl fun _ F => AV F s9 m4 0 rfl fun _ F => BW F s9 (O9 hn) 2 rfl rfl rfl rfl fun w6 _ F sa => Be F H 2 1 rfl rfl rfl (fun hp H _ F => ?_) (fun hp H _ F => ?_)
   ·refine V5 BL sa F (QR.ev 1 rfl <| QR.ld m4 rfl <| QR.ev 3 rfl <| QR.ld m0 rfl <| QR.qo (fun _ hC => Ak rfl underlying42 (H7 (EZ hh hC))) rfl <| QR.ev 1 rfl <| QR.nil) fun w7 _ sc F => ge 1 F rfl fun _ F => Be F H 9 5 rfl rfl rfl (fun hs H _ F => ?_) (fun hs H _ F => ?_)
    ·cases H
     replace H := R0
     try dsimp only at H
     cases H
     exact rt F ⟨v1, v2, v3, rfl, he, hg, hi, sc.f4.drop.f4.drop⟩
    refine AV F sc m4 0 rfl fun _ F => ?_
    refine Ad (parts := [(0, .tmp 76)]) (Flat.int .i64) ([x0.1.A] : List Int) F sc BC rfl (by decide) rfl rfl rfl (by simp [Value.cells]) rfl rfl rfl fun v5 w8 _ F sd => ?_
    obtain ⟨x5, ht, H⟩ := Aa H
    have se := (SL.Ca (T := (Ty.int .i64)) sd)
    obtain ⟨_, hr_⟩ := (se.BO m1)
    refine Aq (Flat.int .i64) F se BC rfl rfl rfl rfl hr_ rfl rfl ht rfl fun v6 w9 _ F sf => ?_
    have s580' := sf.f1.drop
    cases H
    exact gw 2 F rfl fun _ F => ⟨_, rfl, v6, F.sb, s580'.f6.f6.f6.f6.f6.f6⟩
   cases H
   exact ⟨_, rfl, (.slice none 0 0), F.sb, (SL.Ca (T := (Ty.int .i64)) sa).f6.f6.f6.f6.f6.f6⟩
  intro _ wa hJ
  obtain ⟨p0, rfl, v4, F, sg⟩ := hJ
  have H := R0
  clear R0 H0
  try dsimp only at H
  obtain ⟨o1, H1, R1⟩ := Aa H
  clear H
  refine ge 2 F rfl fun _ F => Cx (fun a w_ => ∃ p1 : (List Int), o1 = .inr (p1) ∧ ∃ v7 : Value, Fr a 111 [(0, jP g0), (7, jP g2), (8, v7)] ∧ SL w FF w_ [AB g0 154 [v1, v2, jI x1.2.e.Fn, v3, .map (some g0_4), .map (some g0_5), .map (some g0_6), jI x1.2.B2], Mp (Value.int .i64) (fun x : A3 => Value.agg ⟨(jI x.Locals :: jI x.Height :: Bb x.Slots)⟩) g0_4 x1.2.frames, Mp (Value.int .i64) (fun _ : Unit => Value.agg ⟨[]⟩) g0_5 x1.2.fresh, Mp (Value.int .i64) (Value.int .i64) g0_6 x1.2.taken, AB g2 118 (jI x2.1.Locals :: jI x2.1.Height :: Bb x2.1.Slots), Sl (Ty.int .i64) v7 p1]) ?_ ?_
  ·have H := H1
   obtain ⟨x6, hu, H⟩ := Aa H
   refine gc 3 F rfl fun _ F => AV F sg m4 0 rfl fun _ F => BW F sg (Tl hu) 3 rfl rfl rfl rfl fun wb _ F sh => Be F H 7 1 rfl rfl rfl (fun hv H _ F => ?_) (fun hv H _ F => ?_)
   ·refine AV F sh m0 0 rfl fun _ F => gx F (Ak rfl underlying42 (fR hh sh)) 3 rfl rfl fun _ F => Be F H 9 5 rfl rfl rfl (fun hw H _ F => ?_) (fun hw H _ F => ?_)
    ·cases H
     replace H := R1
     try dsimp only at H
     cases H
     exact rt F ⟨v1, v2, v3, rfl, he, hg, hi, sh.f4.drop.f4.drop.f4.drop⟩
    refine Ad (parts := [(0, .tmp 91)]) (Flat.int .i64) ([wr (a1 + x3)] : List Int) F sh BC rfl (by decide) rfl rfl rfl (by simp [Value.cells]) rfl rfl rfl fun v8 wc _ F si => ?_
    obtain ⟨x7, hx, H⟩ := Aa H
    obtain ⟨_, hr_⟩ := (si.f7.BO m1)
    refine Aq (Flat.int .i64) F si.f7 BC rfl rfl rfl rfl hr_ rfl rfl hx rfl fun v9 wd _ F sj => ?_
    have s854' := sj.f1.drop
    cases H
    exact gw 2 F rfl fun _ F => ⟨_, rfl, v9, F.sb, s854'.f5.drop.f5.f5.f5.f5.f5⟩
   cases H
   exact ⟨_, rfl, v4, F.sb, sh.f4.drop⟩
  intro _ we hJ
  obtain ⟨p1, rfl, v7, F, sk⟩ := hJ
  have H := R1
  clear R1 H1
  try dsimp only at H
  obtain ⟨x8, hy, H⟩ := Aa H
  obtain ⟨G1, hz, h10, h11, h12⟩ := SL.open_ (ps := [Sl (Ty.int .i64) v7 p1]) (rest := [AB g0 154 [v1, v2, jI x1.2.e.Fn, v3, .map (some g0_4), .map (some g0_5), .map (some g0_6), jI x1.2.B2], Mp (Value.int .i64) (fun x : A3 => Value.agg ⟨(jI x.Locals :: jI x.Height :: Bb x.Slots)⟩) g0_4 x1.2.frames, Mp (Value.int .i64) (fun _ : Unit => Value.agg ⟨[]⟩) g0_5 x1.2.fresh, Mp (Value.int .i64) (Value.int .i64) g0_6 x1.2.taken, AB g2 118 (jI x2.1.Locals :: jI x2.1.Height :: Bb x2.1.Slots)]) sk.f5
  refine ge 4 F rfl fun _ F => Ai (args := [.tmp 94]) F SD rfl (TR Pq hz hy) rfl fun va wf _ h13 F => ?_
  obtain ⟨rfl, h14⟩ := h13
  have sl := h12 _ _ h14
  obtain ⟨x9, h15, H⟩ := Aa H
  obtain ⟨G2, h16, h17, h18, h19⟩ := SL.open_ (ps := [Sl (Ty.int .i64) v7 x8]) (rest := [AB g0 154 [v1, v2, jI x1.2.e.Fn, v3, .map (some g0_4), .map (some g0_5), .map (some g0_6), jI x1.2.B2], Mp (Value.int .i64) (fun x : A3 => Value.agg ⟨(jI x.Locals :: jI x.Height :: Bb x.Slots)⟩) g0_4 x1.2.frames, Mp (Value.int .i64) (fun _ : Unit => Value.agg ⟨[]⟩) g0_5 x1.2.fresh, Mp (Value.int .i64) (Value.int .i64) g0_6 x1.2.taken, AB g2 118 (jI x2.1.Locals :: jI x2.1.Height :: Bb x2.1.Slots)]) sl
  refine gw 6 F rfl fun _ F => Ai (args := [.tmp 96]) F Zx rfl (Tw RL h16 h15) rfl fun vb wg _ h1a F => ?_
  have sm := h19 _ _ h1a
  obtain ⟨o2, H2, R2⟩ := Aa H
  clear H
  refine gx F (Ak rfl underlying28 (fO sm m0)) 3 rfl rfl fun _ F => Cx (fun a w_ => ∃ p2 : (List A9) × (List Bq) × Int × (List UInt8) × Int × (List (Int × A3)) × (List (Int × Unit)) × (List (Int × Int)), o2 = .inr (p2) ∧ ∃ vc vd ve : Value, Rd AL w FF vc p2.1 ∧ Rd Bs w FF vd p2.2.1 ∧ Rd Ty.u8 w FF ve p2.2.2.2.1 ∧ BD AL v0_0 a0.e.Classes vc p2.1 ∧ BD Bs v0_1 a0.e.AP vd p2.2.1 ∧ BD Ty.u8 v0_3 a0.code ve p2.2.2.2.1 ∧ Fr a 111 [] ∧ SL w FF w_ [AB g0 154 [vc, vd, jI p2.2.2.1, ve, .map (some g0_4), .map (some g0_5), .map (some g0_6), jI p2.2.2.2.2.1], Mp (Value.int .i64) (fun x : A3 => Value.agg ⟨(jI x.Locals :: jI x.Height :: Bb x.Slots)⟩) g0_4 p2.2.2.2.2.2.1, Mp (Value.int .i64) (fun _ : Unit => Value.agg ⟨[]⟩) g0_5 p2.2.2.2.2.2.2.1, Mp (Value.int .i64) (Value.int .i64) g0_6 p2.2.2.2.2.2.2.2]) ?_ ?_
  ·have H := H2
   refine gc 1 F rfl fun _ F => E6 (CP x2 x9) (fun sn a w_ => ∃ vf vg vh : Value, Rd AL w FF vf sn.1 ∧ Rd Bs w FF vg sn.2.1 ∧ Rd Ty.u8 w FF vh sn.2.2.2.1 ∧ BD AL v0_0 a0.e.Classes vf sn.1 ∧ BD Bs v0_1 a0.e.AP vg sn.2.1 ∧ BD Ty.u8 v0_3 a0.code vh sn.2.2.2.1 ∧ Fr a 111 [(0, jP g0), (7, jP g2), (97, vb), (98, jI (x9.length : Int)), (99, jI sn.2.2.2.2.2.2.2.2)] ∧ SL w FF w_ [Sl (Ty.int .i64) vb x9, AB g0 154 [vf, vg, jI sn.2.2.1, vh, .map (some g0_4), .map (some g0_5), .map (some g0_6), jI sn.2.2.2.2.1], Mp (Value.int .i64) (fun x : A3 => Value.agg ⟨(jI x.Locals :: jI x.Height :: Bb x.Slots)⟩) g0_4 sn.2.2.2.2.2.1, Mp (Value.int .i64) (fun _ : Unit => Value.agg ⟨[]⟩) g0_5 sn.2.2.2.2.2.2.1, Mp (Value.int .i64) (Value.int .i64) g0_6 sn.2.2.2.2.2.2.2.1, AB g2 118 (jI x2.1.Locals :: jI x2.1.Height :: Bb x2.1.Slots)]) H ?_ ?_
   ·exact ⟨v1, v2, v3, hd, hf, hh, he, hg, hi, F.sb, sm⟩
   intro sn _ wh h1b o3 H hr
   obtain ⟨vf, vg, vh, h1c, h1d, h1e, h1f, h1g, h1h, F, so⟩ := h1b
   replace H : CP x2 x9 sn = some o3 := H
   unfold CP at H
   refine gc 6 F rfl fun _ F => Be F H 6 4 rfl rfl rfl (fun h1i H _ F => ?_) (fun h1i H _ F => ?_)
   ·obtain ⟨xa, h1j, H⟩ := Aa H
    obtain ⟨a2, h1k, h1l⟩ := Av (Flat.int .i64) so m0 BC rfl h1j
    refine gi F h1k 0 rfl fun _ F => ?_
    obtain ⟨xb, h1m, H⟩ := Aa H
    refine gx F (As Cn rfl (Cells.at_ (SL.CC (Flat.int .i64) so m0 h1l h1j) (o := 0) rfl)) 7 rfl rfl fun _ F => Hv F so m5 0 rfl fun _ F => ?_
    have sp := so.f4.f4.f4.f4
    obtain ⟨G3, h1n, h1o, h1p, h1q⟩ := SL.open_ (ps := [AB g0 154 [vf, vg, jI sn.2.2.1, vh, .map (some g0_4), .map (some g0_5), .map (some g0_6), jI sn.2.2.2.2.1], Mp (Value.int .i64) (fun x : A3 => Value.agg ⟨(jI x.Locals :: jI x.Height :: Bb x.Slots)⟩) g0_4 sn.2.2.2.2.2.1, Mp (Value.int .i64) (fun _ : Unit => Value.agg ⟨[]⟩) g0_5 sn.2.2.2.2.2.2.1, Mp (Value.int .i64) (Value.int .i64) g0_6 sn.2.2.2.2.2.2.2.1]) (rest := [Sl (Ty.int .i64) vb x9, AB g2 118 (jI x2.1.Locals :: jI x2.1.Height :: Bb x2.1.Slots)]) sp
    refine Ei F (P1 (a0 := (⟨(⟨sn.1, sn.2.1, sn.2.2.1⟩ : AD), sn.2.2.2.1, sn.2.2.2.2.2.1, sn.2.2.2.2.2.2.1, sn.2.2.2.2.2.2.2.1, sn.2.2.2.2.1⟩ : AM)) h1n (h1c.pass sp h1o) (h1d.pass sp h1o) (h1e.pass sp h1o) h1m) fun vi wi _ h1r F => ?_
    obtain ⟨vj, vk, vl, rfl, h1s, h1t, h1u, h1v⟩ := h1r
    have sq := h1q _ _ h1v
    have h1w := BD.rd h1s h1c
    have h1x := BD.trans h1f h1s
    have h1y := BD.rd h1t h1d
    have h1z := BD.trans h1g h1t
    have h20 := BD.rd h1u h1e
    have h21 := BD.trans h1h h1u
    refine gw 9 F rfl fun _ F => Be F H 13 7 rfl rfl rfl (fun h22 H _ F => ?_) (fun h22 H _ F => ?_)
    ·cases H
     obtain rfl := hr _ rfl
     replace H := R2
     try dsimp only at H
     cases H
     exact rt F ⟨vj, vk, vl, rfl, h1x, h1z, h21, sq.f4.drop.f4.drop⟩
    cases H
    exact ⟨_, rfl, vj, vk, vl, h1w, h1y, h20, h1x, h1z, h21, F.sb, sq.f5.f4.f4.f4.f4.f5⟩
   cases H
   obtain rfl := hr _ rfl
   exact ⟨_, rfl, vf, vg, vh, h1c, h1d, h1e, h1f, h1g, h1h, F.sb, so.drop.f4.drop⟩
  intro _ wj hJ
  obtain ⟨p2, rfl, vc, vd, ve, h23, h24, h25, h26, h27, h28, F, sr⟩ := hJ
  have H := R2
  clear R2 H2
  try dsimp only at H
  cases H
  exact ge 7 F rfl fun _ F => rt F ⟨vc, vd, ve, rfl, h26, h27, h28, sr⟩
 refine Hw 11 15 rfl rfl (by kernel_rfl) ?_ ?_
 ·refine BW F s7 (Sw (a0 := (⟨x1.2.e.Classes, x1.2.e.AP, x1.2.e.Fn⟩ : AD)) (hd.Bp s7) (hf.Bp s7) hk) 1 rfl rfl rfl rfl fun wk _ F ss => ⟨ss, ?_⟩
  refine hq [12, 13, 14] F ss (QI.ev 3 rfl <| QI.nil) (by kernel_rfl) fun _ F => ?_
  refine ho 15 rfl (by kernel_rfl) ?_
  refine Ag F ss Bu rfl rfl fun g2 wl _ F st => gw 1 F rfl fun _ F => ⟨st.drop, ?_⟩
  refine ho 16 rfl (by kernel_rfl) ?_
  refine Br (ds := (jI x2.1.Locals :: jI x2.1.Height :: Bb x2.1.Slots)) F st rfl rfl (by simpa using BA) (Ab rfl (Ab rfl (BH _))) (by simp) fun wm _ F su => ?_
  exact gw 1 F rfl fun _ F => ⟨su.drop, E5 hD0 ⟨g2, F.sb, su.f5.f5.f5.f5.f5⟩ (by kernel_rfl)⟩
 refine Ag F s7 Bu rfl rfl fun g2 wl _ F st => gw 1 F rfl fun _ F => ⟨st.drop, ?_⟩
 refine ho 11 rfl (by kernel_rfl) ?_
 refine BW F st (Sw (a0 := (⟨x1.2.e.Classes, x1.2.e.AP, x1.2.e.Fn⟩ : AD)) (hd.Bp st) (hf.Bp st) hk) 1 rfl rfl rfl rfl fun wk _ F ss => ⟨ss.drop, ?_⟩
 refine hq [12, 13, 14] F ss.drop (QI.ev 3 rfl <| QI.nil) (by kernel_rfl) fun _ F => ?_
 refine ho 16 rfl (by kernel_rfl) ?_
 refine Br (ds := (jI x2.1.Locals :: jI x2.1.Height :: Bb x2.1.Slots)) F ss rfl rfl (by simpa using BA) (Ab rfl (Ab rfl (BH _))) (by simp) fun wm _ F su => ?_
 exact gw 1 F rfl fun _ F => ⟨su.drop, E5 hD0 ⟨g2, F.sb, su.f5.f5.f5.f5.f5⟩ (by kernel_rfl)⟩
def Vj (p0 : Value) (q0 : List A9) (p1 : Value) (q1 : List Bq) (p2 : Value) (q2 : List UInt8) (v : Value) (s : AM) (qs : List Ck) : Prop := ∃ k0 k1 k2 k3 : Nat, ∃ v0 v1 v2 : Value, v = jP k0 ∧ BD AL p0 q0 v0 s.e.Classes ∧ BD Bs p1 q1 v1 s.e.AP ∧ BD Ty.u8 p2 q2 v2 s.code ∧ qs = [AB k0 154 [v0, v1, jI s.e.Fn, v2, .map (some k1), .map (some k2), .map (some k3), jI s.B2], Mp (Value.int .i64) (fun x : A3 => Value.agg ⟨(jI x.Locals :: jI x.Height :: Bb x.Slots)⟩) k1 s.frames, Mp (Value.int .i64) (fun _ : Unit => Value.agg ⟨[]⟩) k2 s.fresh, Mp (Value.int .i64) (Value.int .i64) k3 s.taken]
theorem V6 {w : World} {v0_0 v0_1 v2 : Value} {a0 : AD} {a1 : Int} {a2 : List UInt8} {r : (Option AM) × Int × Int} (hr0_0 : Rd AL w [] v0_0 a0.Classes) (hr0_1 : Rd Bs w [] v0_1 a0.AP) (hr2 : Rd Ty.u8 w [] v2 a2) (H : K4 a0 a1 a2 = some r) :
    Calls prog 71 #[.agg ⟨[v0_0, v0_1, jI a0.Fn]⟩, jI a1, v2] w (B8 fun u_ w_ => ∃ u0 : Value, u_ = .tuple ⟨[u0, jI r.2.1, jI r.2.2]⟩ ∧ SL w [] w_ [X5 u0 r.1 (Vj v0_0 a0.Classes v0_1 a0.AP v2 a2 u0)]) := by
 have s0 : SL w [] w [] := SL.BF w
 refine Cb func71 ntmps71 2 rfl rfl rfl fun _ F0 => ?_
 unfold K4 at H
 refine Ao F0 s0 rfl rfl rfl fun g8 w9 _ F s1 => gw 5 F rfl fun _ F => sck 0 rfl ?_
 obtain ⟨x0, h0, H⟩ := Aa H
 refine gc 3 F rfl fun _ F => AV F s1 m0 1 rfl fun _ F => BW F s1 (Zt (a0 := (⟨a0.Classes, a0.AP, a0.Fn⟩ : AD)) (hr0_0.Bp s1) (hr0_1.Bp s1) h0) 9 rfl rfl rfl rfl fun w0 _ F s2 => Be F H 11 6 rfl rfl rfl (fun h1 H _ F => ?_) (fun h1 H _ F => ?_)
 ·cases H
  exact rt F ⟨(.pointer none), rfl, (SL.OS s2).f1.drop⟩
 refine gx F (Ak rfl underlying42 (fR hr2 s2)) 3 rfl rfl fun _ F => Be F H 10 3 rfl rfl rfl (fun h2 H _ F => ?_) (fun h2 H _ F => ?_)
 ·cases H
  exact rt F ⟨(.pointer none), rfl, (SL.OS s2).f1.drop⟩
 obtain ⟨x1, h3, H⟩ := Aa H
 obtain ⟨x2, h4, H⟩ := Aa H
 refine Dk BL s2 ?_
 obtain ⟨a3, c0, G0, h5, h6, h7, h8⟩ := Rd.idx hr0_1 JG rfl h3
 obtain ⟨v0, rfl, h9⟩ := (LY h7 h8)
 have hc157_ := h6; clear h6; have h6 := fun w_ (hC : SL w [] w_ [AB g8 110 [v0_0, v0_1, jI a0.Fn]]) => hc157_ _ _ hC
 refine hq [0, 1, 2, 3, 4, 5, 6, 7, 8, 9] F s2.drew (QI.ev 1 rfl <| QI.ld m0 rfl <| QI.ev 1 rfl <| QI.ld m0 rfl <| QI.ev 1 rfl <| QI.ld m0 rfl <| QI.ix h5 rfl <| QI.op rfl (fun _ hC => Ke Wq rfl) rfl <| QI.op rfl (fun _ hC => As Ud rfl (Cells.at_ (h6 _ hC) (o := 0) rfl)) rfl <| QI.ev 1 rfl <| QI.nil) (by kernel_rfl) fun _ F => ?_
 refine Jb [0, 1, 2, 3, 4, 5, 6, 7, 8, 9, 10, 11, 12, 13, 14, 15] (fun a w_ => ∃ g0 : Nat, Fr a 88 [(2, v2), (3, jP g8), (10, jP g0), (38, jI x2.2)] ∧ SL w [] w_ [AB g8 110 [v0_0, v0_1, jI a0.Fn], AB g0 118 (jI x2.1.Locals :: jI x2.1.Height :: Bb x2.1.Slots)]) ?_ fun hD0 => ?_
 ·rintro a w_ ⟨g0, F, s3⟩
  refine hq [16] F s3.f1.drop (QI.ev 1 rfl <| QI.nil) (by kernel_rfl) fun _ F => ?_
  refine Ea (by kernel_rfl) ?_
  refine ge 3 F rfl fun _ F => AV F s3 m0 1 rfl fun _ F => QB (Value.int .i64) (fun x : A3 => Value.agg ⟨(jI x.Locals :: jI x.Height :: Bb x.Slots)⟩) F s3 rfl fun g1 w1 _ F s4 => Hv F s4 m2 0 rfl fun _ F => W2 (k := 0) (u := (⟨x2.1.Locals, x2.1.Height, x2.1.Slots⟩ : A3)) F s4 underlying150 FM rfl rfl rfl fun w2 _ F s5 => gw 1 F rfl fun _ F => QB (Value.int .i64) (fun _ : Unit => Value.agg ⟨[]⟩) F s5 rfl fun g2 w3 _ F s6 => gx F (Af (vs := []) Q9 Uf rfl (cs := []) (rfl)) 0 rfl rfl fun _ F => W2 (k := 0) (u := ()) F s6 underlying151 FM rfl rfl rfl fun w4 _ F s7 => gw 1 F rfl fun _ F => QB (Value.int .i64) (Value.int .i64) F s7 rfl fun g3 w5 _ F s8 => ?_
  have ha := (fR hr0_0 s8)
  have hb := (fR hr0_1 s8)
  have hc := (fR hr2 s8)
  refine gx F (Af (vs := [.agg ⟨[v0_0, v0_1, jI a0.Fn]⟩, v2, .map (some g1), .map (some g2), .map (some g3)]) Aar Agl rfl (cs := [v0_0, v0_1, jI a0.Fn, v2, .map (some g1), .map (some g2), .map (some g3), jI 0]) (YJ (pre := []) (zs := [.slice none 0 0, .slice none 0 0, jI 0]) (post := [.slice none 0 0, .map none, .map none, .map none, jI 0]) rfl rfl <| D8 rfl (Ae hc) (by simp) <| D8 rfl rfl (by simp) <| D8 rfl rfl (by simp) <| D8 rfl rfl (by simp) <| Ch)) 0 rfl rfl fun _ F => ?_
  refine Ao F s8 rfl rfl rfl fun g4 w6 _ F s9 => ?_
  obtain ⟨o0, H0, R0⟩ := Aa H
  clear H
  refine gw 12 F rfl fun _ F => Cx (fun a w_ => ∃ v1 v3 v4 : Value, Rd AL w [] v1 o0.1 ∧ Rd Bs w [] v3 o0.2.1 ∧ Rd Ty.u8 w [] v4 o0.2.2.2.1 ∧ BD AL v0_0 a0.Classes v1 o0.1 ∧ BD Bs v0_1 a0.AP v3 o0.2.1 ∧ BD Ty.u8 v2 a2 v4 o0.2.2.2.1 ∧ Fr a 88 [(12, jP g4), (13, jI o0.2.2.2.2.2.2.2.2)] ∧ SL w [] w_ [AB g4 154 [v1, v3, jI o0.2.2.1, v4, .map (some g1), .map (some g2), .map (some g3), jI o0.2.2.2.2.1], Mp (Value.int .i64) (fun x : A3 => Value.agg ⟨(jI x.Locals :: jI x.Height :: Bb x.Slots)⟩) g1 o0.2.2.2.2.2.1, Mp (Value.int .i64) (fun _ : Unit => Value.agg ⟨[]⟩) g2 o0.2.2.2.2.2.2.1, Mp (Value.int .i64) (Value.int .i64) g3 o0.2.2.2.2.2.2.2.1]) ?_ ?_
  ·have H := H0
   refine gc 1 F rfl fun _ F => E6 (EG a2) (fun sa a w_ => ∃ v5 v6 v7 : Value, Rd AL w [] v5 sa.1 ∧ Rd Bs w [] v6 sa.2.1 ∧ Rd Ty.u8 w [] v7 sa.2.2.2.1 ∧ BD AL v0_0 a0.Classes v5 sa.1 ∧ BD Bs v0_1 a0.AP v6 sa.2.1 ∧ BD Ty.u8 v2 a2 v7 sa.2.2.2.1 ∧ Fr a 88 [(2, v2), (12, jP g4), (13, jI sa.2.2.2.2.2.2.2.2)] ∧ SL w [] w_ [AB g4 154 [v5, v6, jI sa.2.2.1, v7, .map (some g1), .map (some g2), .map (some g3), jI sa.2.2.2.2.1], Mp (Value.int .i64) (Value.int .i64) g3 sa.2.2.2.2.2.1, Mp (Value.int .i64) (fun _ : Unit => Value.agg ⟨[]⟩) g2 sa.2.2.2.2.2.2.1, Mp (Value.int .i64) (fun x : A3 => Value.agg ⟨(jI x.Locals :: jI x.Height :: Bb x.Slots)⟩) g1 sa.2.2.2.2.2.2.2.1]) H ?_ ?_
   ·exact ⟨v0_0, v0_1, v2, hr0_0, hr0_1, hr2, BD.refl, BD.refl, BD.refl, F.sb, s9.f4.drop.f4.drop⟩
   intro sa _ w7 hd o1 H hr
   obtain ⟨v5, v6, v7, he, hf, hg, hh, hi, hj, F, sc⟩ := hd
   replace H : EG a2 sa = some o1 := H
   unfold EG at H
   refine gc 6 F rfl fun _ F => AV F sc m0 0 rfl fun _ F => gx F (Adw sc m2 underlying151 rfl) 3 rfl rfl fun _ F => Be F H 6 4 rfl rfl rfl (fun hk H _ F => ?_) (fun hk H _ F => ?_)
   ·refine gx F (Ak rfl underlying42 (fR hr2 sc)) 9 rfl rfl fun _ F => AV F sc m0 0 rfl fun _ F => XN F sc.f2 underlying151 rfl rfl fun i0 w8 _ F sd => ?_
    obtain ⟨o2, H1, R1⟩ := Aa H
    clear H
    refine gw 2 F rfl fun _ F => Cx (fun a w_ => Fr a 88 [(2, v2), (12, jP g4), (14, jI o2)] ∧ SL w [] w_ [Mp (Value.int .i64) (fun _ : Unit => Value.agg ⟨[]⟩) g2 sa.2.2.2.2.2.2.1, AB g4 154 [v5, v6, jI sa.2.2.1, v7, .map (some g1), .map (some g2), .map (some g3), jI sa.2.2.2.2.1], Mp (Value.int .i64) (Value.int .i64) g3 sa.2.2.2.2.2.1, Mp (Value.int .i64) (fun x : A3 => Value.agg ⟨(jI x.Locals :: jI x.Height :: Bb x.Slots)⟩) g1 sa.2.2.2.2.2.2.2.1]) ?_ ?_
    ·have H := H1
     obtain ⟨o3, Hr, H2⟩ := Aa H
     refine gc 1 F rfl fun _ F => Alo (EE) (fun j0 se a w_ => Fr a 88 [(2, v2), (12, jP g4), (14, jI se), (62, jP i0)] ∧ SL w [] w_ [NP (Value.int .i64) (fun _ : Unit => Value.agg ⟨[]⟩) g2 i0 sa.2.2.2.2.2.2.1 j0, AB g4 154 [v5, v6, jI sa.2.2.1, v7, .map (some g1), .map (some g2), .map (some g3), jI sa.2.2.2.2.1], Mp (Value.int .i64) (Value.int .i64) g3 sa.2.2.2.2.2.1, Mp (Value.int .i64) (fun x : A3 => Value.agg ⟨(jI x.Locals :: jI x.Height :: Bb x.Slots)⟩) g1 sa.2.2.2.2.2.2.2.1]) Hr ?_ ?_
     ·exact ⟨F.sb, sd⟩
     clear H Hr
     intro j0 se _ wa hl hm hn
     obtain ⟨F, sf⟩ := hl
     refine gc 2 F rfl fun _ F => ZI F sf rfl rfl (fun _ hp F => ?_) (fun j1 p0 wb _ hs ht hu F sg => ?_)
     ·have H := Ak2 H2 (hm hp)
      try dsimp only at H
      have sh : SL w [] _ [Mp (Value.int .i64) (fun _ : Unit => Value.agg ⟨[]⟩) g2 sa.2.2.2.2.2.2.1, AB g4 154 [v5, v6, jI sa.2.2.1, v7, .map (some g1), .map (some g2), .map (some g3), jI sa.2.2.2.2.1], Mp (Value.int .i64) (Value.int .i64) g3 sa.2.2.2.2.2.1, Mp (Value.int .i64) (fun x : A3 => Value.agg ⟨(jI x.Locals :: jI x.Height :: Bb x.Slots)⟩) g1 sa.2.2.2.2.2.2.2.1] := (SL.unit sf)
      cases H
      exact gw 9 F rfl fun _ F => ⟨F.sb, sh⟩
     obtain ⟨o4, hv, hr0⟩ := hn j1 p0 hs ht hu
     replace hv : EE p0 se = some o4 := hv
     have H := hv
     unfold EE at H
     have hr := fun r' h => Ak8 H2 (hr0 r' h)
     clear hr0
     refine gw 10 F rfl fun _ F => gx F (Yb sg m0 hs rfl) 7 rfl rfl fun _ F => ?_
     cases H
     exact gx F (ZZ rfl rfl) 3 rfl rfl fun _ F => ⟨j1, p0, _, hs, ht, hu, hv, ⟨F.sb, sg⟩⟩
    intro _ wc hJ
    obtain ⟨F, si⟩ := hJ
    have H := R1
    clear R1 H1
    refine ge 6 F rfl fun _ F => AV F si m1 1 rfl fun _ F => Adv (k := o2) F si underlying151 FM rfl rfl fun wd _ F sj => ?_
    obtain ⟨x3, hw, H⟩ := Aa H
    have sk := sj.f2.f1.f3.f3
    obtain ⟨G1, hx, hy, hz, h10⟩ := SL.open_ (ps := [AB g4 154 [v5, v6, jI sa.2.2.1, v7, .map (some g1), .map (some g2), .map (some g3), jI sa.2.2.2.2.1], Mp (Value.int .i64) (fun x : A3 => Value.agg ⟨(jI x.Locals :: jI x.Height :: Bb x.Slots)⟩) g1 sa.2.2.2.2.2.2.2.1, Mp (Value.int .i64) (fun _ : Unit => Value.agg ⟨[]⟩) g2 (H8 sa.2.2.2.2.2.2.1 o2), Mp (Value.int .i64) (Value.int .i64) g3 sa.2.2.2.2.2.1]) (rest := []) sk
    refine gw 6 F rfl fun _ F => Ei F (P2 (a0 := (⟨(⟨sa.1, sa.2.1, sa.2.2.1⟩ : AD), sa.2.2.2.1, sa.2.2.2.2.2.2.2.1, (H8 sa.2.2.2.2.2.2.1 o2), sa.2.2.2.2.2.1, sa.2.2.2.2.1⟩ : AM)) hx (he.pass sk hy) (hf.pass sk hy) (hg.pass sk hy) hw) fun v8 we _ h11 F => ?_
    obtain ⟨v9, va, vb, rfl, h12, h13, h14, h15⟩ := h11
    have sl := h10 _ _ h15
    have h16 := BD.rd h12 he
    have h17 := BD.trans hh h12
    have h18 := BD.rd h13 hf
    have h19 := BD.trans hi h13
    have h1a := BD.rd h14 hg
    have h1b := BD.trans hj h14
    refine gw 9 F rfl fun _ F => Be F H 4 2 rfl rfl rfl (fun h1c H _ F => ?_) (fun h1c H _ F => ?_)
    ·cases H
     obtain rfl := hr _ rfl
     exact ⟨v9, va, vb, h16, h18, h1a, h17, h19, h1b, F.sb, sl⟩
    cases H
    exact ⟨_, rfl, v9, va, vb, h16, h18, h1a, h17, h19, h1b, F.sb, sl.f1.f2.f3.f3⟩
   cases H
   obtain rfl := hr _ rfl
   exact ⟨v5, v6, v7, he, hf, hg, hh, hi, hj, F.sb, sc.f1.f2.f3.f3⟩
  intro _ wf hJ
  obtain ⟨v1, v3, v4, h1d, h1e, h1f, h1g, h1h, h1i, F, sm⟩ := hJ
  have H := R0
  clear R0 H0
  refine ge 8 F rfl fun _ F => Be F H 1 12 rfl rfl rfl (fun h1j H _ F => ?_) (fun h1j H _ F => ?_)
  ·refine V5 BL sm F (QR.ev 3 rfl <| QR.ld m0 rfl <| QR.ev 4 rfl <| QR.nil) fun wg _ sn F => ?_
   cases H
   exact ge 4 F rfl fun _ F => rt F ⟨(.pointer none), rfl, (SL.OS sn).f1.drop.f1.drop.f1.drop.f1.drop⟩
  cases H
  exact rt F ⟨_, rfl, (SL.YU (qs := [AB g4 154 [v1, v3, jI o0.2.2.1, v4, .map (some g1), .map (some g2), .map (some g3), jI o0.2.2.2.2.1], Mp (Value.int .i64) (fun x : A3 => Value.agg ⟨(jI x.Locals :: jI x.Height :: Bb x.Slots)⟩) g1 o0.2.2.2.2.2.1, Mp (Value.int .i64) (fun _ : Unit => Value.agg ⟨[]⟩) g2 o0.2.2.2.2.2.2.1, Mp (Value.int .i64) (Value.int .i64) g3 o0.2.2.2.2.2.2.2.1]) ⟨g4, g1, g2, g3, v1, v3, v4, rfl, h1g, h1h, h1i, rfl⟩ sm.f3.f3.f3.f3)⟩
 refine Hw 10 14 rfl rfl (by kernel_rfl) ?_ ?_
 ·refine BW F s2.drew (Ld (hr0_0.Bp s2.drew) (h9.Bp s2.drew) h4) 1 rfl rfl rfl rfl fun wh _ F so => ⟨so, ?_⟩
  refine hq [11, 12, 13] F so (QI.ev 3 rfl <| QI.nil) (by kernel_rfl) fun _ F => ?_
  refine ho 14 rfl (by kernel_rfl) ?_
  refine Ag F so Bu rfl rfl fun g0 wi _ F sp => gw 1 F rfl fun _ F => ⟨sp.drop, ?_⟩
  refine ho 15 rfl (by kernel_rfl) ?_
  refine Br (ds := (jI x2.1.Locals :: jI x2.1.Height :: Bb x2.1.Slots)) F sp rfl rfl (by simpa using BA) (Ab rfl (Ab rfl (BH _))) (by simp) fun wj _ F sq => ?_
  exact gw 1 F rfl fun _ F => ⟨sq.drop, E5 hD0 ⟨g0, F.sb, sq.f1⟩ (by kernel_rfl)⟩
 refine Ag F s2.drew Bu rfl rfl fun g0 wi _ F sp => gw 1 F rfl fun _ F => ⟨sp.drop, ?_⟩
 refine ho 10 rfl (by kernel_rfl) ?_
 refine BW F sp (Ld (hr0_0.Bp sp) (h9.Bp sp) h4) 1 rfl rfl rfl rfl fun wh _ F so => ⟨so.drop, ?_⟩
 refine hq [11, 12, 13] F so.drop (QI.ev 3 rfl <| QI.nil) (by kernel_rfl) fun _ F => ?_
 refine ho 15 rfl (by kernel_rfl) ?_
 refine Br (ds := (jI x2.1.Locals :: jI x2.1.Height :: Bb x2.1.Slots)) F so rfl rfl (by simpa using BA) (Ab rfl (Ab rfl (BH _))) (by simp) fun wj _ F sq => ?_
 exact gw 1 F rfl fun _ F => ⟨sq.drop, E5 hD0 ⟨g0, F.sb, sq.f1⟩ (by kernel_rfl)⟩
theorem Xb {w : World} {v0_0 v0_1 v2 : Value} {a0 : AD} {a1 : Int} {a2 : List UInt8} {r : (List B0) × Int × Int} (hr0_0 : Rd AL w [] v0_0 a0.Classes) (hr0_1 : Rd Bs w [] v0_1 a0.AP) (hr2 : Rd Ty.u8 w [] v2 a2) (H : IU a0 a1 a2 = some r) :
    Calls prog 47 #[.agg ⟨[v0_0, v0_1, jI a0.Fn]⟩, jI a1, v2] w (B8 fun u_ w_ => ∃ u0 : Value, u_ = .tuple ⟨[u0, jI r.2.1, jI r.2.2]⟩ ∧ SL w [] w_ [Sl HN u0 r.1]) := by
 have s0 : SL w [] w [] := SL.BF w
 refine Cb func47 ntmps47 2 rfl rfl rfl fun _ F0 => ?_
 unfold IU at H
 refine Ao F0 s0 rfl rfl rfl fun g8 w9 _ F s1 => ?_
 obtain ⟨x0, h0, H⟩ := Aa H
 refine gw 7 F rfl fun _ F => AV F s1 m0 2 rfl fun _ F => Ei F (V6 (a0 := (⟨a0.Classes, a0.AP, a0.Fn⟩ : AD)) (hr0_0.Bp s1) (hr0_1.Bp s1) (hr2.Bp s1) h0) fun v0 w0 _ h1 F => ?_
 obtain ⟨v1, rfl, h2⟩ := h1
 have s2 := s1.add h2
 refine gw 16 F rfl fun _ F => Be F H 11 9 rfl rfl rfl (fun h3 H _ F => ?_) (fun h3 H _ F => ?_)
 ·cases H
  exact rt F ⟨(.slice none 0 0), rfl, (SL.Ca (T := HN) s2).f1.drop.f1.drop⟩
 obtain ⟨x1, h4, H⟩ := Aa H
 obtain ⟨_, ⟨g0, g1, g2, g3, v3, v4, v5, rfl, h5, h6, h7, rfl⟩, s3⟩ := SL.VW s2 h4
 have h8 := BD.rd h5 hr0_0
 have h9 := BD.rd h6 hr0_1
 have ha := BD.rd h7 hr2
 refine gc 4 F rfl fun _ F => AV F s3 m0 0 rfl fun _ F => Ai (args := [.tmp 30]) F Aib rfl (Agc Tu) rfl fun v6 w1 _ hb F => ?_
 obtain ⟨g4, hc, hd⟩ := hb
 obtain rfl : v6 = clo 107 [jP g4] := hc
 have s4 : SL w [] _ [AB g4 150 [.map (some g1)], AB g0 154 [v3, v4, jI x1.e.Fn, v5, .map (some g1), .map (some g2), .map (some g3), jI x1.B2], Mp (Value.int .i64) (fun x : A3 => Value.agg ⟨(jI x.Locals :: jI x.Height :: Bb x.Slots)⟩) g1 x1.frames, Mp (Value.int .i64) (fun _ : Unit => Value.agg ⟨[]⟩) g2 x1.fresh, Mp (Value.int .i64) (Value.int .i64) g3 x1.taken, AB g8 110 [v0_0, v0_1, jI a0.Fn]] := SL.add s3 hd
 obtain ⟨x2, he, H⟩ := Aa H
 obtain ⟨G0, hf, hg, hh, hi⟩ := SL.open_ (ps := [Mp (Value.int .i64) (fun x : A3 => Value.agg ⟨(jI x.Locals :: jI x.Height :: Bb x.Slots)⟩) g1 x1.frames, AB g4 150 [.map (some g1)]]) (rest := [AB g0 154 [v3, v4, jI x1.e.Fn, v5, .map (some g1), .map (some g2), .map (some g3), jI x1.B2], Mp (Value.int .i64) (fun _ : Unit => Value.agg ⟨[]⟩) g2 x1.fresh, Mp (Value.int .i64) (Value.int .i64) g3 x1.taken, AB g8 110 [v0_0, v0_1, jI a0.Fn]]) s4.f2
 refine Ai (args := [.tmp 31]) F Ah1 rfl (Abn Zi Tu Pq rfl Agq SD Aer hf he) rfl fun v7 w2 _ hj F => ?_
 have s5 : SL w [] _ [Mp (Value.int .i64) (fun x : A3 => Value.agg ⟨(jI x.Locals :: jI x.Height :: Bb x.Slots)⟩) g1 x1.frames, Sl (Ty.int .i64) v7 x2, AB g0 154 [v3, v4, jI x1.e.Fn, v5, .map (some g1), .map (some g2), .map (some g3), jI x1.B2], Mp (Value.int .i64) (fun _ : Unit => Value.agg ⟨[]⟩) g2 x1.fresh, Mp (Value.int .i64) (Value.int .i64) g3 x1.taken, AB g8 110 [v0_0, v0_1, jI a0.Fn]] := hi _ _ hj
 obtain ⟨o0, H0, R0⟩ := Aa H
 clear H
 refine gx F (Ak rfl underlying28 (fO s5 m1)) 3 rfl rfl fun _ F => Cx (fun a w_ => ∃ v8 : Value, Fr a 51 [(12, v8)] ∧ SL w [] w_ [Mp (Value.int .i64) (fun x : A3 => Value.agg ⟨(jI x.Locals :: jI x.Height :: Bb x.Slots)⟩) g1 x1.frames, Mp (Value.int .i64) (fun _ : Unit => Value.agg ⟨[]⟩) g2 x1.fresh, Mp (Value.int .i64) (Value.int .i64) g3 x1.taken, Sl HN v8 o0]) ?_ ?_
 ·have H := H0
  refine gc 1 F rfl fun _ F => E6 (Fz x1 x2) (fun s6 a w_ => ∃ v9 : Value, Fr a 51 [(9, jP g0), (12, v9), (32, v7), (33, jI (x2.length : Int)), (34, jI s6.2)] ∧ SL w [] w_ [Mp (Value.int .i64) (fun x : A3 => Value.agg ⟨(jI x.Locals :: jI x.Height :: Bb x.Slots)⟩) g1 x1.frames, Sl (Ty.int .i64) v7 x2, AB g0 154 [v3, v4, jI x1.e.Fn, v5, .map (some g1), .map (some g2), .map (some g3), jI x1.B2], Mp (Value.int .i64) (fun _ : Unit => Value.agg ⟨[]⟩) g2 x1.fresh, Mp (Value.int .i64) (Value.int .i64) g3 x1.taken, Sl HN v9 s6.1]) H ?_ ?_
  ·exact ⟨(.slice none 0 0), F.sb, (SL.Ca (T := HN) s5).f6.drop.f5.f5.f5.f5.f5⟩
  intro s6 _ w3 hk o1 H hr
  obtain ⟨v9, F, s7⟩ := hk
  replace H : Fz x1 x2 s6 = some o1 := H
  unfold Fz at H
  refine gc 6 F rfl fun _ F => Be F H 6 4 rfl rfl rfl (fun hl H _ F => ?_) (fun hl H _ F => ?_)
  ·obtain ⟨x3, hm, H⟩ := Aa H
   obtain ⟨a3, hn, ho⟩ := Av (Flat.int .i64) s7 m1 BC rfl hm
   refine gi F hn 0 rfl fun _ F => gx F (As Cn rfl (Cells.at_ (SL.CC (Flat.int .i64) s7 m1 ho hm) (o := 0) rfl)) 9 rfl rfl fun _ F => AV F s7 m2 1 rfl fun _ F => gx F (Wa (k := x3) (z0 := (⟨(0 : Int), (0 : Int), (Vector.replicate 24 (0 : UInt8))⟩ : A3)) s7 m0 underlying150 FM Uj rfl rfl) 0 rfl rfl fun _ F => ?_
   refine gx F (Af (vs := [jI x3, .agg ⟨(jI (((BJ x1.frames x3).getD (⟨(0 : Int), (0 : Int), (Vector.replicate 24 (0 : UInt8))⟩ : A3)).Locals) :: jI (((BJ x1.frames x3).getD (⟨(0 : Int), (0 : Int), (Vector.replicate 24 (0 : UInt8))⟩ : A3)).Height) :: Bb (((BJ x1.frames x3).getD (⟨(0 : Int), (0 : Int), (Vector.replicate 24 (0 : UInt8))⟩ : A3)).Slots))⟩]) UU Agm rfl (cs := (jI x3 :: .bool false :: jI (((BJ x1.frames x3).getD (⟨(0 : Int), (0 : Int), (Vector.replicate 24 (0 : UInt8))⟩ : A3)).Locals) :: jI (((BJ x1.frames x3).getD (⟨(0 : Int), (0 : Int), (Vector.replicate 24 (0 : UInt8))⟩ : A3)).Height) :: Bb (((BJ x1.frames x3).getD (⟨(0 : Int), (0 : Int), (Vector.replicate 24 (0 : UInt8))⟩ : A3)).Slots))) (D8 rfl rfl (by simp) <| YJ (pre := [jI x3, .bool false]) (zs := jZ) (post := []) (by first | rfl | simp) (by simp) <| (by first | exact Ch | simp [Ch]))) 0 rfl rfl fun _ F => ?_
   refine Ad (parts := [(0, .tmp 46)]) Ns ([(⟨x3, false, (⟨((BJ x1.frames x3).getD (⟨(0 : Int), (0 : Int), (Vector.replicate 24 (0 : UInt8))⟩ : A3)).Locals, ((BJ x1.frames x3).getD (⟨(0 : Int), (0 : Int), (Vector.replicate 24 (0 : UInt8))⟩ : A3)).Height, ((BJ x1.frames x3).getD (⟨(0 : Int), (0 : Int), (Vector.replicate 24 (0 : UInt8))⟩ : A3)).Slots⟩ : A3)⟩ : B0)] : List B0) F s7 Ui rfl (by decide) rfl rfl rfl (by simp [Value.cells]) rfl rfl rfl fun va w4 _ F s8 => ?_
   obtain ⟨x4, hp, H⟩ := Aa H
   obtain ⟨_, hr_⟩ := (s8.f6.BO m1)
   refine Aq Ns F s8.f6 Ui rfl rfl rfl rfl hr_ rfl rfl hp rfl fun vb w5 _ F s9 => ?_
   have s2277' := s9.f1.drop
   cases H
   exact gw 8 F rfl fun _ F => ⟨_, rfl, vb, F.sb, s2277'.f5.f5.f5.f5.f5⟩
  cases H
  obtain rfl := hr _ rfl
  exact ⟨v9, F.sb, s7.f1.drop.f1.drop⟩
 intro _ w6 hJ
 obtain ⟨v8, F, sa⟩ := hJ
 have H := R0
 clear R0 H0
 cases H
 exact ge 10 F rfl fun _ F => rt F ⟨v8, rfl, sa.drop.drop.drop⟩
def Xh (v : Value) (s : AK) (qs : List Ck) : Prop := ∃ k0 : Nat, ∃ v0 : Value, v = jP k0 ∧ qs = [AB k0 81 [v0, jI s.AX], Sl Bc v0 s.l]
theorem Ry {w : World} {v0_1 v0_2 v0_3 : Value} {a0 : AH} {a1 : Int} {r : (Option AK) × Int × Int} (hr0_1 : Rd AL w [] v0_1 a0.Classes) (hr0_2 : Rd Es w [] v0_2 a0.Funcs) (hr0_3 : Rd (Ty.slice Ty.u8) w [] v0_3 a0.Ec) (H : E9 a0 a1 = some r) :
    Calls prog 26 #[.agg ⟨[.string ⟨⟨a0.Name⟩⟩, v0_1, v0_2, v0_3]⟩, jI a1] w (B8 fun u_ w_ => ∃ u0 : Value, u_ = .tuple ⟨[u0, jI r.2.1, jI r.2.2]⟩ ∧ SL w [] w_ [X5 u0 r.1 (Xh u0)]) := by
 have s0 : SL w [] w [] := SL.BF w
 refine Cb func26 ntmps26 2 rfl rfl rfl fun _ F0 => ?_
 unfold E9 at H
 refine Ao F0 s0 rfl rfl rfl fun g8 w9 _ F s1 => ?_
 obtain ⟨x0, h0, H⟩ := Aa H
 refine gw 7 F rfl fun _ F => AV F s1 m0 1 rfl fun _ F => Ei F (Zk (a0 := (⟨a0.Name, a0.Classes, a0.Funcs, a0.Ec⟩ : AH)) (hr0_1.Bp s1) (hr0_2.Bp s1) (hr0_3.Bp s1) h0) fun v0 w0 _ h1 F => ?_
 obtain ⟨v1, v2, rfl, h2⟩ := h1
 have s2 := s1.add h2
 refine gw 3 F rfl fun _ F => Ag F s2 KZ rfl rfl fun g0 w1 _ F s3 => Ah F s3 rfl rfl OJ (Ab (Ap (fO s3 m1)) (Ab (Ap (fO s3 m2)) (Ab rfl Al))) (Ac rfl) fun w2 _ F s4 => gw 10 F rfl fun _ F => Be F H 9 4 rfl rfl rfl (fun h3 H _ F => ?_) (fun h3 H _ F => ?_)
 ·cases H
  exact rt F ⟨(.pointer none), rfl, (SL.OS s4).f1.drop.f1.drop.f1.drop.f1.drop⟩
 obtain ⟨x1, h4, H⟩ := Aa H
 obtain ⟨a2, c0, G0, h5, h6, h7, h8⟩ := Rd.idx hr0_2 SO rfl h4
 obtain ⟨v3, v4, rfl, h9, ha⟩ := (Qq h7 h8)
 replace h6 := h6 _ _ s4
 refine gw 1 F rfl fun _ F => AV F s4 m3 1 rfl fun _ F => gi F h5 0 rfl fun _ F => gx F (Ar X6 rfl h6 rfl) 0 rfl rfl fun _ F => Ag F s4 So rfl rfl fun g1 w3 _ F s5 => Ah F s5 rfl rfl Z2 (Ab rfl (Ab (Ap (fR h9 s5)) (Ab rfl (Ab rfl (Ab (Ap (fR ha s5)) Al))))) (Ac rfl) fun w4 _ F s6 => ?_
 obtain ⟨x2, hb, H⟩ := Aa H
 refine gw 4 F rfl fun _ F => AV F s6 m1 1 rfl fun _ F => AV F s6 m0 1 rfl fun _ F => AV F s6 m0 0 rfl fun _ F => Ei F (Xb (a0 := (⟨x0.1.Classes, x0.1.AP, x0.1.Fn⟩ : AD)) (s6.rd0 m2) (s6.rd0 m3) (ha.Bp s6) hb) fun v5 w5 _ hc F => ?_
 obtain ⟨v6, rfl, hd⟩ := hc
 have s7 := s6.add hd
 refine gw 16 F rfl fun _ F => Be F H 11 4 rfl rfl rfl (fun he H _ F => ?_) (fun he H _ F => ?_)
 ·cases H
  exact rt F ⟨(.pointer none), rfl, (SL.OS s7).f1.drop.f1.drop.f1.drop.f1.drop.f1.drop.f1.drop⟩
 refine gx F (Af (vs := []) Ac0 Ahi rfl (cs := [.slice none 0 0, jI 0]) (rfl)) 0 rfl rfl fun _ F => Ao F s7 rfl rfl rfl fun g2 w6 _ F s8 => gw 7 F rfl fun _ F => ?_
 obtain ⟨o0, H0, R0⟩ := Aa H
 clear H
 refine gx F (Ak rfl underlying113 (fO s8 m1)) 3 rfl rfl fun _ F => Cx (fun a w_ => ∃ v7 : Value, Fr a 84 [(13, jP g2)] ∧ SL w [] w_ [AB g2 81 [v7, jI o0.2], Sl Bc v7 o0.1]) ?_ ?_
 ·have H := H0
  refine gc 1 F rfl fun _ F => E6 (Cy x1 x2) (fun s9 a w_ => ∃ v8 : Value, Fr a 84 [(9, jP g1), (13, jP g2), (47, v6), (48, jI (x2.1.length : Int)), (49, jI s9.2.2)] ∧ SL w [] w_ [AB g2 81 [v8, jI s9.2.1], Sl HN v6 x2.1, AB g1 52 [.string ⟨⟨x1.Name⟩⟩, v3, jU (x1.Sig.Result.toNat : Int), jI x1.Locals, v4], Sl Bc v8 s9.1]) H ?_ ?_
  ·exact ⟨(.slice none 0 0), F.sb, (SL.Ca (T := Bc) s8).f4.drop.f4.drop.f4.drop.f4.drop.f3.f3.f3⟩
  intro s9 _ w7 hf o1 H hr
  obtain ⟨v8, F, sa⟩ := hf
  replace H : Cy x1 x2 s9 = some o1 := H
  unfold Cy at H
  refine gc 6 F rfl fun _ F => Be F H 6 4 rfl rfl rfl (fun hg H _ F => ?_) (fun hg H _ F => ?_)
  ·obtain ⟨x3, hh, H⟩ := Aa H
   obtain ⟨a3, hi, hj⟩ := Av Ns sa m1 Ui rfl hh
   refine gi F hi 0 rfl fun _ F => ?_
   refine gx F (Ar Ab0 rfl (SL.CC Ns sa m1 hj hh) (by simp)) 0 rfl rfl fun _ F => ?_
   refine Ag F sa UU rfl rfl fun g3 w8 _ F sc => ?_
   refine Br (ds := (jI x3.At :: .bool x3.Dead :: jI x3.Frame.Locals :: jI x3.Frame.Height :: Bb x3.Frame.Slots)) F sc rfl rfl (by simpa using Agp) (Ab rfl (Ab rfl (Ab rfl (Ab rfl (BH _))))) (by simp) fun wa _ F sd => ?_
   obtain ⟨x4, hk, H⟩ := Aa H
   refine gw 5 F rfl fun _ F => AV F sd m3 1 rfl fun _ F => AV F sd m0 0 rfl fun _ F => BW F sd (QM (ha.Bp sd) hk) 3 rfl rfl rfl rfl fun wb _ F se => Ag F se IL rfl rfl fun g4 wc _ F sf => Ah F sf rfl rfl GH (Ab rfl (Ab rfl (Ab rfl (Ab rfl Al)))) (Ac rfl) fun wd _ F sg => ?_
   obtain ⟨x5, hl, H⟩ := Aa H
   refine gw 4 F rfl fun _ F => Dk BL sg.f2.drop.f4.drop ?_
   have sh := sg.drew
   refine hq [0, 1, 2, 3, 5] F sh.f2.drop.f4.drop (QI.ev 4 rfl <| QI.ld m0 rfl <| QI.nil) (by kernel_rfl) fun _ F => ?_
   refine Jb [0, 1, 2, 3, 4, 5, 6] (fun a w_ => ∃ v9 : Value, Fr a 84 [(9, jP g1), (13, jP g2), (15, jP g3), (47, v6), (48, jI (x2.1.length : Int)), (49, jI s9.2.2), (61, jP g2), (65, v8), (67, v9)] ∧ SL w [] w_ [AB g4 79 [jI x4.1.At, jU (x4.1.Op.toNat : Int), jI x4.1.A, jI x4.1.B], AB g3 120 (jI x3.At :: .bool x3.Dead :: jI x3.Frame.Locals :: jI x3.Frame.Height :: Bb x3.Frame.Slots), Sl HN v6 x2.1, AB g1 52 [.string ⟨⟨x1.Name⟩⟩, v3, jU (x1.Sig.Result.toNat : Int), jI x1.Locals, v4], Sl Bc v9 ([(⟨x4.1.At, x4.1.Op, x4.1.A, x4.1.B⟩ : AA)] : List AA), AB g2 81 [v8, jI s9.2.1], Sl Bc v8 s9.1]) ?_ fun hD0 => ?_
   ·rintro a w_ ⟨v9, F, si⟩
    refine ho 7 rfl (by kernel_rfl) ?_
    obtain ⟨_, hr_⟩ := (si.f6.BO m5)
    refine Aq Dq F si.f6 JQ rfl rfl rfl rfl hr_ rfl rfl hl rfl fun va we _ F sj => ?_
    have s10860618' := sj.f5.drop
    refine gw 1 F rfl fun _ F => ⟨s10860618'.drop.f4.drop, ?_⟩
    refine hq [8, 9] F s10860618'.drop.f4.drop (QI.ev 2 rfl <| QI.nil) (by kernel_rfl) fun _ F => ?_
    refine ho 10 rfl (by kernel_rfl) ?_
    have sk := s10860618'.f5
    refine Au F sk rfl rfl Ah7 (Ae (fO sk m1)) (Ap (fO sk m1)) rfl fun wf _ F sl => gw 1 F rfl fun _ F => ⟨sl.drop.drop, ?_⟩
    refine Ea (by kernel_rfl) ?_
    refine ge 1 F rfl fun _ F => Dk BL sl.drop ?_
    have sm := sl.drew
    refine hq [0, 1, 2, 3, 5, 6, 7] F sm.drop (QI.ev 6 rfl <| QI.ld m2 rfl <| QI.nil) (by kernel_rfl) fun _ F => ?_
    refine ho 4 rfl (by kernel_rfl) ?_
    refine AV F sm m0 1 rfl fun _ F => ⟨sm.drop, ?_⟩
    refine hq [8, 9, 10] F sm.drop (QI.op rfl (fun _ hC => SQ rfl rfl) rfl <| QI.ev 2 rfl <| QI.nil) (by kernel_rfl) fun _ F => ?_
    refine ho 11 rfl (by kernel_rfl) ?_
    refine Au F sm rfl rfl JK rfl rfl rfl fun wg _ F sn => gw 1 F rfl fun _ F => ⟨sn.drop, ?_⟩
    refine Ea (by kernel_rfl) ?_
    cases H
    exact ge 6 F rfl fun _ F => ⟨_, rfl, va, F.sb, sn.f2.drop.f2.drop.f1.f3.f3.f3⟩
   refine Hw 4 6 rfl rfl (by kernel_rfl) ?_ ?_
   ·refine AV F sh m2 1 rfl fun _ F => ⟨sh.f2.drop.f4.drop, ?_⟩
    refine ho 6 rfl (by kernel_rfl) ?_
    refine Ad (parts := [(0, .tmp 66)]) Dq ([(⟨x4.1.At, x4.1.Op, x4.1.A, x4.1.B⟩ : AA)] : List AA) F sh JQ rfl (by decide) rfl rfl rfl (by simp [Value.cells]) rfl rfl rfl fun v9 wh _ F so => ?_
    exact gw 1 F rfl fun _ F => ⟨so.drop.f2.drop.f4.drop, E5 hD0 ⟨v9, F.sb, so.f6.f4.f2.f6.f6.f6.f6⟩ (by kernel_rfl)⟩
   refine Ad (parts := [(0, .tmp 66)]) Dq ([(⟨x4.1.At, x4.1.Op, x4.1.A, x4.1.B⟩ : AA)] : List AA) F sh JQ rfl (by decide) rfl rfl rfl (by simp [Value.cells]) rfl rfl rfl fun v9 wh _ F so => ?_
   refine gw 1 F rfl fun _ F => ⟨so.drop.f2.drop.f4.drop, ?_⟩
   refine ho 4 rfl (by kernel_rfl) ?_
   exact AV F so m3 1 rfl fun _ F => ⟨so.drop.f2.drop.f4.drop, E5 hD0 ⟨v9, F.sb, so.f6.f4.f2.f6.f6.f6.f6⟩ (by kernel_rfl)⟩
  cases H
  obtain rfl := hr _ rfl
  exact ⟨v8, F.sb, sa.f1.drop.f1.drop⟩
 intro _ wi hJ
 obtain ⟨v7, F, sp⟩ := hJ
 have H := R0
 clear R0 H0
 cases H
 exact ge 10 F rfl fun _ F => rt F ⟨_, rfl, (SL.YU (qs := [AB g2 81 [v7, jI o0.2], Sl Bc v7 o0.1]) ⟨g2, v7, rfl, rfl⟩ sp.f1.f1)⟩
theorem N6 {w : World} {FF : List Nat} {g0 : Nat} {v0_0 : Value} {a0 : AK} {r : (List Int)} (hst : Ba [AB g0 81 [v0_0, jI a0.AX], Sl Bc v0_0 a0.l] w FF) (H : Fj a0 = some r) :
    Calls prog 27 #[jP g0] w (B8 fun u_ w_ => ∃ u0 : Value, u_ = u0 ∧ SL w FF w_ [AB g0 81 [v0_0, jI a0.AX], Sl Bc v0_0 a0.l, Sl (Ty.int .i64) u0 r]) := by
 have s0 : SL w FF w [AB g0 81 [v0_0, jI a0.AX], Sl Bc v0_0 a0.l] := SL.init w FF hst
 refine Cb func27 ntmps27 16 rfl rfl rfl fun _ F => ?_
 unfold Fj at H
 refine AV F s0 m0 0 rfl fun _ F => ?_
 obtain ⟨o0, H0, R0⟩ := Aa H
 clear H
 refine gx F (Ak rfl underlying75 (fO s0 m1)) 3 rfl rfl fun _ F => Cx (fun a w_ => ∃ v0 : Value, Fr a 28 [(3, v0)] ∧ SL w FF w_ [AB g0 81 [v0_0, jI a0.AX], Sl Bc v0_0 a0.l, Sl (Ty.int .i64) v0 o0]) ?_ ?_
 ·have H := H0
  refine gc 1 F rfl fun _ F => E6 (Eo a0) (fun s1 a w_ => ∃ v1 : Value, Fr a 28 [(3, v1), (9, v0_0), (10, jI (a0.l.length : Int)), (11, jI s1.2)] ∧ SL w FF w_ [AB g0 81 [v0_0, jI a0.AX], Sl Bc v0_0 a0.l, Sl (Ty.int .i64) v1 s1.1]) H ?_ ?_
  ·exact ⟨(.slice none 0 0), F.sb, (SL.Ca (T := (Ty.int .i64)) s0).f2.f2⟩
  intro s1 _ w0 h0 o1 H hr
  obtain ⟨v1, F, s2⟩ := h0
  replace H : Eo a0 s1 = some o1 := H
  unfold Eo at H
  refine gc 6 F rfl fun _ F => Be F H 6 4 rfl rfl rfl (fun h1 H _ F => ?_) (fun h1 H _ F => ?_)
  ·obtain ⟨x0, h2, H⟩ := Aa H
   obtain ⟨a1, h3, h4⟩ := Av Dq s2 m1 JQ rfl h2
   refine gi F h3 0 rfl fun _ F => gx F (Ar Fh rfl (SL.CC Dq s2 m1 h4 h2) rfl) 0 rfl rfl fun _ F => Ag F s2 IL rfl rfl fun g1 w1 _ F s3 => Ah F s3 rfl rfl GH (Ab rfl (Ab rfl (Ab rfl (Ab rfl Al)))) (Ac rfl) fun w2 _ F s4 => gw 5 F rfl fun _ F => AV F s4 m0 3 rfl fun _ F => Be F H 3 7 rfl rfl rfl (fun h5 H _ F => ?_) (fun h5 H _ F => ?_)
   ·refine AV F s4 m0 0 rfl fun _ F => ?_
    refine Ad (parts := [(0, .tmp 20)]) (Flat.int .i64) ([x0.A] : List Int) F s4 BC rfl (by decide) rfl rfl rfl (by simp [Value.cells]) rfl rfl rfl fun v2 w3 _ F s5 => ?_
    obtain ⟨x1, h6, H⟩ := Aa H
    obtain ⟨_, hr_⟩ := (s5.f4.BO m1)
    refine Aq (Flat.int .i64) F s5.f4 BC rfl rfl rfl rfl hr_ rfl rfl h6 rfl fun v3 w4 _ F s6 => ?_
    have s3264' := s6.f1.drop
    cases H
    exact gw 8 F rfl fun _ F => ⟨_, rfl, v3, F.sb, s3264'.f1.drop.f2.f2⟩
   cases H
   exact ⟨_, rfl, v1, F.sb, s4.drop⟩
  cases H
  obtain rfl := hr _ rfl
  exact ⟨v1, F.sb, s2⟩
 intro _ w5 hJ
 obtain ⟨v0, F, s7⟩ := hJ
 have H := R0
 clear R0 H0
 obtain ⟨x2, h7, H⟩ := Aa H
 obtain ⟨G0, h8, h9, ha, hb⟩ := SL.open_ (ps := [Sl (Ty.int .i64) v0 o0]) (rest := [AB g0 81 [v0_0, jI a0.AX], Sl Bc v0_0 a0.l]) s7.f2
 refine ge 4 F rfl fun _ F => Ai (args := [.tmp 24]) F SD rfl (TR Pq h8 h7) rfl fun v4 w6 _ hc F => ?_
 obtain ⟨rfl, hd⟩ := hc
 have s8 := hb _ _ hd
 obtain ⟨x3, he, H⟩ := Aa H
 obtain ⟨G1, hf, hg, hh, hi⟩ := SL.open_ (ps := [Sl (Ty.int .i64) v0 x2]) (rest := [AB g0 81 [v0_0, jI a0.AX], Sl Bc v0_0 a0.l]) s8
 refine gw 5 F rfl fun _ F => Ai (args := [.tmp 26]) F Zx rfl (Tw RL hf he) rfl fun v5 w7 _ hj F => ?_
 have s9 := hi _ _ hj
 cases H
 exact gw 4 F rfl fun _ F => rt F ⟨v5, rfl, s9.f2.f2⟩
theorem Xe {w : World} {v0_1 v0_2 v0_3 : Value} {a0 : AH} {a1 : Int} {r : (List Int) × Int × Int} (hr0_1 : Rd AL w [] v0_1 a0.Classes) (hr0_2 : Rd Es w [] v0_2 a0.Funcs) (hr0_3 : Rd (Ty.slice Ty.u8) w [] v0_3 a0.Ec) (H : L8 a0 a1 = some r) :
    Calls prog 13 #[.agg ⟨[.string ⟨⟨a0.Name⟩⟩, v0_1, v0_2, v0_3]⟩, jI a1] w (B8 fun u_ w_ => ∃ u0 : Value, u_ = .tuple ⟨[u0, jI r.2.1, jI r.2.2]⟩ ∧ SL w [] w_ [Sl (Ty.int .i64) u0 r.1]) := by
 have s0 : SL w [] w [] := SL.BF w
 refine Cb func13 ntmps13 2 rfl rfl rfl fun _ F0 => ?_
 unfold L8 at H
 refine Ao F0 s0 rfl rfl rfl fun g8 w9 _ F s1 => ?_
 obtain ⟨x0, h0, H⟩ := Aa H
 refine gw 7 F rfl fun _ F => AV F s1 m0 1 rfl fun _ F => Ei F (Ry (a0 := (⟨a0.Name, a0.Classes, a0.Funcs, a0.Ec⟩ : AH)) (hr0_1.Bp s1) (hr0_2.Bp s1) (hr0_3.Bp s1) h0) fun v0 w0 _ h1 F => ?_
 obtain ⟨v1, rfl, h2⟩ := h1
 have s2 := s1.add h2
 refine gw 16 F rfl fun _ F => Be F H 11 3 rfl rfl rfl (fun h3 H _ F => ?_) (fun h3 H _ F => ?_)
 ·cases H
  exact rt F ⟨(.slice none 0 0), rfl, (SL.Ca (T := (Ty.int .i64)) s2).f1.drop.f1.drop⟩
 obtain ⟨x1, h4, H⟩ := Aa H
 obtain ⟨_, ⟨g0, v2, rfl, rfl⟩, s3⟩ := SL.VW s2 h4
 obtain ⟨x2, h5, H⟩ := Aa H
 obtain ⟨G0, h6, h7, h8, h9⟩ := SL.open_ (ps := [AB g0 81 [v2, jI x1.AX], Sl Bc v2 x1.l]) (rest := [AB g8 26 [.string ⟨⟨a0.Name⟩⟩, v0_1, v0_2, v0_3]]) s3.f1.f1
 refine gc 2 F rfl fun _ F => Ei F (N6 (a0 := (⟨x1.l, x1.AX⟩ : AK)) h6 h5) fun v3 w1 _ ha F => ?_
 obtain ⟨_, rfl, hb⟩ := ha
 have s4 := h9 _ _ hb
 cases H
 exact gw 6 F rfl fun _ F => rt F ⟨v3, rfl, s4.drop.drop.f1.drop⟩
theorem P9 {w : World} {v0 : Value} {a0 : List Int} {a1 : Int} {r : Int} (hr0 : Rd (Ty.int .i64) w [] v0 a0) (H : HG a0 a1 = some r) :
    Calls prog 51 #[v0, jI a1] w (B8 fun u_ w_ => u_ = jI r ∧ SL w [] w_ []) := by
 have s0 : SL w [] w [] := SL.BF w
 refine Cb func51 ntmps51 9 rfl rfl rfl fun _ F => ?_
 unfold HG at H
 obtain ⟨o0, H0, R0⟩ := Aa H
 clear H
 refine gx F (Ak rfl underlying28 (fR hr0 s0)) 3 rfl rfl fun _ F => Cx (fun a w_ => ∃ p0 : Unit, o0 = .inr (p0) ∧ Fr a 19 [] ∧ SL w [] w_ []) ?_ ?_
 ·have H := H0
  refine gc 1 F rfl fun _ F => E6 (Di a0 a1) (fun s1 a w_ => Fr a 19 [(0, v0), (1, jI a1), (7, jI (a0.length : Int)), (8, jI s1)] ∧ SL w [] w_ []) H ?_ ?_
  ·exact ⟨F.sb, s0⟩
  intro s1 _ w0 h0 o1 H hr
  obtain ⟨F, s2⟩ := h0
  replace H : Di a0 a1 s1 = some o1 := H
  unfold Di at H
  refine gc 6 F rfl fun _ F => Be F H 15 4 rfl rfl rfl (fun h1 H _ F => ?_) (fun h1 H _ F => ?_)
  ·obtain ⟨x0, h2, H⟩ := Aa H
   obtain ⟨a2, h3, h4⟩ := Lm (Flat.int .i64) (EZ hr0 s2) BC rfl h2
   refine gi F h3 0 rfl fun _ F => gx F (As Cn rfl (Cells.at_ h4 (o := 0) rfl)) 3 rfl rfl fun _ F => Be F H 13 7 rfl rfl rfl (fun h5 H _ F => ?_) (fun h5 H _ F => ?_)
   ·cases H
    obtain rfl := hr _ rfl
    replace H := R0
    try dsimp only at H
    cases H
    exact rt F ⟨rfl, s2⟩
   cases H
   exact ⟨_, rfl, F.sb, s2⟩
  cases H
  obtain rfl := hr _ rfl
  exact ⟨_, rfl, F.sb, s2⟩
 intro _ w1 hJ
 obtain ⟨p0, rfl, F, s3⟩ := hJ
 have H := R0
 clear R0 H0
 try dsimp only at H
 cases H
 exact ge 7 F rfl fun _ F => rt F ⟨rfl, s3⟩
theorem Oc {w : World} {v0 : Value} {a0 : List Int} {a1 : Int} {r : Bool} (hr0 : Rd (Ty.int .i64) w [] v0 a0) (H : EB a0 a1 = some r) :
    Calls prog 28 #[v0, jI a1] w (B8 fun u_ w_ => u_ = .bool r ∧ SL w [] w_ []) := by
 have s0 : SL w [] w [] := SL.BF w
 refine Cb func28 ntmps28 9 rfl rfl rfl fun _ F => ?_
 unfold EB at H
 obtain ⟨x0, h0, H⟩ := Aa H
 refine BW F s0 (P9 (hr0.Bp s0) h0) 5 rfl rfl rfl rfl fun w0 _ F s1 => ?_
 cases H
 exact rt F ⟨rfl, s1⟩
theorem PG {w : World} {v0 : Value} {a0 : List Int} {r : (List Int)} (hr0 : Rd (Ty.int .i64) w [] v0 a0) (H : HE a0 = some r) :
    Calls prog 52 #[v0] w (B8 fun u_ w_ => ∃ u0 : Value, u_ = u0 ∧ SL w [] w_ [Sl (Ty.int .i64) u0 r]) := by
 have s0 : SL w [] w [] := SL.BF w
 refine Cb func52 ntmps52 9 rfl rfl rfl fun _ F => ?_
 unfold HE at H
 obtain ⟨A0, c0, h0⟩ := H7 (EZ hr0 s0)
 refine gx F (Ru rfl h0 rfl underlying28) 2 rfl rfl fun _ F => Xi F rfl (fun h1 => ?_) (fun h1 => ?_)
 ·have h2 := YB (EZ hr0 s0) h0 (by simpa using h1)
  replace H := Uq (B := some ([] : List Int)) H (by simp [h2, app])
  cases H
  exact gc 7 F rfl fun _ F => rt F ⟨(.slice none 0 0), rfl, (SL.Ca (T := (Ty.int .i64)) s0)⟩
 refine gc 4 F rfl fun _ F => ?_
 refine Ad (parts := []) (Flat.int .i64) ([] : List Int) F s0 BC rfl (by decide) rfl rfl rfl (by simp [Value.cells]) rfl rfl rfl fun v1 w0 _ F s1 => ?_
 obtain ⟨x0, h3, H⟩ := Aa H
 obtain ⟨_, hr_⟩ := (EZ hr0 s1)
 refine gw 1 F rfl fun _ F => Aq (Flat.int .i64) F s1 BC rfl rfl rfl rfl hr_ rfl rfl h3 rfl fun v2 w1 _ F s2 => ?_
 cases H
 exact gw 4 F rfl fun _ F => rt F ⟨v2, rfl, s2⟩
theorem LL {w : World} {v0 v1 : Value} {a0 : List (List Int)} {a1 : List Int} {r : (List Int)} (hr0 : Rd (Ty.slice (Ty.int .i64)) w [] v0 a0) (hr1 : Rd (Ty.int .i64) w [] v1 a1) (H : E4 a0 a1 = some r) :
    Calls prog 29 #[v0, v1] w (B8 fun u_ w_ => ∃ u0 : Value, u_ = u0 ∧ SL w [] w_ [Sl (Ty.int .i64) u0 r]) := by
 have s0 : SL w [] w [] := SL.BF w
 refine Cb func29 ntmps29 8 rfl rfl rfl fun _ F => ?_
 unfold E4 at H
 obtain ⟨x0, h0, H⟩ := Aa H
 refine gx F (Ak rfl underlying64 (fR hr0 s0)) 0 rfl rfl fun _ F => PW Flat.bool false F s0 S9 rfl rfl YD rfl rfl rfl h0 rfl fun v2 w0 _ F s1 => ?_
 obtain ⟨x1, h1, H⟩ := Aa H
 refine gw 6 F rfl fun _ F => Ei F (PG (hr1.Bp s1) h1) fun v3 w1 _ h2 F => ?_
 obtain ⟨_, rfl, h3⟩ := h2
 have s2 := s1.add h3
 obtain ⟨o0, H0, R0⟩ := Aa H
 clear H
 refine gw 4 F rfl fun _ F => Cx (fun a w_ => ∃ v4 : Value, Fr a 51 [(5, v4)] ∧ SL w [] w_ [Sl Ty.bool v4 o0]) ?_ ?_
 ·have H := H0
  refine gc 1 F rfl fun _ F => E6 (Ef a0) (fun s3 a w_ => ∃ v5 v6 : Value, Fr a 51 [(0, v0), (5, v5), (6, v6)] ∧ SL w [] w_ [Sl Ty.bool v5 s3.1, Sl (Ty.int .i64) v6 s3.2]) H ?_ ?_
  ·exact ⟨v2, v3, F.sb, s2.f1⟩
  intro s3 _ w2 h4 o1 H hr
  obtain ⟨v5, v6, F, s4⟩ := h4
  replace H : Ef a0 s3 = some o1 := H
  unfold Ef at H
  refine gc 4 F rfl fun _ F => gx F (Ak rfl underlying28 (fO s4 m1)) 3 rfl rfl fun _ F => Be F H 6 4 rfl rfl rfl (fun h5 H _ F => ?_) (fun h5 H _ F => ?_)
  ·obtain ⟨x2, h6, H⟩ := Aa H
   obtain ⟨a2, h7, h8⟩ := Av (Flat.int .i64) s4 m1 BC rfl h6
   refine gi F h7 0 rfl fun _ F => ?_
   obtain ⟨x3, h9, H⟩ := Aa H
   obtain ⟨v7, ha, s5⟩ := SL.YS s4.f1 BC rfl h9 (some 1) none (.inl rfl) (.inr ⟨rfl, rfl⟩)
   refine gx F (As Cn rfl (Cells.at_ (SL.CC (Flat.int .i64) s4 m1 h8 h6) (o := 0) rfl)) 6 rfl rfl fun _ F => ?_
   obtain ⟨x4, hb, H⟩ := Aa H
   obtain ⟨a3, hc, hd⟩ := Av Flat.bool s5 m1 S9 rfl hb
   refine gx F (ha _ _ _ _ _ .i64 .i64 _ _ _ _ _ rfl rfl trivial) 8 rfl rfl fun _ F => gi F hc 0 rfl fun _ F => gx F (As Oo rfl (Cells.at_ (SL.CC Flat.bool s5 m1 hd hb) (o := 0) rfl)) 2 rfl rfl fun _ F => Be F H 3 6 rfl rfl rfl (fun he H _ F => ?_) (fun he H _ F => ?_)
   ·cases H
    exact ⟨_, rfl, v5, v7, F.sb, s5.f1⟩
   obtain ⟨x5, hf, H⟩ := Aa H
   obtain ⟨a4, hg, hh⟩ := Av Flat.bool s5 m1 S9 rfl hf
   refine gi F hg 0 rfl fun _ F => ?_
   refine Na (y' := true) Flat.bool F s5.f1 hh hf rfl rfl (by rfl) Yl fun w3 _ F s6 => ?_
   obtain ⟨x6, hi, H⟩ := Aa H
   obtain ⟨a5, c0, G0, hj, hk, hl, hm⟩ := Rd.idx hr0 Z8 rfl hi
   refine gw 3 F rfl fun _ F => ?_
   obtain ⟨v8, rfl, hn⟩ := (Xo hl hm)
   replace hk := hk _ _ s6
   obtain ⟨x7, ho, H⟩ := Aa H
   refine gw 3 F rfl fun _ F => gi F hj 0 rfl fun _ F => gx F (As XM rfl (Cells.at_ hk (o := 0) rfl)) 0 rfl rfl fun _ F => ?_
   obtain ⟨_, hr_⟩ := (EZ hn s6.f1)
   refine Aq (Flat.int .i64) F s6.f1 BC rfl rfl rfl rfl hr_ rfl rfl ho rfl fun v9 w4 _ F s7 => ?_
   cases H
   exact gw 3 F rfl fun _ F => ⟨_, rfl, v5, v9, F.sb, s7.f1⟩
  cases H
  obtain rfl := hr _ rfl
  exact ⟨v5, F.sb, s4.f1.drop⟩
 intro _ w5 hJ
 obtain ⟨v4, F, s8⟩ := hJ
 have H := R0
 clear R0 H0
 refine ge 10 F rfl fun _ F => ?_
 obtain ⟨o2, H1, R1⟩ := Aa H
 clear H
 refine gx F (Ak rfl underlying44 (fO s8 m0)) 3 rfl rfl fun _ F => Cx (fun a w_ => ∃ va : Value, Fr a 51 [(8, va)] ∧ SL w [] w_ [Sl (Ty.int .i64) va o2]) ?_ ?_
 ·have H := H1
  refine gc 1 F rfl fun _ F => E6 (Gc o0) (fun s9 a w_ => ∃ vb : Value, Fr a 51 [(8, vb), (37, v4), (38, jI (o0.length : Int)), (39, jI s9.2)] ∧ SL w [] w_ [Sl Ty.bool v4 o0, Sl (Ty.int .i64) vb s9.1]) H ?_ ?_
  ·exact ⟨(.slice none 0 0), F.sb, (SL.Ca (T := (Ty.int .i64)) s8).f1⟩
  intro s9 _ w6 hp o3 H hr
  obtain ⟨vb, F, sa⟩ := hp
  replace H : Gc o0 s9 = some o3 := H
  unfold Gc at H
  refine gc 6 F rfl fun _ F => Be F H 7 4 rfl rfl rfl (fun hq H _ F => ?_) (fun hq H _ F => ?_)
  ·obtain ⟨x8, hs, H⟩ := Aa H
   obtain ⟨a6, ht, hu⟩ := Av Flat.bool sa m0 S9 rfl hs
   refine gi F ht 0 rfl fun _ F => gx F (As Oo rfl (Cells.at_ (SL.CC Flat.bool sa m0 hu hs) (o := 0) rfl)) 9 rfl rfl fun _ F => Be F H 3 7 rfl rfl rfl (fun hv H _ F => ?_) (fun hv H _ F => ?_)
   ·refine Ad (parts := [(0, .tmp 46)]) (Flat.int .i64) ([s9.2] : List Int) F sa BC rfl (by decide) rfl rfl rfl (by simp [Value.cells]) rfl rfl rfl fun vc w7 _ F sc => ?_
    obtain ⟨x9, hw, H⟩ := Aa H
    obtain ⟨_, hr_⟩ := (sc.f2.BO m1)
    refine Aq (Flat.int .i64) F sc.f2 BC rfl rfl rfl rfl hr_ rfl rfl hw rfl fun vd w8 _ F sd => ?_
    have s3896' := sd.f1.drop
    cases H
    exact gw 8 F rfl fun _ F => ⟨_, rfl, vd, F.sb, s3896'.f1⟩
   cases H
   exact ⟨_, rfl, vb, F.sb, sa⟩
  cases H
  obtain rfl := hr _ rfl
  exact ⟨vb, F.sb, sa.drop⟩
 intro _ w9 hJ
 obtain ⟨va, F, se⟩ := hJ
 have H := R1
 clear R1 H1
 cases H
 exact ge 8 F rfl fun _ F => rt F ⟨va, rfl, se⟩
theorem Xg {w : World} {a0 : AA} {r : Bool} (H : Lv a0 = some r) :
    Calls prog 87 #[.agg ⟨[jI a0.At, jU (a0.Op.toNat : Int), jI a0.A, jI a0.B]⟩] w (B8 fun u_ w_ => u_ = .bool r ∧ SL w [] w_ []) := by
 have s0 : SL w [] w [] := SL.BF w
 refine Cb func87 ntmps87 2 rfl rfl rfl fun _ F0 => ?_
 unfold Lv at H
 refine Ao F0 s0 rfl rfl rfl fun g8 w9 _ F s1 => gw 6 F rfl fun _ F => AV F s1 m0 2 rfl fun _ F => Cp 6 F H (fun h0 H F => ?_) (fun h0 H F => ?_)
 ·refine gw 1 F rfl fun _ F => AY F rfl rfl ?_
  cases H
  exact AV F s1 m0 6 rfl fun _ F => rt F ⟨rfl, s1.drop⟩
 cases H
 exact gw 8 F rfl fun _ F => rt F ⟨rfl, s1.drop⟩
theorem Aay {l l' : List Int} (h : l.Perm l') : D5 l = D5 l' := by
  unfold D5
  exact List.Perm.eq_of_pairwise (le := fun a b => decide (a ≤ b) = true) (fun a b _ _ h1 h2 => by simp at h1 h2; omega) (List.pairwise_mergeSort (fun a b c h1 h2 => by simp at h1 h2 ⊢; omega) (fun a b => by simp; omega) _) (List.pairwise_mergeSort (fun a b c h1 h2 => by simp at h1 h2 ⊢; omega) (fun a b => by simp; omega) _) ((List.mergeSort_perm _ _).trans (h.trans (List.mergeSort_perm _ _).symm))
theorem Jp {w : World} {FF : List Nat} {g0 : Nat} {a0 : List (Int × Int)} {r : List Int} (hst : Ba [Mp (Value.int .i64) (Value.int .i64) g0 a0] w FF) (H : EJ a0 = some r) :
    Calls prog 90 #[.map (some g0)] w (B8 fun u_ w_ => ∃ u0 : Value, u_ = u0 ∧ SL w FF w_ [Mp (Value.int .i64) (Value.int .i64) g0 a0, Sl (Ty.int .i64) u0 r]) := by
  have s0 : SL w FF w [Mp (Value.int .i64) (Value.int .i64) g0 a0] := SL.init w FF hst
  unfold EJ at H
  split at H
  · rename_i hlen
    obtain rfl := BS H
    refine D7 func90 rfl ntmps90 (Nat.le_of_ble_eq_true rfl) (args := [.map (some g0)]) fun q0 F0 => ?_
    refine wp_seq ?_
    refine AZ ?_
    refine Gg F0 (PR.op (Hm rfl) <| PR.nil) fun q1 F1 => ?_
    refine AW ?_
    refine Fe ?_
    refine wp_seq ?_
    refine AZ ?_
    refine Gg F1 (PR.op (Hm rfl) <| PR.nil) fun q2 F2 => ?_
    refine AW ?_
    refine Fe ?_
    refine wp_seq ?_
    refine Lh (fun a w_ => ∃ (v : Value) (js : List Nat), js.Perm (List.range a0.length) ∧ Fr a 18 [(3, v)] ∧ SL w FF w_ [Sl (Ty.int .i64) v ((pick a0 js).map Prod.fst), Mp (Value.int .i64) (Value.int .i64) g0 a0]) ?_ ?_
    · refine wp_seq ?_
      refine AZ ?_
      refine Gg F2 (PR.op (Ou rfl) <| PR.nil) fun q3 F3 => ?_
      refine XN F3 s0 underlying152 rfl rfl fun it w4 q4 F4 s4 => ?_
      refine AW ?_
      refine Fe ?_
      refine wp_block ?_
      refine QA (S := Nat) (R := Unit) (fun s => if s = 0 then some (.inr ()) else some (.inl (s - 1))) (fun s a w_ => ∃ (v : Value) (js : List Nat), js.Nodup ∧ (∀ j ∈ js, j < a0.length) ∧ js.length + s = a0.length ∧ Fr a 18 [(3, v), (6, jP it)] ∧ SL w FF w_ [Sl (Ty.int .i64) v ((pick a0 js).map Prod.fst), NP (Value.int .i64) (Value.int .i64) g0 it a0 js]) (s := a0.length) (r := ()) ?_ ?_ ?_
      · have : ∀ k, AQ (fun s : Nat => if s = 0 then some (.inr ()) else some (.inl (s - 1))) k = some () := by
          intro k
          induction k with
          | zero => rw [GY]; rfl
          | succ k ih => rw [GY, Ay (by omega)]; exact ih
        exact this _
      · exact ⟨.slice none 0 0, [], by simp, by simp, by simp, F4.sub ⟨rfl, rfl, trivial⟩, SL.Ca s4⟩
      · rintro s a w_ ⟨v, js, hn, hl, hls, F5, s5⟩ o ho hr
        refine wp_seq ?_
        refine AZ ?_
        refine ZI F5 s5.f1 rfl rfl (fun q6 hperm F6 => ?_) (fun j p w6 q6 hp hn' hl' F6 s6 => ?_)
        · have h0 : s = 0 := by
            have := hperm.length_eq
            rw [List.length_range] at this
            omega
          subst h0
          obtain rfl : .inr () = o := BS ho
          refine Gg F6 (PR.op (NW (v := .bool false) rfl rfl) <| PR.nil) fun q7 F7 => ?_
          refine AW ?_
          refine Fe ?_
          refine wp_seq ?_
          refine Fv F7 rfl ?_
          refine wp_exit ?_
          refine IP <| IP <| KP ?_
          exact ⟨v, js, hperm, F7.sub ⟨rfl, trivial⟩, s5.f1.unit.f1⟩
        · have hs : s ≠ 0 := by
            intro h0
            have h7 := RD hn' hl'
            have h8 := h7.length_eq
            rw [List.length_append, List.length_append, List.length_range] at h8
            simp only [List.length_cons, List.length_nil] at h8
            omega
          obtain ⟨s', rfl⟩ : ∃ s', s = s' + 1 := ⟨s - 1, by omega⟩
          rw [Ay (by omega)] at ho
          obtain rfl : .inl (s' + 1 - 1) = o := BS ho
          refine Gg F6 (PR.op (NW (v := .bool true) rfl rfl) <| PR.nil) fun q7 F7 => ?_
          refine AW ?_
          refine Fe ?_
          refine wp_seq ?_
          refine DO F7 rfl ?_
          refine wp_skip ?_
          refine Fe ?_
          refine wp_block ?_
          refine wp_seq ?_
          refine AZ ?_
          refine Gg F7 (PR.op (Yb s6 (.head _) hp rfl) <| PR.op (NW (v := jI p.1) rfl rfl) <| PR.op (Hm rfl) <| PR.nil) fun q8 F8 => ?_
          refine AW ?_
          refine Fe ?_
          refine AZ ?_
          refine Gg F8 (PR.op (Ou rfl) <| PR.op (Ou rfl) <| PR.nil) fun q9 F9 => ?_
          refine LZ (parts := [(0, .tmp 12)]) (Flat.int .i64) ([p.1] : List Int) F9 s6 BC rfl (by decide) rfl rfl rfl (by simp [Value.cells]) rfl rfl rfl fun v10 w10 q10 F10 s10 => ?_
          have s11 := s10.f2
          obtain ⟨_, hr_⟩ := (s11.BO (.tail _ <| .head _))
          have happ : app 17592186044416 ((pick a0 js).map Prod.fst) [p.1] = some ((pick a0 (js ++ [j])).map Prod.fst) := by
            have h7 : (pick a0 js).length ≤ js.length := List.length_filterMap_le _ _
            unfold app
            rw [A1 (by simp; omega), RG hp, List.map_append]
            rfl
          refine Km (Flat.int .i64) F10 s11 BC rfl rfl rfl rfl hr_ rfl rfl happ rfl fun v12 w12 q12 F12 s12 => ?_
          refine Gg F12 (PR.op (Hm rfl) <| PR.nil) fun q13 F13 => ?_
          refine AW ?_
          refine NY <| Fe ?_
          refine ⟨s' + 1 - 1, rfl, v12, js ++ [j], hn', hl', by simp; omega, F13.sub ⟨rfl, rfl, trivial⟩, s12.f1.drop⟩
    · rintro a14 w14 ⟨v, js, hperm, F14, s14⟩
      have hk : ((pick a0 js).map Prod.fst).Perm (a0.map Prod.fst) := (RS hperm).map _
      have hlen2 := hk.length_eq
      rw [List.length_map, List.length_map] at hlen2
      have hsort : Ol ((pick a0 js).map Prod.fst) = some (D5 (a0.map Prod.fst)) := by
        unfold Ol
        rw [A1 (by rw [List.length_map]; omega), Aay hk]
      refine wp_seq ?_
      refine AZ ?_
      refine Gg F14 (PR.op (Ou rfl) <| PR.nil) fun q15 F15 => ?_
      obtain ⟨G16, hst16, hF16, hG16, hcl16⟩ := SL.open_ (ps := [Sl (Ty.int .i64) v ((pick a0 js).map Prod.fst)]) (rest := [Mp (Value.int .i64) (Value.int .i64) g0 a0]) s14
      refine HW (args := [.tmp 15]) F15 SD rfl (TR Pq hst16 hsort) rfl fun v17 w17 q17 hS17 F17 => ?_
      obtain ⟨rfl, hq17⟩ := hS17
      have s18 := hcl16 _ _ hq17
      refine AW ?_
      refine Fe ?_
      refine wp_seq ?_
      refine AZ ?_
      refine Gg F17 (PR.op (Ou rfl) <| PR.op (Hm rfl) <| PR.nil) fun q19 F19 => ?_
      refine AW ?_
      refine Fe ?_
      refine wp_ret ?_
      refine HY (rs := [.tmp 2]) (vs := [v]) F19 (by rfl) ⟨_, _, rfl, RV.tmp rfl, rfl⟩ ⟨_, rfl, v, rfl, s18.f1⟩
  · cases H
theorem P0 {w : World} {a0 : AA} {r : (List Int)} (H : Gm a0 = some r) :
    Calls prog 58 #[.agg ⟨[jI a0.At, jU (a0.Op.toNat : Int), jI a0.A, jI a0.B]⟩] w (B8 fun u_ w_ => ∃ u0 : Value, u_ = u0 ∧ SL w [] w_ [Sl (Ty.int .i64) u0 r]) := by
 have s0 : SL w [] w [] := SL.BF w
 refine Cb func58 ntmps58 2 rfl rfl rfl fun _ F0 => ?_
 unfold Gm at H
 refine Ao F0 s0 rfl rfl rfl fun g8 w9 _ F s1 => ?_
 obtain ⟨x0, h0, H⟩ := Aa H
 refine gw 7 F rfl fun _ F => AV F s1 m0 0 rfl fun _ F => BW F s1 (Jf h0) 2 rfl rfl rfl rfl fun w0 _ F s2 => Cp 8 F H (fun h1 H F => ?_) (fun h1 H F => ?_)
 ·cases H
  exact gw 14 F rfl fun _ F => rt F ⟨(.slice none 0 0), rfl, (SL.Ca (T := (Ty.int .i64)) s2).f1.drop⟩
 refine AY F rfl rfl <| AV F s2 m0 0 rfl fun _ F => ?_
 obtain ⟨x1, h2, H⟩ := Aa H
 refine AY F rfl rfl <| BW F s2 (Xg h2) 4 rfl rfl rfl rfl fun w1 _ F s3 => Be F H 7 4 rfl rfl rfl (fun h3 H _ F => ?_) (fun h3 H _ F => ?_)
 ·cases H
  exact rt F ⟨(.slice none 0 0), rfl, (SL.Ca (T := (Ty.int .i64)) s3).f1.drop⟩
 refine QB (Value.int .i64) (Value.int .i64) F s3 rfl fun g0 w2 _ F s4 => ?_
 obtain ⟨x2, h4, H⟩ := Aa H
 refine gw 7 F rfl fun _ F => AV F s4 m1 0 rfl fun _ F => BW F s4 (Tl h4) 3 rfl rfl rfl rfl fun w3 _ F s5 => Be F H 0 6 rfl rfl rfl (fun h5 H _ F => ?_) (fun h5 H _ F => ?_)
 ·obtain ⟨x3, h6, H⟩ := Aa H
  refine Dk BL s5.drop ?_
  refine hq [0, 1, 2, 3, 4] F s5.drew.drop (QI.ev 2 rfl <| QI.ld m0 rfl <| QI.ev 1 rfl <| QI.ld m0 rfl <| QI.nil) (by kernel_rfl) fun _ F => ?_
  refine ho 5 rfl (by kernel_rfl) ?_
  refine BW F s5.drew (Jf h6) 1 rfl rfl rfl rfl fun w4 _ F s6 => ⟨s6.drop, ?_⟩
  refine hq [6] F s6.drop (QI.ev 1 rfl <| QI.nil) (by kernel_rfl) fun _ F => ?_
  refine ho 7 rfl (by kernel_rfl) ?_
  refine IQ (k := wr (a0.At + x3)) (u := 1) F s6 underlying152 FM rfl rfl rfl fun w5 _ F s7 => gw 1 F rfl fun _ F => ⟨s7.drop, ?_⟩
  refine Ea (by kernel_rfl) ?_
  obtain ⟨x4, h7, H⟩ := Aa H
  refine ge 5 F rfl fun _ F => AV F s7 m1 0 rfl fun _ F => BW F s7 (O9 h7) 2 rfl rfl rfl rfl fun w6 _ F s8 => Be F H 3 5 rfl rfl rfl (fun h8 H _ F => ?_) (fun h8 H _ F => ?_)
  ·refine AV F s8 m1 0 rfl fun _ F => IQ (k := a0.A) (u := 1) F s8 underlying152 FM rfl rfl rfl fun w7 _ F s9 => ?_
   obtain ⟨x5, h9, H⟩ := Aa H
   obtain ⟨G0, ha, hb, hc, hd⟩ := SL.open_ (ps := [Mp (Value.int .i64) (Value.int .i64) g0 (C7 (C7 ([] : List (Int × Int)) (wr (a0.At + x3)) 1) a0.A 1)]) (rest := [AB g8 79 [jI a0.At, jU (a0.Op.toNat : Int), jI a0.A, jI a0.B]]) s9
   refine gw 5 F rfl fun _ F => Ei F (Jp ha h9) fun v0 w8 _ he F => ?_
   obtain ⟨_, rfl, hf⟩ := he
   have sa := hd _ _ hf
   cases H
   exact gw 4 F rfl fun _ F => rt F ⟨v0, rfl, sa.drop.f1.drop⟩
  obtain ⟨x6, hg, H⟩ := Aa H
  obtain ⟨G1, hh, hi, hj, hk⟩ := SL.open_ (ps := [Mp (Value.int .i64) (Value.int .i64) g0 (C7 ([] : List (Int × Int)) (wr (a0.At + x3)) 1)]) (rest := [AB g8 79 [jI a0.At, jU (a0.Op.toNat : Int), jI a0.A, jI a0.B]]) s8
  refine Ei F (Jp hh hg) fun v1 wa _ hl F => ?_
  obtain ⟨_, rfl, hm⟩ := hl
  have sb := hk _ _ hm
  cases H
  exact gw 4 F rfl fun _ F => rt F ⟨v1, rfl, sb.drop.f1.drop⟩
 obtain ⟨x7, hn, H⟩ := Aa H
 refine AV F s5 m1 0 rfl fun _ F => BW F s5 (O9 hn) 2 rfl rfl rfl rfl fun wb _ F sc => Be F H 3 5 rfl rfl rfl (fun hp H _ F => ?_) (fun hp H _ F => ?_)
 ·refine AV F sc m1 0 rfl fun _ F => IQ (k := a0.A) (u := 1) F sc underlying152 FM rfl rfl rfl fun wc _ F sd => ?_
  obtain ⟨x8, hr, H⟩ := Aa H
  obtain ⟨G2, hs, ht, hu, hv⟩ := SL.open_ (ps := [Mp (Value.int .i64) (Value.int .i64) g0 (C7 ([] : List (Int × Int)) a0.A 1)]) (rest := [AB g8 79 [jI a0.At, jU (a0.Op.toNat : Int), jI a0.A, jI a0.B]]) sd
  refine gw 5 F rfl fun _ F => Ei F (Jp hs hr) fun v2 wd _ hw F => ?_
  obtain ⟨_, rfl, hx⟩ := hw
  have se := hv _ _ hx
  cases H
  exact gw 4 F rfl fun _ F => rt F ⟨v2, rfl, se.drop.f1.drop⟩
 obtain ⟨x9, hy, H⟩ := Aa H
 obtain ⟨G3, hz, h10, h11, h12⟩ := SL.open_ (ps := [Mp (Value.int .i64) (Value.int .i64) g0 ([] : List (Int × Int))]) (rest := [AB g8 79 [jI a0.At, jU (a0.Op.toNat : Int), jI a0.A, jI a0.B]]) sc
 refine Ei F (Jp hz hy) fun v3 we _ h13 F => ?_
 obtain ⟨_, rfl, h14⟩ := h13
 have sf := h12 _ _ h14
 cases H
 exact gw 4 F rfl fun _ F => rt F ⟨v3, rfl, sf.drop.f1.drop⟩
theorem P8 {w : World} {FF : List Nat} {g1 : Nat} {a0 : AA} {a1 : Int} {r : Bool} (hst : Ba [AB g1 3 [jI a1]] w FF) (H : HA a0 a1 = some r) :
    Calls prog 92 #[.agg ⟨[jI a0.At, jU (a0.Op.toNat : Int), jI a0.A, jI a0.B]⟩, jP g1] w (B8 fun u_ w_ => u_ = .bool r ∧ SL w FF w_ [AB g1 3 [jI a1]]) := by
 have s0 : SL w FF w [AB g1 3 [jI a1]] := SL.init w FF hst
 refine Cb func92 ntmps92 2 rfl rfl rfl fun _ F0 => ?_
 unfold HA at H
 refine Ao F0 s0 rfl rfl rfl fun g8 w9 _ F s1 => gw 6 F rfl fun _ F => AV F s1 m0 0 rfl fun _ F => ?_
 cases H
 exact AV F s1 m1 5 rfl fun _ F => rt F ⟨rfl, s1.drop⟩
theorem Gq {w : World} {FF : List Nat} {g0 : Nat} {v0 : Value} {a0 : List AA} {a200 : Int} {r : Int} (hst : Ba [AB g0 3 [jI a200]] w FF) (hr0 : Rd Bc w FF v0 a0) (H : Ct a0 a200 = some r) :
    Calls prog 91 #[v0, clo 92 [jP g0]] w (B8 fun u_ w_ => u_ = jI r ∧ SL w FF w_ [AB g0 3 [jI a200]]) := by
 have s0 : SL w FF w [AB g0 3 [jI a200]] := SL.init w FF hst
 refine Cb func91 ntmps91 9 rfl rfl rfl fun _ F => ?_
 unfold Ct at H
 obtain ⟨o0, H0, R0⟩ := Aa H
 clear H
 refine gx F (Ak rfl underlying75 (fR hr0 s0)) 3 rfl rfl fun _ F => Cx (fun a w_ => ∃ p0 : Unit, o0 = .inr (p0) ∧ Fr a 19 [] ∧ SL w FF w_ [AB g0 3 [jI a200]]) ?_ ?_
 ·have H := H0
  refine gc 1 F rfl fun _ F => E6 (Bt a0 a200) (fun s1 a w_ => Fr a 19 [(0, v0), (1, clo 92 [jP g0]), (7, jI (a0.length : Int)), (8, jI s1)] ∧ SL w FF w_ [AB g0 3 [jI a200]]) H ?_ ?_
  ·exact ⟨F.sb, s0⟩
  intro s1 _ w0 h0 o1 H hr
  obtain ⟨F, s2⟩ := h0
  replace H : Bt a0 a200 s1 = some o1 := H
  unfold Bt at H
  refine gc 6 F rfl fun _ F => Be F H 15 4 rfl rfl rfl (fun h1 H _ F => ?_) (fun h1 H _ F => ?_)
  ·obtain ⟨x0, h2, H⟩ := Aa H
   obtain ⟨a2, h3, h4⟩ := Lm Dq (EZ hr0 s2) JQ rfl h2
   obtain ⟨x1, h5, H⟩ := Aa H
   refine gi F h3 0 rfl fun _ F => gx F (Ar Fh rfl h4 rfl) 0 rfl rfl fun _ F => ?_
   obtain ⟨G0, h6, h7, h8, h9⟩ := SL.open_ (ps := [AB g0 3 [jI a200]]) (rest := []) s2
   refine El (args := [.tmp 15]) F Ain rfl rfl (P8 (a0 := x0) (a1 := a200) h6 h5) rfl fun v1 w1 _ ha F => ?_
   obtain ⟨rfl, hb⟩ := ha
   have s3 := h9 _ _ hb
   refine gw 2 F rfl fun _ F => Be F H 13 7 rfl rfl rfl (fun hc H _ F => ?_) (fun hc H _ F => ?_)
   ·cases H
    obtain rfl := hr _ rfl
    replace H := R0
    try dsimp only at H
    cases H
    exact rt F ⟨rfl, s3⟩
   cases H
   exact ⟨_, rfl, F.sb, s3⟩
  cases H
  obtain rfl := hr _ rfl
  exact ⟨_, rfl, F.sb, s2⟩
 intro _ w2 hJ
 obtain ⟨p0, rfl, F, s4⟩ := hJ
 have H := R0
 clear R0 H0
 try dsimp only at H
 cases H
 exact ge 7 F rfl fun _ F => rt F ⟨rfl, s4⟩
theorem Kz {w : World} {FF : List Nat} {g0 : Nat} {v0_0 : Value} {a0 : AK} {a1 : Int} {r : Int} (hst : Ba [AB g0 81 [v0_0, jI a0.AX], Sl Bc v0_0 a0.l] w FF) (H : Dc a0 a1 = some r) :
    Calls prog 59 #[jP g0, jI a1] w (B8 fun u_ w_ => u_ = jI r ∧ SL w FF w_ [AB g0 81 [v0_0, jI a0.AX], Sl Bc v0_0 a0.l]) := by
 have s0 : SL w FF w [AB g0 81 [v0_0, jI a0.AX], Sl Bc v0_0 a0.l] := SL.init w FF hst
 refine Cb func59 ntmps59 2 rfl rfl rfl fun _ F0 => ?_
 unfold Dc at H
 refine Ao F0 s0 rfl rfl rfl fun g8 w9 _ F s1 => ?_
 obtain ⟨x0, h0, H⟩ := Aa H
 refine gw 8 F rfl fun _ F => AV F s1 m1 0 rfl fun _ F => gx F (Eg (cs := [.tmp 3]) (vs := [jP g8]) rfl) 0 rfl rfl fun _ F => ?_
 obtain ⟨G0, h1, h2, h3, h4⟩ := SL.open_ (ps := [AB g8 3 [jI a1]]) (rest := [AB g0 81 [v0_0, jI a0.AX], Sl Bc v0_0 a0.l]) s1
 refine Ei F (Gq (a200 := a1) h1 (N2 m1 h3) h0) fun v0 w0 _ h5 F => ?_
 obtain ⟨rfl, h6⟩ := h5
 have s2 := h4 _ _ h6
 cases H
 exact gw 4 F rfl fun _ F => rt F ⟨rfl, s2.drop⟩
theorem Sg {w : World} {FF : List Nat} {g0 : Nat} {v0_0 : Value} {a0 : AK} {r : Bool} (hst : Ba [AB g0 81 [v0_0, jI a0.AX], Sl Bc v0_0 a0.l] w FF) (H : Ex a0 = some r) :
    Calls prog 35 #[jP g0] w (B8 fun u_ w_ => u_ = .bool r ∧ SL w FF w_ [AB g0 81 [v0_0, jI a0.AX], Sl Bc v0_0 a0.l]) := by
 have s0 : SL w FF w [AB g0 81 [v0_0, jI a0.AX], Sl Bc v0_0 a0.l] := SL.init w FF hst
 refine Cb func35 ntmps35 10 rfl rfl rfl fun _ F => ?_
 unfold Ex at H
 obtain ⟨x0, h0, H⟩ := Aa H
 refine AV F s0 m0 0 rfl fun _ F => gx F (Ak rfl underlying75 (fO s0 m1)) 0 rfl rfl fun _ F => PW (Flat.int .i64) (0 : Int) F s0 BC rfl rfl Q6 rfl rfl rfl h0 rfl fun v0 w0 _ F s1 => gw 9 F rfl fun _ F => AV F s1 m1 0 rfl fun _ F => ?_
 obtain ⟨o0, H0, R0⟩ := Aa H
 clear H
 refine gx F (Ak rfl underlying75 (fO s1 m2)) 3 rfl rfl fun _ F => Cx (fun a w_ => ∃ v1 : Value, Fr a 117 [(0, jP g0), (3, v1)] ∧ SL w FF w_ [AB g0 81 [v0_0, jI a0.AX], Sl Bc v0_0 a0.l, Sl (Ty.int .i64) v1 o0]) ?_ ?_
 ·have H := H0
  refine gc 1 F rfl fun _ F => E6 (Ep a0) (fun s2 a w_ => ∃ v2 : Value, Fr a 117 [(0, jP g0), (3, v2), (25, v0_0), (26, jI (a0.l.length : Int)), (27, jI s2.2)] ∧ SL w FF w_ [AB g0 81 [v0_0, jI a0.AX], Sl Bc v0_0 a0.l, Sl (Ty.int .i64) v2 s2.1]) H ?_ ?_
  ·exact ⟨v0, F.sb, s1.f2.f2⟩
  intro s2 _ w1 h1 o1 H hr
  obtain ⟨v2, F, s3⟩ := h1
  replace H : Ep a0 s2 = some o1 := H
  unfold Ep at H
  refine gc 6 F rfl fun _ F => Be F H 6 4 rfl rfl rfl (fun h2 H _ F => ?_) (fun h2 H _ F => ?_)
  ·obtain ⟨x1, h3, H⟩ := Aa H
   obtain ⟨a1, h4, h5⟩ := Av Dq s3 m1 JQ rfl h3
   refine gi F h4 0 rfl fun _ F => gx F (Ar Fh rfl (SL.CC Dq s3 m1 h5 h3) rfl) 0 rfl rfl fun _ F => Ag F s3 IL rfl rfl fun g1 w2 _ F s4 => Ah F s4 rfl rfl GH (Ab rfl (Ab rfl (Ab rfl (Ab rfl Al)))) (Ac rfl) fun w3 _ F s5 => ?_
   obtain ⟨x2, h6, H⟩ := Aa H
   refine gw 4 F rfl fun _ F => AV F s5 m0 0 rfl fun _ F => Ei F (P0 h6) fun v3 w4 _ h7 F => ?_
   obtain ⟨_, rfl, h8⟩ := h7
   have s6 := s5.add h8
   obtain ⟨o2, H1, R1⟩ := Aa H
   clear H
   refine gx F (Ak rfl underlying28 (fO s6 m0)) 3 rfl rfl fun _ F => Cx (fun a w_ => ∃ v4 : Value, Fr a 117 [(0, jP g0), (3, v4), (25, v0_0), (26, jI (a0.l.length : Int)), (27, jI s2.2)] ∧ SL w FF w_ [AB g0 81 [v0_0, jI a0.AX], Sl Bc v0_0 a0.l, Sl (Ty.int .i64) v4 o2]) ?_ ?_
   ·have H := H1
    refine gc 1 F rfl fun _ F => E6 (Em a0 x2) (fun s7 a w_ => ∃ v5 : Value, Fr a 117 [(0, jP g0), (3, v5), (25, v0_0), (26, jI (a0.l.length : Int)), (27, jI s2.2), (32, v3), (33, jI (x2.length : Int)), (34, jI s7.2)] ∧ SL w FF w_ [Sl (Ty.int .i64) v3 x2, AB g0 81 [v0_0, jI a0.AX], Sl Bc v0_0 a0.l, Sl (Ty.int .i64) v5 s7.1]) H ?_ ?_
    ·exact ⟨v2, F.sb, s6.f1.drop⟩
    intro s7 _ w5 h9 o3 H hr
    obtain ⟨v5, F, s8⟩ := h9
    replace H : Em a0 x2 s7 = some o3 := H
    unfold Em at H
    refine gc 6 F rfl fun _ F => Be F H 6 4 rfl rfl rfl (fun ha H _ F => ?_) (fun ha H _ F => ?_)
    ·obtain ⟨x3, hb, H⟩ := Aa H
     obtain ⟨a2, hc, hd⟩ := Av (Flat.int .i64) s8 m0 BC rfl hb
     refine gi F hc 0 rfl fun _ F => ?_
     obtain ⟨x4, he, H⟩ := Aa H
     obtain ⟨G0, hf, hg, hh, hi⟩ := SL.open_ (ps := [AB g0 81 [v0_0, jI a0.AX], Sl Bc v0_0 a0.l]) (rest := [Sl (Ty.int .i64) v3 x2, Sl (Ty.int .i64) v5 s7.1]) s8.f2.f2
     refine gx F (As Cn rfl (Cells.at_ (SL.CC (Flat.int .i64) s8 m0 hd hb) (o := 0) rfl)) 7 rfl rfl fun _ F => Ei F (Kz (a0 := (⟨a0.l, a0.AX⟩ : AK)) hf he) fun v6 w6 _ hj F => ?_
     obtain ⟨rfl, hk⟩ := hj
     have s9 := hi _ _ hk
     obtain ⟨x5, hl, H⟩ := Aa H
     obtain ⟨a3, hm, hn⟩ := Av (Flat.int .i64) s9 m3 BC rfl hl
     obtain ⟨x6, ho, H⟩ := Aa H
     obtain ⟨a4, hp, hq⟩ := Av (Flat.int .i64) s9 m3 BC rfl ho
     refine gi F hm 0 rfl fun _ F => gx F (As Cn rfl (Cells.at_ (SL.CC (Flat.int .i64) s9 m3 hn hl) (o := 0) rfl)) 1 rfl rfl fun _ F => gi F hp 0 rfl fun _ F => ?_
     refine Na (y' := wr (x5 + 1)) (Flat.int .i64) F s9.f3 hq ho rfl rfl (by rfl) JK fun w7 _ F sa => ?_
     cases H
     exact gw 7 F rfl fun _ F => ⟨_, rfl, v5, F.sb, sa.f2.f2.f3⟩
    cases H
    obtain rfl := hr _ rfl
    exact ⟨v5, F.sb, s8.drop⟩
   intro _ w8 hJ
   obtain ⟨v4, F, sc⟩ := hJ
   have H := R1
   clear R1 H1
   cases H
   exact ge 6 F rfl fun _ F => ⟨_, rfl, v4, F.sb, sc⟩
  cases H
  obtain rfl := hr _ rfl
  exact ⟨v2, F.sb, s3⟩
 intro _ w9 hJ
 obtain ⟨v1, F, sd⟩ := hJ
 have H := R0
 clear R0 H0
 refine ge 15 F rfl fun _ F => ?_
 obtain ⟨o4, H2, R2⟩ := Aa H
 clear H
 refine gx F (Ak rfl underlying28 (fO sd m2)) 3 rfl rfl fun _ F => Cx (fun a w_ => ∃ v7 : Value, Fr a 117 [(0, jP g0), (3, v1), (8, jI 0), (9, v7)] ∧ SL w FF w_ [AB g0 81 [v0_0, jI a0.AX], Sl Bc v0_0 a0.l, Sl (Ty.int .i64) v1 o0, Sl (Ty.int .i64) v7 o4]) ?_ ?_
 ·have H := H2
  refine gc 1 F rfl fun _ F => E6 (EP o0) (fun se a w_ => ∃ v8 : Value, Fr a 117 [(0, jP g0), (3, v1), (8, jI 0), (9, v8), (48, v1), (49, jI (o0.length : Int)), (50, jI se.2)] ∧ SL w FF w_ [AB g0 81 [v0_0, jI a0.AX], Sl Bc v0_0 a0.l, Sl (Ty.int .i64) v1 o0, Sl (Ty.int .i64) v8 se.1]) H ?_ ?_
  ·exact ⟨(.slice none 0 0), F.sb, (SL.Ca (T := (Ty.int .i64)) sd).f3.f3.f3⟩
  intro se _ wa hs o5 H hr
  obtain ⟨v8, F, sf⟩ := hs
  replace H : EP o0 se = some o5 := H
  unfold EP at H
  refine gc 6 F rfl fun _ F => Be F H 7 4 rfl rfl rfl (fun ht H _ F => ?_) (fun ht H _ F => ?_)
  ·obtain ⟨x7, hu, H⟩ := Aa H
   obtain ⟨a5, hv, hw⟩ := Av (Flat.int .i64) sf m2 BC rfl hu
   refine gi F hv 0 rfl fun _ F => gx F (As Cn rfl (Cells.at_ (SL.CC (Flat.int .i64) sf m2 hw hu) (o := 0) rfl)) 10 rfl rfl fun _ F => Be F H 3 7 rfl rfl rfl (fun hx H _ F => ?_) (fun hx H _ F => ?_)
   ·refine Ad (parts := [(0, .tmp 58)]) (Flat.int .i64) ([se.2] : List Int) F sf BC rfl (by decide) rfl rfl rfl (by simp [Value.cells]) rfl rfl rfl fun v9 wb _ F sg => ?_
    obtain ⟨x8, hy, H⟩ := Aa H
    obtain ⟨_, hr_⟩ := (sg.f4.BO m1)
    refine Aq (Flat.int .i64) F sg.f4 BC rfl rfl rfl rfl hr_ rfl rfl hy rfl fun va wc _ F sh => ?_
    have s70070' := sh.f1.drop
    cases H
    exact gw 8 F rfl fun _ F => ⟨_, rfl, va, F.sb, s70070'.f3.f3.f3⟩
   cases H
   exact ⟨_, rfl, v8, F.sb, sf⟩
  cases H
  obtain rfl := hr _ rfl
  exact ⟨v8, F.sb, sf⟩
 intro _ wd hJ
 obtain ⟨v7, F, si⟩ := hJ
 have H := R2
 clear R2 H2
 obtain ⟨o6, H3, R3⟩ := Aa H
 clear H
 refine ge 2 F rfl fun _ F => Cx (fun a w_ => Fr a 117 [(0, jP g0), (8, jI o6)] ∧ SL w FF w_ [AB g0 81 [v0_0, jI a0.AX], Sl Bc v0_0 a0.l]) ?_ ?_
 ·have H := H3
  refine gc 1 F rfl fun _ F => E6 (Dz a0) (fun sj a w_ => ∃ vb vc : Value, Fr a 117 [(0, jP g0), (3, vb), (8, jI sj.2.1), (9, vc)] ∧ SL w FF w_ [AB g0 81 [v0_0, jI a0.AX], Sl Bc v0_0 a0.l, Sl (Ty.int .i64) vb sj.1, Sl (Ty.int .i64) vc sj.2.2]) H ?_ ?_
  ·exact ⟨v1, v7, F.sb, si⟩
  intro sj _ we hz o7 H hr
  obtain ⟨vb, vc, F, sk⟩ := hz
  replace H : Dz a0 sj = some o7 := H
  unfold Dz at H
  refine gc 4 F rfl fun _ F => gx F (Ak rfl underlying28 (fO sk m3)) 3 rfl rfl fun _ F => Be F H 7 4 rfl rfl rfl (fun h10 H _ F => ?_) (fun h10 H _ F => ?_)
  ·obtain ⟨x9, h11, H⟩ := Aa H
   obtain ⟨a6, h12, h13⟩ := Av (Flat.int .i64) sk m3 BC rfl h11
   refine gx F (Ak rfl underlying28 (fO sk m3)) 1 rfl rfl fun _ F => gi F h12 0 rfl fun _ F => ?_
   obtain ⟨xa, h14, H⟩ := Aa H
   refine gx F (As Cn rfl (Cells.at_ (SL.CC (Flat.int .i64) sk m3 h13 h11) (o := 0) rfl)) 7 rfl rfl fun _ F => ?_
   obtain ⟨vd, h15, sl⟩ := SL.YS sk.f3 BC rfl h14 none (some (wr ((sj.2.2.length : Int) - 1))) (.inr ⟨rfl, rfl⟩) (.inl rfl)
   refine gx F (Ak rfl underlying28 (fO sk m3)) 1 rfl rfl fun _ F => ?_
   obtain ⟨xb, h16, H⟩ := Aa H
   obtain ⟨a7, h17, h18⟩ := Av Dq sl m2 JQ rfl h16
   obtain ⟨xc, h19, H⟩ := Aa H
   refine gx F (h15 _ _ _ _ _ .i64 .i64 _ _ _ _ _ rfl trivial rfl) 15 rfl rfl fun _ F => AV F sl m1 1 rfl fun _ F => gi F h17 0 rfl fun _ F => gx F (Ar Fh rfl (SL.CC Dq sl m2 h18 h16) rfl) 0 rfl rfl fun _ F => Ei F (P0 h19) fun ve wf _ h1a F => ?_
   obtain ⟨_, rfl, h1b⟩ := h1a
   have sm := sl.add h1b
   obtain ⟨o8, H4, R4⟩ := Aa H
   clear H
   refine gx F (Ak rfl underlying28 (fO sm m0)) 3 rfl rfl fun _ F => Cx (fun a w_ => ∃ vf vg : Value, Fr a 117 [(0, jP g0), (3, vf), (8, jI (wr (sj.2.1 + 1))), (9, vg)] ∧ SL w FF w_ [AB g0 81 [v0_0, jI a0.AX], Sl Bc v0_0 a0.l, Sl (Ty.int .i64) vf o8.1, Sl (Ty.int .i64) vg o8.2]) ?_ ?_
   ·have H := H4
    refine gc 1 F rfl fun _ F => E6 (Ek a0 xc) (fun sn a w_ => ∃ vh vi : Value, Fr a 117 [(0, jP g0), (3, vh), (8, jI (wr (sj.2.1 + 1))), (9, vi), (85, ve), (86, jI (xc.length : Int)), (87, jI sn.2.2)] ∧ SL w FF w_ [Sl (Ty.int .i64) ve xc, AB g0 81 [v0_0, jI a0.AX], Sl Bc v0_0 a0.l, Sl (Ty.int .i64) vh sn.1, Sl (Ty.int .i64) vi sn.2.1]) H ?_ ?_
    ·exact ⟨vb, vd, F.sb, sm.f1.f4.f4.f4.f4⟩
    intro sn _ wg h1c o9 H hr
    obtain ⟨vh, vi, F, so⟩ := h1c
    replace H : Ek a0 xc sn = some o9 := H
    unfold Ek at H
    refine gc 6 F rfl fun _ F => Be F H 6 4 rfl rfl rfl (fun h1d H _ F => ?_) (fun h1d H _ F => ?_)
    ·obtain ⟨xd, h1e, H⟩ := Aa H
     obtain ⟨a8, h1f, h1g⟩ := Av (Flat.int .i64) so m0 BC rfl h1e
     refine gi F h1f 0 rfl fun _ F => ?_
     obtain ⟨xe, h1h, H⟩ := Aa H
     obtain ⟨G1, h1i, h1j, h1k, h1l⟩ := SL.open_ (ps := [AB g0 81 [v0_0, jI a0.AX], Sl Bc v0_0 a0.l]) (rest := [Sl (Ty.int .i64) ve xc, Sl (Ty.int .i64) vh sn.1, Sl (Ty.int .i64) vi sn.2.1]) so.f2.f2
     refine gx F (As Cn rfl (Cells.at_ (SL.CC (Flat.int .i64) so m0 h1g h1e) (o := 0) rfl)) 7 rfl rfl fun _ F => Ei F (Kz (a0 := (⟨a0.l, a0.AX⟩ : AK)) h1i h1h) fun vj wh _ h1m F => ?_
     obtain ⟨rfl, h1n⟩ := h1m
     have sp := h1l _ _ h1n
     obtain ⟨xf, h1o, H⟩ := Aa H
     obtain ⟨a9, h1p, h1q⟩ := Av (Flat.int .i64) sp m3 BC rfl h1o
     obtain ⟨xg, h1r, H⟩ := Aa H
     obtain ⟨aa, h1s, h1t⟩ := Av (Flat.int .i64) sp m3 BC rfl h1r
     refine gw 7 F rfl fun _ F => gi F h1p 0 rfl fun _ F => gx F (As Cn rfl (Cells.at_ (SL.CC (Flat.int .i64) sp m3 h1q h1o) (o := 0) rfl)) 1 rfl rfl fun _ F => gi F h1s 0 rfl fun _ F => ?_
     refine Na (y' := wr (xf - 1)) (Flat.int .i64) F sp.f3 h1t h1r rfl rfl (by rfl) JK fun wi _ F sq => ?_
     obtain ⟨xh, h1u, H⟩ := Aa H
     obtain ⟨ab, h1v, h1w⟩ := Av (Flat.int .i64) sq m0 BC rfl h1u
     refine gw 6 F rfl fun _ F => gi F h1v 0 rfl fun _ F => gx F (As Cn rfl (Cells.at_ (SL.CC (Flat.int .i64) sq m0 h1w h1u) (o := 0) rfl)) 3 rfl rfl fun _ F => Be F H 3 7 rfl rfl rfl (fun h1x H _ F => ?_) (fun h1x H _ F => ?_)
     ·refine Ad (parts := [(0, .tmp 106)]) (Flat.int .i64) ([xe] : List Int) F sq BC rfl (by decide) rfl rfl rfl (by simp [Value.cells]) rfl rfl rfl fun vk wj _ F sr => ?_
      obtain ⟨xi, h1y, H⟩ := Aa H
      obtain ⟨_, hr_⟩ := (sr.f5.BO m1)
      refine Aq (Flat.int .i64) F sr.f5 BC rfl rfl rfl rfl hr_ rfl rfl h1y rfl fun vl wk _ F ss => ?_
      have s109208' := ss.f1.drop
      cases H
      exact gw 8 F rfl fun _ F => ⟨_, rfl, vh, vl, F.sb, s109208'.f1.f3.f3.f4⟩
     cases H
     exact ⟨_, rfl, vh, vi, F.sb, sq.f4.f1.f3.f3.f4⟩
    cases H
    obtain rfl := hr _ rfl
    exact ⟨vh, vi, F.sb, so.drop⟩
   intro _ wl hJ
   obtain ⟨vf, vg, F, st⟩ := hJ
   have H := R4
   clear R4 H4
   cases H
   exact ge 1 F rfl fun _ F => ⟨_, rfl, vf, vg, F.sb, st⟩
  cases H
  obtain rfl := hr _ rfl
  exact ⟨F.sb, sk.f2.drop.f2.drop⟩
 intro _ wm hJ
 obtain ⟨F, su⟩ := hJ
 have H := R3
 clear R3 H3
 refine ge 7 F rfl fun _ F => AV F su m0 0 rfl fun _ F => ?_
 cases H
 exact gx F (Ak rfl underlying75 (fO su m1)) 5 rfl rfl fun _ F => rt F ⟨rfl, su⟩
theorem OW {w : World} {FF : List Nat} {g0 : Nat} {v0_1 v0_2 v0_3 v0_4 v0_5 v0_6 v0_7 : Value} {a0 : Bh} {a1 : Int} {r : Bool} (hst : Ba [AB g0 88 [.string ⟨⟨a0.m.Name⟩⟩, v0_1, v0_2, v0_3, v0_4, v0_5, v0_6, v0_7], Sl (Ty.ptr 81 Bi) v0_4 a0.bodies, Sl (Ty.ptr 56 Bf) v0_6 a0.done, Sl Ty.Hk v0_7 a0.rules] w FF) (hr0_1 : Rd AL w FF v0_1 a0.m.Classes) (hr0_2 : Rd Es w FF v0_2 a0.m.Funcs) (hr0_3 : Rd (Ty.slice Ty.u8) w FF v0_3 a0.m.Ec) (hr0_5 : Rd (Ty.slice (Ty.int .i64)) w FF v0_5 a0.calls) (H : Gu a0 a1 = some r) :
    Calls prog 37 #[jP g0, jI a1] w (B8 fun u_ w_ => u_ = .bool r ∧ SL w FF w_ [AB g0 88 [.string ⟨⟨a0.m.Name⟩⟩, v0_1, v0_2, v0_3, v0_4, v0_5, v0_6, v0_7], Sl (Ty.ptr 81 Bi) v0_4 a0.bodies, Sl (Ty.ptr 56 Bf) v0_6 a0.done, Sl Ty.Hk v0_7 a0.rules]) := by
 have s0 : SL w FF w [AB g0 88 [.string ⟨⟨a0.m.Name⟩⟩, v0_1, v0_2, v0_3, v0_4, v0_5, v0_6, v0_7], Sl (Ty.ptr 81 Bi) v0_4 a0.bodies, Sl (Ty.ptr 56 Bf) v0_6 a0.done, Sl Ty.Hk v0_7 a0.rules] := SL.init w FF hst
 refine Cb func37 ntmps37 11 rfl rfl rfl fun _ F => ?_
 unfold Gu at H
 refine AV F s0 m0 1 rfl fun _ F => ?_
 refine Ad (parts := [(0, .tmp 11)]) (Flat.int .i64) ([a1] : List Int) F s0 BC rfl (by decide) rfl rfl rfl (by simp [Value.cells]) rfl rfl rfl fun v0 w0 _ F s1 => ?_
 obtain ⟨x0, h0, H⟩ := Aa H
 refine Ei F (LL (hr0_5.Bp s1) (s1.rd0 m0) h0) fun v1 w1 _ h1 F => ?_
 obtain ⟨_, rfl, h2⟩ := h1
 have s2 := s1.add h2
 obtain ⟨o0, H0, R0⟩ := Aa H
 clear H
 refine gx F (Ak rfl underlying28 (fO s2 m0)) 3 rfl rfl fun _ F => Cx (fun a w_ => ∃ p0 : Unit, o0 = .inr (p0) ∧ Fr a 34 [] ∧ SL w FF w_ [AB g0 88 [.string ⟨⟨a0.m.Name⟩⟩, v0_1, v0_2, v0_3, v0_4, v0_5, v0_6, v0_7], Sl (Ty.ptr 81 Bi) v0_4 a0.bodies, Sl (Ty.ptr 56 Bf) v0_6 a0.done, Sl Ty.Hk v0_7 a0.rules]) ?_ ?_
 ·have H := H0
  refine gc 1 F rfl fun _ F => E6 (DC a0 x0) (fun s3 a w_ => Fr a 34 [(0, jP g0), (13, v1), (14, jI (x0.length : Int)), (15, jI s3)] ∧ SL w FF w_ [Sl (Ty.int .i64) v1 x0, AB g0 88 [.string ⟨⟨a0.m.Name⟩⟩, v0_1, v0_2, v0_3, v0_4, v0_5, v0_6, v0_7], Sl (Ty.ptr 81 Bi) v0_4 a0.bodies, Sl (Ty.ptr 56 Bf) v0_6 a0.done, Sl Ty.Hk v0_7 a0.rules]) H ?_ ?_
  ·exact ⟨F.sb, s2.f1.drop⟩
  intro s3 _ w2 h3 o1 H hr
  obtain ⟨F, s4⟩ := h3
  replace H : DC a0 x0 s3 = some o1 := H
  unfold DC at H
  refine gc 6 F rfl fun _ F => Be F H 6 4 rfl rfl rfl (fun h4 H _ F => ?_) (fun h4 H _ F => ?_)
  ·obtain ⟨x1, h5, H⟩ := Aa H
   obtain ⟨a2, h6, h7⟩ := Av (Flat.int .i64) s4 m0 BC rfl h5
   refine gi F h6 0 rfl fun _ F => ?_
   obtain ⟨x2, h8, H⟩ := Aa H
   obtain ⟨x3, h9, H⟩ := Aa H
   obtain ⟨x4, ha, H⟩ := Aa H
   refine gx F (As Cn rfl (Cells.at_ (SL.CC (Flat.int .i64) s4 m0 h7 h5) (o := 0) rfl)) 4 rfl rfl fun _ F => Dk BL s4 ?_
   obtain ⟨a3, c0, G0, hb, hc, hd, he⟩ := Rd.idx hr0_5 Z8 rfl h8
   obtain ⟨v2, rfl, hf⟩ := (Xo hd he)
   have hc5597_ := hc; clear hc; have hc := fun w_ (hC : SL w FF w_ [Sl (Ty.int .i64) v1 x0, AB g0 88 [.string ⟨⟨a0.m.Name⟩⟩, v0_1, v0_2, v0_3, v0_4, v0_5, v0_6, v0_7], Sl (Ty.ptr 81 Bi) v0_4 a0.bodies, Sl (Ty.ptr 56 Bf) v0_6 a0.done, Sl Ty.Hk v0_7 a0.rules]) => hc5597_ _ _ hC
   refine hq [0, 1, 2, 3, 4, 5, 6, 7, 8, 9, 10, 12] F s4.drew (QI.ev 3 rfl <| QI.ld m1 rfl <| QI.ev 3 rfl <| QI.ld m1 rfl <| QI.ev 1 rfl <| QI.ix hb rfl <| QI.op rfl (fun _ hC => As XM rfl (Cells.at_ (hc _ hC) (o := 0) rfl)) rfl <| QI.ev 1 rfl <| QI.nil) (by kernel_rfl) fun _ F => ?_
   refine ho 11 rfl (by kernel_rfl) ?_
   refine Ei F (LL (hr0_5.Bp s4.drew) (hf.Bp s4.drew) h9) fun v3 w3 _ hg F => ?_
   obtain ⟨_, rfl, hh⟩ := hg
   have s5 := s4.drew.add hh
   refine gw 1 F rfl fun _ F => ⟨s5.drop, ?_⟩
   refine ho 13 rfl (by kernel_rfl) ?_
   refine BW F s5 (Oc (s5.rd0 m0) ha) 1 rfl rfl rfl rfl fun w4 _ F s6 => ⟨s6.drop, ?_⟩
   refine Ea (by kernel_rfl) ?_
   refine ge 1 F rfl fun _ F => Be F H 12 7 rfl rfl rfl (fun hi H _ F => ?_) (fun hi H _ F => ?_)
   ·cases H
    obtain rfl := hr _ rfl
    replace H := R0
    try dsimp only at H
    cases H
    exact rt F ⟨rfl, s6.drop.drop⟩
   cases H
   exact ⟨_, rfl, F.sb, s6.drop⟩
  cases H
  obtain rfl := hr _ rfl
  exact ⟨_, rfl, F.sb, s4.drop⟩
 intro _ w5 hJ
 obtain ⟨p0, rfl, F, s7⟩ := hJ
 have H := R0
 clear R0 H0
 try dsimp only at H
 cases H
 exact ge 7 F rfl fun _ F => rt F ⟨rfl, s7⟩
theorem Gy {w : World} {FF : List Nat} {g0 : Nat} {v0_1 v0_2 v0_3 v0_4 v0_5 v0_6 v0_7 : Value} {a0 : Bh} {a1 : Int} {r : Bool} (hst : Ba [AB g0 88 [.string ⟨⟨a0.m.Name⟩⟩, v0_1, v0_2, v0_3, v0_4, v0_5, v0_6, v0_7], Sl (Ty.ptr 81 Bi) v0_4 a0.bodies, Sl (Ty.ptr 56 Bf) v0_6 a0.done, Sl Ty.Hk v0_7 a0.rules] w FF) (hr0_1 : Rd AL w FF v0_1 a0.m.Classes) (hr0_2 : Rd Es w FF v0_2 a0.m.Funcs) (hr0_3 : Rd (Ty.slice Ty.u8) w FF v0_3 a0.m.Ec) (hr0_5 : Rd (Ty.slice (Ty.int .i64)) w FF v0_5 a0.calls) (H : Da a0 a1 = some r) :
    Calls prog 61 #[jP g0, jI a1, clo 35 []] w (B8 fun u_ w_ => u_ = .bool r ∧ SL w FF w_ [AB g0 88 [.string ⟨⟨a0.m.Name⟩⟩, v0_1, v0_2, v0_3, v0_4, v0_5, v0_6, v0_7], Sl (Ty.ptr 81 Bi) v0_4 a0.bodies, Sl (Ty.ptr 56 Bf) v0_6 a0.done, Sl Ty.Hk v0_7 a0.rules]) := by
 have s0 : SL w FF w [AB g0 88 [.string ⟨⟨a0.m.Name⟩⟩, v0_1, v0_2, v0_3, v0_4, v0_5, v0_6, v0_7], Sl (Ty.ptr 81 Bi) v0_4 a0.bodies, Sl (Ty.ptr 56 Bf) v0_6 a0.done, Sl Ty.Hk v0_7 a0.rules] := SL.init w FF hst
 refine Cb func61 ntmps61 11 rfl rfl rfl fun _ F => ?_
 unfold Da at H
 refine AV F s0 m0 1 rfl fun _ F => ?_
 refine Ad (parts := [(0, .tmp 13)]) (Flat.int .i64) ([a1] : List Int) F s0 BC rfl (by decide) rfl rfl rfl (by simp [Value.cells]) rfl rfl rfl fun v0 w0 _ F s1 => ?_
 obtain ⟨x0, h0, H⟩ := Aa H
 refine Ei F (LL (hr0_5.Bp s1) (s1.rd0 m0) h0) fun v1 w1 _ h1 F => ?_
 obtain ⟨_, rfl, h2⟩ := h1
 have s2 := s1.add h2
 obtain ⟨o0, H0, R0⟩ := Aa H
 clear H
 refine gx F (Ak rfl underlying28 (fO s2 m0)) 3 rfl rfl fun _ F => Cx (fun a w_ => ∃ p0 : Unit, o0 = .inr (p0) ∧ Fr a 31 [] ∧ SL w FF w_ [AB g0 88 [.string ⟨⟨a0.m.Name⟩⟩, v0_1, v0_2, v0_3, v0_4, v0_5, v0_6, v0_7], Sl (Ty.ptr 81 Bi) v0_4 a0.bodies, Sl (Ty.ptr 56 Bf) v0_6 a0.done, Sl Ty.Hk v0_7 a0.rules]) ?_ ?_
 ·have H := H0
  refine gc 1 F rfl fun _ F => E6 (B9 a0 x0) (fun s3 a w_ => Fr a 31 [(0, jP g0), (2, clo 35 []), (15, v1), (16, jI (x0.length : Int)), (17, jI s3)] ∧ SL w FF w_ [Sl (Ty.int .i64) v1 x0, AB g0 88 [.string ⟨⟨a0.m.Name⟩⟩, v0_1, v0_2, v0_3, v0_4, v0_5, v0_6, v0_7], Sl (Ty.ptr 81 Bi) v0_4 a0.bodies, Sl (Ty.ptr 56 Bf) v0_6 a0.done, Sl Ty.Hk v0_7 a0.rules]) H ?_ ?_
  ·exact ⟨F.sb, s2.f1.drop⟩
  intro s3 _ w2 h3 o1 H hr
  obtain ⟨F, s4⟩ := h3
  replace H : B9 a0 x0 s3 = some o1 := H
  unfold B9 at H
  refine gc 6 F rfl fun _ F => Be F H 6 4 rfl rfl rfl (fun h4 H _ F => ?_) (fun h4 H _ F => ?_)
  ·obtain ⟨x1, h5, H⟩ := Aa H
   obtain ⟨a2, h6, h7⟩ := Av (Flat.int .i64) s4 m0 BC rfl h5
   refine gi F h6 0 rfl fun _ F => ?_
   obtain ⟨x2, h8, H⟩ := Aa H
   obtain ⟨a3, h9, ha⟩ := S7 (s4.BO m2) ZD rfl h8
   obtain ⟨p1, hb, hc⟩ := Aa H
   clear H
   refine gx F (As Cn rfl (Cells.at_ (SL.CC (Flat.int .i64) s4 m0 h7 h5) (o := 0) rfl)) 5 rfl rfl fun _ F => ?_
   subst hb
   have H := hc
   obtain ⟨c0, s5⟩ := SL.SZ s4.f2 h8
   obtain ⟨v2, rfl, s6⟩ := O4 s5
   obtain ⟨x3, hd, H⟩ := Aa H
   refine gw 4 F rfl fun _ F => AV F s4 m1 1 rfl fun _ F => gi F h9 0 rfl fun _ F => gx F (As Xt rfl (Cells.at_ ha (o := 0) rfl)) 0 rfl rfl fun _ F => ?_
   obtain ⟨G0, he, hf, hg, hh⟩ := SL.open_ (ps := [AB p1.1 81 [v2, jI p1.2.AX], Sl Bc v2 p1.2.l]) (rest := [J8 (Ty.ptr 81 Bi) v0_4 a0.bodies x1.toNat [LI (some p1)], Sl (Ty.int .i64) v1 x0, AB g0 88 [.string ⟨⟨a0.m.Name⟩⟩, v0_1, v0_2, v0_3, v0_4, v0_5, v0_6, v0_7], Sl (Ty.ptr 56 Bf) v0_6 a0.done, Sl Ty.Hk v0_7 a0.rules]) s6.f1
   refine El (args := [.tmp 28]) F Ah3 rfl rfl (Sg (a0 := (⟨p1.2.l, p1.2.AX⟩ : AK)) he hd) rfl fun v3 w3 _ hi F => ?_
   obtain ⟨rfl, hj⟩ := hi
   have s7 := hh _ _ hj
   refine gw 2 F rfl fun _ F => Be F H 12 7 rfl rfl rfl (fun hk H _ F => ?_) (fun hk H _ F => ?_)
   ·cases H
    obtain rfl := hr _ rfl
    replace H := R0
    try dsimp only at H
    cases H
    exact rt F ⟨rfl, (SL.NJ h8 (SL.OV (f := Il) (x := (⟨p1.2.l, p1.2.AX⟩ : AK)) (SL.Kl (SL.dsl (SL.JI s7 (Flat.int .i64) p1.2.AX).f2))).f2.f2.f2).f1.drop.f3.f3.f2.f3⟩
   cases H
   exact ⟨_, rfl, F.sb, (SL.NJ h8 (SL.OV (f := Il) (x := (⟨p1.2.l, p1.2.AX⟩ : AK)) (SL.Kl (SL.dsl (SL.JI s7 (Flat.int .i64) p1.2.AX).f2))).f2.f2.f2).f4.f4.f2.f4.f4⟩
  cases H
  obtain rfl := hr _ rfl
  exact ⟨_, rfl, F.sb, s4.drop⟩
 intro _ w4 hJ
 obtain ⟨p0, rfl, F, s8⟩ := hJ
 have H := R0
 clear R0 H0
 try dsimp only at H
 cases H
 exact ge 7 F rfl fun _ F => rt F ⟨rfl, s8⟩
theorem UR {w : World} {a0 : AA} {r : Bool} (H : LO a0 = some r) :
    Calls prog 98 #[.agg ⟨[jI a0.At, jU (a0.Op.toNat : Int), jI a0.A, jI a0.B]⟩] w (B8 fun u_ w_ => u_ = .bool r ∧ SL w [] w_ []) := by
 have s0 : SL w [] w [] := SL.BF w
 refine Cb func98 ntmps98 2 rfl rfl rfl fun _ F0 => ?_
 unfold LO at H
 refine Ao F0 s0 rfl rfl rfl fun g8 w9 _ F s1 => gw 6 F rfl fun _ F => ?_
 cases H
 exact AV F s1 m0 5 rfl fun _ F => rt F ⟨rfl, s1.drop⟩
theorem HQ {w : World} {v0 : Value} {a0 : List AA} {r : Int} (hr0 : Rd Bc w [] v0 a0) (H : C4 a0 = some r) :
    Calls prog 91 #[v0, clo 98 []] w (B8 fun u_ w_ => u_ = jI r ∧ SL w [] w_ []) := by
 have s0 : SL w [] w [] := SL.BF w
 refine Cb func91 ntmps91 9 rfl rfl rfl fun _ F => ?_
 unfold C4 at H
 obtain ⟨o0, H0, R0⟩ := Aa H
 clear H
 refine gx F (Ak rfl underlying75 (fR hr0 s0)) 3 rfl rfl fun _ F => Cx (fun a w_ => ∃ p0 : Unit, o0 = .inr (p0) ∧ Fr a 19 [] ∧ SL w [] w_ []) ?_ ?_
 ·have H := H0
  refine gc 1 F rfl fun _ F => E6 (B7 a0) (fun s1 a w_ => Fr a 19 [(0, v0), (1, clo 98 []), (7, jI (a0.length : Int)), (8, jI s1)] ∧ SL w [] w_ []) H ?_ ?_
  ·exact ⟨F.sb, s0⟩
  intro s1 _ w0 h0 o1 H hr
  obtain ⟨F, s2⟩ := h0
  replace H : B7 a0 s1 = some o1 := H
  unfold B7 at H
  refine gc 6 F rfl fun _ F => Be F H 15 4 rfl rfl rfl (fun h1 H _ F => ?_) (fun h1 H _ F => ?_)
  ·obtain ⟨x0, h2, H⟩ := Aa H
   obtain ⟨a1, h3, h4⟩ := Lm Dq (EZ hr0 s2) JQ rfl h2
   obtain ⟨x1, h5, H⟩ := Aa H
   refine gi F h3 0 rfl fun _ F => gx F (Ar Fh rfl h4 rfl) 0 rfl rfl fun _ F => ?_
   refine El (args := [.tmp 15]) F Aip rfl rfl (UR (a0 := x0) h5) rfl fun v1 w1 _ h6 F => ?_
   obtain ⟨rfl, h7⟩ := h6
   have s3 := s2.add h7
   refine gw 2 F rfl fun _ F => Be F H 13 7 rfl rfl rfl (fun h8 H _ F => ?_) (fun h8 H _ F => ?_)
   ·cases H
    obtain rfl := hr _ rfl
    replace H := R0
    try dsimp only at H
    cases H
    exact rt F ⟨rfl, s3⟩
   cases H
   exact ⟨_, rfl, F.sb, s3⟩
  cases H
  obtain rfl := hr _ rfl
  exact ⟨_, rfl, F.sb, s2⟩
 intro _ w2 hJ
 obtain ⟨p0, rfl, F, s4⟩ := hJ
 have H := R0
 clear R0 H0
 try dsimp only at H
 cases H
 exact ge 7 F rfl fun _ F => rt F ⟨rfl, s4⟩
theorem GU {w : World} {v0 : Value} {a0 : List AA} {r : Bool} (hr0 : Rd Bc w [] v0 a0) (H : Cv a0 = some r) :
    Calls prog 97 #[v0, clo 98 []] w (B8 fun u_ w_ => u_ = .bool r ∧ SL w [] w_ []) := by
 have s0 : SL w [] w [] := SL.BF w
 refine Cb func97 ntmps97 9 rfl rfl rfl fun _ F => ?_
 unfold Cv at H
 obtain ⟨x0, h0, H⟩ := Aa H
 refine BW F s0 (HQ (hr0.Bp s0) h0) 5 rfl rfl rfl rfl fun w0 _ F s1 => ?_
 cases H
 exact rt F ⟨rfl, s1⟩
theorem Xf {w : World} {FF : List Nat} {g0 : Nat} {v0_0 : Value} {a0 : AK} {r : Bool} (hst : Ba [AB g0 81 [v0_0, jI a0.AX], Sl Bc v0_0 a0.l] w FF) (H : Je a0 = some r) :
    Calls prog 65 #[jP g0] w (B8 fun u_ w_ => u_ = .bool r ∧ SL w FF w_ [AB g0 81 [v0_0, jI a0.AX], Sl Bc v0_0 a0.l]) := by
 have s0 : SL w FF w [AB g0 81 [v0_0, jI a0.AX], Sl Bc v0_0 a0.l] := SL.init w FF hst
 refine Cb func65 ntmps65 10 rfl rfl rfl fun _ F => ?_
 unfold Je at H
 obtain ⟨x0, h0, H⟩ := Aa H
 refine AV F s0 m0 0 rfl fun _ F => BW F s0 (GU (s0.rd0 m1) h0) 4 rfl rfl rfl rfl fun w0 _ F s1 => ?_
 cases H
 exact rt F ⟨rfl, s1⟩
theorem MJ {w : World} {FF : List Nat} {g0 : Nat} {v0_1 v0_2 v0_3 v0_4 v0_5 v0_6 v0_7 : Value} {a0 : Bh} {a1 : Int} {r : Bool} (hst : Ba [AB g0 88 [.string ⟨⟨a0.m.Name⟩⟩, v0_1, v0_2, v0_3, v0_4, v0_5, v0_6, v0_7], Sl (Ty.ptr 81 Bi) v0_4 a0.bodies, Sl (Ty.ptr 56 Bf) v0_6 a0.done, Sl Ty.Hk v0_7 a0.rules] w FF) (hr0_1 : Rd AL w FF v0_1 a0.m.Classes) (hr0_2 : Rd Es w FF v0_2 a0.m.Funcs) (hr0_3 : Rd (Ty.slice Ty.u8) w FF v0_3 a0.m.Ec) (hr0_5 : Rd (Ty.slice (Ty.int .i64)) w FF v0_5 a0.calls) (H : DF a0 a1 = some r) :
    Calls prog 61 #[jP g0, jI a1, clo 65 []] w (B8 fun u_ w_ => u_ = .bool r ∧ SL w FF w_ [AB g0 88 [.string ⟨⟨a0.m.Name⟩⟩, v0_1, v0_2, v0_3, v0_4, v0_5, v0_6, v0_7], Sl (Ty.ptr 81 Bi) v0_4 a0.bodies, Sl (Ty.ptr 56 Bf) v0_6 a0.done, Sl Ty.Hk v0_7 a0.rules]) := by
 have s0 : SL w FF w [AB g0 88 [.string ⟨⟨a0.m.Name⟩⟩, v0_1, v0_2, v0_3, v0_4, v0_5, v0_6, v0_7], Sl (Ty.ptr 81 Bi) v0_4 a0.bodies, Sl (Ty.ptr 56 Bf) v0_6 a0.done, Sl Ty.Hk v0_7 a0.rules] := SL.init w FF hst
 refine Cb func61 ntmps61 11 rfl rfl rfl fun _ F => ?_
 unfold DF at H
 refine AV F s0 m0 1 rfl fun _ F => ?_
 refine Ad (parts := [(0, .tmp 13)]) (Flat.int .i64) ([a1] : List Int) F s0 BC rfl (by decide) rfl rfl rfl (by simp [Value.cells]) rfl rfl rfl fun v0 w0 _ F s1 => ?_
 obtain ⟨x0, h0, H⟩ := Aa H
 refine Ei F (LL (hr0_5.Bp s1) (s1.rd0 m0) h0) fun v1 w1 _ h1 F => ?_
 obtain ⟨_, rfl, h2⟩ := h1
 have s2 := s1.add h2
 obtain ⟨o0, H0, R0⟩ := Aa H
 clear H
 refine gx F (Ak rfl underlying28 (fO s2 m0)) 3 rfl rfl fun _ F => Cx (fun a w_ => ∃ p0 : Unit, o0 = .inr (p0) ∧ Fr a 31 [] ∧ SL w FF w_ [AB g0 88 [.string ⟨⟨a0.m.Name⟩⟩, v0_1, v0_2, v0_3, v0_4, v0_5, v0_6, v0_7], Sl (Ty.ptr 81 Bi) v0_4 a0.bodies, Sl (Ty.ptr 56 Bf) v0_6 a0.done, Sl Ty.Hk v0_7 a0.rules]) ?_ ?_
 ·have H := H0
  refine gc 1 F rfl fun _ F => E6 (BK a0 x0) (fun s3 a w_ => Fr a 31 [(0, jP g0), (2, clo 65 []), (15, v1), (16, jI (x0.length : Int)), (17, jI s3)] ∧ SL w FF w_ [Sl (Ty.int .i64) v1 x0, AB g0 88 [.string ⟨⟨a0.m.Name⟩⟩, v0_1, v0_2, v0_3, v0_4, v0_5, v0_6, v0_7], Sl (Ty.ptr 81 Bi) v0_4 a0.bodies, Sl (Ty.ptr 56 Bf) v0_6 a0.done, Sl Ty.Hk v0_7 a0.rules]) H ?_ ?_
  ·exact ⟨F.sb, s2.f1.drop⟩
  intro s3 _ w2 h3 o1 H hr
  obtain ⟨F, s4⟩ := h3
  replace H : BK a0 x0 s3 = some o1 := H
  unfold BK at H
  refine gc 6 F rfl fun _ F => Be F H 6 4 rfl rfl rfl (fun h4 H _ F => ?_) (fun h4 H _ F => ?_)
  ·obtain ⟨x1, h5, H⟩ := Aa H
   obtain ⟨a2, h6, h7⟩ := Av (Flat.int .i64) s4 m0 BC rfl h5
   refine gi F h6 0 rfl fun _ F => ?_
   obtain ⟨x2, h8, H⟩ := Aa H
   obtain ⟨a3, h9, ha⟩ := S7 (s4.BO m2) ZD rfl h8
   obtain ⟨p1, hb, hc⟩ := Aa H
   clear H
   refine gx F (As Cn rfl (Cells.at_ (SL.CC (Flat.int .i64) s4 m0 h7 h5) (o := 0) rfl)) 5 rfl rfl fun _ F => ?_
   subst hb
   have H := hc
   obtain ⟨c0, s5⟩ := SL.SZ s4.f2 h8
   obtain ⟨v2, rfl, s6⟩ := O4 s5
   obtain ⟨x3, hd, H⟩ := Aa H
   refine gw 4 F rfl fun _ F => AV F s4 m1 1 rfl fun _ F => gi F h9 0 rfl fun _ F => gx F (As Xt rfl (Cells.at_ ha (o := 0) rfl)) 0 rfl rfl fun _ F => ?_
   obtain ⟨G0, he, hf, hg, hh⟩ := SL.open_ (ps := [AB p1.1 81 [v2, jI p1.2.AX], Sl Bc v2 p1.2.l]) (rest := [J8 (Ty.ptr 81 Bi) v0_4 a0.bodies x1.toNat [LI (some p1)], Sl (Ty.int .i64) v1 x0, AB g0 88 [.string ⟨⟨a0.m.Name⟩⟩, v0_1, v0_2, v0_3, v0_4, v0_5, v0_6, v0_7], Sl (Ty.ptr 56 Bf) v0_6 a0.done, Sl Ty.Hk v0_7 a0.rules]) s6.f1
   refine El (args := [.tmp 28]) F Ahy rfl rfl (Xf (a0 := (⟨p1.2.l, p1.2.AX⟩ : AK)) he hd) rfl fun v3 w3 _ hi F => ?_
   obtain ⟨rfl, hj⟩ := hi
   have s7 := hh _ _ hj
   refine gw 2 F rfl fun _ F => Be F H 12 7 rfl rfl rfl (fun hk H _ F => ?_) (fun hk H _ F => ?_)
   ·cases H
    obtain rfl := hr _ rfl
    replace H := R0
    try dsimp only at H
    cases H
    exact rt F ⟨rfl, (SL.NJ h8 (SL.OV (f := Il) (x := (⟨p1.2.l, p1.2.AX⟩ : AK)) (SL.Kl (SL.dsl (SL.JI s7 (Flat.int .i64) p1.2.AX).f2))).f2.f2.f2).f1.drop.f3.f3.f2.f3⟩
   cases H
   exact ⟨_, rfl, F.sb, (SL.NJ h8 (SL.OV (f := Il) (x := (⟨p1.2.l, p1.2.AX⟩ : AK)) (SL.Kl (SL.dsl (SL.JI s7 (Flat.int .i64) p1.2.AX).f2))).f2.f2.f2).f4.f4.f2.f4.f4⟩
  cases H
  obtain rfl := hr _ rfl
  exact ⟨_, rfl, F.sb, s4.drop⟩
 intro _ w4 hJ
 obtain ⟨p0, rfl, F, s8⟩ := hJ
 have H := R0
 clear R0 H0
 try dsimp only at H
 cases H
 exact ge 7 F rfl fun _ F => rt F ⟨rfl, s8⟩
theorem QG {w : World} {a0 : BM} {a1 : Int} {r : Int} (H : JU a0 a1 = some r) :
    Calls prog 64 #[.agg ⟨[jI a0.Most, .bool a0.Is]⟩, jI a1] w (B8 fun u_ w_ => u_ = jI r ∧ SL w [] w_ []) := by
 have s0 : SL w [] w [] := SL.BF w
 refine Cb func64 ntmps64 2 rfl rfl rfl fun _ F0 => ?_
 unfold JU at H
 refine Ao F0 s0 rfl rfl rfl fun g8 w9 _ F s1 => gw 7 F rfl fun _ F => AV F s1 m0 3 rfl fun _ F => Be F H 9 5 rfl rfl rfl (fun h0 H _ F => ?_) (fun h0 H _ F => ?_)
 ·cases H
  exact rt F ⟨rfl, s1.drop⟩
 cases H
 exact AV F s1 m0 4 rfl fun _ F => rt F ⟨rfl, s1.drop⟩
theorem Abl {w : World} {a0 : Int} {a1 : Int} {r : BM} (H : Oz a0 a1 = some r) :
    Calls prog 95 #[jI a0, jI a1] w (B8 fun u_ w_ => u_ = .agg ⟨[jI r.Most, .bool r.Is]⟩ ∧ SL w [] w_ []) := by
 have s0 : SL w [] w [] := SL.BF w
 refine Cb func95 ntmps95 2 rfl rfl rfl fun _ F0 => ?_
 unfold Oz at H
 refine Ag F0 s0 N4 rfl rfl fun g7 w8 q9 F s1 => gw 10 F rfl fun _ F => Be F H 2 5 rfl rfl rfl (fun h0 H _ F => ?_) (fun h0 H _ F => ?_)
 ·refine gx F (Af (vs := []) N4 SC rfl (cs := [jI 0, .bool false]) (rfl)) 0 rfl rfl fun _ F => Ah F s1 rfl rfl Z3 (Ab rfl (Ab rfl Al)) (Ac rfl) fun w0 _ F s2 => ?_
  cases H
  refine gw 4 F rfl fun _ F => ?_
  refine Aj (rs := [.cell 4 54]) (vs := [.agg ⟨[jI 0, .bool false]⟩]) F (by rfl) ⟨_, _, rfl, Am s2 m0 rfl Ql rfl, rfl⟩ ⟨_, rfl, ⟨rfl, s2.drop⟩⟩
 refine gx F (Af (vs := [jI a0, .bool true]) N4 SC rfl (cs := [jI a0, .bool true]) (rfl)) 0 rfl rfl fun _ F => Ah F s1 rfl rfl Z3 (Ab rfl (Ab rfl Al)) (Ac rfl) fun w1 _ F s3 => ?_
 cases H
 refine gw 3 F rfl fun _ F => ?_
 refine Aj (rs := [.cell 4 54]) (vs := [.agg ⟨[jI a0, .bool true]⟩]) F (by rfl) ⟨_, _, rfl, Am s3 m0 rfl Ql rfl, rfl⟩ ⟨_, rfl, ⟨rfl, s3.drop⟩⟩
structure RW where
  g : Nat
  v1 : Value
  v2 : Value
  v3 : Value
  v4 : Value
  v5 : Value
  v6 : Value
  v7 : Value
abbrev RW.ck (k : RW) (a : Bh) : List Ck := [AB k.g 88 [.string ⟨⟨a.m.Name⟩⟩, k.v1, k.v2, k.v3, k.v4, k.v5, k.v6, k.v7], Sl (Ty.ptr 81 Bi) k.v4 a.bodies, Sl (Ty.ptr 56 Bf) k.v6 a.done, Sl Ty.Hk k.v7 a.rules]
structure RW.In (k : RW) (w : World) (FF : List Nat) (a : Bh) : Prop where
  c : Rd AL w FF k.v1 a.m.Classes
  f : Rd Es w FF k.v2 a.m.Funcs
  t : Rd (Ty.slice Ty.u8) w FF k.v3 a.m.Ec
  l : Rd (Ty.slice (Ty.int .i64)) w FF k.v5 a.calls
theorem RW.In.pass {k : RW} {w0 w : World} {F0 F : List Nat} {a : Bh} {ps : List Ck} (h : k.In w0 F0 a) (hs : SL w0 F0 w ps) (hF : ∀ k ∈ F, k ∈ F0 ∨ w0.heap.size ≤ k) : k.In w F a := ⟨h.c.pass hs hF, h.f.pass hs hF, h.t.pass hs hF, h.l.pass hs hF⟩
def CH (a : Bh) : RK := ⟨a.m.Classes, a.m.Funcs, a.bodies.map (Option.map Prod.snd), a.calls⟩
abbrev wd (a : Bh) (dn : Dn) : Bh := ⟨a.m, a.bodies, a.calls, dn, a.rules⟩
abbrev EK (x : AU) : List Value := [jI x.CQ.Most, .bool x.CQ.Is, jI x.Slots.Most, .bool x.Slots.Is, jI x.Steps.Most, .bool x.Steps.Is, jI x.Cells.Most, .bool x.Cells.Is]
abbrev inC (p : AA) : List Value := [jI p.At, jU (p.Op.toNat : Int), jI p.A, jI p.B]
def Np (f g : Nat) : Value := .func (.func f) #[jP g] #[]
def Jr (g : Nat) : List VV := [⟨Np 38 g, rfl⟩, ⟨Np 39 g, rfl⟩, ⟨Np 40 g, rfl⟩]
theorem Lq {P : Program} {f : FuncId} {args : Array Value} {w0 w : World} {F0 : List Nat} {ps rest : List Ck} {X : Type} {S : Value → X → Prop} {qs : X → List Ck} (hs : SL w0 F0 w (ps ++ rest))
    (h : ∀ F, Ba ps w F → (∀ k ∈ F, k ∈ F0 ∨ w0.heap.size ≤ k) → (∃ G, Ba rest w G ∧ ∀ k ∈ F, k ∉ G) → Calls P f args w (B8 fun u w_ => ∃ x, S u x ∧ SL w F w_ (qs x))) : Calls P f args w (B8 fun u w_ => ∃ x, S u x ∧ SL w0 F0 w_ (qs x ++ rest)) := by
  obtain ⟨F, h1, h2, h3, h4⟩ := SL.open_ hs
  refine (h F h1 h2 h3).mono ?_
  rintro e w' ⟨v, he, x, hS, hq⟩
  exact ⟨v, he, x, hS, h4 _ _ hq⟩
def Vn (n : Nat) : Prop := ∀ {w : World} {FF : List Nat} (k : RW) (a : Bh) (fn : Int) (x : AU), Dw (CH a) n fn = some x → M7 (CH a) n a.done → a.rules = Jr k.g → Ba (k.ck a) w FF → k.In w FF a →
  Calls prog 41 #[jP k.g, jI fn] w (B8 fun u w_ => ∃ dn, (u = Value.agg ⟨EK x⟩ ∧ Iq (CH a) a.done dn) ∧ SL w FF w_ (k.ck (wd a dn)))
theorem Vn.at_ {n : Nat} (h : Vn n) {w0 w : World} {F0 : List Nat} {rest : List Ck} (k : RW) (a : Bh) {fn : Int} {x : AU} (hs : SL w0 F0 w (k.ck a ++ rest)) (hI : k.In w0 F0 a) (hx : Dw (CH a) n fn = some x) (hO : M7 (CH a) n a.done) (hr : a.rules = Jr k.g) :
    Calls prog 41 #[jP k.g, jI fn] w (B8 fun u w_ => ∃ dn, (u = Value.agg ⟨EK x⟩ ∧ Iq (CH a) a.done dn) ∧ SL w0 F0 w_ (k.ck (wd a dn) ++ rest)) :=
  Lq hs fun F h1 h2 _ => h k a fn x hx hO hr h1 (hI.pass hs h2)
def Vk (n : Nat) (k : RW) (a : Bh) (f : Nat) (caps : List Value) (ex : List Ck) (cost : AA → Option Int) : Prop := ∀ {w : World} {FF : List Nat} (dn : Dn) (p : AA) (c : Int), cost p = some c → M7 (CH a) n dn → Ba (k.ck (wd a dn) ++ ex) w FF → k.In w FF a →
  Calls prog f ([Value.agg ⟨inC p⟩] ++ caps).toArray w (B8 fun u w_ => ∃ dn', (u = Value.int .i64 c ∧ Iq (CH a) dn dn') ∧ SL w FF w_ (k.ck (wd a dn') ++ ex))
def QU (b : AK) (lim : Int) (cost : AA → Option Int) (kn : List Int) : Prop := kn.length = b.l.length ∧ ∀ (i : Nat) v, kn[i]? = some v → 0 ≤ v → ∃ n, CV b lim cost n (i : Int) = some v
theorem XT (a : Bh) (i : Int) : idx (CH a).r.bodies i = (idx a.bodies i).map (Option.map fun p => (0, p.2)) := by
  show idx ((a.bodies.map (Option.map Prod.snd)).map (Option.map fun b => (0, b))) i = _
  rw [VE, VE]
  cases idx a.bodies i with
  | none => rfl
  | some o => cases o <;> rfl
theorem X4 (a : Bh) (fn : Int) : Da a fn = Nh (CH a) fn := by
  have : ∀ x, B9 a x = B9 (CH a).r x := fun x => funext fun s => by
    unfold B9
    split
    · congr 1
      funext y
      rw [XT]
      cases idx a.bodies y with
      | none => rfl
      | some o => cases o <;> rfl
    · rfl
  unfold Nh Da
  congr 1
  funext x
  rw [this]
theorem Afo (a : Bh) (fn : Int) : DF a fn = MO (CH a) fn := by
  have : ∀ x, BK a x = BK (CH a).r x := fun x => funext fun s => by
    unfold BK
    split
    · congr 1
      funext y
      rw [XT]
      cases idx a.bodies y with
      | none => rfl
      | some o => cases o <;> rfl
    · rfl
  unfold MO DF
  congr 1
  funext x
  rw [this]
theorem Wb {a : Bh} {fn : Int} {b : AK} (h : idx (CH a).bodies fn = some (some b)) : ∃ g, idx a.bodies fn = some (some (g, b)) := by
  have h2 : idx (a.bodies.map (Option.map Prod.snd)) fn = some (some b) := h
  rw [VE] at h2
  rcases h3 : idx a.bodies fn with _ | _ | p
  · rw [h3] at h2; cases h2
  · rw [h3] at h2; cases h2
  · rw [h3] at h2
    cases h2
    exact ⟨p.1, rfl⟩
abbrev Lc : IE prog := ⟨⟨[(88, 0, 0, 4), (88, 1, 4, 1), (88, 2, 5, 1), (88, 3, 6, 1), (88, 4, 7, 1), (26, 1, 1, 1), (26, 2, 2, 1), (56, 0, 0, 2), (56, 1, 2, 2), (56, 2, 4, 2), (56, 3, 6, 2), (54, 0, 0, 1), (54, 1, 1, 1), (79, 1, 1, 1), (79, 2, 2, 1), (81, 0, 0, 1), (81, 1, 1, 1), (52, 2, 3, 1)],
  [26, 27, 37, 41, 58, 59, 61, 62, 63, 64, 66, 67, 95, 96, 38, 39, 40], [3, 4, 5, 22, 23, 28, 64, 65, 75, 83, 84, 85, 86, 90, 132], [(54, 2), (56, 8), (79, 4), (26, 4), (52, 5)]⟩, by kernel_rfl⟩
theorem Ajp : DL prog 96 = true := by kernel_rfl
theorem QU.get {b : AK} {lim : Int} {cost : AA → Option Int} {kn : List Int} (h : QU b lim cost kn) {i : Int} {p : AA} (hp : idx b.l i = some p) : ∃ v, idx kn i = some v := by
  obtain ⟨h0, h1, h2⟩ := Dd hp
  unfold idx
  rw [A1 h0, Aok (by rw [h.1]; omega)]
  exact ⟨_, rfl⟩
theorem QU.set {b : AK} {lim : Int} {cost : AA → Option Int} {kn : List Int} (h : QU b lim cost kn) {i v : Int} (h0 : 0 ≤ i) {n : Nat} (hv : CV b lim cost n i = some v) : QU b lim cost (kn.set i.toNat v) := by
  refine ⟨by rw [List.length_set]; exact h.1, fun j x hx hx0 => ?_⟩
  rw [List.getElem?_set] at hx
  split at hx
  · rename_i q
    split at hx
    · cases hx
      refine ⟨n, ?_⟩
      rw [← q, show ((i.toNat : Nat) : Int) = i by omega]
      exact hv
    · cases hx
  · exact h.2 j x hx hx0
theorem Abz {n : Nat} {u : Unit} (h : NN n = some u) : n ≤ 1000000000 := by
  unfold NN at h
  split at h
  · assumption
  · cases h
theorem Y6 (p q : Int) : (if p < q then q else p) = max p q := by omega
theorem Ajv (p q : Int) : (if q < p then q else p) = min p q := by omega
theorem Vp {n : Int} (h0 : -9223372036854775808 ≤ n) (h1 : n ≤ 9223372036854775807) : wr n = n := by
  unfold wr
  rw [IntKind.wrap_i64]; omega
noncomputable def Vm (b : AK) (f : Int → Option Int) (ts : List Int) (s : Int × Int) : Option ((Int × Int) ⊕ Int) :=
  if decide (s.2 < (ts.length : Int)) = true then (idx ts s.2).bind fun t => (Dc b t).bind fun j => (f j).bind fun v => some (.inl (max s.1 v, wr (s.2 + 1))) else some (.inr s.1)
theorem Aan {b : AK} {f : Int → Option Int} {ts : List Int} (hl : ts.length ≤ 1000000000) : ∀ (k : Nat) (s r : Int), k ≤ ts.length → Fg b f (ts.drop k) s = some r → AQ (Vm b f ts) (s, (k : Int)) = some r := by
  intro k
  generalize hd : ts.length - k = d
  induction d generalizing k with
  | zero =>
    intro s r hk H
    rw [List.drop_eq_nil_of_le (by omega)] at H
    obtain rfl := BS H
    rw [GY]
    unfold Vm
    rw [Ay (by simp; omega)]
  | succ d ih =>
    intro s r hk H
    have hlt : k < ts.length := by omega
    rw [List.drop_eq_getElem_cons hlt] at H
    unfold Fg at H
    obtain ⟨j, hj, H⟩ := bind_ok H
    obtain ⟨v, hv, H⟩ := bind_ok H
    have := ih (k + 1) (by omega) _ _ (by omega) H
    rw [GY]
    unfold Vm
    rw [A1 (by simp; omega), show idx ts (k : Int) = some ts[k] by unfold idx; rw [A1 (by omega), Int.toNat_natCast]; exact Aok hlt, Aoj, hj, Aoj, hv, Aoj]
    have hw : wr ((k : Int) + 1) = ((k + 1 : Nat) : Int) := by rw [Vp (by omega) (by omega)]; omega
    rw [hw]
    exact this
theorem _root_.Go.Pv.SL.Om {w0 w : World} {F0 : List Nat} {ps : List Ck} {x : Ck} (hs : SL w0 F0 w (ps ++ [x])) : SL w0 F0 w (x :: ps) := hs.re fun F h => by
  obtain ⟨F1, F2, e, h1, h2, hd⟩ := Ba.append.1 h
  refine ⟨F2 ++ F1, ?_, fun k => by rw [e, List.mem_append, List.mem_append]; exact Or.comm⟩
  exact Ba.append.2 ⟨F2, F1, rfl, h2, h1, fun k hk hk' => hd k hk' hk⟩
theorem O3 {w0 w : World} {F0 : List Nat} {ps : List Ck} {v : Value} {l : List (Option (Nat × AK))} {i : Int} {g : Nat} {b : AK} (hs : SL w0 F0 w (Sl (Ty.ptr 81 Bi) v l :: ps)) (hx : idx l i = some (some (g, b))) :
    ∃ vb, SL w0 F0 w (AB g 81 [vb, jI b.AX] :: Sl Bc vb b.l :: J8 (Ty.ptr 81 Bi) v l i.toNat [LI (some (g, b))] :: ps) := by
  obtain ⟨cs1, s1⟩ := SL.SZ hs hx
  obtain ⟨vb, rfl, s2⟩ := O4 s1
  exact ⟨vb, s2.f1⟩
theorem Ox {w0 w : World} {F0 : List Nat} {ps : List Ck} {v vb : Value} {l : List (Option (Nat × AK))} {i : Int} {g : Nat} {b : AK} (hx : idx l i = some (some (g, b))) (hs : SL w0 F0 w (AB g 81 [vb, jI b.AX] :: Sl Bc vb b.l :: J8 (Ty.ptr 81 Bi) v l i.toNat [LI (some (g, b))] :: ps)) :
    SL w0 F0 w (Sl (Ty.ptr 81 Bi) v l :: ps) :=
  SL.NJ hx (SL.OV (f := Il) (x := (⟨b.l, b.AX⟩ : AK)) (SL.Kl (SL.dsl (SL.JI hs (Flat.int .i64) b.AX).f2)))
theorem Ajr {n : Nat} {k : RW} {a : Bh} {f : Nat} {caps : List Value} {ex : List Ck} {cost : AA → Option Int} {limit : Int} {b : AK} {gb : Nat} {fn : Int}
    (hf : DL prog f = true) (hc : Vk n k a f caps ex cost) (hb : idx a.bodies fn = some (some (gb, b))) : ∀ (N : Nat) (i v : Int), CV b limit cost N i = some v → ∀ {w : World} {FF : List Nat} (dn : Dn) (kn : List Int) (vk : Value), M7 (CH a) n dn → QU b limit cost kn →
    Ba (Sl (Ty.int .i64) vk kn :: (k.ck (wd a dn) ++ ex)) w FF → k.In w FF a →
    Calls prog 96 #[jP k.g, jP gb, jI i, jI limit, clo f caps, vk] w (B8 fun u w_ => ∃ x : Dn × List Int, (u = Value.int .i64 v ∧ Iq (CH a) dn x.1 ∧ QU b limit cost x.2) ∧ SL w FF w_ (Sl (Ty.int .i64) vk x.2 :: (k.ck (wd a x.1) ++ ex))) := by
  letI := Lc
  intro N
  induction N with
  | zero => intro i v H; cases H
  | succ N ih =>
  intro i v HL w FF dn kn vk hO hK hst hI
  have H := HL
  unfold CV at H
  obtain ⟨p, hp, H⟩ := bind_ok H
  obtain ⟨ts, hts, H⟩ := bind_ok H
  obtain ⟨_, hfew, H⟩ := bind_ok H
  obtain ⟨s, hs, H⟩ := bind_ok H
  obtain ⟨c, hcst, H⟩ := bind_ok H
  replace H := BS H
  have hi0 : 0 ≤ i := (Dd hp).1
  have s0 : SL w FF w (Sl (Ty.int .i64) vk kn :: (k.ck (wd a dn) ++ ex)) := SL.init w FF hst
  refine D7 func96 rfl ntmps96 (Nat.le_of_ble_eq_true rfl) (args := [jP k.g, jP gb, jI i, jI limit, clo f caps, vk]) fun q0 F0 => ?_
  refine wp_seq ?_
  refine AZ ?_
  refine sv 1 F0 fun _ F1 => ?_
  refine AW ?_
  refine wp_seq ?_
  refine wp_seq ?_
  refine AZ ?_
  obtain ⟨kv, hkv⟩ := hK.get hp
  obtain ⟨ad1, hi1, he1⟩ := HS (Flat.int .i64) s0 (.head _) BC rfl hkv
  refine sv 2 F1 fun _ F2 => ?_
  refine sx F2 (hi1 _ _ _ _ _ _ _ _ _ _ rfl rfl) fun _ F3 => ?_
  refine sx F3 (Ce Cn rfl (Cells.at_ (SL.CC (Flat.int .i64) s0 (.head _) he1 hkv) (o := 0) rfl)) fun _ F4 => ?_
  refine sv 1 F4 fun _ F5 => ?_
  refine AW ?_
  by_cases hk0 : kv ≥ 0
  · have F6 := F5.kt (d := 20) (t := decide (kv ≥ 0)) (decide_eq_true hk0)
    refine DO F6 rfl ?_
    refine wp_seq ?_
    refine AZ ?_
    refine sv 2 F6 fun _ F7 => ?_
    refine sx F7 (hi1 _ _ _ _ _ _ _ _ _ _ rfl rfl) fun _ F8 => ?_
    refine sx F8 (Ce Cn rfl (Cells.at_ (SL.CC (Flat.int .i64) s0 (.head _) he1 hkv) (o := 0) rfl)) fun _ F9 => ?_
    refine sv 1 F9 fun _ F10 => ?_
    refine AW ?_
    refine wp_ret ?_
    obtain ⟨n', hn'⟩ := hK.2 _ _ (K1 hkv).2.2 hk0
    rw [(K1 hkv).2.1] at hn'
    obtain rfl := Agj hn' HL
    exact rt F10 ⟨(dn, kn), ⟨rfl, Iq.refl, hK⟩, s0⟩
  · have F6 := F5.kf (d := 20) (t := decide (kv ≥ 0)) (decide_eq_false hk0)
    refine Fv F6 rfl ?_
    refine wp_skip ?_
    refine wp_seq ?_
    refine AZ ?_
    refine sv 1 F6 fun _ F7 => ?_
    refine AW ?_
    refine wp_seq ?_
    refine wp_seq ?_
    refine AZ ?_
    obtain ⟨vb, s2⟩ := O3 s0.f2 hb
    obtain ⟨ad2, hi2, he2⟩ := HS Dq s2 (.tail _ <| .head _) JQ rfl hp
    refine sv 3 F7 fun _ F8 => ?_
    refine sx F8 (Ce Xx rfl (s2.BP (.head _) rfl)) fun _ F9 => ?_
    refine sv 1 F9 fun _ F10 => ?_
    refine sx F10 (hi2 _ _ _ _ _ _ _ _ _ _ rfl rfl) fun _ F11 => ?_
    refine sx F11 (Iu Fh rfl (SL.CC Dq s2 (.tail _ <| .head _) he2 hp) rfl) fun _ F12 => ?_
    refine Ei F12 (P0 hts) fun v3 w3 _ hS3 F13 => ?_
    obtain ⟨_, rfl, hq3⟩ := hS3
    have s3 := s2.add hq3
    refine sx F13 (Io rfl underlying28 (H7 (s3.BO (.head _)))) fun _ F14 => ?_
    refine sv 1 F14 fun _ F15 => ?_
    refine AW ?_
    have s4 : SL w FF w3 (Sl (Ty.int .i64) v3 ts :: Sl (Ty.int .i64) vk kn :: (k.ck (wd a dn) ++ ex)) := (Ox hb (s3.f3.f3.f3)).f3.f3.f3
    refine Lh (fun a_ w_ => ∃ dn' kn', Iq (CH a) dn dn' ∧ QU b limit cost kn' ∧ Fr a_ 71 [(0, jP k.g), (1, jP gb), (2, jI i), (3, jI limit), (4, clo f caps), (5, vk), (13, jI s)] ∧ SL w FF w_ (Sl (Ty.int .i64) vk kn' :: (k.ck (wd a dn') ++ ex))) ?_ ?_
    · refine wp_block ?_
      refine QA (Vm b (CV b limit cost N) ts) (fun s a_ w_ => ∃ dn' kn', Iq (CH a) dn dn' ∧ QU b limit cost kn' ∧ Fr a_ 71 [(0, jP k.g), (1, jP gb), (2, jI i), (3, jI limit), (4, clo f caps), (5, vk), (13, jI s.1), (32, v3), (33, jI (ts.length : Int)), (34, jI s.2)] ∧ SL w FF w_ (Sl (Ty.int .i64) v3 ts :: Sl (Ty.int .i64) vk kn' :: (k.ck (wd a dn') ++ ex))) (s := (0, 0)) (r := s) (Aan (Abz hfew) 0 0 s (Nat.zero_le _) hs) ?_ ?_
      · exact ⟨dn, kn, Iq.refl, hK, F15.sub ⟨rfl, rfl, rfl, rfl, rfl, rfl, rfl, rfl, rfl, rfl, trivial⟩, s4⟩
      · rintro ⟨sv1, sv2⟩ q5 w5 ⟨dn5, kn5, hE5, hK5, F16, s5⟩ o HB hr
        unfold Vm at HB
        refine wp_seq ?_
        refine AZ ?_
        refine sv 1 F16 fun _ F17 => ?_
        refine AW ?_
        refine wp_seq ?_
        refine ifs F17 HB (fun hb1 HB F18 => ?_) (fun hb1 HB F18 => ?_)
        · refine wp_skip ?_
          refine wp_seq ?_
          refine wp_block ?_
          refine wp_seq ?_
          refine AZ ?_
          obtain ⟨t, ht, HB⟩ := bind_ok HB
          obtain ⟨j, hj, HB⟩ := bind_ok HB
          obtain ⟨vv, hvv, HB⟩ := bind_ok HB
          obtain ⟨ad6, hi6, he6⟩ := HS (Flat.int .i64) s5 (.head _) BC rfl ht
          refine sx F18 (hi6 _ _ _ _ _ _ _ _ _ _ rfl rfl) fun _ F19 => ?_
          refine sx F19 (Ce Cn rfl (Cells.at_ (SL.CC (Flat.int .i64) s5 (.head _) he6 ht) (o := 0) rfl)) fun _ F20 => ?_
          refine sv 1 F20 fun _ F21 => ?_
          refine AW ?_
          refine AZ ?_
          refine sv 5 F21 fun _ F22 => ?_
          obtain ⟨vb7, s7⟩ := O3 s5.f3 hb
          obtain ⟨G7, hst7, hF7, hG7, hcl7⟩ := SL.open_ (ps := [AB gb 81 [vb7, jI b.AX], Sl Bc vb7 b.l]) s7
          refine Ei F22 (Kz hst7 hj) fun v8 w8 _ hS8 F23 => ?_
          obtain ⟨rfl, hq8⟩ := hS8
          have s8 := Ox hb (hcl7 _ _ hq8)
          have s9 : SL w FF w8 ((Sl (Ty.int .i64) vk kn5 :: (k.ck (wd a dn5) ++ ex)) ++ [Sl (Ty.int .i64) v3 ts]) := s8.f3.f3.f3.rot
          refine sv 3 F23 fun _ F24 => ?_
          refine HW F24 Ajp rfl (Lq s9 fun F h1 h2 _ => ih j vv hvv dn5 kn5 vk (hO.ex hE5) hK5 h1 (hI.pass s9 h2)) rfl fun v10 w10 _ hS10 F25 => ?_
          obtain ⟨⟨dn11, kn11⟩, ⟨rfl, hE11, hK11⟩, s11⟩ := hS10
          replace s11 : SL w FF w10 (Sl (Ty.int .i64) v3 ts :: Sl (Ty.int .i64) vk kn11 :: (k.ck (wd a dn11) ++ ex)) := s11.Om
          refine sx F25 (SQ rfl rfl) fun _ F26 => ?_
          refine sv 1 F26 fun _ F27 => ?_
          refine AW ?_
          refine NY ?_
          refine AZ ?_
          refine sv 2 F27 fun _ F28 => ?_
          refine AW ?_
          obtain rfl := BS HB
          exact ⟨_, rfl, dn11, kn11, hE5.trans hE11, hK11, (Y6 sv1 vv) ▸ F28.sub ⟨rfl, rfl, rfl, rfl, rfl, rfl, rfl, rfl, rfl, rfl, trivial⟩, s11⟩
        · refine wp_exit ?_
          refine IP <| IP <| KP ?_
          obtain rfl := BS HB
          obtain rfl := hr _ rfl
          exact ⟨dn5, kn5, hE5, hK5, F18.sub ⟨rfl, rfl, rfl, rfl, rfl, rfl, rfl, trivial⟩, s5.drop⟩
    · rintro q12 w12 ⟨dn12, kn12, hE12, hK12, F30, s12⟩
      refine wp_seq ?_
      refine AZ ?_
      obtain ⟨vb, s13⟩ := O3 s12.f2 hb
      obtain ⟨ad2, hi2, he2⟩ := HS Dq s13 (.tail _ <| .head _) JQ rfl hp
      refine sv 9 F30 fun _ F31 => ?_
      refine sx F31 (Ce Xx rfl (s13.BP (.head _) rfl)) fun _ F32 => ?_
      refine sv 1 F32 fun _ F33 => ?_
      refine sx F33 (hi2 _ _ _ _ _ _ _ _ _ _ rfl rfl) fun _ F34 => ?_
      refine sx F34 (Iu Fh rfl (SL.CC Dq s13 (.tail _ <| .head _) he2 hp) rfl) fun _ F35 => ?_
      have s14 : SL w FF w12 ((k.ck (wd a dn12) ++ ex) ++ [Sl (Ty.int .i64) vk kn12]) := (Ox hb s13).f2.f2.rot
      refine El (args := [.tmp 62]) F35 hf rfl rfl (Lq s14 fun F h1 h2 _ => hc dn12 p c hcst (hO.ex hE12) h1 (hI.pass s14 h2)) rfl fun v15 w15 _ hS15 F36 => ?_
      obtain ⟨dn16, ⟨rfl, hE16⟩, s16⟩ := hS15
      replace s16 : SL w FF w15 (Sl (Ty.int .i64) vk kn12 :: (k.ck (wd a dn16) ++ ex)) := s16.Om
      refine sv 1 F36 fun _ F37 => ?_
      refine sx F37 (ZZ rfl rfl) fun _ F38 => ?_
      obtain ⟨kv2, hkv2⟩ := hK12.get hp
      obtain ⟨ad3, hi3, he3⟩ := HS (Flat.int .i64) s16 (.head _) BC rfl hkv2
      refine sx F38 (hi3 _ _ _ _ _ _ _ _ _ _ rfl rfl) fun _ F39 => ?_
      refine Na (Flat.int .i64) F39 s16 he3 hkv2 rfl rfl rfl JK fun w17 _ F40 s17 => ?_
      refine AW ?_
      rw [Ajv, H] at s17
      have hK17 : QU b limit cost (kn12.set i.toNat v) := hK12.set hi0 HL
      have hv17 : idx (kn12.set i.toNat v) i = some v := by
        obtain ⟨h0, h1, h2⟩ := Dd hkv2
        refine U1 h0 ?_
        rw [List.getElem?_set_self (by omega)]
      refine wp_seq ?_
      refine AZ ?_
      obtain ⟨ad4, hi4, he4⟩ := HS (Flat.int .i64) s17 (.head _) BC rfl hv17
      refine sv 2 F40 fun _ F41 => ?_
      refine sx F41 (hi4 _ _ _ _ _ _ _ _ _ _ rfl rfl) fun _ F42 => ?_
      refine sx F42 (Ce Cn rfl (Cells.at_ (SL.CC (Flat.int .i64) s17 (.head _) he4 hv17) (o := 0) rfl)) fun _ F43 => ?_
      refine sv 1 F43 fun _ F44 => ?_
      refine AW ?_
      refine wp_ret ?_
      exact rt F44 ⟨(dn16, _), ⟨rfl, hE12.trans hE16, hK17⟩, s17⟩
theorem UY (f : Nat) (h : f ∈ [38, 39, 40, 41, 61, 62, 63, 66]) : DL prog f = true := by
  simp only [List.mem_cons, List.not_mem_nil, or_false] at h
  rcases h with rfl | rfl | rfl | rfl | rfl | rfl | rfl | rfl <;> kernel_rfl
theorem Aej : (prog.info? 54).bind (·.zero) = some (.agg ⟨[jI 0, .bool false]⟩) := by kernel_rfl
theorem zr3 : (prog.info? 3).bind (·.zero) = some (jI 0) := by kernel_rfl
theorem US : (prog.info? 54).map (·.size) = some 2 := by kernel_rfl
theorem SN : (prog.info? 56).map (·.size) = some 8 := by kernel_rfl
theorem Ak6 : Gf prog 54 2 = true := by kernel_rfl
theorem Aat : Gf prog 56 8 = true := by kernel_rfl
theorem Pp : Ey prog 64 28 1 24 (Ji 1) = true := by kernel_rfl
theorem OY : Ey prog 84 65 1 8 (Ji 1) = true := by kernel_rfl
theorem Pf : Ey prog 85 132 1 8 (Ji 1) = true := by kernel_rfl
theorem Xm : Ey prog 86 90 1 8 (Ji 1) = true := by kernel_rfl
theorem EA (t : Nat) (h : t ∈ [3, 4, 5, 22, 23, 28, 64, 65, 75, 83, 84, 85, 86, 90, 132]) : Hd prog t = true := by
  simp only [List.mem_cons, List.not_mem_nil, or_false] at h
  rcases h with rfl | rfl | rfl | rfl | rfl | rfl | rfl | rfl | rfl | rfl | rfl | rfl | rfl | rfl | rfl <;> kernel_rfl
def Yq (m s : Int) : Option (Int ⊕ Unit) := if decide (s < m) = true then some (.inl (wr (s + 1))) else some (.inr ())
theorem Aeb {m : Nat} (hm : m ≤ 100000000000000000) : ∀ (d k : Nat), m - k = d → AQ (Yq m) (k : Int) = some () := by
  intro d
  induction d with
  | zero =>
    intro k hd
    rw [GY]
    unfold Yq
    rw [Ay (by simp; omega)]
  | succ d ih =>
    intro k hd
    rw [GY]
    unfold Yq
    rw [A1 (by simp; omega)]
    have hw : wr ((k : Int) + 1) = ((k + 1 : Nat) : Int) := by rw [Vp (by omega) (by omega)]; omega
    rw [hw]
    exact ih (k + 1) (by omega)
theorem Akc {α : Type} {by_ : Nat} {k : Int} {x : α} {l : List α} (h : Jj by_ k x = some l) : l = List.replicate k.toNat x ∧ 0 ≤ k ∧ (by_ : Int) * k ≤ 281474976710656 := by
  unfold Jj at h
  split at h
  · rename_i q; cases h; exact ⟨rfl, q.1, q.2.1⟩
  · cases h
theorem Agy {n : Nat} {k : RW} {a : Bh} {f : Nat} {caps : List Value} {ex : List Ck} {cost : AA → Option Int} {limit fn : Int} {x : BM}
    (hf : DL prog f = true) (hc : Vk n k a f caps ex cost) (H : Hq (CH a) fn limit cost = some x) {w : World} {FF : List Nat} (dn : Dn) (hO : M7 (CH a) n dn) (hst : Ba (k.ck (wd a dn) ++ ex) w FF) (hI : k.In w FF a) :
    Calls prog 62 #[jP k.g, jI fn, jI limit, clo f caps] w (B8 fun u w_ => ∃ dn', (u = Value.agg ⟨[jI x.Most, .bool x.Is]⟩ ∧ Iq (CH a) dn dn') ∧ SL w FF w_ (k.ck (wd a dn') ++ ex)) := by
  letI := Lc
  simp only [Hq, Option.bind_eq_some_iff] at H
  obtain ⟨_, hob, b, rfl, km, hkm, v, hv, H⟩ := H
  obtain ⟨gb, hb⟩ := Wb hob
  obtain ⟨hkm1, hkm2, hkm3⟩ := Akc hkm
  have s0 : SL w FF w (k.ck (wd a dn) ++ ex) := SL.init w FF hst
  refine D7 func62 rfl ntmps62 (Nat.le_of_ble_eq_true rfl) (args := [jP k.g, jI fn, jI limit, clo f caps]) fun q0 F0 => ?_
  refine wp_seq ?_
  refine AZ ?_
  refine MY F0 s0 Aej rfl rfl fun g8 w1 _ F1 s1 => ?_
  refine AW ?_
  refine wp_seq ?_
  refine AZ ?_
  obtain ⟨ad1, hi1, hc1⟩ := S7 (s1.BO (.tail _ <| .tail _ <| .head _)) OY rfl hb
  refine sv 3 F1 fun _ F2 => ?_
  refine sx F2 (Ce (EA 84 (by simp)) rfl (s1.BP (.tail _ <| .head _) rfl)) fun _ F3 => ?_
  refine sv 1 F3 fun _ F4 => ?_
  refine sx F4 (hi1 _ _ _ _ _ _ _ _ _ _ rfl rfl) fun _ F5 => ?_
  refine sx F5 (Ce (EA 65 (by simp)) rfl (Cells.at_ hc1 (o := 0) rfl)) fun _ F6 => ?_
  refine sv 1 F6 fun _ F7 => ?_
  refine AW ?_
  refine wp_seq ?_
  refine AZ ?_
  obtain ⟨vb, s2⟩ := O3 s1.f2 hb
  refine sv 3 F7 fun _ F8 => ?_
  refine sx F8 (Ce (EA 75 (by simp)) rfl (s2.BP (.head _) rfl)) fun _ F9 => ?_
  refine sx F9 (Io rfl underlying75 (H7 (s2.BO (.tail _ <| .head _)))) fun _ F10 => ?_
  refine PW (Flat.int .i64) (0 : Int) F10 s2 BC rfl rfl zr3 rfl rfl rfl hkm rfl fun v3 w3 _ F11 s3 => ?_
  refine sv 1 F11 fun _ F12 => ?_
  refine AW ?_
  have s4 : SL w FF w3 (Sl (Ty.int .i64) v3 km :: AB g8 54 [jI 0, .bool false] :: (k.ck (wd a dn) ++ ex)) := (Ox hb s3.f3.f3.f3).f3.f3.f3
  refine wp_seq ?_
  refine wp_seq ?_
  refine AZ ?_
  refine sv 1 F12 fun _ F13 => ?_
  refine sx F13 (Io rfl underlying28 (H7 (s4.BO (.head _)))) fun _ F14 => ?_
  refine sv 1 F14 fun _ F15 => ?_
  refine AW ?_
  have hkl : km.length = b.l.length := by rw [hkm1, List.length_replicate]; omega
  refine Lh (fun a_ w_ => ∃ kn, QU b limit cost kn ∧ Fr a_ 42 [(0, jP k.g), (2, jI limit), (3, clo f caps), (8, jP g8), (9, jP gb), (10, v3)] ∧ SL w FF w_ (Sl (Ty.int .i64) v3 kn :: AB g8 54 [jI 0, .bool false] :: (k.ck (wd a dn) ++ ex))) ?_ ?_
  · refine wp_block ?_
    refine QA (Yq b.l.length) (fun s a_ w_ => ∃ kn : List Int, kn.length = b.l.length ∧ 0 ≤ s ∧ s ≤ b.l.length ∧ (∀ (j : Nat) v, kn[j]? = some v → (j : Int) < s → v = -1) ∧ Fr a_ 42 [(0, jP k.g), (2, jI limit), (3, clo f caps), (8, jP g8), (9, jP gb), (10, v3), (26, jI (b.l.length : Int)), (27, jI s)] ∧ SL w FF w_ (Sl (Ty.int .i64) v3 kn :: AB g8 54 [jI 0, .bool false] :: (k.ck (wd a dn) ++ ex))) (s := 0) (r := ()) (Aeb (by omega) _ 0 rfl) ?_ ?_
    · exact ⟨km, hkl, Int.le_refl 0, by omega, fun j v _ hj => by omega, F15.sub ⟨rfl, rfl, rfl, rfl, rfl, rfl, by rw [← hkl]; rfl, rfl, trivial⟩, s4⟩
    · rintro s q5 w5 ⟨kn, hl5, h05, h15, hA5, F16, s5⟩ o HB hr
      unfold Yq at HB
      refine wp_seq ?_
      refine AZ ?_
      refine sv 1 F16 fun _ F17 => ?_
      refine AW ?_
      refine wp_seq ?_
      refine ifs F17 HB (fun hb1 HB F18 => ?_) (fun hb1 HB F18 => ?_)
      · refine wp_skip ?_
        refine wp_seq ?_
        refine wp_block ?_
        refine wp_seq ?_
        refine AZ ?_
        refine sv 2 F18 fun _ F19 => ?_
        refine AW ?_
        refine AZ ?_
        rw [Az] at hb1
        obtain ⟨x0, hx0⟩ : ∃ x0, idx kn s = some x0 := by
          unfold idx
          rw [A1 h05, Aok (by omega)]
          exact ⟨_, rfl⟩
        obtain ⟨ad6, hi6, he6⟩ := HS (Flat.int .i64) s5 (.head _) BC rfl hx0
        refine sv 2 F19 fun _ F20 => ?_
        refine sx F20 (hi6 _ _ _ _ _ _ _ _ _ _ rfl rfl) fun _ F21 => ?_
        refine Na (Flat.int .i64) (y' := -1) F21 s5 he6 hx0 rfl rfl rfl JK fun w7 _ F22 s7 => ?_
        refine AW ?_
        refine NY ?_
        refine AZ ?_
        refine sv 2 F22 fun _ F23 => ?_
        refine AW ?_
        obtain rfl := BS HB
        have hw : wr (s + 1) = s + 1 := Vp (by omega) (by omega)
        refine ⟨_, rfl, kn.set s.toNat (-1), by rw [List.length_set]; exact hl5, by omega, by omega, fun j v hj hjs => ?_, F23.sub ⟨rfl, rfl, rfl, rfl, rfl, rfl, rfl, rfl, trivial⟩, s7⟩
        rw [List.getElem?_set] at hj
        split at hj
        · split at hj
          · cases hj; rfl
          · cases hj
        · exact hA5 j v hj (by omega)
      · refine wp_exit ?_
        refine IP <| IP <| KP ?_
        obtain rfl := BS HB
        rw [decide_eq_false_iff_not] at hb1
        refine ⟨kn, ⟨hl5, fun j v hj hv0 => ?_⟩, F18.sub ⟨rfl, rfl, rfl, rfl, rfl, rfl, trivial⟩, s5⟩
        have := (List.getElem?_eq_some_iff.1 hj).1
        have := hA5 j v hj (by omega)
        omega
  · rintro q8 w8 ⟨kn, hK8, F24, s8⟩
    refine wp_seq ?_
    refine AZ ?_
    refine sv 5 F24 fun _ F25 => ?_
    have s9 : SL w FF w8 ((Sl (Ty.int .i64) v3 kn :: (k.ck (wd a dn) ++ ex)) ++ [AB g8 54 [jI 0, .bool false]]) := s8.f1.rot
    refine HW F25 Ajp rfl (Lq s9 fun F h1 h2 _ => Ajr hf hc hb _ 0 v hv dn kn v3 hO hK8 h1 (hI.pass s9 h2)) rfl fun v10 w10 _ hS10 F26 => ?_
    obtain ⟨⟨dn11, kn11⟩, ⟨rfl, hE11, hK11⟩, s11⟩ := hS10
    replace s11 : SL w FF w10 (AB g8 54 [jI 0, .bool false] :: (k.ck (wd a dn11) ++ ex)) := s11.Om.f1.drop
    refine sv 1 F26 fun _ F27 => ?_
    refine stc F27 s11 (Abl H) fun w12 _ F28 s12 => ?_
    refine EL F28 s12 rfl rfl US (Bl rfl (Bl rfl GI)) (Nat.le_of_ble_eq_true rfl) fun w13 _ F29 s13 => ?_
    replace s13 : SL w FF w13 (AB g8 54 [jI x.Most, .bool x.Is] :: (k.ck (wd a dn11) ++ ex)) := s13
    refine AW ?_
    refine wp_ret ?_
    exact HY (rs := [.cell 8 54]) (vs := [.agg ⟨[jI x.Most, .bool x.Is]⟩]) F29 (by rfl) ⟨_, _, rfl, RV.blk s13 (.head _) rfl Ak6 rfl, rfl⟩ ⟨_, rfl, dn11, ⟨rfl, hE11⟩, s13.drop⟩
theorem Aai {x : UInt8} {k : Nat} (hk : k < 256) : ((x.toNat : Int) == (k : Int)) = decide (x = UInt8.ofNat k) := by
  by_cases q : x = UInt8.ofNat k
  · subst q
    rw [decide_eq_true rfl, AG]
    simp only [UInt8.toNat_ofNat']
    omega
  · rw [decide_eq_false q, beq_eq_false_iff_ne]
    intro h
    apply q
    apply UInt8.toNat_inj.1
    simp only [UInt8.toNat_ofNat']
    omega
theorem Xl (i o : Nat) (h : (i, o) ∈ [(0, 0), (1, 2), (2, 4), (3, 6)]) : Aep prog 56 i o 2 = true := by
  simp only [List.mem_cons, List.not_mem_nil, or_false, Prod.mk.injEq] at h
  rcases h with ⟨rfl, rfl⟩ | ⟨rfl, rfl⟩ | ⟨rfl, rfl⟩ | ⟨rfl, rfl⟩ <;> kernel_rfl
theorem Aj4 : fdB prog 54 0 0 = true := by kernel_rfl
theorem Aiq {n : Nat} (hof : Vn n) {k : RW} {a : Bh} (hr : a.rules = Jr k.g) {gx : Nat} : Vk n k a 63 [jP gx] [AB gx 83 [jP k.g]] (Im (Dw (CH a) n)) := by
  letI := Lc
  intro w FF dn p c H hO hst hI
  have s0 : SL w FF w (k.ck (wd a dn) ++ [AB gx 83 [jP k.g]]) := SL.init w FF hst
  refine D7 func63 rfl ntmps63 (Nat.le_of_ble_eq_true rfl) (args := [Value.agg ⟨inC p⟩, jP gx]) fun q0 F0 => ?_
  refine wp_seq ?_
  refine AZ ?_
  refine Hu F0 s0 rfl rfl rfl fun g2 w1 _ F1 s1 => ?_
  refine sv 1 F1 fun _ F2 => ?_
  refine AW ?_
  refine wp_seq ?_
  refine wp_seq ?_
  refine AZ ?_
  refine sv 1 F2 fun _ F3 => ?_
  refine sx F3 (Ce (EA 5 (by simp)) rfl (s1.BP (.head _) rfl)) fun _ F4 => ?_
  refine sv 1 F4 fun _ F5 => ?_
  refine AW ?_
  unfold Im at H
  split at H
  · rename_i hop
    have F6 := F5.kt (d := 6) (t := ((p.Op.toNat : Int) == 21)) (by rw [hop]; rfl)
    refine DO F6 rfl ?_
    refine wp_seq ?_
    refine AZ ?_
    obtain ⟨x, hx, H⟩ := bind_ok H
    obtain ⟨v, hv, H⟩ := bind_ok H
    obtain rfl := BS H
    refine sx F6 (Ce (EA 83 (by simp)) rfl (s1.BP (.tail _ <| .tail _ <| .tail _ <| .tail _ <| .tail _ <| .head _) rfl)) fun _ F7 => ?_
    refine sv 1 F7 fun _ F8 => ?_
    refine sx F8 (Ce (EA 3 (by simp)) rfl (s1.BP (.head _) rfl)) fun _ F9 => ?_
    have s2 : SL w FF w1 (k.ck (wd a dn) ++ [AB gx 83 [jP k.g], AB g2 79 (inC p)]) := s1.rot
    refine Ei F9 (hof.at_ k (wd a dn) s2 ⟨hI.c, hI.f, hI.t, hI.l⟩ hx hO hr) fun v3 w3 _ hS3 F10 => ?_
    obtain ⟨dn3, ⟨rfl, hE3⟩, s3⟩ := hS3
    refine sx F10 (Ph (Xl 2 4 (by simp)) rfl rfl) fun _ F11 => ?_
    refine stc F11 s3 (QG hv) fun w4 _ F12 s4 => ?_
    refine sv 2 F12 fun _ F13 => ?_
    refine AW ?_
    refine wp_ret ?_
    exact rt F13 ⟨dn3, ⟨rfl, hE3⟩, s4.f5.drop⟩
  · rename_i hop
    have F6 := F5.kf (d := 6) (t := ((p.Op.toNat : Int) == 21)) (by rw [show (21 : Int) = ((21 : Nat) : Int) from rfl, Aai (by omega)]; exact decide_eq_false hop)
    refine Fv F6 rfl ?_
    refine wp_skip ?_
    refine wp_seq ?_
    refine AZ ?_
    refine sv 1 F6 fun _ F7 => ?_
    refine AW ?_
    refine wp_ret ?_
    obtain rfl := BS H
    exact rt F7 ⟨dn, ⟨rfl, Iq.refl⟩, s1.drop⟩
theorem Ais {n : Nat} (hof : Vn n) {k : RW} {a : Bh} (hr : a.rules = Jr k.g) {gx : Nat} : Vk n k a 66 [jP gx] [AB gx 83 [jP k.g]] (Hb (CH a) (Dw (CH a) n)) := by
  letI := Lc
  intro w FF dn p c H hO hst hI
  have s0 : SL w FF w (k.ck (wd a dn) ++ [AB gx 83 [jP k.g]]) := SL.init w FF hst
  refine D7 func66 rfl ntmps66 (Nat.le_of_ble_eq_true rfl) (args := [Value.agg ⟨inC p⟩, jP gx]) fun q0 F0 => ?_
  refine wp_seq ?_
  refine AZ ?_
  refine Hu F0 s0 rfl rfl rfl fun g2 w1 _ F1 s1 => ?_
  refine sv 1 F1 fun _ F2 => ?_
  refine AW ?_
  refine wp_seq ?_
  refine wp_seq ?_
  refine AZ ?_
  refine sv 1 F2 fun _ F3 => ?_
  refine sx F3 (Ce (EA 5 (by simp)) rfl (s1.BP (.head _) rfl)) fun _ F4 => ?_
  refine AW ?_
  refine wp_block ?_
  refine wp_seq ?_
  refine AZ ?_
  refine sv 2 F4 fun _ F5 => ?_
  refine AW ?_
  unfold Hb at H
  split at H
  · rename_i hop
    have F6 := F5.kt (d := 6) (t := ((p.Op.toNat : Int) == 21)) (by rw [hop]; rfl)
    refine DO F6 rfl ?_
    refine wp_seq ?_
    refine AZ ?_
    obtain ⟨x, hx, H⟩ := bind_ok H
    refine sx F6 (Ce (EA 83 (by simp)) rfl (s1.BP (.tail _ <| .tail _ <| .tail _ <| .tail _ <| .tail _ <| .head _) rfl)) fun _ F7 => ?_
    refine sv 1 F7 fun _ F8 => ?_
    refine sx F8 (Ce (EA 3 (by simp)) rfl (s1.BP (.head _) rfl)) fun _ F9 => ?_
    have s2 : SL w FF w1 (k.ck (wd a dn) ++ [AB gx 83 [jP k.g], AB g2 79 (inC p)]) := s1.rot
    refine Ei F9 (hof.at_ k (wd a dn) s2 ⟨hI.c, hI.f, hI.t, hI.l⟩ hx hO hr) fun v3 w3 _ hS3 F10 => ?_
    obtain ⟨dn3, ⟨rfl, hE3⟩, s3⟩ := hS3
    refine sx F10 (Ph (Xl 3 6 (by simp)) rfl rfl) fun _ F11 => ?_
    refine stc F11 s3 (QG H) fun w4 _ F12 s4 => ?_
    refine sv 1 F12 fun _ F13 => ?_
    refine AW ?_
    refine wp_ret ?_
    refine Ag4 ?_
    exact rt F13 ⟨dn3, ⟨rfl, hE3⟩, s4.f5.drop⟩
  · rename_i hop
    have F6 := F5.kf (d := 6) (t := ((p.Op.toNat : Int) == 21)) (by rw [show (21 : Int) = ((21 : Nat) : Int) from rfl, Aai (by omega)]; exact decide_eq_false hop)
    refine Fv F6 rfl ?_
    refine wp_seq ?_
    refine AZ ?_
    refine sv 2 F6 fun _ F7 => ?_
    refine AW ?_
    split at H
    · rename_i hop2
      have F8 := F7.kt (d := 14) (t := ((p.Op.toNat : Int) == 23)) (by rw [hop2]; rfl)
      refine DO F8 rfl ?_
      obtain ⟨l, hl, H⟩ := bind_ok H
      obtain rfl := BS H
      refine wp_seq ?_
      refine Dk BL s1 ?_
      have s2 := s1.drew
      refine hq [0, 1, 2, 3, 4, 5, 6] F8 s2 (QI.op rfl (fun _ hC => Ce (EA 83 (by simp)) rfl (hC.BP (.tail _ <| .tail _ <| .tail _ <| .tail _ <| .tail _ <| .head _) rfl)) rfl <| QI.ev 3 rfl <| QI.op rfl (fun _ hC => Ce (EA 22 (by simp)) rfl (hC.BP (.tail _ <| .head _) rfl)) rfl <| QI.ev 1 rfl <| QI.op rfl (fun _ hC => Ce (EA 3 (by simp)) rfl (hC.BP (.head _) rfl)) rfl <| QI.nil) (by kernel_rfl) fun _ F9 => ?_
      refine ho 7 rfl (by kernel_rfl) ?_
      refine Ei F9 (PT (hI.c.Bp s2) hl) fun v3 w3 _ hS3 F10 => ?_
      obtain ⟨_, rfl, hq3⟩ := hS3
      have s3 := s2.add hq3
      refine Dv ⟨s3.drop, ?_⟩
      refine ho 8 rfl (by kernel_rfl) ?_
      refine sx F10 (Io rfl underlying101 (H7 (s3.BO (.head _)))) fun _ F11 => ?_
      refine Dv ⟨s3.drop, ?_⟩
      refine ho 9 rfl (by kernel_rfl) ?_
      refine sv 1 F11 fun _ F12 => ?_
      refine Dv ⟨s3.drop, ?_⟩
      refine ho 10 rfl (by kernel_rfl) ?_
      refine sv 1 F12 fun _ F13 => ?_
      refine Dv ⟨s3.drop, ?_⟩
      refine Ea (by kernel_rfl) ?_
      refine wp_ret ?_
      refine Ag4 ?_
      exact rt F13 ⟨dn, ⟨rfl, Iq.refl⟩, s3.drop.drop⟩
    · rename_i hop2
      have F8 := F7.kf (d := 14) (t := ((p.Op.toNat : Int) == 23)) (by rw [show (23 : Int) = ((23 : Nat) : Int) from rfl, Aai (by omega)]; exact decide_eq_false hop2)
      refine Fv F8 rfl ?_
      refine wp_skip ?_
      refine NY ?_
      refine wp_seq ?_
      refine AZ ?_
      refine sv 1 F8 fun _ F9 => ?_
      refine AW ?_
      refine wp_ret ?_
      obtain rfl := BS H
      exact rt F9 ⟨dn, ⟨rfl, Iq.refl⟩, s1.drop⟩
theorem Vu {w0 w : World} {F0 : List Nat} {ps : List Ck} {v : Value} {l : Dn} {i : Int} {g : Nat} {x : AU} (hs : SL w0 F0 w (Sl (Ty.ptr 56 Bf) v l :: ps)) (hx : idx l i = some (some (g, x))) :
    SL w0 F0 w (AB g 56 (EK x) :: J8 (Ty.ptr 56 Bf) v l i.toNat [LI (some (g, x))] :: ps) := by
  obtain ⟨cs1, s1⟩ := SL.SZ hs hx
  obtain ⟨rfl, s2⟩ := SL.Aag OO s1
  exact s2
theorem XI {w0 w : World} {F0 : List Nat} {ps : List Ck} {v : Value} {l : Dn} {i : Nat} {g : Nat} {x y : AU} (hs : SL w0 F0 w (AB g 56 (EK y) :: J8 (Ty.ptr 56 Bf) v l i [LI (some (g, x))] :: ps)) : SL w0 F0 w (Sl (Ty.ptr 56 Bf) v (l.set i (some (g, y))) :: ps) :=
  SL.WU (p := (g, x)) (SL.JI hs OO y)
def Rr (f : Int → Option AU) (cl : List Int) (s : Int × Int × Int) : Option ((Int × Int × Int) ⊕ (Int × Int)) :=
  if decide (s.2.2 < (cl.length : Int)) = true then (idx cl s.2.2).bind fun x => (f x).bind fun b => some (.inl (max s.1 b.CQ.Most, max s.2.1 b.Slots.Most, wr (s.2.2 + 1))) else some (.inr (s.1, s.2.1))
theorem Zg {f : Int → Option AU} {cl : List Int} (hl : cl.length ≤ 1000000000) : ∀ (d k : Nat) (s r : Int × Int), cl.length - k = d → k ≤ cl.length → Fl f (cl.drop k) s = some r → AQ (Rr f cl) (s.1, s.2, (k : Int)) = some r := by
  intro d
  induction d with
  | zero =>
    intro k s r hd hk H
    rw [List.drop_eq_nil_of_le (by omega)] at H
    obtain rfl := BS H
    rw [GY]
    unfold Rr
    rw [Ay (by simp; omega)]
  | succ d ih =>
    intro k s r hd hk H
    have hlt : k < cl.length := by omega
    rw [List.drop_eq_getElem_cons hlt] at H
    unfold Fl at H
    obtain ⟨b, hb, H⟩ := bind_ok H
    have := ih (k + 1) _ _ (by omega) (by omega) H
    rw [GY]
    unfold Rr
    rw [A1 (by simp; omega), show idx cl (k : Int) = some cl[k] by unfold idx; rw [A1 (by omega), Int.toNat_natCast]; exact Aok hlt, Aoj, hb, Aoj]
    have hw : wr ((k : Int) + 1) = ((k + 1 : Nat) : Int) := by rw [Vp (by omega) (by omega)]; omega
    rw [hw]
    exact this
theorem set_self {α : Type} {l : List α} {i : Nat} {x : α} (h : l[i]? = some x) : l.set i x = l := by
  obtain ⟨h1, h2⟩ := List.getElem?_eq_some_iff.1 h
  apply List.ext_getElem?
  intro j
  by_cases q : i = j
  · subst q; rw [List.getElem?_set_self h1, h]
  · rw [List.getElem?_set_ne q]
theorem RW.In.wd {k : RW} {w : World} {FF : List Nat} {a : Bh} (h : k.In w FF a) (dn : Dn) : k.In w FF (wd a dn) := ⟨h.c, h.f, h.t, h.l⟩
theorem Ua : (prog.info? 56).bind (·.zero) = some (.agg ⟨[jI 0, .bool false, jI 0, .bool false, jI 0, .bool false, jI 0, .bool false]⟩) := by kernel_rfl
theorem Ag2 : MM prog 54 [(0, 1), (1, 1)] = true := by kernel_rfl
theorem UI : MM prog 56 [(0, 2), (2, 2), (4, 2), (6, 2)] = true := by kernel_rfl
theorem Ajx : (prog.info? 132).map (·.size) = some 1 := by kernel_rfl
theorem Aim {n : Nat} (hof : Vn n) {k : RW} {a : Bh} (hr : a.rules = Jr k.g) {fn : Int} {gb : Nat} {bb : AU} {cl : List Int} {d : Int × Int} {fu : Df} {b : AK} (hcl : idx a.calls fn = some cl) (hfew : NN cl.length = some ())
    (hd : Fl (Dw (CH a) n) cl (0, 0) = some d) (hfu : idx a.m.Funcs fn = some fu) (hb0 : idx (CH a).bodies fn = some (some b)) {w : World} {FF : List Nat} (hO : M7 (CH a) n a.done) (hdn : idx a.done fn = some (some (gb, bb))) (hst : Ba (k.ck a) w FF) (hI : k.In w FF a) :
    Calls prog 38 #[jP k.g, jI fn, jP gb] w (B8 fun u w_ => ∃ dn, (u = Value.tuple #[] ∧ ∃ dn1, Iq (CH a) a.done dn1 ∧ dn = dn1.set fn.toNat (some (gb, ⟨⟨wr (d.1 + 1), true⟩, ⟨wr (wr (fu.Locals + b.AX) + d.2), true⟩, bb.Steps, bb.Cells⟩))) ∧ SL w FF w_ (k.ck (wd a dn))) := by
  letI := Lc
  obtain ⟨gB, hb⟩ := Wb hb0
  have s0 : SL w FF w (k.ck (wd a a.done)) := SL.init w FF hst
  refine D7 func38 rfl ntmps38 (Nat.le_of_ble_eq_true rfl) (args := [jP k.g, jI fn, jP gb]) fun q0 F0 => ?_
  refine wp_seq ?_
  refine AZ ?_
  refine sv 2 F0 fun _ F1 => ?_
  refine AW ?_
  refine wp_seq ?_
  refine wp_seq ?_
  refine AZ ?_
  obtain ⟨ad1, cs1, G1, hi1, hc1, hr1, hG1⟩ := Rd.idx hI.l Pp rfl hcl
  obtain ⟨vcl, rfl, hcl1⟩ := Xo hr1 hG1
  refine sv 3 F1 fun _ F2 => ?_
  refine sx F2 (Ce (EA 64 (by simp)) rfl (s0.BP (.head _) rfl)) fun _ F3 => ?_
  refine sv 1 F3 fun _ F4 => ?_
  refine sx F4 (hi1 _ _ _ _ _ _ _ _ _ _ rfl rfl) fun _ F5 => ?_
  refine sx F5 (Ce (EA 28 (by simp)) rfl (Cells.at_ (hc1 _ _ s0) (o := 0) rfl)) fun _ F6 => ?_
  refine sx F6 (Io rfl underlying28 (H7 (EZ hcl1 s0))) fun _ F7 => ?_
  refine sv 1 F7 fun _ F8 => ?_
  refine AW ?_
  refine Lh (fun a_ w_ => ∃ dn1, Iq (CH a) a.done dn1 ∧ Fr a_ 69 [(0, jP k.g), (1, jI fn), (2, jP gb), (6, jI d.1), (7, jI d.2)] ∧ SL w FF w_ (k.ck (wd a dn1))) ?_ ?_
  · refine wp_block ?_
    refine QA (Rr (Dw (CH a) n) cl) (fun s a_ w_ => ∃ dn1, Iq (CH a) a.done dn1 ∧ Fr a_ 69 [(0, jP k.g), (1, jI fn), (2, jP gb), (6, jI s.1), (7, jI s.2.1), (16, vcl), (17, jI (cl.length : Int)), (18, jI s.2.2)] ∧ SL w FF w_ (k.ck (wd a dn1))) (s := (0, 0, 0)) (r := d) (Zg (Abz hfew) _ 0 (0, 0) d rfl (Nat.zero_le _) hd) ?_ ?_
    · exact ⟨a.done, Iq.refl, F8.sub ⟨rfl, rfl, rfl, rfl, rfl, rfl, rfl, rfl, trivial⟩, s0⟩
    · rintro ⟨sn, ss, si⟩ q5 w5 ⟨dn5, hE5, F9, s5⟩ o HB hrr
      unfold Rr at HB
      refine wp_seq ?_
      refine AZ ?_
      refine sv 1 F9 fun _ F10 => ?_
      refine AW ?_
      refine wp_seq ?_
      refine ifs F10 HB (fun hb1 HB F11 => ?_) (fun hb1 HB F11 => ?_)
      · refine wp_skip ?_
        refine wp_seq ?_
        refine wp_block ?_
        refine wp_seq ?_
        refine AZ ?_
        obtain ⟨x, hx, HB⟩ := bind_ok HB
        obtain ⟨y, hy, HB⟩ := bind_ok HB
        obtain rfl := BS HB
        obtain ⟨ad2, hi2, hc2⟩ := Rd.Alw (Flat.int .i64) hcl1 BC rfl hx
        refine sx F11 (hi2 _ _ _ _ _ _ _ _ _ _ rfl rfl) fun _ F12 => ?_
        refine sx F12 (Ce (EA 3 (by simp)) rfl (Cells.at_ (hc2 _ _ s5) (o := 0) rfl)) fun _ F13 => ?_
        refine sv 1 F13 fun _ F14 => ?_
        refine AW ?_
        refine wp_seq ?_
        refine AZ ?_
        refine sv 3 F14 fun _ F15 => ?_
        refine Ei F15 (hof.at_ (rest := []) k (wd a dn5) s5 (hI.wd _) hy (hO.ex hE5) hr) fun v6 w6 _ hS6 F16 => ?_
        obtain ⟨dn6, ⟨rfl, hE6⟩, s6⟩ := hS6
        refine sx F16 (Ph (Xl 0 0 (by simp)) rfl rfl) fun _ F17 => ?_
        refine sx F17 (Yc Aj4 rfl rfl) fun _ F18 => ?_
        refine sx F18 (SQ rfl rfl) fun _ F19 => ?_
        refine sv 1 F19 fun _ F20 => ?_
        refine AW ?_
        refine AZ ?_
        refine sv 3 F20 fun _ F21 => ?_
        refine Ei F21 (hof.at_ (rest := []) k (wd a dn6) s6 (hI.wd _) hy ((hO.ex hE5).ex hE6) hr) fun v7 w7 _ hS7 F22 => ?_
        obtain ⟨dn7, ⟨rfl, hE7⟩, s7⟩ := hS7
        refine sx F22 (Ph (Xl 1 2 (by simp)) rfl rfl) fun _ F23 => ?_
        refine sx F23 (Yc Aj4 rfl rfl) fun _ F24 => ?_
        refine sx F24 (SQ rfl rfl) fun _ F25 => ?_
        refine sv 1 F25 fun _ F26 => ?_
        refine AW ?_
        refine NY ?_
        refine AZ ?_
        refine sv 2 F26 fun _ F27 => ?_
        refine AW ?_
        exact ⟨_, rfl, dn7, (hE5.trans hE6).trans hE7, (Y6 ss y.Slots.Most) ▸ (Y6 sn y.CQ.Most) ▸ F27.sub ⟨rfl, rfl, rfl, rfl, rfl, rfl, rfl, rfl, trivial⟩, s7⟩
      · refine wp_exit ?_
        refine IP <| IP <| KP ?_
        obtain rfl := BS HB
        obtain rfl := hrr _ rfl
        exact ⟨dn5, hE5, F11.sub ⟨rfl, rfl, rfl, rfl, rfl, trivial⟩, s5⟩
  · rintro q8 w8 ⟨dn8, hE8, F28, s8⟩
    have hdn8 : idx dn8 fn = some (some (gb, bb)) := by
      obtain ⟨h0, _, h2⟩ := K1 hdn
      exact U1 h0 (hE8.keep _ _ nofun h2)
    refine wp_seq ?_
    refine AZ ?_
    refine sv 3 F28 fun _ F29 => ?_
    refine sx F29 (Ii (vs := [jI (wr (d.1 + 1)), .bool true]) Aej Ag2 rfl (cs := [jI (wr (d.1 + 1)), .bool true]) (by rfl)) fun _ F30 => ?_
    refine sv 2 F30 fun _ F31 => ?_
    have s9 := Vu s8.f2 hdn8
    refine EL F31 s9 rfl rfl US (Bl rfl (Bl rfl GI)) (Nat.le_of_ble_eq_true rfl) fun w10 _ F32 s10 => ?_
    refine AW ?_
    obtain ⟨vb, s11⟩ := O3 (i := fn) (g := gB) (b := b) s10.f3 hb
    replace s11 : SL w FF w10 (AB gB 81 [vb, jI b.AX] :: Sl Bc vb b.l :: J8 (Ty.ptr 81 Bi) k.v4 a.bodies fn.toNat [LI (some (gB, b))] :: AB gb 56 (EK ⟨⟨wr (d.1 + 1), true⟩, bb.Slots, bb.Steps, bb.Cells⟩) :: J8 (Ty.ptr 56 Bf) k.v6 dn8 fn.toNat [LI (some (gb, bb))] :: [AB k.g 88 [.string ⟨⟨a.m.Name⟩⟩, k.v1, k.v2, k.v3, k.v4, k.v5, k.v6, k.v7], Sl Ty.Hk k.v7 a.rules]) := s11
    refine Dk BL s11.f3.drop ?_
    have s12 := s11.drew
    have hun : ∀ w_, SL w FF w_ (AB gB 81 [vb, jI b.AX] :: Sl Bc vb b.l :: J8 (Ty.ptr 81 Bi) k.v4 a.bodies fn.toNat [LI (some (gB, b))] :: J8 (Ty.ptr 56 Bf) k.v6 dn8 fn.toNat [LI (some (gb, bb))] :: [AB k.g 88 [.string ⟨⟨a.m.Name⟩⟩, k.v1, k.v2, k.v3, k.v4, k.v5, k.v6, k.v7], Sl Ty.Hk k.v7 a.rules]) → ∃ G, Eu (Ty.ptr 81 Bi) w_ G k.v4 a.bodies := fun w_ h => (Ox hb h).BO (.head _)
    obtain ⟨adB, hiB, hcB⟩ := Ak0 hun s12.f3.drop OY rfl hb
    obtain ⟨adF, csF, GF, hiF, hcF, hrF, hGF⟩ := Rd.idx hI.f SO rfl hfu
    obtain ⟨vf1, vf4, rfl, _⟩ := Qq hrF hGF
    refine hq [0, 1, 2, 3, 4, 5, 6, 7, 8, 9, 10, 11, 12, 13, 14, 15, 16, 17, 18, 19, 20, 21, 22, 23, 24, 25] F32 s12.f3.drop (QI.ev 5 rfl <| QI.op rfl (fun _ hC => Ce (EA 23 (by simp)) rfl (hC.BP (.tail _ <| .tail _ <| .tail _ <| .tail _ <| .head _) rfl)) rfl <| QI.ev 1 rfl <|
      QI.op rfl (fun _ _ => hiF _ _ _ _ _ _ _ _ _ _ rfl rfl) rfl <| QI.op rfl (fun _ _ => Ke (off := 3) (sz := 1) (by kernel_rfl) rfl) rfl <| QI.op rfl (fun _ hC => Ce (EA 3 (by simp)) rfl (Cells.at_ (hcF _ _ hC) (o := 3) rfl)) rfl <| QI.ev 3 rfl <| QI.op rfl (fun _ hC => Ce (EA 84 (by simp)) rfl (hC.BP (.tail _ <| .tail _ <| .tail _ <| .tail _ <| .head _) rfl)) rfl <| QI.ev 1 rfl <|
      QI.op rfl (fun _ _ => hiB _ _ _ _ _ _ _ _ _ _ rfl rfl) rfl <| QI.op rfl (fun _ hC => Ce (EA 65 (by simp)) rfl (Cells.at_ (hcB _ hC) (o := 0) rfl)) rfl <| QI.ev 2 rfl <| QI.op rfl (fun _ hC => Ce (EA 3 (by simp)) rfl (hC.BP (.head _) rfl)) rfl <| QI.ev 3 rfl <|
      QI.op rfl (fun _ _ => Ii (vs := [jI (wr (wr (fu.Locals + b.AX) + d.2)), .bool true]) Aej Ag2 rfl (cs := [jI (wr (wr (fu.Locals + b.AX) + d.2)), .bool true]) (by rfl)) rfl <| QI.ev 2 rfl <| QI.nil) (by kernel_rfl) fun _ F33 => ?_
    refine ho 26 rfl (by kernel_rfl) ?_
    refine EL F33 s12.f3 rfl rfl US (Bl rfl (Bl rfl GI)) (Nat.le_of_ble_eq_true rfl) fun w13 _ F34 s13 => ?_
    refine Dv ⟨s13.drop, ?_⟩
    refine Ea (by kernel_rfl) ?_
    refine Ni F34 (by rfl) ⟨_, rfl, _, ⟨rfl, dn8, hE8, rfl⟩, ?_⟩
    have s14 := Ox hb (s13.f3.f3.f3)
    exact (XI (y := ⟨⟨wr (d.1 + 1), true⟩, ⟨wr (wr (fu.Locals + b.AX) + d.2), true⟩, bb.Steps, bb.Cells⟩) s14.f2.f2).f2.f2.f1
theorem ZG {P : Program} {w0 w : World} {F0 : List Nat} {ps : List Ck} {v : Value} {l : Dn} {i : Int} {gb : Nat} {x y : AU} {o : Nat} {ds : List Value} {t' : TypeId} {m : List (Nat × Value)} {n : Nat} {ty : TypeId} {pos : String} {aft : Array Edge} {xx yy : Operand} {ops : Array Oper} {Q : Exit → Act → World → Prop} {a : Act} {l' : List Oper}
    (hF : Fr a n m) (hs : SL w0 F0 w (Sl (Ty.ptr 56 Bf) v l :: ps)) (hdn : idx l i = some (some (gb, x))) (hx : ev m xx = some (.pointer (some ⟨gb, o, none⟩))) (hy : ev m yy = some (.agg ⟨ds⟩)) (hi : (P.info? t').map (·.size) = some ds.length) (h1 : ∀ u ∈ ds, u.oneCell' = true) (hfit : o + ds.length ≤ 8)
    (he : (EK x).take o ++ ds ++ (EK x).drop (o + ds.length) = EK y) (K : ∀ w a, Fr a n m → SL w0 F0 w (Sl (Ty.ptr 56 Bf) v (l.set i.toNat (some (gb, y))) :: ps) → wpList P ops Q l' a w) : wpList P ops Q (⟨none, .store t' xx yy, ty, pos, aft, none⟩ :: l') a w := by
  refine EL hF (Vu hs hdn) hx hy hi h1 hfit fun w a hF hs2 => ?_
  rw [he] at hs2
  exact K w a hF (XI hs2)
theorem Rb {R : RK} {dn dn' : Dn} {fn : Int} {p : Nat × AU} (h : idx dn fn = some (some p)) (he : Iq R dn dn') : idx dn' fn = some (some p) := by
  obtain ⟨h0, _, h2⟩ := K1 h
  exact U1 h0 (he.keep _ _ nofun h2)
theorem Ahr {n : Nat} (hof : Vn n) {k : RW} {a : Bh} (hr : a.rules = Jr k.g) {fn : Int} {gb : Nat} {bb : AU} {st : BM} (hbb : bb.Steps = ⟨0, false⟩)
    (hs : LN (CH a) (Dw (CH a) n) fn = some st) {w : World} {FF : List Nat} (hO : M7 (CH a) n a.done) (hdn : idx a.done fn = some (some (gb, bb))) (hst : Ba (k.ck a) w FF) (hI : k.In w FF a) :
    Calls prog 39 #[jP k.g, jI fn, jP gb] w (B8 fun u w_ => ∃ dn, (u = Value.tuple #[] ∧ ∃ dn1, Iq (CH a) a.done dn1 ∧ dn = dn1.set fn.toNat (some (gb, ⟨bb.CQ, bb.Slots, st, bb.Cells⟩))) ∧ SL w FF w_ (k.ck (wd a dn))) := by
  letI := Lc
  have s0 : SL w FF w (k.ck a) := SL.init w FF hst
  refine D7 func39 rfl ntmps39 (Nat.le_of_ble_eq_true rfl) (args := [jP k.g, jI fn, jP gb]) fun q0 F0 => ?_
  unfold LN at hs
  obtain ⟨fl, hfl, hs⟩ := bind_ok hs
  refine wp_seq ?_
  refine AZ ?_
  refine Hu F0 s0 rfl rfl rfl fun gx w1 _ F1 s1 => ?_
  refine AW ?_
  refine wp_seq ?_
  refine wp_seq ?_
  refine AZ ?_
  refine sx F1 (Ce (EA 83 (by simp)) rfl (s1.BP (.head _) rfl)) fun _ F2 => ?_
  refine sv 1 F2 fun _ F3 => ?_
  have s2 : SL w FF w1 (k.ck a ++ [AB gx 83 [jP k.g]]) := s1.rot
  obtain ⟨G2, hst2, hF2, hG2, hcl2⟩ := SL.open_ s2
  have hI2 := hI.pass s2 hF2
  refine Ei F3 (Gy (a0 := a) hst2 hI2.c hI2.f hI2.t hI2.l ((X4 a fn).trans hfl)) fun v3 w3 _ hS3 F4 => ?_
  obtain ⟨rfl, hq3⟩ := hS3
  have s3 : SL w FF w3 (k.ck a ++ [AB gx 83 [jP k.g]]) := hcl2 _ _ hq3
  cases fl with
  | false =>
    refine sx F4 (OL rfl) fun _ F5 => ?_
    refine AW ?_
    refine DO F5 rfl ?_
    refine wp_ret ?_
    obtain rfl := BS hs
    refine rt F5 ⟨_, ⟨rfl, a.done, Iq.refl, rfl⟩, ?_⟩
    rw [show a.done.set fn.toNat (some (gb, ⟨bb.CQ, bb.Slots, ⟨0, false⟩, bb.Cells⟩)) = a.done from set_self (by rw [← hbb]; exact (K1 hdn).2.2)]
    exact s3.Om.drop
  | true =>
    refine sx F4 (OL rfl) fun _ F5 => ?_
    refine AW ?_
    refine Fv F5 rfl ?_
    refine wp_skip ?_
    refine AZ ?_
    refine sv 1 F5 fun _ F6 => ?_
    refine sx F6 (Ce (EA 83 (by simp)) rfl (s3.BP (.tail _ <| .tail _ <| .tail _ <| .tail _ <| .head _) rfl)) fun _ F7 => ?_
    refine sv 1 F7 fun _ F8 => ?_
    refine sx F8 (Eg (cs := [.tmp 3]) (vs := [jP gx]) rfl) fun _ F9 => ?_
    refine HW F9 (UY 62 (by simp)) rfl (Lq (rest := []) s3 fun F h1 h2 _ => Agy (UY 63 (by simp)) (Aiq hof hr) hs a.done hO h1 (hI.pass s3 h2)) rfl fun v4 w4 _ hS4 F10 => ?_
    obtain ⟨dn4, ⟨rfl, hE4⟩, s4⟩ := hS4
    refine sv 2 F10 fun _ F11 => ?_
    refine ZG F11 (s4.f2) (Rb hdn hE4) rfl rfl US (Bl rfl (Bl rfl GI)) (Nat.le_of_ble_eq_true rfl) (y := ⟨bb.CQ, bb.Slots, st, bb.Cells⟩) rfl fun w5 _ F12 s5 => ?_
    refine AW ?_
    exact Ni F12 (by rfl) ⟨_, rfl, _, ⟨rfl, dn4, hE4, rfl⟩, s5.f2.f2.f4.drop⟩
theorem Aia {n : Nat} (hof : Vn n) {k : RW} {a : Bh} (hr : a.rules = Jr k.g) {fn : Int} {gb : Nat} {bb : AU} {ce : BM} (hbb : bb.Cells = ⟨0, false⟩)
    (hs : M4 (CH a) (Dw (CH a) n) fn = some ce) {w : World} {FF : List Nat} (hO : M7 (CH a) n a.done) (hdn : idx a.done fn = some (some (gb, bb))) (hst : Ba (k.ck a) w FF) (hI : k.In w FF a) :
    Calls prog 40 #[jP k.g, jI fn, jP gb] w (B8 fun u w_ => ∃ dn, (u = Value.tuple #[] ∧ ∃ dn1, Iq (CH a) a.done dn1 ∧ dn = dn1.set fn.toNat (some (gb, ⟨bb.CQ, bb.Slots, bb.Steps, ce⟩))) ∧ SL w FF w_ (k.ck (wd a dn))) := by
  letI := Lc
  have s0 : SL w FF w (k.ck a) := SL.init w FF hst
  refine D7 func40 rfl ntmps40 (Nat.le_of_ble_eq_true rfl) (args := [jP k.g, jI fn, jP gb]) fun q0 F0 => ?_
  unfold M4 at hs
  obtain ⟨fl, hfl, hs⟩ := bind_ok hs
  refine wp_seq ?_
  refine AZ ?_
  refine Hu F0 s0 rfl rfl rfl fun gx w1 _ F1 s1 => ?_
  refine AW ?_
  refine wp_seq ?_
  refine wp_seq ?_
  refine AZ ?_
  refine sx F1 (Ce (EA 83 (by simp)) rfl (s1.BP (.head _) rfl)) fun _ F2 => ?_
  refine sv 1 F2 fun _ F3 => ?_
  have s2 : SL w FF w1 (k.ck a ++ [AB gx 83 [jP k.g]]) := s1.rot
  obtain ⟨G2, hst2, hF2, hG2, hcl2⟩ := SL.open_ s2
  have hI2 := hI.pass s2 hF2
  refine Ei F3 (Gy (a0 := a) hst2 hI2.c hI2.f hI2.t hI2.l ((X4 a fn).trans hfl)) fun v3 w3 _ hS3 F4 => ?_
  obtain ⟨rfl, hq3⟩ := hS3
  have s3 : SL w FF w3 (k.ck a ++ [AB gx 83 [jP k.g]]) := hcl2 _ _ hq3
  cases fl with
  | false =>
    refine sx F4 (OL rfl) fun _ F5 => ?_
    refine sv 6 F5 fun _ F6 => ?_
    refine AW ?_
    refine DO F6 rfl ?_
    refine wp_ret ?_
    obtain rfl := BS hs
    refine rt F6 ⟨_, ⟨rfl, a.done, Iq.refl, rfl⟩, ?_⟩
    rw [show a.done.set fn.toNat (some (gb, ⟨bb.CQ, bb.Slots, bb.Steps, ⟨0, false⟩⟩)) = a.done from set_self (by rw [← hbb]; exact (K1 hdn).2.2)]
    exact s3.Om.drop
  | true =>
    replace hs : ((MO (CH a) fn).bind fun fm => if fm = true then Hq (CH a) fn 4096 (Hb (CH a) (Dw (CH a) n)) else some ⟨0, false⟩) = some ce := hs
    obtain ⟨fm, hfm, hs⟩ := bind_ok hs
    refine sx F4 (OL rfl) fun _ F5 => ?_
    refine sv 1 F5 fun _ F5 => ?_
    refine Nv F5 rfl rfl rfl (Ce (EA 83 (by simp)) rfl (s3.BP (.tail _ <| .tail _ <| .tail _ <| .tail _ <| .head _) rfl)) rfl rfl fun _ F6 => ?_
    refine sv 1 F6 fun _ F7 => ?_
    obtain ⟨G4, hst4, hF4, hG4, hcl4⟩ := SL.open_ s3
    have hI4 := hI.pass s3 hF4
    refine AY F7 rfl rfl ?_
    refine HW F7 (UY 61 (by simp)) rfl (MJ (a0 := a) hst4 hI4.c hI4.f hI4.t hI4.l ((Afo a fn).trans hfm)) rfl fun v5 w5 _ hS5 F8 => ?_
    obtain ⟨rfl, hq5⟩ := hS5
    have s5 : SL w FF w5 (k.ck a ++ [AB gx 83 [jP k.g]]) := hcl4 _ _ hq5
    cases fm with
    | false =>
      refine Nv F8 rfl rfl rfl (OL rfl) rfl rfl fun _ F9 => ?_
      refine sv 1 F9 fun _ F10 => ?_
      refine AW ?_
      refine DO F10 rfl ?_
      refine wp_ret ?_
      obtain rfl := BS hs
      refine rt F10 ⟨_, ⟨rfl, a.done, Iq.refl, rfl⟩, ?_⟩
      rw [show a.done.set fn.toNat (some (gb, ⟨bb.CQ, bb.Slots, bb.Steps, ⟨0, false⟩⟩)) = a.done from set_self (by rw [← hbb]; exact (K1 hdn).2.2)]
      exact s5.Om.drop
    | true =>
      refine Nv F8 rfl rfl rfl (OL rfl) rfl rfl fun _ F9 => ?_
      refine sv 1 F9 fun _ F10 => ?_
      refine AW ?_
      refine Fv F10 rfl ?_
      refine wp_skip ?_
      refine AZ ?_
      refine sv 1 F10 fun _ F11 => ?_
      refine sx F11 (Ce (EA 83 (by simp)) rfl (s5.BP (.tail _ <| .tail _ <| .tail _ <| .tail _ <| .head _) rfl)) fun _ F12 => ?_
      refine sv 1 F12 fun _ F13 => ?_
      refine sx F13 (Eg (cs := [.tmp 3]) (vs := [jP gx]) rfl) fun _ F14 => ?_
      refine HW F14 (UY 62 (by simp)) rfl (Lq (rest := []) s5 fun F h1 h2 _ => Agy (UY 66 (by simp)) (Ais hof hr) hs a.done hO h1 (hI.pass s5 h2)) rfl fun v6 w6 _ hS6 F15 => ?_
      obtain ⟨dn6, ⟨rfl, hE6⟩, s6⟩ := hS6
      refine sv 2 F15 fun _ F16 => ?_
      refine ZG F16 (s6.f2) (Rb hdn hE6) rfl rfl US (Bl rfl (Bl rfl GI)) (Nat.le_of_ble_eq_true rfl) (y := ⟨bb.CQ, bb.Slots, bb.Steps, ce⟩) rfl fun w7 _ F17 s7 => ?_
      refine AW ?_
      exact Ni F17 (by rfl) ⟨_, rfl, _, ⟨rfl, dn6, hE6, rfl⟩, s7.f2.f2.f4.drop⟩
section
variable {P : Program} {w : World} {m : List (Nat × Value)} {n d : Nat} {ops : Array Oper} {Q : Exit → Act → World → Prop} {a : Act} {l' : List Oper} {ty : TypeId} {pos : String} {aft : Array Edge} {x : Operand}
theorem Uy {f g : Nat} {args : List Operand} {ats : Array TypeId} {vs : List Value} {S : Value → World → Prop} (hF : Fr a n m) (hf : DL P f = true) (ht : ev m x = some (Np f g)) (hargs : Mt m args = some vs) (hc : Calls P f (jP g :: vs).toArray w (B8 S)) (hlt : Nat.blt d n = true)
    (k : ∀ v w a, S v w → Fr a n ((d, v) :: m) → wpList P ops Q l' a w) : wpList P ops Q (⟨some d, .call { callee := .value x, args := args.toArray, argTypes := ats }, ty, pos, aft, none⟩ :: l') a w :=
  wpList_plain rfl fun K hK => by
    unfold Oper.wp
    have h1 : (execOp a.eval ⟨some d, .call { callee := .value x, args := args.toArray, argTypes := ats }, ty, pos, aft, none⟩).run P w = .ok (.enter f (jP g :: vs).toArray) w := by
      have h2 := hF.Nt hargs
      simp [execOp, resolve, Deferred.ofValue, hF.eval ht, Np, invoke, h2, Ig hf]
    rw [h1, Oper.upon_enter]
    refine hc.mono ?_
    rintro e w' ⟨v, rfl, hS⟩
    exact hK _ _ (k v w' _ hS (hF.put d v hlt))
end
theorem OD {α : Type} {l : List α} {i : Int} {x y : α} (h : idx l i = some x) : idx (l.set i.toNat y) i = some y := by
  obtain ⟨h0, h1, h2⟩ := Dd h
  refine U1 h0 ?_
  rw [List.getElem?_set_self (by omega)]
theorem Aj6 : ∀ n, Vn n := by
  letI := Lc
  intro n
  induction n using Nat.strongRecOn with
  | ind n IH =>
  intro w FF k a fn x H hO hr hst hI
  obtain ⟨m, hm, H1, H0⟩ := W1 n H
  have hof : Vn m := IH m hm
  have hO1 : M7 (CH a) m a.done := hO.low (by omega)
  obtain ⟨cl, d, fu, b, st, ce, q1, q0, q2, q3, q4, q5, q6, rfl⟩ := Rw H1
  have s0 : SL w FF w (k.ck a) := SL.init w FF hst
  have hfn0 : 0 ≤ fn := (Dd q1).1
  have hti : ((fn.toNat : Nat) : Int) = fn := by omega
  refine D7 func41 rfl ntmps41 (Nat.le_of_ble_eq_true rfl) (args := [jP k.g, jI fn]) fun _ F0 => ?_
  refine wp_seq ?_
  refine AZ ?_
  refine MY F0 s0 Ua rfl rfl fun gz w1 _ F1 s1 => ?_
  refine AW ?_
  have hlen : a.done.length = a.calls.length := hO.len
  obtain ⟨y0, hy0⟩ : ∃ y0, idx a.done fn = some y0 := by
    obtain ⟨_, q1, _⟩ := Dd q1
    unfold idx
    rw [A1 hfn0, Aok (by have : (CH a).calls = a.calls := rfl; rw [this] at q1; omega)]
    exact ⟨_, rfl⟩
  refine wp_seq ?_
  refine wp_seq ?_
  refine AZ ?_
  obtain ⟨ad1, hi1, hc1⟩ := S7 (s1.BO (.tail _ <| .tail _ <| .tail _ <| .head _)) Pf rfl hy0
  refine sv 3 F1 fun _ F2 => ?_
  refine sx F2 (Ce (EA 85 (by simp)) rfl (s1.BP (.tail _ <| .head _) rfl)) fun _ F3 => ?_
  refine sv 1 F3 fun _ F4 => ?_
  refine sx F4 (hi1 _ _ _ _ _ _ _ _ _ _ rfl rfl) fun _ F5 => ?_
  refine sx F5 (Ce (EA 132 (by simp)) rfl (Cells.at_ hc1 (o := 0) rfl)) fun _ F6 => ?_
  refine sx F6 (Aio rfl rfl underlying132) fun _ F7 => ?_
  refine AW ?_
  refine Lh (fun a_ w_ => ∃ dn gb, Iq (CH a) a.done dn ∧ idx dn fn = some (some (gb, ⟨⟨wr (d.1 + 1), true⟩, ⟨wr (wr (fu.Locals + b.AX) + d.2), true⟩, st, ce⟩)) ∧ Fr a_ 48 [(0, jP k.g), (1, jI fn), (4, jP gz)] ∧ SL w FF w_ (AB gz 56 (EK ⟨⟨0, false⟩, ⟨0, false⟩, ⟨0, false⟩, ⟨0, false⟩⟩) :: k.ck (wd a dn))) ?_ ?_
  · cases y0 with
    | some p =>
      refine Fv F7 rfl ?_
      refine wp_skip ?_
      obtain ⟨_, _, q⟩ := K1 hy0
      obtain ⟨g, y⟩ := p
      have : y = ⟨⟨wr (d.1 + 1), true⟩, ⟨wr (wr (fu.Locals + b.AX) + d.2), true⟩, st, ce⟩ := by
        rcases hO.ok _ _ q with h | ⟨j, h⟩
        · rw [hti] at h
          rw [h] at H; cases H
        · rw [hti] at h
          exact VO h H
      subst this
      exact ⟨a.done, g, Iq.refl, hy0, F7.sub ⟨rfl, rfl, rfl, trivial⟩, s1⟩
    | none =>
      refine DO F7 rfl ?_
      refine wp_seq ?_
      refine AZ ?_
      refine sx F7 (Ii (parts := []) (vs := []) Ua UI rfl (cs := EK ⟨⟨0, false⟩, ⟨0, false⟩, ⟨0, false⟩, ⟨0, false⟩⟩) (by rfl)) fun _ F8 => ?_
      refine Hu F8 s1 rfl rfl rfl fun gb w2 _ F9 s2 => ?_
      refine sv 1 F9 fun _ F10 => ?_
      refine AW ?_
      refine wp_seq ?_
      refine AZ ?_
      have s3 : SL w FF w2 (Dt Bf ⟨⟨0, false⟩, ⟨0, false⟩, ⟨0, false⟩, ⟨0, false⟩⟩ (EK ⟨⟨0, false⟩, ⟨0, false⟩, ⟨0, false⟩, ⟨0, false⟩⟩) :: AB gb 56 (EK ⟨⟨0, false⟩, ⟨0, false⟩, ⟨0, false⟩, ⟨0, false⟩⟩) :: AB gz 56 (EK ⟨⟨0, false⟩, ⟨0, false⟩, ⟨0, false⟩, ⟨0, false⟩⟩) :: k.ck a) := SL.JI s2 OO _
      obtain ⟨A, cp, hv6, hcA⟩ := SL.Ahb (s3.f5) hy0
      refine sv 3 F10 fun _ F11 => ?_
      refine sx F11 (Ce (EA 85 (by simp)) rfl (s3.BP (.tail _ <| .tail _ <| .tail _ <| .head _) rfl)) fun _ F12 => ?_
      refine sv 2 F12 fun _ F13 => ?_
      obtain ⟨_, y1, _⟩ := Dd hy0
      refine sx F13 (TK Pf hv6 hfn0 y1 rfl rfl) fun _ F14 => ?_
      refine ZB F14 (s3.f5.f2.f2) hy0 hv6 rfl rfl Ajx fun w4 _ F15 s4 => ?_
      refine AW ?_
      let Z : AU := ⟨⟨0, false⟩, ⟨0, false⟩, ⟨0, false⟩, ⟨0, false⟩⟩
      have S0 : SL w FF w4 (AB gz 56 (EK Z) :: k.ck (wd a (a.done.set fn.toNat (some (gb, Z))))) := s4.f3.f3.f3
      have X0 : Kt (CH a) (some fn.toNat) a.done (a.done.set fn.toNat (some (gb, Z))) := Kt.set _
      have D0 : idx (a.done.set fn.toNat (some (gb, Z))) fn = some (some (gb, Z)) := OD hy0
      have hok : ∀ dn', Kt (CH a) (some fn.toNat) a.done dn' → M7 (CH a) m dn' := fun dn' hx => hO1.ext hx (fun i p q _ => .inl (by cases q; rw [hti]; exact H0))
      have hform : ∃ A c, k.v7 = .slice A 3 c := by
        have h := H7 (S0.BO (T := Ty.Hk) (v := k.v7) (l := a.rules) (.tail _ <| .tail _ <| .tail _ <| .tail _ <| .head _))
        rw [hr] at h
        exact h
      refine wp_seq ?_
      refine AZ ?_
      refine sv 3 F15 fun _ F16 => ?_
      refine sx F16 (Ce (EA 86 (by simp)) rfl (S0.BP (.tail _ <| .head _) rfl)) fun _ F17 => ?_
      refine sx F17 (Io (n := 3) rfl underlying86 hform) fun _ F18 => ?_
      refine sv 1 F18 fun _ F19 => ?_
      refine AW ?_
      have G0 := F19.sub (m' := [(0, jP k.g), (1, jI fn), (4, jP gz), (5, jP gb), (28, k.v7), (29, jI 3), (30, jI 0)]) ⟨rfl, rfl, rfl, rfl, rfl, rfl, rfl, trivial⟩
      refine wp_block ?_
      refine wp_loop_rounds 4 ?_
      -- rule 0
      refine JS ?_
      refine wp_seq ?_
      refine AZ ?_
      refine sv 1 G0 fun _ F0a => ?_
      refine AW ?_
      refine wp_seq ?_
      refine DO F0a rfl ?_
      refine wp_skip ?_
      refine wp_seq ?_
      refine wp_block ?_
      refine wp_seq ?_
      refine AZ ?_
      obtain ⟨adR0, hiR0, hcR0⟩ := TO (Flat.scalar _ _) S0 (.tail _ <| .tail _ <| .tail _ <| .tail _ <| .head _) Xm rfl (show idx (wd a (a.done.set fn.toNat (some (gb, Z)))).rules 0 = some ⟨Np 38 k.g, rfl⟩ by show idx a.rules 0 = _; rw [hr]; rfl)
      refine sx F0a (hiR0 _ _ _ _ _ _ _ _ _ _ rfl rfl) fun _ F0b => ?_
      refine sx F0b (Ce (EA 90 (by simp)) rfl (Cells.at_ hcR0 (o := 0) rfl)) fun _ F0c => ?_
      refine sv 1 F0c fun _ F0d => ?_
      refine AW ?_
      refine AZ ?_
      refine sv 3 F0d fun _ F0e => ?_
      have r0 : SL w FF _ (k.ck (wd a (a.done.set fn.toNat (some (gb, Z)))) ++ [AB gz 56 (EK Z)]) := S0.rot
      refine Uy F0e (UY 38 (by simp)) rfl rfl (Lq r0 fun F h1 h2 _ => Aim hof (a := wd a (a.done.set fn.toNat (some (gb, Z)))) hr q1 q0 q2 q3 q4 (hok _ X0) D0 h1 ((hI.wd _).pass r0 h2)) rfl fun v0 w0 _ hS0 F0f => ?_
      obtain ⟨_, ⟨rfl, e0, hE0, rfl⟩, t0⟩ := hS0
      refine AW ?_
      refine NY ?_
      refine AZ ?_
      refine sv 2 F0f fun _ F0g => ?_
      refine AW ?_
      have G1 := F0g.sub (m' := [(0, jP k.g), (1, jI fn), (4, jP gz), (5, jP gb), (28, k.v7), (29, jI 3), (30, jI 1)]) ⟨rfl, rfl, rfl, rfl, rfl, rfl, rfl, trivial⟩
      have X1 : Kt (CH a) (some fn.toNat) a.done (e0.set fn.toNat (some (gb, (⟨⟨wr (d.1 + 1), true⟩, ⟨wr (wr (fu.Locals + b.AX) + d.2), true⟩, ⟨0, false⟩, ⟨0, false⟩⟩ : AU)))) := (X0.trans (Kt.up hE0)).trans (Kt.set _)
      have D1 : idx (e0.set fn.toNat (some (gb, (⟨⟨wr (d.1 + 1), true⟩, ⟨wr (wr (fu.Locals + b.AX) + d.2), true⟩, ⟨0, false⟩, ⟨0, false⟩⟩ : AU)))) fn = some (some (gb, (⟨⟨wr (d.1 + 1), true⟩, ⟨wr (wr (fu.Locals + b.AX) + d.2), true⟩, ⟨0, false⟩, ⟨0, false⟩⟩ : AU))) := OD (Rb D0 hE0)
      have S1 : SL w FF w0 (AB gz 56 (EK Z) :: k.ck (wd a (e0.set fn.toNat (some (gb, (⟨⟨wr (d.1 + 1), true⟩, ⟨wr (wr (fu.Locals + b.AX) + d.2), true⟩, ⟨0, false⟩, ⟨0, false⟩⟩ : AU)))))) := t0.Om
      -- rule 1
      refine JS ?_
      refine wp_seq ?_
      refine AZ ?_
      refine sv 1 G1 fun _ F1a => ?_
      refine AW ?_
      refine wp_seq ?_
      refine DO F1a rfl ?_
      refine wp_skip ?_
      refine wp_seq ?_
      refine wp_block ?_
      refine wp_seq ?_
      refine AZ ?_
      obtain ⟨adR1, hiR1, hcR1⟩ := TO (Flat.scalar _ _) S1 (.tail _ <| .tail _ <| .tail _ <| .tail _ <| .head _) Xm rfl (show idx (wd a (e0.set fn.toNat (some (gb, (⟨⟨wr (d.1 + 1), true⟩, ⟨wr (wr (fu.Locals + b.AX) + d.2), true⟩, ⟨0, false⟩, ⟨0, false⟩⟩ : AU))))).rules 1 = some ⟨Np 39 k.g, rfl⟩ by show idx a.rules 1 = _; rw [hr]; rfl)
      refine sx F1a (hiR1 _ _ _ _ _ _ _ _ _ _ rfl rfl) fun _ F1b => ?_
      refine sx F1b (Ce (EA 90 (by simp)) rfl (Cells.at_ hcR1 (o := 0) rfl)) fun _ F1c => ?_
      refine sv 1 F1c fun _ F1d => ?_
      refine AW ?_
      refine AZ ?_
      refine sv 3 F1d fun _ F1e => ?_
      have r1 : SL w FF _ (k.ck (wd a (e0.set fn.toNat (some (gb, (⟨⟨wr (d.1 + 1), true⟩, ⟨wr (wr (fu.Locals + b.AX) + d.2), true⟩, ⟨0, false⟩, ⟨0, false⟩⟩ : AU))))) ++ [AB gz 56 (EK Z)]) := S1.rot
      refine Uy F1e (UY 39 (by simp)) rfl rfl (Lq r1 fun F h1 h2 _ => Ahr hof (a := wd a (e0.set fn.toNat (some (gb, (⟨⟨wr (d.1 + 1), true⟩, ⟨wr (wr (fu.Locals + b.AX) + d.2), true⟩, ⟨0, false⟩, ⟨0, false⟩⟩ : AU))))) hr rfl q5 (hok _ X1) D1 h1 ((hI.wd _).pass r1 h2)) rfl fun v1 w1 _ hS1 F1f => ?_
      obtain ⟨_, ⟨rfl, e1, hE1, rfl⟩, t1⟩ := hS1
      refine AW ?_
      refine NY ?_
      refine AZ ?_
      refine sv 2 F1f fun _ F1g => ?_
      refine AW ?_
      have G2 := F1g.sub (m' := [(0, jP k.g), (1, jI fn), (4, jP gz), (5, jP gb), (28, k.v7), (29, jI 3), (30, jI 2)]) ⟨rfl, rfl, rfl, rfl, rfl, rfl, rfl, trivial⟩
      have X2 : Kt (CH a) (some fn.toNat) a.done (e1.set fn.toNat (some (gb, (⟨⟨wr (d.1 + 1), true⟩, ⟨wr (wr (fu.Locals + b.AX) + d.2), true⟩, st, ⟨0, false⟩⟩ : AU)))) := (X1.trans (Kt.up hE1)).trans (Kt.set _)
      have D2 : idx (e1.set fn.toNat (some (gb, (⟨⟨wr (d.1 + 1), true⟩, ⟨wr (wr (fu.Locals + b.AX) + d.2), true⟩, st, ⟨0, false⟩⟩ : AU)))) fn = some (some (gb, (⟨⟨wr (d.1 + 1), true⟩, ⟨wr (wr (fu.Locals + b.AX) + d.2), true⟩, st, ⟨0, false⟩⟩ : AU))) := OD (Rb D1 hE1)
      have S2 : SL w FF w1 (AB gz 56 (EK Z) :: k.ck (wd a (e1.set fn.toNat (some (gb, (⟨⟨wr (d.1 + 1), true⟩, ⟨wr (wr (fu.Locals + b.AX) + d.2), true⟩, st, ⟨0, false⟩⟩ : AU)))))) := t1.Om
      -- rule 2
      refine JS ?_
      refine wp_seq ?_
      refine AZ ?_
      refine sv 1 G2 fun _ F2a => ?_
      refine AW ?_
      refine wp_seq ?_
      refine DO F2a rfl ?_
      refine wp_skip ?_
      refine wp_seq ?_
      refine wp_block ?_
      refine wp_seq ?_
      refine AZ ?_
      obtain ⟨adR2, hiR2, hcR2⟩ := TO (Flat.scalar _ _) S2 (.tail _ <| .tail _ <| .tail _ <| .tail _ <| .head _) Xm rfl (show idx (wd a (e1.set fn.toNat (some (gb, (⟨⟨wr (d.1 + 1), true⟩, ⟨wr (wr (fu.Locals + b.AX) + d.2), true⟩, st, ⟨0, false⟩⟩ : AU))))).rules 2 = some ⟨Np 40 k.g, rfl⟩ by show idx a.rules 2 = _; rw [hr]; rfl)
      refine sx F2a (hiR2 _ _ _ _ _ _ _ _ _ _ rfl rfl) fun _ F2b => ?_
      refine sx F2b (Ce (EA 90 (by simp)) rfl (Cells.at_ hcR2 (o := 0) rfl)) fun _ F2c => ?_
      refine sv 1 F2c fun _ F2d => ?_
      refine AW ?_
      refine AZ ?_
      refine sv 3 F2d fun _ F2e => ?_
      have r2 : SL w FF _ (k.ck (wd a (e1.set fn.toNat (some (gb, (⟨⟨wr (d.1 + 1), true⟩, ⟨wr (wr (fu.Locals + b.AX) + d.2), true⟩, st, ⟨0, false⟩⟩ : AU))))) ++ [AB gz 56 (EK Z)]) := S2.rot
      refine Uy F2e (UY 40 (by simp)) rfl rfl (Lq r2 fun F h1 h2 _ => Aia hof (a := wd a (e1.set fn.toNat (some (gb, (⟨⟨wr (d.1 + 1), true⟩, ⟨wr (wr (fu.Locals + b.AX) + d.2), true⟩, st, ⟨0, false⟩⟩ : AU))))) hr rfl q6 (hok _ X2) D2 h1 ((hI.wd _).pass r2 h2)) rfl fun v2 w2 _ hS2 F2f => ?_
      obtain ⟨_, ⟨rfl, e2, hE2, rfl⟩, t2⟩ := hS2
      refine AW ?_
      refine NY ?_
      refine AZ ?_
      refine sv 2 F2f fun _ F2g => ?_
      refine AW ?_
      have G3 := F2g.sub (m' := [(0, jP k.g), (1, jI fn), (4, jP gz), (5, jP gb), (28, k.v7), (29, jI 3), (30, jI 3)]) ⟨rfl, rfl, rfl, rfl, rfl, rfl, rfl, trivial⟩
      have X3 : Kt (CH a) (some fn.toNat) a.done (e2.set fn.toNat (some (gb, (⟨⟨wr (d.1 + 1), true⟩, ⟨wr (wr (fu.Locals + b.AX) + d.2), true⟩, st, ce⟩ : AU)))) := (X2.trans (Kt.up hE2)).trans (Kt.set _)
      have D3 : idx (e2.set fn.toNat (some (gb, (⟨⟨wr (d.1 + 1), true⟩, ⟨wr (wr (fu.Locals + b.AX) + d.2), true⟩, st, ce⟩ : AU)))) fn = some (some (gb, (⟨⟨wr (d.1 + 1), true⟩, ⟨wr (wr (fu.Locals + b.AX) + d.2), true⟩, st, ce⟩ : AU))) := OD (Rb D2 hE2)
      have S3 : SL w FF w2 (AB gz 56 (EK Z) :: k.ck (wd a (e2.set fn.toNat (some (gb, (⟨⟨wr (d.1 + 1), true⟩, ⟨wr (wr (fu.Locals + b.AX) + d.2), true⟩, st, ce⟩ : AU)))))) := t2.Om
      refine JS ?_
      refine wp_seq ?_
      refine AZ ?_
      refine sv 1 G3 fun _ F3a => ?_
      refine AW ?_
      refine wp_seq ?_
      refine Fv F3a rfl ?_
      refine wp_exit ?_
      refine IP <| IP <| KP ?_
      exact ⟨_, gb, Iq.of (k := m + 1) X3 (K1 hy0).2.2 (K1 D3).2.2 (by rw [hti]; exact H1), D3, F3a.sub ⟨rfl, rfl, rfl, trivial⟩, S3⟩
  · rintro _ w5 ⟨dn, gb, hE, hd5, F20, s5⟩
    refine wp_seq ?_
    refine AZ ?_
    obtain ⟨ad2, hi2, hc2⟩ := S7 (s5.BO (.tail _ <| .tail _ <| .tail _ <| .head _)) Pf rfl hd5
    refine sv 3 F20 fun _ F21 => ?_
    refine sx F21 (Ce (EA 85 (by simp)) rfl (s5.BP (.tail _ <| .head _) rfl)) fun _ F22 => ?_
    refine sv 1 F22 fun _ F23 => ?_
    refine sx F23 (hi2 _ _ _ _ _ _ _ _ _ _ rfl rfl) fun _ F24 => ?_
    refine sx F24 (Ce (EA 132 (by simp)) rfl (Cells.at_ hc2 (o := 0) rfl)) fun _ F25 => ?_
    refine sv 1 F25 fun _ F26 => ?_
    have s6 := Vu s5.f3 hd5
    refine sx F26 (Iu Aat rfl (s6.Do (.head _) (o := 0) (fun j u hu => by rw [Nat.zero_add]; exact hu)) rfl) fun _ F27 => ?_
    refine EL F27 (s6.f2) rfl rfl SN (Bl rfl (Bl rfl (Bl rfl (Bl rfl (Bl rfl (Bl rfl (Bl rfl (Bl rfl GI)))))))) (Nat.le_of_ble_eq_true rfl) fun w7 _ F28 s7 => ?_
    refine AW ?_
    refine wp_ret ?_
    have s8 : SL w FF w7 (AB gz 56 (EK ⟨⟨wr (d.1 + 1), true⟩, ⟨wr (wr (fu.Locals + b.AX) + d.2), true⟩, st, ce⟩) :: AB gb 56 (EK ⟨⟨wr (d.1 + 1), true⟩, ⟨wr (wr (fu.Locals + b.AX) + d.2), true⟩, st, ce⟩) :: _) := s7
    have s9 := XI (y := ⟨⟨wr (d.1 + 1), true⟩, ⟨wr (wr (fu.Locals + b.AX) + d.2), true⟩, st, ce⟩) s8.f2.f2
    rw [set_self (K1 hd5).2.2] at s9
    exact HY (rs := [.cell 4 56]) (vs := [.agg ⟨EK ⟨⟨wr (d.1 + 1), true⟩, ⟨wr (wr (fu.Locals + b.AX) + d.2), true⟩, st, ce⟩⟩]) F28 (by rfl) ⟨_, _, rfl, RV.blk s9 (.tail _ <| .head _) rfl Aat rfl, rfl⟩ ⟨_, rfl, dn, ⟨rfl, hE⟩, s9.f1.drop.f2.f2⟩
end Go.Proofs.YtfcpkcehecmcpaaGreat
