/- Lemmas, walks and laws that the row of this claim rests on, merged into few texts: part 5. -/
import Derived.Test.YtfcpkcehecmcpaaGreatKBd
set_option linter.unusedVariables false
set_option linter.unusedSimpArgs false
namespace Go.Proofs.YtfcpkcehecmcpaaGreat
open Go Go.RowKit Go.Pv Go.Proofs.Tryz
open Go.Pv renaming bind_ok → Aa, Bl → Ab, LZ → Ad, KO → Ae, Ii → Af, MY → Ag, EL → Ah, HW → Ai, HY → Aj, Io → Ak, GI → Al, Hu → Ao, Uw → Ap, Km → Aq, Iu → Ar, Ce → As, MN → Au, HS → Av, OB → Aw, Us → Ax
open Nat renaming le_of_ble_eq_true → Ac
open Go.Pv.RV renaming blk → Am, tmp → An
theorem Ll {w : World} {v0 : Value} {a0 : List B1} {r : (List B1)} (hr0 : Rd Dp w [] v0 a0) (H : De a0 = some r) :
    Calls prog 44 #[v0] w (B8 fun u_ w_ => ∃ u0 : Value, u_ = u0 ∧ SL w [] w_ [Sl Dp u0 r]) := by
 have s0 : SL w [] w [] := SL.BF w
 refine Cb func44 ntmps44 9 rfl rfl rfl fun _ F => ?_
 unfold De at H
 obtain ⟨A0, c0, h0⟩ := H7 (EZ hr0 s0)
 refine gx F (Ru rfl h0 rfl underlying101) 2 rfl rfl fun _ F => Xi F rfl (fun h1 => ?_) (fun h1 => ?_)
 ·have h2 := YB (EZ hr0 s0) h0 (by simpa using h1)
  replace H := Uq (B := some ([] : List B1)) H (by simp [h2, app])
  cases H
  exact gc 7 F rfl fun _ F => rt F ⟨(.slice none 0 0), rfl, (SL.Ca (T := Dp) s0)⟩
 refine gc 4 F rfl fun _ F => ?_
 refine Ad (parts := []) IV ([] : List B1) F s0 MP rfl (by decide) rfl rfl rfl (by simp [Value.cells]) rfl rfl rfl fun v1 w0 _ F s1 => ?_
 obtain ⟨x0, h3, H⟩ := Aa H
 obtain ⟨_, hr_⟩ := (EZ hr0 s1)
 refine gw 1 F rfl fun _ F => Aq IV F s1 MP rfl rfl rfl rfl hr_ rfl rfl h3 rfl fun v2 w1 _ F s2 => ?_
 cases H
 exact gw 4 F rfl fun _ F => rt F ⟨v2, rfl, s2⟩
theorem It {w : World} {v0 : Value} {a0 : List UInt8} {r : (List UInt8)} (hr0 : Rd Ty.u8 w [] v0 a0) (H : Dl a0 = some r) :
    Calls prog 70 #[v0] w (B8 fun u_ w_ => ∃ u0 : Value, u_ = u0 ∧ SL w [] w_ [Sl Ty.u8 u0 r]) := by
 have s0 : SL w [] w [] := SL.BF w
 refine Cb func70 ntmps70 9 rfl rfl rfl fun _ F => ?_
 unfold Dl at H
 obtain ⟨A0, c0, h0⟩ := H7 (EZ hr0 s0)
 refine gx F (Ru rfl h0 rfl underlying47) 2 rfl rfl fun _ F => Xi F rfl (fun h1 => ?_) (fun h1 => ?_)
 ·have h2 := YB (EZ hr0 s0) h0 (by simpa using h1)
  replace H := Uq (B := some ([] : List UInt8)) H (by simp [h2, app])
  cases H
  exact gc 7 F rfl fun _ F => rt F ⟨(.slice none 0 0), rfl, (SL.Ca (T := Ty.u8) s0)⟩
 refine gc 4 F rfl fun _ F => ?_
 refine Ad (parts := []) Flat.u8 ([] : List UInt8) F s0 BU rfl (by decide) rfl rfl rfl (by simp [Value.cells]) rfl rfl rfl fun v1 w0 _ F s1 => ?_
 obtain ⟨x0, h3, H⟩ := Aa H
 obtain ⟨_, hr_⟩ := (EZ hr0 s1)
 refine gw 1 F rfl fun _ F => Aq Flat.u8 F s1 BU rfl rfl rfl rfl hr_ rfl rfl h3 rfl fun v2 w1 _ F s2 => ?_
 cases H
 exact gw 4 F rfl fun _ F => rt F ⟨v2, rfl, s2⟩
theorem Zk {w : World} {v0_1 v0_2 v0_3 : Value} {a0 : AH} {a1 : Int} {r : AD × Bool} (hr0_1 : Rd AL w [] v0_1 a0.Classes) (hr0_2 : Rd Es w [] v0_2 a0.Funcs) (hr0_3 : Rd (Ty.slice Ty.u8) w [] v0_3 a0.Ec) (H : N5 a0 a1 = some r) :
    Calls prog 46 #[.agg ⟨[.string ⟨⟨a0.Name⟩⟩, v0_1, v0_2, v0_3]⟩, jI a1] w (B8 fun u_ w_ => ∃ u0 u1 : Value, u_ = .tuple ⟨[.agg ⟨[u0, u1, jI r.1.Fn]⟩, .bool r.2]⟩ ∧ SL w [] w_ [Sl AL u0 r.1.Classes, Sl Bs u1 r.1.AP]) := by
 have s0 : SL w [] w [] := SL.BF w
 refine Cb func46 ntmps46 2 rfl rfl rfl fun _ F0 => ?_
 unfold N5 at H
 refine Ao F0 s0 rfl rfl rfl fun g0 w0 _ F s1 => Ag F s1 KZ rfl rfl fun g1 w1 _ F s2 => gw 9 F rfl fun _ F => Cp 13 F H (fun h0 H F => ?_) (fun h0 H F => ?_)
 ·refine gw 11 F rfl fun _ F => gx F (Af (vs := []) KZ Ue rfl (cs := [.slice none 0 0, .slice none 0 0, jI 0]) (rfl)) 0 rfl rfl fun _ F => Ah F s2 rfl rfl OJ (Ab rfl (Ab rfl (Ab rfl Al))) (Ac rfl) fun w2 _ F s3 => ?_
  cases H
  refine gw 5 F rfl fun _ F => ?_
  refine Aj (rs := [.cell 4 110, .tmp 5]) (vs := [.agg ⟨[.slice none 0 0, .slice none 0 0, jI 0]⟩, .bool false]) F (by rfl) ⟨_, _, rfl, Am s3 m0 rfl Pt rfl, _, _, rfl, An rfl, rfl⟩ ⟨_, rfl, ⟨(.slice none 0 0), (.slice none 0 0), rfl, (SL.Ca (T := Bs) (SL.Ca (T := AL) s3)).f2.drop.f2.drop.f1⟩⟩
 refine gw 2 F rfl fun _ F => AY F rfl rfl <| AV F s2 m1 0 rfl fun _ F => AY F rfl rfl <| gx F (Ak rfl underlying23 (fR hr0_2 s2)) 4 rfl rfl fun _ F => Be F H 2 5 rfl rfl rfl (fun h1 H _ F => ?_) (fun h1 H _ F => ?_)
 ·refine gx F (Af (vs := []) KZ Ue rfl (cs := [.slice none 0 0, .slice none 0 0, jI 0]) (rfl)) 0 rfl rfl fun _ F => Ah F s2 rfl rfl OJ (Ab rfl (Ab rfl (Ab rfl Al))) (Ac rfl) fun w3 _ F s4 => ?_
  cases H
  refine gw 5 F rfl fun _ F => ?_
  refine Aj (rs := [.cell 4 110, .tmp 5]) (vs := [.agg ⟨[.slice none 0 0, .slice none 0 0, jI 0]⟩, .bool false]) F (by rfl) ⟨_, _, rfl, Am s4 m0 rfl Pt rfl, _, _, rfl, An rfl, rfl⟩ ⟨_, rfl, ⟨(.slice none 0 0), (.slice none 0 0), rfl, (SL.Ca (T := Bs) (SL.Ca (T := AL) s4)).f2.drop.f2.drop.f1⟩⟩
 refine gx F (Af (vs := [jI a1]) KZ Ue rfl (cs := [.slice none 0 0, .slice none 0 0, jI a1]) (rfl)) 0 rfl rfl fun _ F => Ag F s2 KZ rfl rfl fun g2 w4 _ F s5 => Ah F s5 rfl rfl OJ (Ab rfl (Ab rfl (Ab rfl Al))) (Ac rfl) fun w5 _ F s6 => gw 6 F rfl fun _ F => AV F s6 m2 0 rfl fun _ F => ?_
 obtain ⟨o0, H0, R0⟩ := Aa H
 clear H
 refine gx F (Ak rfl underlying22 (fR hr0_1 s6)) 3 rfl rfl fun _ F => Cx (fun a w_ => ∃ v0 : Value, Fr a 63 [(2, jP g0), (4, jP g1), (6, jP g2)] ∧ SL w [] w_ [AB g2 110 [v0, .slice none 0 0, jI a1], AB g1 110 [.slice none 0 0, .slice none 0 0, jI 0], AB g0 26 [.string ⟨⟨a0.Name⟩⟩, v0_1, v0_2, v0_3], Sl AL v0 o0]) ?_ ?_
 ·have H := H0
  refine gc 1 F rfl fun _ F => E6 (Jv a0) (fun s7 a w_ => ∃ v1 : Value, Fr a 63 [(2, jP g0), (4, jP g1), (6, jP g2), (24, v0_1), (25, jI (a0.Classes.length : Int)), (26, jI s7.2)] ∧ SL w [] w_ [AB g2 110 [v1, .slice none 0 0, jI a1], AB g1 110 [.slice none 0 0, .slice none 0 0, jI 0], AB g0 26 [.string ⟨⟨a0.Name⟩⟩, v0_1, v0_2, v0_3], Sl AL v1 s7.1]) H ?_ ?_
  ·exact ⟨(.slice none 0 0), F.sb, (SL.Ca (T := AL) s6).f3.f3.f3⟩
  intro s7 _ w6 h2 o1 H hr
  obtain ⟨v1, F, s8⟩ := h2
  replace H : Jv a0 s7 = some o1 := H
  unfold Jv at H
  refine gc 6 F rfl fun _ F => Be F H 6 4 rfl rfl rfl (fun h3 H _ F => ?_) (fun h3 H _ F => ?_)
  ·obtain ⟨x0, h4, H⟩ := Aa H
   obtain ⟨a2, c0, G0, h5, h6, h7, h8⟩ := Rd.idx hr0_1 GM rfl h4
   obtain ⟨v2, rfl, h9⟩ := (EV h7 h8)
   replace h6 := h6 _ _ s8
   refine gi F h5 0 rfl fun _ F => gx F (Ar RB rfl h6 rfl) 0 rfl rfl fun _ F => Ag F s8 Vb rfl rfl fun g3 w7 _ F s9 => Ah F s9 rfl rfl Yi (Ab rfl (Ab rfl (Ab (Ap (fR h9 s9)) Al))) (Ac rfl) fun w8 _ F sa => ?_
   obtain ⟨x1, ha, H⟩ := Aa H
   refine gw 5 F rfl fun _ F => AV F sa m0 0 rfl fun _ F => Ei F (Ll (h9.Bp sa) ha) fun v3 w9 _ hb F => ?_
   obtain ⟨_, rfl, hc⟩ := hb
   have sc := sa.add hc
   refine gw 1 F rfl fun _ F => Au F sc.f1 rfl rfl Afm (Ae (fO sc.f1 m1)) (Ap (fO sc.f1 m1)) rfl fun wa _ F sd => gw 4 F rfl fun _ F => AV F sd m2 0 rfl fun _ F => AV F sd m0 0 rfl fun _ F => ?_
   have se : SL w [] _ (Dt AL (⟨x0.Name, x0.Bn, x1⟩ : A9) [.string ⟨⟨x0.Name⟩⟩, jI x0.Bn, v3] :: [AB g3 103 [.string ⟨⟨x0.Name⟩⟩, jI x0.Bn, v3], AB g2 110 [v1, .slice none 0 0, jI a1], AB g1 110 [.slice none 0 0, .slice none 0 0, jI 0], AB g0 26 [.string ⟨⟨a0.Name⟩⟩, v0_1, v0_2, v0_3], Sl AL v1 s7.1]) := (SL.OV (f := JV) (x := (⟨x0.Name, x0.Bn, x1⟩ : A9)) (SL.Kl (SL.JI (SL.Kl (SL.JI (SL.dsl sd.f1) (Flat.int .i64) x0.Bn)) Flat.str x0.Name)))
   refine Og F se GM rfl (by decide) rfl rfl rfl fun v4 wb _ F sf => ?_
   obtain ⟨x2, hd, H⟩ := Aa H
   refine QO F sf.f5 GM rfl rfl rfl rfl rfl rfl hd rfl fun v5 wc _ F sg => gw 1 F rfl fun _ F => Au F sg.f2 rfl rfl Aig (Ae (fO sg.f2 m1)) (Ap (fO sg.f2 m1)) rfl fun wd _ F sh => ?_
   cases H
   exact gw 7 F rfl fun _ F => ⟨_, rfl, v5, F.sb, sh.f2.drop.f1.f3.f3.f3⟩
  cases H
  obtain rfl := hr _ rfl
  exact ⟨v1, F.sb, s8⟩
 intro _ we hJ
 obtain ⟨v0, F, si⟩ := hJ
 have H := R0
 clear R0 H0
 refine ge 5 F rfl fun _ F => AV F si m2 0 rfl fun _ F => ?_
 obtain ⟨o2, H1, R1⟩ := Aa H
 clear H
 refine gx F (Ak rfl underlying23 (fR hr0_2 si)) 3 rfl rfl fun _ F => Cx (fun a w_ => ∃ v6 : Value, Fr a 63 [(4, jP g1), (6, jP g2)] ∧ SL w [] w_ [AB g2 110 [v0, v6, jI a1], AB g1 110 [.slice none 0 0, .slice none 0 0, jI 0], Sl AL v0 o0, Sl Bs v6 o2]) ?_ ?_
 ·have H := H1
  refine gc 1 F rfl fun _ F => E6 (Jy a0) (fun sj a w_ => ∃ v7 : Value, Fr a 63 [(4, jP g1), (6, jP g2), (42, v0_2), (43, jI (a0.Funcs.length : Int)), (44, jI sj.2)] ∧ SL w [] w_ [AB g2 110 [v0, v7, jI a1], AB g1 110 [.slice none 0 0, .slice none 0 0, jI 0], Sl AL v0 o0, Sl Bs v7 sj.1]) H ?_ ?_
  ·exact ⟨(.slice none 0 0), F.sb, (SL.Ca (T := Bs) si).f3.drop.f3.f3.f3⟩
  intro sj _ wf he o3 H hr
  obtain ⟨v7, F, sk⟩ := he
  replace H : Jy a0 sj = some o3 := H
  unfold Jy at H
  refine gc 6 F rfl fun _ F => Be F H 6 4 rfl rfl rfl (fun hf H _ F => ?_) (fun hf H _ F => ?_)
  ·obtain ⟨x3, hg, H⟩ := Aa H
   obtain ⟨a3, c1, G1, hh, hi, hj, hk⟩ := Rd.idx hr0_2 SO rfl hg
   obtain ⟨v8, v9, rfl, hl, hm⟩ := (Qq hj hk)
   replace hi := hi _ _ sk
   refine gi F hh 0 rfl fun _ F => gx F (Ar X6 rfl hi rfl) 0 rfl rfl fun _ F => Ag F sk So rfl rfl fun g4 wg _ F sl => Ah F sl rfl rfl Z2 (Ab rfl (Ab (Ap (fR hl sl)) (Ab rfl (Ab rfl (Ab (Ap (fR hm sl)) Al))))) (Ac rfl) fun wh _ F sm => ?_
   obtain ⟨x4, hn, H⟩ := Aa H
   obtain ⟨x5, hp, H⟩ := Aa H
   refine gw 2 F rfl fun _ F => Dk BL sm.f1.drop.f3.drop ?_
   have sn := sm.drew
   refine hq [0, 2, 3, 4, 6, 7, 8] F sn.f1.drop.f3.drop (QI.ev 3 rfl <| QI.ld m0 rfl <| QI.ev 2 rfl <| QI.ld m0 rfl <| QI.nil) (by kernel_rfl) fun _ F => ?_
   refine Jb [0, 1, 2, 3, 4, 5, 6, 7, 8, 9, 10] (fun a w_ => ∃ va : Value, Fr a 63 [(4, jP g1), (6, jP g2), (42, v0_2), (43, jI (a0.Funcs.length : Int)), (44, jI sj.2), (49, v7), (58, va)] ∧ SL w [] w_ [AB g4 52 [.string ⟨⟨x3.Name⟩⟩, v8, jU (x3.Sig.Result.toNat : Int), jI x3.Locals, v9], AB g1 110 [.slice none 0 0, .slice none 0 0, jI 0], Sl AL v0 o0, Sl Bs va ([(⟨x4, x3.Sig.Result⟩ : Bq)] : List Bq), Sl Bs v7 sj.1, AB g2 110 [v0, v7, jI a1]]) ?_ fun hD0 => ?_
   ·rintro a w_ ⟨va, F, so⟩
    refine ho 11 rfl (by kernel_rfl) ?_
    refine QO F so.f3.f4 JG rfl rfl rfl rfl rfl rfl hp rfl fun vb wi _ F sp => gw 1 F rfl fun _ F => ⟨sp.drop.f3.drop, ?_⟩
    refine hq [12] F sp.drop.f3.drop (QI.ev 1 rfl <| QI.nil) (by kernel_rfl) fun _ F => ?_
    refine ho 13 rfl (by kernel_rfl) ?_
    refine Au F sp.f4 rfl rfl Agk (Ae (fO sp.f4 m1)) (Ap (fO sp.f4 m1)) rfl fun wj _ F sq => gw 1 F rfl fun _ F => ⟨sq.drop.drop, ?_⟩
    refine Ea (by kernel_rfl) ?_
    cases H
    exact ge 6 F rfl fun _ F => ⟨_, rfl, vb, F.sb, sq.f2.drop.f1.f3.f3.f3⟩
   refine Jb [0, 1, 2, 3, 4, 5, 6, 7, 8, 9] (fun a w_ => ∃ vc : Value, Fr a 63 [(4, jP g1), (6, jP g2), (42, v0_2), (43, jI (a0.Funcs.length : Int)), (44, jI sj.2), (49, v7), (57, .agg ⟨[vc, jU (x3.Sig.Result.toNat : Int)]⟩)] ∧ SL w [] w_ [AB g4 52 [.string ⟨⟨x3.Name⟩⟩, v8, jU (x3.Sig.Result.toNat : Int), jI x3.Locals, v9], AB g1 110 [.slice none 0 0, .slice none 0 0, jI 0], Sl AL v0 o0, Sl Ty.u8 vc x4, Sl Bs v7 sj.1, AB g2 110 [v0, v7, jI a1]]) ?_ fun hD1 => ?_
   ·rintro a w_ ⟨vc, F, sr⟩
    refine ho 10 rfl (by kernel_rfl) ?_
    have ss : SL w [] _ (Dt Bs (⟨x4, x3.Sig.Result⟩ : Bq) [vc, jU (x3.Sig.Result.toNat : Int)] :: [AB g4 52 [.string ⟨⟨x3.Name⟩⟩, v8, jU (x3.Sig.Result.toNat : Int), jI x3.Locals, v9], AB g1 110 [.slice none 0 0, .slice none 0 0, jI 0], Sl AL v0 o0, Sl Bs v7 sj.1, AB g2 110 [v0, v7, jI a1]]) := (SL.OV (f := IR) (x := (⟨x4, x3.Sig.Result⟩ : Bq)) (SL.Kl (SL.dsl (SL.JI sr Flat.u8 x3.Sig.Result).f4)))
    refine Og F ss JG rfl (by decide) rfl rfl rfl fun va wk _ F st => ?_
    exact gw 1 F rfl fun _ F => ⟨st.drop.f3.drop.f3.drop, E5 hD0 ⟨va, F.sb, st.f5.f5.f2.f5.f5.f5⟩ (by kernel_rfl)⟩
   refine Jb [0, 1, 2, 3, 4, 5, 6, 7, 8] (fun a w_ => ∃ vc : Value, Fr a 63 [(4, jP g1), (6, jP g2), (42, v0_2), (43, jI (a0.Funcs.length : Int)), (44, jI sj.2), (49, v7), (53, vc), (56, jU (x3.Sig.Result.toNat : Int))] ∧ SL w [] w_ [AB g4 52 [.string ⟨⟨x3.Name⟩⟩, v8, jU (x3.Sig.Result.toNat : Int), jI x3.Locals, v9], AB g1 110 [.slice none 0 0, .slice none 0 0, jI 0], Sl AL v0 o0, Sl Ty.u8 vc x4, Sl Bs v7 sj.1, AB g2 110 [v0, v7, jI a1]]) ?_ fun hD2 => ?_
   ·rintro a w_ ⟨vc, F, su⟩
    refine ho 9 rfl (by kernel_rfl) ?_
    have hs := (fO su m3)
    refine gx F (Af (vs := [vc, jU (x3.Sig.Result.toNat : Int)]) NF ZX rfl (cs := [vc, jU (x3.Sig.Result.toNat : Int)]) (by obtain ⟨_, _, e_0⟩ := hs; rw [e_0] <;> rfl)) 1 rfl rfl fun _ F => ?_
    exact ⟨su.f3.drop.f3.drop.f3.drop, E5 hD1 ⟨vc, F.sb, su⟩ (by kernel_rfl)⟩
   refine Hw 1 5 rfl rfl (by kernel_rfl) ?_ ?_
   ·refine AV F sn m1 1 rfl fun _ F => ⟨sn.f1.drop.f3.drop, ?_⟩
    refine ho 5 rfl (by kernel_rfl) ?_
    refine Ei F (It (hl.Bp sn) hn) fun vc wl _ ht F => ?_
    obtain ⟨_, rfl, hu⟩ := ht
    have sv := sn.add hu
    exact gw 1 F rfl fun _ F => ⟨sv.drop.f1.drop.f3.drop, E5 hD2 ⟨vc, F.sb, sv.f2.f5.f2.f5.f5.f5⟩ (by kernel_rfl)⟩
   refine Ei F (It (hl.Bp sn) hn) fun vc wl _ ht F => ?_
   obtain ⟨_, rfl, hu⟩ := ht
   have sv := sn.add hu
   refine gw 1 F rfl fun _ F => ⟨sv.drop.f1.drop.f3.drop, ?_⟩
   refine Hw 1 9 rfl rfl (by kernel_rfl) ?_ ?_
   ·exact AV F sv m2 1 rfl fun _ F => ⟨sv.drop.f1.drop.f3.drop, E5 hD2 ⟨vc, F.sb, sv.f2.f5.f2.f5.f5.f5⟩ (by kernel_rfl)⟩
   have hs := (fO sv m0)
   refine gx F (Af (vs := [vc, jU (x3.Sig.Result.toNat : Int)]) NF ZX rfl (cs := [vc, jU (x3.Sig.Result.toNat : Int)]) (by obtain ⟨_, _, e_0⟩ := hs; rw [e_0] <;> rfl)) 1 rfl rfl fun _ F => ?_
   refine ⟨sv.drop.f1.drop.f3.drop, ?_⟩
   refine Hw 1 10 rfl rfl (by kernel_rfl) ?_ ?_
   ·exact AV F sv m2 1 rfl fun _ F => ⟨sv.drop.f1.drop.f3.drop, E5 hD1 ⟨vc, F.sb, sv.f2.f5.f2.f5.f5.f5⟩ (by kernel_rfl)⟩
   have ss : SL w [] _ (Dt Bs (⟨x4, x3.Sig.Result⟩ : Bq) [vc, jU (x3.Sig.Result.toNat : Int)] :: [AB g4 52 [.string ⟨⟨x3.Name⟩⟩, v8, jU (x3.Sig.Result.toNat : Int), jI x3.Locals, v9], AB g2 110 [v0, v7, jI a1], AB g1 110 [.slice none 0 0, .slice none 0 0, jI 0], Sl AL v0 o0, Sl Bs v7 sj.1]) := (SL.OV (f := IR) (x := (⟨x4, x3.Sig.Result⟩ : Bq)) (SL.Kl (SL.dsl (SL.JI sv Flat.u8 x3.Sig.Result).f1)))
   refine Og F ss JG rfl (by decide) rfl rfl rfl fun va wk _ F st => ?_
   refine gw 1 F rfl fun _ F => ⟨st.drop.f1.drop.f3.drop, ?_⟩
   refine ho 1 rfl (by kernel_rfl) ?_
   exact AV F st m2 1 rfl fun _ F => ⟨st.drop.f1.drop.f3.drop, E5 hD0 ⟨va, F.sb, st.f2.f5.f2.f5.f5.f5⟩ (by kernel_rfl)⟩
  cases H
  obtain rfl := hr _ rfl
  exact ⟨v7, F.sb, sk⟩
 intro _ wm hJ
 obtain ⟨v6, F, sw⟩ := hJ
 have H := R1
 clear R1 H1
 refine ge 3 F rfl fun _ F => AV F sw m0 0 rfl fun _ F => Ah F sw.f1 rfl rfl OJ (Ab (Ap (fO sw.f1 m2)) (Ab (Ap (fO sw.f1 m3)) (Ab rfl Al))) (Ac rfl) fun wn _ F sx => ?_
 cases H
 refine gw 4 F rfl fun _ F => ?_
 refine Aj (rs := [.cell 4 110, .tmp 5]) (vs := [.agg ⟨[v0, v6, jI a1]⟩, .bool true]) F (by rfl) ⟨_, _, rfl, Am sx m0 rfl Pt rfl, _, _, rfl, An rfl, rfl⟩ ⟨_, rfl, ⟨v0, v6, rfl, sx.drop.drop⟩⟩
theorem VH {w : World} {a0 : Int} {r : A3 × Int} (H : MH a0 = some r) :
    Calls prog 131 #[jI a0] w (B8 fun u_ w_ => u_ = .tuple ⟨[.agg ⟨(jI r.1.Locals :: jI r.1.Height :: Bb r.1.Slots)⟩, jI r.2]⟩ ∧ SL w [] w_ []) := by
 have s0 : SL w [] w [] := SL.BF w
 refine Cb func131 ntmps131 2 rfl rfl rfl fun _ F0 => ?_
 unfold MH at H
 refine Ag F0 s0 Bu rfl rfl fun g8 w9 _ F s1 => gw 9 F rfl fun _ F => Cp 6 F H (fun h0 H F => ?_) (fun h0 H F => ?_)
 ·refine gw 8 F rfl fun _ F => gx F (Af (vs := []) Bu Dj rfl (cs := jZ) (Ch)) 0 rfl rfl fun _ F => ?_
  refine Br (ds := jZ) F s1 rfl rfl (by simpa using BA) (Ab rfl (Ab rfl (BH _))) (by simp) fun w0 _ F s2 => ?_
  cases H
  refine gw 5 F rfl fun _ F => ?_
  refine Aj (rs := [.cell 2 118, .tmp 3]) (vs := [.agg ⟨jZ⟩, jI 1]) F (by rfl) ⟨_, _, rfl, Am s2 m0 rfl BI (by simp), _, _, rfl, An rfl, rfl⟩ ⟨_, rfl, ⟨rfl, s2.drop⟩⟩
 refine gw 5 F rfl fun _ F => Be F H 2 5 rfl rfl rfl (fun h1 H _ F => ?_) (fun h1 H _ F => ?_)
 ·refine gx F (Af (vs := []) Bu Dj rfl (cs := jZ) (Ch)) 0 rfl rfl fun _ F => ?_
  refine Br (ds := jZ) F s1 rfl rfl (by simpa using BA) (Ab rfl (Ab rfl (BH _))) (by simp) fun w1 _ F s3 => ?_
  cases H
  refine gw 5 F rfl fun _ F => ?_
  refine Aj (rs := [.cell 2 118, .tmp 3]) (vs := [.agg ⟨jZ⟩, jI 1]) F (by rfl) ⟨_, _, rfl, Am s3 m0 rfl BI (by simp), _, _, rfl, An rfl, rfl⟩ ⟨_, rfl, ⟨rfl, s3.drop⟩⟩
 refine gx F (Af (vs := [jI a0]) Bu Dj rfl (cs := (jI a0 :: jI 0 :: Bb (Vector.replicate 24 (0 : UInt8)))) (D8 rfl rfl (by simp) <| Ch)) 0 rfl rfl fun _ F => ?_
 refine Br (ds := (jI a0 :: jI 0 :: Bb (Vector.replicate 24 (0 : UInt8)))) F s1 rfl rfl (by simpa using BA) (Ab rfl (Ab rfl (BH _))) (by simp) fun w2 _ F s4 => ?_
 cases H
 refine gw 4 F rfl fun _ F => ?_
 refine Aj (rs := [.cell 2 118, .tmp 3]) (vs := [.agg ⟨(jI a0 :: jI 0 :: Bb (Vector.replicate 24 (0 : UInt8)))⟩, jI 0]) F (by rfl) ⟨_, _, rfl, Am s4 m0 rfl BI (by simp), _, _, rfl, An rfl, rfl⟩ ⟨_, rfl, ⟨rfl, s4.drop⟩⟩
theorem FT {w : World} {v0 : Value} {a0 : List A9} {a1 : UInt8} {r : Int} (hr0 : Rd AL w [] v0 a0) (H : FC a0 a1 = some r) :
    Calls prog 158 #[v0, jU (a1.toNat : Int)] w (B8 fun u_ w_ => u_ = jI r ∧ SL w [] w_ []) := by
 have s0 : SL w [] w [] := SL.BF w
 refine Cb func158 ntmps158 11 rfl rfl rfl fun _ F => ?_
 unfold FC at H
 refine Cp 7 F H (fun h0 H F => ?_) (fun h0 H F => ?_)
 ·cases H
  exact gw 17 F rfl fun _ F => rt F ⟨rfl, s0⟩
 refine gw 1 F rfl fun _ F => AY F rfl rfl <| gx F (ZO rfl rfl) 0 rfl rfl fun _ F => AY F rfl rfl <| gx F (TS rfl underlying48 underlying3) 1 rfl rfl fun _ F => AY F rfl rfl <| gx F (Ak rfl underlying22 (fR hr0 s0)) 4 rfl rfl fun _ F => Be F H 7 5 rfl rfl rfl (fun h1 H _ F => ?_) (fun h1 H _ F => ?_)
 ·cases H
  exact rt F ⟨rfl, s0⟩
 refine gx F (ZO rfl rfl) 0 rfl rfl fun _ F => ?_
 cases H
 exact gx F (TS rfl underlying48 underlying3) 4 rfl rfl fun _ F => rt F ⟨rfl, s0⟩
theorem FR {w : World} {v0 : Value} {a0 : List A9} {a1 : UInt8} {r : Bool} (hr0 : Rd AL w [] v0 a0) (H : E3 a0 a1 = some r) :
    Calls prog 132 #[v0, jU (a1.toNat : Int)] w (B8 fun u_ w_ => u_ = .bool r ∧ SL w [] w_ []) := by
 have s0 : SL w [] w [] := SL.BF w
 refine Cb func132 ntmps132 10 rfl rfl rfl fun _ F => ?_
 unfold E3 at H
 refine Cp 7 F H (fun h0 H F => ?_) (fun h0 H F => ?_)
 ·cases H
  exact gw 9 F rfl fun _ F => rt F ⟨rfl, s0⟩
 obtain ⟨x0, h1, H⟩ := Aa H
 refine gw 2 F rfl fun _ F => AY F rfl rfl <| BW F s0 (FT (hr0.Bp s0) h1) 6 rfl rfl rfl rfl fun w0 _ F s1 => ?_
 cases H
 exact rt F ⟨rfl, s1⟩
theorem Ld {w : World} {v0 v1 : Value} {a0 : List A9} {a1 : List UInt8} {a2 : Int} {r : A3 × Int} (hr0 : Rd AL w [] v0 a0) (hr1 : Rd Ty.u8 w [] v1 a1) (H : Jt a0 a1 a2 = some r) :
    Calls prog 104 #[v0, v1, jI a2] w (B8 fun u_ w_ => u_ = .tuple ⟨[.agg ⟨(jI r.1.Locals :: jI r.1.Height :: Bb r.1.Slots)⟩, jI r.2]⟩ ∧ SL w [] w_ []) := by
 have s0 : SL w [] w [] := SL.BF w
 refine Cb func104 ntmps104 2 rfl rfl rfl fun _ F0 => ?_
 unfold Jt at H
 refine Ag F0 s0 Bu rfl rfl fun g8 w9 _ F s1 => ?_
 obtain ⟨x0, h0, H⟩ := Aa H
 refine gw 6 F rfl fun _ F => BW F s1 (VH h0) 3 rfl rfl rfl rfl fun w0 _ F s2 => Ag F s2 Bu rfl rfl fun g0 w1 _ F s3 => ?_
 refine Br (ds := (jI x0.1.Locals :: jI x0.1.Height :: Bb x0.1.Slots)) F s3 rfl rfl (by simpa using BA) (Ab rfl (Ab rfl (BH _))) (by simp) fun w2 _ F s4 => ?_
 refine gw 9 F rfl fun _ F => Cp 19 F H (fun h1 H F => ?_) (fun h1 H F => ?_)
 ·refine gw 15 F rfl fun _ F => gx F (Af (vs := []) Bu Dj rfl (cs := jZ) (Ch)) 0 rfl rfl fun _ F => ?_
  refine Br (ds := jZ) F s4.f1 rfl rfl (by simpa using BA) (Ab rfl (Ab rfl (BH _))) (by simp) fun w3 _ F s5 => ?_
  cases H
  refine gw 5 F rfl fun _ F => ?_
  refine Aj (rs := [.cell 6 118, .tmp 7]) (vs := [.agg ⟨jZ⟩, jI 1]) F (by rfl) ⟨_, _, rfl, Am s5 m0 rfl BI (by simp), _, _, rfl, An rfl, rfl⟩ ⟨_, rfl, ⟨rfl, s5.drop.drop⟩⟩
 refine gw 1 F rfl fun _ F => AY F rfl rfl <| gx F (Ak rfl underlying47 (fR hr1 s4)) 3 rfl rfl fun _ F => Cp 24 F H (fun h2 H F => ?_) (fun h2 H F => ?_)
 ·refine gw 10 F rfl fun _ F => gx F (Af (vs := []) Bu Dj rfl (cs := jZ) (Ch)) 0 rfl rfl fun _ F => ?_
  refine Br (ds := jZ) F s4.f1 rfl rfl (by simpa using BA) (Ab rfl (Ab rfl (BH _))) (by simp) fun w4 _ F s6 => ?_
  cases H
  refine gw 5 F rfl fun _ F => ?_
  refine Aj (rs := [.cell 6 118, .tmp 7]) (vs := [.agg ⟨jZ⟩, jI 1]) F (by rfl) ⟨_, _, rfl, Am s6 m0 rfl BI (by simp), _, _, rfl, An rfl, rfl⟩ ⟨_, rfl, ⟨rfl, s6.drop.drop⟩⟩
 refine gw 1 F rfl fun _ F => AY F rfl rfl <| gx F (Ak rfl underlying47 (fR hr1 s4)) 5 rfl rfl fun _ F => Be F H 2 6 rfl rfl rfl (fun h3 H _ F => ?_) (fun h3 H _ F => ?_)
 ·refine gx F (Af (vs := []) Bu Dj rfl (cs := jZ) (Ch)) 0 rfl rfl fun _ F => ?_
  refine Br (ds := jZ) F s4.f1 rfl rfl (by simpa using BA) (Ab rfl (Ab rfl (BH _))) (by simp) fun w5 _ F s7 => ?_
  cases H
  refine gw 5 F rfl fun _ F => ?_
  refine Aj (rs := [.cell 6 118, .tmp 7]) (vs := [.agg ⟨jZ⟩, jI 1]) F (by rfl) ⟨_, _, rfl, Am s7 m0 rfl BI (by simp), _, _, rfl, An rfl, rfl⟩ ⟨_, rfl, ⟨rfl, s7.drop.drop⟩⟩
 obtain ⟨o0, H0, R0⟩ := Aa H
 clear H
 refine gx F (Ak rfl underlying47 (fR hr1 s4)) 3 rfl rfl fun _ F => Cx (fun a w_ => ∃ p0 : (Vector UInt8 24), o0 = .inr (p0) ∧ Fr a 57 [(6, jP g8), (8, jP g0)] ∧ SL w [] w_ [AB g0 118 (jI x0.1.Locals :: jI x0.1.Height :: Bb p0), AB g8 118 jZ]) ?_ ?_
 ·have H := H0
  refine gc 1 F rfl fun _ F => E6 (Gs a0 a1) (fun s8 a w_ => Fr a 57 [(0, v0), (6, jP g8), (8, jP g0), (31, v1), (32, jI (a1.length : Int)), (33, jI s8.2)] ∧ SL w [] w_ [AB g0 118 (jI x0.1.Locals :: jI x0.1.Height :: Bb s8.1), AB g8 118 jZ]) H ?_ ?_
  ·exact ⟨F.sb, s4⟩
  intro s8 _ w6 h4 o1 H hr
  obtain ⟨F, s9⟩ := h4
  replace H : Gs a0 a1 s8 = some o1 := H
  unfold Gs at H
  refine gc 6 F rfl fun _ F => Be F H 7 4 rfl rfl rfl (fun h5 H _ F => ?_) (fun h5 H _ F => ?_)
  ·obtain ⟨x1, h6, H⟩ := Aa H
   obtain ⟨a3, h7, h8⟩ := Lm Flat.u8 (EZ hr1 s9) BU rfl h6
   refine gi F h7 0 rfl fun _ F => ?_
   obtain ⟨x2, h9, H⟩ := Aa H
   refine gx F (As DV rfl (Cells.at_ h8 (o := 0) rfl)) 9 rfl rfl fun _ F => BW F s9 (FR (hr0.Bp s9) h9) 2 rfl rfl rfl rfl fun w7 _ F sa => Cp 42 F H (fun ha H F => ?_) (fun ha H F => ?_)
   ·refine gw 12 F rfl fun _ F => gx F (Af (vs := []) Bu Dj rfl (cs := jZ) (Ch)) 0 rfl rfl fun _ F => ?_
    refine Br (ds := jZ) F sa.f1 rfl rfl (by simpa using BA) (Ab rfl (Ab rfl (BH _))) (by simp) fun w8 _ F sc => ?_
    cases H
    obtain rfl := hr _ rfl
    replace H := R0
    try dsimp only at H
    cases H
    refine gw 11 F rfl fun _ F => ?_
    refine Aj (rs := [.cell 6 118, .tmp 7]) (vs := [.agg ⟨jZ⟩, jI 1]) F (by rfl) ⟨_, _, rfl, Am sc m0 rfl BI (by simp), _, _, rfl, An rfl, rfl⟩ ⟨_, rfl, ⟨rfl, sc.drop.drop⟩⟩
   refine gw 4 F rfl fun _ F => Cp 46 F H (fun hb H F => ?_) (fun hb H F => ?_)
   ·refine gw 8 F rfl fun _ F => gx F (Af (vs := []) Bu Dj rfl (cs := jZ) (Ch)) 0 rfl rfl fun _ F => ?_
    refine Br (ds := jZ) F sa.f1 rfl rfl (by simpa using BA) (Ab rfl (Ab rfl (BH _))) (by simp) fun wa _ F sd => ?_
    cases H
    obtain rfl := hr _ rfl
    replace H := R0
    try dsimp only at H
    cases H
    refine gw 11 F rfl fun _ F => ?_
    refine Aj (rs := [.cell 6 118, .tmp 7]) (vs := [.agg ⟨jZ⟩, jI 1]) F (by rfl) ⟨_, _, rfl, Am sd m0 rfl BI (by simp), _, _, rfl, An rfl, rfl⟩ ⟨_, rfl, ⟨rfl, sd.drop.drop⟩⟩
   refine gw 5 F rfl fun _ F => Be F H 2 6 rfl rfl rfl (fun hc H _ F => ?_) (fun hc H _ F => ?_)
   ·refine gx F (Af (vs := []) Bu Dj rfl (cs := jZ) (Ch)) 0 rfl rfl fun _ F => ?_
    refine Br (ds := jZ) F sa.f1 rfl rfl (by simpa using BA) (Ab rfl (Ab rfl (BH _))) (by simp) fun wb _ F se => ?_
    cases H
    obtain rfl := hr _ rfl
    replace H := R0
    try dsimp only at H
    cases H
    refine gw 11 F rfl fun _ F => ?_
    refine Aj (rs := [.cell 6 118, .tmp 7]) (vs := [.agg ⟨jZ⟩, jI 1]) F (by rfl) ⟨_, _, rfl, Am se m0 rfl BI (by simp), _, _, rfl, An rfl, rfl⟩ ⟨_, rfl, ⟨rfl, se.drop.drop⟩⟩
   obtain ⟨x3, hd, H⟩ := Aa H
   refine gx F (K5 Gb hd rfl rfl) 0 rfl rfl fun _ F => Po (y' := x1) (pre := [jI x0.1.Locals, jI x0.1.Height]) F sa rfl hd rfl rfl Ov fun wc _ F sf => ?_
   cases H
   exact gw 7 F rfl fun _ F => ⟨_, rfl, F.sb, sf⟩
  cases H
  obtain rfl := hr _ rfl
  exact ⟨_, rfl, F.sb, s9⟩
 intro _ wd hJ
 obtain ⟨p0, rfl, F, sg⟩ := hJ
 have H := R0
 clear R0 H0
 try dsimp only at H
 refine ge 3 F rfl fun _ F => Hv F sg m0 0 rfl fun _ F => ?_
 refine Br (ds := (jI x0.1.Locals :: jI x0.1.Height :: Bb p0)) F sg.f1 rfl rfl (by simpa using BA) (Ab rfl (Ab rfl (BH _))) (by simp) fun we _ F sh => ?_
 cases H
 refine gw 4 F rfl fun _ F => ?_
 refine Aj (rs := [.cell 6 118, .tmp 7]) (vs := [.agg ⟨(jI x0.1.Locals :: jI x0.1.Height :: Bb p0)⟩, jI 0]) F (by rfl) ⟨_, _, rfl, Am sh m0 rfl BI (by simp), _, _, rfl, An rfl, rfl⟩ ⟨_, rfl, ⟨rfl, sh.drop.drop⟩⟩
theorem NQ {w : World} {a0 : List UInt8} {r : Bool} (H : Jd a0 = some r) :
    Calls prog 151 #[.string ⟨⟨a0⟩⟩] w (B8 fun u_ w_ => u_ = .bool r ∧ SL w [] w_ []) := by
 have s0 : SL w [] w [] := SL.BF w
 refine Cb func151 ntmps151 9 rfl rfl rfl fun _ F => ?_
 unfold Jd at H
 refine gx F (Qf rfl underlying9) 2 rfl rfl fun _ F => Cp 8 F H (fun h0 H F => ?_) (fun h0 H F => ?_)
 ·cases H
  exact gw 14 F rfl fun _ F => rt F ⟨rfl, s0⟩
 refine gw 1 F rfl fun _ F => AY F rfl rfl <| gx F (Qf rfl underlying9) 4 rfl rfl fun _ F => Be F H 7 6 rfl rfl rfl (fun h1 H _ F => ?_) (fun h1 H _ F => ?_)
 ·cases H
  exact rt F ⟨rfl, s0⟩
 obtain ⟨o0, H0, R0⟩ := Aa H
 clear H
 refine gx F (Qf rfl underlying9) 3 rfl rfl fun _ F => Cx (fun a w_ => ∃ p0 : Unit, o0 = .inr (p0) ∧ Fr a 50 [] ∧ SL w [] w_ []) ?_ ?_
 ·have H := H0
  refine gc 1 F rfl fun _ F => E6 (E7 a0) (fun s1 a w_ => Fr a 50 [(0, .string ⟨⟨a0⟩⟩), (14, jI (a0.length : Int)), (15, jI s1)] ∧ SL w [] w_ []) H ?_ ?_
  ·exact ⟨F.sb, s0⟩
  intro s1 _ w0 h2 o1 H hr
  obtain ⟨F, s2⟩ := h2
  replace H : E7 a0 s1 = some o1 := H
  unfold E7 at H
  refine gc 6 F rfl fun _ F => Be F H 14 4 rfl rfl rfl (fun h3 H _ F => ?_) (fun h3 H _ F => ?_)
  ·obtain ⟨x0, h4, H⟩ := Aa H
   obtain ⟨o2, H1, R1⟩ := Aa H
   clear H
   refine gx F (Aiv rfl rfl underlying9 h4) 5 rfl rfl fun _ F => Cx (fun a w_ => Fr a 50 [(0, .string ⟨⟨a0⟩⟩), (3, jI s1), (4, jU (x0.toNat : Int)), (14, jI (a0.length : Int)), (15, jI s1), (21, .bool o2)] ∧ SL w [] w_ []) ?_ ?_
   ·have H := H1
    refine gc 5 F rfl fun _ F => Cp 24 F H (fun h5 H F => ?_) (fun h5 H F => ?_)
    ·refine gw 6 F rfl fun _ F => Be F H 1 4 rfl rfl rfl (fun h6 H _ F => ?_) (fun h6 H _ F => ?_)
     ·cases H
      exact ⟨F.sb, s2⟩
     refine Cp 30 F H (fun h7 H F => ?_) (fun h7 H F => ?_)
     ·cases H
      exact gw 5 F rfl fun _ F => ⟨F.sb, s2⟩
     cases H
     exact gw 5 F rfl fun _ F => ⟨F.sb, s2⟩
    refine gw 11 F rfl fun _ F => Cp 30 F H (fun h8 H F => ?_) (fun h8 H F => ?_)
    ·cases H
     exact gw 5 F rfl fun _ F => ⟨F.sb, s2⟩
    cases H
    exact gw 5 F rfl fun _ F => ⟨F.sb, s2⟩
   intro _ w1 hJ
   obtain ⟨F, s3⟩ := hJ
   have H := R1
   clear R1 H1
   refine ge 1 F rfl fun _ F => Be F H 8 5 rfl rfl rfl (fun h9 H _ F => ?_) (fun h9 H _ F => ?_)
   ·cases H
    exact ⟨_, rfl, F.sb, s3⟩
   refine Cp 37 F H (fun ha H F => ?_) (fun ha H F => ?_)
   ·refine gw 3 F rfl fun _ F => Cp 40 F H (fun hb H F => ?_) (fun hb H F => ?_)
    ·refine gw 4 F rfl fun _ F => Cp 44 F H (fun hc H F => ?_) (fun hc H F => ?_)
     ·cases H
      exact gw 16 F rfl fun _ F => ⟨_, rfl, F.sb, s3⟩
     refine gw 7 F rfl fun _ F => Be F H 8 13 rfl rfl rfl (fun hd H _ F => ?_) (fun hd H _ F => ?_)
     ·cases H
      exact ⟨_, rfl, F.sb, s3⟩
     cases H
     obtain rfl := hr _ rfl
     replace H := R0
     try dsimp only at H
     cases H
     exact rt F ⟨rfl, s3⟩
    refine gw 11 F rfl fun _ F => Be F H 8 13 rfl rfl rfl (fun he H _ F => ?_) (fun he H _ F => ?_)
    ·cases H
     exact ⟨_, rfl, F.sb, s3⟩
    cases H
    obtain rfl := hr _ rfl
    replace H := R0
    try dsimp only at H
    cases H
    exact rt F ⟨rfl, s3⟩
   cases H
   obtain rfl := hr _ rfl
   replace H := R0
   try dsimp only at H
   cases H
   exact gw 28 F rfl fun _ F => rt F ⟨rfl, s3⟩
  cases H
  obtain rfl := hr _ rfl
  exact ⟨_, rfl, F.sb, s2⟩
 intro _ w2 hJ
 obtain ⟨p0, rfl, F, s4⟩ := hJ
 have H := R0
 clear R0 H0
 try dsimp only at H
 cases H
 exact ge 7 F rfl fun _ F => rt F ⟨rfl, s4⟩
theorem MQ {w : World} {v0 : Value} {a0 : List (List UInt8)} {a1 : List UInt8} {r : Int} (hr0 : Rd Ty.str w [] v0 a0) (H : DZ a0 a1 = some r) :
    Calls prog 178 #[v0, .string ⟨⟨a1⟩⟩] w (B8 fun u_ w_ => u_ = jI r ∧ SL w [] w_ []) := by
 have s0 : SL w [] w [] := SL.BF w
 refine Cb func178 ntmps178 9 rfl rfl rfl fun _ F => ?_
 unfold DZ at H
 obtain ⟨o0, H0, R0⟩ := Aa H
 clear H
 refine gx F (Ak rfl underlying218 (fR hr0 s0)) 3 rfl rfl fun _ F => Cx (fun a w_ => ∃ p0 : Unit, o0 = .inr (p0) ∧ Fr a 19 [] ∧ SL w [] w_ []) ?_ ?_
 ·have H := H0
  refine gc 1 F rfl fun _ F => E6 (BV a0 a1) (fun s1 a w_ => Fr a 19 [(0, v0), (1, .string ⟨⟨a1⟩⟩), (7, jI (a0.length : Int)), (8, jI s1)] ∧ SL w [] w_ []) H ?_ ?_
  ·exact ⟨F.sb, s0⟩
  intro s1 _ w0 h0 o1 H hr
  obtain ⟨F, s2⟩ := h0
  replace H : BV a0 a1 s1 = some o1 := H
  unfold BV at H
  refine gc 6 F rfl fun _ F => Be F H 15 4 rfl rfl rfl (fun h1 H _ F => ?_) (fun h1 H _ F => ?_)
  ·obtain ⟨x0, h2, H⟩ := Aa H
   obtain ⟨a2, h3, h4⟩ := Lm Flat.str (EZ hr0 s2) Nf rfl h2
   refine gi F h3 0 rfl fun _ F => gx F (As ZN rfl (Cells.at_ h4 (o := 0) rfl)) 0 rfl rfl fun _ F => gx F (Ach rfl rfl) 2 rfl rfl fun _ F => Be F H 13 7 rfl rfl rfl (fun h5 H _ F => ?_) (fun h5 H _ F => ?_)
   ·cases H
    obtain rfl := hr _ rfl
    replace H := R0
    try dsimp only at H
    cases H
    exact rt F ⟨rfl, s2⟩
   cases H
   exact ⟨_, rfl, F.sb, s2⟩
  cases H
  obtain rfl := hr _ rfl
  exact ⟨_, rfl, F.sb, s2⟩
 intro _ w1 hJ
 obtain ⟨p0, rfl, F, s3⟩ := hJ
 have H := R0
 clear R0 H0
 try dsimp only at H
 cases H
 exact ge 7 F rfl fun _ F => rt F ⟨rfl, s3⟩
theorem I6 {w : World} {v0 : Value} {a0 : List (List UInt8)} {a1 : List UInt8} {r : Bool} (hr0 : Rd Ty.str w [] v0 a0) (H : Cr a0 a1 = some r) :
    Calls prog 152 #[v0, .string ⟨⟨a1⟩⟩] w (B8 fun u_ w_ => u_ = .bool r ∧ SL w [] w_ []) := by
 have s0 : SL w [] w [] := SL.BF w
 refine Cb func152 ntmps152 9 rfl rfl rfl fun _ F => ?_
 unfold Cr at H
 obtain ⟨x0, h0, H⟩ := Aa H
 refine BW F s0 (MQ (hr0.Bp s0) h0) 5 rfl rfl rfl rfl fun w0 _ F s1 => ?_
 cases H
 exact rt F ⟨rfl, s1⟩
theorem WW {w : World} {r : (List (List UInt8))} (H : Nm = some r) :
    Calls prog 153 #[] w (B8 fun u_ w_ => ∃ u0 : Value, u_ = u0 ∧ SL w [] w_ [Sl Ty.str u0 r]) := by
 have s0 : SL w [] w [] := SL.BF w
 refine Cb func153 ntmps153 7 rfl rfl rfl fun _ F2 => ?_
 unfold Nm at H
 refine Ad (parts := [(0, .const (.string ⟨⟨[116, 111, 112]⟩⟩)), (1, .const (.string ⟨⟨[105, 110, 116]⟩⟩)), (2, .const (.string ⟨⟨[98, 111, 111, 108]⟩⟩)), (3, .const (.string ⟨⟨[110, 117, 108, 108]⟩⟩)), (4, .const (.string ⟨⟨[105, 110, 116, 115]⟩⟩)), (5, .const (.string ⟨⟨[97, 110, 121]⟩⟩))]) Flat.str ([[116, 111, 112], [105, 110, 116], [98, 111, 111, 108], [110, 117, 108, 108], [105, 110, 116, 115], [97, 110, 121]] : List (List UInt8)) F2 s0 Nf rfl (by decide) rfl rfl rfl (by simp [Value.cells]) rfl rfl rfl fun v0 w0 _ F s1 => ?_
 cases H
 exact gw 4 F rfl fun _ F => rt F ⟨v0, rfl, s1⟩
theorem Td {w : World} {FF : List Nat} {g1 : Nat} {v0_2 v1_2 : Value} {a0 : A9} {a1 : A9} {r : Bool} (hst : Ba [AB g1 103 [.string ⟨⟨a1.Name⟩⟩, jI a1.Bn, v1_2]] w FF) (hr0_2 : Rd Dp w FF v0_2 a0.Fields) (hr1_2 : Rd Dp w FF v1_2 a1.Fields) (H : Kk a0 a1 = some r) :
    Calls prog 155 #[.agg ⟨[.string ⟨⟨a0.Name⟩⟩, jI a0.Bn, v0_2]⟩, jP g1] w (B8 fun u_ w_ => u_ = .bool r ∧ SL w FF w_ [AB g1 103 [.string ⟨⟨a1.Name⟩⟩, jI a1.Bn, v1_2]]) := by
 have s0 : SL w FF w [AB g1 103 [.string ⟨⟨a1.Name⟩⟩, jI a1.Bn, v1_2]] := SL.init w FF hst
 refine Cb func155 ntmps155 2 rfl rfl rfl fun _ F0 => ?_
 unfold Kk at H
 refine Ao F0 s0 rfl rfl rfl fun g8 w9 _ F s1 => gw 6 F rfl fun _ F => AV F s1 m0 1 rfl fun _ F => AV F s1 m1 0 rfl fun _ F => ?_
 cases H
 exact gx F (Ach rfl rfl) 4 rfl rfl fun _ F => rt F ⟨rfl, s1.drop⟩
theorem HT {w : World} {FF : List Nat} {g0 : Nat} {v0 v200_2 : Value} {a0 : List A9} {a200 : A9} {r : Int} (hst : Ba [AB g0 103 [.string ⟨⟨a200.Name⟩⟩, jI a200.Bn, v200_2]] w FF) (hr0 : Rd AL w FF v0 a0) (hr200_2 : Rd Dp w FF v200_2 a200.Fields) (H : C5 a0 a200 = some r) :
    Calls prog 179 #[v0, clo 155 [jP g0]] w (B8 fun u_ w_ => u_ = jI r ∧ SL w FF w_ [AB g0 103 [.string ⟨⟨a200.Name⟩⟩, jI a200.Bn, v200_2]]) := by
 have s0 : SL w FF w [AB g0 103 [.string ⟨⟨a200.Name⟩⟩, jI a200.Bn, v200_2]] := SL.init w FF hst
 refine Cb func179 ntmps179 9 rfl rfl rfl fun _ F => ?_
 unfold C5 at H
 obtain ⟨o0, H0, R0⟩ := Aa H
 clear H
 refine gx F (Ak rfl underlying22 (fR hr0 s0)) 3 rfl rfl fun _ F => Cx (fun a w_ => ∃ p0 : Unit, o0 = .inr (p0) ∧ Fr a 19 [] ∧ SL w FF w_ [AB g0 103 [.string ⟨⟨a200.Name⟩⟩, jI a200.Bn, v200_2]]) ?_ ?_
 ·have H := H0
  refine gc 1 F rfl fun _ F => E6 (B6 a0 a200) (fun s1 a w_ => Fr a 19 [(0, v0), (1, clo 155 [jP g0]), (7, jI (a0.length : Int)), (8, jI s1)] ∧ SL w FF w_ [AB g0 103 [.string ⟨⟨a200.Name⟩⟩, jI a200.Bn, v200_2]]) H ?_ ?_
  ·exact ⟨F.sb, s0⟩
  intro s1 _ w0 h0 o1 H hr
  obtain ⟨F, s2⟩ := h0
  replace H : B6 a0 a200 s1 = some o1 := H
  unfold B6 at H
  refine gc 6 F rfl fun _ F => Be F H 12 4 rfl rfl rfl (fun h1 H _ F => ?_) (fun h1 H _ F => ?_)
  ·obtain ⟨x0, h2, H⟩ := Aa H
   obtain ⟨a2, c0, G0, h3, h4, h5, h6⟩ := Rd.idx hr0 GM rfl h2
   obtain ⟨v1, rfl, h7⟩ := (EV h5 h6)
   replace h4 := h4 _ _ s2
   obtain ⟨x1, h8, H⟩ := Aa H
   refine gw 3 F rfl fun _ F => gi F h3 0 rfl fun _ F => gx F (Ar RB rfl h4 rfl) 0 rfl rfl fun _ F => ?_
   obtain ⟨G1, h9, ha, hb, hc⟩ := SL.open_ (ps := [AB g0 103 [.string ⟨⟨a200.Name⟩⟩, jI a200.Bn, v200_2]]) (rest := []) s2
   refine El (args := [.tmp 15]) F Ae8 rfl rfl (Td (a0 := x0) (a1 := (⟨a200.Name, a200.Bn, a200.Fields⟩ : A9)) h9 (h7.pass s2 ha) (hr200_2.pass s2 ha) h8) rfl fun v2 w1 _ hd F => ?_
   obtain ⟨rfl, he⟩ := hd
   have s3 := hc _ _ he
   refine gw 2 F rfl fun _ F => Be F H 13 7 rfl rfl rfl (fun hf H _ F => ?_) (fun hf H _ F => ?_)
   ·cases H
    obtain rfl := hr _ rfl
    replace H := R0
    try dsimp only at H
    cases H
    exact rt F ⟨rfl, s3⟩
   cases H
   exact ⟨_, rfl, F.sb, s3⟩
  cases H
  obtain rfl := hr _ rfl
  exact ⟨_, rfl, F.sb, s2⟩
 intro _ w2 hJ
 obtain ⟨p0, rfl, F, s4⟩ := hJ
 have H := R0
 clear R0 H0
 try dsimp only at H
 cases H
 exact ge 7 F rfl fun _ F => rt F ⟨rfl, s4⟩
theorem He {w : World} {FF : List Nat} {g0 : Nat} {v0 v200_2 : Value} {a0 : List A9} {a200 : A9} {r : Bool} (hst : Ba [AB g0 103 [.string ⟨⟨a200.Name⟩⟩, jI a200.Bn, v200_2]] w FF) (hr0 : Rd AL w FF v0 a0) (hr200_2 : Rd Dp w FF v200_2 a200.Fields) (H : BZ a0 a200 = some r) :
    Calls prog 154 #[v0, clo 155 [jP g0]] w (B8 fun u_ w_ => u_ = .bool r ∧ SL w FF w_ [AB g0 103 [.string ⟨⟨a200.Name⟩⟩, jI a200.Bn, v200_2]]) := by
 have s0 : SL w FF w [AB g0 103 [.string ⟨⟨a200.Name⟩⟩, jI a200.Bn, v200_2]] := SL.init w FF hst
 refine Cb func154 ntmps154 9 rfl rfl rfl fun _ F => ?_
 unfold BZ at H
 obtain ⟨x0, h0, H⟩ := Aa H
 obtain ⟨G0, h1, h2, h3, h4⟩ := SL.open_ (ps := [AB g0 103 [.string ⟨⟨a200.Name⟩⟩, jI a200.Bn, v200_2]]) (rest := []) s0
 refine Ei F (HT (a200 := (⟨a200.Name, a200.Bn, a200.Fields⟩ : A9)) h1 (hr0.pass s0 h2) (hr200_2.pass s0 h2) h0) fun v1 w0 _ h5 F => ?_
 obtain ⟨rfl, h6⟩ := h5
 have s1 := h4 _ _ h6
 cases H
 exact gw 5 F rfl fun _ F => rt F ⟨rfl, s1⟩
theorem VQ {w : World} {v0 : Value} {a0 : List A9} {a1 : UInt8} {r : Bool} (hr0 : Rd AL w [] v0 a0) (H : K6 a0 a1 = some r) :
    Calls prog 181 #[v0, jU (a1.toNat : Int)] w (B8 fun u_ w_ => u_ = .bool r ∧ SL w [] w_ []) := by
 have s0 : SL w [] w [] := SL.BF w
 refine Cb func181 ntmps181 10 rfl rfl rfl fun _ F => ?_
 unfold K6 at H
 refine Cp 7 F H (fun h0 H F => ?_) (fun h0 H F => ?_)
 ·cases H
  exact gw 21 F rfl fun _ F => rt F ⟨rfl, s0⟩
 refine gw 4 F rfl fun _ F => Cp 11 F H (fun h1 H F => ?_) (fun h1 H F => ?_)
 ·cases H
  exact gw 17 F rfl fun _ F => rt F ⟨rfl, s0⟩
 refine gw 4 F rfl fun _ F => Cp 15 F H (fun h2 H F => ?_) (fun h2 H F => ?_)
 ·cases H
  exact gw 13 F rfl fun _ F => rt F ⟨rfl, s0⟩
 refine gw 4 F rfl fun _ F => Cp 19 F H (fun h3 H F => ?_) (fun h3 H F => ?_)
 ·cases H
  exact gw 9 F rfl fun _ F => rt F ⟨rfl, s0⟩
 obtain ⟨x0, h4, H⟩ := Aa H
 refine gw 2 F rfl fun _ F => AY F rfl rfl <| BW F s0 (FT (hr0.Bp s0) h4) 6 rfl rfl rfl rfl fun w0 _ F s1 => ?_
 cases H
 exact rt F ⟨rfl, s1⟩
theorem Sc {w : World} {FF : List Nat} {g1 g2 : Nat} {v1_0 v2_0 : Value} {a0 : Int} {a1 : List A9} {a2 : List (List UInt8)} {r : Bool × (List (List UInt8))} (hst : Ba [AB g1 22 [v1_0], AB g2 218 [v2_0], Sl Ty.str v2_0 a2] w FF) (hr1_0 : Rd AL w FF v1_0 a1) (H : Ix a0 a1 a2 = some r) :
    Calls prog 180 #[jI a0, jP g1, jP g2] w (B8 fun u_ w_ => ∃ u0 : Value, u_ = .bool r.1 ∧ SL w FF w_ [AB g1 22 [v1_0], AB g2 218 [u0], Sl Ty.str u0 r.2]) := by
 have s0 : SL w FF w [AB g1 22 [v1_0], AB g2 218 [v2_0], Sl Ty.str v2_0 a2] := SL.init w FF hst
 refine Cb func180 ntmps180 8 rfl rfl rfl fun _ F2 => ?_
 unfold Ix at H
 obtain ⟨x0, h0, H⟩ := Aa H
 obtain ⟨a3, c0, G0, h1, h2, h3, h4⟩ := Rd.idx hr1_0 GM rfl h0
 obtain ⟨v0, rfl, h5⟩ := (EV h3 h4)
 replace h2 := h2 _ _ s0
 refine AV F2 s0 m0 1 rfl fun _ F => gi F h1 0 rfl fun _ F => gx F (Ke Q1 rfl) 0 rfl rfl fun _ F => gx F (As RH rfl (Cells.at_ h2 (o := 2) rfl)) 0 rfl rfl fun _ F => ?_
 obtain ⟨o0, H0, R0⟩ := Aa H
 clear H
 refine gx F (Ak rfl underlying101 (fR h5 s0)) 3 rfl rfl fun _ F => Cx (fun a w_ => ∃ v1 : Value, Fr a 23 [] ∧ SL w FF w_ [AB g1 22 [v1_0], AB g2 218 [v1], Sl Ty.str v1 o0]) ?_ ?_
 ·have H := H0
  refine gc 1 F rfl fun _ F => E6 (En x0) (fun s1 a w_ => ∃ v2 : Value, Fr a 23 [(2, jP g2), (11, v0), (12, jI (x0.Fields.length : Int)), (13, jI s1.2)] ∧ SL w FF w_ [AB g1 22 [v1_0], AB g2 218 [v2], Sl Ty.str v2 s1.1]) H ?_ ?_
  ·exact ⟨v2_0, F.sb, s0⟩
  intro s1 _ w0 h6 o1 H hr
  obtain ⟨v2, F, s2⟩ := h6
  replace H : En x0 s1 = some o1 := H
  unfold En at H
  refine gc 6 F rfl fun _ F => Be F H 6 4 rfl rfl rfl (fun h7 H _ F => ?_) (fun h7 H _ F => ?_)
  ·obtain ⟨x1, h8, H⟩ := Aa H
   obtain ⟨a4, h9, ha⟩ := Lm IV (EZ h5 s2) MP rfl h8
   refine gi F h9 0 rfl fun _ F => gx F (Ar WP rfl ha rfl) 0 rfl rfl fun _ F => Ag F s2 UH rfl rfl fun g0 w1 _ F s3 => Ah F s3 rfl rfl Y0 (Ab rfl (Ab rfl Al)) (Ac rfl) fun w2 _ F s4 => gw 3 F rfl fun _ F => AV F s4 m2 1 rfl fun _ F => AV F s4 m0 0 rfl fun _ F => ?_
   refine Ad (parts := [(0, .tmp 19)]) Flat.str ([x1.Name] : List (List UInt8)) F s4 Nf rfl (by decide) rfl rfl rfl (by simp [Value.cells]) rfl rfl rfl fun v3 w3 _ F s5 => ?_
   obtain ⟨x2, hb, H⟩ := Aa H
   obtain ⟨_, hr_⟩ := (s5.f4.BO m1)
   refine Aq Flat.str F s5.f4 Nf rfl rfl rfl rfl hr_ rfl rfl hb rfl fun v4 w4 _ F s6 => ?_
   have s3135' := s6.f1.drop
   have s7 := s3135'.f3
   refine Au F s7 rfl rfl YA (Ae (fO s7 m1)) (Ap (fO s7 m1)) rfl fun w5 _ F s8 => ?_
   cases H
   exact gw 7 F rfl fun _ F => ⟨_, rfl, v4, F.sb, s8.f2.drop.f1.f1.f2⟩
  cases H
  obtain rfl := hr _ rfl
  exact ⟨v2, F.sb, s2⟩
 intro _ w6 hJ
 obtain ⟨v1, F, s9⟩ := hJ
 have H := R0
 clear R0 H0
 cases H
 exact ge 7 F rfl fun _ F => rt F ⟨v1, rfl, s9⟩
theorem Of {w : World} {FF : List Nat} {g0 g1 : Nat} {v0 v300_0 v301_0 : Value} {a0 : List A9} {a1 : Int} {a300 : List A9} {a301 : List (List UInt8)} {r : (List (List UInt8))} (hst : Ba [AB g0 22 [v300_0], AB g1 218 [v301_0], Sl Ty.str v301_0 a301] w FF) (hr0 : Rd AL w FF v0 a0) (hr300_0 : Rd AL w FF v300_0 a300) (H : EC a0 a1 a300 a301 = some r) :
    Calls prog 99 #[v0, jI a1, clo 180 [jP g0, jP g1]] w (B8 fun u_ w_ => ∃ u0 : Value, u_ = .tuple ⟨[]⟩ ∧ SL w FF w_ [AB g0 22 [v300_0], AB g1 218 [u0], Sl Ty.str u0 r]) := by
 have s0 : SL w FF w [AB g0 22 [v300_0], AB g1 218 [v301_0], Sl Ty.str v301_0 a301] := SL.init w FF hst
 refine Cb func99 ntmps99 0 rfl rfl rfl fun _ F0 => ?_
 unfold EC at H
 obtain ⟨o0, H0, R0⟩ := Aa H
 clear H
 refine Cx (fun a w_ => ∃ p0 : (List (List UInt8)), o0 = .inr (p0) ∧ ∃ v1 : Value, Fr a 29 [] ∧ SL w FF w_ [AB g0 22 [v300_0], AB g1 218 [v1], Sl Ty.str v1 p0]) ?_ ?_
 ·have H := H0
  refine gc 1 F0 rfl fun _ F0 => E6 (CO a0 a300) (fun s1 a w_ => ∃ v2 : Value, Fr a 29 [(0, v0), (1, jI s1.2), (2, clo 180 [jP g0, jP g1])] ∧ SL w FF w_ [AB g0 22 [v300_0], AB g1 218 [v2], Sl Ty.str v2 s1.1]) H ?_ ?_
  ·exact ⟨v301_0, F0.sb, s0⟩
  intro s1 _ w0 h0 o1 H hr
  obtain ⟨v2, F, s2⟩ := h0
  replace H : CO a0 a300 s1 = some o1 := H
  unfold CO at H
  refine gc 6 F rfl fun _ F => Cp 9 F H (fun h1 H F => ?_) (fun h1 H F => ?_)
  ·refine gw 2 F rfl fun _ F => AY F rfl rfl <| gx F (Ak rfl underlying22 (fR hr0 s2)) 3 rfl rfl fun _ F => Cp 15 F H (fun h2 H F => ?_) (fun h2 H F => ?_)
   ·obtain ⟨x0, h3, H⟩ := Aa H
    refine gw 2 F rfl fun _ F => AY F rfl rfl ?_
    obtain ⟨G0, h4, h5, h6, h7⟩ := SL.open_ (ps := [AB g0 22 [v300_0], AB g1 218 [v2], Sl Ty.str v2 s1.1]) (rest := []) s2.f2.f2.f2
    refine El (args := [.tmp 17]) F Aes rfl rfl (Sc (a0 := s1.2) (a1 := a300) (a2 := s1.1) h4 (hr300_0.pass s2.f2.f2.f2 h5) h3) rfl fun v3 w1 _ h8 F => ?_
    obtain ⟨v4, rfl, h9⟩ := h8
    have s3 := h7 _ _ h9
    refine gw 3 F rfl fun _ F => Be F H 5 4 rfl rfl rfl (fun ha H _ F => ?_) (fun ha H _ F => ?_)
    ·obtain ⟨x1, hb, H⟩ := Aa H
     obtain ⟨a3, c0, G1, hc, hd, he, hf⟩ := Rd.idx hr0 GM rfl hb
     obtain ⟨v5, rfl, hg⟩ := (EV he hf)
     replace hd := hd _ _ s3
     refine gw 2 F rfl fun _ F => gi F hc 0 rfl fun _ F => gx F (Ke M6 rfl) 0 rfl rfl fun _ F => gx F (As Cn rfl (Cells.at_ hd (o := 1) rfl)) 11 rfl rfl fun _ F => Be F H 6 7 rfl rfl rfl (fun hh H _ F => ?_) (fun hh H _ F => ?_)
     ·cases H
      obtain rfl := hr _ rfl
      replace H := R0
      try dsimp only at H
      cases H
      exact rt F ⟨v4, rfl, s3⟩
     cases H
     exact ⟨_, rfl, v4, F.sb, s3⟩
    cases H
    obtain rfl := hr _ rfl
    exact ⟨_, rfl, v4, F.sb, s3⟩
   cases H
   obtain rfl := hr _ rfl
   exact gw 11 F rfl fun _ F => ⟨_, rfl, v2, F.sb, s2⟩
  cases H
  obtain rfl := hr _ rfl
  exact gw 17 F rfl fun _ F => ⟨_, rfl, v2, F.sb, s2⟩
 intro _ w2 hJ
 obtain ⟨p0, rfl, v1, F, s4⟩ := hJ
 have H := R0
 clear R0 H0
 try dsimp only at H
 cases H
 exact Ni F (by rfl) ⟨_, rfl, ⟨v1, rfl, s4⟩⟩
theorem Vv {w : World} {v0 : Value} {a0 : List A9} {a1 : Int} {r : Int} (hr0 : Rd AL w [] v0 a0) (H : Kn a0 a1 = some r) :
    Calls prog 156 #[v0, jI a1] w (B8 fun u_ w_ => u_ = jI r ∧ SL w [] w_ []) := by
 have s0 : SL w [] w [] := SL.BF w
 refine Cb func156 ntmps156 2 rfl rfl rfl fun _ F0 => ?_
 unfold Kn at H
 refine Ao F0 s0 rfl (Ae (fR hr0 s0)) rfl fun g8 w9 _ F s1 => gw 5 F rfl fun _ F => Ag F s1 Abg rfl rfl fun g0 w0 _ F s2 => ?_
 obtain ⟨x0, h0, H⟩ := Aa H
 obtain ⟨x1, h1, H⟩ := Aa H
 refine gw 3 F rfl fun _ F => Dk BL s2.drop ?_
 obtain ⟨a2, c0, G0, h2, h3, h4, h5⟩ := Rd.idx hr0 GM rfl h0
 obtain ⟨v1, rfl, h6⟩ := (EV h4 h5)
 have hc144_ := h3; clear h3; have h3 := fun w_ (hC : SL w [] w_ [AB g8 22 [v0]]) => hc144_ _ _ hC
 refine hq [0, 1, 2, 3, 4, 5, 6] F s2.drew.drop (QI.ld m0 rfl <| QI.ld m0 rfl <| QI.ev 1 rfl <| QI.ix h2 rfl <| QI.op rfl (fun _ hC => Ke M6 rfl) rfl <| QI.op rfl (fun _ hC => As Cn rfl (Cells.at_ (h3 _ hC) (o := 1) rfl)) rfl <| QI.op rfl (fun _ hC => Eg (cs := [.tmp 2, .tmp 5]) (vs := [jP g8, jP g0]) rfl) rfl <| QI.nil) (by kernel_rfl) fun _ F => ?_
 refine ho 7 rfl (by kernel_rfl) ?_
 have s3 := (SL.Ca (T := Ty.str) s2.drew).f1.f2
 obtain ⟨G1, h7, h8, h9, ha⟩ := SL.open_ (ps := [AB g8 22 [v0], AB g0 218 [.slice none 0 0], Sl Ty.str (.slice none 0 0) []]) (rest := []) s3
 refine Ei F (Of (a300 := a0) (a301 := []) h7 (hr0.pass s3 h8) (hr0.pass s3 h8) h1) fun v2 w1 _ hb F => ?_
 obtain ⟨v3, rfl, hc⟩ := hb
 have s4 := ha _ _ hc
 refine gw 1 F rfl fun _ F => ⟨s4.f1.drop.f1.drop, ?_⟩
 refine Ea (by kernel_rfl) ?_
 obtain ⟨x2, hd, H⟩ := Aa H
 obtain ⟨a3, c1, G2, he, hf, hg, hh⟩ := Rd.idx hr0 GM rfl hd
 refine ge 4 F rfl fun _ F => ?_
 obtain ⟨v4, rfl, hi⟩ := (EV hg hh)
 replace hf := hf _ _ s4
 refine AV F s4 m0 1 rfl fun _ F => gi F he 0 rfl fun _ F => gx F (Ke Q1 rfl) 0 rfl rfl fun _ F => gx F (As RH rfl (Cells.at_ hf (o := 2) rfl)) 0 rfl rfl fun _ F => ?_
 obtain ⟨o0, H0, R0⟩ := Aa H
 clear H
 refine gx F (Ak rfl underlying101 (fR hi s4)) 3 rfl rfl fun _ F => Cx (fun a w_ => ∃ p0 : (List (List UInt8)), o0 = .inr (p0) ∧ ∃ v5 : Value, Fr a 51 [(5, jP g0)] ∧ SL w [] w_ [AB g0 218 [v5], Sl Ty.str v5 p0]) ?_ ?_
 ·have H := H0
  refine gc 1 F rfl fun _ F => E6 (EF a0 x2) (fun s5 a w_ => ∃ v6 : Value, Fr a 51 [(2, jP g8), (5, jP g0), (20, v4), (21, jI (x2.Fields.length : Int)), (22, jI s5.2)] ∧ SL w [] w_ [AB g8 22 [v0], AB g0 218 [v6], Sl Ty.str v6 s5.1]) H ?_ ?_
  ·exact ⟨v3, F.sb, s4⟩
  intro s5 _ w2 hj o1 H hr
  obtain ⟨v6, F, s6⟩ := hj
  replace H : EF a0 x2 s5 = some o1 := H
  unfold EF at H
  refine gc 6 F rfl fun _ F => Be F H 6 4 rfl rfl rfl (fun hk H _ F => ?_) (fun hk H _ F => ?_)
  ·obtain ⟨x3, hl, H⟩ := Aa H
   obtain ⟨a4, hm, hn⟩ := Lm IV (EZ hi s6) MP rfl hl
   refine gi F hm 0 rfl fun _ F => gx F (Ar WP rfl hn rfl) 0 rfl rfl fun _ F => Ag F s6 UH rfl rfl fun g1 w3 _ F s7 => Ah F s7 rfl rfl Y0 (Ab rfl (Ab rfl Al)) (Ac rfl) fun w4 _ F s8 => ?_
   obtain ⟨x4, hp, H⟩ := Aa H
   refine gw 7 F rfl fun _ F => AV F s8 m0 0 rfl fun _ F => BW F s8 (NQ hp) 4 rfl rfl rfl rfl fun w5 _ F s9 => Be F H 14 2 rfl rfl rfl (fun hs H _ F => ?_) (fun hs H _ F => ?_)
   ·cases H
    obtain rfl := hr _ rfl
    replace H := R0
    try dsimp only at H
    cases H
    exact rt F ⟨rfl, s9.drop.drop.drop.drop⟩
   obtain ⟨x5, ht, H⟩ := Aa H
   refine AV F s9 m2 1 rfl fun _ F => AV F s9 m0 0 rfl fun _ F => BW F s9 (I6 (s9.rd0 m3) ht) 3 rfl rfl rfl rfl fun w6 _ F sa => Be F H 14 2 rfl rfl rfl (fun hu H _ F => ?_) (fun hu H _ F => ?_)
   ·cases H
    obtain rfl := hr _ rfl
    replace H := R0
    try dsimp only at H
    cases H
    exact rt F ⟨rfl, sa.drop.drop.drop.drop⟩
   obtain ⟨x6, hv, H⟩ := Aa H
   refine AV F sa m1 1 rfl fun _ F => AV F sa m0 0 rfl fun _ F => BW F sa (VQ (hr0.Bp sa) hv) 4 rfl rfl rfl rfl fun w7 _ F sc => Be F H 14 4 rfl rfl rfl (fun hw H _ F => ?_) (fun hw H _ F => ?_)
   ·cases H
    obtain rfl := hr _ rfl
    replace H := R0
    try dsimp only at H
    cases H
    exact rt F ⟨rfl, sc.drop.drop.drop.drop⟩
   refine AV F sc m2 1 rfl fun _ F => AV F sc m0 0 rfl fun _ F => ?_
   refine Ad (parts := [(0, .tmp 44)]) Flat.str ([x3.Name] : List (List UInt8)) F sc Nf rfl (by decide) rfl rfl rfl (by simp [Value.cells]) rfl rfl rfl fun v7 w8 _ F sd => ?_
   obtain ⟨x7, hx, H⟩ := Aa H
   obtain ⟨_, hr_⟩ := (sd.f4.BO m1)
   refine Aq Flat.str F sd.f4 Nf rfl rfl rfl rfl hr_ rfl rfl hx rfl fun v8 wa _ F se => ?_
   have s11752' := se.f1.drop
   have sf := s11752'.f3
   refine Au F sf rfl rfl YA (Ae (fO sf m1)) (Ap (fO sf m1)) rfl fun wb _ F sg => ?_
   cases H
   exact gw 7 F rfl fun _ F => ⟨_, rfl, v8, F.sb, sg.f2.drop.f1.f1.f2⟩
  cases H
  obtain rfl := hr _ rfl
  exact ⟨_, rfl, v6, F.sb, s6.drop⟩
 intro _ wc hJ
 obtain ⟨p0, rfl, v5, F, sh⟩ := hJ
 have H := R0
 clear R0 H0
 try dsimp only at H
 refine ge 4 F rfl fun _ F => AV F sh m0 0 rfl fun _ F => gx F (Ak rfl underlying218 (fO sh m1)) 3 rfl rfl fun _ F => Be F H 7 8 rfl rfl rfl (fun hy H _ F => ?_) (fun hy H _ F => ?_)
 ·cases H
  exact rt F ⟨rfl, sh.drop.drop⟩
 cases H
 exact rt F ⟨rfl, sh.drop.drop⟩
theorem QL {w : World} {v0 : Value} {a0 : List A9} {r : Int × Int} (hr0 : Rd AL w [] v0 a0) (H : JO a0 = some r) :
    Calls prog 127 #[v0] w (B8 fun u_ w_ => u_ = .tuple ⟨[jI r.1, jI r.2]⟩ ∧ SL w [] w_ []) := by
 have s0 : SL w [] w [] := SL.BF w
 refine Cb func127 ntmps127 10 rfl rfl rfl fun _ F => ?_
 unfold JO at H
 obtain ⟨o0, H0, R0⟩ := Aa H
 clear H
 refine gx F (Ak rfl underlying22 (fR hr0 s0)) 3 rfl rfl fun _ F => Cx (fun a w_ => ∃ p0 : Unit, o0 = .inr (p0) ∧ Fr a 52 [] ∧ SL w [] w_ []) ?_ ?_
 ·have H := H0
  refine gc 1 F rfl fun _ F => E6 (Fw a0) (fun s1 a w_ => Fr a 52 [(0, v0), (7, v0), (8, jI (a0.length : Int)), (9, jI s1)] ∧ SL w [] w_ []) H ?_ ?_
  ·exact ⟨F.sb, s0⟩
  intro s1 _ w0 h0 o1 H hr
  obtain ⟨F, s2⟩ := h0
  replace H : Fw a0 s1 = some o1 := H
  unfold Fw at H
  refine gc 6 F rfl fun _ F => Be F H 6 4 rfl rfl rfl (fun h1 H _ F => ?_) (fun h1 H _ F => ?_)
  ·obtain ⟨x0, h2, H⟩ := Aa H
   obtain ⟨a1, c0, G0, h3, h4, h5, h6⟩ := Rd.idx hr0 GM rfl h2
   obtain ⟨v1, rfl, h7⟩ := (EV h5 h6)
   replace h4 := h4 _ _ s2
   refine gw 1 F rfl fun _ F => gi F h3 0 rfl fun _ F => gx F (Ar RB rfl h4 rfl) 0 rfl rfl fun _ F => Ag F s2 Vb rfl rfl fun g0 w1 _ F s3 => gw 1 F rfl fun _ F => Ah F s3 rfl rfl Yi (Ab rfl (Ab rfl (Ab (Ap (fR h7 s3)) Al))) (Ac rfl) fun w2 _ F s4 => ?_
   obtain ⟨o2, H1, R1⟩ := Aa H
   clear H
   refine gw 8 F rfl fun _ F => Cx (fun a w_ => Fr a 52 [(0, v0), (4, jI s1), (6, jI o2), (7, v0), (8, jI (a0.length : Int)), (9, jI s1)] ∧ SL w [] w_ []) ?_ ?_
   ·have H := H1
    refine gc 8 F rfl fun _ F => Be F H 4 1 rfl rfl rfl (fun h8 H _ F => ?_) (fun h8 H _ F => ?_)
    ·cases H
     exact ⟨F.sb, s4.drop⟩
    obtain ⟨x1, h9, H⟩ := Aa H
    refine bool_split (!x1) (fun ha => ?_) (fun ha => ?_)
    ·replace H := Xk ha H
     refine Dk BL s4 ?_
     refine hq [0, 1] F s4.drew (QI.ev 1 rfl <| QI.ld m0 rfl <| QI.nil) (by kernel_rfl) fun _ F => ?_
     refine ho 2 rfl (by kernel_rfl) ?_
     refine BW F s4.drew (NQ h9) 1 rfl rfl rfl rfl fun w3 _ F s5 => ⟨s5, ?_⟩
     refine hq [3, 4, 5, 6, 7, 8, 9, 10] F s5 (QI.ev 2 rfl <| QI.kn (dj := 25) rfl ha <| QI.ev 6 rfl <| QI.nil) (by kernel_rfl) fun _ F => ?_
     refine Ea (by kernel_rfl) ?_
     cases H
     exact ge 6 F rfl fun _ F => ⟨F.sb, s5.drop⟩
    replace H := Xp ha H
    obtain ⟨x2, hb, H⟩ := Aa H
    obtain ⟨x3, hc, H⟩ := Aa H
    refine Dk BL s4 ?_
    refine hq [0, 1] F s4.drew (QI.ev 1 rfl <| QI.ld m0 rfl <| QI.nil) (by kernel_rfl) fun _ F => ?_
    refine ho 2 rfl (by kernel_rfl) ?_
    refine BW F s4.drew (NQ h9) 1 rfl rfl rfl rfl fun w4 _ F s6 => ⟨s6, ?_⟩
    refine hq [3, 4, 6, 7] F s6 (QI.ev 2 rfl <| QI.kn (dj := 25) rfl ha <| QI.ev 1 rfl <| QI.gop rfl (fun _ hC => As ZN rfl (hC.BP m0 rfl)) rfl rfl rfl rfl rfl <| QI.nil) (by kernel_rfl) fun _ F => ?_
    refine ho 5 rfl (by kernel_rfl) ?_
    refine AY F rfl rfl <| Ei F (WW hb) fun v2 w5 _ hd F => ?_
    obtain ⟨_, rfl, he⟩ := hd
    have s7 := s6.add he
    refine gw 1 F rfl fun _ F => ⟨s7.drop, ?_⟩
    refine ho 8 rfl (by kernel_rfl) ?_
    refine AY F rfl rfl <| BW F s7 (I6 (s7.rd0 m0) hc) 1 rfl rfl rfl rfl fun w6 _ F s8 => ⟨s8.drop, ?_⟩
    refine hq [9, 10] F s8.drop (QI.ev 2 rfl <| QI.nil) (by kernel_rfl) fun _ F => ?_
    refine Ea (by kernel_rfl) ?_
    refine ge 1 F rfl fun _ F => Be F H 4 4 rfl rfl rfl (fun hf H _ F => ?_) (fun hf H _ F => ?_)
    ·cases H
     exact ⟨F.sb, s8.drop.drop⟩
    obtain ⟨x4, hg, H⟩ := Aa H
    obtain ⟨v3, hh, hi⟩ := Rd.cut hr0 GM rfl hg none (some s1) (.inr ⟨rfl, rfl⟩) (.inl rfl)
    obtain ⟨x5, hj, H⟩ := Aa H
    refine gx F (hh _ _ _ _ _ .i64 .i64 _ _ _ _ _ rfl trivial rfl) 0 rfl rfl fun _ F => gx F (Eg (cs := [.tmp 5]) (vs := [jP g0]) rfl) 0 rfl rfl fun _ F => ?_
    obtain ⟨G1, hk, hl, hm, hn⟩ := SL.open_ (ps := [AB g0 103 [.string ⟨⟨x0.Name⟩⟩, jI x0.Bn, v1]]) (rest := [Sl Ty.str v2 x2]) s8.f1
    refine Ei F (He (a200 := (⟨x0.Name, x0.Bn, x0.Fields⟩ : A9)) hk (hi.pass s8.f1 hl) (h7.pass s8.f1 hl) hj) fun v4 w7 _ hp F => ?_
    obtain ⟨rfl, hs⟩ := hp
    have s9 := hn _ _ hs
    refine gw 3 F rfl fun _ F => Be F H 4 3 rfl rfl rfl (fun ht H _ F => ?_) (fun ht H _ F => ?_)
    ·cases H
     exact ⟨F.sb, s9.drop.drop⟩
    refine AV F s9 m0 2 rfl fun _ F => Cp 41 F H (fun hu H F => ?_) (fun hu H F => ?_)
    ·cases H
     exact gw 13 F rfl fun _ F => ⟨F.sb, s9.drop.drop⟩
    refine gw 1 F rfl fun _ F => AY F rfl rfl <| AV F s9 m0 6 rfl fun _ F => Be F H 4 3 rfl rfl rfl (fun hv H _ F => ?_) (fun hv H _ F => ?_)
    ·cases H
     exact ⟨F.sb, s9.drop.drop⟩
    obtain ⟨x6, hw, H⟩ := Aa H
    refine BW F s9 (Vv (hr0.Bp s9) hw) 3 rfl rfl rfl rfl fun w8 _ F sa => ?_
    cases H
    exact ⟨F.sb, sa.drop.drop⟩
   intro _ w9 hJ
   obtain ⟨F, sc⟩ := hJ
   have H := R1
   clear R1 H1
   refine ge 7 F rfl fun _ F => Be F H 15 7 rfl rfl rfl (fun hx H _ F => ?_) (fun hx H _ F => ?_)
   ·cases H
    obtain rfl := hr _ rfl
    replace H := R0
    try dsimp only at H
    cases H
    exact rt F ⟨rfl, sc⟩
   cases H
   exact ⟨_, rfl, F.sb, sc⟩
  cases H
  obtain rfl := hr _ rfl
  exact ⟨_, rfl, F.sb, s2⟩
 intro _ wa hJ
 obtain ⟨p0, rfl, F, sd⟩ := hJ
 have H := R0
 clear R0 H0
 try dsimp only at H
 cases H
 exact ge 8 F rfl fun _ F => rt F ⟨rfl, sd⟩
theorem VB {w : World} {v0 : Value} {a0 : List A9} {a1 : UInt8} {r : Bool} (hr0 : Rd AL w [] v0 a0) (H : KC a0 a1 = some r) :
    Calls prog 129 #[v0, jU (a1.toNat : Int)] w (B8 fun u_ w_ => u_ = .bool r ∧ SL w [] w_ []) := by
 have s0 : SL w [] w [] := SL.BF w
 refine Cb func129 ntmps129 9 rfl rfl rfl fun _ F => ?_
 unfold KC at H
 obtain ⟨x0, h0, H⟩ := Aa H
 refine BW F s0 (FR (hr0.Bp s0) h0) 1 rfl rfl rfl rfl fun w0 _ F s1 => Cp 8 F H (fun h1 H F => ?_) (fun h1 H F => ?_)
 ·refine gw 4 F rfl fun _ F => Cp 12 F H (fun h2 H F => ?_) (fun h2 H F => ?_)
  ·cases H
   exact gw 7 F rfl fun _ F => rt F ⟨rfl, s1⟩
  cases H
  exact gw 7 F rfl fun _ F => rt F ⟨rfl, s1⟩
 cases H
 exact gw 11 F rfl fun _ F => rt F ⟨rfl, s1⟩
theorem Pn {w : World} {FF : List Nat} {g1 : Nat} {v1_0 v1_1 : Value} {a0 : UInt8} {a1 : AD} {r : Bool} (hst : Ba [AB g1 110 [v1_0, v1_1, jI a1.Fn]] w FF) (hr1_0 : Rd AL w FF v1_0 a1.Classes) (hr1_1 : Rd Bs w FF v1_1 a1.AP) (H : IA a0 a1 = some r) :
    Calls prog 128 #[jU (a0.toNat : Int), jP g1] w (B8 fun u_ w_ => u_ = .bool r ∧ SL w FF w_ [AB g1 110 [v1_0, v1_1, jI a1.Fn]]) := by
 have s0 : SL w FF w [AB g1 110 [v1_0, v1_1, jI a1.Fn]] := SL.init w FF hst
 refine Cb func128 ntmps128 8 rfl rfl rfl fun _ F => ?_
 unfold IA at H
 obtain ⟨x0, h0, H⟩ := Aa H
 refine AV F s0 m0 1 rfl fun _ F => BW F s0 (VB (hr1_0.Bp s0) h0) 5 rfl rfl rfl rfl fun w0 _ F s1 => ?_
 cases H
 exact rt F ⟨rfl, s1⟩
theorem IJ {w : World} {FF : List Nat} {g0 : Nat} {v0 v200_0 v200_1 : Value} {a0 : List UInt8} {a200 : AD} {r : Int} (hst : Ba [AB g0 110 [v200_0, v200_1, jI a200.Fn]] w FF) (hr0 : Rd Ty.u8 w FF v0 a0) (hr200_0 : Rd AL w FF v200_0 a200.Classes) (hr200_1 : Rd Bs w FF v200_1 a200.AP) (H : CM a0 a200 = some r) :
    Calls prog 157 #[v0, clo 128 [jP g0]] w (B8 fun u_ w_ => u_ = jI r ∧ SL w FF w_ [AB g0 110 [v200_0, v200_1, jI a200.Fn]]) := by
 have s0 : SL w FF w [AB g0 110 [v200_0, v200_1, jI a200.Fn]] := SL.init w FF hst
 refine Cb func157 ntmps157 9 rfl rfl rfl fun _ F => ?_
 unfold CM at H
 obtain ⟨o0, H0, R0⟩ := Aa H
 clear H
 refine gx F (Ak rfl underlying47 (fR hr0 s0)) 3 rfl rfl fun _ F => Cx (fun a w_ => ∃ p0 : Unit, o0 = .inr (p0) ∧ Fr a 19 [] ∧ SL w FF w_ [AB g0 110 [v200_0, v200_1, jI a200.Fn]]) ?_ ?_
 ·have H := H0
  refine gc 1 F rfl fun _ F => E6 (BG a0 a200) (fun s1 a w_ => Fr a 19 [(0, v0), (1, clo 128 [jP g0]), (7, jI (a0.length : Int)), (8, jI s1)] ∧ SL w FF w_ [AB g0 110 [v200_0, v200_1, jI a200.Fn]]) H ?_ ?_
  ·exact ⟨F.sb, s0⟩
  intro s1 _ w0 h0 o1 H hr
  obtain ⟨F, s2⟩ := h0
  replace H : BG a0 a200 s1 = some o1 := H
  unfold BG at H
  refine gc 6 F rfl fun _ F => Be F H 15 4 rfl rfl rfl (fun h1 H _ F => ?_) (fun h1 H _ F => ?_)
  ·obtain ⟨x0, h2, H⟩ := Aa H
   obtain ⟨a2, h3, h4⟩ := Lm Flat.u8 (EZ hr0 s2) BU rfl h2
   obtain ⟨x1, h5, H⟩ := Aa H
   refine gi F h3 0 rfl fun _ F => gx F (As DV rfl (Cells.at_ h4 (o := 0) rfl)) 0 rfl rfl fun _ F => ?_
   obtain ⟨G0, h6, h7, h8, h9⟩ := SL.open_ (ps := [AB g0 110 [v200_0, v200_1, jI a200.Fn]]) (rest := []) s2
   refine El (args := [.tmp 15]) F X9 rfl rfl (Pn (a0 := x0) (a1 := (⟨a200.Classes, a200.AP, a200.Fn⟩ : AD)) h6 (hr200_0.pass s2 h7) (hr200_1.pass s2 h7) h5) rfl fun v1 w1 _ ha F => ?_
   obtain ⟨rfl, hb⟩ := ha
   have s3 := h9 _ _ hb
   refine gw 2 F rfl fun _ F => Be F H 13 7 rfl rfl rfl (fun hc H _ F => ?_) (fun hc H _ F => ?_)
   ·cases H
    obtain rfl := hr _ rfl
    replace H := R0
    try dsimp only at H
    cases H
    exact rt F ⟨rfl, s3⟩
   cases H
   exact ⟨_, rfl, F.sb, s3⟩
  cases H
  obtain rfl := hr _ rfl
  exact ⟨_, rfl, F.sb, s2⟩
 intro _ w2 hJ
 obtain ⟨p0, rfl, F, s4⟩ := hJ
 have H := R0
 clear R0 H0
 try dsimp only at H
 cases H
 exact ge 7 F rfl fun _ F => rt F ⟨rfl, s4⟩
theorem Ip {w : World} {FF : List Nat} {g0 : Nat} {v0 v200_0 v200_1 : Value} {a0 : List UInt8} {a200 : AD} {r : Bool} (hst : Ba [AB g0 110 [v200_0, v200_1, jI a200.Fn]] w FF) (hr0 : Rd Ty.u8 w FF v0 a0) (hr200_0 : Rd AL w FF v200_0 a200.Classes) (hr200_1 : Rd Bs w FF v200_1 a200.AP) (H : Ci a0 a200 = some r) :
    Calls prog 130 #[v0, clo 128 [jP g0]] w (B8 fun u_ w_ => u_ = .bool r ∧ SL w FF w_ [AB g0 110 [v200_0, v200_1, jI a200.Fn]]) := by
 have s0 : SL w FF w [AB g0 110 [v200_0, v200_1, jI a200.Fn]] := SL.init w FF hst
 refine Cb func130 ntmps130 9 rfl rfl rfl fun _ F => ?_
 unfold Ci at H
 obtain ⟨x0, h0, H⟩ := Aa H
 obtain ⟨G0, h1, h2, h3, h4⟩ := SL.open_ (ps := [AB g0 110 [v200_0, v200_1, jI a200.Fn]]) (rest := []) s0
 refine Ei F (IJ (a200 := (⟨a200.Classes, a200.AP, a200.Fn⟩ : AD)) h1 (hr0.pass s0 h2) (hr200_0.pass s0 h2) (hr200_1.pass s0 h2) h0) fun v1 w0 _ h5 F => ?_
 obtain ⟨rfl, h6⟩ := h5
 have s1 := h4 _ _ h6
 cases H
 exact gw 5 F rfl fun _ F => rt F ⟨rfl, s1⟩
theorem Zt {w : World} {v0_0 v0_1 : Value} {a0 : AD} {a1 : Int} {r : Int} (hr0_0 : Rd AL w [] v0_0 a0.Classes) (hr0_1 : Rd Bs w [] v0_1 a0.AP) (H : KF a0 a1 = some r) :
    Calls prog 103 #[.agg ⟨[v0_0, v0_1, jI a0.Fn]⟩, jI a1] w (B8 fun u_ w_ => u_ = jI r ∧ SL w [] w_ []) := by
 have s0 : SL w [] w [] := SL.BF w
 refine Cb func103 ntmps103 2 rfl rfl rfl fun _ F0 => ?_
 unfold KF at H
 refine Ao F0 s0 rfl rfl rfl fun g8 w9 _ F s1 => ?_
 obtain ⟨x0, h0, H⟩ := Aa H
 refine gw 7 F rfl fun _ F => AV F s1 m0 0 rfl fun _ F => BW F s1 (QL (hr0_0.Bp s1) h0) 13 rfl rfl rfl rfl fun w0 _ F s2 => Be F H 8 6 rfl rfl rfl (fun h1 H _ F => ?_) (fun h1 H _ F => ?_)
 ·cases H
  exact rt F ⟨rfl, s2.drop⟩
 refine AV F s2 m0 0 rfl fun _ F => gx F (Ak rfl underlying108 (fR hr0_1 s2)) 3 rfl rfl fun _ F => Be F H 7 6 rfl rfl rfl (fun h2 H _ F => ?_) (fun h2 H _ F => ?_)
 ·cases H
  exact rt F ⟨rfl, s2.drop⟩
 refine AV F s2 m0 0 rfl fun _ F => ?_
 obtain ⟨o0, H0, R0⟩ := Aa H
 clear H
 refine gx F (Ak rfl underlying108 (fR hr0_1 s2)) 3 rfl rfl fun _ F => Cx (fun a w_ => ∃ p0 : Unit, o0 = .inr (p0) ∧ Fr a 79 [(1, jI a1), (2, jP g8)] ∧ SL w [] w_ [AB g8 110 [v0_0, v0_1, jI a0.Fn]]) ?_ ?_
 ·have H := H0
  refine gc 1 F rfl fun _ F => E6 (Js a0) (fun s3 a w_ => Fr a 79 [(1, jI a1), (2, jP g8), (26, v0_1), (27, jI (a0.AP.length : Int)), (28, jI s3)] ∧ SL w [] w_ [AB g8 110 [v0_0, v0_1, jI a0.Fn]]) H ?_ ?_
  ·exact ⟨F.sb, s2⟩
  intro s3 _ w1 h3 o1 H hr
  obtain ⟨F, s4⟩ := h3
  replace H : Js a0 s3 = some o1 := H
  unfold Js at H
  refine gc 6 F rfl fun _ F => Be F H 6 4 rfl rfl rfl (fun h4 H _ F => ?_) (fun h4 H _ F => ?_)
  ·obtain ⟨x1, h5, H⟩ := Aa H
   obtain ⟨a2, c0, G0, h6, h7, h8, h9⟩ := Rd.idx hr0_1 JG rfl h5
   obtain ⟨v0, rfl, ha⟩ := (LY h8 h9)
   replace h7 := h7 _ _ s4
   refine gi F h6 0 rfl fun _ F => gx F (Ar TM rfl h7 rfl) 0 rfl rfl fun _ F => Ag F s4 NF rfl rfl fun g0 w2 _ F s5 => Ah F s5 rfl rfl VT (Ab (Ap (fR ha s5)) (Ab rfl Al)) (Ac rfl) fun w3 _ F s6 => gw 6 F rfl fun _ F => AV F s6 m0 0 rfl fun _ F => gx F (Ak rfl underlying47 (fR ha s6)) 3 rfl rfl fun _ F => Be F H 13 4 rfl rfl rfl (fun hb H _ F => ?_) (fun hb H _ F => ?_)
   ·cases H
    obtain rfl := hr _ rfl
    replace H := R0
    try dsimp only at H
    cases H
    exact rt F ⟨rfl, s6.drop.drop⟩
   obtain ⟨x2, hc, H⟩ := Aa H
   refine gx F (Eg (cs := [.tmp 2]) (vs := [jP g8]) rfl) 6 rfl rfl fun _ F => ?_
   obtain ⟨G1, hd, he, hf, hg⟩ := SL.open_ (ps := [AB g8 110 [v0_0, v0_1, jI a0.Fn]]) (rest := [AB g0 50 [v0, jU (x1.Result.toNat : Int)]]) s6.f1
   refine AV F s6 m0 1 rfl fun _ F => Ei F (Ip (a200 := (⟨a0.Classes, a0.AP, a0.Fn⟩ : AD)) hd (ha.pass s6.f1 he) (hr0_0.pass s6.f1 he) (hr0_1.pass s6.f1 he) hc) fun v1 w4 _ hh F => ?_
   obtain ⟨rfl, hi⟩ := hh
   have s7 := hg _ _ hi
   refine gw 1 F rfl fun _ F => Cp 41 F H (fun hj H F => ?_) (fun hj H F => ?_)
   ·cases H
    obtain rfl := hr _ rfl
    replace H := R0
    try dsimp only at H
    cases H
    exact gw 25 F rfl fun _ F => rt F ⟨rfl, s7.drop.drop⟩
   refine gw 1 F rfl fun _ F => AY F rfl rfl <| AV F s7 m1 2 rfl fun _ F => Cp 45 F H (fun hk H F => ?_) (fun hk H F => ?_)
   ·refine gw 2 F rfl fun _ F => AY F rfl rfl <| AV F s7 m1 0 rfl fun _ F => ?_
    obtain ⟨x3, hl, H⟩ := Aa H
    refine AY F rfl rfl ?_
    obtain ⟨G2, hm, hn, hp, hs⟩ := SL.open_ (ps := [AB g8 110 [v0_0, v0_1, jI a0.Fn]]) (rest := [AB g0 50 [v0, jU (x1.Result.toNat : Int)]]) s7
    refine El (args := [.tmp 48]) F X9 rfl rfl (Pn (a0 := x1.Result) (a1 := (⟨a0.Classes, a0.AP, a0.Fn⟩ : AD)) hm (hr0_0.pass s7 hn) (hr0_1.pass s7 hn) hl) rfl fun v2 w5 _ ht F => ?_
    obtain ⟨rfl, hu⟩ := ht
    have s8 := hs _ _ hu
    refine gw 4 F rfl fun _ F => Be F H 12 7 rfl rfl rfl (fun hv H _ F => ?_) (fun hv H _ F => ?_)
    ·cases H
     obtain rfl := hr _ rfl
     replace H := R0
     try dsimp only at H
     cases H
     exact rt F ⟨rfl, s8.drop.drop⟩
    cases H
    exact ⟨_, rfl, F.sb, s8.f1.drop⟩
   cases H
   exact gw 16 F rfl fun _ F => ⟨_, rfl, F.sb, s7.f1.drop⟩
  cases H
  obtain rfl := hr _ rfl
  exact ⟨_, rfl, F.sb, s4⟩
 intro _ w6 hJ
 obtain ⟨p0, rfl, F, s9⟩ := hJ
 have H := R0
 clear R0 H0
 try dsimp only at H
 refine ge 5 F rfl fun _ F => AV F s9 m0 2 rfl fun _ F => Cp 56 F H (fun hw H F => ?_) (fun hw H F => ?_)
 ·cases H
  exact gw 17 F rfl fun _ F => rt F ⟨rfl, s9.drop⟩
 refine gw 1 F rfl fun _ F => AY F rfl rfl <| AV F s9 m0 1 rfl fun _ F => AY F rfl rfl <| AV F s9 m0 0 rfl fun _ F => AY F rfl rfl <| gx F (Ak rfl underlying108 (fR hr0_1 s9)) 4 rfl rfl fun _ F => Be F H 7 3 rfl rfl rfl (fun hx H _ F => ?_) (fun hx H _ F => ?_)
 ·cases H
  exact rt F ⟨rfl, s9.drop⟩
 obtain ⟨x4, hy, H⟩ := Aa H
 obtain ⟨x5, hz, H⟩ := Aa H
 refine Dk BL s9 ?_
 have sa := s9.drew
 obtain ⟨a3, c1, G3, h10, h11, h12, h13⟩ := Rd.idx hr0_1 JG rfl hy
 obtain ⟨v3, rfl, h14⟩ := (LY h12 h13)
 have hc6746_ := h11; clear h11; have h11 := fun w_ (hC : SL w [] w_ [AB g8 110 [v0_0, v0_1, jI a0.Fn]]) => hc6746_ _ _ hC
 refine hq [0, 1, 2, 3, 4, 5, 6, 7, 8, 9] F sa (QI.ev 1 rfl <| QI.ld m0 rfl <| QI.ev 1 rfl <| QI.ld m0 rfl <| QI.ev 1 rfl <| QI.ld m0 rfl <| QI.ix h10 rfl <| QI.op rfl (fun _ hC => Ke Wq rfl) rfl <| QI.op rfl (fun _ hC => As Ud rfl (Cells.at_ (h11 _ hC) (o := 0) rfl)) rfl <| QI.ev 1 rfl <| QI.nil) (by kernel_rfl) fun _ F => ?_
 refine Jb [0, 1, 2, 3, 4, 5, 6, 7, 8, 9, 10, 11, 12, 13, 14, 15] (fun a w_ => ∃ g1 : Nat, Fr a 79 [(77, jI x5.2)] ∧ SL w [] w_ [AB g8 110 [v0_0, v0_1, jI a0.Fn], AB g1 118 (jI x5.1.Locals :: jI x5.1.Height :: Bb x5.1.Slots)]) ?_ fun hD0 => ?_
 ·rintro a w_ ⟨g1, F, sc⟩
  refine hq [16] F sc.f1.drop (QI.ev 1 rfl <| QI.nil) (by kernel_rfl) fun _ F => ?_
  refine Ea (by kernel_rfl) ?_
  cases H
  exact ge 8 F rfl fun _ F => rt F ⟨rfl, sc.drop.drop⟩
 refine Hw 10 14 rfl rfl (by kernel_rfl) ?_ ?_
 ·refine BW F sa (Ld (hr0_0.Bp sa) (h14.Bp sa) hz) 1 rfl rfl rfl rfl fun w7 _ F sd => ⟨sd, ?_⟩
  refine hq [11, 12, 13] F sd (QI.ev 3 rfl <| QI.nil) (by kernel_rfl) fun _ F => ?_
  refine ho 14 rfl (by kernel_rfl) ?_
  refine Ag F sd Bu rfl rfl fun g1 w8 _ F se => gw 1 F rfl fun _ F => ⟨se.drop, ?_⟩
  refine ho 15 rfl (by kernel_rfl) ?_
  refine Br (ds := (jI x5.1.Locals :: jI x5.1.Height :: Bb x5.1.Slots)) F se rfl rfl (by simpa using BA) (Ab rfl (Ab rfl (BH _))) (by simp) fun wa _ F sf => ?_
  exact gw 1 F rfl fun _ F => ⟨sf.drop, E5 hD0 ⟨g1, F.sb, sf.f1⟩ (by kernel_rfl)⟩
 refine Ag F sa Bu rfl rfl fun g1 w8 _ F se => gw 1 F rfl fun _ F => ⟨se.drop, ?_⟩
 refine ho 10 rfl (by kernel_rfl) ?_
 refine BW F se (Ld (hr0_0.Bp se) (h14.Bp se) hz) 1 rfl rfl rfl rfl fun w7 _ F sd => ⟨sd.drop, ?_⟩
 refine hq [11, 12, 13] F sd.drop (QI.ev 3 rfl <| QI.nil) (by kernel_rfl) fun _ F => ?_
 refine ho 15 rfl (by kernel_rfl) ?_
 refine Br (ds := (jI x5.1.Locals :: jI x5.1.Height :: Bb x5.1.Slots)) F sd rfl rfl (by simpa using BA) (Ab rfl (Ab rfl (BH _))) (by simp) fun wa _ F sf => ?_
 exact gw 1 F rfl fun _ F => ⟨sf.drop, E5 hD0 ⟨g1, F.sb, sf.f1⟩ (by kernel_rfl)⟩
theorem QK {w : World} {a0 : UInt8} {r : Int × Int} (H : JM a0 = some r) :
    Calls prog 76 #[jU (a0.toNat : Int)] w (B8 fun u_ w_ => u_ = .tuple ⟨[jI r.1, jI r.2]⟩ ∧ SL w [] w_ []) := by
 have s0 : SL w [] w [] := SL.BF w
 refine Cb func76 ntmps76 30 rfl rfl rfl fun _ F => ?_
 unfold JM at H
 refine Be F H 23 4 rfl rfl rfl (fun h0 H _ F => ?_) (fun h0 H _ F => ?_)
 ·cases H
  exact rt F ⟨rfl, s0⟩
 obtain ⟨o0, H0, R0⟩ := Aa H
 clear H
 refine Cx (fun a w_ => Fr a 23 [(4, jU (a0.toNat : Int)), (7, .bool o0)] ∧ SL w [] w_ []) ?_ ?_
 ·have H := H0
  refine gc 6 F rfl fun _ F => Be F H 1 4 rfl rfl rfl (fun h1 H _ F => ?_) (fun h1 H _ F => ?_)
  ·cases H
   exact ⟨F.sb, s0⟩
  cases H
  exact ⟨F.sb, s0⟩
 intro _ w0 hJ
 obtain ⟨F, s1⟩ := hJ
 have H := R0
 clear R0 H0
 refine ge 1 F rfl fun _ F => Be F H 23 4 rfl rfl rfl (fun h2 H _ F => ?_) (fun h2 H _ F => ?_)
 ·cases H
  exact rt F ⟨rfl, s1⟩
 obtain ⟨o1, H1, R1⟩ := Aa H
 clear H
 refine Cx (fun a w_ => Fr a 23 [(4, jU (a0.toNat : Int)), (10, .bool o1)] ∧ SL w [] w_ []) ?_ ?_
 ·have H := H1
  refine gc 6 F rfl fun _ F => Be F H 1 4 rfl rfl rfl (fun h3 H _ F => ?_) (fun h3 H _ F => ?_)
  ·cases H
   exact ⟨F.sb, s1⟩
  cases H
  exact ⟨F.sb, s1⟩
 intro _ w1 hJ
 obtain ⟨F, s2⟩ := hJ
 have H := R1
 clear R1 H1
 refine ge 1 F rfl fun _ F => Be F H 23 4 rfl rfl rfl (fun h4 H _ F => ?_) (fun h4 H _ F => ?_)
 ·cases H
  exact rt F ⟨rfl, s2⟩
 obtain ⟨o2, H2, R2⟩ := Aa H
 clear H
 refine Cx (fun a w_ => Fr a 23 [(4, jU (a0.toNat : Int)), (13, .bool o2)] ∧ SL w [] w_ []) ?_ ?_
 ·have H := H2
  refine gc 6 F rfl fun _ F => Be F H 1 6 rfl rfl rfl (fun h5 H _ F => ?_) (fun h5 H _ F => ?_)
  ·cases H
   exact ⟨F.sb, s2⟩
  refine Be F H 1 4 rfl rfl rfl (fun h6 H _ F => ?_) (fun h6 H _ F => ?_)
  ·cases H
   exact ⟨F.sb, s2⟩
  cases H
  exact ⟨F.sb, s2⟩
 intro _ w2 hJ
 obtain ⟨F, s3⟩ := hJ
 have H := R2
 clear R2 H2
 refine ge 1 F rfl fun _ F => Be F H 23 3 rfl rfl rfl (fun h7 H _ F => ?_) (fun h7 H _ F => ?_)
 ·cases H
  exact rt F ⟨rfl, s3⟩
 obtain ⟨o3, H3, R3⟩ := Aa H
 clear H
 refine Cx (fun a w_ => Fr a 23 [(17, .bool o3)] ∧ SL w [] w_ []) ?_ ?_
 ·have H := H3
  refine gc 6 F rfl fun _ F => Be F H 1 6 rfl rfl rfl (fun h8 H _ F => ?_) (fun h8 H _ F => ?_)
  ·cases H
   exact ⟨F.sb, s3⟩
  refine Be F H 1 6 rfl rfl rfl (fun h9 H _ F => ?_) (fun h9 H _ F => ?_)
  ·cases H
   exact ⟨F.sb, s3⟩
  refine Be F H 1 6 rfl rfl rfl (fun ha H _ F => ?_) (fun ha H _ F => ?_)
  ·cases H
   exact ⟨F.sb, s3⟩
  refine Be F H 1 4 rfl rfl rfl (fun hb H _ F => ?_) (fun hb H _ F => ?_)
  ·cases H
   exact ⟨F.sb, s3⟩
  cases H
  exact ⟨F.sb, s3⟩
 intro _ w3 hJ
 obtain ⟨F, s4⟩ := hJ
 have H := R3
 clear R3 H3
 refine ge 1 F rfl fun _ F => Be F H 22 21 rfl rfl rfl (fun hc H _ F => ?_) (fun hc H _ F => ?_)
 ·cases H
  exact rt F ⟨rfl, s4⟩
 cases H
 exact rt F ⟨rfl, s4⟩
theorem Jf {w : World} {a0 : UInt8} {r : Int} (H : Gk a0 = some r) :
    Calls prog 74 #[jU (a0.toNat : Int)] w (B8 fun u_ w_ => u_ = jI r ∧ SL w [] w_ []) := by
 have s0 : SL w [] w [] := SL.BF w
 refine Cb func74 ntmps74 12 rfl rfl rfl fun _ F => ?_
 unfold Gk at H
 refine Be F H 7 5 rfl rfl rfl (fun h0 H _ F => ?_) (fun h0 H _ F => ?_)
 ·cases H
  exact rt F ⟨rfl, s0⟩
 obtain ⟨x0, h1, H⟩ := Aa H
 refine BW F s0 (QK h1) 17 rfl rfl rfl rfl fun w0 _ F s1 => ?_
 cases H
 exact rt F ⟨rfl, s1⟩
theorem Qd {w : World} {FF : List Nat} {g0 g0_4 g0_5 g0_6 : Nat} {v0_0 v0_1 v0_3 : Value} {a0 : AM} {a1 : AA} {r : Bool × AM} (hst : Ba [AB g0 154 [v0_0, v0_1, jI a0.e.Fn, v0_3, .map (some g0_4), .map (some g0_5), .map (some g0_6), jI a0.B2], Mp (Value.int .i64) (fun x : A3 => Value.agg ⟨(jI x.Locals :: jI x.Height :: Bb x.Slots)⟩) g0_4 a0.frames, Mp (Value.int .i64) (fun _ : Unit => Value.agg ⟨[]⟩) g0_5 a0.fresh, Mp (Value.int .i64) (Value.int .i64) g0_6 a0.taken] w FF) (hr0_0 : Rd AL w FF v0_0 a0.e.Classes) (hr0_1 : Rd Bs w FF v0_1 a0.e.AP) (hr0_3 : Rd Ty.u8 w FF v0_3 a0.code) (H : FY a0 a1 = some r) :
    Calls prog 133 #[jP g0, .agg ⟨[jI a1.At, jU (a1.Op.toNat : Int), jI a1.A, jI a1.B]⟩] w (B8 fun u_ w_ => ∃ u0 u1 u2 : Value, u_ = .bool r.1 ∧ BD AL v0_0 a0.e.Classes u0 r.2.e.Classes ∧ BD Bs v0_1 a0.e.AP u1 r.2.e.AP ∧ BD Ty.u8 v0_3 a0.code u2 r.2.code ∧ SL w FF w_ [AB g0 154 [u0, u1, jI r.2.e.Fn, u2, .map (some g0_4), .map (some g0_5), .map (some g0_6), jI r.2.B2], Mp (Value.int .i64) (fun x : A3 => Value.agg ⟨(jI x.Locals :: jI x.Height :: Bb x.Slots)⟩) g0_4 r.2.frames, Mp (Value.int .i64) (fun _ : Unit => Value.agg ⟨[]⟩) g0_5 r.2.fresh, Mp (Value.int .i64) (Value.int .i64) g0_6 r.2.taken]) := by
 have s0 : SL w FF w [AB g0 154 [v0_0, v0_1, jI a0.e.Fn, v0_3, .map (some g0_4), .map (some g0_5), .map (some g0_6), jI a0.B2], Mp (Value.int .i64) (fun x : A3 => Value.agg ⟨(jI x.Locals :: jI x.Height :: Bb x.Slots)⟩) g0_4 a0.frames, Mp (Value.int .i64) (fun _ : Unit => Value.agg ⟨[]⟩) g0_5 a0.fresh, Mp (Value.int .i64) (Value.int .i64) g0_6 a0.taken] := SL.init w FF hst
 refine Cb func133 ntmps133 2 rfl rfl rfl fun _ F0 => ?_
 unfold FY at H
 refine Ao F0 s0 rfl rfl rfl fun g8 w9 _ F s1 => gw 7 F rfl fun _ F => ?_
 obtain ⟨o0, H0, R0⟩ := Aa H
 clear H
 refine AV F s1 m0 3 rfl fun _ F => Cx (fun a w_ => ∃ p0 : (List (Int × Int)), o0 = .inr (p0) ∧ Fr a 43 [] ∧ SL w FF w_ [AB g0 154 [v0_0, v0_1, jI a0.e.Fn, v0_3, .map (some g0_4), .map (some g0_5), .map (some g0_6), jI a0.B2], Mp (Value.int .i64) (fun x : A3 => Value.agg ⟨(jI x.Locals :: jI x.Height :: Bb x.Slots)⟩) g0_4 a0.frames, Mp (Value.int .i64) (fun _ : Unit => Value.agg ⟨[]⟩) g0_5 a0.fresh, Mp (Value.int .i64) (Value.int .i64) g0_6 p0]) ?_ ?_
 ·have H := H0
  refine gc 1 F rfl fun _ F => E6 (C2 a0 a1) (fun s2 a w_ => Fr a 43 [(0, jP g0), (3, jP g8), (5, jI s2.2)] ∧ SL w FF w_ [AB g8 79 [jI a1.At, jU (a1.Op.toNat : Int), jI a1.A, jI a1.B], AB g0 154 [v0_0, v0_1, jI a0.e.Fn, v0_3, .map (some g0_4), .map (some g0_5), .map (some g0_6), jI a0.B2], Mp (Value.int .i64) (fun x : A3 => Value.agg ⟨(jI x.Locals :: jI x.Height :: Bb x.Slots)⟩) g0_4 a0.frames, Mp (Value.int .i64) (fun _ : Unit => Value.agg ⟨[]⟩) g0_5 a0.fresh, Mp (Value.int .i64) (Value.int .i64) g0_6 s2.1]) H ?_ ?_
  ·exact ⟨F.sb, s1⟩
  intro s2 _ w0 h0 o1 H hr
  obtain ⟨F, s3⟩ := h0
  replace H : C2 a0 a1 s2 = some o1 := H
  unfold C2 at H
  obtain ⟨x0, h1, H⟩ := Aa H
  refine gc 2 F rfl fun _ F => V5 BL s3 F (QR.ev 2 rfl <| QR.ld m0 rfl <| QR.ev 1 rfl <| QR.ld m0 rfl <| QR.call (args := [.tmp 14]) Aic rfl (fun _ hC => PZ (Jf (a0 := a1.Op) h1) hC) <| QR.ev 2 rfl <| QR.nil) fun w1 _ s4 F => ge 1 F rfl fun _ F => Be F H 10 4 rfl rfl rfl (fun h2 H _ F => ?_) (fun h2 H _ F => ?_)
  ·refine AV F s4 m1 1 rfl fun _ F => gx F (Vr (k := s2.2) (z0 := (0 : Int)) s4 m4 underlying152 FM Ajo rfl rfl) 11 rfl rfl fun _ F => Cp 30 F H (fun h3 H F => ?_) (fun h3 H F => ?_)
   ·refine gw 2 F rfl fun _ F => AY F rfl rfl <| AV F s4 m0 4 rfl fun _ F => Be F H 13 2 rfl rfl rfl (fun h4 H _ F => ?_) (fun h4 H _ F => ?_)
    ·cases H
     obtain rfl := hr _ rfl
     replace H := R0
     try dsimp only at H
     cases H
     exact rt F ⟨v0_0, v0_1, v0_3, rfl, BD.refl, BD.refl, BD.refl, s4.drop⟩
    refine Dk BL s4.f4.drop ?_
    refine hq [0, 1, 2, 3, 4, 5, 6] F s4.drew.f4.drop (QI.ev 3 rfl <| QI.ld m1 rfl <| QI.ev 2 rfl <| QI.ld m0 rfl <| QI.nil) (by kernel_rfl) fun _ F => ?_
    refine ho 7 rfl (by kernel_rfl) ?_
    refine IQ (k := s2.2) (u := a1.At) F s4.drew.f4 underlying152 FM rfl rfl rfl fun w2 _ F s5 => gw 1 F rfl fun _ F => ⟨s5.drop, ?_⟩
    refine Ea (by kernel_rfl) ?_
    cases H
    exact ge 7 F rfl fun _ F => ⟨_, rfl, F.sb, s5.f4.f4.f4.f4⟩
   refine gw 10 F rfl fun _ F => Dk BL s4.f4.drop ?_
   refine hq [0, 1, 2, 3, 4, 5, 6] F s4.drew.f4.drop (QI.ev 3 rfl <| QI.ld m1 rfl <| QI.ev 2 rfl <| QI.ld m0 rfl <| QI.nil) (by kernel_rfl) fun _ F => ?_
   refine ho 7 rfl (by kernel_rfl) ?_
   refine IQ (k := s2.2) (u := a1.At) F s4.drew.f4 underlying152 FM rfl rfl rfl fun w3 _ F s6 => gw 1 F rfl fun _ F => ⟨s6.drop, ?_⟩
   refine Ea (by kernel_rfl) ?_
   cases H
   exact ge 7 F rfl fun _ F => ⟨_, rfl, F.sb, s6.f4.f4.f4.f4⟩
  cases H
  obtain rfl := hr _ rfl
  exact ⟨_, rfl, F.sb, s4.drop⟩
 intro _ w4 hJ
 obtain ⟨p0, rfl, F, s7⟩ := hJ
 have H := R0
 clear R0 H0
 try dsimp only at H
 cases H
 exact ge 7 F rfl fun _ F => rt F ⟨v0_0, v0_1, v0_3, rfl, BD.refl, BD.refl, BD.refl, s7⟩
theorem L9 {w : World} {FF : List Nat} {g1 : Nat} {v1_0 v1_1 : Value} {a0 : UInt8} {a1 : AD} {r : Bool} (hst : Ba [AB g1 110 [v1_0, v1_1, jI a1.Fn]] w FF) (hr1_0 : Rd AL w FF v1_0 a1.Classes) (hr1_1 : Rd Bs w FF v1_1 a1.AP) (H : E8 a0 a1 = some r) :
    Calls prog 182 #[jU (a0.toNat : Int), jP g1] w (B8 fun u_ w_ => u_ = .bool r ∧ SL w FF w_ [AB g1 110 [v1_0, v1_1, jI a1.Fn]]) := by
 have s0 : SL w FF w [AB g1 110 [v1_0, v1_1, jI a1.Fn]] := SL.init w FF hst
 refine Cb func182 ntmps182 8 rfl rfl rfl fun _ F => ?_
 unfold E8 at H
 obtain ⟨x0, h0, H⟩ := Aa H
 refine AV F s0 m0 1 rfl fun _ F => BW F s0 (FR (hr1_0.Bp s0) h0) 1 rfl rfl rfl rfl fun w0 _ F s1 => Cp 8 F H (fun h1 H F => ?_) (fun h1 H F => ?_)
 ·refine gw 4 F rfl fun _ F => Cp 12 F H (fun h2 H F => ?_) (fun h2 H F => ?_)
  ·cases H
   exact gw 7 F rfl fun _ F => rt F ⟨rfl, s1⟩
  cases H
  exact gw 7 F rfl fun _ F => rt F ⟨rfl, s1⟩
 cases H
 exact gw 11 F rfl fun _ F => rt F ⟨rfl, s1⟩
theorem Ro {w : World} {v0_0 v0_1 : Value} {a0 : AD} {r : Bool} (hr0_0 : Rd AL w [] v0_0 a0.Classes) (hr0_1 : Rd Bs w [] v0_1 a0.AP) (H : Iw a0 = some r) :
    Calls prog 159 #[.agg ⟨[v0_0, v0_1, jI a0.Fn]⟩] w (B8 fun u_ w_ => u_ = .bool r ∧ SL w [] w_ []) := by
 have s0 : SL w [] w [] := SL.BF w
 refine Cb func159 ntmps159 2 rfl rfl rfl fun _ F0 => ?_
 unfold Iw at H
 refine Ao F0 s0 rfl rfl rfl fun g8 w9 _ F s1 => ?_
 obtain ⟨x0, h0, H⟩ := Aa H
 refine gw 6 F rfl fun _ F => AV F s1 m0 0 rfl fun _ F => BW F s1 (QL (hr0_0.Bp s1) h0) 13 rfl rfl rfl rfl fun w0 _ F s2 => Cp 18 F H (fun h1 H F => ?_) (fun h1 H F => ?_)
 ·cases H
  exact gw 28 F rfl fun _ F => rt F ⟨rfl, s2.drop⟩
 refine gw 1 F rfl fun _ F => AY F rfl rfl <| AV F s2 m0 0 rfl fun _ F => AY F rfl rfl <| gx F (Ak rfl underlying108 (fR hr0_1 s2)) 3 rfl rfl fun _ F => Cp 24 F H (fun h2 H F => ?_) (fun h2 H F => ?_)
 ·cases H
  exact gw 22 F rfl fun _ F => rt F ⟨rfl, s2.drop⟩
 refine gw 1 F rfl fun _ F => AY F rfl rfl <| AV F s2 m0 3 rfl fun _ F => Cp 29 F H (fun h3 H F => ?_) (fun h3 H F => ?_)
 ·cases H
  exact gw 17 F rfl fun _ F => rt F ⟨rfl, s2.drop⟩
 refine gw 1 F rfl fun _ F => AY F rfl rfl <| AV F s2 m0 1 rfl fun _ F => AY F rfl rfl <| AV F s2 m0 0 rfl fun _ F => AY F rfl rfl <| gx F (Ak rfl underlying108 (fR hr0_1 s2)) 4 rfl rfl fun _ F => Be F H 7 4 rfl rfl rfl (fun h4 H _ F => ?_) (fun h4 H _ F => ?_)
 ·cases H
  exact rt F ⟨rfl, s2.drop⟩
 refine gx F (Eg (cs := [.tmp 1]) (vs := [jP g8]) rfl) 7 rfl rfl fun _ F => AV F s2 m0 0 rfl fun _ F => ?_
 obtain ⟨o0, H0, R0⟩ := Aa H
 clear H
 refine gx F (Ak rfl underlying108 (fR hr0_1 s2)) 3 rfl rfl fun _ F => Cx (fun a w_ => ∃ p0 : Unit, o0 = .inr (p0) ∧ Fr a 74 [] ∧ SL w [] w_ []) ?_ ?_
 ·have H := H0
  refine gc 1 F rfl fun _ F => E6 (EQ a0) (fun s3 a w_ => Fr a 74 [(5, clo 182 [jP g8]), (39, v0_1), (40, jI (a0.AP.length : Int)), (41, jI s3)] ∧ SL w [] w_ [AB g8 110 [v0_0, v0_1, jI a0.Fn]]) H ?_ ?_
  ·exact ⟨F.sb, s2⟩
  intro s3 _ w1 h5 o1 H hr
  obtain ⟨F, s4⟩ := h5
  replace H : EQ a0 s3 = some o1 := H
  unfold EQ at H
  refine gc 6 F rfl fun _ F => Be F H 6 4 rfl rfl rfl (fun h6 H _ F => ?_) (fun h6 H _ F => ?_)
  ·obtain ⟨x1, h7, H⟩ := Aa H
   obtain ⟨a2, c0, G0, h8, h9, ha, hb⟩ := Rd.idx hr0_1 JG rfl h7
   obtain ⟨v0, rfl, hc⟩ := (LY ha hb)
   replace h9 := h9 _ _ s4
   refine gi F h8 0 rfl fun _ F => gx F (Ar TM rfl h9 rfl) 0 rfl rfl fun _ F => Ag F s4 NF rfl rfl fun g0 w2 _ F s5 => Ah F s5 rfl rfl VT (Ab (Ap (fR hc s5)) (Ab rfl Al)) (Ac rfl) fun w3 _ F s6 => ?_
   obtain ⟨o2, H1, R1⟩ := Aa H
   clear H
   refine gw 3 F rfl fun _ F => Cx (fun a w_ => ∃ p1 : Bool × Bool, o2 = .inr (p1) ∧ Fr a 74 [(5, clo 182 [jP g8]), (7, jP g0), (39, v0_1), (40, jI (a0.AP.length : Int)), (41, jI s3), (50, .pointer (some ⟨g0, 1, none⟩)), (51, jU (x1.Result.toNat : Int)), (52, .bool ((x1.Result.toNat : Int) != 0)), (53, .bool p1.1), (59, .bool p1.2)] ∧ SL w [] w_ [AB g8 110 [v0_0, v0_1, jI a0.Fn], AB g0 50 [v0, jU (x1.Result.toNat : Int)]]) ?_ ?_
   ·have H := H1
    refine gc 3 F rfl fun _ F => AV F s6 m0 0 rfl fun _ F => gx F (Ak rfl underlying47 (fR hc s6)) 2 rfl rfl fun _ F => Cp 49 F H (fun hd H F => ?_) (fun hd H F => ?_)
    ·cases H
     replace H := R1
     try dsimp only at H
     cases H
     obtain rfl := hr _ rfl
     replace H := R0
     try dsimp only at H
     cases H
     exact gw 28 F rfl fun _ F => rt F ⟨rfl, s6.drop.drop⟩
    refine gw 1 F rfl fun _ F => AY F rfl rfl <| AV F s6 m0 2 rfl fun _ F => Cp 53 F H (fun he H F => ?_) (fun he H F => ?_)
    ·refine gw 2 F rfl fun _ F => AY F rfl rfl <| AV F s6 m0 0 rfl fun _ F => ?_
     obtain ⟨x2, hf, H⟩ := Aa H
     refine AY F rfl rfl ?_
     obtain ⟨G1, hg, hh, hi, hj⟩ := SL.open_ (ps := [AB g8 110 [v0_0, v0_1, jI a0.Fn]]) (rest := [AB g0 50 [v0, jU (x1.Result.toNat : Int)]]) s6.f1
     refine El (args := [.tmp 56]) F Y7 rfl rfl (L9 (a0 := x1.Result) (a1 := (⟨a0.Classes, a0.AP, a0.Fn⟩ : AD)) hg (hr0_0.pass s6.f1 hh) (hr0_1.pass s6.f1 hh) hf) rfl fun v1 w4 _ hk F => ?_
     obtain ⟨rfl, hl⟩ := hk
     have s7 := hj _ _ hl
     refine gw 5 F rfl fun _ F => Be F H 14 1 rfl rfl rfl (fun hm H _ F => ?_) (fun hm H _ F => ?_)
     ·cases H
      replace H := R1
      try dsimp only at H
      cases H
      obtain rfl := hr _ rfl
      replace H := R0
      try dsimp only at H
      cases H
      exact rt F ⟨rfl, s7.drop.drop⟩
     cases H
     exact ⟨_, rfl, F.sb, s7⟩
    cases H
    exact gw 11 F rfl fun _ F => ⟨_, rfl, F.sb, s6.f1⟩
   intro _ w5 hJ
   obtain ⟨p1, rfl, F, s8⟩ := hJ
   have H := R1
   clear R1 H1
   try dsimp only at H
   refine ge 4 F rfl fun _ F => AV F s8 m1 0 rfl fun _ F => ?_
   obtain ⟨o3, H2, R2⟩ := Aa H
   clear H
   refine gx F (Ak rfl underlying47 (fR hc s8)) 3 rfl rfl fun _ F => Cx (fun a w_ => ∃ p2 : Unit, o3 = .inr (p2) ∧ Fr a 74 [(5, clo 182 [jP g8]), (39, v0_1), (40, jI (a0.AP.length : Int)), (41, jI s3), (50, .pointer (some ⟨g0, 1, none⟩)), (51, jU (x1.Result.toNat : Int)), (52, .bool ((x1.Result.toNat : Int) != 0)), (53, .bool p1.1), (59, .bool p1.2)] ∧ SL w [] w_ [AB g8 110 [v0_0, v0_1, jI a0.Fn], AB g0 50 [v0, jU (x1.Result.toNat : Int)]]) ?_ ?_
   ·have H := H2
    refine gc 1 F rfl fun _ F => E6 (EN a0 x1) (fun s9 a w_ => Fr a 74 [(5, clo 182 [jP g8]), (39, v0_1), (40, jI (a0.AP.length : Int)), (41, jI s3), (50, .pointer (some ⟨g0, 1, none⟩)), (51, jU (x1.Result.toNat : Int)), (52, .bool ((x1.Result.toNat : Int) != 0)), (53, .bool p1.1), (59, .bool p1.2), (62, v0), (63, jI (x1.B5.length : Int)), (64, jI s9)] ∧ SL w [] w_ [AB g8 110 [v0_0, v0_1, jI a0.Fn], AB g0 50 [v0, jU (x1.Result.toNat : Int)]]) H ?_ ?_
    ·exact ⟨F.sb, s8⟩
    intro s9 _ w6 hn o4 H hr
    obtain ⟨F, sa⟩ := hn
    replace H : EN a0 x1 s9 = some o4 := H
    unfold EN at H
    refine gc 6 F rfl fun _ F => Be F H 6 4 rfl rfl rfl (fun ho H _ F => ?_) (fun ho H _ F => ?_)
    ·obtain ⟨x3, hp, H⟩ := Aa H
     obtain ⟨a3, hq, hs⟩ := Lm Flat.u8 (EZ hc sa) BU rfl hp
     refine gi F hq 0 rfl fun _ F => ?_
     obtain ⟨x4, ht, H⟩ := Aa H
     obtain ⟨G2, hu, hv, hw, hx⟩ := SL.open_ (ps := [AB g8 110 [v0_0, v0_1, jI a0.Fn]]) (rest := [AB g0 50 [v0, jU (x1.Result.toNat : Int)]]) sa
     refine gx F (As DV rfl (Cells.at_ hs (o := 0) rfl)) 7 rfl rfl fun _ F => ?_
     refine El (args := [.tmp 69]) F Y7 rfl rfl (L9 (a0 := x3) (a1 := (⟨a0.Classes, a0.AP, a0.Fn⟩ : AD)) hu (hr0_0.pass sa hv) (hr0_1.pass sa hv) ht) rfl fun v2 w7 _ hy F => ?_
     obtain ⟨rfl, hz⟩ := hy
     have sc := hx _ _ hz
     refine gw 3 F rfl fun _ F => Be F H 17 7 rfl rfl rfl (fun h10 H _ F => ?_) (fun h10 H _ F => ?_)
     ·cases H
      obtain rfl := hr _ rfl
      replace H := R2
      try dsimp only at H
      cases H
      obtain rfl := hr _ rfl
      replace H := R0
      try dsimp only at H
      cases H
      exact rt F ⟨rfl, sc.drop.drop⟩
     cases H
     exact ⟨_, rfl, F.sb, sc⟩
    cases H
    obtain rfl := hr _ rfl
    exact ⟨_, rfl, F.sb, sa⟩
   intro _ w8 hJ
   obtain ⟨p2, rfl, F, sd⟩ := hJ
   have H := R2
   clear R2 H2
   try dsimp only at H
   cases H
   exact ge 6 F rfl fun _ F => ⟨_, rfl, F.sb, sd.f1.drop⟩
  cases H
  obtain rfl := hr _ rfl
  exact ⟨_, rfl, F.sb, s4.drop⟩
 intro _ wa hJ
 obtain ⟨p0, rfl, F, se⟩ := hJ
 have H := R0
 clear R0 H0
 try dsimp only at H
 cases H
 exact ge 7 F rfl fun _ F => rt F ⟨rfl, se⟩
theorem IK {w : World} {a0 : A3} {r : Bool} (H : FP a0 = some r) :
    Calls prog 183 #[.agg ⟨(jI a0.Locals :: jI a0.Height :: Bb a0.Slots)⟩] w (B8 fun u_ w_ => u_ = .bool r ∧ SL w [] w_ []) := by
 have s0 : SL w [] w [] := SL.BF w
 refine Cb func183 ntmps183 2 rfl rfl rfl fun _ F0 => ?_
 unfold FP at H
 refine Ao F0 s0 rfl rfl rfl fun g8 w9 _ F s1 => gw 6 F rfl fun _ F => AV F s1 m0 2 rfl fun _ F => Cp 6 F H (fun h0 H F => ?_) (fun h0 H F => ?_)
 ·refine gw 1 F rfl fun _ F => AY F rfl rfl <| AV F s1 m0 3 rfl fun _ F => Cp 11 F H (fun h1 H F => ?_) (fun h1 H F => ?_)
  ·refine gw 1 F rfl fun _ F => AY F rfl rfl <| AV F s1 m0 3 rfl fun _ F => Cp 16 F H (fun h2 H F => ?_) (fun h2 H F => ?_)
   ·refine gw 1 F rfl fun _ F => AY F rfl rfl <| AV F s1 m0 1 rfl fun _ F => AY F rfl rfl ?_
    cases H
    exact AV F s1 m0 7 rfl fun _ F => rt F ⟨rfl, s1.drop⟩
   cases H
   exact gw 11 F rfl fun _ F => rt F ⟨rfl, s1.drop⟩
  cases H
  exact gw 16 F rfl fun _ F => rt F ⟨rfl, s1.drop⟩
 cases H
 exact gw 21 F rfl fun _ F => rt F ⟨rfl, s1.drop⟩
theorem LK {w : World} {a0 : A3} {r : A3} (H : HM a0 = some r) :
    Calls prog 184 #[.agg ⟨(jI a0.Locals :: jI a0.Height :: Bb a0.Slots)⟩] w (B8 fun u_ w_ => u_ = .agg ⟨(jI r.Locals :: jI r.Height :: Bb r.Slots)⟩ ∧ SL w [] w_ []) := by
 have s0 : SL w [] w [] := SL.BF w
 refine Cb func184 ntmps184 2 rfl rfl rfl fun _ F0 => ?_
 unfold HM at H
 refine Ao F0 s0 rfl rfl rfl fun g0 w0 _ F s1 => Ag F s1 Bu rfl rfl fun g1 w1 _ F s2 => gw 5 F rfl fun _ F => AV F s2 m1 1 rfl fun _ F => AV F s2 m1 0 rfl fun _ F => ?_
 refine gx F (Af (vs := [jI a0.Locals, jI a0.Height]) Bu Dj rfl (cs := (jI a0.Locals :: jI a0.Height :: Bb (Vector.replicate 24 (0 : UInt8)))) (D8 rfl rfl (by simp) <| D8 rfl rfl (by simp) <| Ch)) 0 rfl rfl fun _ F => ?_
 refine Ag F s2 Bu rfl rfl fun g2 w2 _ F s3 => ?_
 refine Br (ds := (jI a0.Locals :: jI a0.Height :: Bb (Vector.replicate 24 (0 : UInt8)))) F s3 rfl rfl (by simpa using BA) (Ab rfl (Ab rfl (BH _))) (by simp) fun w3 _ F s4 => ?_
 obtain ⟨x0, h0, H⟩ := Aa H
 refine gw 3 F rfl fun _ F => Dk BL s4.drop ?_
 refine hq [0, 1, 2, 3, 4, 5, 7, 8] F s4.drew.drop (QI.ev 2 rfl <| QI.ld m1 rfl <| QI.ev 1 rfl <| QI.ld m1 rfl <| QI.ev 2 rfl <| QI.op rfl (fun _ hC => Ac3 Gb rfl) rfl <| QI.nil) (by kernel_rfl) fun _ F => ?_
 refine ho 6 rfl (by kernel_rfl) ?_
 refine gx F (Aem Gb (X8 h0).1 (X8 h0).2 rfl rfl) 1 rfl rfl fun _ F => ⟨s4.drew.drop, ?_⟩
 refine ho 9 rfl (by kernel_rfl) ?_
 refine Aaj (q := (wr (a0.Locals + a0.Height)).toNat) (pre := [jI a0.Locals, jI a0.Height]) (pre2 := [jI a0.Locals, jI a0.Height]) F s4.drew m1 rfl rfl (Ahz h0) BU rfl rfl rfl (cs' := (jI a0.Locals :: jI a0.Height :: Bb (Pu (Vector.replicate 24 (0 : UInt8)) a0.Slots ((wr (a0.Locals + a0.Height)).toNat)))) (by simp only [List.cons_append, List.nil_append]) fun w4 _ F s5 => ?_
 refine gw 1 F rfl fun _ F => ⟨s5.drop, ?_⟩
 refine Ea (by kernel_rfl) ?_
 refine ge 3 F rfl fun _ F => Hv F s5 m0 0 rfl fun _ F => ?_
 refine Br (ds := (jI a0.Locals :: jI a0.Height :: Bb (Pu (Vector.replicate 24 (0 : UInt8)) a0.Slots ((wr (a0.Locals + a0.Height)).toNat)))) F s5.f1 rfl rfl (by simpa using BA) (Ab rfl (Ab rfl (BH _))) (by simp) fun w5 _ F s6 => ?_
 cases H
 refine gw 3 F rfl fun _ F => ?_
 refine Aj (rs := [.cell 2 118]) (vs := [.agg ⟨(jI a0.Locals :: jI a0.Height :: Bb (Pu (Vector.replicate 24 (0 : UInt8)) a0.Slots ((wr (a0.Locals + a0.Height)).toNat)))⟩]) F (by rfl) ⟨_, _, rfl, Am s6 m0 rfl BI (by simp), rfl⟩ ⟨_, rfl, ⟨rfl, s6.drop.drop.drop⟩⟩
theorem MR {w : World} {v0 : Value} {a0 : List A9} {a1 : A3} {r : Int} (hr0 : Rd AL w [] v0 a0) (H : Gn a0 a1 = some r) :
    Calls prog 160 #[v0, .agg ⟨(jI a1.Locals :: jI a1.Height :: Bb a1.Slots)⟩] w (B8 fun u_ w_ => u_ = jI r ∧ SL w [] w_ []) := by
 have s0 : SL w [] w [] := SL.BF w
 refine Cb func160 ntmps160 2 rfl rfl rfl fun _ F0 => ?_
 unfold Gn at H
 refine Ao F0 s0 rfl rfl rfl fun g8 w9 _ F s1 => ?_
 obtain ⟨x0, h0, H⟩ := Aa H
 refine gw 5 F rfl fun _ F => bool_split (!x0) (fun h1 => ?_) (fun h1 => ?_)
 ·replace H := Xk h1 H
  refine V5 BL s1 F (QR.qo (fun _ hC => Ar BI rfl (hC.Do m0 (o := 0) (ds := (jI a1.Locals :: jI a1.Height :: Bb a1.Slots)) (Mj (pre := []) rfl rfl)) (by simp)) rfl <| QR.call (args := [.tmp 7]) Y5 rfl (fun _ hC => PZ (IK (a0 := (⟨a1.Locals, a1.Height, a1.Slots⟩ : A3)) h0) hC) <| QR.ev 2 rfl <| QR.qs rfl rfl (Nz rfl h1) Bool.noConfusion rfl rfl <| QR.qs rfl rfl (Nz rfl h1) Bool.noConfusion rfl rfl <| QR.qs rfl rfl (Nz rfl h1) Bool.noConfusion rfl rfl <| QR.qs rfl rfl (Nz rfl h1) Bool.noConfusion rfl rfl <| QR.qo (fun _ hC => Wc (Aji rfl h1) rfl) rfl <| QR.nil) fun w0 _ s2 F => ?_
  cases H
  exact ge 9 F rfl fun _ F => rt F ⟨rfl, s2.drop⟩
 replace H := Xp h1 H
 obtain ⟨x1, h2, H⟩ := Aa H
 refine V5 BL s1 F (QR.qo (fun _ hC => Ar BI rfl (hC.Do m0 (o := 0) (ds := (jI a1.Locals :: jI a1.Height :: Bb a1.Slots)) (Mj (pre := []) rfl rfl)) (by simp)) rfl <| QR.call (args := [.tmp 7]) Y5 rfl (fun _ hC => PZ (IK (a0 := (⟨a1.Locals, a1.Height, a1.Slots⟩ : A3)) h0) hC) <| QR.ev 2 rfl <| QR.qg (fun _ hC => Ar BI rfl (hC.Do m0 (o := 0) (ds := (jI a1.Locals :: jI a1.Height :: Bb a1.Slots)) (Mj (pre := []) rfl rfl)) (by simp)) rfl rfl (Nz rfl h1) rfl rfl <| QR.Alh rfl (Nz rfl h1) (args := [.tmp 11]) Agf rfl (fun _ hC => PZ (LK (a0 := (⟨a1.Locals, a1.Height, a1.Slots⟩ : A3)) h2) hC) <| QR.qg (fun _ hC => Ar BI rfl (hC.Do m0 (o := 0) (ds := (jI a1.Locals :: jI a1.Height :: Bb a1.Slots)) (Mj (pre := []) rfl rfl)) (by simp)) rfl rfl (Nz rfl h1) rfl rfl <| QR.qg (fun _ hC => ZM (xs := (jI x1.Locals :: jI x1.Height :: Bb x1.Slots)) (ys := (jI a1.Locals :: jI a1.Height :: Bb a1.Slots)) Qu (by decide) rfl rfl (SB Qu Y3 (Ax rfl (Aw Cn rfl) (Aw Cn rfl) (EqAt.up (j := 2) (Nb underlying3) (by decide)) (Ax rfl (Aw Cn rfl) (Aw Cn rfl) (EqAt.up (j := 2) (Nb underlying3) (by decide)) (Ax rfl (UW Nu (SX (pre := [jI x1.Locals, jI x1.Height]) rfl rfl) (by simp)) (UW Nu (SX (pre := [jI a1.Locals, jI a1.Height]) rfl rfl) (by simp)) (EqAt.up (j := 2) (Ym Gb underlying48 ZF) (by decide)) SU))))) rfl rfl (Nz rfl h1) rfl rfl <| QR.qo (fun _ hC => WM (Aji rfl h1) rfl) rfl <| QR.nil) fun w1 _ s3 F => ?_
 refine ge 1 F rfl fun _ F => Be F H 7 6 rfl rfl rfl (fun h3 H _ F => ?_) (fun h3 H _ F => ?_)
 ·cases H
  exact rt F ⟨rfl, s3.drop⟩
 obtain ⟨o0, H0, R0⟩ := Aa H
 clear H
 refine gx F (Aex (pre := [jI a1.Locals, jI a1.Height]) s3 m0 rfl Nu rfl) 3 rfl rfl fun _ F => Cx (fun a w_ => ∃ p0 : Unit, o0 = .inr (p0) ∧ Fr a 26 [] ∧ SL w [] w_ []) ?_ ?_
 ·have H := H0
  refine gc 1 F rfl fun _ F => E6 (FD a0 a1) (fun s4 a w_ => Fr a 26 [(0, v0), (17, .agg ⟨Bb a1.Slots⟩), (18, jI s4)] ∧ SL w [] w_ []) H ?_ ?_
  ·exact ⟨F.sb, s3.drop⟩
  intro s4 _ w2 h4 o1 H hr
  obtain ⟨F, s5⟩ := h4
  replace H : FD a0 a1 s4 = some o1 := H
  unfold FD at H
  refine gc 6 F rfl fun _ F => Be F H 6 4 rfl rfl rfl (fun h5 H _ F => ?_) (fun h5 H _ F => ?_)
  ·obtain ⟨x2, h6, H⟩ := Aa H
   obtain ⟨x3, h7, H⟩ := Aa H
   refine gx F (Aca Gb DV rfl rfl h6) 7 rfl rfl fun _ F => BW F s5 (FR (hr0.Bp s5) h7) 3 rfl rfl rfl rfl fun w3 _ F s6 => Be F H 12 7 rfl rfl rfl (fun h8 H _ F => ?_) (fun h8 H _ F => ?_)
   ·cases H
    obtain rfl := hr _ rfl
    replace H := R0
    try dsimp only at H
    cases H
    exact rt F ⟨rfl, s6⟩
   cases H
   exact ⟨_, rfl, F.sb, s6⟩
  cases H
  obtain rfl := hr _ rfl
  exact ⟨_, rfl, F.sb, s5⟩
 intro _ w4 hJ
 obtain ⟨p0, rfl, F, s7⟩ := hJ
 have H := R0
 clear R0 H0
 try dsimp only at H
 cases H
 exact ge 7 F rfl fun _ F => rt F ⟨rfl, s7⟩
theorem J7 {w : World} {a0 : UInt8} {r : A8} (H : HV a0 = some r) :
    Calls prog 200 #[jU (a0.toNat : Int)] w (B8 fun u_ w_ => u_ = .agg ⟨[jI r.kind, jU (r.t.toNat : Int)]⟩ ∧ SL w [] w_ []) := by
 have s0 : SL w [] w [] := SL.BF w
 refine Cb func200 ntmps200 2 rfl rfl rfl fun _ F0 => ?_
 unfold HV at H
 refine Ag F0 s0 D6 rfl rfl fun g7 w8 q9 F s1 => gw 5 F rfl fun _ F => gx F (Af (vs := [jI 4, jU (a0.toNat : Int)]) D6 Hj rfl (cs := [jI 4, jU (a0.toNat : Int)]) (rfl)) 0 rfl rfl fun _ F => Ah F s1 rfl rfl Qt (Ab rfl (Ab rfl Al)) (Ac rfl) fun w0 _ F s2 => ?_
 cases H
 refine gw 3 F rfl fun _ F => ?_
 refine Aj (rs := [.cell 2 253]) (vs := [.agg ⟨[jI 4, jU (a0.toNat : Int)]⟩]) F (by rfl) ⟨_, _, rfl, Am s2 m0 rfl Wo rfl, rfl⟩ ⟨_, rfl, ⟨rfl, s2.drop⟩⟩
theorem BB {w : World} {v0 : Value} (hc0 : v0.cells = #[v0]) :
    Calls prog 201 #[v0] w (B8 fun u_ w_ => ∃ g0 : Nat, u_ = clo 214 [jP g0] ∧ SL w [] w_ [AB g0 47 [v0]]) := by
  have s0 : SL w [] w [] := SL.BF w
  refine D7 func201 rfl ntmps201 (Nat.le_of_ble_eq_true rfl) (args := [v0]) fun q0 F0 => ?_
  refine wp_seq ?_
  refine AZ ?_
  refine Hu F0 s0 rfl hc0 rfl fun g0 w1 q1 F1 s1 => ?_
  refine Gg F1 (PR.op (Hm rfl) <| PR.nil) fun q2 F2 => ?_
  refine AW ?_
  refine Fe ?_
  refine wp_seq ?_
  refine AZ ?_
  refine Gg F2 (PR.op (Eg (cs := [.tmp 1]) (vs := [jP g0]) rfl) <| PR.op (Hm rfl) <| PR.nil) fun q3 F3 => ?_
  refine AW ?_
  refine Fe ?_
  refine wp_ret ?_
  refine HY (rs := [.tmp 2]) (vs := [clo 214 [jP g0]]) F3 (by rfl) ⟨_, _, rfl, RV.tmp rfl, rfl⟩ ⟨_, rfl, ⟨g0, rfl, s1⟩⟩
theorem BN {w : World} {v0 v1 : Value} (hc0 : v0.cells = #[v0]) (hc1 : v1.cells = #[v1]) :
    Calls prog 202 #[v0, v1] w (B8 fun u_ w_ => ∃ g0 g1 : Nat, u_ = clo 215 [jP g0, jP g1] ∧ SL w [] w_ [AB g1 142 [v1], AB g0 224 [v0]]) := by
  have s0 : SL w [] w [] := SL.BF w
  refine D7 func202 rfl ntmps202 (Nat.le_of_ble_eq_true rfl) (args := [v0, v1]) fun q0 F0 => ?_
  refine wp_seq ?_
  refine AZ ?_
  refine Hu F0 s0 rfl hc0 rfl fun g0 w1 q1 F1 s1 => ?_
  refine Hu F1 s1 rfl hc1 rfl fun g1 w2 q2 F2 s2 => ?_
  refine Gg F2 (PR.op (Hm rfl) <| PR.nil) fun q3 F3 => ?_
  refine AW ?_
  refine Fe ?_
  refine wp_seq ?_
  refine AZ ?_
  refine Gg F3 (PR.op (Eg (cs := [.tmp 2, .tmp 3]) (vs := [jP g0, jP g1]) rfl) <| PR.op (Hm rfl) <| PR.nil) fun q4 F4 => ?_
  refine AW ?_
  refine Fe ?_
  refine wp_ret ?_
  refine HY (rs := [.tmp 4]) (vs := [clo 215 [jP g0, jP g1]]) F4 (by rfl) ⟨_, _, rfl, RV.tmp rfl, rfl⟩ ⟨_, rfl, ⟨g0, g1, rfl, s2⟩⟩
theorem MX {w : World} {v0 v1 : Value} (hc0 : v0.cells = #[v0]) (hc1 : v1.cells = #[v1]) :
    Calls prog 208 #[v0, v1] w (B8 fun u_ w_ => ∃ g0 g1 : Nat, u_ = clo 216 [jP g1, jP g0] ∧ SL w [] w_ [AB g1 4 [v1], AB g0 224 [v0]]) := by
  have s0 : SL w [] w [] := SL.BF w
  refine D7 func208 rfl ntmps208 (Nat.le_of_ble_eq_true rfl) (args := [v0, v1]) fun q0 F0 => ?_
  refine wp_seq ?_
  refine AZ ?_
  refine Hu F0 s0 rfl hc0 rfl fun g0 w1 q1 F1 s1 => ?_
  refine Hu F1 s1 rfl hc1 rfl fun g1 w2 q2 F2 s2 => ?_
  refine Gg F2 (PR.op (Hm rfl) <| PR.nil) fun q3 F3 => ?_
  refine AW ?_
  refine Fe ?_
  refine wp_seq ?_
  refine AZ ?_
  refine Gg F3 (PR.op (Eg (cs := [.tmp 3, .tmp 2]) (vs := [jP g1, jP g0]) rfl) <| PR.op (Hm rfl) <| PR.nil) fun q4 F4 => ?_
  refine AW ?_
  refine Fe ?_
  refine wp_ret ?_
  refine HY (rs := [.tmp 4]) (vs := [clo 216 [jP g1, jP g0]]) F4 (by rfl) ⟨_, _, rfl, RV.tmp rfl, rfl⟩ ⟨_, rfl, ⟨g0, g1, rfl, s2⟩⟩
theorem Ri {w : World} {v0 : Value} (hc0 : v0.cells = #[v0]) :
    Calls prog 209 #[v0] w (B8 fun u_ w_ => ∃ g0 : Nat, u_ = clo 218 [jP g0] ∧ SL w [] w_ [AB g0 4 [v0]]) := by
  have s0 : SL w [] w [] := SL.BF w
  refine D7 func209 rfl ntmps209 (Nat.le_of_ble_eq_true rfl) (args := [v0]) fun q0 F0 => ?_
  refine wp_seq ?_
  refine AZ ?_
  refine Hu F0 s0 rfl hc0 rfl fun g0 w1 q1 F1 s1 => ?_
  refine Gg F1 (PR.op (Hm rfl) <| PR.nil) fun q2 F2 => ?_
  refine AW ?_
  refine Fe ?_
  refine wp_seq ?_
  refine AZ ?_
  refine Gg F2 (PR.op (Eg (cs := [.tmp 1]) (vs := [jP g0]) rfl) <| PR.op (Hm rfl) <| PR.nil) fun q3 F3 => ?_
  refine AW ?_
  refine Fe ?_
  refine wp_ret ?_
  refine HY (rs := [.tmp 2]) (vs := [clo 218 [jP g0]]) F3 (by rfl) ⟨_, _, rfl, RV.tmp rfl, rfl⟩ ⟨_, rfl, ⟨g0, rfl, s1⟩⟩
set_option maxHeartbeats 4000000 in
theorem YK {w : World} {r : (List (Db A8))} (H : step_table = some r) :
    Calls prog 185 #[] w (B8 fun u_ w_ => ∃ vs : List Value, u_ = .agg ⟨vs⟩ ∧ vs.length = 34 ∧ SL w [] w_ [] ∧ ∀ (k : Nat) (t : Db A8), r[k]? = some t → ∃ tv, vs[k]? = some tv ∧ SL w [] w_ [PN AS AE tv t]) := by
 have s0 : SL w [] w [] := SL.BF w
 refine Cb func185 ntmps185 2 rfl rfl rfl fun _ F0 => ?_
 unfold step_table at H
 refine Ag F0 s0 Va rfl rfl fun g9 w0 _ F s1 => ?_
 have s2 : SL w [] _ [AB g9 249 (List.replicate 34 .nilFunc)] := s1
 refine gw 1 F rfl fun _ F => ?_
 have F := F.sub (m' := [(0, jP g9)]) ⟨rfl, trivial⟩
 clear F
 obtain ⟨x0, h0, H⟩ := Aa H
 refine ge 3 F rfl fun _ F => BW F s2 (J7 h0) 0 rfl rfl rfl rfl fun w1 _ F s3 => ?_
 obtain ⟨x1, h1, H⟩ := Aa H
 refine BW F s3 (J7 h1) 0 rfl rfl rfl rfl fun w2 _ F s4 => ?_
 obtain ⟨x2, h2, H⟩ := Aa H
 refine BW F s4 (J7 h2) 0 rfl rfl rfl rfl fun w3 _ F s5 => Ag F s5 D6 rfl rfl fun g0 w4 _ F s6 => Ag F s6 D6 rfl rfl fun g1 w5 _ F s7 => Ag F s7 D6 rfl rfl fun g2 w6 _ F s8 => Ah F s8.f2 rfl rfl Qt (Ab rfl (Ab rfl Al)) (Ac rfl) fun w7 _ F s9 => ?_
 replace s9 : SL w [] w7 [AB g0 253 [jI x0.kind, jU (x0.t.toNat : Int)], AB g2 253 [jI 0, jU 0], AB g1 253 [jI 0, jU 0], AB g9 249 (List.replicate 34 .nilFunc)] := s9
 refine Ah F s9.f2 rfl rfl Qt (Ab rfl (Ab rfl Al)) (Ac rfl) fun w8 _ F sa => ?_
 replace sa : SL w [] w8 [AB g1 253 [jI x1.kind, jU (x1.t.toNat : Int)], AB g0 253 [jI x0.kind, jU (x0.t.toNat : Int)], AB g2 253 [jI 0, jU 0], AB g9 249 (List.replicate 34 .nilFunc)] := sa
 refine Ah F sa.f2 rfl rfl Qt (Ab rfl (Ab rfl Al)) (Ac rfl) fun w9 _ F sc => ?_
 replace sc : SL w [] w9 [AB g2 253 [jI x2.kind, jU (x2.t.toNat : Int)], AB g1 253 [jI x1.kind, jU (x1.t.toNat : Int)], AB g0 253 [jI x0.kind, jU (x0.t.toNat : Int)], AB g9 249 (List.replicate 34 .nilFunc)] := sc
 refine gw 1 F rfl fun _ F => ?_
 have F := F.sub (m' := [(0, jP g9), (1, jP g0), (2, jP g1), (3, jP g2)]) ⟨rfl, rfl, rfl, rfl, trivial⟩
 clear F
 refine ge 3 F rfl fun _ F => AV F sc m2 0 rfl fun _ F => AV F sc m2 0 rfl fun _ F => ?_
 refine Ad (parts := [(0, .tmp 14), (1, .tmp 15)]) BE ([(⟨x0.kind, x0.t⟩ : A8), (⟨x0.kind, x0.t⟩ : A8)] : List A8) F sc Cl rfl (by decide) rfl rfl rfl (by simp [Value.cells]) rfl rfl rfl fun v0 wa _ F sd => ?_
 refine gw 2 F rfl fun _ F => ?_
 have F := F.sub (m' := [(0, jP g9), (1, jP g0), (2, jP g1), (3, jP g2), (4, v0)]) ⟨rfl, rfl, rfl, rfl, rfl, trivial⟩
 clear F
 refine ge 3 F rfl fun _ F => Ai (args := [.const (.slice none 0 0)]) F C3 rfl (BB rfl) rfl fun v1 wb _ h3 F => ?_
 obtain ⟨g3, rfl, h4⟩ := h3
 have se := sd.add h4
 refine Ag F se Abh rfl rfl fun g4 wc _ F sf => Au F sf rfl rfl Aeo rfl rfl rfl fun wd _ F sg => ?_
 replace sg : SL w [] wd [AB g4 142 [clo 214 [jP g3]], AB g3 47 [.slice none 0 0], Sl AE v0 ([(⟨x0.kind, x0.t⟩ : A8), (⟨x0.kind, x0.t⟩ : A8)] : List A8), AB g2 253 [jI x2.kind, jU (x2.t.toNat : Int)], AB g1 253 [jI x1.kind, jU (x1.t.toNat : Int)], AB g0 253 [jI x0.kind, jU (x0.t.toNat : Int)], AB g9 249 (List.replicate 34 .nilFunc)] := sg
 refine gw 1 F rfl fun _ F => ?_
 have F := F.sub (m' := [(0, jP g9), (1, jP g0), (2, jP g1), (3, jP g2), (4, v0), (5, jP g4)]) ⟨rfl, rfl, rfl, rfl, rfl, rfl, trivial⟩
 clear F
 refine ge 3 F rfl fun _ F => Ag F sg Va rfl rfl fun g5 we _ F sh => ?_
 have si : SL w [] _ [AB g5 249 (List.replicate 34 .nilFunc), AB g4 142 [clo 214 [jP g3]], AB g3 47 [.slice none 0 0], Sl AE v0 ([(⟨x0.kind, x0.t⟩ : A8), (⟨x0.kind, x0.t⟩ : A8)] : List A8), AB g2 253 [jI x2.kind, jU (x2.t.toNat : Int)], AB g1 253 [jI x1.kind, jU (x1.t.toNat : Int)], AB g0 253 [jI x0.kind, jU (x0.t.toNat : Int)], AB g9 249 (List.replicate 34 .nilFunc)] := sh
 obtain ⟨v2, sj⟩ := SL.Agt (n := AS) (T := AE) (K := 34) si
 refine gw 1 F rfl fun _ F => ?_
 have F := F.sub (m' := [(0, jP g9), (1, jP g0), (2, jP g1), (3, jP g2), (4, v0), (5, jP g4), (6, jP g5)]) ⟨rfl, rfl, rfl, rfl, rfl, rfl, rfl, trivial⟩
 clear F
 refine ge 4 F rfl fun _ F => ?_
 refine UL (parts := [(0, .const (jU 0)), (1, .const (jU 19)), (2, .const (jU 32))]) (vs := [jU 0, jU 19, jU 32]) F sj ET rfl (by decide) rfl rfl rfl (QN (HI rfl (HI rfl (HI rfl UT)))) rfl fun g6 wf _ F sk => ?_
 refine gx F (Ak rfl underlying42 ⟨_, _, rfl⟩) 2 rfl rfl fun _ F => ?_
 have F := F.sub (m' := [(0, jP g9), (1, jP g0), (2, jP g1), (3, jP g2), (4, v0), (5, jP g4), (6, jP g5), (18, .slice (some ⟨g6, 0, none⟩) 3 3), (19, jI ((3 : Nat) : Int)), (20, jI 0)]) ⟨rfl, rfl, rfl, rfl, rfl, rfl, rfl, rfl, rfl, rfl, trivial⟩
 clear F
 refine ge 2 F rfl fun _ F => rdk 3 <| gc 4 F rfl fun _ F => ?_
 have F := F.sub (m' := [(0, jP g9), (1, jP g0), (2, jP g1), (3, jP g2), (4, v0), (5, jP g4), (6, jP g5), (18, .slice (some ⟨g6, 0, none⟩) 3 3), (19, jI ((3 : Nat) : Int)), (20, jI 0), (21, .bool true)]) ⟨rfl, rfl, rfl, rfl, rfl, rfl, rfl, rfl, rfl, rfl, rfl, trivial⟩
 clear F
 refine ge 9 F rfl fun _ F => ?_
 refine gx F (K2 ET rfl rfl (by decide)) 0 rfl rfl fun _ F => ?_
 refine AV F sk m0 2 rfl fun _ F => ?_
 have F := F.sub (m' := [(0, jP g9), (1, jP g0), (2, jP g1), (3, jP g2), (4, v0), (5, jP g4), (6, jP g5), (8, jU 0), (18, .slice (some ⟨g6, 0, none⟩) 3 3), (19, jI ((3 : Nat) : Int)), (20, jI 0)]) ⟨rfl, rfl, rfl, rfl, rfl, rfl, rfl, rfl, rfl, rfl, rfl, trivial⟩
 clear F
 refine ge 3 F rfl fun _ F => AV F sk m3 0 rfl fun _ F => Ai (args := [.const (.slice none 0 0), .tmp 25]) F CB rfl (BN rfl rfl) rfl fun v3 wg _ h5 F => ?_
 obtain ⟨g7, g8, rfl, h6⟩ := h5
 have sl := sk.add h6
 refine gx F (C0 (i := 0) Cd rfl rfl (by decide)) 0 rfl rfl fun _ F => ?_
 have sm := SL.YQ (qs := [AB g3 47 [.slice none 0 0]]) sl.f4.f6
 refine BX (nn := AS) (T := AE) (qs := [AB g7 224 [.slice none 0 0], AB g8 142 [clo 214 [jP g3]]]) (q1 := [AB g3 47 [.slice none 0 0]]) (t := .fixed [] (.const [])) F sm.f4.f2.f3 rfl rfl Cg rfl rfl rfl (.inr m0) (fun _ _ h => SL.CE (n := AS) rfl (SL.Ca (T := AE) (SL.Cq (c := 214) (d := 203) (s := 204) (t := 47) rfl (SL.Ca (T := Ty.u8) h).f3).f2).f3) fun v4 wh _ F sn => gw 1 F rfl fun _ F => ?_
 have F := F.sub (m' := [(0, jP g9), (1, jP g0), (2, jP g1), (3, jP g2), (4, v0), (5, jP g4), (6, jP g5), (18, .slice (some ⟨g6, 0, none⟩) 3 3), (19, jI ((3 : Nat) : Int)), (20, jI 0)]) ⟨rfl, rfl, rfl, rfl, rfl, rfl, rfl, rfl, rfl, rfl, trivial⟩
 clear F
 refine ge 6 F rfl fun _ F => ?_
 have F := F.sub (m' := [(0, jP g9), (1, jP g0), (2, jP g1), (3, jP g2), (4, v0), (5, jP g4), (6, jP g5), (18, .slice (some ⟨g6, 0, none⟩) 3 3), (19, jI ((3 : Nat) : Int)), (20, jI 1)]) ⟨rfl, rfl, rfl, rfl, rfl, rfl, rfl, rfl, rfl, rfl, trivial⟩
 clear F
 refine ge 6 F rfl fun _ F => ?_
 have F := F.sub (m' := [(0, jP g9), (1, jP g0), (2, jP g1), (3, jP g2), (4, v0), (5, jP g4), (6, jP g5), (18, .slice (some ⟨g6, 0, none⟩) 3 3), (19, jI ((3 : Nat) : Int)), (20, jI 1), (21, .bool true)]) ⟨rfl, rfl, rfl, rfl, rfl, rfl, rfl, rfl, rfl, rfl, rfl, trivial⟩
 clear F
 refine ge 9 F rfl fun _ F => ?_
 refine gx F (K2 ET rfl rfl (by decide)) 0 rfl rfl fun _ F => ?_
 refine AV F sn m2 2 rfl fun _ F => ?_
 have F := F.sub (m' := [(0, jP g9), (1, jP g0), (2, jP g1), (3, jP g2), (4, v0), (5, jP g4), (6, jP g5), (8, jU 19), (18, .slice (some ⟨g6, 0, none⟩) 3 3), (19, jI ((3 : Nat) : Int)), (20, jI 1)]) ⟨rfl, rfl, rfl, rfl, rfl, rfl, rfl, rfl, rfl, rfl, rfl, trivial⟩
 clear F
 refine ge 3 F rfl fun _ F => AV F sn m3 0 rfl fun _ F => Ai (args := [.const (.slice none 0 0), .tmp 25]) F CB rfl (BN rfl rfl) rfl fun v5 wi _ h7 F => ?_
 obtain ⟨ga, gb, rfl, h8⟩ := h7
 have so := sn.add h8
 refine gx F (C0 (i := 19) Cd rfl rfl (by decide)) 0 rfl rfl fun _ F => ?_
 refine BX (nn := AS) (T := AE) (qs := [AB ga 224 [.slice none 0 0], AB gb 142 [clo 214 [jP g3]]]) (q1 := [AB g3 47 [.slice none 0 0]]) (t := .fixed [] (.const [])) F so.f3.f3.f2.f3 rfl rfl Cg rfl rfl rfl (.inr m0) (fun _ _ h => SL.CE (n := AS) rfl (SL.Ca (T := AE) (SL.Cq (c := 214) (d := 203) (s := 204) (t := 47) rfl (SL.Ca (T := Ty.u8) h).f3).f2).f3) fun v6 wj _ F sp => gw 1 F rfl fun _ F => ?_
 have F := F.sub (m' := [(0, jP g9), (1, jP g0), (2, jP g1), (3, jP g2), (4, v0), (5, jP g4), (6, jP g5), (18, .slice (some ⟨g6, 0, none⟩) 3 3), (19, jI ((3 : Nat) : Int)), (20, jI 1)]) ⟨rfl, rfl, rfl, rfl, rfl, rfl, rfl, rfl, rfl, rfl, trivial⟩
 clear F
 refine ge 6 F rfl fun _ F => ?_
 have F := F.sub (m' := [(0, jP g9), (1, jP g0), (2, jP g1), (3, jP g2), (4, v0), (5, jP g4), (6, jP g5), (18, .slice (some ⟨g6, 0, none⟩) 3 3), (19, jI ((3 : Nat) : Int)), (20, jI 2)]) ⟨rfl, rfl, rfl, rfl, rfl, rfl, rfl, rfl, rfl, rfl, trivial⟩
 clear F
 refine ge 6 F rfl fun _ F => ?_
 have F := F.sub (m' := [(0, jP g9), (1, jP g0), (2, jP g1), (3, jP g2), (4, v0), (5, jP g4), (6, jP g5), (18, .slice (some ⟨g6, 0, none⟩) 3 3), (19, jI ((3 : Nat) : Int)), (20, jI 2), (21, .bool true)]) ⟨rfl, rfl, rfl, rfl, rfl, rfl, rfl, rfl, rfl, rfl, rfl, trivial⟩
 clear F
 refine ge 9 F rfl fun _ F => ?_
 refine gx F (K2 ET rfl rfl (by decide)) 0 rfl rfl fun _ F => ?_
 refine AV F sp m2 2 rfl fun _ F => ?_
 have F := F.sub (m' := [(0, jP g9), (1, jP g0), (2, jP g1), (3, jP g2), (4, v0), (5, jP g4), (6, jP g5), (8, jU 32), (18, .slice (some ⟨g6, 0, none⟩) 3 3), (19, jI ((3 : Nat) : Int)), (20, jI 2)]) ⟨rfl, rfl, rfl, rfl, rfl, rfl, rfl, rfl, rfl, rfl, rfl, trivial⟩
 clear F
 refine ge 3 F rfl fun _ F => AV F sp m3 0 rfl fun _ F => Ai (args := [.const (.slice none 0 0), .tmp 25]) F CB rfl (BN rfl rfl) rfl fun v7 wk _ h9 F => ?_
 obtain ⟨gd, gf, rfl, ha⟩ := h9
 have sq := sp.add ha
 refine gx F (C0 (i := 32) Cd rfl rfl (by decide)) 0 rfl rfl fun _ F => ?_
 refine BX (nn := AS) (T := AE) (qs := [AB gd 224 [.slice none 0 0], AB gf 142 [clo 214 [jP g3]]]) (q1 := [AB g3 47 [.slice none 0 0]]) (t := .fixed [] (.const [])) F sq.f3.f3.f2.f3 rfl rfl Cg rfl rfl rfl (.inr m0) (fun _ _ h => SL.CE (n := AS) rfl (SL.Ca (T := AE) (SL.Cq (c := 214) (d := 203) (s := 204) (t := 47) rfl (SL.Ca (T := Ty.u8) h).f3).f2).f3) fun v8 wl _ F sr => gw 1 F rfl fun _ F => ?_
 have F := F.sub (m' := [(0, jP g9), (1, jP g0), (2, jP g1), (3, jP g2), (4, v0), (5, jP g4), (6, jP g5), (18, .slice (some ⟨g6, 0, none⟩) 3 3), (19, jI ((3 : Nat) : Int)), (20, jI 2)]) ⟨rfl, rfl, rfl, rfl, rfl, rfl, rfl, rfl, rfl, rfl, trivial⟩
 clear F
 refine ge 6 F rfl fun _ F => ?_
 have F := F.sub (m' := [(0, jP g9), (1, jP g0), (2, jP g1), (3, jP g2), (4, v0), (5, jP g4), (6, jP g5), (18, .slice (some ⟨g6, 0, none⟩) 3 3), (19, jI ((3 : Nat) : Int)), (20, jI 3)]) ⟨rfl, rfl, rfl, rfl, rfl, rfl, rfl, rfl, rfl, rfl, trivial⟩
 clear F
 refine ge 6 F rfl fun _ F => ?_
 have F := F.sub (m' := [(0, jP g9), (1, jP g0), (2, jP g1), (3, jP g2), (4, v0), (5, jP g4), (6, jP g5), (18, .slice (some ⟨g6, 0, none⟩) 3 3), (19, jI ((3 : Nat) : Int)), (20, jI 3), (21, .bool false)]) ⟨rfl, rfl, rfl, rfl, rfl, rfl, rfl, rfl, rfl, rfl, rfl, trivial⟩
 clear F
 refine ge 10 F rfl fun _ F => ?_
 refine Ad (parts := [(0, .const (jU 1))]) Flat.u8 ([(1 : UInt8)] : List UInt8) F sr BU rfl (by decide) rfl rfl rfl (by simp [Value.cells]) rfl rfl rfl fun v9 wm _ F ss => ?_
 refine Ai (args := [.tmp 29]) F C3 rfl (BB (Ae (fO ss m0))) rfl fun va wn _ hb F => ?_
 obtain ⟨gg, rfl, hc⟩ := hb
 have st := ss.add hc
 refine Ai (args := [.const (.slice none 0 0), .tmp 30]) F CB rfl (BN rfl rfl) rfl fun vb wo _ hd F => ?_
 obtain ⟨gh, gi, rfl, he⟩ := hd
 have su := st.add he
 refine gx F (C0 (i := 1) Cd rfl rfl (by decide)) 0 rfl rfl fun _ F => ?_
 refine BX (nn := AS) (T := AE) (qs := [AB gh 224 [.slice none 0 0], AB gi 142 [clo 214 [jP gg]], AB gg 47 [v9], Sl Ty.u8 v9 ([(1 : UInt8)] : List UInt8)]) (q1 := []) (t := .fixed [] (.const ([(1 : UInt8)] : List UInt8))) F su.f5.f5.f5.f5.f4.f5 rfl rfl Cg rfl rfl rfl (.inl rfl) (fun _ _ h => SL.CE (n := AS) rfl (SL.Ca (T := AE) (SL.Cq (c := 214) (d := 203) (s := 204) (t := 47) rfl h.f3.f3).f2).f3) fun vc wp _ F sv => gw 1 F rfl fun _ F => ?_
 have F := F.sub (m' := [(0, jP g9), (1, jP g0), (2, jP g1), (3, jP g2), (4, v0), (5, jP g4), (6, jP g5)]) ⟨rfl, rfl, rfl, rfl, rfl, rfl, rfl, trivial⟩
 clear F
 refine ge 3 F rfl fun _ F => ?_
 refine Ad (parts := [(0, .const (jU 2))]) Flat.u8 ([(2 : UInt8)] : List UInt8) F sv.f2.drop BU rfl (by decide) rfl rfl rfl (by simp [Value.cells]) rfl rfl rfl fun vd wq _ F sw => ?_
 refine Ai (args := [.tmp 33]) F C3 rfl (BB (Ae (fO sw m0))) rfl fun ve wr _ hf F => ?_
 obtain ⟨gj, rfl, hg⟩ := hf
 have sx := sw.add hg
 refine Ai (args := [.const (.slice none 0 0), .tmp 34]) F CB rfl (BN rfl rfl) rfl fun vf ws _ hh F => ?_
 obtain ⟨gk, gl, rfl, hi⟩ := hh
 have sy := sx.add hi
 refine gx F (C0 (i := 2) Cd rfl rfl (by decide)) 0 rfl rfl fun _ F => ?_
 refine BX (nn := AS) (T := AE) (qs := [AB gk 224 [.slice none 0 0], AB gl 142 [clo 214 [jP gj]], AB gj 47 [vd], Sl Ty.u8 vd ([(2 : UInt8)] : List UInt8)]) (q1 := []) (t := .fixed [] (.const ([(2 : UInt8)] : List UInt8))) F sy.f5.f5.f5.f5.f4.f5 rfl rfl Cg rfl rfl rfl (.inl rfl) (fun _ _ h => SL.CE (n := AS) rfl (SL.Ca (T := AE) (SL.Cq (c := 214) (d := 203) (s := 204) (t := 47) rfl h.f3.f3).f2).f3) fun vg wt _ F sz => gw 1 F rfl fun _ F => ?_
 have F := F.sub (m' := [(0, jP g9), (1, jP g0), (2, jP g1), (3, jP g2), (4, v0), (5, jP g4), (6, jP g5)]) ⟨rfl, rfl, rfl, rfl, rfl, rfl, rfl, trivial⟩
 clear F
 refine ge 3 F rfl fun _ F => ?_
 refine Ad (parts := [(0, .const (jU 3))]) Flat.u8 ([(3 : UInt8)] : List UInt8) F sz BU rfl (by decide) rfl rfl rfl (by simp [Value.cells]) rfl rfl rfl fun vh wu _ F s10 => ?_
 refine Ai (args := [.tmp 37]) F C3 rfl (BB (Ae (fO s10 m0))) rfl fun vi wv _ hj F => ?_
 obtain ⟨gm, rfl, hk⟩ := hj
 have s11 := s10.add hk
 refine Ai (args := [.const (.slice none 0 0), .tmp 38]) F CB rfl (BN rfl rfl) rfl fun vj ww _ hl F => ?_
 obtain ⟨gn, go, rfl, hm⟩ := hl
 have s12 := s11.add hm
 refine gx F (C0 (i := 3) Cd rfl rfl (by decide)) 0 rfl rfl fun _ F => ?_
 refine BX (nn := AS) (T := AE) (qs := [AB gn 224 [.slice none 0 0], AB go 142 [clo 214 [jP gm]], AB gm 47 [vh], Sl Ty.u8 vh ([(3 : UInt8)] : List UInt8)]) (q1 := []) (t := .fixed [] (.const ([(3 : UInt8)] : List UInt8))) F s12.f5.f5.f5.f5.f4.f5 rfl rfl Cg rfl rfl rfl (.inl rfl) (fun _ _ h => SL.CE (n := AS) rfl (SL.Ca (T := AE) (SL.Cq (c := 214) (d := 203) (s := 204) (t := 47) rfl h.f3.f3).f2).f3) fun vk wx _ F s14 => gw 1 F rfl fun _ F => ?_
 have F := F.sub (m' := [(0, jP g9), (1, jP g0), (2, jP g1), (3, jP g2), (4, v0), (5, jP g4), (6, jP g5)]) ⟨rfl, rfl, rfl, rfl, rfl, rfl, rfl, trivial⟩
 clear F
 refine ge 3 F rfl fun _ F => ?_
 refine Ad (parts := [(0, .const (jU 0))]) Flat.u8 ([(0 : UInt8)] : List UInt8) F s14 BU rfl (by decide) rfl rfl rfl (by simp [Value.cells]) rfl rfl rfl fun vl wy _ F s16 => ?_
 refine Ai (args := [.tmp 41]) F C3 rfl (BB (Ae (fO s16 m0))) rfl fun vm wz _ hn F => ?_
 obtain ⟨gp, rfl, hp⟩ := hn
 have s17 := s16.add hp
 refine Ai (args := [.const (.slice none 0 0), .tmp 42]) F CB rfl (BN rfl rfl) rfl fun vn w11 _ hr F => ?_
 obtain ⟨gq, gr, rfl, hs⟩ := hr
 have s18 := s17.add hs
 refine gx F (C0 (i := 4) Cd rfl rfl (by decide)) 0 rfl rfl fun _ F => ?_
 refine BX (nn := AS) (T := AE) (qs := [AB gq 224 [.slice none 0 0], AB gr 142 [clo 214 [jP gp]], AB gp 47 [vl], Sl Ty.u8 vl ([(0 : UInt8)] : List UInt8)]) (q1 := []) (t := .fixed [] (.const ([(0 : UInt8)] : List UInt8))) F s18.f5.f5.f5.f5.f4.f5 rfl rfl Cg rfl rfl rfl (.inl rfl) (fun _ _ h => SL.CE (n := AS) rfl (SL.Ca (T := AE) (SL.Cq (c := 214) (d := 203) (s := 204) (t := 47) rfl h.f3.f3).f2).f3) fun vo w12 _ F s19 => gw 1 F rfl fun _ F => ?_
 have F := F.sub (m' := [(0, jP g9), (1, jP g0), (2, jP g1), (3, jP g2), (4, v0), (5, jP g4), (6, jP g5)]) ⟨rfl, rfl, rfl, rfl, rfl, rfl, rfl, trivial⟩
 clear F
 refine ge 3 F rfl fun _ F => gx F (Af (vs := [jI 1]) D6 Hj rfl (cs := [jI 1, jU 0]) (rfl)) 0 rfl rfl fun _ F => ?_
 refine Ad (parts := [(0, .tmp 45)]) BE ([(⟨1, 0⟩ : A8)] : List A8) F s19 Cl rfl (by decide) rfl rfl rfl (by simp [Value.cells]) rfl rfl rfl fun vp w13 _ F s1a => ?_
 refine AV F s1a m3 0 rfl fun _ F => Ai (args := [.tmp 46, .tmp 47]) F CB rfl (BN (Ae (fO s1a m0)) rfl) rfl fun vq w14 _ hv F => ?_
 obtain ⟨gs, gt, rfl, hw⟩ := hv
 have s1b := s1a.add hw
 refine gx F (C0 (i := 5) Cd rfl rfl (by decide)) 0 rfl rfl fun _ F => ?_
 refine BX (nn := AS) (T := AE) (qs := [AB gs 224 [vp], Sl AE vp ([(⟨1, 0⟩ : A8)] : List A8), AB gt 142 [clo 214 [jP g3]]]) (q1 := [AB g3 47 [.slice none 0 0]]) (t := .fixed ([(⟨1, 0⟩ : A8)] : List A8) (.const [])) F s1b.f4.f4.f2.f4.f4 rfl rfl Cg rfl rfl rfl (.inr m0) (fun _ _ h => SL.CE (n := AS) rfl (SL.Cq (c := 214) (d := 203) (s := 204) (t := 47) rfl (SL.Ca (T := Ty.u8) h).f4).f3.f3.f3) fun vr w15 _ F s1c => gw 1 F rfl fun _ F => ?_
 have F := F.sub (m' := [(0, jP g9), (1, jP g0), (2, jP g1), (3, jP g2), (4, v0), (5, jP g4), (6, jP g5)]) ⟨rfl, rfl, rfl, rfl, rfl, rfl, rfl, trivial⟩
 clear F
 refine ge 3 F rfl fun _ F => gx F (Af (vs := [jI 0]) D6 Hj rfl (cs := [jI 0, jU 0]) (rfl)) 0 rfl rfl fun _ F => ?_
 refine Ad (parts := [(0, .tmp 50)]) BE ([(⟨0, 0⟩ : A8)] : List A8) F s1c Cl rfl (by decide) rfl rfl rfl (by simp [Value.cells]) rfl rfl rfl fun vt w16 _ F s1d => ?_
 refine AV F s1d m3 0 rfl fun _ F => Ai (args := [.tmp 51, .tmp 52]) F CB rfl (BN (Ae (fO s1d m0)) rfl) rfl fun vu w17 _ hx F => ?_
 obtain ⟨gu, gv, rfl, hy⟩ := hx
 have s1e := s1d.add hy
 refine gx F (C0 (i := 6) Cd rfl rfl (by decide)) 0 rfl rfl fun _ F => ?_
 refine BX (nn := AS) (T := AE) (qs := [AB gu 224 [vt], Sl AE vt ([(⟨0, 0⟩ : A8)] : List A8), AB gv 142 [clo 214 [jP g3]]]) (q1 := [AB g3 47 [.slice none 0 0]]) (t := .fixed ([(⟨0, 0⟩ : A8)] : List A8) (.const [])) F s1e.f4.f4.f2.f4.f4 rfl rfl Cg rfl rfl rfl (.inr m0) (fun _ _ h => SL.CE (n := AS) rfl (SL.Cq (c := 214) (d := 203) (s := 204) (t := 47) rfl (SL.Ca (T := Ty.u8) h).f4).f3.f3.f3) fun vv w18 _ F s1f => gw 1 F rfl fun _ F => ?_
 have F := F.sub (m' := [(0, jP g9), (1, jP g0), (2, jP g1), (3, jP g2), (4, v0), (5, jP g4), (6, jP g5)]) ⟨rfl, rfl, rfl, rfl, rfl, rfl, rfl, trivial⟩
 clear F
 refine ge 3 F rfl fun _ F => gx F (Af (vs := [jI 0]) D6 Hj rfl (cs := [jI 0, jU 0]) (rfl)) 0 rfl rfl fun _ F => ?_
 refine Ad (parts := [(0, .tmp 55)]) BE ([(⟨0, 0⟩ : A8)] : List A8) F s1f Cl rfl (by decide) rfl rfl rfl (by simp [Value.cells]) rfl rfl rfl fun vw w19 _ F s1g => ?_
 refine Ai (args := [.tmp 56, .func 203]) F CB rfl (BN (Ae (fO s1g m0)) rfl) rfl fun vx w1a _ hz F => ?_
 obtain ⟨gy, gz, rfl, h10⟩ := hz
 have s1h := s1g.add h10
 refine gx F (C0 (i := 7) Cd rfl rfl (by decide)) 0 rfl rfl fun _ F => ?_
 refine BX (nn := AS) (T := AE) (qs := [AB gy 224 [vw], Sl AE vw ([(⟨0, 0⟩ : A8)] : List A8), AB gz 142 [clo 203 []]]) (q1 := []) (t := .fixed ([(⟨0, 0⟩ : A8)] : List A8) (.dup)) F s1h.f4.f4.f2.f4.f4 rfl rfl Cg rfl rfl rfl (.inl rfl) (fun _ _ h => SL.CE (n := AS) rfl (SL.Akl (c := 214) (d := 203) (s := 204) (t := 47) h).f3.f3.f3) fun vy w1b _ F s1i => gw 1 F rfl fun _ F => ?_
 have F := F.sub (m' := [(0, jP g9), (1, jP g0), (2, jP g1), (3, jP g2), (4, v0), (5, jP g4), (6, jP g5)]) ⟨rfl, rfl, rfl, rfl, rfl, rfl, rfl, trivial⟩
 clear F
 refine ge 3 F rfl fun _ F => gx F (Af (vs := [jI 0]) D6 Hj rfl (cs := [jI 0, jU 0]) (rfl)) 0 rfl rfl fun _ F => gx F (Af (vs := [jI 0]) D6 Hj rfl (cs := [jI 0, jU 0]) (rfl)) 0 rfl rfl fun _ F => ?_
 refine Ad (parts := [(0, .tmp 59), (1, .tmp 60)]) BE ([(⟨0, 0⟩ : A8), (⟨0, 0⟩ : A8)] : List A8) F s1i Cl rfl (by decide) rfl rfl rfl (by simp [Value.cells]) rfl rfl rfl fun vz w1c _ F s1j => ?_
 refine Ai (args := [.tmp 61, .func 204]) F CB rfl (BN (Ae (fO s1j m0)) rfl) rfl fun v10 w1d _ h11 F => ?_
 obtain ⟨g10, g11, rfl, h12⟩ := h11
 have s1k := s1j.add h12
 refine gx F (C0 (i := 8) Cd rfl rfl (by decide)) 0 rfl rfl fun _ F => ?_
 refine BX (nn := AS) (T := AE) (qs := [AB g10 224 [vz], Sl AE vz ([(⟨0, 0⟩ : A8), (⟨0, 0⟩ : A8)] : List A8), AB g11 142 [clo 204 []]]) (q1 := []) (t := .fixed ([(⟨0, 0⟩ : A8), (⟨0, 0⟩ : A8)] : List A8) (.swap)) F s1k.f4.f4.f2.f4.f4 rfl rfl Cg rfl rfl rfl (.inl rfl) (fun _ _ h => SL.CE (n := AS) rfl (SL.Ai8 (c := 214) (d := 203) (s := 204) (t := 47) h).f3.f3.f3) fun v11 w1e _ F s1l => gw 1 F rfl fun _ F => ?_
 have F := F.sub (m' := [(0, jP g9), (1, jP g0), (2, jP g1), (3, jP g2), (4, v0), (5, jP g4), (6, jP g5)]) ⟨rfl, rfl, rfl, rfl, rfl, rfl, rfl, trivial⟩
 clear F
 refine ge 4 F rfl fun _ F => ?_
 refine UL (parts := [(0, .const (jU 9)), (1, .const (jU 10)), (2, .const (jU 11)), (3, .const (jU 12)), (4, .const (jU 13))]) (vs := [jU 9, jU 10, jU 11, jU 12, jU 13]) F s1l ET rfl (by decide) rfl rfl rfl (QN (HI rfl (HI rfl (HI rfl (HI rfl (HI rfl UT)))))) rfl fun g12 w1f _ F s1m => ?_
 refine gx F (Ak rfl underlying42 ⟨_, _, rfl⟩) 2 rfl rfl fun _ F => ?_
 have F := F.sub (m' := [(0, jP g9), (1, jP g0), (2, jP g1), (3, jP g2), (4, v0), (5, jP g4), (6, jP g5), (64, .slice (some ⟨g12, 0, none⟩) 5 5), (65, jI ((5 : Nat) : Int)), (66, jI 0)]) ⟨rfl, rfl, rfl, rfl, rfl, rfl, rfl, rfl, rfl, rfl, trivial⟩
 clear F
 refine ge 2 F rfl fun _ F => rdk 5 <| gc 4 F rfl fun _ F => ?_
 have F := F.sub (m' := [(0, jP g9), (1, jP g0), (2, jP g1), (3, jP g2), (4, v0), (5, jP g4), (6, jP g5), (64, .slice (some ⟨g12, 0, none⟩) 5 5), (65, jI ((5 : Nat) : Int)), (66, jI 0), (67, .bool true)]) ⟨rfl, rfl, rfl, rfl, rfl, rfl, rfl, rfl, rfl, rfl, rfl, trivial⟩
 clear F
 refine ge 9 F rfl fun _ F => ?_
 refine gx F (K2 ET rfl rfl (by decide)) 0 rfl rfl fun _ F => ?_
 refine AV F s1m m0 2 rfl fun _ F => ?_
 have F := F.sub (m' := [(0, jP g9), (1, jP g0), (2, jP g1), (3, jP g2), (4, v0), (5, jP g4), (6, jP g5), (10, jU 9), (64, .slice (some ⟨g12, 0, none⟩) 5 5), (65, jI ((5 : Nat) : Int)), (66, jI 0)]) ⟨rfl, rfl, rfl, rfl, rfl, rfl, rfl, rfl, rfl, rfl, rfl, trivial⟩
 clear F
 refine ge 4 F rfl fun _ F => ?_
 refine Ad (parts := [(0, .const (jU 1))]) Flat.u8 ([(1 : UInt8)] : List UInt8) F s1m BU rfl (by decide) rfl rfl rfl (by simp [Value.cells]) rfl rfl rfl fun v12 w1g _ F s1n => ?_
 refine Ai (args := [.tmp 72]) F C3 rfl (BB (Ae (fO s1n m0))) rfl fun v13 w1h _ h13 F => ?_
 obtain ⟨g13, rfl, h14⟩ := h13
 have s1o := s1n.add h14
 refine Ai (args := [.tmp 71, .tmp 73]) F CB rfl (BN (Ae (fO s1o m6)) rfl) rfl fun v14 w1i _ h15 F => ?_
 obtain ⟨g14, g15, rfl, h16⟩ := h15
 have s1p := s1o.add h16
 refine gx F (C0 (i := 9) Cd rfl rfl (by decide)) 0 rfl rfl fun _ F => ?_
 have h17 := H7 (s1p.BO m8)
 have s1q := SL.YQ (qs := [Sl AE v0 ([(⟨x0.kind, x0.t⟩ : A8), (⟨x0.kind, x0.t⟩ : A8)] : List A8)]) s1p.f6.f8
 refine BX (nn := AS) (T := AE) (qs := [AB g14 224 [v0], AB g15 142 [clo 214 [jP g13]], AB g13 47 [v12], Sl Ty.u8 v12 ([(1 : UInt8)] : List UInt8)]) (q1 := [Sl AE v0 ([(⟨x0.kind, x0.t⟩ : A8), (⟨x0.kind, x0.t⟩ : A8)] : List A8)]) (t := .fixed ([(⟨x0.kind, x0.t⟩ : A8), (⟨x0.kind, x0.t⟩ : A8)] : List A8) (.const ([(1 : UInt8)] : List UInt8))) F s1q.f6.f5.f5.f4.f5 rfl rfl Cg rfl rfl rfl (.inr m0) (fun _ _ h => SL.CE (n := AS) rfl (SL.Cq (c := 214) (d := 203) (s := 204) (t := 47) rfl h.f3.f3).f2.f3.f3) fun v15 w1j _ F s1r => gw 1 F rfl fun _ F => ?_
 have F := F.sub (m' := [(0, jP g9), (1, jP g0), (2, jP g1), (3, jP g2), (4, v0), (5, jP g4), (6, jP g5), (64, .slice (some ⟨g12, 0, none⟩) 5 5), (65, jI ((5 : Nat) : Int)), (66, jI 0)]) ⟨rfl, rfl, rfl, rfl, rfl, rfl, rfl, rfl, rfl, rfl, trivial⟩
 clear F
 refine ge 6 F rfl fun _ F => ?_
 have F := F.sub (m' := [(0, jP g9), (1, jP g0), (2, jP g1), (3, jP g2), (4, v0), (5, jP g4), (6, jP g5), (64, .slice (some ⟨g12, 0, none⟩) 5 5), (65, jI ((5 : Nat) : Int)), (66, jI 1)]) ⟨rfl, rfl, rfl, rfl, rfl, rfl, rfl, rfl, rfl, rfl, trivial⟩
 clear F
 refine ge 6 F rfl fun _ F => ?_
 have F := F.sub (m' := [(0, jP g9), (1, jP g0), (2, jP g1), (3, jP g2), (4, v0), (5, jP g4), (6, jP g5), (64, .slice (some ⟨g12, 0, none⟩) 5 5), (65, jI ((5 : Nat) : Int)), (66, jI 1), (67, .bool true)]) ⟨rfl, rfl, rfl, rfl, rfl, rfl, rfl, rfl, rfl, rfl, rfl, trivial⟩
 clear F
 refine ge 9 F rfl fun _ F => ?_
 refine gx F (K2 ET rfl rfl (by decide)) 0 rfl rfl fun _ F => ?_
 refine AV F s1r m2 2 rfl fun _ F => ?_
 have F := F.sub (m' := [(0, jP g9), (1, jP g0), (2, jP g1), (3, jP g2), (4, v0), (5, jP g4), (6, jP g5), (10, jU 10), (64, .slice (some ⟨g12, 0, none⟩) 5 5), (65, jI ((5 : Nat) : Int)), (66, jI 1)]) ⟨rfl, rfl, rfl, rfl, rfl, rfl, rfl, rfl, rfl, rfl, rfl, trivial⟩
 clear F
 refine ge 4 F rfl fun _ F => ?_
 refine Ad (parts := [(0, .const (jU 1))]) Flat.u8 ([(1 : UInt8)] : List UInt8) F s1r BU rfl (by decide) rfl rfl rfl (by simp [Value.cells]) rfl rfl rfl fun v16 w1k _ F s1s => ?_
 refine Ai (args := [.tmp 72]) F C3 rfl (BB (Ae (fO s1s m0))) rfl fun v17 w1l _ h18 F => ?_
 obtain ⟨g16, rfl, h19⟩ := h18
 have s1t := s1s.add h19
 refine Ai (args := [.tmp 71, .tmp 73]) F CB rfl (BN (Ae h17) rfl) rfl fun v18 w1m _ h1a F => ?_
 obtain ⟨g17, g18, rfl, h1b⟩ := h1a
 have s1u := s1t.add h1b
 refine gx F (C0 (i := 10) Cd rfl rfl (by decide)) 0 rfl rfl fun _ F => ?_
 refine BX (nn := AS) (T := AE) (qs := [AB g17 224 [v0], AB g18 142 [clo 214 [jP g16]], AB g16 47 [v16], Sl Ty.u8 v16 ([(1 : UInt8)] : List UInt8)]) (q1 := [Sl AE v0 ([(⟨x0.kind, x0.t⟩ : A8), (⟨x0.kind, x0.t⟩ : A8)] : List A8)]) (t := .fixed ([(⟨x0.kind, x0.t⟩ : A8), (⟨x0.kind, x0.t⟩ : A8)] : List A8) (.const ([(1 : UInt8)] : List UInt8))) F s1u.f5.f5.f5.f5.f4.f5 rfl rfl Cg rfl rfl rfl (.inr m0) (fun _ _ h => SL.CE (n := AS) rfl (SL.Cq (c := 214) (d := 203) (s := 204) (t := 47) rfl h.f3.f3).f2.f3.f3) fun v19 w1n _ F s1v => gw 1 F rfl fun _ F => ?_
 have F := F.sub (m' := [(0, jP g9), (1, jP g0), (2, jP g1), (3, jP g2), (4, v0), (5, jP g4), (6, jP g5), (64, .slice (some ⟨g12, 0, none⟩) 5 5), (65, jI ((5 : Nat) : Int)), (66, jI 1)]) ⟨rfl, rfl, rfl, rfl, rfl, rfl, rfl, rfl, rfl, rfl, trivial⟩
 clear F
 refine ge 6 F rfl fun _ F => ?_
 have F := F.sub (m' := [(0, jP g9), (1, jP g0), (2, jP g1), (3, jP g2), (4, v0), (5, jP g4), (6, jP g5), (64, .slice (some ⟨g12, 0, none⟩) 5 5), (65, jI ((5 : Nat) : Int)), (66, jI 2)]) ⟨rfl, rfl, rfl, rfl, rfl, rfl, rfl, rfl, rfl, rfl, trivial⟩
 clear F
 refine ge 6 F rfl fun _ F => ?_
 have F := F.sub (m' := [(0, jP g9), (1, jP g0), (2, jP g1), (3, jP g2), (4, v0), (5, jP g4), (6, jP g5), (64, .slice (some ⟨g12, 0, none⟩) 5 5), (65, jI ((5 : Nat) : Int)), (66, jI 2), (67, .bool true)]) ⟨rfl, rfl, rfl, rfl, rfl, rfl, rfl, rfl, rfl, rfl, rfl, trivial⟩
 clear F
 refine ge 9 F rfl fun _ F => ?_
 refine gx F (K2 ET rfl rfl (by decide)) 0 rfl rfl fun _ F => ?_
 refine AV F s1v m2 2 rfl fun _ F => ?_
 have F := F.sub (m' := [(0, jP g9), (1, jP g0), (2, jP g1), (3, jP g2), (4, v0), (5, jP g4), (6, jP g5), (10, jU 11), (64, .slice (some ⟨g12, 0, none⟩) 5 5), (65, jI ((5 : Nat) : Int)), (66, jI 2)]) ⟨rfl, rfl, rfl, rfl, rfl, rfl, rfl, rfl, rfl, rfl, rfl, trivial⟩
 clear F
 refine ge 4 F rfl fun _ F => ?_
 refine Ad (parts := [(0, .const (jU 1))]) Flat.u8 ([(1 : UInt8)] : List UInt8) F s1v BU rfl (by decide) rfl rfl rfl (by simp [Value.cells]) rfl rfl rfl fun v1a w1o _ F s1w => ?_
 refine Ai (args := [.tmp 72]) F C3 rfl (BB (Ae (fO s1w m0))) rfl fun v1b w1p _ h1c F => ?_
 obtain ⟨g19, rfl, h1d⟩ := h1c
 have s1x := s1w.add h1d
 refine Ai (args := [.tmp 71, .tmp 73]) F CB rfl (BN (Ae h17) rfl) rfl fun v1c w1q _ h1e F => ?_
 obtain ⟨g1a, g1b, rfl, h1f⟩ := h1e
 have s1y := s1x.add h1f
 refine gx F (C0 (i := 11) Cd rfl rfl (by decide)) 0 rfl rfl fun _ F => ?_
 refine BX (nn := AS) (T := AE) (qs := [AB g1a 224 [v0], AB g1b 142 [clo 214 [jP g19]], AB g19 47 [v1a], Sl Ty.u8 v1a ([(1 : UInt8)] : List UInt8)]) (q1 := [Sl AE v0 ([(⟨x0.kind, x0.t⟩ : A8), (⟨x0.kind, x0.t⟩ : A8)] : List A8)]) (t := .fixed ([(⟨x0.kind, x0.t⟩ : A8), (⟨x0.kind, x0.t⟩ : A8)] : List A8) (.const ([(1 : UInt8)] : List UInt8))) F s1y.f5.f5.f5.f5.f4.f5 rfl rfl Cg rfl rfl rfl (.inr m0) (fun _ _ h => SL.CE (n := AS) rfl (SL.Cq (c := 214) (d := 203) (s := 204) (t := 47) rfl h.f3.f3).f2.f3.f3) fun v1d w1r _ F s1z => gw 1 F rfl fun _ F => ?_
 have F := F.sub (m' := [(0, jP g9), (1, jP g0), (2, jP g1), (3, jP g2), (4, v0), (5, jP g4), (6, jP g5), (64, .slice (some ⟨g12, 0, none⟩) 5 5), (65, jI ((5 : Nat) : Int)), (66, jI 2)]) ⟨rfl, rfl, rfl, rfl, rfl, rfl, rfl, rfl, rfl, rfl, trivial⟩
 clear F
 refine ge 6 F rfl fun _ F => ?_
 have F := F.sub (m' := [(0, jP g9), (1, jP g0), (2, jP g1), (3, jP g2), (4, v0), (5, jP g4), (6, jP g5), (64, .slice (some ⟨g12, 0, none⟩) 5 5), (65, jI ((5 : Nat) : Int)), (66, jI 3)]) ⟨rfl, rfl, rfl, rfl, rfl, rfl, rfl, rfl, rfl, rfl, trivial⟩
 clear F
 refine ge 6 F rfl fun _ F => ?_
 have F := F.sub (m' := [(0, jP g9), (1, jP g0), (2, jP g1), (3, jP g2), (4, v0), (5, jP g4), (6, jP g5), (64, .slice (some ⟨g12, 0, none⟩) 5 5), (65, jI ((5 : Nat) : Int)), (66, jI 3), (67, .bool true)]) ⟨rfl, rfl, rfl, rfl, rfl, rfl, rfl, rfl, rfl, rfl, rfl, trivial⟩
 clear F
 refine ge 9 F rfl fun _ F => ?_
 refine gx F (K2 ET rfl rfl (by decide)) 0 rfl rfl fun _ F => ?_
 refine AV F s1z m2 2 rfl fun _ F => ?_
 have F := F.sub (m' := [(0, jP g9), (1, jP g0), (2, jP g1), (3, jP g2), (4, v0), (5, jP g4), (6, jP g5), (10, jU 12), (64, .slice (some ⟨g12, 0, none⟩) 5 5), (65, jI ((5 : Nat) : Int)), (66, jI 3)]) ⟨rfl, rfl, rfl, rfl, rfl, rfl, rfl, rfl, rfl, rfl, rfl, trivial⟩
 clear F
 refine ge 4 F rfl fun _ F => ?_
 refine Ad (parts := [(0, .const (jU 1))]) Flat.u8 ([(1 : UInt8)] : List UInt8) F s1z BU rfl (by decide) rfl rfl rfl (by simp [Value.cells]) rfl rfl rfl fun v1e w1s _ F s20 => ?_
 refine Ai (args := [.tmp 72]) F C3 rfl (BB (Ae (fO s20 m0))) rfl fun v1f w1t _ h1g F => ?_
 obtain ⟨g1c, rfl, h1h⟩ := h1g
 have s21 := s20.add h1h
 refine Ai (args := [.tmp 71, .tmp 73]) F CB rfl (BN (Ae h17) rfl) rfl fun v1g w1u _ h1i F => ?_
 obtain ⟨g1d, g1e, rfl, h1j⟩ := h1i
 have s22 := s21.add h1j
 refine gx F (C0 (i := 12) Cd rfl rfl (by decide)) 0 rfl rfl fun _ F => ?_
 refine BX (nn := AS) (T := AE) (qs := [AB g1d 224 [v0], AB g1e 142 [clo 214 [jP g1c]], AB g1c 47 [v1e], Sl Ty.u8 v1e ([(1 : UInt8)] : List UInt8)]) (q1 := [Sl AE v0 ([(⟨x0.kind, x0.t⟩ : A8), (⟨x0.kind, x0.t⟩ : A8)] : List A8)]) (t := .fixed ([(⟨x0.kind, x0.t⟩ : A8), (⟨x0.kind, x0.t⟩ : A8)] : List A8) (.const ([(1 : UInt8)] : List UInt8))) F s22.f5.f5.f5.f5.f4.f5 rfl rfl Cg rfl rfl rfl (.inr m0) (fun _ _ h => SL.CE (n := AS) rfl (SL.Cq (c := 214) (d := 203) (s := 204) (t := 47) rfl h.f3.f3).f2.f3.f3) fun v1h w1v _ F s23 => gw 1 F rfl fun _ F => ?_
 have F := F.sub (m' := [(0, jP g9), (1, jP g0), (2, jP g1), (3, jP g2), (4, v0), (5, jP g4), (6, jP g5), (64, .slice (some ⟨g12, 0, none⟩) 5 5), (65, jI ((5 : Nat) : Int)), (66, jI 3)]) ⟨rfl, rfl, rfl, rfl, rfl, rfl, rfl, rfl, rfl, rfl, trivial⟩
 clear F
 refine ge 6 F rfl fun _ F => ?_
 have F := F.sub (m' := [(0, jP g9), (1, jP g0), (2, jP g1), (3, jP g2), (4, v0), (5, jP g4), (6, jP g5), (64, .slice (some ⟨g12, 0, none⟩) 5 5), (65, jI ((5 : Nat) : Int)), (66, jI 4)]) ⟨rfl, rfl, rfl, rfl, rfl, rfl, rfl, rfl, rfl, rfl, trivial⟩
 clear F
 refine ge 6 F rfl fun _ F => ?_
 have F := F.sub (m' := [(0, jP g9), (1, jP g0), (2, jP g1), (3, jP g2), (4, v0), (5, jP g4), (6, jP g5), (64, .slice (some ⟨g12, 0, none⟩) 5 5), (65, jI ((5 : Nat) : Int)), (66, jI 4), (67, .bool true)]) ⟨rfl, rfl, rfl, rfl, rfl, rfl, rfl, rfl, rfl, rfl, rfl, trivial⟩
 clear F
 refine ge 9 F rfl fun _ F => ?_
 refine gx F (K2 ET rfl rfl (by decide)) 0 rfl rfl fun _ F => ?_
 refine AV F s23 m2 2 rfl fun _ F => ?_
 have F := F.sub (m' := [(0, jP g9), (1, jP g0), (2, jP g1), (3, jP g2), (4, v0), (5, jP g4), (6, jP g5), (10, jU 13), (64, .slice (some ⟨g12, 0, none⟩) 5 5), (65, jI ((5 : Nat) : Int)), (66, jI 4)]) ⟨rfl, rfl, rfl, rfl, rfl, rfl, rfl, rfl, rfl, rfl, rfl, trivial⟩
 clear F
 refine ge 4 F rfl fun _ F => ?_
 refine Ad (parts := [(0, .const (jU 1))]) Flat.u8 ([(1 : UInt8)] : List UInt8) F s23 BU rfl (by decide) rfl rfl rfl (by simp [Value.cells]) rfl rfl rfl fun v1i w1w _ F s24 => ?_
 refine Ai (args := [.tmp 72]) F C3 rfl (BB (Ae (fO s24 m0))) rfl fun v1j w1x _ h1k F => ?_
 obtain ⟨g1f, rfl, h1l⟩ := h1k
 have s25 := s24.add h1l
 refine Ai (args := [.tmp 71, .tmp 73]) F CB rfl (BN (Ae h17) rfl) rfl fun v1k w1y _ h1m F => ?_
 obtain ⟨g1g, g1h, rfl, h1n⟩ := h1m
 have s26 := s25.add h1n
 refine gx F (C0 (i := 13) Cd rfl rfl (by decide)) 0 rfl rfl fun _ F => ?_
 refine BX (nn := AS) (T := AE) (qs := [AB g1g 224 [v0], AB g1h 142 [clo 214 [jP g1f]], AB g1f 47 [v1i], Sl Ty.u8 v1i ([(1 : UInt8)] : List UInt8)]) (q1 := [Sl AE v0 ([(⟨x0.kind, x0.t⟩ : A8), (⟨x0.kind, x0.t⟩ : A8)] : List A8)]) (t := .fixed ([(⟨x0.kind, x0.t⟩ : A8), (⟨x0.kind, x0.t⟩ : A8)] : List A8) (.const ([(1 : UInt8)] : List UInt8))) F s26.f5.f5.f5.f5.f4.f5 rfl rfl Cg rfl rfl rfl (.inr m0) (fun _ _ h => SL.CE (n := AS) rfl (SL.Cq (c := 214) (d := 203) (s := 204) (t := 47) rfl h.f3.f3).f2.f3.f3) fun v1l w1z _ F s27 => gw 1 F rfl fun _ F => ?_
 have F := F.sub (m' := [(0, jP g9), (1, jP g0), (2, jP g1), (3, jP g2), (4, v0), (5, jP g4), (6, jP g5), (64, .slice (some ⟨g12, 0, none⟩) 5 5), (65, jI ((5 : Nat) : Int)), (66, jI 4)]) ⟨rfl, rfl, rfl, rfl, rfl, rfl, rfl, rfl, rfl, rfl, trivial⟩
 clear F
 refine ge 6 F rfl fun _ F => ?_
 have F := F.sub (m' := [(0, jP g9), (1, jP g0), (2, jP g1), (3, jP g2), (4, v0), (5, jP g4), (6, jP g5), (64, .slice (some ⟨g12, 0, none⟩) 5 5), (65, jI ((5 : Nat) : Int)), (66, jI 5)]) ⟨rfl, rfl, rfl, rfl, rfl, rfl, rfl, rfl, rfl, rfl, trivial⟩
 clear F
 refine ge 6 F rfl fun _ F => ?_
 have F := F.sub (m' := [(0, jP g9), (1, jP g0), (2, jP g1), (3, jP g2), (4, v0), (5, jP g4), (6, jP g5), (64, .slice (some ⟨g12, 0, none⟩) 5 5), (65, jI ((5 : Nat) : Int)), (66, jI 5), (67, .bool false)]) ⟨rfl, rfl, rfl, rfl, rfl, rfl, rfl, rfl, rfl, rfl, rfl, trivial⟩
 clear F
 refine ge 9 F rfl fun _ F => Dk BL s27.drop.drop ?_
 refine hq [0] F s27.drew.drop.drop (QI.ld m4 rfl <| QI.nil) (by kernel_rfl) fun _ F => ?_
 refine Jb [0, 1, 2, 3] (fun a w_ => ∃ v1m : Value, ∃ g1i : Nat, ∃ v1n : Value, Fr a 162 [(0, jP g9), (1, jP g0), (2, jP g1), (3, jP g2), (4, v0), (5, jP g4), (6, jP g5), (78, v1m), (80, clo 214 [jP g1i])] ∧ SL w [] w_ [AB g12 5 [jU 9, jU 10, jU 11, jU 12, jU 13], AB g4 142 [clo 214 [jP g3]], AB g2 253 [jI x2.kind, jU (x2.t.toNat : Int)], AB g1 253 [jI x1.kind, jU (x1.t.toNat : Int)], AB g0 253 [jI x0.kind, jU (x0.t.toNat : Int)], AB g9 249 (List.replicate 34 .nilFunc), Sl AE v1m ([(⟨x0.kind, x0.t⟩ : A8)] : List A8), Sl Ty.u8 v1n ([(1 : UInt8)] : List UInt8), AB g1i 47 [v1n], AB g5 249 v1l, HC AS AE 34 v1l (N1 x0 x1 x2) [[Sl AE v0 ([(⟨x0.kind, x0.t⟩ : A8), (⟨x0.kind, x0.t⟩ : A8)] : List A8)], [AB g3 47 [.slice none 0 0]]]]) ?_ fun hD0 => ?_
 ·rintro a w_ ⟨v1m, g1i, v1n, F, s28⟩
  refine ho 4 rfl (by kernel_rfl) ?_
  refine Ai (args := [.tmp 78, .tmp 80]) F CB rfl (BN (Ae (fO s28 m6)) rfl) rfl fun v1o w20 _ h1o F => ?_
  obtain ⟨g1j, g1k, rfl, h1p⟩ := h1o
  have s29 := s28.add h1p
  refine gw 1 F rfl fun _ F => ⟨s29.drop.drop.f6.drop.f6.drop.f6.drop.f6.drop.f6.drop, ?_⟩
  refine hq [5] F s29.drop.drop.f6.drop.f6.drop.f6.drop.f6.drop.f6.drop (QI.op rfl (fun _ hC => C0 (i := 14) Cd rfl rfl (by decide)) rfl <| QI.nil) (by kernel_rfl) fun _ F => ?_
  refine ho 6 rfl (by kernel_rfl) ?_
  refine BX (nn := AS) (T := AE) (qs := [AB g1j 224 [v1m], Sl AE v1m ([(⟨x0.kind, x0.t⟩ : A8)] : List A8), AB g1k 142 [clo 214 [jP g1i]], AB g1i 47 [v1n], Sl Ty.u8 v1n ([(1 : UInt8)] : List UInt8)]) (q1 := []) (t := .fixed ([(⟨x0.kind, x0.t⟩ : A8)] : List A8) (.const ([(1 : UInt8)] : List UInt8))) F s29.f12.f12.f11.f12.f4.f12.f6 rfl rfl Cg rfl rfl rfl (.inl rfl) (fun _ _ h => SL.CE (n := AS) rfl (SL.Cq (c := 214) (d := 203) (s := 204) (t := 47) rfl h.f4.f4).f3.f3.f3) fun v1p w21 _ F s2a => gw 1 F rfl fun _ F => ⟨s2a.drop.drop, ?_⟩
  refine Ea (by kernel_rfl) ?_
  refine ge 4 F rfl fun _ F => ?_
  refine Ad (parts := [(0, .const (jU 2))]) Flat.u8 ([(2 : UInt8)] : List UInt8) F s2a BU rfl (by decide) rfl rfl rfl (by simp [Value.cells]) rfl rfl rfl fun v1q w22 _ F s2b => ?_
  refine Ai (args := [.tmp 84]) F C3 rfl (BB (Ae (fO s2b m0))) rfl fun v1r w23 _ h1q F => ?_
  obtain ⟨g1l, rfl, h1r⟩ := h1q
  have s2c := s2b.add h1r
  refine Ai (args := [.tmp 83, .tmp 85]) F CB rfl (BN (Ae h17) rfl) rfl fun v1s w24 _ h1s F => ?_
  obtain ⟨g1m, g1n, rfl, h1t⟩ := h1s
  have s2d := s2c.add h1t
  refine gx F (C0 (i := 15) Cd rfl rfl (by decide)) 0 rfl rfl fun _ F => ?_
  refine BX (nn := AS) (T := AE) (qs := [AB g1m 224 [v0], AB g1n 142 [clo 214 [jP g1l]], AB g1l 47 [v1q], Sl Ty.u8 v1q ([(2 : UInt8)] : List UInt8)]) (q1 := [Sl AE v0 ([(⟨x0.kind, x0.t⟩ : A8), (⟨x0.kind, x0.t⟩ : A8)] : List A8)]) (t := .fixed ([(⟨x0.kind, x0.t⟩ : A8), (⟨x0.kind, x0.t⟩ : A8)] : List A8) (.const ([(2 : UInt8)] : List UInt8))) F s2d.f5.f5.f5.f5.f4.f5 rfl rfl Cg rfl rfl rfl (.inr m0) (fun _ _ h => SL.CE (n := AS) rfl (SL.Cq (c := 214) (d := 203) (s := 204) (t := 47) rfl h.f3.f3).f2.f3.f3) fun v1t w25 _ F s2e => gw 1 F rfl fun _ F => ?_
  have F := F.sub (m' := [(0, jP g9), (1, jP g0), (2, jP g1), (3, jP g2), (5, jP g4), (6, jP g5)]) ⟨rfl, rfl, rfl, rfl, rfl, rfl, trivial⟩
  clear F
  refine ge 3 F rfl fun _ F => gx F (Af (vs := [jI 3]) D6 Hj rfl (cs := [jI 3, jU 0]) (rfl)) 0 rfl rfl fun _ F => gx F (Af (vs := [jI 3]) D6 Hj rfl (cs := [jI 3, jU 0]) (rfl)) 0 rfl rfl fun _ F => ?_
  refine Ad (parts := [(0, .tmp 88), (1, .tmp 89)]) BE ([(⟨3, 0⟩ : A8), (⟨3, 0⟩ : A8)] : List A8) F s2e.f2.drop Cl rfl (by decide) rfl rfl rfl (by simp [Value.cells]) rfl rfl rfl fun v1u w26 _ F s2f => ?_
  refine Ad (parts := [(0, .const (jU 2))]) Flat.u8 ([(2 : UInt8)] : List UInt8) F s2f BU rfl (by decide) rfl rfl rfl (by simp [Value.cells]) rfl rfl rfl fun v1v w27 _ F s2g => ?_
  refine Ai (args := [.tmp 91]) F C3 rfl (BB (Ae (fO s2g m0))) rfl fun v1w w28 _ h1u F => ?_
  obtain ⟨g1o, rfl, h1v⟩ := h1u
  have s2h := s2g.add h1v
  refine Ai (args := [.tmp 90, .tmp 92]) F CB rfl (BN (Ae (fO s2h m2)) rfl) rfl fun v1x w29 _ h1w F => ?_
  obtain ⟨g1p, g1q, rfl, h1x⟩ := h1w
  have s2i := s2h.add h1x
  refine gx F (C0 (i := 16) Cd rfl rfl (by decide)) 0 rfl rfl fun _ F => ?_
  refine BX (nn := AS) (T := AE) (qs := [AB g1p 224 [v1u], Sl AE v1u ([(⟨3, 0⟩ : A8), (⟨3, 0⟩ : A8)] : List A8), AB g1q 142 [clo 214 [jP g1o]], AB g1o 47 [v1v], Sl Ty.u8 v1v ([(2 : UInt8)] : List UInt8)]) (q1 := []) (t := .fixed ([(⟨3, 0⟩ : A8), (⟨3, 0⟩ : A8)] : List A8) (.const ([(2 : UInt8)] : List UInt8))) F s2i.f6.f6.f5.f5.f4.f6.f6 rfl rfl Cg rfl rfl rfl (.inl rfl) (fun _ _ h => SL.CE (n := AS) rfl (SL.Cq (c := 214) (d := 203) (s := 204) (t := 47) rfl h.f4.f4).f3.f3.f3) fun v1y w2a _ F s2j => gw 1 F rfl fun _ F => ?_
  have F := F.sub (m' := [(0, jP g9), (1, jP g0), (2, jP g1), (3, jP g2), (5, jP g4), (6, jP g5)]) ⟨rfl, rfl, rfl, rfl, rfl, rfl, trivial⟩
  clear F
  refine ge 2 F rfl fun _ F => Dk BL s2j.drop.drop ?_
  refine hq [0] F s2j.drew.drop.drop (QI.ld m2 rfl <| QI.nil) (by kernel_rfl) fun _ F => ?_
  refine Jb [0, 1, 2, 3] (fun a w_ => ∃ v1z : Value, ∃ g1r : Nat, ∃ v20 : Value, Fr a 162 [(0, jP g9), (1, jP g0), (2, jP g1), (3, jP g2), (5, jP g4), (6, jP g5), (96, v1z), (98, clo 214 [jP g1r])] ∧ SL w [] w_ [AB g4 142 [clo 214 [jP g3]], AB g2 253 [jI x2.kind, jU (x2.t.toNat : Int)], AB g1 253 [jI x1.kind, jU (x1.t.toNat : Int)], AB g0 253 [jI x0.kind, jU (x0.t.toNat : Int)], AB g9 249 (List.replicate 34 .nilFunc), Sl AE v1z ([(⟨x1.kind, x1.t⟩ : A8)] : List A8), Sl Ty.u8 v20 ([(2 : UInt8)] : List UInt8), AB g1r 47 [v20], AB g5 249 v1y, HC AS AE 34 v1y (N8 x0 x1 x2) [[Sl AE v0 ([(⟨x0.kind, x0.t⟩ : A8), (⟨x0.kind, x0.t⟩ : A8)] : List A8)], [AB g3 47 [.slice none 0 0]]]]) ?_ fun hD0 => ?_
  ·rintro a w_ ⟨v1z, g1r, v20, F, s2k⟩
   refine ho 4 rfl (by kernel_rfl) ?_
   refine Ai (args := [.tmp 96, .tmp 98]) F CB rfl (BN (Ae (fO s2k m5)) rfl) rfl fun v21 w2b _ h1y F => ?_
   obtain ⟨g1s, g1t, rfl, h1z⟩ := h1y
   have s2l := s2k.add h1z
   refine gw 1 F rfl fun _ F => ⟨s2l.drop.drop.f5.drop.f5.drop.f5.drop.f5.drop.f5.drop, ?_⟩
   refine hq [5] F s2l.drop.drop.f5.drop.f5.drop.f5.drop.f5.drop.f5.drop (QI.op rfl (fun _ hC => C0 (i := 17) Cd rfl rfl (by decide)) rfl <| QI.nil) (by kernel_rfl) fun _ F => ?_
   refine ho 6 rfl (by kernel_rfl) ?_
   refine BX (nn := AS) (T := AE) (qs := [AB g1s 224 [v1z], Sl AE v1z ([(⟨x1.kind, x1.t⟩ : A8)] : List A8), AB g1t 142 [clo 214 [jP g1r]], AB g1r 47 [v20], Sl Ty.u8 v20 ([(2 : UInt8)] : List UInt8)]) (q1 := []) (t := .fixed ([(⟨x1.kind, x1.t⟩ : A8)] : List A8) (.const ([(2 : UInt8)] : List UInt8))) F s2l.f11.f11.f10.f11.f4.f11.f6 rfl rfl Cg rfl rfl rfl (.inl rfl) (fun _ _ h => SL.CE (n := AS) rfl (SL.Cq (c := 214) (d := 203) (s := 204) (t := 47) rfl h.f4.f4).f3.f3.f3) fun v22 w2c _ F s2m => gw 1 F rfl fun _ F => ⟨s2m.drop.drop, ?_⟩
   refine Ea (by kernel_rfl) ?_
   refine ge 3 F rfl fun _ F => gx F (Af (vs := [jI 2]) D6 Hj rfl (cs := [jI 2, jU 0]) (rfl)) 0 rfl rfl fun _ F => gx F (Af (vs := [jI 2]) D6 Hj rfl (cs := [jI 2, jU 0]) (rfl)) 0 rfl rfl fun _ F => ?_
   refine Ad (parts := [(0, .tmp 101), (1, .tmp 102)]) BE ([(⟨2, 0⟩ : A8), (⟨2, 0⟩ : A8)] : List A8) F s2m Cl rfl (by decide) rfl rfl rfl (by simp [Value.cells]) rfl rfl rfl fun v23 w2d _ F s2n => ?_
   refine Ad (parts := [(0, .const (jU 2))]) Flat.u8 ([(2 : UInt8)] : List UInt8) F s2n BU rfl (by decide) rfl rfl rfl (by simp [Value.cells]) rfl rfl rfl fun v24 w2e _ F s2o => ?_
   refine Ai (args := [.tmp 104]) F C3 rfl (BB (Ae (fO s2o m0))) rfl fun v25 w2f _ h20 F => ?_
   obtain ⟨g1u, rfl, h21⟩ := h20
   have s2p := s2o.add h21
   refine Ai (args := [.tmp 103, .tmp 105]) F CB rfl (BN (Ae (fO s2p m2)) rfl) rfl fun v26 w2g _ h22 F => ?_
   obtain ⟨g1v, g1w, rfl, h23⟩ := h22
   have s2q := s2p.add h23
   refine gx F (C0 (i := 18) Cd rfl rfl (by decide)) 0 rfl rfl fun _ F => ?_
   refine BX (nn := AS) (T := AE) (qs := [AB g1v 224 [v23], Sl AE v23 ([(⟨2, 0⟩ : A8), (⟨2, 0⟩ : A8)] : List A8), AB g1w 142 [clo 214 [jP g1u]], AB g1u 47 [v24], Sl Ty.u8 v24 ([(2 : UInt8)] : List UInt8)]) (q1 := []) (t := .fixed ([(⟨2, 0⟩ : A8), (⟨2, 0⟩ : A8)] : List A8) (.const ([(2 : UInt8)] : List UInt8))) F s2q.f6.f6.f5.f5.f4.f6.f6 rfl rfl Cg rfl rfl rfl (.inl rfl) (fun _ _ h => SL.CE (n := AS) rfl (SL.Cq (c := 214) (d := 203) (s := 204) (t := 47) rfl h.f4.f4).f3.f3.f3) fun v27 w2h _ F s2r => gw 1 F rfl fun _ F => ?_
   have F := F.sub (m' := [(0, jP g9), (1, jP g0), (2, jP g1), (3, jP g2), (5, jP g4), (6, jP g5)]) ⟨rfl, rfl, rfl, rfl, rfl, rfl, trivial⟩
   clear F
   refine ge 3 F rfl fun _ F => AV F s2r m4 0 rfl fun _ F => ?_
   refine Ad (parts := [(0, .tmp 108)]) BE ([(⟨x1.kind, x1.t⟩ : A8)] : List A8) F s2r Cl rfl (by decide) rfl rfl rfl (by simp [Value.cells]) rfl rfl rfl fun v28 w2i _ F s2s => ?_
   refine AV F s2s m3 0 rfl fun _ F => Ai (args := [.tmp 109, .tmp 110]) F CB rfl (BN (Ae (fO s2s m0)) rfl) rfl fun v29 w2j _ h24 F => ?_
   obtain ⟨g1x, g1y, rfl, h25⟩ := h24
   have s2t := s2s.add h25
   refine gx F (C0 (i := 20) Cd rfl rfl (by decide)) 0 rfl rfl fun _ F => ?_
   refine BX (nn := AS) (T := AE) (qs := [AB g1x 224 [v28], Sl AE v28 ([(⟨x1.kind, x1.t⟩ : A8)] : List A8), AB g1y 142 [clo 214 [jP g3]]]) (q1 := [AB g3 47 [.slice none 0 0]]) (t := .fixed ([(⟨x1.kind, x1.t⟩ : A8)] : List A8) (.const [])) F s2t.f4.f4.f2.f4.f4 rfl rfl Cg rfl rfl rfl (.inr m1) (fun _ _ h => SL.CE (n := AS) rfl (SL.Cq (c := 214) (d := 203) (s := 204) (t := 47) rfl (SL.Ca (T := Ty.u8) h).f4).f3.f3.f3) fun v2a w2k _ F s2u => gw 1 F rfl fun _ F => ?_
   have F := F.sub (m' := [(0, jP g9), (1, jP g0), (3, jP g2), (5, jP g4), (6, jP g5)]) ⟨rfl, rfl, rfl, rfl, rfl, trivial⟩
   clear F
   refine ge 3 F rfl fun _ F => ?_
   refine gx F (C0 (i := 21) Cd rfl rfl (by decide)) 0 rfl rfl fun _ F => ?_
   refine BX (nn := AS) (T := AE) (qs := []) (q1 := []) (t := .call) F s2u.f1.f1 rfl rfl Cg rfl rfl rfl (.inl rfl) (fun _ _ h => SL.Ai9 (n := AS) rfl h) fun v2b w2l _ F s2v => gw 1 F rfl fun _ F => ?_
   have F := F.sub (m' := [(0, jP g9), (1, jP g0), (3, jP g2), (5, jP g4), (6, jP g5)]) ⟨rfl, rfl, rfl, rfl, rfl, trivial⟩
   clear F
   refine ge 3 F rfl fun _ F => gx F (Eg (cs := [.tmp 5]) (vs := [jP g4]) rfl) 0 rfl rfl fun _ F => ?_
   refine gx F (C0 (i := 22) Cd rfl rfl (by decide)) 0 rfl rfl fun _ F => ?_
   have s2w := SL.Ai4 (qs := [AB g4 142 [clo 214 [jP g3]]]) m1 s2v.f1.f2
   refine BX (nn := AS) (T := AE) (qs := []) (q1 := [AB g4 142 [clo 214 [jP g3]], AB g3 47 [.slice none 0 0]]) (t := .ret (.const [])) F s2w.f1 rfl rfl Cg rfl rfl rfl (.inr m0) (fun _ _ h => SL.Akp (n := AS) rfl (SL.Cq (c := 214) (d := 203) (s := 204) (t := 47) rfl (SL.Ca (T := Ty.u8) h).f2).f1) fun v2c w2m _ F s2x => gw 1 F rfl fun _ F => ?_
   have F := F.sub (m' := [(0, jP g9), (1, jP g0), (3, jP g2), (5, jP g4), (6, jP g5)]) ⟨rfl, rfl, rfl, rfl, rfl, trivial⟩
   clear F
   refine ge 3 F rfl fun _ F => Ai (args := [.const (.slice none 0 0), .const (.bool true)]) F TY rfl (MX rfl rfl) rfl fun v2d w2n _ h26 F => ?_
   obtain ⟨g1z, g20, rfl, h27⟩ := h26
   have s2y := s2x.add h27
   refine gx F (C0 (i := 23) Cd rfl rfl (by decide)) 0 rfl rfl fun _ F => ?_
   refine BX (nn := AS) (T := AE) (qs := [AB g20 4 [.bool true], AB g1z 224 [.slice none 0 0]]) (q1 := []) (t := .classed [] true) F s2y.f3.f3.f3.f3 rfl rfl Cg rfl rfl rfl (.inl rfl) (fun _ _ h => SL.QE (n := AS) rfl (SL.Ca (T := AE) h).f2.f2) fun v2e w2o _ F s2z => gw 1 F rfl fun _ F => ?_
   have F := F.sub (m' := [(0, jP g9), (1, jP g0), (3, jP g2), (5, jP g4), (6, jP g5)]) ⟨rfl, rfl, rfl, rfl, rfl, trivial⟩
   clear F
   refine ge 3 F rfl fun _ F => Ai (args := [.const (.bool false)]) F Yo rfl (Ri rfl) rfl fun v2f w2p _ h28 F => ?_
   obtain ⟨g21, rfl, h29⟩ := h28
   have s30 := s2z.add h29
   refine gx F (C0 (i := 24) Cd rfl rfl (by decide)) 0 rfl rfl fun _ F => ?_
   refine BX (nn := AS) (T := AE) (qs := [AB g21 4 [.bool false]]) (q1 := []) (t := .field false) F s30.f2.f2.f2 rfl rfl Cg rfl rfl rfl (.inl rfl) (fun _ _ h => SL.YP (n := AS) rfl h) fun v2g w2q _ F s31 => gw 1 F rfl fun _ F => ?_
   have F := F.sub (m' := [(0, jP g9), (1, jP g0), (3, jP g2), (5, jP g4), (6, jP g5)]) ⟨rfl, rfl, rfl, rfl, rfl, trivial⟩
   clear F
   refine ge 3 F rfl fun _ F => Ai (args := [.const (.bool true)]) F Yo rfl (Ri rfl) rfl fun v2h w2r _ h2a F => ?_
   obtain ⟨g22, rfl, h2b⟩ := h2a
   have s32 := s31.add h2b
   refine gx F (C0 (i := 25) Cd rfl rfl (by decide)) 0 rfl rfl fun _ F => ?_
   refine BX (nn := AS) (T := AE) (qs := [AB g22 4 [.bool true]]) (q1 := []) (t := .field true) F s32.f2.f2.f2 rfl rfl Cg rfl rfl rfl (.inl rfl) (fun _ _ h => SL.YP (n := AS) rfl h) fun v2i w2s _ F s33 => gw 1 F rfl fun _ F => ?_
   have F := F.sub (m' := [(0, jP g9), (1, jP g0), (3, jP g2), (5, jP g4), (6, jP g5)]) ⟨rfl, rfl, rfl, rfl, rfl, trivial⟩
   clear F
   refine ge 2 F rfl fun _ F => Dk BL s33.drop.drop ?_
   refine hq [0] F s33.drew.drop.drop (QI.ld m2 rfl <| QI.nil) (by kernel_rfl) fun _ F => ?_
   refine Jb [0, 1, 2, 3] (fun a w_ => ∃ v2j : Value, ∃ g23 : Nat, ∃ v2k : Value, Fr a 162 [(0, jP g9), (1, jP g0), (3, jP g2), (5, jP g4), (6, jP g5), (123, v2j), (125, clo 214 [jP g23])] ∧ SL w [] w_ [AB g2 253 [jI x2.kind, jU (x2.t.toNat : Int)], AB g1 253 [jI x1.kind, jU (x1.t.toNat : Int)], AB g0 253 [jI x0.kind, jU (x0.t.toNat : Int)], AB g9 249 (List.replicate 34 .nilFunc), AB g5 249 v2i, Sl AE v2j ([(⟨x0.kind, x0.t⟩ : A8)] : List A8), Sl Ty.u8 v2k ([(4 : UInt8)] : List UInt8), AB g23 47 [v2k], HC AS AE 34 v2i (NI x0 x1 x2) [[AB g4 142 [clo 214 [jP g3]], AB g3 47 [.slice none 0 0]], [Sl AE v0 ([(⟨x0.kind, x0.t⟩ : A8), (⟨x0.kind, x0.t⟩ : A8)] : List A8)], [AB g3 47 [.slice none 0 0]]]]) ?_ fun hD0 => ?_
   ·rintro a w_ ⟨v2j, g23, v2k, F, s34⟩
    refine ho 4 rfl (by kernel_rfl) ?_
    refine Ai (args := [.tmp 123, .tmp 125]) F CB rfl (BN (Ae (fO s34 m5)) rfl) rfl fun v2l w2t _ h2c F => ?_
    obtain ⟨g24, g25, rfl, h2d⟩ := h2c
    have s35 := s34.add h2d
    refine gw 1 F rfl fun _ F => ⟨s35.drop.drop.f4.drop.f4.drop.f4.drop.f4.drop.f4.drop, ?_⟩
    refine hq [5] F s35.drop.drop.f4.drop.f4.drop.f4.drop.f4.drop.f4.drop (QI.op rfl (fun _ hC => C0 (i := 26) Cd rfl rfl (by decide)) rfl <| QI.nil) (by kernel_rfl) fun _ F => ?_
    refine ho 6 rfl (by kernel_rfl) ?_
    refine BX (nn := AS) (T := AE) (qs := [AB g24 224 [v2j], Sl AE v2j ([(⟨x0.kind, x0.t⟩ : A8)] : List A8), AB g25 142 [clo 214 [jP g23]], AB g23 47 [v2k], Sl Ty.u8 v2k ([(4 : UInt8)] : List UInt8)]) (q1 := []) (t := .fixed ([(⟨x0.kind, x0.t⟩ : A8)] : List A8) (.const ([(4 : UInt8)] : List UInt8))) F s35.f10.f7.f9.f10.f4.f10.f6 rfl rfl Cg rfl rfl rfl (.inl rfl) (fun _ _ h => SL.CE (n := AS) rfl (SL.Cq (c := 214) (d := 203) (s := 204) (t := 47) rfl h.f4.f4).f3.f3.f3) fun v2m w2u _ F s36 => gw 1 F rfl fun _ F => ⟨s36.drop.drop, ?_⟩
    refine Ea (by kernel_rfl) ?_
    refine ge 2 F rfl fun _ F => Dk BL s36.drop.drop ?_
    refine hq [0] F s36.drew.drop.drop (QI.ld m0 rfl <| QI.nil) (by kernel_rfl) fun _ F => ?_
    refine Jb [0, 1, 2, 3] (fun a w_ => ∃ v2n : Value, ∃ g26 : Nat, ∃ v2o : Value, Fr a 162 [(0, jP g9), (1, jP g0), (3, jP g2), (5, jP g4), (6, jP g5), (129, v2n), (131, clo 214 [jP g26])] ∧ SL w [] w_ [AB g2 253 [jI x2.kind, jU (x2.t.toNat : Int)], AB g1 253 [jI x1.kind, jU (x1.t.toNat : Int)], AB g0 253 [jI x0.kind, jU (x0.t.toNat : Int)], AB g9 249 (List.replicate 34 .nilFunc), AB g5 249 v2m, Sl AE v2n ([(⟨x2.kind, x2.t⟩ : A8)] : List A8), Sl Ty.u8 v2o ([(1 : UInt8)] : List UInt8), AB g26 47 [v2o], HC AS AE 34 v2m (N7 x0 x1 x2) [[AB g4 142 [clo 214 [jP g3]], AB g3 47 [.slice none 0 0]], [Sl AE v0 ([(⟨x0.kind, x0.t⟩ : A8), (⟨x0.kind, x0.t⟩ : A8)] : List A8)], [AB g3 47 [.slice none 0 0]]]]) ?_ fun hD0 => ?_
    ·rintro a w_ ⟨v2n, g26, v2o, F, s37⟩
     refine ho 4 rfl (by kernel_rfl) ?_
     refine Ai (args := [.tmp 129, .tmp 131]) F CB rfl (BN (Ae (fO s37 m5)) rfl) rfl fun v2p w2v _ h2e F => ?_
     obtain ⟨g27, g28, rfl, h2f⟩ := h2e
     have s38 := s37.add h2f
     refine gw 1 F rfl fun _ F => ⟨s38.drop.drop.f4.drop.f4.drop.f4.drop.f4.drop.f4.drop, ?_⟩
     refine hq [5] F s38.drop.drop.f4.drop.f4.drop.f4.drop.f4.drop.f4.drop (QI.op rfl (fun _ hC => C0 (i := 27) Cd rfl rfl (by decide)) rfl <| QI.nil) (by kernel_rfl) fun _ F => ?_
     refine ho 6 rfl (by kernel_rfl) ?_
     refine BX (nn := AS) (T := AE) (qs := [AB g27 224 [v2n], Sl AE v2n ([(⟨x2.kind, x2.t⟩ : A8)] : List A8), AB g28 142 [clo 214 [jP g26]], AB g26 47 [v2o], Sl Ty.u8 v2o ([(1 : UInt8)] : List UInt8)]) (q1 := []) (t := .fixed ([(⟨x2.kind, x2.t⟩ : A8)] : List A8) (.const ([(1 : UInt8)] : List UInt8))) F s38.f10.f7.f9.f10.f4.f10.f6 rfl rfl Cg rfl rfl rfl (.inl rfl) (fun _ _ h => SL.CE (n := AS) rfl (SL.Cq (c := 214) (d := 203) (s := 204) (t := 47) rfl h.f4.f4).f3.f3.f3) fun v2q w2w _ F s39 => gw 1 F rfl fun _ F => ⟨s39.drop.drop, ?_⟩
     refine Ea (by kernel_rfl) ?_
     refine ge 2 F rfl fun _ F => Dk BL s39.drop.drop ?_
     refine hq [0, 1] F s39.drew.drop.drop (QI.ld m0 rfl <| QI.ld m2 rfl <| QI.nil) (by kernel_rfl) fun _ F => ?_
     refine Jb [0, 1, 2, 3, 4] (fun a w_ => ∃ v2r : Value, ∃ g29 : Nat, ∃ v2s : Value, Fr a 162 [(0, jP g9), (1, jP g0), (3, jP g2), (5, jP g4), (6, jP g5), (136, v2r), (138, clo 214 [jP g29])] ∧ SL w [] w_ [AB g2 253 [jI x2.kind, jU (x2.t.toNat : Int)], AB g1 253 [jI x1.kind, jU (x1.t.toNat : Int)], AB g0 253 [jI x0.kind, jU (x0.t.toNat : Int)], AB g9 249 (List.replicate 34 .nilFunc), AB g5 249 v2q, Sl AE v2r ([(⟨x2.kind, x2.t⟩ : A8), (⟨x0.kind, x0.t⟩ : A8)] : List A8), Sl Ty.u8 v2s ([(1 : UInt8)] : List UInt8), AB g29 47 [v2s], HC AS AE 34 v2q (NE x0 x1 x2) [[AB g4 142 [clo 214 [jP g3]], AB g3 47 [.slice none 0 0]], [Sl AE v0 ([(⟨x0.kind, x0.t⟩ : A8), (⟨x0.kind, x0.t⟩ : A8)] : List A8)], [AB g3 47 [.slice none 0 0]]]]) ?_ fun hD0 => ?_
     ·rintro a w_ ⟨v2r, g29, v2s, F, s3a⟩
      refine ho 5 rfl (by kernel_rfl) ?_
      refine Ai (args := [.tmp 136, .tmp 138]) F CB rfl (BN (Ae (fO s3a m5)) rfl) rfl fun v2t w2x _ h2g F => ?_
      obtain ⟨g2a, g2b, rfl, h2h⟩ := h2g
      have s3b := s3a.add h2h
      refine gw 1 F rfl fun _ F => ⟨s3b.drop.drop.f4.drop.f4.drop.f4.drop.f4.drop.f4.drop, ?_⟩
      refine hq [6] F s3b.drop.drop.f4.drop.f4.drop.f4.drop.f4.drop.f4.drop (QI.op rfl (fun _ hC => C0 (i := 28) Cd rfl rfl (by decide)) rfl <| QI.nil) (by kernel_rfl) fun _ F => ?_
      refine ho 7 rfl (by kernel_rfl) ?_
      refine BX (nn := AS) (T := AE) (qs := [AB g2a 224 [v2r], Sl AE v2r ([(⟨x2.kind, x2.t⟩ : A8), (⟨x0.kind, x0.t⟩ : A8)] : List A8), AB g2b 142 [clo 214 [jP g29]], AB g29 47 [v2s], Sl Ty.u8 v2s ([(1 : UInt8)] : List UInt8)]) (q1 := []) (t := .fixed ([(⟨x2.kind, x2.t⟩ : A8), (⟨x0.kind, x0.t⟩ : A8)] : List A8) (.const ([(1 : UInt8)] : List UInt8))) F s3b.f10.f7.f9.f10.f4.f10.f6 rfl rfl Cg rfl rfl rfl (.inl rfl) (fun _ _ h => SL.CE (n := AS) rfl (SL.Cq (c := 214) (d := 203) (s := 204) (t := 47) rfl h.f4.f4).f3.f3.f3) fun v2u w2y _ F s3c => gw 1 F rfl fun _ F => ⟨s3c.drop.drop, ?_⟩
      refine Ea (by kernel_rfl) ?_
      refine ge 3 F rfl fun _ F => AV F s3c m2 0 rfl fun _ F => AV F s3c m4 0 rfl fun _ F => AV F s3c m4 0 rfl fun _ F => ?_
      refine Ad (parts := [(0, .tmp 141), (1, .tmp 142), (2, .tmp 143)]) BE ([(⟨x2.kind, x2.t⟩ : A8), (⟨x0.kind, x0.t⟩ : A8), (⟨x0.kind, x0.t⟩ : A8)] : List A8) F s3c Cl rfl (by decide) rfl rfl rfl (by simp [Value.cells]) rfl rfl rfl fun v2v w2z _ F s3d => ?_
      refine gx F (As WT rfl (SL.YT s3d m2 m0 m0 rfl)) 0 rfl rfl fun _ F => Ai (args := [.tmp 144, .tmp 145]) F CB rfl (BN (Ae (fO s3d m0)) rfl) rfl fun v2w w30 _ h2i F => ?_
      obtain ⟨g2c, g2d, rfl, h2j⟩ := h2i
      have s3e := s3d.add h2j
      refine gx F (C0 (i := 29) Cd rfl rfl (by decide)) 0 rfl rfl fun _ F => ?_
      refine BX (nn := AS) (T := AE) (qs := [AB g2c 224 [v2v], Sl AE v2v ([(⟨x2.kind, x2.t⟩ : A8), (⟨x0.kind, x0.t⟩ : A8), (⟨x0.kind, x0.t⟩ : A8)] : List A8), AB g2d 142 [clo 214 [jP g3]]]) (q1 := [AB g3 47 [.slice none 0 0]]) (t := .fixed ([(⟨x2.kind, x2.t⟩ : A8), (⟨x0.kind, x0.t⟩ : A8), (⟨x0.kind, x0.t⟩ : A8)] : List A8) (.const [])) F s3e.f4.f4.f2.f4.f4 rfl rfl Cg rfl rfl rfl (.inr m2) (fun _ _ h => SL.CE (n := AS) rfl (SL.Cq (c := 214) (d := 203) (s := 204) (t := 47) rfl (SL.Ca (T := Ty.u8) h).f4).f3.f3.f3) fun v2x w31 _ F s3f => gw 1 F rfl fun _ F => ?_
      have F := F.sub (m' := [(0, jP g9), (1, jP g0), (5, jP g4), (6, jP g5)]) ⟨rfl, rfl, rfl, rfl, trivial⟩
      clear F
      refine ge 3 F rfl fun _ F => gx F (Af (vs := [jI 2]) D6 Hj rfl (cs := [jI 2, jU 0]) (rfl)) 0 rfl rfl fun _ F => ?_
      refine Ad (parts := [(0, .tmp 148)]) BE ([(⟨2, 0⟩ : A8)] : List A8) F s3f Cl rfl (by decide) rfl rfl rfl (by simp [Value.cells]) rfl rfl rfl fun v2y w32 _ F s3g => ?_
      refine Ai (args := [.tmp 149, .const (.bool true)]) F TY rfl (MX (Ae (fO s3g m0)) rfl) rfl fun v2z w33 _ h2k F => ?_
      obtain ⟨g2e, g2f, rfl, h2l⟩ := h2k
      have s3h := s3g.add h2l
      refine gx F (C0 (i := 30) Cd rfl rfl (by decide)) 0 rfl rfl fun _ F => ?_
      refine BX (nn := AS) (T := AE) (qs := [AB g2f 4 [.bool true], AB g2e 224 [v2y], Sl AE v2y ([(⟨2, 0⟩ : A8)] : List A8)]) (q1 := []) (t := .classed ([(⟨2, 0⟩ : A8)] : List A8) true) F s3h.f4.f4.f4.f4.f4 rfl rfl Cg rfl rfl rfl (.inl rfl) (fun _ _ h => SL.QE (n := AS) rfl h.f2.f2.f2) fun v30 w34 _ F s3i => gw 1 F rfl fun _ F => ?_
      have F := F.sub (m' := [(0, jP g9), (1, jP g0), (5, jP g4), (6, jP g5)]) ⟨rfl, rfl, rfl, rfl, trivial⟩
      clear F
      refine ge 3 F rfl fun _ F => gx F (Af (vs := [jI 2]) D6 Hj rfl (cs := [jI 2, jU 0]) (rfl)) 0 rfl rfl fun _ F => ?_
      refine Ad (parts := [(0, .tmp 152)]) BE ([(⟨2, 0⟩ : A8)] : List A8) F s3i Cl rfl (by decide) rfl rfl rfl (by simp [Value.cells]) rfl rfl rfl fun v31 w35 _ F s3j => ?_
      refine Ai (args := [.tmp 153, .const (.bool false)]) F TY rfl (MX (Ae (fO s3j m0)) rfl) rfl fun v32 w36 _ h2m F => ?_
      obtain ⟨g2g, g2h, rfl, h2n⟩ := h2m
      have s3k := s3j.add h2n
      refine gx F (C0 (i := 31) Cd rfl rfl (by decide)) 0 rfl rfl fun _ F => ?_
      refine BX (nn := AS) (T := AE) (qs := [AB g2h 4 [.bool false], AB g2g 224 [v31], Sl AE v31 ([(⟨2, 0⟩ : A8)] : List A8)]) (q1 := []) (t := .classed ([(⟨2, 0⟩ : A8)] : List A8) false) F s3k.f4.f4.f4.f4.f4 rfl rfl Cg rfl rfl rfl (.inl rfl) (fun _ _ h => SL.QE (n := AS) rfl h.f2.f2.f2) fun v33 w37 _ F s3l => gw 1 F rfl fun _ F => ?_
      have F := F.sub (m' := [(0, jP g9), (1, jP g0), (5, jP g4), (6, jP g5)]) ⟨rfl, rfl, rfl, rfl, trivial⟩
      clear F
      refine ge 3 F rfl fun _ F => AV F s3l m4 0 rfl fun _ F => ?_
      refine Ad (parts := [(0, .tmp 156)]) BE ([(⟨x0.kind, x0.t⟩ : A8)] : List A8) F s3l Cl rfl (by decide) rfl rfl rfl (by simp [Value.cells]) rfl rfl rfl fun v34 w38 _ F s3m => ?_
      refine gx F (As WT rfl (SL.YT s3m m2 m0 m0 rfl)) 0 rfl rfl fun _ F => Ai (args := [.tmp 157, .tmp 158]) F CB rfl (BN (Ae (fO s3m m0)) rfl) rfl fun v35 w39 _ h2o F => ?_
      obtain ⟨g2i, g2j, rfl, h2p⟩ := h2o
      have s3n := s3m.add h2p
      refine gx F (C0 (i := 33) Cd rfl rfl (by decide)) 0 rfl rfl fun _ F => ?_
      refine BX (nn := AS) (T := AE) (qs := [AB g2i 224 [v34], Sl AE v34 ([(⟨x0.kind, x0.t⟩ : A8)] : List A8), AB g2j 142 [clo 214 [jP g3]]]) (q1 := [AB g3 47 [.slice none 0 0]]) (t := .fixed ([(⟨x0.kind, x0.t⟩ : A8)] : List A8) (.const [])) F s3n.f4.f4.f2.f4.f4 rfl rfl Cg rfl rfl rfl (.inr m2) (fun _ _ h => SL.CE (n := AS) rfl (SL.Cq (c := 214) (d := 203) (s := 204) (t := 47) rfl (SL.Ca (T := Ty.u8) h).f4).f3.f3.f3) fun v36 w3a _ F s3o => gw 1 F rfl fun _ F => ?_
      have F := F.sub (m' := [(0, jP g9), (6, jP g5)]) ⟨rfl, rfl, trivial⟩
      clear F
      refine ge 3 F rfl fun _ F => gx F (Ar Wv rfl (s3o.Do m0 (o := 0) (ds := v36) (fun j u hu => by rw [Nat.zero_add]; exact hu)) (SL.Qe s3o m1).1.1) 0 rfl rfl fun _ F => ?_
      have h2q := SL.Qe s3o m1
      refine Br (ds := v36) F s3o.f5 rfl rfl (by rw [h2q.1.1]; exact Afb) h2q.1.2 (by rw [h2q.1.1]; rfl) fun w3b _ F s3p => ?_
      refine gw 1 F rfl fun _ F => ?_
      have F := F.sub (m' := [(0, jP g9)]) ⟨rfl, trivial⟩
      clear F
      obtain rfl := BS H
      refine ge 2 F rfl fun _ F => ?_
      refine Aj (rs := [.cell 0 249]) (vs := [.agg ⟨v36⟩]) F (by rfl) ⟨_, _, rfl, Am s3p m0 rfl Wv (SL.Qe s3p m2).1.1, rfl⟩ ⟨_, rfl, ⟨_, rfl, (SL.Qe s3p m2).1.1, s3p.tk 0 rfl, fun k t ht => (SL.Qe s3p m2).2 k t ht⟩⟩
     refine Jb [0, 1, 2, 3] (fun a w_ => ∃ v2r : Value, ∃ v2s : Value, Fr a 162 [(0, jP g9), (1, jP g0), (3, jP g2), (5, jP g4), (6, jP g5), (136, v2r), (137, v2s)] ∧ SL w [] w_ [AB g2 253 [jI x2.kind, jU (x2.t.toNat : Int)], AB g1 253 [jI x1.kind, jU (x1.t.toNat : Int)], AB g0 253 [jI x0.kind, jU (x0.t.toNat : Int)], AB g9 249 (List.replicate 34 .nilFunc), AB g5 249 v2q, Sl AE v2r ([(⟨x2.kind, x2.t⟩ : A8), (⟨x0.kind, x0.t⟩ : A8)] : List A8), Sl Ty.u8 v2s ([(1 : UInt8)] : List UInt8), HC AS AE 34 v2q (NE x0 x1 x2) [[AB g4 142 [clo 214 [jP g3]], AB g3 47 [.slice none 0 0]], [Sl AE v0 ([(⟨x0.kind, x0.t⟩ : A8), (⟨x0.kind, x0.t⟩ : A8)] : List A8)], [AB g3 47 [.slice none 0 0]]]]) ?_ fun hD1 => ?_
     ·rintro a w_ ⟨v2r, v2s, F, s3q⟩
      refine ho 4 rfl (by kernel_rfl) ?_
      refine Ai (args := [.tmp 137]) F C3 rfl (BB (Ae (fO s3q m6))) rfl fun v37 w3c _ h2r F => ?_
      obtain ⟨g29, rfl, h2s⟩ := h2r
      have s3r := s3q.add h2s
      exact gw 1 F rfl fun _ F => ⟨s3r.drop.f4.drop.f4.drop.f4.drop.f4.drop, E5 hD0 ⟨v2r, g29, v2s, F.sb, s3r.f8.f1.f8.f8.f8.f8.f8.f8.f8⟩ (by kernel_rfl)⟩
     refine Hw 2 3 rfl rfl (by kernel_rfl) ?_ ?_
     ·refine Ad (parts := [(0, .tmp 134), (1, .tmp 135)]) BE ([(⟨x2.kind, x2.t⟩ : A8), (⟨x0.kind, x0.t⟩ : A8)] : List A8) F s39.drew Cl rfl (by decide) rfl rfl rfl (by simp [Value.cells]) rfl rfl rfl fun v2r w3d _ F s3s => ?_
      refine gw 1 F rfl fun _ F => ⟨s3s.drop.drop.drop, ?_⟩
      refine ho 3 rfl (by kernel_rfl) ?_
      refine Ad (parts := [(0, .const (jU 1))]) Flat.u8 ([(1 : UInt8)] : List UInt8) F s3s BU rfl (by decide) rfl rfl rfl (by simp [Value.cells]) rfl rfl rfl fun v2s w3e _ F s3t => ?_
      exact gw 1 F rfl fun _ F => ⟨s3t.drop.drop.drop.drop, E5 hD1 ⟨v2r, v2s, F.sb, s3t.f3.f1.f2.f3.f7.f7.f7.f7⟩ (by kernel_rfl)⟩
     refine Ad (parts := [(0, .const (jU 1))]) Flat.u8 ([(1 : UInt8)] : List UInt8) F s39.drew BU rfl (by decide) rfl rfl rfl (by simp [Value.cells]) rfl rfl rfl fun v2s w3e _ F s3t => ?_
     refine gw 1 F rfl fun _ F => ⟨s3t.drop.drop.drop, ?_⟩
     refine Hw 2 4 rfl rfl (by kernel_rfl) ?_ ?_
     ·refine Ad (parts := [(0, .tmp 134), (1, .tmp 135)]) BE ([(⟨x2.kind, x2.t⟩ : A8), (⟨x0.kind, x0.t⟩ : A8)] : List A8) F s3t Cl rfl (by decide) rfl rfl rfl (by simp [Value.cells]) rfl rfl rfl fun v2r w3d _ F s3s => ?_
      exact gw 1 F rfl fun _ F => ⟨s3s.drop.drop.drop.drop, E5 hD1 ⟨v2r, v2s, F.sb, s3s.f3.f2.f2.f3.f7.f7.f7.f7⟩ (by kernel_rfl)⟩
     refine Ai (args := [.tmp 137]) F C3 rfl (BB (Ae (fO s3t m0))) rfl fun v37 w3c _ h2r F => ?_
     obtain ⟨g29, rfl, h2s⟩ := h2r
     have s3r := s3t.add h2s
     refine gw 1 F rfl fun _ F => ⟨s3r.drop.drop.drop.drop, ?_⟩
     refine ho 2 rfl (by kernel_rfl) ?_
     refine Ad (parts := [(0, .tmp 134), (1, .tmp 135)]) BE ([(⟨x2.kind, x2.t⟩ : A8), (⟨x0.kind, x0.t⟩ : A8)] : List A8) F s3r Cl rfl (by decide) rfl rfl rfl (by simp [Value.cells]) rfl rfl rfl fun v2r w3d _ F s3s => ?_
     exact gw 1 F rfl fun _ F => ⟨s3s.drop.drop.drop.drop.drop, E5 hD0 ⟨v2r, g29, v2s, F.sb, s3s.f4.f2.f3.f3.f4.f8.f8.f8.f8⟩ (by kernel_rfl)⟩
    refine Jb [0, 1, 2] (fun a w_ => ∃ v2n : Value, ∃ v2o : Value, Fr a 162 [(0, jP g9), (1, jP g0), (3, jP g2), (5, jP g4), (6, jP g5), (129, v2n), (130, v2o)] ∧ SL w [] w_ [AB g2 253 [jI x2.kind, jU (x2.t.toNat : Int)], AB g1 253 [jI x1.kind, jU (x1.t.toNat : Int)], AB g0 253 [jI x0.kind, jU (x0.t.toNat : Int)], AB g9 249 (List.replicate 34 .nilFunc), AB g5 249 v2m, Sl AE v2n ([(⟨x2.kind, x2.t⟩ : A8)] : List A8), Sl Ty.u8 v2o ([(1 : UInt8)] : List UInt8), HC AS AE 34 v2m (N7 x0 x1 x2) [[AB g4 142 [clo 214 [jP g3]], AB g3 47 [.slice none 0 0]], [Sl AE v0 ([(⟨x0.kind, x0.t⟩ : A8), (⟨x0.kind, x0.t⟩ : A8)] : List A8)], [AB g3 47 [.slice none 0 0]]]]) ?_ fun hD1 => ?_
    ·rintro a w_ ⟨v2n, v2o, F, s3u⟩
     refine ho 3 rfl (by kernel_rfl) ?_
     refine Ai (args := [.tmp 130]) F C3 rfl (BB (Ae (fO s3u m6))) rfl fun v38 w3f _ h2t F => ?_
     obtain ⟨g26, rfl, h2u⟩ := h2t
     have s3v := s3u.add h2u
     exact gw 1 F rfl fun _ F => ⟨s3v.drop.f4.drop.f4.drop.f4.drop.f4.drop, E5 hD0 ⟨v2n, g26, v2o, F.sb, s3v.f8.f1.f8.f8.f8.f8.f8.f8.f8⟩ (by kernel_rfl)⟩
    refine Hw 1 2 rfl rfl (by kernel_rfl) ?_ ?_
    ·refine Ad (parts := [(0, .tmp 128)]) BE ([(⟨x2.kind, x2.t⟩ : A8)] : List A8) F s36.drew Cl rfl (by decide) rfl rfl rfl (by simp [Value.cells]) rfl rfl rfl fun v2n w3g _ F s3w => ?_
     refine gw 1 F rfl fun _ F => ⟨s3w.drop.drop.drop, ?_⟩
     refine ho 2 rfl (by kernel_rfl) ?_
     refine Ad (parts := [(0, .const (jU 1))]) Flat.u8 ([(1 : UInt8)] : List UInt8) F s3w BU rfl (by decide) rfl rfl rfl (by simp [Value.cells]) rfl rfl rfl fun v2o w3h _ F s3x => ?_
     exact gw 1 F rfl fun _ F => ⟨s3x.drop.drop.drop.drop, E5 hD1 ⟨v2n, v2o, F.sb, s3x.f3.f1.f2.f3.f7.f7.f7.f7⟩ (by kernel_rfl)⟩
    refine Ad (parts := [(0, .const (jU 1))]) Flat.u8 ([(1 : UInt8)] : List UInt8) F s36.drew BU rfl (by decide) rfl rfl rfl (by simp [Value.cells]) rfl rfl rfl fun v2o w3h _ F s3x => ?_
    refine gw 1 F rfl fun _ F => ⟨s3x.drop.drop.drop, ?_⟩
    refine Hw 1 3 rfl rfl (by kernel_rfl) ?_ ?_
    ·refine Ad (parts := [(0, .tmp 128)]) BE ([(⟨x2.kind, x2.t⟩ : A8)] : List A8) F s3x Cl rfl (by decide) rfl rfl rfl (by simp [Value.cells]) rfl rfl rfl fun v2n w3g _ F s3w => ?_
     exact gw 1 F rfl fun _ F => ⟨s3w.drop.drop.drop.drop, E5 hD1 ⟨v2n, v2o, F.sb, s3w.f3.f2.f2.f3.f7.f7.f7.f7⟩ (by kernel_rfl)⟩
    refine Ai (args := [.tmp 130]) F C3 rfl (BB (Ae (fO s3x m0))) rfl fun v38 w3f _ h2t F => ?_
    obtain ⟨g26, rfl, h2u⟩ := h2t
    have s3v := s3x.add h2u
    refine gw 1 F rfl fun _ F => ⟨s3v.drop.drop.drop.drop, ?_⟩
    refine ho 1 rfl (by kernel_rfl) ?_
    refine Ad (parts := [(0, .tmp 128)]) BE ([(⟨x2.kind, x2.t⟩ : A8)] : List A8) F s3v Cl rfl (by decide) rfl rfl rfl (by simp [Value.cells]) rfl rfl rfl fun v2n w3g _ F s3w => ?_
    exact gw 1 F rfl fun _ F => ⟨s3w.drop.drop.drop.drop.drop, E5 hD0 ⟨v2n, g26, v2o, F.sb, s3w.f4.f2.f3.f3.f4.f8.f8.f8.f8⟩ (by kernel_rfl)⟩
   refine Jb [0, 1, 2] (fun a w_ => ∃ v2j : Value, ∃ v2k : Value, Fr a 162 [(0, jP g9), (1, jP g0), (3, jP g2), (5, jP g4), (6, jP g5), (123, v2j), (124, v2k)] ∧ SL w [] w_ [AB g2 253 [jI x2.kind, jU (x2.t.toNat : Int)], AB g1 253 [jI x1.kind, jU (x1.t.toNat : Int)], AB g0 253 [jI x0.kind, jU (x0.t.toNat : Int)], AB g9 249 (List.replicate 34 .nilFunc), AB g5 249 v2i, Sl AE v2j ([(⟨x0.kind, x0.t⟩ : A8)] : List A8), Sl Ty.u8 v2k ([(4 : UInt8)] : List UInt8), HC AS AE 34 v2i (NI x0 x1 x2) [[AB g4 142 [clo 214 [jP g3]], AB g3 47 [.slice none 0 0]], [Sl AE v0 ([(⟨x0.kind, x0.t⟩ : A8), (⟨x0.kind, x0.t⟩ : A8)] : List A8)], [AB g3 47 [.slice none 0 0]]]]) ?_ fun hD1 => ?_
   ·rintro a w_ ⟨v2j, v2k, F, s3y⟩
    refine ho 3 rfl (by kernel_rfl) ?_
    refine Ai (args := [.tmp 124]) F C3 rfl (BB (Ae (fO s3y m6))) rfl fun v39 w3i _ h2v F => ?_
    obtain ⟨g23, rfl, h2w⟩ := h2v
    have s3z := s3y.add h2w
    exact gw 1 F rfl fun _ F => ⟨s3z.drop.f4.drop.f4.drop.f4.drop.f4.drop, E5 hD0 ⟨v2j, g23, v2k, F.sb, s3z.f8.f1.f8.f8.f8.f8.f8.f8.f8⟩ (by kernel_rfl)⟩
   refine Hw 1 2 rfl rfl (by kernel_rfl) ?_ ?_
   ·refine Ad (parts := [(0, .tmp 122)]) BE ([(⟨x0.kind, x0.t⟩ : A8)] : List A8) F s33.drew Cl rfl (by decide) rfl rfl rfl (by simp [Value.cells]) rfl rfl rfl fun v2j w3j _ F s40 => ?_
    refine gw 1 F rfl fun _ F => ⟨s40.drop.drop.drop, ?_⟩
    refine ho 2 rfl (by kernel_rfl) ?_
    refine Ad (parts := [(0, .const (jU 4))]) Flat.u8 ([(4 : UInt8)] : List UInt8) F s40 BU rfl (by decide) rfl rfl rfl (by simp [Value.cells]) rfl rfl rfl fun v2k w3k _ F s41 => ?_
    exact gw 1 F rfl fun _ F => ⟨s41.drop.drop.drop.drop, E5 hD1 ⟨v2j, v2k, F.sb, s41.f3.f1.f2.f3.f7.f7.f7.f7⟩ (by kernel_rfl)⟩
   refine Ad (parts := [(0, .const (jU 4))]) Flat.u8 ([(4 : UInt8)] : List UInt8) F s33.drew BU rfl (by decide) rfl rfl rfl (by simp [Value.cells]) rfl rfl rfl fun v2k w3k _ F s41 => ?_
   refine gw 1 F rfl fun _ F => ⟨s41.drop.drop.drop, ?_⟩
   refine Hw 1 3 rfl rfl (by kernel_rfl) ?_ ?_
   ·refine Ad (parts := [(0, .tmp 122)]) BE ([(⟨x0.kind, x0.t⟩ : A8)] : List A8) F s41 Cl rfl (by decide) rfl rfl rfl (by simp [Value.cells]) rfl rfl rfl fun v2j w3j _ F s40 => ?_
    exact gw 1 F rfl fun _ F => ⟨s40.drop.drop.drop.drop, E5 hD1 ⟨v2j, v2k, F.sb, s40.f3.f2.f2.f3.f7.f7.f7.f7⟩ (by kernel_rfl)⟩
   refine Ai (args := [.tmp 124]) F C3 rfl (BB (Ae (fO s41 m0))) rfl fun v39 w3i _ h2v F => ?_
   obtain ⟨g23, rfl, h2w⟩ := h2v
   have s3z := s41.add h2w
   refine gw 1 F rfl fun _ F => ⟨s3z.drop.drop.drop.drop, ?_⟩
   refine ho 1 rfl (by kernel_rfl) ?_
   refine Ad (parts := [(0, .tmp 122)]) BE ([(⟨x0.kind, x0.t⟩ : A8)] : List A8) F s3z Cl rfl (by decide) rfl rfl rfl (by simp [Value.cells]) rfl rfl rfl fun v2j w3j _ F s40 => ?_
   exact gw 1 F rfl fun _ F => ⟨s40.drop.drop.drop.drop.drop, E5 hD0 ⟨v2j, g23, v2k, F.sb, s40.f4.f2.f3.f3.f4.f8.f8.f8.f8⟩ (by kernel_rfl)⟩
  refine Jb [0, 1, 2] (fun a w_ => ∃ v1z : Value, ∃ v20 : Value, Fr a 162 [(0, jP g9), (1, jP g0), (2, jP g1), (3, jP g2), (5, jP g4), (6, jP g5), (96, v1z), (97, v20)] ∧ SL w [] w_ [AB g4 142 [clo 214 [jP g3]], AB g2 253 [jI x2.kind, jU (x2.t.toNat : Int)], AB g1 253 [jI x1.kind, jU (x1.t.toNat : Int)], AB g0 253 [jI x0.kind, jU (x0.t.toNat : Int)], AB g9 249 (List.replicate 34 .nilFunc), Sl AE v1z ([(⟨x1.kind, x1.t⟩ : A8)] : List A8), Sl Ty.u8 v20 ([(2 : UInt8)] : List UInt8), AB g5 249 v1y, HC AS AE 34 v1y (N8 x0 x1 x2) [[Sl AE v0 ([(⟨x0.kind, x0.t⟩ : A8), (⟨x0.kind, x0.t⟩ : A8)] : List A8)], [AB g3 47 [.slice none 0 0]]]]) ?_ fun hD1 => ?_
  ·rintro a w_ ⟨v1z, v20, F, s42⟩
   refine ho 3 rfl (by kernel_rfl) ?_
   refine Ai (args := [.tmp 97]) F C3 rfl (BB (Ae (fO s42 m6))) rfl fun v3a w3l _ h2x F => ?_
   obtain ⟨g1r, rfl, h2y⟩ := h2x
   have s43 := s42.add h2y
   exact gw 1 F rfl fun _ F => ⟨s43.drop.f5.drop.f5.drop.f5.drop.f5.drop, E5 hD0 ⟨v1z, g1r, v20, F.sb, s43.f9.f9.f2.f9.f9.f9.f9.f9.f9.f9⟩ (by kernel_rfl)⟩
  refine Hw 1 2 rfl rfl (by kernel_rfl) ?_ ?_
  ·refine Ad (parts := [(0, .tmp 95)]) BE ([(⟨x1.kind, x1.t⟩ : A8)] : List A8) F s2j.drew Cl rfl (by decide) rfl rfl rfl (by simp [Value.cells]) rfl rfl rfl fun v1z w3m _ F s44 => ?_
   refine gw 1 F rfl fun _ F => ⟨s44.drop.drop.drop, ?_⟩
   refine ho 2 rfl (by kernel_rfl) ?_
   refine Ad (parts := [(0, .const (jU 2))]) Flat.u8 ([(2 : UInt8)] : List UInt8) F s44 BU rfl (by decide) rfl rfl rfl (by simp [Value.cells]) rfl rfl rfl fun v20 w3n _ F s45 => ?_
   exact gw 1 F rfl fun _ F => ⟨s45.drop.drop.drop.drop, E5 hD1 ⟨v1z, v20, F.sb, s45.f3.f3.f2.f3.f8.f8.f8.f8.f8⟩ (by kernel_rfl)⟩
  refine Ad (parts := [(0, .const (jU 2))]) Flat.u8 ([(2 : UInt8)] : List UInt8) F s2j.drew BU rfl (by decide) rfl rfl rfl (by simp [Value.cells]) rfl rfl rfl fun v20 w3n _ F s45 => ?_
  refine gw 1 F rfl fun _ F => ⟨s45.drop.drop.drop, ?_⟩
  refine Hw 1 3 rfl rfl (by kernel_rfl) ?_ ?_
  ·refine Ad (parts := [(0, .tmp 95)]) BE ([(⟨x1.kind, x1.t⟩ : A8)] : List A8) F s45 Cl rfl (by decide) rfl rfl rfl (by simp [Value.cells]) rfl rfl rfl fun v1z w3m _ F s44 => ?_
   exact gw 1 F rfl fun _ F => ⟨s44.drop.drop.drop.drop, E5 hD1 ⟨v1z, v20, F.sb, s44.f3.f3.f3.f3.f8.f8.f8.f8.f8⟩ (by kernel_rfl)⟩
  refine Ai (args := [.tmp 97]) F C3 rfl (BB (Ae (fO s45 m0))) rfl fun v3a w3l _ h2x F => ?_
  obtain ⟨g1r, rfl, h2y⟩ := h2x
  have s43 := s45.add h2y
  refine gw 1 F rfl fun _ F => ⟨s43.drop.drop.drop.drop, ?_⟩
  refine ho 1 rfl (by kernel_rfl) ?_
  refine Ad (parts := [(0, .tmp 95)]) BE ([(⟨x1.kind, x1.t⟩ : A8)] : List A8) F s43 Cl rfl (by decide) rfl rfl rfl (by simp [Value.cells]) rfl rfl rfl fun v1z w3m _ F s44 => ?_
  exact gw 1 F rfl fun _ F => ⟨s44.drop.drop.drop.drop.drop, E5 hD0 ⟨v1z, g1r, v20, F.sb, s44.f4.f4.f3.f4.f4.f9.f9.f9.f9.f9⟩ (by kernel_rfl)⟩
 refine Jb [0, 1, 2] (fun a w_ => ∃ v1m : Value, ∃ v1n : Value, Fr a 162 [(0, jP g9), (1, jP g0), (2, jP g1), (3, jP g2), (4, v0), (5, jP g4), (6, jP g5), (78, v1m), (79, v1n)] ∧ SL w [] w_ [AB g12 5 [jU 9, jU 10, jU 11, jU 12, jU 13], AB g4 142 [clo 214 [jP g3]], AB g2 253 [jI x2.kind, jU (x2.t.toNat : Int)], AB g1 253 [jI x1.kind, jU (x1.t.toNat : Int)], AB g0 253 [jI x0.kind, jU (x0.t.toNat : Int)], AB g9 249 (List.replicate 34 .nilFunc), Sl AE v1m ([(⟨x0.kind, x0.t⟩ : A8)] : List A8), Sl Ty.u8 v1n ([(1 : UInt8)] : List UInt8), AB g5 249 v1l, HC AS AE 34 v1l (N1 x0 x1 x2) [[Sl AE v0 ([(⟨x0.kind, x0.t⟩ : A8), (⟨x0.kind, x0.t⟩ : A8)] : List A8)], [AB g3 47 [.slice none 0 0]]]]) ?_ fun hD1 => ?_
 ·rintro a w_ ⟨v1m, v1n, F, s46⟩
  refine ho 3 rfl (by kernel_rfl) ?_
  refine Ai (args := [.tmp 79]) F C3 rfl (BB (Ae (fO s46 m7))) rfl fun v3b w3o _ h2z F => ?_
  obtain ⟨g1i, rfl, h30⟩ := h2z
  have s47 := s46.add h30
  exact gw 1 F rfl fun _ F => ⟨s47.drop.f6.drop.f6.drop.f6.drop.f6.drop, E5 hD0 ⟨v1m, g1i, v1n, F.sb, s47.f10.f10.f2.f10.f10.f10.f10.f10.f10.f10.f10⟩ (by kernel_rfl)⟩
 refine Hw 1 2 rfl rfl (by kernel_rfl) ?_ ?_
 ·refine Ad (parts := [(0, .tmp 77)]) BE ([(⟨x0.kind, x0.t⟩ : A8)] : List A8) F s27.drew Cl rfl (by decide) rfl rfl rfl (by simp [Value.cells]) rfl rfl rfl fun v1m w3p _ F s48 => ?_
  refine gw 1 F rfl fun _ F => ⟨s48.drop.drop.drop, ?_⟩
  refine ho 2 rfl (by kernel_rfl) ?_
  refine Ad (parts := [(0, .const (jU 1))]) Flat.u8 ([(1 : UInt8)] : List UInt8) F s48 BU rfl (by decide) rfl rfl rfl (by simp [Value.cells]) rfl rfl rfl fun v1n w3q _ F s49 => ?_
  exact gw 1 F rfl fun _ F => ⟨s49.drop.drop.drop.drop, E5 hD1 ⟨v1m, v1n, F.sb, s49.f3.f3.f2.f3.f9.f9.f9.f9.f9.f9⟩ (by kernel_rfl)⟩
 refine Ad (parts := [(0, .const (jU 1))]) Flat.u8 ([(1 : UInt8)] : List UInt8) F s27.drew BU rfl (by decide) rfl rfl rfl (by simp [Value.cells]) rfl rfl rfl fun v1n w3q _ F s49 => ?_
 refine gw 1 F rfl fun _ F => ⟨s49.drop.drop.drop, ?_⟩
 refine Hw 1 3 rfl rfl (by kernel_rfl) ?_ ?_
 ·refine Ad (parts := [(0, .tmp 77)]) BE ([(⟨x0.kind, x0.t⟩ : A8)] : List A8) F s49 Cl rfl (by decide) rfl rfl rfl (by simp [Value.cells]) rfl rfl rfl fun v1m w3p _ F s48 => ?_
  exact gw 1 F rfl fun _ F => ⟨s48.drop.drop.drop.drop, E5 hD1 ⟨v1m, v1n, F.sb, s48.f3.f3.f3.f3.f9.f9.f9.f9.f9.f9⟩ (by kernel_rfl)⟩
 refine Ai (args := [.tmp 79]) F C3 rfl (BB (Ae (fO s49 m0))) rfl fun v3b w3o _ h2z F => ?_
 obtain ⟨g1i, rfl, h30⟩ := h2z
 have s47 := s49.add h30
 refine gw 1 F rfl fun _ F => ⟨s47.drop.drop.drop.drop, ?_⟩
 refine ho 1 rfl (by kernel_rfl) ?_
 refine Ad (parts := [(0, .tmp 77)]) BE ([(⟨x0.kind, x0.t⟩ : A8)] : List A8) F s47 Cl rfl (by decide) rfl rfl rfl (by simp [Value.cells]) rfl rfl rfl fun v1m w3p _ F s48 => ?_
 exact gw 1 F rfl fun _ F => ⟨s48.drop.drop.drop.drop.drop, E5 hD0 ⟨v1m, g1i, v1n, F.sb, s48.f4.f4.f3.f4.f4.f10.f10.f10.f10.f10.f10⟩ (by kernel_rfl)⟩
theorem Zo {w : World} {v0_0 v0_1 : Value} {a0 : AD} {a1 : AA} {r : Bz × Int} (hr0_0 : Rd AL w [] v0_0 a0.Classes) (hr0_1 : Rd Bs w [] v0_1 a0.AP) (H : Pj a0 a1 = some r) :
    Calls prog 205 #[.agg ⟨[v0_0, v0_1, jI a0.Fn]⟩, .agg ⟨[jI a1.At, jU (a1.Op.toNat : Int), jI a1.A, jI a1.B]⟩] w (B8 fun u_ w_ => ∃ u0 u1 : Value, u_ = .tuple ⟨[.agg ⟨[u0, u1]⟩, jI r.2]⟩ ∧ SL w [] w_ [Sl AE u0 r.1.takes, Ju 214 203 204 47 u1 r.1.gives]) := by
 have s0 : SL w [] w [] := SL.BF w
 refine Cb func205 ntmps205 2 rfl rfl rfl fun _ F0 => ?_
 unfold Pj at H
 refine Ao F0 s0 rfl rfl rfl fun g0 w0 _ F s1 => Ao F s1 rfl rfl rfl fun g1 w1 _ F s2 => Ag F s2 Cw rfl rfl fun g32 w2 _ F s3 => gw 7 F rfl fun _ F => AV F s3 m1 2 rfl fun _ F => Cp 13 F H (fun h0 H F => ?_) (fun h0 H F => ?_)
 ·refine gw 12 F rfl fun _ F => gx F (Af (vs := []) Cw E0 rfl (cs := [.slice none 0 0, .nilFunc]) (rfl)) 0 rfl rfl fun _ F => Ah F s3 rfl rfl DW (Ab rfl (Ab rfl Al)) (Ac rfl) fun w3 _ F s4 => ?_
  cases H
  refine gw 5 F rfl fun _ F => ?_
  refine Aj (rs := [.cell 4 226, .tmp 5]) (vs := [.agg ⟨[.slice none 0 0, .nilFunc]⟩, jI 71]) F (by rfl) ⟨_, _, rfl, Am s4 m0 rfl D4 rfl, _, _, rfl, An rfl, rfl⟩ ⟨_, rfl, ⟨(.slice none 0 0), .nilFunc, rfl, (SL.ML (SL.Ca (T := AE) s4)).f2.drop.f2.drop.f2.drop.f1⟩⟩
 refine gw 1 F rfl fun _ F => AY F rfl rfl <| AV F s3 m1 1 rfl fun _ F => AY F rfl rfl <| AV F s3 m2 0 rfl fun _ F => AY F rfl rfl <| gx F (Ak rfl underlying108 (fR hr0_1 s3)) 4 rfl rfl fun _ F => Be F H 2 4 rfl rfl rfl (fun h1 H _ F => ?_) (fun h1 H _ F => ?_)
 ·refine gx F (Af (vs := []) Cw E0 rfl (cs := [.slice none 0 0, .nilFunc]) (rfl)) 0 rfl rfl fun _ F => Ah F s3 rfl rfl DW (Ab rfl (Ab rfl Al)) (Ac rfl) fun w4 _ F s5 => ?_
  cases H
  refine gw 5 F rfl fun _ F => ?_
  refine Aj (rs := [.cell 4 226, .tmp 5]) (vs := [.agg ⟨[.slice none 0 0, .nilFunc]⟩, jI 71]) F (by rfl) ⟨_, _, rfl, Am s5 m0 rfl D4 rfl, _, _, rfl, An rfl, rfl⟩ ⟨_, rfl, ⟨(.slice none 0 0), .nilFunc, rfl, (SL.ML (SL.Ca (T := AE) s5)).f2.drop.f2.drop.f2.drop.f1⟩⟩
 obtain ⟨x0, h2, H⟩ := Aa H
 obtain ⟨a2, c0, G0, h3, h4, h5, h6⟩ := Rd.idx hr0_1 JG rfl h2
 obtain ⟨v0, rfl, h7⟩ := (LY h5 h6)
 replace h4 := h4 _ _ s3
 refine gw 1 F rfl fun _ F => AV F s3 m2 1 rfl fun _ F => AV F s3 m1 0 rfl fun _ F => gi F h3 0 rfl fun _ F => gx F (Ar TM rfl h4 rfl) 0 rfl rfl fun _ F => Ag F s3 NF rfl rfl fun g2 w5 _ F s6 => Ah F s6 rfl rfl VT (Ab (Ap (fR h7 s6)) (Ab rfl Al)) (Ac rfl) fun w6 _ F s7 => gw 11 F rfl fun _ F => AV F s7 m0 0 rfl fun _ F => ?_
 obtain ⟨o0, H0, R0⟩ := Aa H
 clear H
 refine gx F (Ak rfl underlying47 (fR h7 s7)) 3 rfl rfl fun _ F => Cx (fun a w_ => ∃ v1 : Value, Fr a 53 [(4, jP g32), (6, jP g2), (7, v1)] ∧ SL w [] w_ [AB g2 50 [v0, jU (x0.Result.toNat : Int)], AB g32 226 [.slice none 0 0, .nilFunc], Sl AE v1 o0]) ?_ ?_
 ·have H := H0
  refine gc 1 F rfl fun _ F => E6 (Ie x0) (fun s8 a w_ => ∃ v2 : Value, Fr a 53 [(4, jP g32), (6, jP g2), (7, v2), (29, v0), (30, jI (x0.B5.length : Int)), (31, jI s8.2)] ∧ SL w [] w_ [AB g2 50 [v0, jU (x0.Result.toNat : Int)], AB g32 226 [.slice none 0 0, .nilFunc], Sl AE v2 s8.1]) H ?_ ?_
  ·exact ⟨(.slice none 0 0), F.sb, (SL.Ca (T := AE) s7).f3.drop.f3.drop.f2.f2⟩
  intro s8 _ w7 h8 o1 H hr
  obtain ⟨v2, F, s9⟩ := h8
  replace H : Ie x0 s8 = some o1 := H
  unfold Ie at H
  refine gc 6 F rfl fun _ F => Be F H 6 4 rfl rfl rfl (fun h9 H _ F => ?_) (fun h9 H _ F => ?_)
  ·obtain ⟨x1, ha, H⟩ := Aa H
   obtain ⟨a3, hb, hc⟩ := Lm Flat.u8 (EZ h7 s9) BU rfl ha
   refine gi F hb 0 rfl fun _ F => ?_
   obtain ⟨x2, hd, H⟩ := Aa H
   refine gx F (As DV rfl (Cells.at_ hc (o := 0) rfl)) 6 rfl rfl fun _ F => BW F s9 (J7 hd) 0 rfl rfl rfl rfl fun w8 _ F sa => ?_
   refine Ad (parts := [(0, .tmp 37)]) BE ([x2] : List A8) F sa Cl rfl (by decide) rfl rfl rfl (by simp [Value.cells]) rfl rfl rfl fun v3 w9 _ F sc => ?_
   obtain ⟨x3, he, H⟩ := Aa H
   obtain ⟨_, hr_⟩ := (sc.f3.BO m1)
   refine Aq BE F sc.f3 Cl rfl rfl rfl rfl hr_ rfl rfl he rfl fun v4 wa _ F sd => ?_
   have s2463' := sd.f1.drop
   cases H
   exact gw 8 F rfl fun _ F => ⟨_, rfl, v4, F.sb, s2463'.f2.f2⟩
  cases H
  obtain rfl := hr _ rfl
  exact ⟨v2, F.sb, s9⟩
 intro _ wb hJ
 obtain ⟨v1, F, se⟩ := hJ
 have H := R0
 clear R0 H0
 refine ge 5 F rfl fun _ F => AV F se m0 3 rfl fun _ F => Be F H 3 6 rfl rfl rfl (fun hf H _ F => ?_) (fun hf H _ F => ?_)
 ·refine Ai (args := [.const (.slice none 0 0)]) F C3 rfl (BB rfl) rfl fun v5 wc _ hg F => ?_
  obtain ⟨g3, hh, hi⟩ := hg
  have sf := se.add hi
  have sg := SL.Cq (c := 214) (d := 203) (s := 204) hh ((SL.Ca (T := Ty.u8) sf).f1)
  have hj := (fO sg m3)
  have hk := sg.EU m0
  refine gx F (Af (vs := [v1, v5]) Cw E0 rfl (cs := [v1, v5]) (D8 rfl (Ae hj) (by simp) <| D8 rfl (hk).1 (by simp) <| Ch)) 0 rfl rfl fun _ F => ?_
  refine Ah F sg.f2 rfl rfl DW (Ab (Ap (fO sg.f2 m3)) (Ab (sg.f2.EU m1).2 Al)) (Ac rfl) fun wd _ F sh => ?_
  cases H
  refine gw 5 F rfl fun _ F => ?_
  refine Aj (rs := [.cell 4 226, .tmp 5]) (vs := [.agg ⟨[v1, v5]⟩, jI 0]) F (by rfl) ⟨_, _, rfl, Am sh m0 rfl D4 rfl, _, _, rfl, An rfl, rfl⟩ ⟨_, rfl, ⟨v1, v5, rfl, sh.drop.f1.drop.f1⟩⟩
 refine AV F se m0 0 rfl fun _ F => ?_
 refine Ad (parts := [(0, .tmp 49)]) Flat.u8 ([x0.Result] : List UInt8) F se BU rfl (by decide) rfl rfl rfl (by simp [Value.cells]) rfl rfl rfl fun v6 we _ F si => ?_
 refine Ai (args := [.tmp 50]) F C3 rfl (BB (Ae (fO si m0))) rfl fun v7 wf _ hl F => ?_
 obtain ⟨g4, hm, hn⟩ := hl
 have sj := si.add hn
 have sk := SL.Cq (c := 214) (d := 203) (s := 204) hm sj.f1.f1
 have ho := (fO sk m3)
 have hp := sk.EU m0
 refine gx F (Af (vs := [v1, v7]) Cw E0 rfl (cs := [v1, v7]) (D8 rfl (Ae ho) (by simp) <| D8 rfl (hp).1 (by simp) <| Ch)) 0 rfl rfl fun _ F => ?_
 refine Ah F sk.f2 rfl rfl DW (Ab (Ap (fO sk.f2 m3)) (Ab (sk.f2.EU m1).2 Al)) (Ac rfl) fun wg _ F sl => ?_
 cases H
 refine gw 4 F rfl fun _ F => ?_
 refine Aj (rs := [.cell 4 226, .tmp 5]) (vs := [.agg ⟨[v1, v7]⟩, jI 0]) F (by rfl) ⟨_, _, rfl, Am sl m0 rfl D4 rfl, _, _, rfl, An rfl, rfl⟩ ⟨_, rfl, ⟨v1, v7, rfl, sl.drop.f1.drop.f1⟩⟩
theorem VU {w : World} {a0 : UInt8} {r : (List A8)} (H : M8 a0 = some r) :
    Calls prog 207 #[jU (a0.toNat : Int)] w (B8 fun u_ w_ => ∃ u0 : Value, u_ = u0 ∧ SL w [] w_ [Sl AE u0 r]) := by
 have s0 : SL w [] w [] := SL.BF w
 refine Cb func207 ntmps207 12 rfl rfl rfl fun _ F => ?_
 unfold M8 at H
 refine Be F H 7 5 rfl rfl rfl (fun h0 H _ F => ?_) (fun h0 H _ F => ?_)
 ·cases H
  exact rt F ⟨(.slice none 0 0), rfl, (SL.Ca (T := AE) s0)⟩
 obtain ⟨x0, h1, H⟩ := Aa H
 refine BW F s0 (J7 h1) 0 rfl rfl rfl rfl fun w0 _ F s1 => ?_
 refine Ad (parts := [(0, .tmp 6)]) BE ([x0] : List A8) F s1 Cl rfl (by decide) rfl rfl rfl (by simp [Value.cells]) rfl rfl rfl fun v0 w1 _ F s2 => ?_
 cases H
 exact gw 4 F rfl fun _ F => rt F ⟨v0, rfl, s2⟩
theorem TG {w : World} {FF : List Nat} {g2 : Nat} {v0_0 v0_1 v2_0 : Value} {a0 : AD} {a1 : AA} {a2 : Gv} {r : Bz × Int} (hst : Ba [AB g2 142 [v2_0], Ju 214 203 204 47 v2_0 a2] w FF) (hr0_0 : Rd AL w FF v0_0 a0.Classes) (hr0_1 : Rd Bs w FF v0_1 a0.AP) (H : KV a0 a1 a2 = some r) :
    Calls prog 206 #[.agg ⟨[v0_0, v0_1, jI a0.Fn]⟩, .agg ⟨[jI a1.At, jU (a1.Op.toNat : Int), jI a1.A, jI a1.B]⟩, jP g2] w (B8 fun u_ w_ => ∃ u0 u1 : Value, u_ = .tuple ⟨[.agg ⟨[u0, u1]⟩, jI r.2]⟩ ∧ SL w FF w_ [Sl AE u0 r.1.takes, Ju 214 203 204 47 u1 r.1.gives]) := by
 have s0 : SL w FF w [AB g2 142 [v2_0], Ju 214 203 204 47 v2_0 a2] := SL.init w FF hst
 refine Cb func206 ntmps206 2 rfl rfl rfl fun _ F0 => ?_
 unfold KV at H
 refine Ao F0 s0 rfl rfl rfl fun g0 w0 _ F s1 => Ao F s1 rfl rfl rfl fun g1 w1 _ F s2 => Ag F s2 Cw rfl rfl fun g32 w2 _ F s3 => ?_
 obtain ⟨x0, h0, H⟩ := Aa H
 obtain ⟨x1, h1, H⟩ := Aa H
 refine gw 4 F rfl fun _ F => Dk BL s3.drop ?_
 obtain ⟨a3, c0, G0, h2, h3, h4, h5⟩ := Rd.idx hr0_1 JG rfl h0
 obtain ⟨v0, rfl, h6⟩ := (LY h4 h5)
 have hc159_ := h3; clear h3; have h3 := fun w_ (hC : SL w FF w_ [AB g1 79 [jI a1.At, jU (a1.Op.toNat : Int), jI a1.A, jI a1.B], AB g0 110 [v0_0, v0_1, jI a0.Fn], AB g2 142 [v2_0], Ju 214 203 204 47 v2_0 a2]) => hc159_ _ _ hC
 refine hq [0, 1, 2, 3, 4, 5, 6, 8] F s3.drew.drop (QI.ev 1 rfl <| QI.ld m1 rfl <| QI.ev 1 rfl <| QI.ld m1 rfl <| QI.ix h2 rfl <| QI.op rfl (fun _ hC => Ke Ad7 rfl) rfl <| QI.op rfl (fun _ hC => As DV rfl (Cells.at_ (h3 _ hC) (o := 1) rfl)) rfl <| QI.ld m2 rfl <| QI.nil) (by kernel_rfl) fun _ F => ?_
 refine ho 7 rfl (by kernel_rfl) ?_
 refine Ei F (VU h1) fun v1 w3 _ h7 F => ?_
 obtain ⟨_, rfl, h8⟩ := h7
 have s4 := s3.drew.add h8
 refine gw 1 F rfl fun _ F => ⟨s4.drop.drop, ?_⟩
 refine ho 9 rfl (by kernel_rfl) ?_
 have h9 := (fO s4 m0)
 have ha := s4.EU m5
 refine gx F (Af (vs := [v1, v2_0]) Cw E0 rfl (cs := [v1, v2_0]) (D8 rfl (Ae h9) (by simp) <| D8 rfl (ha).1 (by simp) <| Ch)) 1 rfl rfl fun _ F => ?_
 refine ⟨s4.drop.drop, ?_⟩
 refine ho 10 rfl (by kernel_rfl) ?_
 refine Ah F s4.f1 rfl rfl DW (Ab (Ap (fO s4.f1 m1)) (Ab (s4.f1.EU m5).2 Al)) (Ac rfl) fun w4 _ F s5 => gw 1 F rfl fun _ F => ⟨s5.drop.drop, ?_⟩
 refine hq [11] F s5.drop.drop (QI.ev 1 rfl <| QI.nil) (by kernel_rfl) fun _ F => ?_
 refine Ea (by kernel_rfl) ?_
 cases H
 refine ge 2 F rfl fun _ F => ?_
 refine Aj (rs := [.cell 5 226, .tmp 6]) (vs := [.agg ⟨[v1, v2_0]⟩, jI 0]) F (by rfl) ⟨_, _, rfl, Am s5 m0 rfl D4 rfl, _, _, rfl, An rfl, rfl⟩ ⟨_, rfl, ⟨v1, v2_0, rfl, s5.drop.f1.drop.f1.drop.f1.drop⟩⟩
theorem TT {w : World} {FF : List Nat} {g2 g3 : Nat} {v0_0 v0_1 v2_0 v3_0 : Value} {a0 : AD} {a1 : AA} {a2 : List A8} {a3 : Gv} {r : Bz × Int} (hst : Ba [AB g2 224 [v2_0], Sl AE v2_0 a2, AB g3 142 [v3_0], Ju 214 203 204 47 v3_0 a3] w FF) (hr0_0 : Rd AL w FF v0_0 a0.Classes) (hr0_1 : Rd Bs w FF v0_1 a0.AP) (H : Lg a0 a1 a2 a3 = some r) :
    Calls prog 215 #[.agg ⟨[v0_0, v0_1, jI a0.Fn]⟩, .agg ⟨[jI a1.At, jU (a1.Op.toNat : Int), jI a1.A, jI a1.B]⟩, jP g2, jP g3] w (B8 fun u_ w_ => ∃ u0 u1 : Value, u_ = .tuple ⟨[.agg ⟨[u0, u1]⟩, jI r.2]⟩ ∧ SL w FF w_ [Sl AE u0 r.1.takes, Ju 214 203 204 47 u1 r.1.gives]) := by
 have s0 : SL w FF w [AB g2 224 [v2_0], Sl AE v2_0 a2, AB g3 142 [v3_0], Ju 214 203 204 47 v3_0 a3] := SL.init w FF hst
 refine Cb func215 ntmps215 2 rfl rfl rfl fun _ F0 => ?_
 unfold Lg at H
 refine Ao F0 s0 rfl rfl rfl fun g0 w0 _ F s1 => Ao F s1 rfl rfl rfl fun g1 w1 _ F s2 => Ag F s2 Cw rfl rfl fun g32 w2 _ F s3 => ?_
 have h0 := (fO s3 m4)
 have h1 := s3.EU m6
 refine gw 5 F rfl fun _ F => AV F s3 m3 0 rfl fun _ F => AV F s3 m5 0 rfl fun _ F => ?_
 refine gx F (Af (vs := [v2_0, v3_0]) Cw E0 rfl (cs := [v2_0, v3_0]) (D8 rfl (Ae h0) (by simp) <| D8 rfl (h1).1 (by simp) <| Ch)) 0 rfl rfl fun _ F => ?_
 refine Ah F s3 rfl rfl DW (Ab (Ap (fO s3 m4)) (Ab (s3.EU m6).2 Al)) (Ac rfl) fun w3 _ F s4 => ?_
 cases H
 refine gw 4 F rfl fun _ F => ?_
 refine Aj (rs := [.cell 6 226, .tmp 7]) (vs := [.agg ⟨[v2_0, v3_0]⟩, jI 0]) F (by rfl) ⟨_, _, rfl, Am s4 m0 rfl D4 rfl, _, _, rfl, An rfl, rfl⟩ ⟨_, rfl, ⟨v2_0, v3_0, rfl, s4.drop.drop.drop.drop.f1.drop⟩⟩
theorem OK {w : World} {a0 : Int} {r : UInt8} (H : ME a0 = some r) :
    Calls prog 217 #[jI a0] w (B8 fun u_ w_ => u_ = jU (r.toNat : Int) ∧ SL w [] w_ []) := by
 have s0 : SL w [] w [] := SL.BF w
 refine Cb func217 ntmps217 8 rfl rfl rfl fun _ F7 => ?_
 unfold ME at H
 refine gx F7 (Ad9 rfl underlying3 underlying48) 0 rfl rfl fun _ F8 => ?_
 cases H
 exact gx F8 (ZR rfl rfl) 4 rfl rfl fun _ F => rt F ⟨rfl, s0⟩
theorem QV {w : World} {FF : List Nat} {g2 g3 : Nat} {v0_0 v0_1 v3_0 : Value} {a0 : AD} {a1 : AA} {a2 : Bool} {a3 : List A8} {r : Bz × Int} (hst : Ba [AB g2 4 [.bool a2], AB g3 224 [v3_0], Sl AE v3_0 a3] w FF) (hr0_0 : Rd AL w FF v0_0 a0.Classes) (hr0_1 : Rd Bs w FF v0_1 a0.AP) (H : Ih a0 a1 a2 a3 = some r) :
    Calls prog 216 #[.agg ⟨[v0_0, v0_1, jI a0.Fn]⟩, .agg ⟨[jI a1.At, jU (a1.Op.toNat : Int), jI a1.A, jI a1.B]⟩, jP g2, jP g3] w (B8 fun u_ w_ => ∃ u0 u1 : Value, u_ = .tuple ⟨[.agg ⟨[u0, u1]⟩, jI r.2]⟩ ∧ SL w FF w_ [Sl AE u0 r.1.takes, Ju 214 203 204 47 u1 r.1.gives]) := by
 have s0 : SL w FF w [AB g2 4 [.bool a2], AB g3 224 [v3_0], Sl AE v3_0 a3] := SL.init w FF hst
 refine Cb func216 ntmps216 2 rfl rfl rfl fun _ F0 => ?_
 unfold Ih at H
 refine Ao F0 s0 rfl rfl rfl fun g0 w0 _ F s1 => Ao F s1 rfl rfl rfl fun g1 w1 _ F s2 => Ag F s2 Cw rfl rfl fun g32 w2 _ F s3 => gw 7 F rfl fun _ F => AV F s3 m1 2 rfl fun _ F => Cp 11 F H (fun h0 H F => ?_) (fun h0 H F => ?_)
 ·refine gw 12 F rfl fun _ F => gx F (Af (vs := []) Cw E0 rfl (cs := [.slice none 0 0, .nilFunc]) (rfl)) 0 rfl rfl fun _ F => Ah F s3 rfl rfl DW (Ab rfl (Ab rfl Al)) (Ac rfl) fun w3 _ F s4 => ?_
  cases H
  refine gw 5 F rfl fun _ F => ?_
  refine Aj (rs := [.cell 6 226, .tmp 7]) (vs := [.agg ⟨[.slice none 0 0, .nilFunc]⟩, jI 72]) F (by rfl) ⟨_, _, rfl, Am s4 m0 rfl D4 rfl, _, _, rfl, An rfl, rfl⟩ ⟨_, rfl, ⟨(.slice none 0 0), .nilFunc, rfl, (SL.ML (SL.Ca (T := AE) s4)).f2.drop.f2.drop.f2.drop.f2.drop.f2.drop.f2.drop.f1⟩⟩
 refine gw 1 F rfl fun _ F => AY F rfl rfl <| AV F s3 m1 1 rfl fun _ F => AY F rfl rfl <| AV F s3 m2 0 rfl fun _ F => AY F rfl rfl <| gx F (Ak rfl underlying22 (fR hr0_0 s3)) 4 rfl rfl fun _ F => Be F H 2 5 rfl rfl rfl (fun h1 H _ F => ?_) (fun h1 H _ F => ?_)
 ·refine gx F (Af (vs := []) Cw E0 rfl (cs := [.slice none 0 0, .nilFunc]) (rfl)) 0 rfl rfl fun _ F => Ah F s3 rfl rfl DW (Ab rfl (Ab rfl Al)) (Ac rfl) fun w4 _ F s5 => ?_
  cases H
  refine gw 5 F rfl fun _ F => ?_
  refine Aj (rs := [.cell 6 226, .tmp 7]) (vs := [.agg ⟨[.slice none 0 0, .nilFunc]⟩, jI 72]) F (by rfl) ⟨_, _, rfl, Am s5 m0 rfl D4 rfl, _, _, rfl, An rfl, rfl⟩ ⟨_, rfl, ⟨(.slice none 0 0), .nilFunc, rfl, (SL.ML (SL.Ca (T := AE) s5)).f2.drop.f2.drop.f2.drop.f2.drop.f2.drop.f2.drop.f1⟩⟩
 refine AV F s3 m3 3 rfl fun _ F => Be F H 1 3 rfl rfl rfl (fun h2 H _ F => ?_) (fun h2 H _ F => ?_)
 ·refine Dk BL s3.drop ?_
  refine hq [0] F s3.drew.drop (QI.ld m3 rfl <| QI.nil) (by kernel_rfl) fun _ F => ?_
  refine ho 1 rfl (by kernel_rfl) ?_
  refine Ad (parts := [(0, .const (jU 2))]) Flat.u8 ([(2 : UInt8)] : List UInt8) F s3.drew BU rfl (by decide) rfl rfl rfl (by simp [Value.cells]) rfl rfl rfl fun v0 w5 _ F s6 => ?_
  refine gw 1 F rfl fun _ F => ⟨s6.drop.drop, ?_⟩
  refine ho 2 rfl (by kernel_rfl) ?_
  refine Ai (args := [.tmp 23]) F C3 rfl (BB (Ae (fO s6 m0))) rfl fun v1 w6 _ h3 F => ?_
  obtain ⟨g4, h4, h5⟩ := h3
  have s7 := s6.add h5
  have s8 := SL.Cq (c := 214) (d := 203) (s := 204) h4 s7.f1.f1
  refine gw 1 F rfl fun _ F => ⟨s8.drop.drop, ?_⟩
  refine ho 3 rfl (by kernel_rfl) ?_
  have h6 := (fO s8 m6)
  have h7 := s8.EU m0
  refine gx F (Af (vs := [v3_0, v1]) Cw E0 rfl (cs := [v3_0, v1]) (D8 rfl (Ae h6) (by simp) <| D8 rfl (h7).1 (by simp) <| Ch)) 1 rfl rfl fun _ F => ?_
  refine ⟨s8.drop.drop, ?_⟩
  refine ho 4 rfl (by kernel_rfl) ?_
  refine Ah F s8.f1 rfl rfl DW (Ab (Ap (fO s8.f1 m6)) (Ab (s8.f1.EU m1).2 Al)) (Ac rfl) fun w7 _ F s9 => gw 1 F rfl fun _ F => ⟨s9.drop.drop, ?_⟩
  refine hq [5] F s9.drop.drop (QI.ev 1 rfl <| QI.nil) (by kernel_rfl) fun _ F => ?_
  refine Ea (by kernel_rfl) ?_
  cases H
  refine ge 3 F rfl fun _ F => ?_
  refine Aj (rs := [.cell 6 226, .tmp 7]) (vs := [.agg ⟨[v3_0, v1]⟩, jI 0]) F (by rfl) ⟨_, _, rfl, Am s9 m0 rfl D4 rfl, _, _, rfl, An rfl, rfl⟩ ⟨_, rfl, ⟨v3_0, v1, rfl, s9.drop.f1.drop.f1.drop.f1.drop.f1.drop.f1⟩⟩
 obtain ⟨x0, h8, H⟩ := Aa H
 refine Dk BL s3.drop ?_
 refine hq [0, 1, 2] F s3.drew.drop (QI.ld m3 rfl <| QI.ev 1 rfl <| QI.ld m0 rfl <| QI.nil) (by kernel_rfl) fun _ F => ?_
 refine ho 3 rfl (by kernel_rfl) ?_
 refine BW F s3.drew (OK h8) 1 rfl rfl rfl rfl fun w8 _ F sa => ⟨sa.drop, ?_⟩
 refine ho 4 rfl (by kernel_rfl) ?_
 refine Ad (parts := [(0, .tmp 29)]) Flat.u8 ([x0] : List UInt8) F sa BU rfl (by decide) rfl rfl rfl (by simp [Value.cells]) rfl rfl rfl fun v2 w9 _ F sb => ?_
 refine gw 1 F rfl fun _ F => ⟨sb.drop.drop, ?_⟩
 refine ho 5 rfl (by kernel_rfl) ?_
 refine Ai (args := [.tmp 30]) F C3 rfl (BB (Ae (fO sb m0))) rfl fun v3 wa _ h9 F => ?_
 obtain ⟨g5, ha, hb⟩ := h9
 have sc := sb.add hb
 have sd := SL.Cq (c := 214) (d := 203) (s := 204) ha sc.f1.f1
 refine gw 1 F rfl fun _ F => ⟨sd.drop.drop, ?_⟩
 refine ho 6 rfl (by kernel_rfl) ?_
 have hc := (fO sd m6)
 have hd := sd.EU m0
 refine gx F (Af (vs := [v3_0, v3]) Cw E0 rfl (cs := [v3_0, v3]) (D8 rfl (Ae hc) (by simp) <| D8 rfl (hd).1 (by simp) <| Ch)) 1 rfl rfl fun _ F => ?_
 refine ⟨sd.drop.drop, ?_⟩
 refine ho 7 rfl (by kernel_rfl) ?_
 refine Ah F sd.f1 rfl rfl DW (Ab (Ap (fO sd.f1 m6)) (Ab (sd.f1.EU m1).2 Al)) (Ac rfl) fun wb _ F se => gw 1 F rfl fun _ F => ⟨se.drop.drop, ?_⟩
 refine hq [8] F se.drop.drop (QI.ev 1 rfl <| QI.nil) (by kernel_rfl) fun _ F => ?_
 refine Ea (by kernel_rfl) ?_
 cases H
 refine ge 2 F rfl fun _ F => ?_
 refine Aj (rs := [.cell 6 226, .tmp 7]) (vs := [.agg ⟨[v3_0, v3]⟩, jI 0]) F (by rfl) ⟨_, _, rfl, Am se m0 rfl D4 rfl, _, _, rfl, An rfl, rfl⟩ ⟨_, rfl, ⟨v3_0, v3, rfl, se.drop.f1.drop.f1.drop.f1.drop.f1.drop.f1⟩⟩
theorem RZ {w : World} {FF : List Nat} {g1 : Nat} {v1_0 : Value} {a0 : Int} {a1 : List Int} {r : Bool × (List Int)} (hst : Ba [AB g1 28 [v1_0], Sl (Ty.int .i64) v1_0 a1] w FF) (H : JD a0 a1 = some r) :
    Calls prog 100 #[jI a0, jP g1] w (B8 fun u_ w_ => ∃ u0 : Value, u_ = .bool r.1 ∧ SL w FF w_ [AB g1 28 [u0], Sl (Ty.int .i64) u0 r.2]) := by
 have s0 : SL w FF w [AB g1 28 [v1_0], Sl (Ty.int .i64) v1_0 a1] := SL.init w FF hst
 refine Cb func100 ntmps100 7 rfl rfl rfl fun _ F2 => ?_
 unfold JD at H
 refine AV F2 s0 m0 1 rfl fun _ F => ?_
 refine Ad (parts := [(0, .tmp 5)]) (Flat.int .i64) ([a0] : List Int) F s0 BC rfl (by decide) rfl rfl rfl (by simp [Value.cells]) rfl rfl rfl fun v0 w0 _ F s1 => ?_
 obtain ⟨x0, h0, H⟩ := Aa H
 obtain ⟨_, hr_⟩ := (s1.f2.BO m1)
 refine Aq (Flat.int .i64) F s1.f2 BC rfl rfl rfl rfl hr_ rfl rfl h0 rfl fun v1 w1 _ F s2 => ?_
 have s38' := s2.f1.drop
 have s3 := s38'.f1
 refine Au F s3 rfl rfl Ail (Ae (fO s3 m1)) (Ap (fO s3 m1)) rfl fun w2 _ F s4 => ?_
 cases H
 exact gw 8 F rfl fun _ F => rt F ⟨v1, rfl, s4⟩
theorem Oh {w : World} {FF : List Nat} {g0 : Nat} {v0 v300_0 : Value} {a0 : List A9} {a1 : Int} {a300 : List Int} {r : (List Int)} (hst : Ba [AB g0 28 [v300_0], Sl (Ty.int .i64) v300_0 a300] w FF) (hr0 : Rd AL w FF v0 a0) (H : DR a0 a1 a300 = some r) :
    Calls prog 99 #[v0, jI a1, clo 100 [jP g0]] w (B8 fun u_ w_ => ∃ u0 : Value, u_ = .tuple ⟨[]⟩ ∧ SL w FF w_ [AB g0 28 [u0], Sl (Ty.int .i64) u0 r]) := by
 have s0 : SL w FF w [AB g0 28 [v300_0], Sl (Ty.int .i64) v300_0 a300] := SL.init w FF hst
 refine Cb func99 ntmps99 0 rfl rfl rfl fun _ F0 => ?_
 unfold DR at H
 obtain ⟨o0, H0, R0⟩ := Aa H
 clear H
 refine Cx (fun a w_ => ∃ p0 : (List Int), o0 = .inr (p0) ∧ ∃ v1 : Value, Fr a 29 [] ∧ SL w FF w_ [AB g0 28 [v1], Sl (Ty.int .i64) v1 p0]) ?_ ?_
 ·have H := H0
  refine gc 1 F0 rfl fun _ F0 => E6 (Cs a0) (fun s1 a w_ => ∃ v2 : Value, Fr a 29 [(0, v0), (1, jI s1.2), (2, clo 100 [jP g0])] ∧ SL w FF w_ [AB g0 28 [v2], Sl (Ty.int .i64) v2 s1.1]) H ?_ ?_
  ·exact ⟨v300_0, F0.sb, s0⟩
  intro s1 _ w0 h0 o1 H hr
  obtain ⟨v2, F, s2⟩ := h0
  replace H : Cs a0 s1 = some o1 := H
  unfold Cs at H
  refine gc 6 F rfl fun _ F => Cp 9 F H (fun h1 H F => ?_) (fun h1 H F => ?_)
  ·refine gw 2 F rfl fun _ F => AY F rfl rfl <| gx F (Ak rfl underlying22 (fR hr0 s2)) 3 rfl rfl fun _ F => Cp 15 F H (fun h2 H F => ?_) (fun h2 H F => ?_)
   ·obtain ⟨x0, h3, H⟩ := Aa H
    refine gw 2 F rfl fun _ F => AY F rfl rfl ?_
    obtain ⟨G0, h4, h5, h6, h7⟩ := SL.open_ (ps := [AB g0 28 [v2], Sl (Ty.int .i64) v2 s1.1]) (rest := []) s2.f1.f1
    refine El (args := [.tmp 17]) F Ago rfl rfl (RZ (a0 := s1.2) (a1 := s1.1) h4 h3) rfl fun v3 w1 _ h8 F => ?_
    obtain ⟨v4, rfl, h9⟩ := h8
    have s3 := h7 _ _ h9
    refine gw 3 F rfl fun _ F => Be F H 5 4 rfl rfl rfl (fun ha H _ F => ?_) (fun ha H _ F => ?_)
    ·obtain ⟨x1, hb, H⟩ := Aa H
     obtain ⟨a2, c0, G1, hc, hd, he, hf⟩ := Rd.idx hr0 GM rfl hb
     obtain ⟨v5, rfl, hg⟩ := (EV he hf)
     replace hd := hd _ _ s3
     refine gw 2 F rfl fun _ F => gi F hc 0 rfl fun _ F => gx F (Ke M6 rfl) 0 rfl rfl fun _ F => gx F (As Cn rfl (Cells.at_ hd (o := 1) rfl)) 11 rfl rfl fun _ F => Be F H 6 7 rfl rfl rfl (fun hh H _ F => ?_) (fun hh H _ F => ?_)
     ·cases H
      obtain rfl := hr _ rfl
      replace H := R0
      try dsimp only at H
      cases H
      exact rt F ⟨v4, rfl, s3⟩
     cases H
     exact ⟨_, rfl, v4, F.sb, s3⟩
    cases H
    obtain rfl := hr _ rfl
    exact ⟨_, rfl, v4, F.sb, s3⟩
   cases H
   obtain rfl := hr _ rfl
   exact gw 11 F rfl fun _ F => ⟨_, rfl, v2, F.sb, s2⟩
  cases H
  obtain rfl := hr _ rfl
  exact gw 17 F rfl fun _ F => ⟨_, rfl, v2, F.sb, s2⟩
 intro _ w2 hJ
 obtain ⟨p0, rfl, v1, F, s4⟩ := hJ
 have H := R0
 clear R0 H0
 try dsimp only at H
 cases H
 exact Ni F (by rfl) ⟨_, rfl, ⟨v1, rfl, s4⟩⟩
theorem PT {w : World} {v0 : Value} {a0 : List A9} {a1 : Int} {r : (List B1)} (hr0 : Rd AL w [] v0 a0) (H : EY a0 a1 = some r) :
    Calls prog 67 #[v0, jI a1] w (B8 fun u_ w_ => ∃ u0 : Value, u_ = u0 ∧ SL w [] w_ [Sl Dp u0 r]) := by
 have s0 : SL w [] w [] := SL.BF w
 refine Cb func67 ntmps67 7 rfl rfl rfl fun _ F2 => ?_
 unfold EY at H
 refine Ag F2 s0 Adj rfl rfl fun g9 w0 _ F s1 => ?_
 obtain ⟨x0, h0, H⟩ := Aa H
 refine gw 6 F rfl fun _ F => gx F (Eg (cs := [.tmp 5]) (vs := [jP g9]) rfl) 0 rfl rfl fun _ F => ?_
 have s2 := (SL.Ca (T := (Ty.int .i64)) s1).f1
 obtain ⟨G0, h1, h2, h3, h4⟩ := SL.open_ (ps := [AB g9 28 [.slice none 0 0], Sl (Ty.int .i64) (.slice none 0 0) []]) (rest := []) s2
 refine Ei F (Oh (a300 := []) h1 (hr0.pass s2 h2) h0) fun v1 w1 _ h5 F => ?_
 obtain ⟨v2, rfl, h6⟩ := h5
 have s3 := h4 _ _ h6
 refine gw 10 F rfl fun _ F => AV F s3 m0 0 rfl fun _ F => ?_
 obtain ⟨o0, H0, R0⟩ := Aa H
 clear H
 refine gx F (Ak rfl underlying28 (fO s3 m1)) 4 rfl rfl fun _ F => Cx (fun a w_ => ∃ v3 : Value, Fr a 30 [(6, v3)] ∧ SL w [] w_ [Sl (Ty.int .i64) v2 x0, Sl Dp v3 o0]) ?_ ?_
 ·have H := H0
  refine gc 1 F rfl fun _ F => E6 (DK a0 x0) (fun s4 a w_ => ∃ v4 : Value, Fr a 30 [(0, v0), (5, jP g9), (6, v4), (7, jI s4.2)] ∧ SL w [] w_ [AB g9 28 [v2], Sl (Ty.int .i64) v2 x0, Sl Dp v4 s4.1]) H ?_ ?_
  ·exact ⟨(.slice none 0 0), F.sb, (SL.Ca (T := Dp) s3).f2.f2⟩
  intro s4 _ w2 h7 o1 H hr
  obtain ⟨v4, F, s5⟩ := h7
  replace H : DK a0 x0 s4 = some o1 := H
  unfold DK at H
  refine gc 7 F rfl fun _ F => Be F H 5 4 rfl rfl rfl (fun h8 H _ F => ?_) (fun h8 H _ F => ?_)
  ·obtain ⟨x1, h9, H⟩ := Aa H
   obtain ⟨a2, ha, hb⟩ := Av (Flat.int .i64) s5 m1 BC rfl h9
   obtain ⟨x2, hc, H⟩ := Aa H
   obtain ⟨a3, c0, G1, hd, he, hf, hg⟩ := Rd.idx hr0 GM rfl hc
   obtain ⟨v5, rfl, hh⟩ := (EV hf hg)
   replace he := he _ _ s5
   obtain ⟨x3, hi, H⟩ := Aa H
   refine gw 2 F rfl fun _ F => AV F s5 m0 1 rfl fun _ F => gi F ha 0 rfl fun _ F => gx F (As Cn rfl (Cells.at_ (SL.CC (Flat.int .i64) s5 m1 hb h9) (o := 0) rfl)) 0 rfl rfl fun _ F => gi F hd 0 rfl fun _ F => gx F (Ke Q1 rfl) 0 rfl rfl fun _ F => gx F (As RH rfl (Cells.at_ he (o := 2) rfl)) 0 rfl rfl fun _ F => ?_
   obtain ⟨_, hr_⟩ := (EZ hh s5.f2)
   refine Aq IV F s5.f2 MP rfl rfl rfl rfl hr_ rfl rfl hi rfl fun v6 w3 _ F s6 => ?_
   cases H
   exact gw 9 F rfl fun _ F => ⟨_, rfl, v6, F.sb, s6.f2.f2⟩
  cases H
  obtain rfl := hr _ rfl
  exact ⟨v4, F.sb, s5.drop⟩
 intro _ w4 hJ
 obtain ⟨v3, F, s7⟩ := hJ
 have H := R0
 clear R0 H0
 cases H
 exact ge 8 F rfl fun _ F => rt F ⟨v3, rfl, s7.drop⟩
theorem TJ {w : World} {FF : List Nat} {g2 : Nat} {v0_0 v0_1 : Value} {a0 : AD} {a1 : AA} {a2 : Bool} {r : Bz × Int} (hst : Ba [AB g2 4 [.bool a2]] w FF) (hr0_0 : Rd AL w FF v0_0 a0.Classes) (hr0_1 : Rd Bs w FF v0_1 a0.AP) (H : KR a0 a1 a2 = some r) :
    Calls prog 218 #[.agg ⟨[v0_0, v0_1, jI a0.Fn]⟩, .agg ⟨[jI a1.At, jU (a1.Op.toNat : Int), jI a1.A, jI a1.B]⟩, jP g2] w (B8 fun u_ w_ => ∃ u0 u1 : Value, u_ = .tuple ⟨[.agg ⟨[u0, u1]⟩, jI r.2]⟩ ∧ SL w FF w_ [Sl AE u0 r.1.takes, Ju 214 203 204 47 u1 r.1.gives]) := by
 have s0 : SL w FF w [AB g2 4 [.bool a2]] := SL.init w FF hst
 refine Cb func218 ntmps218 2 rfl rfl rfl fun _ F0 => ?_
 unfold KR at H
 refine Ao F0 s0 rfl rfl rfl fun g0 w0 _ F s1 => Ao F s1 rfl rfl rfl fun g1 w1 _ F s2 => Ag F s2 Cw rfl rfl fun g32 w2 _ F s3 => ?_
 obtain ⟨x0, h0, H⟩ := Aa H
 refine gw 6 F rfl fun _ F => AV F s3 m2 1 rfl fun _ F => AV F s3 m1 0 rfl fun _ F => Ei F (PT (hr0_0.Bp s3) h0) fun v0 w3 _ h1 F => ?_
 obtain ⟨_, rfl, h2⟩ := h1
 have s4 := s3.add h2
 refine gw 7 F rfl fun _ F => AV F s4 m2 2 rfl fun _ F => Cp 17 F H (fun h3 H F => ?_) (fun h3 H F => ?_)
 ·refine gw 24 F rfl fun _ F => gx F (Af (vs := []) Cw E0 rfl (cs := [.slice none 0 0, .nilFunc]) (rfl)) 0 rfl rfl fun _ F => Ah F s4.f1 rfl rfl DW (Ab rfl (Ab rfl Al)) (Ac rfl) fun w4 _ F s5 => ?_
  cases H
  refine gw 5 F rfl fun _ F => ?_
  refine Aj (rs := [.cell 5 226, .tmp 6]) (vs := [.agg ⟨[.slice none 0 0, .nilFunc]⟩, jI 72]) F (by rfl) ⟨_, _, rfl, Am s5 m0 rfl D4 rfl, _, _, rfl, An rfl, rfl⟩ ⟨_, rfl, ⟨(.slice none 0 0), .nilFunc, rfl, (SL.ML (SL.Ca (T := AE) s5)).f2.drop.f2.drop.f2.drop.f2.drop.f2.drop.f1⟩⟩
 refine gw 1 F rfl fun _ F => AY F rfl rfl <| AV F s4 m2 1 rfl fun _ F => AY F rfl rfl <| AV F s4 m3 0 rfl fun _ F => AY F rfl rfl <| gx F (Ak rfl underlying22 (fR hr0_0 s4)) 3 rfl rfl fun _ F => Cp 25 F H (fun h4 H F => ?_) (fun h4 H F => ?_)
 ·refine gw 16 F rfl fun _ F => gx F (Af (vs := []) Cw E0 rfl (cs := [.slice none 0 0, .nilFunc]) (rfl)) 0 rfl rfl fun _ F => Ah F s4.f1 rfl rfl DW (Ab rfl (Ab rfl Al)) (Ac rfl) fun w5 _ F s6 => ?_
  cases H
  refine gw 5 F rfl fun _ F => ?_
  refine Aj (rs := [.cell 5 226, .tmp 6]) (vs := [.agg ⟨[.slice none 0 0, .nilFunc]⟩, jI 72]) F (by rfl) ⟨_, _, rfl, Am s6 m0 rfl D4 rfl, _, _, rfl, An rfl, rfl⟩ ⟨_, rfl, ⟨(.slice none 0 0), .nilFunc, rfl, (SL.ML (SL.Ca (T := AE) s6)).f2.drop.f2.drop.f2.drop.f2.drop.f2.drop.f1⟩⟩
 refine gw 1 F rfl fun _ F => AY F rfl rfl <| AV F s4 m2 3 rfl fun _ F => Cp 30 F H (fun h5 H F => ?_) (fun h5 H F => ?_)
 ·refine gw 11 F rfl fun _ F => gx F (Af (vs := []) Cw E0 rfl (cs := [.slice none 0 0, .nilFunc]) (rfl)) 0 rfl rfl fun _ F => Ah F s4.f1 rfl rfl DW (Ab rfl (Ab rfl Al)) (Ac rfl) fun w6 _ F s7 => ?_
  cases H
  refine gw 5 F rfl fun _ F => ?_
  refine Aj (rs := [.cell 5 226, .tmp 6]) (vs := [.agg ⟨[.slice none 0 0, .nilFunc]⟩, jI 72]) F (by rfl) ⟨_, _, rfl, Am s7 m0 rfl D4 rfl, _, _, rfl, An rfl, rfl⟩ ⟨_, rfl, ⟨(.slice none 0 0), .nilFunc, rfl, (SL.ML (SL.Ca (T := AE) s7)).f2.drop.f2.drop.f2.drop.f2.drop.f2.drop.f1⟩⟩
 refine gw 1 F rfl fun _ F => AY F rfl rfl <| AV F s4 m2 1 rfl fun _ F => AY F rfl rfl <| gx F (Ak rfl underlying101 (fO s4 m0)) 4 rfl rfl fun _ F => Be F H 2 6 rfl rfl rfl (fun h6 H _ F => ?_) (fun h6 H _ F => ?_)
 ·refine gx F (Af (vs := []) Cw E0 rfl (cs := [.slice none 0 0, .nilFunc]) (rfl)) 0 rfl rfl fun _ F => Ah F s4.f1 rfl rfl DW (Ab rfl (Ab rfl Al)) (Ac rfl) fun w7 _ F s8 => ?_
  cases H
  refine gw 5 F rfl fun _ F => ?_
  refine Aj (rs := [.cell 5 226, .tmp 6]) (vs := [.agg ⟨[.slice none 0 0, .nilFunc]⟩, jI 72]) F (by rfl) ⟨_, _, rfl, Am s8 m0 rfl D4 rfl, _, _, rfl, An rfl, rfl⟩ ⟨_, rfl, ⟨(.slice none 0 0), .nilFunc, rfl, (SL.ML (SL.Ca (T := AE) s8)).f2.drop.f2.drop.f2.drop.f2.drop.f2.drop.f1⟩⟩
 obtain ⟨x1, h7, H⟩ := Aa H
 obtain ⟨a3, h8, h9⟩ := Av IV s4 m0 MP rfl h7
 refine AV F s4 m2 0 rfl fun _ F => gi F h8 0 rfl fun _ F => gx F (Ke Aa0 rfl) 0 rfl rfl fun _ F => gx F (As DV rfl (Cells.at_ (SL.CC IV s4 m0 h9 h7) (o := 1) rfl)) 6 rfl rfl fun _ F => AV F s4 m4 2 rfl fun _ F => Be F H 3 5 rfl rfl rfl (fun ha H _ F => ?_) (fun ha H _ F => ?_)
 ·obtain ⟨x2, hb, H⟩ := Aa H
  refine AV F s4 m2 0 rfl fun _ F => BW F s4 (OK hb) 0 rfl rfl rfl rfl fun w8 _ F s9 => ?_
  obtain ⟨x3, hc, H⟩ := Aa H
  refine BW F s9 (J7 hc) 1 rfl rfl rfl rfl fun w9 _ F sa => ?_
  obtain ⟨x4, hd, H⟩ := Aa H
  refine BW F sa (J7 hd) 0 rfl rfl rfl rfl fun wa _ F sb => ?_
  refine Ad (parts := [(0, .tmp 48), (1, .tmp 50)]) BE ([x3, x4] : List A8) F sb Cl rfl (by decide) rfl rfl rfl (by simp [Value.cells]) rfl rfl rfl fun v1 wb _ F sc => ?_
  refine Ai (args := [.const (.slice none 0 0)]) F C3 rfl (BB rfl) rfl fun v2 wc _ he F => ?_
  obtain ⟨g3, hf, hg⟩ := he
  have sd := sc.add hg
  have se := SL.Cq (c := 214) (d := 203) (s := 204) hf ((SL.Ca (T := Ty.u8) sd).f1)
  have hh := (fO se m1)
  have hi := se.EU m0
  refine gx F (Af (vs := [v1, v2]) Cw E0 rfl (cs := [v1, v2]) (D8 rfl (Ae hh) (by simp) <| D8 rfl (hi).1 (by simp) <| Ch)) 0 rfl rfl fun _ F => ?_
  refine Ah F se.f3 rfl rfl DW (Ab (Ap (fO se.f3 m2)) (Ab (se.f3.EU m1).2 Al)) (Ac rfl) fun wd _ F sf => ?_
  cases H
  refine gw 5 F rfl fun _ F => ?_
  refine Aj (rs := [.cell 5 226, .tmp 6]) (vs := [.agg ⟨[v1, v2]⟩, jI 0]) F (by rfl) ⟨_, _, rfl, Am sf m0 rfl D4 rfl, _, _, rfl, An rfl, rfl⟩ ⟨_, rfl, ⟨v1, v2, rfl, sf.drop.f2.drop.f2.drop.f2.drop.f2.drop.f1⟩⟩
 obtain ⟨x5, hj, H⟩ := Aa H
 refine AV F s4 m2 0 rfl fun _ F => BW F s4 (OK hj) 0 rfl rfl rfl rfl fun we _ F sg => ?_
 obtain ⟨x6, hk, H⟩ := Aa H
 refine BW F sg (J7 hk) 0 rfl rfl rfl rfl fun wf _ F sh => ?_
 refine Ad (parts := [(0, .tmp 57)]) BE ([x6] : List A8) F sh Cl rfl (by decide) rfl rfl rfl (by simp [Value.cells]) rfl rfl rfl fun v3 wg _ F si => ?_
 refine gw 1 F rfl fun _ F => ?_
 refine Ad (parts := [(0, .tmp 59)]) Flat.u8 ([x1.HH] : List UInt8) F si BU rfl (by decide) rfl rfl rfl (by simp [Value.cells]) rfl rfl rfl fun v4 wh _ F sj => ?_
 refine Ai (args := [.tmp 60]) F C3 rfl (BB (Ae (fO sj m0))) rfl fun v5 wi _ hl F => ?_
 obtain ⟨g4, hm, hn⟩ := hl
 have sk := sj.add hn
 have sl := SL.Cq (c := 214) (d := 203) (s := 204) hm sk.f1.f1
 have ho := (fO sl m1)
 have hp := sl.EU m0
 refine gx F (Af (vs := [v3, v5]) Cw E0 rfl (cs := [v3, v5]) (D8 rfl (Ae ho) (by simp) <| D8 rfl (hp).1 (by simp) <| Ch)) 0 rfl rfl fun _ F => ?_
 refine Ah F sl.f3 rfl rfl DW (Ab (Ap (fO sl.f3 m2)) (Ab (sl.f3.EU m1).2 Al)) (Ac rfl) fun wj _ F sm => ?_
 cases H
 refine gw 4 F rfl fun _ F => ?_
 refine Aj (rs := [.cell 5 226, .tmp 6]) (vs := [.agg ⟨[v3, v5]⟩, jI 0]) F (by rfl) ⟨_, _, rfl, Am sm m0 rfl D4 rfl, _, _, rfl, An rfl, rfl⟩ ⟨_, rfl, ⟨v3, v5, rfl, sm.drop.f2.drop.f2.drop.f2.drop.f2.drop.f1⟩⟩
theorem Zc {w : World} {FF : List Nat} {v v0 v1 : Value} {t : Db A8} {e : AD} {i : AA} {r : Bz × Int} (hst : Ba [PN AS AE v t] w FF) (hv0 : Rd AL w FF v0 e.Classes) (hv1 : Rd Bs w FF v1 e.AP) (H : FQ t e i = some r) :
    ∃ f caps, v = clo f caps ∧ DL prog f = true ∧ Calls prog f (([.agg ⟨[v0, v1, jI e.Fn]⟩, .agg ⟨[jI i.At, jU (i.Op.toNat : Int), jI i.A, jI i.B]⟩] : List Value) ++ caps).toArray w (B8 fun u_ w_ => ∃ u0 u1 : Value, u_ = .tuple ⟨[.agg ⟨[u0, u1]⟩, jI r.2]⟩ ∧ SL w FF w_ [Sl AE u0 r.1.takes, Ju 214 203 204 47 u1 r.1.gives]) := by
  cases t with
  | fixed l x =>
    obtain ⟨qs, ⟨g1, g2, u1, u2, rfl, rfl⟩, hs⟩ := K0 hst
    exact ⟨215, [jP g1, jP g2], rfl, Agi, TT hs hv0 hv1 H⟩
  | call =>
    obtain ⟨qs, ⟨rfl, rfl⟩, hs⟩ := K0 hst
    have hF : FF = [] := hs
    subst hF
    exact ⟨205, [], rfl, Af2, Zo hv0 hv1 H⟩
  | ret x =>
    obtain ⟨qs, ⟨g1, u1, rfl, rfl⟩, hs⟩ := K0 hst
    exact ⟨206, [jP g1], rfl, Af6, TG hs hv0 hv1 H⟩
  | classed l b =>
    obtain ⟨qs, ⟨g1, g2, u1, rfl, rfl⟩, hs⟩ := K0 hst
    exact ⟨216, [jP g1, jP g2], rfl, Afa, QV hs hv0 hv1 H⟩
  | field b =>
    obtain ⟨qs, ⟨g1, rfl, rfl⟩, hs⟩ := K0 hst
    exact ⟨218, [jP g1], rfl, Afz, TJ hs hv0 hv1 H⟩
  | nil => cases H
theorem Zs {w : World} {v0_0 v0_1 : Value} {a0 : AD} {a1 : AA} {r : Bz × Int} (hr0_0 : Rd AL w [] v0_0 a0.Classes) (hr0_1 : Rd Bs w [] v0_1 a0.AP) (H : KB a0 a1 = some r) :
    Calls prog 161 #[.agg ⟨[v0_0, v0_1, jI a0.Fn]⟩, .agg ⟨[jI a1.At, jU (a1.Op.toNat : Int), jI a1.A, jI a1.B]⟩] w (B8 fun u_ w_ => ∃ u0 u1 : Value, u_ = .tuple ⟨[.agg ⟨[u0, u1]⟩, jI r.2]⟩ ∧ SL w [] w_ [Sl AE u0 r.1.takes, Ju 214 203 204 47 u1 r.1.gives]) := by
 have s0 : SL w [] w [] := SL.BF w
 refine Cb func161 ntmps161 2 rfl rfl rfl fun _ F0 => ?_
 unfold KB at H
 refine Ao F0 s0 rfl rfl rfl fun g0 w0 _ F s1 => Ao F s1 rfl rfl rfl fun g1 w1 _ F s2 => Ag F s2 Cw rfl rfl fun g32 w2 _ F s3 => ?_
 obtain ⟨x0, h0, H⟩ := Aa H
 refine gw 7 F rfl fun _ F => AV F s3 m1 0 rfl fun _ F => BW F s3 (Jf h0) 3 rfl rfl rfl rfl fun w3 _ F s4 => Be F H 2 3 rfl rfl rfl (fun h1 H _ F => ?_) (fun h1 H _ F => ?_)
 ·refine gx F (Af (vs := []) Cw E0 rfl (cs := [.slice none 0 0, .nilFunc]) (rfl)) 0 rfl rfl fun _ F => Ah F s4 rfl rfl DW (Ab rfl (Ab rfl Al)) (Ac rfl) fun w4 _ F s5 => ?_
  cases H
  refine gw 5 F rfl fun _ F => ?_
  refine Aj (rs := [.cell 4 226, .tmp 5]) (vs := [.agg ⟨[.slice none 0 0, .nilFunc]⟩, jI 40]) F (by rfl) ⟨_, _, rfl, Am s5 m0 rfl D4 rfl, _, _, rfl, An rfl, rfl⟩ ⟨_, rfl, ⟨(.slice none 0 0), .nilFunc, rfl, (SL.ML (SL.Ca (T := AE) s5)).f2.drop.f2.drop.f2.drop.f1⟩⟩
 obtain ⟨x1, h2, H⟩ := Aa H
 obtain ⟨t0, h3, H⟩ := Aa H
 obtain ⟨x2, h4, H⟩ := Aa H
 refine Dk BL s4.drop ?_
 refine hq [1, 2, 4, 5] F s4.drew.drop (QI.ev 1 rfl <| QI.ld m0 rfl <| QI.ld m1 rfl <| QI.ld m0 rfl <| QI.nil) (by kernel_rfl) fun _ F => ?_
 refine ho 0 rfl (by kernel_rfl) ?_
 refine Ai (args := []) F Aeq rfl (YK h2) rfl fun v0 w5 _ h5 F => ?_
 obtain ⟨v1, rfl, h6, h7, h8⟩ := h5
 have s6 := s4.drew.add h7
 refine gw 1 F rfl fun _ F => ⟨s6.drop, ?_⟩
 refine ho 3 rfl (by kernel_rfl) ?_
 obtain ⟨t1, h9, ha⟩ := h8 _ _ h3
 refine Gg F (PR.op (Af3 Cd Adb h6 rfl rfl h9) <| PR.nil) fun _ F => ?_
 have s7 := s4.drew.add ha
 refine gw 1 F rfl fun _ F => ⟨s7.drop.drop, ?_⟩
 refine ho 6 rfl (by kernel_rfl) ?_
 obtain ⟨G0, hb, hc, hd, he⟩ := SL.open_ (ps := [PN AS AE t1 t0]) (rest := [AB g32 226 [.slice none 0 0, .nilFunc], AB g1 79 [jI a1.At, jU (a1.Op.toNat : Int), jI a1.A, jI a1.B], AB g0 110 [v0_0, v0_1, jI a0.Fn]]) s7
 obtain ⟨f0, c0, hf, hg, hh⟩ := Zc hb (hr0_0.pass s7 hc) (hr0_1.pass s7 hc) h4
 refine El (args := [.tmp 15, .tmp 16]) F hg (Eq.trans rfl (congrArg some hf)) rfl hh rfl fun v2 w6 _ hi F => ?_
 obtain ⟨v3, v4, rfl, hj⟩ := hi
 have s8 := he _ _ hj
 refine gw 1 F rfl fun _ F => ⟨s8.drop.drop.drop, ?_⟩
 refine hq [7, 8] F s8.drop.drop.drop (QI.ev 2 rfl <| QI.nil) (by kernel_rfl) fun _ F => ?_
 refine ho 9 rfl (by kernel_rfl) ?_
 refine Ah F s8.f2 rfl rfl DW (Ab (Ap (fO s8.f2 m1)) (Ab (s8.f2.EU m2).2 Al)) (Ac rfl) fun w7 _ F s9 => gw 1 F rfl fun _ F => ⟨s9.drop.drop.drop, ?_⟩
 refine hq [10] F s9.drop.drop.drop (QI.ev 1 rfl <| QI.nil) (by kernel_rfl) fun _ F => ?_
 refine Ea (by kernel_rfl) ?_
 cases H
 refine ge 2 F rfl fun _ F => ?_
 refine Aj (rs := [.cell 4 226, .tmp 5]) (vs := [.agg ⟨[v3, v4]⟩, jI x2.2]) F (by rfl) ⟨_, _, rfl, Am s9 m0 rfl D4 rfl, _, _, rfl, An rfl, rfl⟩ ⟨_, rfl, ⟨v3, v4, rfl, s9.drop.f2.drop.f2.drop⟩⟩
theorem Sr {w : World} {a0 : A3} {a1 : Int} {r : UInt8 × Int} (H : La a0 a1 = some r) :
    Calls prog 186 #[.agg ⟨(jI a0.Locals :: jI a0.Height :: Bb a0.Slots)⟩, jI a1] w (B8 fun u_ w_ => u_ = .tuple ⟨[jU (r.1.toNat : Int), jI r.2]⟩ ∧ SL w [] w_ []) := by
 have s0 : SL w [] w [] := SL.BF w
 refine Cb func186 ntmps186 2 rfl rfl rfl fun _ F0 => ?_
 unfold La at H
 refine Ao F0 s0 rfl rfl rfl fun g8 w9 _ F s1 => ?_
 obtain ⟨x0, h0, H⟩ := Aa H
 refine gw 8 F rfl fun _ F => Hv F s1 m0 0 rfl fun _ F => BW F s1 (IK h0) 4 rfl rfl rfl rfl fun w0 _ F s2 => Be F H 9 7 rfl rfl rfl (fun h1 H _ F => ?_) (fun h1 H _ F => ?_)
 ·cases H
  exact rt F ⟨rfl, s2.drop⟩
 refine Be F H 9 4 rfl rfl rfl (fun h2 H _ F => ?_) (fun h2 H _ F => ?_)
 ·cases H
  exact rt F ⟨rfl, s2.drop⟩
 refine AV F s2 m0 4 rfl fun _ F => Be F H 9 6 rfl rfl rfl (fun h3 H _ F => ?_) (fun h3 H _ F => ?_)
 ·cases H
  exact rt F ⟨rfl, s2.drop⟩
 obtain ⟨x1, h4, H⟩ := Aa H
 refine AV F s2 m0 1 rfl fun _ F => AV F s2 m0 5 rfl fun _ F => gx F (K5 Gb h4 rfl rfl) 0 rfl rfl fun _ F => ?_
 cases H
 exact gx F (As DV rfl (SL.QF (pre := [jI a0.Locals, jI a0.Height]) s2 m0 rfl h4)) 5 rfl rfl fun _ F => rt F ⟨rfl, s2.drop⟩
theorem Hh {w : World} {a0 : UInt8} {r : Bool} (H : Ff a0 = some r) :
    Calls prog 210 #[jU (a0.toNat : Int)] w (B8 fun u_ w_ => u_ = .bool r ∧ SL w [] w_ []) := by
 have s0 : SL w [] w [] := SL.BF w
 refine Cb func210 ntmps210 10 rfl rfl rfl fun _ F => ?_
 unfold Ff at H
 refine Cp 5 F H (fun h0 H F => ?_) (fun h0 H F => ?_)
 ·cases H
  exact gw 15 F rfl fun _ F => rt F ⟨rfl, s0⟩
 refine gw 4 F rfl fun _ F => Cp 9 F H (fun h1 H F => ?_) (fun h1 H F => ?_)
 ·cases H
  exact gw 11 F rfl fun _ F => rt F ⟨rfl, s0⟩
 refine gw 4 F rfl fun _ F => Cp 13 F H (fun h2 H F => ?_) (fun h2 H F => ?_)
 ·cases H
  exact gw 7 F rfl fun _ F => rt F ⟨rfl, s0⟩
 cases H
 exact gw 7 F rfl fun _ F => rt F ⟨rfl, s0⟩
theorem Te {w : World} {FF : List Nat} {g1 g2 : Nat} {a0 : Int} {a1 : Int} {a2 : Bool} {r : Bool × Bool} (hst : Ba [AB g1 3 [jI a1], AB g2 4 [.bool a2]] w FF) (H : Kh a0 a1 a2 = some r) :
    Calls prog 219 #[jI a0, jP g1, jP g2] w (B8 fun u_ w_ => u_ = .bool r.1 ∧ SL w FF w_ [AB g1 3 [jI a1], AB g2 4 [.bool r.2]]) := by
 have s0 : SL w FF w [AB g1 3 [jI a1], AB g2 4 [.bool a2]] := SL.init w FF hst
 refine Cb func219 ntmps219 8 rfl rfl rfl fun _ F => ?_
 unfold Kh at H
 refine AV F s0 m0 1 rfl fun _ F => Au F s0.f1 rfl rfl Yl rfl rfl rfl fun w0 _ F s1 => gw 4 F rfl fun _ F => ?_
 cases H
 exact AV F s1 m0 5 rfl fun _ F => rt F ⟨rfl, s1.f1⟩
theorem OG {w : World} {FF : List Nat} {g0 g1 : Nat} {v0 : Value} {a0 : List A9} {a1 : Int} {a300 : Int} {a301 : Bool} {r : Bool} (hst : Ba [AB g0 3 [jI a300], AB g1 4 [.bool a301]] w FF) (hr0 : Rd AL w FF v0 a0) (H : Gh a0 a1 a300 a301 = some r) :
    Calls prog 99 #[v0, jI a1, clo 219 [jP g0, jP g1]] w (B8 fun u_ w_ => u_ = .tuple ⟨[]⟩ ∧ SL w FF w_ [AB g0 3 [jI a300], AB g1 4 [.bool r]]) := by
 have s0 : SL w FF w [AB g0 3 [jI a300], AB g1 4 [.bool a301]] := SL.init w FF hst
 refine Cb func99 ntmps99 0 rfl rfl rfl fun _ F0 => ?_
 unfold Gh at H
 obtain ⟨o0, H0, R0⟩ := Aa H
 clear H
 refine Cx (fun a w_ => ∃ p0 : Bool, o0 = .inr (p0) ∧ Fr a 29 [] ∧ SL w FF w_ [AB g0 3 [jI a300], AB g1 4 [.bool p0]]) ?_ ?_
 ·have H := H0
  refine gc 1 F0 rfl fun _ F0 => E6 (CY a0 a300) (fun s1 a w_ => Fr a 29 [(0, v0), (1, jI s1.2), (2, clo 219 [jP g0, jP g1])] ∧ SL w FF w_ [AB g0 3 [jI a300], AB g1 4 [.bool s1.1]]) H ?_ ?_
  ·exact ⟨F0.sb, s0⟩
  intro s1 _ w0 h0 o1 H hr
  obtain ⟨F, s2⟩ := h0
  replace H : CY a0 a300 s1 = some o1 := H
  unfold CY at H
  refine gc 6 F rfl fun _ F => Cp 9 F H (fun h1 H F => ?_) (fun h1 H F => ?_)
  ·refine gw 2 F rfl fun _ F => AY F rfl rfl <| gx F (Ak rfl underlying22 (fR hr0 s2)) 3 rfl rfl fun _ F => Cp 15 F H (fun h2 H F => ?_) (fun h2 H F => ?_)
   ·obtain ⟨x0, h3, H⟩ := Aa H
    refine gw 2 F rfl fun _ F => AY F rfl rfl ?_
    obtain ⟨G0, h4, h5, h6, h7⟩ := SL.open_ (ps := [AB g0 3 [jI a300], AB g1 4 [.bool s1.1]]) (rest := []) s2.f1.f1
    refine El (args := [.tmp 17]) F Af7 rfl rfl (Te (a0 := s1.2) (a1 := a300) (a2 := s1.1) h4 h3) rfl fun v1 w1 _ h8 F => ?_
    obtain ⟨rfl, h9⟩ := h8
    have s3 := h7 _ _ h9
    refine gw 3 F rfl fun _ F => Be F H 5 4 rfl rfl rfl (fun ha H _ F => ?_) (fun ha H _ F => ?_)
    ·obtain ⟨x1, hb, H⟩ := Aa H
     obtain ⟨a3, c0, G1, hc, hd, he, hf⟩ := Rd.idx hr0 GM rfl hb
     obtain ⟨v2, rfl, hg⟩ := (EV he hf)
     replace hd := hd _ _ s3
     refine gw 2 F rfl fun _ F => gi F hc 0 rfl fun _ F => gx F (Ke M6 rfl) 0 rfl rfl fun _ F => gx F (As Cn rfl (Cells.at_ hd (o := 1) rfl)) 11 rfl rfl fun _ F => Be F H 6 7 rfl rfl rfl (fun hh H _ F => ?_) (fun hh H _ F => ?_)
     ·cases H
      obtain rfl := hr _ rfl
      replace H := R0
      try dsimp only at H
      cases H
      exact rt F ⟨rfl, s3⟩
     cases H
     exact ⟨_, rfl, F.sb, s3⟩
    cases H
    obtain rfl := hr _ rfl
    exact ⟨_, rfl, F.sb, s3⟩
   cases H
   obtain rfl := hr _ rfl
   exact gw 11 F rfl fun _ F => ⟨_, rfl, F.sb, s2⟩
  cases H
  obtain rfl := hr _ rfl
  exact gw 17 F rfl fun _ F => ⟨_, rfl, F.sb, s2⟩
 intro _ w2 hJ
 obtain ⟨p0, rfl, F, s4⟩ := hJ
 have H := R0
 clear R0 H0
 try dsimp only at H
 cases H
 exact Ni F (by rfl) ⟨_, rfl, ⟨rfl, s4⟩⟩
theorem QH {w : World} {v0 : Value} {a0 : List A9} {a1 : Int} {a2 : Int} {r : Bool} (hr0 : Rd AL w [] v0 a0) (H : JW a0 a1 a2 = some r) :
    Calls prog 213 #[v0, jI a1, jI a2] w (B8 fun u_ w_ => u_ = .bool r ∧ SL w [] w_ []) := by
 have s0 : SL w [] w [] := SL.BF w
 refine Cb func213 ntmps213 2 rfl rfl rfl fun _ F0 => ?_
 unfold JW at H
 refine Ao F0 s0 rfl rfl rfl fun g8 w9 _ F s1 => gw 5 F rfl fun _ F => Ag F s1 YD rfl rfl fun g0 w0 _ F s2 => Au F s2 rfl rfl Yl rfl rfl rfl fun w1 _ F s3 => ?_
 obtain ⟨x0, h0, H⟩ := Aa H
 refine gw 6 F rfl fun _ F => gx F (Eg (cs := [.tmp 5, .tmp 7]) (vs := [jP g8, jP g0]) rfl) 0 rfl rfl fun _ F => ?_
 obtain ⟨G0, h1, h2, h3, h4⟩ := SL.open_ (ps := [AB g8 3 [jI a2], AB g0 4 [.bool false]]) (rest := []) s3.f1
 refine Ei F (OG (a300 := a2) (a301 := false) h1 (hr0.pass s3.f1 h2) h0) fun v1 w2 _ h5 F => ?_
 obtain ⟨rfl, h6⟩ := h5
 have s4 := h4 _ _ h6
 refine gw 4 F rfl fun _ F => ?_
 cases H
 exact AV F s4 m1 4 rfl fun _ F => rt F ⟨rfl, s4.drop.drop⟩
theorem Pz {w : World} {v0 : Value} {a0 : List A9} {a1 : UInt8} {a2 : UInt8} {r : Bool} (hr0 : Rd AL w [] v0 a0) (H : KE a0 a1 a2 = some r) :
    Calls prog 211 #[v0, jU (a1.toNat : Int), jU (a2.toNat : Int)] w (B8 fun u_ w_ => u_ = .bool r ∧ SL w [] w_ []) := by
 have s0 : SL w [] w [] := SL.BF w
 refine Cb func211 ntmps211 10 rfl rfl rfl fun _ F => ?_
 unfold KE at H
 obtain ⟨x0, h0, H⟩ := Aa H
 refine BW F s0 (FR (hr0.Bp s0) h0) 2 rfl rfl rfl rfl fun w0 _ F s1 => Cp 13 F H (fun h1 H F => ?_) (fun h1 H F => ?_)
 ·cases H
  exact gw 15 F rfl fun _ F => rt F ⟨rfl, s1⟩
 obtain ⟨x1, h2, H⟩ := Aa H
 refine gw 2 F rfl fun _ F => AY F rfl rfl <| BW F s1 (FR (hr0.Bp s1) h2) 4 rfl rfl rfl rfl fun w1 _ F s2 => Be F H 7 10 rfl rfl rfl (fun h3 H _ F => ?_) (fun h3 H _ F => ?_)
 ·cases H
  exact rt F ⟨rfl, s2⟩
 refine Cp 23 F H (fun h4 H F => ?_) (fun h4 H F => ?_)
 ·cases H
  exact gw 15 F rfl fun _ F => rt F ⟨rfl, s2⟩
 refine gw 6 F rfl fun _ F => Be F H 8 5 rfl rfl rfl (fun h5 H _ F => ?_) (fun h5 H _ F => ?_)
 ·cases H
  exact rt F ⟨rfl, s2⟩
 refine Cp 30 F H (fun h6 H F => ?_) (fun h6 H F => ?_)
 ·obtain ⟨x2, h7, H⟩ := Aa H
  refine gw 10 F rfl fun _ F => BW F s2 (Hh h7) 1 rfl rfl rfl rfl fun w2 _ F s3 => Cp 36 F H (fun h8 H F => ?_) (fun h8 H F => ?_)
  ·obtain ⟨x3, h9, H⟩ := Aa H
   refine gw 1 F rfl fun _ F => AY F rfl rfl <| BW F s3 (Hh h9) 7 rfl rfl rfl rfl fun w3 _ F s4 => ?_
   cases H
   exact rt F ⟨rfl, s4⟩
  cases H
  exact gw 9 F rfl fun _ F => rt F ⟨rfl, s3⟩
 refine gw 6 F rfl fun _ F => Be F H 3 7 rfl rfl rfl (fun ha H _ F => ?_) (fun ha H _ F => ?_)
 ·obtain ⟨x4, hb, H⟩ := Aa H
  refine BW F s2 (Hh hb) 1 rfl rfl rfl rfl fun w4 _ F s5 => Cp 36 F H (fun hc H F => ?_) (fun hc H F => ?_)
  ·obtain ⟨x5, hd, H⟩ := Aa H
   refine gw 1 F rfl fun _ F => AY F rfl rfl <| BW F s5 (Hh hd) 7 rfl rfl rfl rfl fun w5 _ F s6 => ?_
   cases H
   exact rt F ⟨rfl, s6⟩
  cases H
  exact gw 9 F rfl fun _ F => rt F ⟨rfl, s5⟩
 obtain ⟨x6, he, H⟩ := Aa H
 refine BW F s2 (FT (hr0.Bp s2) he) 2 rfl rfl rfl rfl fun w6 _ F s7 => ?_
 obtain ⟨x7, hf, H⟩ := Aa H
 refine BW F s7 (FT (hr0.Bp s7) hf) 9 rfl rfl rfl rfl fun w7 _ F s8 => Cp 48 F H (fun hg H F => ?_) (fun hg H F => ?_)
 ·refine gw 4 F rfl fun _ F => Cp 52 F H (fun hh H F => ?_) (fun hh H F => ?_)
  ·obtain ⟨x8, hi, H⟩ := Aa H
   refine gw 3 F rfl fun _ F => AY F rfl rfl <| BW F s8 (QH (hr0.Bp s8) hi) 5 rfl rfl rfl rfl fun w8 _ F s9 => ?_
   cases H
   exact rt F ⟨rfl, s9⟩
  cases H
  exact gw 9 F rfl fun _ F => rt F ⟨rfl, s8⟩
 cases H
 exact gw 13 F rfl fun _ F => rt F ⟨rfl, s8⟩
theorem Zm {w : World} {v0 : Value} {a0 : List A9} {a1 : A8} {a2 : UInt8} {a3 : UInt8} {r : Bool} (hr0 : Rd AL w [] v0 a0) (H : N3 a0 a1 a2 a3 = some r) :
    Calls prog 187 #[v0, .agg ⟨[jI a1.kind, jU (a1.t.toNat : Int)]⟩, jU (a2.toNat : Int), jU (a3.toNat : Int)] w (B8 fun u_ w_ => u_ = .bool r ∧ SL w [] w_ []) := by
 have s0 : SL w [] w [] := SL.BF w
 refine Cb func187 ntmps187 2 rfl rfl rfl fun _ F0 => ?_
 unfold N3 at H
 refine Ao F0 s0 rfl rfl rfl fun g8 w9 _ F s1 => gw 7 F rfl fun _ F => AV F s1 m0 9 rfl fun _ F => Be F H 10 6 rfl rfl rfl (fun h0 H _ F => ?_) (fun h0 H _ F => ?_)
 ·cases H
  exact rt F ⟨rfl, s1.drop⟩
 refine Be F H 3 6 rfl rfl rfl (fun h1 H _ F => ?_) (fun h1 H _ F => ?_)
 ·obtain ⟨x0, h2, H⟩ := Aa H
  refine BW F s1 (Hh h2) 6 rfl rfl rfl rfl fun w0 _ F s2 => ?_
  cases H
  exact rt F ⟨rfl, s2.drop⟩
 refine Be F H 6 6 rfl rfl rfl (fun h3 H _ F => ?_) (fun h3 H _ F => ?_)
 ·refine Cp 24 F H (fun h4 H F => ?_) (fun h4 H F => ?_)
  ·refine gw 3 F rfl fun _ F => Cp 27 F H (fun h5 H F => ?_) (fun h5 H F => ?_)
   ·cases H
    exact gw 10 F rfl fun _ F => rt F ⟨rfl, s1.drop⟩
   cases H
   exact gw 10 F rfl fun _ F => rt F ⟨rfl, s1.drop⟩
  cases H
  exact gw 13 F rfl fun _ F => rt F ⟨rfl, s1.drop⟩
 refine Be F H 5 9 rfl rfl rfl (fun h6 H _ F => ?_) (fun h6 H _ F => ?_)
 ·obtain ⟨x1, h7, H⟩ := Aa H
  refine AV F s1 m0 0 rfl fun _ F => BW F s1 (Pz (hr0.Bp s1) h7) 6 rfl rfl rfl rfl fun w1 _ F s3 => ?_
  cases H
  exact rt F ⟨rfl, s3.drop⟩
 cases H
 exact rt F ⟨rfl, s1.drop⟩
theorem Yt {w : World} {v0 v2 : Value} {a0 : List A9} {a1 : A3} {a2 : List A8} {r : (List UInt8) × Int} (hr0 : Rd AL w [] v0 a0) (hr2 : Rd AE w [] v2 a2) (H : Lb a0 a1 a2 = some r) :
    Calls prog 162 #[v0, .agg ⟨(jI a1.Locals :: jI a1.Height :: Bb a1.Slots)⟩, v2] w (B8 fun u_ w_ => ∃ u0 : Value, u_ = .tuple ⟨[u0, jI r.2]⟩ ∧ SL w [] w_ [Sl Ty.u8 u0 r.1]) := by
 have s0 : SL w [] w [] := SL.BF w
 refine Cb func162 ntmps162 2 rfl rfl rfl fun _ F0 => ?_
 unfold Lb at H
 refine Ao F0 s0 rfl rfl rfl fun g8 w9 _ F s1 => gw 8 F rfl fun _ F => AV F s1 m0 1 rfl fun _ F => gx F (Ak rfl underlying224 (fR hr2 s1)) 3 rfl rfl fun _ F => Be F H 8 11 rfl rfl rfl (fun h0 H _ F => ?_) (fun h0 H _ F => ?_)
 ·cases H
  exact rt F ⟨(.slice none 0 0), rfl, (SL.Ca (T := Ty.u8) s1).f1.drop⟩
 obtain ⟨o0, H0, R0⟩ := Aa H
 clear H
 refine gx F (Ak rfl underlying224 (fR hr2 s1)) 3 rfl rfl fun _ F => Cx (fun a w_ => ∃ v1 : Value, Fr a 59 [(0, v0), (2, v2), (8, v1)] ∧ SL w [] w_ [Sl Ty.u8 v1 o0]) ?_ ?_
 ·have H := H0
  refine gc 1 F rfl fun _ F => E6 (Hg a1 a2) (fun s2 a w_ => ∃ v3 : Value, Fr a 59 [(0, v0), (2, v2), (4, jP g8), (8, v3), (20, jI (a2.length : Int)), (21, jI s2.2)] ∧ SL w [] w_ [AB g8 118 (jI a1.Locals :: jI a1.Height :: Bb a1.Slots), Sl Ty.u8 v3 s2.1]) H ?_ ?_
  ·exact ⟨(.slice none 0 0), F.sb, (SL.Ca (T := Ty.u8) s1).f1⟩
  intro s2 _ w0 h1 o1 H hr
  obtain ⟨v3, F, s3⟩ := h1
  replace H : Hg a1 a2 s2 = some o1 := H
  unfold Hg at H
  refine gc 6 F rfl fun _ F => Be F H 12 4 rfl rfl rfl (fun h2 H _ F => ?_) (fun h2 H _ F => ?_)
  ·obtain ⟨x0, h3, H⟩ := Aa H
   refine Hv F s3 m0 1 rfl fun _ F => gx F (Ak rfl underlying224 (fR hr2 s3)) 3 rfl rfl fun _ F => BW F s3 (Sr h3) 10 rfl rfl rfl rfl fun w1 _ F s4 => ?_
   refine Ad (parts := [(0, .tmp 35)]) Flat.u8 ([x0.1] : List UInt8) F s4 BU rfl (by decide) rfl rfl rfl (by simp [Value.cells]) rfl rfl rfl fun v4 w2 _ F s5 => ?_
   obtain ⟨x1, h4, H⟩ := Aa H
   obtain ⟨_, hr_⟩ := (s5.f2.BO m1)
   refine Aq Flat.u8 F s5.f2 BU rfl rfl rfl rfl hr_ rfl rfl h4 rfl fun v5 w3 _ F s6 => ?_
   have s2557' := s6.f1.drop
   cases H
   exact gw 8 F rfl fun _ F => ⟨_, rfl, v5, F.sb, s2557'.f1⟩
  cases H
  obtain rfl := hr _ rfl
  exact ⟨v3, F.sb, s3.drop⟩
 intro _ w4 hJ
 obtain ⟨v1, F, s7⟩ := hJ
 have H := R0
 clear R0 H0
 refine ge 5 F rfl fun _ F => ?_
 obtain ⟨o2, H1, R1⟩ := Aa H
 clear H
 refine gx F (Ak rfl underlying47 (fO s7 m0)) 3 rfl rfl fun _ F => Cx (fun a w_ => ∃ p0 : Unit, o2 = .inr (p0) ∧ Fr a 59 [(8, v1)] ∧ SL w [] w_ [Sl Ty.u8 v1 o0]) ?_ ?_
 ·have H := H1
  refine gc 1 F rfl fun _ F => E6 (Hf a0 a2 o0) (fun s8 a w_ => Fr a 59 [(0, v0), (2, v2), (8, v1), (39, v1), (40, jI (o0.length : Int)), (41, jI s8)] ∧ SL w [] w_ [Sl Ty.u8 v1 o0]) H ?_ ?_
  ·exact ⟨F.sb, s7⟩
  intro s8 _ w5 h5 o3 H hr
  obtain ⟨F, s9⟩ := h5
  replace H : Hf a0 a2 o0 s8 = some o3 := H
  unfold Hf at H
  refine gc 6 F rfl fun _ F => Be F H 7 4 rfl rfl rfl (fun h6 H _ F => ?_) (fun h6 H _ F => ?_)
  ·obtain ⟨x2, h7, H⟩ := Aa H
   obtain ⟨a4, h8, h9⟩ := Av Flat.u8 s9 m0 BU rfl h7
   refine gi F h8 0 rfl fun _ F => ?_
   obtain ⟨x3, ha, H⟩ := Aa H
   obtain ⟨a5, hb, hc⟩ := TZ BE (fun _ hC => (EZ hr2 hC)) s9 Cl rfl ha
   obtain ⟨x4, hd, H⟩ := Aa H
   obtain ⟨a6, he, hf⟩ := TZ Flat.u8 (fun _ hC => (hC.BO m0)) s9 BU rfl hd
   obtain ⟨x5, hg, H⟩ := Aa H
   refine gx F (As DV rfl (Cells.at_ (SL.CC Flat.u8 s9 m0 h9 h7) (o := 0) rfl)) 5 rfl rfl fun _ F => V5 BL s9 F (QR.ev 3 rfl <| QR.ix hb rfl <| QR.qo (fun _ hC => Ar Wo rfl (hc _ hC) rfl) rfl <| QR.ev 2 rfl <| QR.ix he rfl <| QR.qo (fun _ hC => As DV rfl (Cells.at_ (hf _ hC) (o := 0) rfl)) rfl <| QR.call (args := [.tmp 46, .tmp 50, .tmp 51, .tmp 54]) Aek rfl (fun _ hC => PZ (Zm (a0 := a0) (a1 := x3) (a2 := x2) (a3 := x4) (hr0.Bp hC) hg) hC) <| QR.ev 1 rfl <| QR.nil) fun w6 _ sa F => ge 1 F rfl fun _ F => Be F H 13 7 rfl rfl rfl (fun hh H _ F => ?_) (fun hh H _ F => ?_)
   ·cases H
    obtain rfl := hr _ rfl
    replace H := R1
    try dsimp only at H
    cases H
    exact rt F ⟨(.slice none 0 0), rfl, (SL.Ca (T := Ty.u8) sa).f1.drop⟩
   cases H
   exact ⟨_, rfl, F.sb, sa⟩
  cases H
  obtain rfl := hr _ rfl
  exact ⟨_, rfl, F.sb, s9⟩
 intro _ w7 hJ
 obtain ⟨p0, rfl, F, sc⟩ := hJ
 have H := R1
 clear R1 H1
 try dsimp only at H
 cases H
 exact ge 9 F rfl fun _ F => rt F ⟨v1, rfl, sc⟩
theorem QQ {w : World} {a0 : A3} {a1 : Int} {r : UInt8 × Int} (H : Jc a0 a1 = some r) :
    Calls prog 163 #[.agg ⟨(jI a0.Locals :: jI a0.Height :: Bb a0.Slots)⟩, jI a1] w (B8 fun u_ w_ => u_ = .tuple ⟨[jU (r.1.toNat : Int), jI r.2]⟩ ∧ SL w [] w_ []) := by
 have s0 : SL w [] w [] := SL.BF w
 refine Cb func163 ntmps163 2 rfl rfl rfl fun _ F0 => ?_
 unfold Jc at H
 refine Ao F0 s0 rfl rfl rfl fun g8 w9 _ F s1 => ?_
 obtain ⟨x0, h0, H⟩ := Aa H
 refine gw 8 F rfl fun _ F => Hv F s1 m0 0 rfl fun _ F => BW F s1 (IK h0) 4 rfl rfl rfl rfl fun w0 _ F s2 => Be F H 9 5 rfl rfl rfl (fun h1 H _ F => ?_) (fun h1 H _ F => ?_)
 ·cases H
  exact rt F ⟨rfl, s2.drop⟩
 refine Cp 13 F H (fun h2 H F => ?_) (fun h2 H F => ?_)
 ·cases H
  exact gw 18 F rfl fun _ F => rt F ⟨rfl, s2.drop⟩
 refine gw 2 F rfl fun _ F => AY F rfl rfl <| AV F s2 m0 5 rfl fun _ F => Be F H 9 7 rfl rfl rfl (fun h3 H _ F => ?_) (fun h3 H _ F => ?_)
 ·cases H
  exact rt F ⟨rfl, s2.drop⟩
 obtain ⟨x1, h4, H⟩ := Aa H
 refine gx F (K5 Gb h4 rfl rfl) 0 rfl rfl fun _ F => ?_
 cases H
 exact gx F (As DV rfl (SL.QF (pre := [jI a0.Locals, jI a0.Height]) s2 m0 rfl h4)) 5 rfl rfl fun _ F => rt F ⟨rfl, s2.drop⟩
theorem Yw {w : World} {a0 : A3} {r : A3 × UInt8 × Int} (H : M9 a0 = some r) :
    Calls prog 188 #[.agg ⟨(jI a0.Locals :: jI a0.Height :: Bb a0.Slots)⟩] w (B8 fun u_ w_ => u_ = .tuple ⟨[.agg ⟨(jI r.1.Locals :: jI r.1.Height :: Bb r.1.Slots)⟩, jU (r.2.1.toNat : Int), jI r.2.2]⟩ ∧ SL w [] w_ []) := by
 have s0 : SL w [] w [] := SL.BF w
 refine Cb func188 ntmps188 2 rfl rfl rfl fun _ F0 => ?_
 unfold M9 at H
 refine Ao F0 s0 rfl rfl rfl fun g0 w0 _ F s1 => Ag F s1 Bu rfl rfl fun g1 w1 _ F s2 => ?_
 obtain ⟨x0, h0, H⟩ := Aa H
 refine gw 6 F rfl fun _ F => Hv F s2 m1 0 rfl fun _ F => BW F s2 (Sr h0) 14 rfl rfl rfl rfl fun w2 _ F s3 => Be F H 2 5 rfl rfl rfl (fun h1 H _ F => ?_) (fun h1 H _ F => ?_)
 ·refine gx F (Af (vs := []) Bu Dj rfl (cs := jZ) (Ch)) 1 rfl rfl fun _ F => ?_
  refine Br (ds := jZ) F s3 rfl rfl (by simpa using BA) (Ab rfl (Ab rfl (BH _))) (by simp) fun w3 _ F s4 => ?_
  cases H
  refine gw 6 F rfl fun _ F => ?_
  refine Aj (rs := [.cell 2 118, .tmp 3, .tmp 4]) (vs := [.agg ⟨jZ⟩, jU 0, jI x0.2]) F (by rfl) ⟨_, _, rfl, Am s4 m0 rfl BI (by simp), _, _, rfl, An rfl, _, _, rfl, An rfl, rfl⟩ ⟨_, rfl, ⟨rfl, s4.drop.drop⟩⟩
 refine AV F s3 m1 2 rfl fun _ F => Au F s3.f1 rfl rfl JK rfl rfl rfl fun w4 _ F s5 => ?_
 obtain ⟨x1, h2, H⟩ := Aa H
 refine gw 4 F rfl fun _ F => Hv F s5 m0 0 rfl fun _ F => BW F s5 (LK h2) 1 rfl rfl rfl rfl fun w5 _ F s6 => ?_
 refine Br (ds := (jI x1.Locals :: jI x1.Height :: Bb x1.Slots)) F s6.f1 rfl rfl (by simpa using BA) (Ab rfl (Ab rfl (BH _))) (by simp) fun w6 _ F s7 => ?_
 cases H
 refine gw 5 F rfl fun _ F => ?_
 refine Aj (rs := [.cell 2 118, .tmp 3, .tmp 4]) (vs := [.agg ⟨(jI x1.Locals :: jI x1.Height :: Bb x1.Slots)⟩, jU (x0.1.toNat : Int), jI 0]) F (by rfl) ⟨_, _, rfl, Am s7 m0 rfl BI (by simp), _, _, rfl, An rfl, _, _, rfl, An rfl, rfl⟩ ⟨_, rfl, ⟨rfl, s7.drop.drop⟩⟩
theorem VK {w : World} {a0 : A3} {a1 : Int} {a2 : UInt8} {r : A3 × Int} (H : Kv a0 a1 a2 = some r) :
    Calls prog 189 #[.agg ⟨(jI a0.Locals :: jI a0.Height :: Bb a0.Slots)⟩, jI a1, jU (a2.toNat : Int)] w (B8 fun u_ w_ => u_ = .tuple ⟨[.agg ⟨(jI r.1.Locals :: jI r.1.Height :: Bb r.1.Slots)⟩, jI r.2]⟩ ∧ SL w [] w_ []) := by
 have s0 : SL w [] w [] := SL.BF w
 refine Cb func189 ntmps189 2 rfl rfl rfl fun _ F0 => ?_
 unfold Kv at H
 refine Ao F0 s0 rfl rfl rfl fun g0 w0 _ F s1 => Ag F s1 Bu rfl rfl fun g1 w1 _ F s2 => ?_
 obtain ⟨x0, h0, H⟩ := Aa H
 refine gw 5 F rfl fun _ F => Hv F s2 m1 1 rfl fun _ F => BW F s2 (QQ h0) 14 rfl rfl rfl rfl fun w2 _ F s3 => Be F H 2 4 rfl rfl rfl (fun h1 H _ F => ?_) (fun h1 H _ F => ?_)
 ·refine gx F (Af (vs := []) Bu Dj rfl (cs := jZ) (Ch)) 1 rfl rfl fun _ F => ?_
  refine Br (ds := jZ) F s3 rfl rfl (by simpa using BA) (Ab rfl (Ab rfl (BH _))) (by simp) fun w3 _ F s4 => ?_
  cases H
  refine gw 5 F rfl fun _ F => ?_
  refine Aj (rs := [.cell 6 118, .tmp 7]) (vs := [.agg ⟨jZ⟩, jI x0.2]) F (by rfl) ⟨_, _, rfl, Am s4 m0 rfl BI (by simp), _, _, rfl, An rfl, rfl⟩ ⟨_, rfl, ⟨rfl, s4.drop.drop⟩⟩
 obtain ⟨x1, h2, H⟩ := Aa H
 refine Hv F s3 m1 0 rfl fun _ F => BW F s3 (LK h2) 0 rfl rfl rfl rfl fun w4 _ F s5 => ?_
 refine Br (ds := (jI x1.Locals :: jI x1.Height :: Bb x1.Slots)) F s5.f1 rfl rfl (by simpa using BA) (Ab rfl (Ab rfl (BH _))) (by simp) fun w5 _ F s6 => ?_
 obtain ⟨x2, h3, H⟩ := Aa H
 refine gw 7 F rfl fun _ F => gx F (K5 Gb h3 rfl rfl) 0 rfl rfl fun _ F => Po (y' := a2) (pre := [jI x1.Locals, jI x1.Height]) F s6 rfl h3 rfl rfl Ov fun w6 _ F s7 => gw 4 F rfl fun _ F => Hv F s7 m0 0 rfl fun _ F => ?_
 refine Br (ds := (jI x1.Locals :: jI x1.Height :: Bb (H5 x1.Slots a1 a2))) F s7.f1 rfl rfl (by simpa using BA) (Ab rfl (Ab rfl (BH _))) (by simp) fun w7 _ F s8 => ?_
 cases H
 refine gw 4 F rfl fun _ F => ?_
 refine Aj (rs := [.cell 6 118, .tmp 7]) (vs := [.agg ⟨(jI x1.Locals :: jI x1.Height :: Bb (H5 x1.Slots a1 a2))⟩, jI 0]) F (by rfl) ⟨_, _, rfl, Am s8 m0 rfl BI (by simp), _, _, rfl, An rfl, rfl⟩ ⟨_, rfl, ⟨rfl, s8.drop.drop⟩⟩
theorem WX {w : World} {a0 : A3} {a1 : UInt8} {r : A3 × Int} (H : Ly a0 a1 = some r) :
    Calls prog 190 #[.agg ⟨(jI a0.Locals :: jI a0.Height :: Bb a0.Slots)⟩, jU (a1.toNat : Int)] w (B8 fun u_ w_ => u_ = .tuple ⟨[.agg ⟨(jI r.1.Locals :: jI r.1.Height :: Bb r.1.Slots)⟩, jI r.2]⟩ ∧ SL w [] w_ []) := by
 have s0 : SL w [] w [] := SL.BF w
 refine Cb func190 ntmps190 2 rfl rfl rfl fun _ F0 => ?_
 unfold Ly at H
 refine Ao F0 s0 rfl rfl rfl fun g0 w0 _ F s1 => Ag F s1 Bu rfl rfl fun g1 w1 _ F s2 => ?_
 obtain ⟨x0, h0, H⟩ := Aa H
 refine gw 7 F rfl fun _ F => Hv F s2 m1 0 rfl fun _ F => BW F s2 (IK h0) 4 rfl rfl rfl rfl fun w2 _ F s3 => Be F H 2 3 rfl rfl rfl (fun h1 H _ F => ?_) (fun h1 H _ F => ?_)
 ·refine gx F (Af (vs := []) Bu Dj rfl (cs := jZ) (Ch)) 0 rfl rfl fun _ F => ?_
  refine Br (ds := jZ) F s3 rfl rfl (by simpa using BA) (Ab rfl (Ab rfl (BH _))) (by simp) fun w3 _ F s4 => ?_
  cases H
  refine gw 6 F rfl fun _ F => ?_
  refine Aj (rs := [.cell 4 118, .tmp 5]) (vs := [.agg ⟨jZ⟩, jI 32]) F (by rfl) ⟨_, _, rfl, Am s4 m0 rfl BI (by simp), _, _, rfl, An rfl, rfl⟩ ⟨_, rfl, ⟨rfl, s4.drop.drop⟩⟩
 refine AV F s3 m1 1 rfl fun _ F => AV F s3 m1 5 rfl fun _ F => Be F H 2 5 rfl rfl rfl (fun h2 H _ F => ?_) (fun h2 H _ F => ?_)
 ·refine gx F (Af (vs := []) Bu Dj rfl (cs := jZ) (Ch)) 0 rfl rfl fun _ F => ?_
  refine Br (ds := jZ) F s3 rfl rfl (by simpa using BA) (Ab rfl (Ab rfl (BH _))) (by simp) fun w4 _ F s5 => ?_
  cases H
  refine gw 6 F rfl fun _ F => ?_
  refine Aj (rs := [.cell 4 118, .tmp 5]) (vs := [.agg ⟨jZ⟩, jI 31]) F (by rfl) ⟨_, _, rfl, Am s5 m0 rfl BI (by simp), _, _, rfl, An rfl, rfl⟩ ⟨_, rfl, ⟨rfl, s5.drop.drop⟩⟩
 obtain ⟨x1, h3, H⟩ := Aa H
 refine Hv F s3 m1 0 rfl fun _ F => BW F s3 (LK h3) 0 rfl rfl rfl rfl fun w5 _ F s6 => ?_
 refine Br (ds := (jI x1.Locals :: jI x1.Height :: Bb x1.Slots)) F s6.f1 rfl rfl (by simpa using BA) (Ab rfl (Ab rfl (BH _))) (by simp) fun w6 _ F s7 => ?_
 obtain ⟨x2, h4, H⟩ := Aa H
 refine gw 5 F rfl fun _ F => AV F s7 m0 1 rfl fun _ F => AV F s7 m0 3 rfl fun _ F => gx F (K5 Gb h4 rfl rfl) 0 rfl rfl fun _ F => Po (y' := a1) (pre := [jI x1.Locals, jI x1.Height]) F s7 rfl h4 rfl rfl Ov fun w7 _ F s8 => gw 5 F rfl fun _ F => AV F s8 m0 2 rfl fun _ F => Au F s8 rfl rfl JK rfl rfl rfl fun w8 _ F s9 => gw 4 F rfl fun _ F => Hv F s9 m0 0 rfl fun _ F => ?_
 refine Br (ds := (jI x1.Locals :: jI (wr (x1.Height + 1)) :: Bb (H5 x1.Slots (wr (x1.Locals + x1.Height)) a1))) F s9.f1 rfl rfl (by simpa using BA) (Ab rfl (Ab rfl (BH _))) (by simp) fun w9 _ F sa => ?_
 cases H
 refine gw 4 F rfl fun _ F => ?_
 refine Aj (rs := [.cell 4 118, .tmp 5]) (vs := [.agg ⟨(jI x1.Locals :: jI (wr (x1.Height + 1)) :: Bb (H5 x1.Slots (wr (x1.Locals + x1.Height)) a1))⟩, jI 0]) F (by rfl) ⟨_, _, rfl, Am sa m0 rfl BI (by simp), _, _, rfl, An rfl, rfl⟩ ⟨_, rfl, ⟨rfl, sa.drop.drop⟩⟩
end Go.Proofs.YtfcpkcehecmcpaaGreat
