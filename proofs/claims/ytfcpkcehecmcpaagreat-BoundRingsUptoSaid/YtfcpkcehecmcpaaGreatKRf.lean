/- Lemmas, walks and laws that the row of this claim rests on, merged into few texts: part 6. -/
import Derived.Test.YtfcpkcehecmcpaaGreatKRe
set_option linter.unusedVariables false
set_option linter.unusedSimpArgs false
namespace Go.Proofs.YtfcpkcehecmcpaaGreat
open Go Go.RowKit Go.Pv Go.Proofs.Tryz
open Go.Pv renaming bind_ok → Aa, Bke → Ab, Bhz → Ae, Bkv → Af, Bf5 → Ag, Bd6 → Ah, Bp8 → Ai, AY4 → Aj, Bp2 → Ak, Bk4 → Al, Bll → Ao, Bmz → Ap, Bks → Aq, Ba8 → Ar, Be4 → As, Bm5 → Au, Bdh → Av, Bbs → Aw, Bne → Ax, Bdu → Ay, Bi1 → Az, Blf → Ba, Bfw → Bc, Bcl → Bd, bool_split → Be, Bj5 → Bf, Bm0 → Bg, Bd2 → Bh, Bkj → Bi, Bde → Bj, Bea → Bk, rdL → Bl
open Nat renaming le_of_ble_eq_true → Ac
open Bool renaming noConfusion → Ad
open Go.Pv.RV renaming blk → Am, tmp → An
open Go.Pv.QR renaming nil → Bb
theorem Brf {w : World} {v0_0 v0_1 : Value} {a0 : Adb} {a1 : Ads} {r : A0x × Int} (hr0_0 : Rd Aef w [] v0_0 a0.Classes) (hr0_1 : Rd Ate w [] v0_1 a0.Akq) (H : Bee a0 a1 = some r) :
    Calls prog 205 #[.agg ⟨[v0_0, v0_1, jI a0.Fn]⟩, .agg ⟨[jI a1.At, jU (a1.Op.toNat : Int), jI a1.A, jI a1.B]⟩] w (Ret fun u_ w_ => ∃ u0 u1 : Value, u_ = .tuple ⟨[.agg ⟨[u0, u1]⟩, jI r.2]⟩ ∧ SL w [] w_ [Sl Aeh u0 r.1.takes, Gvc 214 203 204 47 u1 r.1.gives]) := by
 have s0 : SL w [] w [] := SL.Aq9 w
 refine cin func205 ntmps205 2 rfl rfl rfl fun _ F0 => ?_
 unfold Bee at H
 refine Ar F0 s0 rfl rfl rfl fun g0 w0 _ F s1 => Ar F s1 rfl rfl rfl fun g1 w1 _ F s2 => Af F s2 AMl rfl rfl fun g32 w2 _ F s3 => gw 7 F rfl fun _ F => gld F s3 m1 2 rfl fun _ F => bsp 13 F H (fun h0 H F => ?_) (fun h0 H F => ?_)
 ·refine gw 12 F rfl fun _ F => gx F (Al (vs := []) AMl AQ1 rfl (cs := [.slice none 0 0, .nilFunc]) (rfl)) 0 rfl rfl fun _ F => Ah F s3 rfl rfl AP4 (Ab rfl (Ab rfl Ap)) (Ac rfl) fun w3 _ F s4 => ?_
  cases H
  refine gw 5 F rfl fun _ F => ?_
  refine Aj (rs := [.cell 4 226, .tmp 5]) (vs := [.agg ⟨[.slice none 0 0, .nilFunc]⟩, jI 71]) F (by rfl) ⟨_, _, rfl, Am s4 m0 rfl AO9 rfl, _, _, rfl, An rfl, rfl⟩ ⟨_, rfl, ⟨(.slice none 0 0), .nilFunc, rfl, (SL.Bbb (SL.Axc (T := Aeh) s4)).f2.drop.f2.drop.f2.drop.f1⟩⟩
 refine gw 1 F rfl fun _ F => Afv F rfl rfl <| gld F s3 m1 1 rfl fun _ F => Afv F rfl rfl <| gld F s3 m2 0 rfl fun _ F => Afv F rfl rfl <| gx F (Ak rfl underlying108 (fR hr0_1 s3)) 4 rfl rfl fun _ F => gif F H 2 4 rfl rfl rfl (fun h1 H _ F => ?_) (fun h1 H _ F => ?_)
 ·refine gx F (Al (vs := []) AMl AQ1 rfl (cs := [.slice none 0 0, .nilFunc]) (rfl)) 0 rfl rfl fun _ F => Ah F s3 rfl rfl AP4 (Ab rfl (Ab rfl Ap)) (Ac rfl) fun w4 _ F s5 => ?_
  cases H
  refine gw 5 F rfl fun _ F => ?_
  refine Aj (rs := [.cell 4 226, .tmp 5]) (vs := [.agg ⟨[.slice none 0 0, .nilFunc]⟩, jI 71]) F (by rfl) ⟨_, _, rfl, Am s5 m0 rfl AO9 rfl, _, _, rfl, An rfl, rfl⟩ ⟨_, rfl, ⟨(.slice none 0 0), .nilFunc, rfl, (SL.Bbb (SL.Axc (T := Aeh) s5)).f2.drop.f2.drop.f2.drop.f1⟩⟩
 obtain ⟨x0, h2, H⟩ := Aa H
 obtain ⟨a2, c0, G0, h3, h4, h5, h6⟩ := Rd.idx hr0_1 APh rfl h2
 obtain ⟨v0, rfl, h7⟩ := (ARn h5 h6)
 replace h4 := h4 _ _ s3
 refine gw 1 F rfl fun _ F => gld F s3 m2 1 rfl fun _ F => gld F s3 m1 0 rfl fun _ F => gi F h3 0 rfl fun _ F => gx F (Aw AV1 rfl h4 rfl) 0 rfl rfl fun _ F => Af F s3 AYi rfl rfl fun g2 w5 _ F s6 => Ah F s6 rfl rfl Bc8 (Ab (Aq (fR h7 s6)) (Ab rfl Ap)) (Ac rfl) fun w6 _ F s7 => gw 11 F rfl fun _ F => gld F s7 m0 0 rfl fun _ F => ?_
 obtain ⟨o0, H0, R0⟩ := Aa H
 clear H
 refine gx F (Ak rfl underlying47 (fR h7 s7)) 3 rfl rfl fun _ F => At9 (fun a w_ => ∃ v1 : Value, Fr a 53 [(4, jP g32), (6, jP g2), (7, v1)] ∧ SL w [] w_ [Blk g2 50 [v0, jU (x0.Result.toNat : Int)], Blk g32 226 [.slice none 0 0, .nilFunc], Sl Aeh v1 o0]) ?_ ?_
 ·have H := H0
  refine gc 1 F rfl fun _ F => lpk (AUu x0) (fun s8 a w_ => ∃ v2 : Value, Fr a 53 [(4, jP g32), (6, jP g2), (7, v2), (29, v0), (30, jI (x0.Ars.length : Int)), (31, jI s8.2)] ∧ SL w [] w_ [Blk g2 50 [v0, jU (x0.Result.toNat : Int)], Blk g32 226 [.slice none 0 0, .nilFunc], Sl Aeh v2 s8.1]) H ?_ ?_
  ·exact ⟨(.slice none 0 0), F.sb, (SL.Axc (T := Aeh) s7).f3.drop.f3.drop.f2.f2⟩
  intro s8 _ w7 h8 o1 H hr
  obtain ⟨v2, F, s9⟩ := h8
  replace H : AUu x0 s8 = some o1 := H
  unfold AUu at H
  refine gc 6 F rfl fun _ F => gif F H 6 4 rfl rfl rfl (fun h9 H _ F => ?_) (fun h9 H _ F => ?_)
  ·obtain ⟨x1, ha, H⟩ := Aa H
   obtain ⟨a3, hb, hc⟩ := AT7 Flat.u8 (Bl h7 s9) Aqg rfl ha
   refine gi F hb 0 rfl fun _ F => ?_
   obtain ⟨x2, hd, H⟩ := Aa H
   refine gx F (Ao Aw9 rfl (Aqa.at_ hc (o := 0) rfl)) 6 rfl rfl fun _ F => gca F s9 (AW1 hd) 0 rfl rfl rfl rfl fun w8 _ F sa => ?_
   refine Ae (parts := [(0, .tmp 37)]) A7j ([x2] : List Aaz) F sa AG7 rfl (by decide) rfl rfl rfl (by simp [Value.cells]) rfl rfl rfl fun v3 w9 _ F sc => ?_
   obtain ⟨x3, he, H⟩ := Aa H
   obtain ⟨_, hr_⟩ := (sc.f3.A59 m1)
   refine Av A7j F sc.f3 AG7 rfl rfl rfl rfl hr_ rfl rfl he rfl fun v4 wa _ F sd => ?_
   have s2463' := sd.f1.drop
   cases H
   exact gw 8 F rfl fun _ F => ⟨_, rfl, v4, F.sb, s2463'.f2.f2⟩
  cases H
  obtain rfl := hr _ rfl
  exact ⟨v2, F.sb, s9⟩
 intro _ wb hJ
 obtain ⟨v1, F, se⟩ := hJ
 have H := R0
 clear R0 H0
 refine ge 5 F rfl fun _ F => gld F se m0 3 rfl fun _ F => gif F H 3 6 rfl rfl rfl (fun hf H _ F => ?_) (fun hf H _ F => ?_)
 ·refine As (args := [.const (.slice none 0 0)]) F ANk rfl (A5e rfl) rfl fun v5 wc _ hg F => ?_
  obtain ⟨g3, hh, hi⟩ := hg
  have sf := se.add hi
  have sg := SL.AJt (c := 214) (d := 203) (s := 204) hh ((SL.Axc (T := Ty.u8) sf).f1)
  have hj := (fO sg m3)
  have hk := sg.ARx m0
  refine gx F (Al (vs := [v1, v5]) AMl AQ1 rfl (cs := [v1, v5]) (AN2 rfl (Ag hj) (by simp) <| AN2 rfl (hk).1 (by simp) <| Ayf)) 0 rfl rfl fun _ F => ?_
  refine Ah F sg.f2 rfl rfl AP4 (Ab (Aq (fO sg.f2 m3)) (Ab (sg.f2.ARx m1).2 Ap)) (Ac rfl) fun wd _ F sh => ?_
  cases H
  refine gw 5 F rfl fun _ F => ?_
  refine Aj (rs := [.cell 4 226, .tmp 5]) (vs := [.agg ⟨[v1, v5]⟩, jI 0]) F (by rfl) ⟨_, _, rfl, Am sh m0 rfl AO9 rfl, _, _, rfl, An rfl, rfl⟩ ⟨_, rfl, ⟨v1, v5, rfl, sh.drop.f1.drop.f1⟩⟩
 refine gld F se m0 0 rfl fun _ F => ?_
 refine Ae (parts := [(0, .tmp 49)]) Flat.u8 ([x0.Result] : List UInt8) F se Aqg rfl (by decide) rfl rfl rfl (by simp [Value.cells]) rfl rfl rfl fun v6 we _ F si => ?_
 refine As (args := [.tmp 50]) F ANk rfl (A5e (Ag (fO si m0))) rfl fun v7 wf _ hl F => ?_
 obtain ⟨g4, hm, hn⟩ := hl
 have sj := si.add hn
 have sk := SL.AJt (c := 214) (d := 203) (s := 204) hm sj.f1.f1
 have ho := (fO sk m3)
 have hp := sk.ARx m0
 refine gx F (Al (vs := [v1, v7]) AMl AQ1 rfl (cs := [v1, v7]) (AN2 rfl (Ag ho) (by simp) <| AN2 rfl (hp).1 (by simp) <| Ayf)) 0 rfl rfl fun _ F => ?_
 refine Ah F sk.f2 rfl rfl AP4 (Ab (Aq (fO sk.f2 m3)) (Ab (sk.f2.ARx m1).2 Ap)) (Ac rfl) fun wg _ F sl => ?_
 cases H
 refine gw 4 F rfl fun _ F => ?_
 refine Aj (rs := [.cell 4 226, .tmp 5]) (vs := [.agg ⟨[v1, v7]⟩, jI 0]) F (by rfl) ⟨_, _, rfl, Am sl m0 rfl AO9 rfl, _, _, rfl, An rfl, rfl⟩ ⟨_, rfl, ⟨v1, v7, rfl, sl.drop.f1.drop.f1⟩⟩
theorem Bms {w : World} {a0 : UInt8} {r : (List Aaz)} (H : Ban a0 = some r) :
    Calls prog 207 #[jU (a0.toNat : Int)] w (Ret fun u_ w_ => ∃ u0 : Value, u_ = u0 ∧ SL w [] w_ [Sl Aeh u0 r]) := by
 have s0 : SL w [] w [] := SL.Aq9 w
 refine cin func207 ntmps207 12 rfl rfl rfl fun _ F => ?_
 unfold Ban at H
 refine gif F H 7 5 rfl rfl rfl (fun h0 H _ F => ?_) (fun h0 H _ F => ?_)
 ·cases H
  exact rt F ⟨(.slice none 0 0), rfl, (SL.Axc (T := Aeh) s0)⟩
 obtain ⟨x0, h1, H⟩ := Aa H
 refine gca F s0 (AW1 h1) 0 rfl rfl rfl rfl fun w0 _ F s1 => ?_
 refine Ae (parts := [(0, .tmp 6)]) A7j ([x0] : List Aaz) F s1 AG7 rfl (by decide) rfl rfl rfl (by simp [Value.cells]) rfl rfl rfl fun v0 w1 _ F s2 => ?_
 cases H
 exact gw 4 F rfl fun _ F => rt F ⟨v0, rfl, s2⟩
theorem Bk5 {w : World} {FF : List Nat} {g2 : Nat} {v0_0 v0_1 v2_0 : Value} {a0 : Adb} {a1 : Ads} {a2 : Gv} {r : A0x × Int} (hst : Aru [Blk g2 142 [v2_0], Gvc 214 203 204 47 v2_0 a2] w FF) (hr0_0 : Rd Aef w FF v0_0 a0.Classes) (hr0_1 : Rd Ate w FF v0_1 a0.Akq) (H : AYy a0 a1 a2 = some r) :
    Calls prog 206 #[.agg ⟨[v0_0, v0_1, jI a0.Fn]⟩, .agg ⟨[jI a1.At, jU (a1.Op.toNat : Int), jI a1.A, jI a1.B]⟩, jP g2] w (Ret fun u_ w_ => ∃ u0 u1 : Value, u_ = .tuple ⟨[.agg ⟨[u0, u1]⟩, jI r.2]⟩ ∧ SL w FF w_ [Sl Aeh u0 r.1.takes, Gvc 214 203 204 47 u1 r.1.gives]) := by
 have s0 : SL w FF w [Blk g2 142 [v2_0], Gvc 214 203 204 47 v2_0 a2] := SL.init w FF hst
 refine cin func206 ntmps206 2 rfl rfl rfl fun _ F0 => ?_
 unfold AYy at H
 refine Ar F0 s0 rfl rfl rfl fun g0 w0 _ F s1 => Ar F s1 rfl rfl rfl fun g1 w1 _ F s2 => Af F s2 AMl rfl rfl fun g32 w2 _ F s3 => ?_
 obtain ⟨x0, h0, H⟩ := Aa H
 obtain ⟨x1, h1, H⟩ := Aa H
 refine gw 4 F rfl fun _ F => AJp Aq8 s3.drop ?_
 obtain ⟨a3, c0, G0, h2, h3, h4, h5⟩ := Rd.idx hr0_1 APh rfl h0
 obtain ⟨v0, rfl, h6⟩ := (ARn h4 h5)
 have hc159_ := h3; clear h3; have h3 := fun w_ (hC : SL w FF w_ [Blk g1 79 [jI a1.At, jU (a1.Op.toNat : Int), jI a1.A, jI a1.B], Blk g0 110 [v0_0, v0_1, jI a0.Fn], Blk g2 142 [v2_0], Gvc 214 203 204 47 v2_0 a2]) => hc159_ _ _ hC
 refine hq [0, 1, 2, 3, 4, 5, 6, 8] F s3.drew.drop (QI.ev 1 rfl <| QI.ld m1 rfl <| QI.ev 1 rfl <| QI.ld m1 rfl <| QI.ix h2 rfl <| QI.op rfl (fun _ hC => Ba Bis rfl) rfl <| QI.op rfl (fun _ hC => Ao Aw9 rfl (Aqa.at_ (h3 _ hC) (o := 1) rfl)) rfl <| QI.ld m2 rfl <| QI.nil) (by kernel_rfl) fun _ F => ?_
 refine ho 7 rfl (by kernel_rfl) ?_
 refine std F (Bms h1) fun v1 w3 _ h7 F => ?_
 obtain ⟨_, rfl, h8⟩ := h7
 have s4 := s3.drew.add h8
 refine gw 1 F rfl fun _ F => ⟨s4.drop.drop, ?_⟩
 refine ho 9 rfl (by kernel_rfl) ?_
 have h9 := (fO s4 m0)
 have ha := s4.ARx m5
 refine gx F (Al (vs := [v1, v2_0]) AMl AQ1 rfl (cs := [v1, v2_0]) (AN2 rfl (Ag h9) (by simp) <| AN2 rfl (ha).1 (by simp) <| Ayf)) 1 rfl rfl fun _ F => ?_
 refine ⟨s4.drop.drop, ?_⟩
 refine ho 10 rfl (by kernel_rfl) ?_
 refine Ah F s4.f1 rfl rfl AP4 (Ab (Aq (fO s4.f1 m1)) (Ab (s4.f1.ARx m5).2 Ap)) (Ac rfl) fun w4 _ F s5 => gw 1 F rfl fun _ F => ⟨s5.drop.drop, ?_⟩
 refine hq [11] F s5.drop.drop (QI.ev 1 rfl <| QI.nil) (by kernel_rfl) fun _ F => ?_
 refine ANu (by kernel_rfl) ?_
 cases H
 refine ge 2 F rfl fun _ F => ?_
 refine Aj (rs := [.cell 5 226, .tmp 6]) (vs := [.agg ⟨[v1, v2_0]⟩, jI 0]) F (by rfl) ⟨_, _, rfl, Am s5 m0 rfl AO9 rfl, _, _, rfl, An rfl, rfl⟩ ⟨_, rfl, ⟨v1, v2_0, rfl, s5.drop.f1.drop.f1.drop.f1.drop⟩⟩
theorem Bkm {w : World} {FF : List Nat} {g2 g3 : Nat} {v0_0 v0_1 v2_0 v3_0 : Value} {a0 : Adb} {a1 : Ads} {a2 : List Aaz} {a3 : Gv} {r : A0x × Int} (hst : Aru [Blk g2 224 [v2_0], Sl Aeh v2_0 a2, Blk g3 142 [v3_0], Gvc 214 203 204 47 v3_0 a3] w FF) (hr0_0 : Rd Aef w FF v0_0 a0.Classes) (hr0_1 : Rd Ate w FF v0_1 a0.Akq) (H : AY2 a0 a1 a2 a3 = some r) :
    Calls prog 215 #[.agg ⟨[v0_0, v0_1, jI a0.Fn]⟩, .agg ⟨[jI a1.At, jU (a1.Op.toNat : Int), jI a1.A, jI a1.B]⟩, jP g2, jP g3] w (Ret fun u_ w_ => ∃ u0 u1 : Value, u_ = .tuple ⟨[.agg ⟨[u0, u1]⟩, jI r.2]⟩ ∧ SL w FF w_ [Sl Aeh u0 r.1.takes, Gvc 214 203 204 47 u1 r.1.gives]) := by
 have s0 : SL w FF w [Blk g2 224 [v2_0], Sl Aeh v2_0 a2, Blk g3 142 [v3_0], Gvc 214 203 204 47 v3_0 a3] := SL.init w FF hst
 refine cin func215 ntmps215 2 rfl rfl rfl fun _ F0 => ?_
 unfold AY2 at H
 refine Ar F0 s0 rfl rfl rfl fun g0 w0 _ F s1 => Ar F s1 rfl rfl rfl fun g1 w1 _ F s2 => Af F s2 AMl rfl rfl fun g32 w2 _ F s3 => ?_
 have h0 := (fO s3 m4)
 have h1 := s3.ARx m6
 refine gw 5 F rfl fun _ F => gld F s3 m3 0 rfl fun _ F => gld F s3 m5 0 rfl fun _ F => ?_
 refine gx F (Al (vs := [v2_0, v3_0]) AMl AQ1 rfl (cs := [v2_0, v3_0]) (AN2 rfl (Ag h0) (by simp) <| AN2 rfl (h1).1 (by simp) <| Ayf)) 0 rfl rfl fun _ F => ?_
 refine Ah F s3 rfl rfl AP4 (Ab (Aq (fO s3 m4)) (Ab (s3.ARx m6).2 Ap)) (Ac rfl) fun w3 _ F s4 => ?_
 cases H
 refine gw 4 F rfl fun _ F => ?_
 refine Aj (rs := [.cell 6 226, .tmp 7]) (vs := [.agg ⟨[v2_0, v3_0]⟩, jI 0]) F (by rfl) ⟨_, _, rfl, Am s4 m0 rfl AO9 rfl, _, _, rfl, An rfl, rfl⟩ ⟨_, rfl, ⟨v2_0, v3_0, rfl, s4.drop.drop.drop.drop.f1.drop⟩⟩
theorem Bdr {w : World} {a0 : Int} {r : UInt8} (H : Bba a0 = some r) :
    Calls prog 217 #[jI a0] w (Ret fun u_ w_ => u_ = jU (r.toNat : Int) ∧ SL w [] w_ []) := by
 have s0 : SL w [] w [] := SL.Aq9 w
 refine cin func217 ntmps217 8 rfl rfl rfl fun _ F7 => ?_
 unfold Bba at H
 refine gx F7 (Bh2 rfl underlying3 underlying48) 0 rfl rfl fun _ F8 => ?_
 cases H
 exact gx F8 (Biu rfl rfl) 4 rfl rfl fun _ F => rt F ⟨rfl, s0⟩
theorem Bip {w : World} {FF : List Nat} {g2 g3 : Nat} {v0_0 v0_1 v3_0 : Value} {a0 : Adb} {a1 : Ads} {a2 : Bool} {a3 : List Aaz} {r : A0x × Int} (hst : Aru [Blk g2 4 [.bool a2], Blk g3 224 [v3_0], Sl Aeh v3_0 a3] w FF) (hr0_0 : Rd Aef w FF v0_0 a0.Classes) (hr0_1 : Rd Ate w FF v0_1 a0.Akq) (H : AU2 a0 a1 a2 a3 = some r) :
    Calls prog 216 #[.agg ⟨[v0_0, v0_1, jI a0.Fn]⟩, .agg ⟨[jI a1.At, jU (a1.Op.toNat : Int), jI a1.A, jI a1.B]⟩, jP g2, jP g3] w (Ret fun u_ w_ => ∃ u0 u1 : Value, u_ = .tuple ⟨[.agg ⟨[u0, u1]⟩, jI r.2]⟩ ∧ SL w FF w_ [Sl Aeh u0 r.1.takes, Gvc 214 203 204 47 u1 r.1.gives]) := by
 have s0 : SL w FF w [Blk g2 4 [.bool a2], Blk g3 224 [v3_0], Sl Aeh v3_0 a3] := SL.init w FF hst
 refine cin func216 ntmps216 2 rfl rfl rfl fun _ F0 => ?_
 unfold AU2 at H
 refine Ar F0 s0 rfl rfl rfl fun g0 w0 _ F s1 => Ar F s1 rfl rfl rfl fun g1 w1 _ F s2 => Af F s2 AMl rfl rfl fun g32 w2 _ F s3 => gw 7 F rfl fun _ F => gld F s3 m1 2 rfl fun _ F => bsp 11 F H (fun h0 H F => ?_) (fun h0 H F => ?_)
 ·refine gw 12 F rfl fun _ F => gx F (Al (vs := []) AMl AQ1 rfl (cs := [.slice none 0 0, .nilFunc]) (rfl)) 0 rfl rfl fun _ F => Ah F s3 rfl rfl AP4 (Ab rfl (Ab rfl Ap)) (Ac rfl) fun w3 _ F s4 => ?_
  cases H
  refine gw 5 F rfl fun _ F => ?_
  refine Aj (rs := [.cell 6 226, .tmp 7]) (vs := [.agg ⟨[.slice none 0 0, .nilFunc]⟩, jI 72]) F (by rfl) ⟨_, _, rfl, Am s4 m0 rfl AO9 rfl, _, _, rfl, An rfl, rfl⟩ ⟨_, rfl, ⟨(.slice none 0 0), .nilFunc, rfl, (SL.Bbb (SL.Axc (T := Aeh) s4)).f2.drop.f2.drop.f2.drop.f2.drop.f2.drop.f2.drop.f1⟩⟩
 refine gw 1 F rfl fun _ F => Afv F rfl rfl <| gld F s3 m1 1 rfl fun _ F => Afv F rfl rfl <| gld F s3 m2 0 rfl fun _ F => Afv F rfl rfl <| gx F (Ak rfl underlying22 (fR hr0_0 s3)) 4 rfl rfl fun _ F => gif F H 2 5 rfl rfl rfl (fun h1 H _ F => ?_) (fun h1 H _ F => ?_)
 ·refine gx F (Al (vs := []) AMl AQ1 rfl (cs := [.slice none 0 0, .nilFunc]) (rfl)) 0 rfl rfl fun _ F => Ah F s3 rfl rfl AP4 (Ab rfl (Ab rfl Ap)) (Ac rfl) fun w4 _ F s5 => ?_
  cases H
  refine gw 5 F rfl fun _ F => ?_
  refine Aj (rs := [.cell 6 226, .tmp 7]) (vs := [.agg ⟨[.slice none 0 0, .nilFunc]⟩, jI 72]) F (by rfl) ⟨_, _, rfl, Am s5 m0 rfl AO9 rfl, _, _, rfl, An rfl, rfl⟩ ⟨_, rfl, ⟨(.slice none 0 0), .nilFunc, rfl, (SL.Bbb (SL.Axc (T := Aeh) s5)).f2.drop.f2.drop.f2.drop.f2.drop.f2.drop.f2.drop.f1⟩⟩
 refine gld F s3 m3 3 rfl fun _ F => gif F H 1 3 rfl rfl rfl (fun h2 H _ F => ?_) (fun h2 H _ F => ?_)
 ·refine AJp Aq8 s3.drop ?_
  refine hq [0] F s3.drew.drop (QI.ld m3 rfl <| QI.nil) (by kernel_rfl) fun _ F => ?_
  refine ho 1 rfl (by kernel_rfl) ?_
  refine Ae (parts := [(0, .const (jU 2))]) Flat.u8 ([(2 : UInt8)] : List UInt8) F s3.drew Aqg rfl (by decide) rfl rfl rfl (by simp [Value.cells]) rfl rfl rfl fun v0 w5 _ F s6 => ?_
  refine gw 1 F rfl fun _ F => ⟨s6.drop.drop, ?_⟩
  refine ho 2 rfl (by kernel_rfl) ?_
  refine As (args := [.tmp 23]) F ANk rfl (A5e (Ag (fO s6 m0))) rfl fun v1 w6 _ h3 F => ?_
  obtain ⟨g4, h4, h5⟩ := h3
  have s7 := s6.add h5
  have s8 := SL.AJt (c := 214) (d := 203) (s := 204) h4 s7.f1.f1
  refine gw 1 F rfl fun _ F => ⟨s8.drop.drop, ?_⟩
  refine ho 3 rfl (by kernel_rfl) ?_
  have h6 := (fO s8 m6)
  have h7 := s8.ARx m0
  refine gx F (Al (vs := [v3_0, v1]) AMl AQ1 rfl (cs := [v3_0, v1]) (AN2 rfl (Ag h6) (by simp) <| AN2 rfl (h7).1 (by simp) <| Ayf)) 1 rfl rfl fun _ F => ?_
  refine ⟨s8.drop.drop, ?_⟩
  refine ho 4 rfl (by kernel_rfl) ?_
  refine Ah F s8.f1 rfl rfl AP4 (Ab (Aq (fO s8.f1 m6)) (Ab (s8.f1.ARx m1).2 Ap)) (Ac rfl) fun w7 _ F s9 => gw 1 F rfl fun _ F => ⟨s9.drop.drop, ?_⟩
  refine hq [5] F s9.drop.drop (QI.ev 1 rfl <| QI.nil) (by kernel_rfl) fun _ F => ?_
  refine ANu (by kernel_rfl) ?_
  cases H
  refine ge 3 F rfl fun _ F => ?_
  refine Aj (rs := [.cell 6 226, .tmp 7]) (vs := [.agg ⟨[v3_0, v1]⟩, jI 0]) F (by rfl) ⟨_, _, rfl, Am s9 m0 rfl AO9 rfl, _, _, rfl, An rfl, rfl⟩ ⟨_, rfl, ⟨v3_0, v1, rfl, s9.drop.f1.drop.f1.drop.f1.drop.f1.drop.f1⟩⟩
 obtain ⟨x0, h8, H⟩ := Aa H
 refine AJp Aq8 s3.drop ?_
 refine hq [0, 1, 2] F s3.drew.drop (QI.ld m3 rfl <| QI.ev 1 rfl <| QI.ld m0 rfl <| QI.nil) (by kernel_rfl) fun _ F => ?_
 refine ho 3 rfl (by kernel_rfl) ?_
 refine gca F s3.drew (Bdr h8) 1 rfl rfl rfl rfl fun w8 _ F sa => ⟨sa.drop, ?_⟩
 refine ho 4 rfl (by kernel_rfl) ?_
 refine Ae (parts := [(0, .tmp 29)]) Flat.u8 ([x0] : List UInt8) F sa Aqg rfl (by decide) rfl rfl rfl (by simp [Value.cells]) rfl rfl rfl fun v2 w9 _ F sb => ?_
 refine gw 1 F rfl fun _ F => ⟨sb.drop.drop, ?_⟩
 refine ho 5 rfl (by kernel_rfl) ?_
 refine As (args := [.tmp 30]) F ANk rfl (A5e (Ag (fO sb m0))) rfl fun v3 wa _ h9 F => ?_
 obtain ⟨g5, ha, hb⟩ := h9
 have sc := sb.add hb
 have sd := SL.AJt (c := 214) (d := 203) (s := 204) ha sc.f1.f1
 refine gw 1 F rfl fun _ F => ⟨sd.drop.drop, ?_⟩
 refine ho 6 rfl (by kernel_rfl) ?_
 have hc := (fO sd m6)
 have hd := sd.ARx m0
 refine gx F (Al (vs := [v3_0, v3]) AMl AQ1 rfl (cs := [v3_0, v3]) (AN2 rfl (Ag hc) (by simp) <| AN2 rfl (hd).1 (by simp) <| Ayf)) 1 rfl rfl fun _ F => ?_
 refine ⟨sd.drop.drop, ?_⟩
 refine ho 7 rfl (by kernel_rfl) ?_
 refine Ah F sd.f1 rfl rfl AP4 (Ab (Aq (fO sd.f1 m6)) (Ab (sd.f1.ARx m1).2 Ap)) (Ac rfl) fun wb _ F se => gw 1 F rfl fun _ F => ⟨se.drop.drop, ?_⟩
 refine hq [8] F se.drop.drop (QI.ev 1 rfl <| QI.nil) (by kernel_rfl) fun _ F => ?_
 refine ANu (by kernel_rfl) ?_
 cases H
 refine ge 2 F rfl fun _ F => ?_
 refine Aj (rs := [.cell 6 226, .tmp 7]) (vs := [.agg ⟨[v3_0, v3]⟩, jI 0]) F (by rfl) ⟨_, _, rfl, Am se m0 rfl AO9 rfl, _, _, rfl, An rfl, rfl⟩ ⟨_, rfl, ⟨v3_0, v3, rfl, se.drop.f1.drop.f1.drop.f1.drop.f1.drop.f1⟩⟩
theorem Bh1 {w : World} {FF : List Nat} {g1 : Nat} {v1_0 : Value} {a0 : Int} {a1 : List Int} {r : Bool × (List Int)} (hst : Aru [Blk g1 28 [v1_0], Sl (Ty.int .i64) v1_0 a1] w FF) (H : AW9 a0 a1 = some r) :
    Calls prog 100 #[jI a0, jP g1] w (Ret fun u_ w_ => ∃ u0 : Value, u_ = .bool r.1 ∧ SL w FF w_ [Blk g1 28 [u0], Sl (Ty.int .i64) u0 r.2]) := by
 have s0 : SL w FF w [Blk g1 28 [v1_0], Sl (Ty.int .i64) v1_0 a1] := SL.init w FF hst
 refine cin func100 ntmps100 7 rfl rfl rfl fun _ F2 => ?_
 unfold AW9 at H
 refine gld F2 s0 m0 1 rfl fun _ F => ?_
 refine Ae (parts := [(0, .tmp 5)]) (Flat.int .i64) ([a0] : List Int) F s0 Awy rfl (by decide) rfl rfl rfl (by simp [Value.cells]) rfl rfl rfl fun v0 w0 _ F s1 => ?_
 obtain ⟨x0, h0, H⟩ := Aa H
 obtain ⟨_, hr_⟩ := (s1.f2.A59 m1)
 refine Av (Flat.int .i64) F s1.f2 Awy rfl rfl rfl rfl hr_ rfl rfl h0 rfl fun v1 w1 _ F s2 => ?_
 have s38' := s2.f1.drop
 have s3 := s38'.f1
 refine Ay F s3 rfl rfl Bzx (Ag (fO s3 m1)) (Aq (fO s3 m1)) rfl fun w2 _ F s4 => ?_
 cases H
 exact gw 8 F rfl fun _ F => rt F ⟨v1, rfl, s4⟩
theorem Bct {w : World} {FF : List Nat} {g0 : Nat} {v0 v300_0 : Value} {a0 : List Abi} {a1 : Int} {a300 : List Int} {r : (List Int)} (hst : Aru [Blk g0 28 [v300_0], Sl (Ty.int .i64) v300_0 a300] w FF) (hr0 : Rd Aef w FF v0 a0) (H : APu a0 a1 a300 = some r) :
    Calls prog 99 #[v0, jI a1, clo 100 [jP g0]] w (Ret fun u_ w_ => ∃ u0 : Value, u_ = .tuple ⟨[]⟩ ∧ SL w FF w_ [Blk g0 28 [u0], Sl (Ty.int .i64) u0 r]) := by
 have s0 : SL w FF w [Blk g0 28 [v300_0], Sl (Ty.int .i64) v300_0 a300] := SL.init w FF hst
 refine cin func99 ntmps99 0 rfl rfl rfl fun _ F0 => ?_
 unfold APu at H
 obtain ⟨o0, H0, R0⟩ := Aa H
 clear H
 refine At9 (fun a w_ => ∃ p0 : (List Int), o0 = .inr (p0) ∧ ∃ v1 : Value, Fr a 29 [] ∧ SL w FF w_ [Blk g0 28 [v1], Sl (Ty.int .i64) v1 p0]) ?_ ?_
 ·have H := H0
  refine gc 1 F0 rfl fun _ F0 => lpk (AJy a0) (fun s1 a w_ => ∃ v2 : Value, Fr a 29 [(0, v0), (1, jI s1.2), (2, clo 100 [jP g0])] ∧ SL w FF w_ [Blk g0 28 [v2], Sl (Ty.int .i64) v2 s1.1]) H ?_ ?_
  ·exact ⟨v300_0, F0.sb, s0⟩
  intro s1 _ w0 h0 o1 H hr
  obtain ⟨v2, F, s2⟩ := h0
  replace H : AJy a0 s1 = some o1 := H
  unfold AJy at H
  refine gc 6 F rfl fun _ F => bsp 9 F H (fun h1 H F => ?_) (fun h1 H F => ?_)
  ·refine gw 2 F rfl fun _ F => Afv F rfl rfl <| gx F (Ak rfl underlying22 (fR hr0 s2)) 3 rfl rfl fun _ F => bsp 15 F H (fun h2 H F => ?_) (fun h2 H F => ?_)
   ·obtain ⟨x0, h3, H⟩ := Aa H
    refine gw 2 F rfl fun _ F => Afv F rfl rfl ?_
    obtain ⟨G0, h4, h5, h6, h7⟩ := SL.open_ (ps := [Blk g0 28 [v2], Sl (Ty.int .i64) v2 s1.1]) (rest := []) s2.f1.f1
    refine ATb (args := [.tmp 17]) F Bwq rfl rfl (Bh1 (a0 := s1.2) (a1 := s1.1) h4 h3) rfl fun v3 w1 _ h8 F => ?_
    obtain ⟨v4, rfl, h9⟩ := h8
    have s3 := h7 _ _ h9
    refine gw 3 F rfl fun _ F => gif F H 5 4 rfl rfl rfl (fun ha H _ F => ?_) (fun ha H _ F => ?_)
    ·obtain ⟨x1, hb, H⟩ := Aa H
     obtain ⟨a2, c0, G1, hc, hd, he, hf⟩ := Rd.idx hr0 AOf rfl hb
     obtain ⟨v5, rfl, hg⟩ := (ALt he hf)
     replace hd := hd _ _ s3
     refine gw 2 F rfl fun _ F => gi F hc 0 rfl fun _ F => gx F (Ba ATe rfl) 0 rfl rfl fun _ F => gx F (Ao AAd rfl (Aqa.at_ hd (o := 1) rfl)) 11 rfl rfl fun _ F => gif F H 6 7 rfl rfl rfl (fun hh H _ F => ?_) (fun hh H _ F => ?_)
     ·cases H
      obtain rfl := hr _ rfl
      replace H := R0
      try dsimp only at H
      cases H
      exact rt F ⟨v4, rfl, s3⟩
     cases H
     exact ⟨_, rfl, v4, F.sb, s3⟩
    cases H
    obtain rfl := hr _ rfl
    exact ⟨_, rfl, v4, F.sb, s3⟩
   cases H
   obtain rfl := hr _ rfl
   exact gw 11 F rfl fun _ F => ⟨_, rfl, v2, F.sb, s2⟩
  cases H
  obtain rfl := hr _ rfl
  exact gw 17 F rfl fun _ F => ⟨_, rfl, v2, F.sb, s2⟩
 intro _ w2 hJ
 obtain ⟨p0, rfl, v1, F, s4⟩ := hJ
 have H := R0
 clear R0 H0
 try dsimp only at H
 cases H
 exact Bi2 F (by rfl) ⟨_, rfl, ⟨v1, rfl, s4⟩⟩
theorem Bmp {w : World} {v0 : Value} {a0 : List Abi} {a1 : Int} {r : (List Ar2)} (hr0 : Rd Aef w [] v0 a0) (H : ATn a0 a1 = some r) :
    Calls prog 67 #[v0, jI a1] w (Ret fun u_ w_ => ∃ u0 : Value, u_ = u0 ∧ SL w [] w_ [Sl AG5 u0 r]) := by
 have s0 : SL w [] w [] := SL.Aq9 w
 refine cin func67 ntmps67 7 rfl rfl rfl fun _ F2 => ?_
 unfold ATn at H
 refine Af F2 s0 Buz rfl rfl fun g9 w0 _ F s1 => ?_
 obtain ⟨x0, h0, H⟩ := Aa H
 refine gw 6 F rfl fun _ F => gx F (AR9 (cs := [.tmp 5]) (vs := [jP g9]) rfl) 0 rfl rfl fun _ F => ?_
 have s2 := (SL.Axc (T := (Ty.int .i64)) s1).f1
 obtain ⟨G0, h1, h2, h3, h4⟩ := SL.open_ (ps := [Blk g9 28 [.slice none 0 0], Sl (Ty.int .i64) (.slice none 0 0) []]) (rest := []) s2
 refine std F (Bct (a300 := []) h1 (hr0.pass s2 h2) h0) fun v1 w1 _ h5 F => ?_
 obtain ⟨v2, rfl, h6⟩ := h5
 have s3 := h4 _ _ h6
 refine gw 10 F rfl fun _ F => gld F s3 m0 0 rfl fun _ F => ?_
 obtain ⟨o0, H0, R0⟩ := Aa H
 clear H
 refine gx F (Ak rfl underlying28 (fO s3 m1)) 4 rfl rfl fun _ F => At9 (fun a w_ => ∃ v3 : Value, Fr a 30 [(6, v3)] ∧ SL w [] w_ [Sl (Ty.int .i64) v2 x0, Sl AG5 v3 o0]) ?_ ?_
 ·have H := H0
  refine gc 1 F rfl fun _ F => lpk (APp a0 x0) (fun s4 a w_ => ∃ v4 : Value, Fr a 30 [(0, v0), (5, jP g9), (6, v4), (7, jI s4.2)] ∧ SL w [] w_ [Blk g9 28 [v2], Sl (Ty.int .i64) v2 x0, Sl AG5 v4 s4.1]) H ?_ ?_
  ·exact ⟨(.slice none 0 0), F.sb, (SL.Axc (T := AG5) s3).f2.f2⟩
  intro s4 _ w2 h7 o1 H hr
  obtain ⟨v4, F, s5⟩ := h7
  replace H : APp a0 x0 s4 = some o1 := H
  unfold APp at H
  refine gc 7 F rfl fun _ F => gif F H 5 4 rfl rfl rfl (fun h8 H _ F => ?_) (fun h8 H _ F => ?_)
  ·obtain ⟨x1, h9, H⟩ := Aa H
   obtain ⟨a2, ha, hb⟩ := Ax (Flat.int .i64) s5 m1 Awy rfl h9
   obtain ⟨x2, hc, H⟩ := Aa H
   obtain ⟨a3, c0, G1, hd, he, hf, hg⟩ := Rd.idx hr0 AOf rfl hc
   obtain ⟨v5, rfl, hh⟩ := (ALt hf hg)
   replace he := he _ _ s5
   obtain ⟨x3, hi, H⟩ := Aa H
   refine gw 2 F rfl fun _ F => gld F s5 m0 1 rfl fun _ F => gi F ha 0 rfl fun _ F => gx F (Ao AAd rfl (Aqa.at_ (SL.AN4 (Flat.int .i64) s5 m1 hb h9) (o := 0) rfl)) 0 rfl rfl fun _ F => gi F hd 0 rfl fun _ F => gx F (Ba AXb rfl) 0 rfl rfl fun _ F => gx F (Ao AYn rfl (Aqa.at_ he (o := 2) rfl)) 0 rfl rfl fun _ F => ?_
   obtain ⟨_, hr_⟩ := (Bl hh s5.f2)
   refine Av AOt F s5.f2 ASm rfl rfl rfl rfl hr_ rfl rfl hi rfl fun v6 w3 _ F s6 => ?_
   cases H
   exact gw 9 F rfl fun _ F => ⟨_, rfl, v6, F.sb, s6.f2.f2⟩
  cases H
  obtain rfl := hr _ rfl
  exact ⟨v4, F.sb, s5.drop⟩
 intro _ w4 hJ
 obtain ⟨v3, F, s7⟩ := hJ
 have H := R0
 clear R0 H0
 cases H
 exact ge 8 F rfl fun _ F => rt F ⟨v3, rfl, s7.drop⟩
theorem Bkf {w : World} {FF : List Nat} {g2 : Nat} {v0_0 v0_1 : Value} {a0 : Adb} {a1 : Ads} {a2 : Bool} {r : A0x × Int} (hst : Aru [Blk g2 4 [.bool a2]] w FF) (hr0_0 : Rd Aef w FF v0_0 a0.Classes) (hr0_1 : Rd Ate w FF v0_1 a0.Akq) (H : AYz a0 a1 a2 = some r) :
    Calls prog 218 #[.agg ⟨[v0_0, v0_1, jI a0.Fn]⟩, .agg ⟨[jI a1.At, jU (a1.Op.toNat : Int), jI a1.A, jI a1.B]⟩, jP g2] w (Ret fun u_ w_ => ∃ u0 u1 : Value, u_ = .tuple ⟨[.agg ⟨[u0, u1]⟩, jI r.2]⟩ ∧ SL w FF w_ [Sl Aeh u0 r.1.takes, Gvc 214 203 204 47 u1 r.1.gives]) := by
 have s0 : SL w FF w [Blk g2 4 [.bool a2]] := SL.init w FF hst
 refine cin func218 ntmps218 2 rfl rfl rfl fun _ F0 => ?_
 unfold AYz at H
 refine Ar F0 s0 rfl rfl rfl fun g0 w0 _ F s1 => Ar F s1 rfl rfl rfl fun g1 w1 _ F s2 => Af F s2 AMl rfl rfl fun g32 w2 _ F s3 => ?_
 obtain ⟨x0, h0, H⟩ := Aa H
 refine gw 6 F rfl fun _ F => gld F s3 m2 1 rfl fun _ F => gld F s3 m1 0 rfl fun _ F => std F (Bmp (hr0_0.Ajq s3) h0) fun v0 w3 _ h1 F => ?_
 obtain ⟨_, rfl, h2⟩ := h1
 have s4 := s3.add h2
 refine gw 7 F rfl fun _ F => gld F s4 m2 2 rfl fun _ F => bsp 17 F H (fun h3 H F => ?_) (fun h3 H F => ?_)
 ·refine gw 24 F rfl fun _ F => gx F (Al (vs := []) AMl AQ1 rfl (cs := [.slice none 0 0, .nilFunc]) (rfl)) 0 rfl rfl fun _ F => Ah F s4.f1 rfl rfl AP4 (Ab rfl (Ab rfl Ap)) (Ac rfl) fun w4 _ F s5 => ?_
  cases H
  refine gw 5 F rfl fun _ F => ?_
  refine Aj (rs := [.cell 5 226, .tmp 6]) (vs := [.agg ⟨[.slice none 0 0, .nilFunc]⟩, jI 72]) F (by rfl) ⟨_, _, rfl, Am s5 m0 rfl AO9 rfl, _, _, rfl, An rfl, rfl⟩ ⟨_, rfl, ⟨(.slice none 0 0), .nilFunc, rfl, (SL.Bbb (SL.Axc (T := Aeh) s5)).f2.drop.f2.drop.f2.drop.f2.drop.f2.drop.f1⟩⟩
 refine gw 1 F rfl fun _ F => Afv F rfl rfl <| gld F s4 m2 1 rfl fun _ F => Afv F rfl rfl <| gld F s4 m3 0 rfl fun _ F => Afv F rfl rfl <| gx F (Ak rfl underlying22 (fR hr0_0 s4)) 3 rfl rfl fun _ F => bsp 25 F H (fun h4 H F => ?_) (fun h4 H F => ?_)
 ·refine gw 16 F rfl fun _ F => gx F (Al (vs := []) AMl AQ1 rfl (cs := [.slice none 0 0, .nilFunc]) (rfl)) 0 rfl rfl fun _ F => Ah F s4.f1 rfl rfl AP4 (Ab rfl (Ab rfl Ap)) (Ac rfl) fun w5 _ F s6 => ?_
  cases H
  refine gw 5 F rfl fun _ F => ?_
  refine Aj (rs := [.cell 5 226, .tmp 6]) (vs := [.agg ⟨[.slice none 0 0, .nilFunc]⟩, jI 72]) F (by rfl) ⟨_, _, rfl, Am s6 m0 rfl AO9 rfl, _, _, rfl, An rfl, rfl⟩ ⟨_, rfl, ⟨(.slice none 0 0), .nilFunc, rfl, (SL.Bbb (SL.Axc (T := Aeh) s6)).f2.drop.f2.drop.f2.drop.f2.drop.f2.drop.f1⟩⟩
 refine gw 1 F rfl fun _ F => Afv F rfl rfl <| gld F s4 m2 3 rfl fun _ F => bsp 30 F H (fun h5 H F => ?_) (fun h5 H F => ?_)
 ·refine gw 11 F rfl fun _ F => gx F (Al (vs := []) AMl AQ1 rfl (cs := [.slice none 0 0, .nilFunc]) (rfl)) 0 rfl rfl fun _ F => Ah F s4.f1 rfl rfl AP4 (Ab rfl (Ab rfl Ap)) (Ac rfl) fun w6 _ F s7 => ?_
  cases H
  refine gw 5 F rfl fun _ F => ?_
  refine Aj (rs := [.cell 5 226, .tmp 6]) (vs := [.agg ⟨[.slice none 0 0, .nilFunc]⟩, jI 72]) F (by rfl) ⟨_, _, rfl, Am s7 m0 rfl AO9 rfl, _, _, rfl, An rfl, rfl⟩ ⟨_, rfl, ⟨(.slice none 0 0), .nilFunc, rfl, (SL.Bbb (SL.Axc (T := Aeh) s7)).f2.drop.f2.drop.f2.drop.f2.drop.f2.drop.f1⟩⟩
 refine gw 1 F rfl fun _ F => Afv F rfl rfl <| gld F s4 m2 1 rfl fun _ F => Afv F rfl rfl <| gx F (Ak rfl underlying101 (fO s4 m0)) 4 rfl rfl fun _ F => gif F H 2 6 rfl rfl rfl (fun h6 H _ F => ?_) (fun h6 H _ F => ?_)
 ·refine gx F (Al (vs := []) AMl AQ1 rfl (cs := [.slice none 0 0, .nilFunc]) (rfl)) 0 rfl rfl fun _ F => Ah F s4.f1 rfl rfl AP4 (Ab rfl (Ab rfl Ap)) (Ac rfl) fun w7 _ F s8 => ?_
  cases H
  refine gw 5 F rfl fun _ F => ?_
  refine Aj (rs := [.cell 5 226, .tmp 6]) (vs := [.agg ⟨[.slice none 0 0, .nilFunc]⟩, jI 72]) F (by rfl) ⟨_, _, rfl, Am s8 m0 rfl AO9 rfl, _, _, rfl, An rfl, rfl⟩ ⟨_, rfl, ⟨(.slice none 0 0), .nilFunc, rfl, (SL.Bbb (SL.Axc (T := Aeh) s8)).f2.drop.f2.drop.f2.drop.f2.drop.f2.drop.f1⟩⟩
 obtain ⟨x1, h7, H⟩ := Aa H
 obtain ⟨a3, h8, h9⟩ := Ax AOt s4 m0 ASm rfl h7
 refine gld F s4 m2 0 rfl fun _ F => gi F h8 0 rfl fun _ F => gx F (Ba Bgh rfl) 0 rfl rfl fun _ F => gx F (Ao Aw9 rfl (Aqa.at_ (SL.AN4 AOt s4 m0 h9 h7) (o := 1) rfl)) 6 rfl rfl fun _ F => gld F s4 m4 2 rfl fun _ F => gif F H 3 5 rfl rfl rfl (fun ha H _ F => ?_) (fun ha H _ F => ?_)
 ·obtain ⟨x2, hb, H⟩ := Aa H
  refine gld F s4 m2 0 rfl fun _ F => gca F s4 (Bdr hb) 0 rfl rfl rfl rfl fun w8 _ F s9 => ?_
  obtain ⟨x3, hc, H⟩ := Aa H
  refine gca F s9 (AW1 hc) 1 rfl rfl rfl rfl fun w9 _ F sa => ?_
  obtain ⟨x4, hd, H⟩ := Aa H
  refine gca F sa (AW1 hd) 0 rfl rfl rfl rfl fun wa _ F sb => ?_
  refine Ae (parts := [(0, .tmp 48), (1, .tmp 50)]) A7j ([x3, x4] : List Aaz) F sb AG7 rfl (by decide) rfl rfl rfl (by simp [Value.cells]) rfl rfl rfl fun v1 wb _ F sc => ?_
  refine As (args := [.const (.slice none 0 0)]) F ANk rfl (A5e rfl) rfl fun v2 wc _ he F => ?_
  obtain ⟨g3, hf, hg⟩ := he
  have sd := sc.add hg
  have se := SL.AJt (c := 214) (d := 203) (s := 204) hf ((SL.Axc (T := Ty.u8) sd).f1)
  have hh := (fO se m1)
  have hi := se.ARx m0
  refine gx F (Al (vs := [v1, v2]) AMl AQ1 rfl (cs := [v1, v2]) (AN2 rfl (Ag hh) (by simp) <| AN2 rfl (hi).1 (by simp) <| Ayf)) 0 rfl rfl fun _ F => ?_
  refine Ah F se.f3 rfl rfl AP4 (Ab (Aq (fO se.f3 m2)) (Ab (se.f3.ARx m1).2 Ap)) (Ac rfl) fun wd _ F sf => ?_
  cases H
  refine gw 5 F rfl fun _ F => ?_
  refine Aj (rs := [.cell 5 226, .tmp 6]) (vs := [.agg ⟨[v1, v2]⟩, jI 0]) F (by rfl) ⟨_, _, rfl, Am sf m0 rfl AO9 rfl, _, _, rfl, An rfl, rfl⟩ ⟨_, rfl, ⟨v1, v2, rfl, sf.drop.f2.drop.f2.drop.f2.drop.f2.drop.f1⟩⟩
 obtain ⟨x5, hj, H⟩ := Aa H
 refine gld F s4 m2 0 rfl fun _ F => gca F s4 (Bdr hj) 0 rfl rfl rfl rfl fun we _ F sg => ?_
 obtain ⟨x6, hk, H⟩ := Aa H
 refine gca F sg (AW1 hk) 0 rfl rfl rfl rfl fun wf _ F sh => ?_
 refine Ae (parts := [(0, .tmp 57)]) A7j ([x6] : List Aaz) F sh AG7 rfl (by decide) rfl rfl rfl (by simp [Value.cells]) rfl rfl rfl fun v3 wg _ F si => ?_
 refine gw 1 F rfl fun _ F => ?_
 refine Ae (parts := [(0, .tmp 59)]) Flat.u8 ([x1.ASg] : List UInt8) F si Aqg rfl (by decide) rfl rfl rfl (by simp [Value.cells]) rfl rfl rfl fun v4 wh _ F sj => ?_
 refine As (args := [.tmp 60]) F ANk rfl (A5e (Ag (fO sj m0))) rfl fun v5 wi _ hl F => ?_
 obtain ⟨g4, hm, hn⟩ := hl
 have sk := sj.add hn
 have sl := SL.AJt (c := 214) (d := 203) (s := 204) hm sk.f1.f1
 have ho := (fO sl m1)
 have hp := sl.ARx m0
 refine gx F (Al (vs := [v3, v5]) AMl AQ1 rfl (cs := [v3, v5]) (AN2 rfl (Ag ho) (by simp) <| AN2 rfl (hp).1 (by simp) <| Ayf)) 0 rfl rfl fun _ F => ?_
 refine Ah F sl.f3 rfl rfl AP4 (Ab (Aq (fO sl.f3 m2)) (Ab (sl.f3.ARx m1).2 Ap)) (Ac rfl) fun wj _ F sm => ?_
 cases H
 refine gw 4 F rfl fun _ F => ?_
 refine Aj (rs := [.cell 5 226, .tmp 6]) (vs := [.agg ⟨[v3, v5]⟩, jI 0]) F (by rfl) ⟨_, _, rfl, Am sm m0 rfl AO9 rfl, _, _, rfl, An rfl, rfl⟩ ⟨_, rfl, ⟨v3, v5, rfl, sm.drop.f2.drop.f2.drop.f2.drop.f2.drop.f1⟩⟩
theorem Brp {w : World} {FF : List Nat} {v v0 v1 : Value} {t : AOe Aaz} {e : Adb} {i : Ads} {r : A0x × Int} (hst : Aru [Tlc Aoy Aeh v t] w FF) (hv0 : Rd Aef w FF v0 e.Classes) (hv1 : Rd Ate w FF v1 e.Akq) (H : ASz t e i = some r) :
    ∃ f caps, v = clo f caps ∧ fnB prog f = true ∧ Calls prog f (([.agg ⟨[v0, v1, jI e.Fn]⟩, .agg ⟨[jI i.At, jU (i.Op.toNat : Int), jI i.A, jI i.B]⟩] : List Value) ++ caps).toArray w (Ret fun u_ w_ => ∃ u0 u1 : Value, u_ = .tuple ⟨[.agg ⟨[u0, u1]⟩, jI r.2]⟩ ∧ SL w FF w_ [Sl Aeh u0 r.1.takes, Gvc 214 203 204 47 u1 r.1.gives]) := by
  cases t with
  | fixed l x =>
    obtain ⟨qs, ⟨g1, g2, u1, u2, rfl, rfl⟩, hs⟩ := AYe hst
    exact ⟨215, [jP g1, jP g2], rfl, Bwo, Bkm hs hv0 hv1 H⟩
  | call =>
    obtain ⟨qs, ⟨rfl, rfl⟩, hs⟩ := AYe hst
    have hF : FF = [] := hs
    subst hF
    exact ⟨205, [], rfl, Bwz, Brf hv0 hv1 H⟩
  | ret x =>
    obtain ⟨qs, ⟨g1, u1, rfl, rfl⟩, hs⟩ := AYe hst
    exact ⟨206, [jP g1], rfl, Bxo, Bk5 hs hv0 hv1 H⟩
  | classed l b =>
    obtain ⟨qs, ⟨g1, g2, u1, rfl, rfl⟩, hs⟩ := AYe hst
    exact ⟨216, [jP g1, jP g2], rfl, Bwf, Bip hs hv0 hv1 H⟩
  | field b =>
    obtain ⟨qs, ⟨g1, rfl, rfl⟩, hs⟩ := AYe hst
    exact ⟨218, [jP g1], rfl, Bxm, Bkf hs hv0 hv1 H⟩
  | nil => cases H
theorem Brz {w : World} {v0_0 v0_1 : Value} {a0 : Adb} {a1 : Ads} {r : A0x × Int} (hr0_0 : Rd Aef w [] v0_0 a0.Classes) (hr0_1 : Rd Ate w [] v0_1 a0.Akq) (H : AYp a0 a1 = some r) :
    Calls prog 161 #[.agg ⟨[v0_0, v0_1, jI a0.Fn]⟩, .agg ⟨[jI a1.At, jU (a1.Op.toNat : Int), jI a1.A, jI a1.B]⟩] w (Ret fun u_ w_ => ∃ u0 u1 : Value, u_ = .tuple ⟨[.agg ⟨[u0, u1]⟩, jI r.2]⟩ ∧ SL w [] w_ [Sl Aeh u0 r.1.takes, Gvc 214 203 204 47 u1 r.1.gives]) := by
 have s0 : SL w [] w [] := SL.Aq9 w
 refine cin func161 ntmps161 2 rfl rfl rfl fun _ F0 => ?_
 unfold AYp at H
 refine Ar F0 s0 rfl rfl rfl fun g0 w0 _ F s1 => Ar F s1 rfl rfl rfl fun g1 w1 _ F s2 => Af F s2 AMl rfl rfl fun g32 w2 _ F s3 => ?_
 obtain ⟨x0, h0, H⟩ := Aa H
 refine gw 7 F rfl fun _ F => gld F s3 m1 0 rfl fun _ F => gca F s3 (AZk h0) 3 rfl rfl rfl rfl fun w3 _ F s4 => gif F H 2 3 rfl rfl rfl (fun h1 H _ F => ?_) (fun h1 H _ F => ?_)
 ·refine gx F (Al (vs := []) AMl AQ1 rfl (cs := [.slice none 0 0, .nilFunc]) (rfl)) 0 rfl rfl fun _ F => Ah F s4 rfl rfl AP4 (Ab rfl (Ab rfl Ap)) (Ac rfl) fun w4 _ F s5 => ?_
  cases H
  refine gw 5 F rfl fun _ F => ?_
  refine Aj (rs := [.cell 4 226, .tmp 5]) (vs := [.agg ⟨[.slice none 0 0, .nilFunc]⟩, jI 40]) F (by rfl) ⟨_, _, rfl, Am s5 m0 rfl AO9 rfl, _, _, rfl, An rfl, rfl⟩ ⟨_, rfl, ⟨(.slice none 0 0), .nilFunc, rfl, (SL.Bbb (SL.Axc (T := Aeh) s5)).f2.drop.f2.drop.f2.drop.f1⟩⟩
 obtain ⟨x1, h2, H⟩ := Aa H
 obtain ⟨t0, h3, H⟩ := Aa H
 obtain ⟨x2, h4, H⟩ := Aa H
 refine AJp Aq8 s4.drop ?_
 refine hq [1, 2, 4, 5] F s4.drew.drop (QI.ev 1 rfl <| QI.ld m0 rfl <| QI.ld m1 rfl <| QI.ld m0 rfl <| QI.nil) (by kernel_rfl) fun _ F => ?_
 refine ho 0 rfl (by kernel_rfl) ?_
 refine As (args := []) F Bxr rfl (Bqr h2) rfl fun v0 w5 _ h5 F => ?_
 obtain ⟨v1, rfl, h6, h7, h8⟩ := h5
 have s6 := s4.drew.add h7
 refine gw 1 F rfl fun _ F => ⟨s6.drop, ?_⟩
 refine ho 3 rfl (by kernel_rfl) ?_
 obtain ⟨t1, h9, ha⟩ := h8 _ _ h3
 refine Ba9 F (PR.op (Bxz AF3 Bu3 h6 rfl rfl h9) <| PR.nil) fun _ F => ?_
 have s7 := s4.drew.add ha
 refine gw 1 F rfl fun _ F => ⟨s7.drop.drop, ?_⟩
 refine ho 6 rfl (by kernel_rfl) ?_
 obtain ⟨G0, hb, hc, hd, he⟩ := SL.open_ (ps := [Tlc Aoy Aeh t1 t0]) (rest := [Blk g32 226 [.slice none 0 0, .nilFunc], Blk g1 79 [jI a1.At, jU (a1.Op.toNat : Int), jI a1.A, jI a1.B], Blk g0 110 [v0_0, v0_1, jI a0.Fn]]) s7
 obtain ⟨f0, c0, hf, hg, hh⟩ := Brp hb (hr0_0.pass s7 hc) (hr0_1.pass s7 hc) h4
 refine ATb (args := [.tmp 15, .tmp 16]) F hg (Eq.trans rfl (congrArg some hf)) rfl hh rfl fun v2 w6 _ hi F => ?_
 obtain ⟨v3, v4, rfl, hj⟩ := hi
 have s8 := he _ _ hj
 refine gw 1 F rfl fun _ F => ⟨s8.drop.drop.drop, ?_⟩
 refine hq [7, 8] F s8.drop.drop.drop (QI.ev 2 rfl <| QI.nil) (by kernel_rfl) fun _ F => ?_
 refine ho 9 rfl (by kernel_rfl) ?_
 refine Ah F s8.f2 rfl rfl AP4 (Ab (Aq (fO s8.f2 m1)) (Ab (s8.f2.ARx m2).2 Ap)) (Ac rfl) fun w7 _ F s9 => gw 1 F rfl fun _ F => ⟨s9.drop.drop.drop, ?_⟩
 refine hq [10] F s9.drop.drop.drop (QI.ev 1 rfl <| QI.nil) (by kernel_rfl) fun _ F => ?_
 refine ANu (by kernel_rfl) ?_
 cases H
 refine ge 2 F rfl fun _ F => ?_
 refine Aj (rs := [.cell 4 226, .tmp 5]) (vs := [.agg ⟨[v3, v4]⟩, jI x2.2]) F (by rfl) ⟨_, _, rfl, Am s9 m0 rfl AO9 rfl, _, _, rfl, An rfl, rfl⟩ ⟨_, rfl, ⟨v3, v4, rfl, s9.drop.f2.drop.f2.drop⟩⟩
theorem Bin {w : World} {a0 : Aas} {a1 : Int} {r : UInt8 × Int} (H : AY1 a0 a1 = some r) :
    Calls prog 186 #[.agg ⟨(jI a0.Locals :: jI a0.Height :: ev8 a0.Slots)⟩, jI a1] w (Ret fun u_ w_ => u_ = .tuple ⟨[jU (r.1.toNat : Int), jI r.2]⟩ ∧ SL w [] w_ []) := by
 have s0 : SL w [] w [] := SL.Aq9 w
 refine cin func186 ntmps186 2 rfl rfl rfl fun _ F0 => ?_
 unfold AY1 at H
 refine Ar F0 s0 rfl rfl rfl fun g8 w9 _ F s1 => ?_
 obtain ⟨x0, h0, H⟩ := Aa H
 refine gw 8 F rfl fun _ F => gla F s1 m0 0 rfl fun _ F => gca F s1 (AVm h0) 4 rfl rfl rfl rfl fun w0 _ F s2 => gif F H 9 7 rfl rfl rfl (fun h1 H _ F => ?_) (fun h1 H _ F => ?_)
 ·cases H
  exact rt F ⟨rfl, s2.drop⟩
 refine gif F H 9 4 rfl rfl rfl (fun h2 H _ F => ?_) (fun h2 H _ F => ?_)
 ·cases H
  exact rt F ⟨rfl, s2.drop⟩
 refine gld F s2 m0 4 rfl fun _ F => gif F H 9 6 rfl rfl rfl (fun h3 H _ F => ?_) (fun h3 H _ F => ?_)
 ·cases H
  exact rt F ⟨rfl, s2.drop⟩
 obtain ⟨x1, h4, H⟩ := Aa H
 refine gld F s2 m0 1 rfl fun _ F => gld F s2 m0 5 rfl fun _ F => gx F (AO6 ANo h4 rfl rfl) 0 rfl rfl fun _ F => ?_
 cases H
 exact gx F (Ao Aw9 rfl (SL.AT9 (pre := [jI a0.Locals, jI a0.Height]) s2 m0 rfl h4)) 5 rfl rfl fun _ F => rt F ⟨rfl, s2.drop⟩
theorem AT8 {w : World} {a0 : UInt8} {r : Bool} (H : AR3 a0 = some r) :
    Calls prog 210 #[jU (a0.toNat : Int)] w (Ret fun u_ w_ => u_ = .bool r ∧ SL w [] w_ []) := by
 have s0 : SL w [] w [] := SL.Aq9 w
 refine cin func210 ntmps210 10 rfl rfl rfl fun _ F => ?_
 unfold AR3 at H
 refine bsp 5 F H (fun h0 H F => ?_) (fun h0 H F => ?_)
 ·cases H
  exact gw 15 F rfl fun _ F => rt F ⟨rfl, s0⟩
 refine gw 4 F rfl fun _ F => bsp 9 F H (fun h1 H F => ?_) (fun h1 H F => ?_)
 ·cases H
  exact gw 11 F rfl fun _ F => rt F ⟨rfl, s0⟩
 refine gw 4 F rfl fun _ F => bsp 13 F H (fun h2 H F => ?_) (fun h2 H F => ?_)
 ·cases H
  exact gw 7 F rfl fun _ F => rt F ⟨rfl, s0⟩
 cases H
 exact gw 7 F rfl fun _ F => rt F ⟨rfl, s0⟩
theorem Bjf {w : World} {FF : List Nat} {g1 g2 : Nat} {a0 : Int} {a1 : Int} {a2 : Bool} {r : Bool × Bool} (hst : Aru [Blk g1 3 [jI a1], Blk g2 4 [.bool a2]] w FF) (H : AXw a0 a1 a2 = some r) :
    Calls prog 219 #[jI a0, jP g1, jP g2] w (Ret fun u_ w_ => u_ = .bool r.1 ∧ SL w FF w_ [Blk g1 3 [jI a1], Blk g2 4 [.bool r.2]]) := by
 have s0 : SL w FF w [Blk g1 3 [jI a1], Blk g2 4 [.bool a2]] := SL.init w FF hst
 refine cin func219 ntmps219 8 rfl rfl rfl fun _ F => ?_
 unfold AXw at H
 refine gld F s0 m0 1 rfl fun _ F => Ay F s0.f1 rfl rfl AYa rfl rfl rfl fun w0 _ F s1 => gw 4 F rfl fun _ F => ?_
 cases H
 exact gld F s1 m0 5 rfl fun _ F => rt F ⟨rfl, s1.f1⟩
theorem Bdn {w : World} {FF : List Nat} {g0 g1 : Nat} {v0 : Value} {a0 : List Abi} {a1 : Int} {a300 : Int} {a301 : Bool} {r : Bool} (hst : Aru [Blk g0 3 [jI a300], Blk g1 4 [.bool a301]] w FF) (hr0 : Rd Aef w FF v0 a0) (H : ATf a0 a1 a300 a301 = some r) :
    Calls prog 99 #[v0, jI a1, clo 219 [jP g0, jP g1]] w (Ret fun u_ w_ => u_ = .tuple ⟨[]⟩ ∧ SL w FF w_ [Blk g0 3 [jI a300], Blk g1 4 [.bool r]]) := by
 have s0 : SL w FF w [Blk g0 3 [jI a300], Blk g1 4 [.bool a301]] := SL.init w FF hst
 refine cin func99 ntmps99 0 rfl rfl rfl fun _ F0 => ?_
 unfold ATf at H
 obtain ⟨o0, H0, R0⟩ := Aa H
 clear H
 refine At9 (fun a w_ => ∃ p0 : Bool, o0 = .inr (p0) ∧ Fr a 29 [] ∧ SL w FF w_ [Blk g0 3 [jI a300], Blk g1 4 [.bool p0]]) ?_ ?_
 ·have H := H0
  refine gc 1 F0 rfl fun _ F0 => lpk (AOa a0 a300) (fun s1 a w_ => Fr a 29 [(0, v0), (1, jI s1.2), (2, clo 219 [jP g0, jP g1])] ∧ SL w FF w_ [Blk g0 3 [jI a300], Blk g1 4 [.bool s1.1]]) H ?_ ?_
  ·exact ⟨F0.sb, s0⟩
  intro s1 _ w0 h0 o1 H hr
  obtain ⟨F, s2⟩ := h0
  replace H : AOa a0 a300 s1 = some o1 := H
  unfold AOa at H
  refine gc 6 F rfl fun _ F => bsp 9 F H (fun h1 H F => ?_) (fun h1 H F => ?_)
  ·refine gw 2 F rfl fun _ F => Afv F rfl rfl <| gx F (Ak rfl underlying22 (fR hr0 s2)) 3 rfl rfl fun _ F => bsp 15 F H (fun h2 H F => ?_) (fun h2 H F => ?_)
   ·obtain ⟨x0, h3, H⟩ := Aa H
    refine gw 2 F rfl fun _ F => Afv F rfl rfl ?_
    obtain ⟨G0, h4, h5, h6, h7⟩ := SL.open_ (ps := [Blk g0 3 [jI a300], Blk g1 4 [.bool s1.1]]) (rest := []) s2.f1.f1
    refine ATb (args := [.tmp 17]) F Bw3 rfl rfl (Bjf (a0 := s1.2) (a1 := a300) (a2 := s1.1) h4 h3) rfl fun v1 w1 _ h8 F => ?_
    obtain ⟨rfl, h9⟩ := h8
    have s3 := h7 _ _ h9
    refine gw 3 F rfl fun _ F => gif F H 5 4 rfl rfl rfl (fun ha H _ F => ?_) (fun ha H _ F => ?_)
    ·obtain ⟨x1, hb, H⟩ := Aa H
     obtain ⟨a3, c0, G1, hc, hd, he, hf⟩ := Rd.idx hr0 AOf rfl hb
     obtain ⟨v2, rfl, hg⟩ := (ALt he hf)
     replace hd := hd _ _ s3
     refine gw 2 F rfl fun _ F => gi F hc 0 rfl fun _ F => gx F (Ba ATe rfl) 0 rfl rfl fun _ F => gx F (Ao AAd rfl (Aqa.at_ hd (o := 1) rfl)) 11 rfl rfl fun _ F => gif F H 6 7 rfl rfl rfl (fun hh H _ F => ?_) (fun hh H _ F => ?_)
     ·cases H
      obtain rfl := hr _ rfl
      replace H := R0
      try dsimp only at H
      cases H
      exact rt F ⟨rfl, s3⟩
     cases H
     exact ⟨_, rfl, F.sb, s3⟩
    cases H
    obtain rfl := hr _ rfl
    exact ⟨_, rfl, F.sb, s3⟩
   cases H
   obtain rfl := hr _ rfl
   exact gw 11 F rfl fun _ F => ⟨_, rfl, F.sb, s2⟩
  cases H
  obtain rfl := hr _ rfl
  exact gw 17 F rfl fun _ F => ⟨_, rfl, F.sb, s2⟩
 intro _ w2 hJ
 obtain ⟨p0, rfl, F, s4⟩ := hJ
 have H := R0
 clear R0 H0
 try dsimp only at H
 cases H
 exact Bi2 F (by rfl) ⟨_, rfl, ⟨rfl, s4⟩⟩
theorem Bgt {w : World} {v0 : Value} {a0 : List Abi} {a1 : Int} {a2 : Int} {r : Bool} (hr0 : Rd Aef w [] v0 a0) (H : AXm a0 a1 a2 = some r) :
    Calls prog 213 #[v0, jI a1, jI a2] w (Ret fun u_ w_ => u_ = .bool r ∧ SL w [] w_ []) := by
 have s0 : SL w [] w [] := SL.Aq9 w
 refine cin func213 ntmps213 2 rfl rfl rfl fun _ F0 => ?_
 unfold AXm at H
 refine Ar F0 s0 rfl rfl rfl fun g8 w9 _ F s1 => gw 5 F rfl fun _ F => Af F s1 AFl rfl rfl fun g0 w0 _ F s2 => Ay F s2 rfl rfl AYa rfl rfl rfl fun w1 _ F s3 => ?_
 obtain ⟨x0, h0, H⟩ := Aa H
 refine gw 6 F rfl fun _ F => gx F (AR9 (cs := [.tmp 5, .tmp 7]) (vs := [jP g8, jP g0]) rfl) 0 rfl rfl fun _ F => ?_
 obtain ⟨G0, h1, h2, h3, h4⟩ := SL.open_ (ps := [Blk g8 3 [jI a2], Blk g0 4 [.bool false]]) (rest := []) s3.f1
 refine std F (Bdn (a300 := a2) (a301 := false) h1 (hr0.pass s3.f1 h2) h0) fun v1 w2 _ h5 F => ?_
 obtain ⟨rfl, h6⟩ := h5
 have s4 := h4 _ _ h6
 refine gw 4 F rfl fun _ F => ?_
 cases H
 exact gld F s4 m1 4 rfl fun _ F => rt F ⟨rfl, s4.drop.drop⟩
theorem Bem {w : World} {v0 : Value} {a0 : List Abi} {a1 : UInt8} {a2 : UInt8} {r : Bool} (hr0 : Rd Aef w [] v0 a0) (H : AYm a0 a1 a2 = some r) :
    Calls prog 211 #[v0, jU (a1.toNat : Int), jU (a2.toNat : Int)] w (Ret fun u_ w_ => u_ = .bool r ∧ SL w [] w_ []) := by
 have s0 : SL w [] w [] := SL.Aq9 w
 refine cin func211 ntmps211 10 rfl rfl rfl fun _ F => ?_
 unfold AYm at H
 obtain ⟨x0, h0, H⟩ := Aa H
 refine gca F s0 (ASx (hr0.Ajq s0) h0) 2 rfl rfl rfl rfl fun w0 _ F s1 => bsp 13 F H (fun h1 H F => ?_) (fun h1 H F => ?_)
 ·cases H
  exact gw 15 F rfl fun _ F => rt F ⟨rfl, s1⟩
 obtain ⟨x1, h2, H⟩ := Aa H
 refine gw 2 F rfl fun _ F => Afv F rfl rfl <| gca F s1 (ASx (hr0.Ajq s1) h2) 4 rfl rfl rfl rfl fun w1 _ F s2 => gif F H 7 10 rfl rfl rfl (fun h3 H _ F => ?_) (fun h3 H _ F => ?_)
 ·cases H
  exact rt F ⟨rfl, s2⟩
 refine bsp 23 F H (fun h4 H F => ?_) (fun h4 H F => ?_)
 ·cases H
  exact gw 15 F rfl fun _ F => rt F ⟨rfl, s2⟩
 refine gw 6 F rfl fun _ F => gif F H 8 5 rfl rfl rfl (fun h5 H _ F => ?_) (fun h5 H _ F => ?_)
 ·cases H
  exact rt F ⟨rfl, s2⟩
 refine bsp 30 F H (fun h6 H F => ?_) (fun h6 H F => ?_)
 ·obtain ⟨x2, h7, H⟩ := Aa H
  refine gw 10 F rfl fun _ F => gca F s2 (AT8 h7) 1 rfl rfl rfl rfl fun w2 _ F s3 => bsp 36 F H (fun h8 H F => ?_) (fun h8 H F => ?_)
  ·obtain ⟨x3, h9, H⟩ := Aa H
   refine gw 1 F rfl fun _ F => Afv F rfl rfl <| gca F s3 (AT8 h9) 7 rfl rfl rfl rfl fun w3 _ F s4 => ?_
   cases H
   exact rt F ⟨rfl, s4⟩
  cases H
  exact gw 9 F rfl fun _ F => rt F ⟨rfl, s3⟩
 refine gw 6 F rfl fun _ F => gif F H 3 7 rfl rfl rfl (fun ha H _ F => ?_) (fun ha H _ F => ?_)
 ·obtain ⟨x4, hb, H⟩ := Aa H
  refine gca F s2 (AT8 hb) 1 rfl rfl rfl rfl fun w4 _ F s5 => bsp 36 F H (fun hc H F => ?_) (fun hc H F => ?_)
  ·obtain ⟨x5, hd, H⟩ := Aa H
   refine gw 1 F rfl fun _ F => Afv F rfl rfl <| gca F s5 (AT8 hd) 7 rfl rfl rfl rfl fun w5 _ F s6 => ?_
   cases H
   exact rt F ⟨rfl, s6⟩
  cases H
  exact gw 9 F rfl fun _ F => rt F ⟨rfl, s5⟩
 obtain ⟨x6, he, H⟩ := Aa H
 refine gca F s2 (ASy (hr0.Ajq s2) he) 2 rfl rfl rfl rfl fun w6 _ F s7 => ?_
 obtain ⟨x7, hf, H⟩ := Aa H
 refine gca F s7 (ASy (hr0.Ajq s7) hf) 9 rfl rfl rfl rfl fun w7 _ F s8 => bsp 48 F H (fun hg H F => ?_) (fun hg H F => ?_)
 ·refine gw 4 F rfl fun _ F => bsp 52 F H (fun hh H F => ?_) (fun hh H F => ?_)
  ·obtain ⟨x8, hi, H⟩ := Aa H
   refine gw 3 F rfl fun _ F => Afv F rfl rfl <| gca F s8 (Bgt (hr0.Ajq s8) hi) 5 rfl rfl rfl rfl fun w8 _ F s9 => ?_
   cases H
   exact rt F ⟨rfl, s9⟩
  cases H
  exact gw 9 F rfl fun _ F => rt F ⟨rfl, s8⟩
 cases H
 exact gw 13 F rfl fun _ F => rt F ⟨rfl, s8⟩
theorem Brk {w : World} {v0 : Value} {a0 : List Abi} {a1 : Aaz} {a2 : UInt8} {a3 : UInt8} {r : Bool} (hr0 : Rd Aef w [] v0 a0) (H : Bb7 a0 a1 a2 a3 = some r) :
    Calls prog 187 #[v0, .agg ⟨[jI a1.kind, jU (a1.t.toNat : Int)]⟩, jU (a2.toNat : Int), jU (a3.toNat : Int)] w (Ret fun u_ w_ => u_ = .bool r ∧ SL w [] w_ []) := by
 have s0 : SL w [] w [] := SL.Aq9 w
 refine cin func187 ntmps187 2 rfl rfl rfl fun _ F0 => ?_
 unfold Bb7 at H
 refine Ar F0 s0 rfl rfl rfl fun g8 w9 _ F s1 => gw 7 F rfl fun _ F => gld F s1 m0 9 rfl fun _ F => gif F H 10 6 rfl rfl rfl (fun h0 H _ F => ?_) (fun h0 H _ F => ?_)
 ·cases H
  exact rt F ⟨rfl, s1.drop⟩
 refine gif F H 3 6 rfl rfl rfl (fun h1 H _ F => ?_) (fun h1 H _ F => ?_)
 ·obtain ⟨x0, h2, H⟩ := Aa H
  refine gca F s1 (AT8 h2) 6 rfl rfl rfl rfl fun w0 _ F s2 => ?_
  cases H
  exact rt F ⟨rfl, s2.drop⟩
 refine gif F H 6 6 rfl rfl rfl (fun h3 H _ F => ?_) (fun h3 H _ F => ?_)
 ·refine bsp 24 F H (fun h4 H F => ?_) (fun h4 H F => ?_)
  ·refine gw 3 F rfl fun _ F => bsp 27 F H (fun h5 H F => ?_) (fun h5 H F => ?_)
   ·cases H
    exact gw 10 F rfl fun _ F => rt F ⟨rfl, s1.drop⟩
   cases H
   exact gw 10 F rfl fun _ F => rt F ⟨rfl, s1.drop⟩
  cases H
  exact gw 13 F rfl fun _ F => rt F ⟨rfl, s1.drop⟩
 refine gif F H 5 9 rfl rfl rfl (fun h6 H _ F => ?_) (fun h6 H _ F => ?_)
 ·obtain ⟨x1, h7, H⟩ := Aa H
  refine gld F s1 m0 0 rfl fun _ F => gca F s1 (Bem (hr0.Ajq s1) h7) 6 rfl rfl rfl rfl fun w1 _ F s3 => ?_
  cases H
  exact rt F ⟨rfl, s3.drop⟩
 cases H
 exact rt F ⟨rfl, s1.drop⟩
theorem Bpu {w : World} {v0 v2 : Value} {a0 : List Abi} {a1 : Aas} {a2 : List Aaz} {r : (List UInt8) × Int} (hr0 : Rd Aef w [] v0 a0) (hr2 : Rd Aeh w [] v2 a2) (H : AY9 a0 a1 a2 = some r) :
    Calls prog 162 #[v0, .agg ⟨(jI a1.Locals :: jI a1.Height :: ev8 a1.Slots)⟩, v2] w (Ret fun u_ w_ => ∃ u0 : Value, u_ = .tuple ⟨[u0, jI r.2]⟩ ∧ SL w [] w_ [Sl Ty.u8 u0 r.1]) := by
 have s0 : SL w [] w [] := SL.Aq9 w
 refine cin func162 ntmps162 2 rfl rfl rfl fun _ F0 => ?_
 unfold AY9 at H
 refine Ar F0 s0 rfl rfl rfl fun g8 w9 _ F s1 => gw 8 F rfl fun _ F => gld F s1 m0 1 rfl fun _ F => gx F (Ak rfl underlying224 (fR hr2 s1)) 3 rfl rfl fun _ F => gif F H 8 11 rfl rfl rfl (fun h0 H _ F => ?_) (fun h0 H _ F => ?_)
 ·cases H
  exact rt F ⟨(.slice none 0 0), rfl, (SL.Axc (T := Ty.u8) s1).f1.drop⟩
 obtain ⟨o0, H0, R0⟩ := Aa H
 clear H
 refine gx F (Ak rfl underlying224 (fR hr2 s1)) 3 rfl rfl fun _ F => At9 (fun a w_ => ∃ v1 : Value, Fr a 59 [(0, v0), (2, v2), (8, v1)] ∧ SL w [] w_ [Sl Ty.u8 v1 o0]) ?_ ?_
 ·have H := H0
  refine gc 1 F rfl fun _ F => lpk (AT4 a1 a2) (fun s2 a w_ => ∃ v3 : Value, Fr a 59 [(0, v0), (2, v2), (4, jP g8), (8, v3), (20, jI (a2.length : Int)), (21, jI s2.2)] ∧ SL w [] w_ [Blk g8 118 (jI a1.Locals :: jI a1.Height :: ev8 a1.Slots), Sl Ty.u8 v3 s2.1]) H ?_ ?_
  ·exact ⟨(.slice none 0 0), F.sb, (SL.Axc (T := Ty.u8) s1).f1⟩
  intro s2 _ w0 h1 o1 H hr
  obtain ⟨v3, F, s3⟩ := h1
  replace H : AT4 a1 a2 s2 = some o1 := H
  unfold AT4 at H
  refine gc 6 F rfl fun _ F => gif F H 12 4 rfl rfl rfl (fun h2 H _ F => ?_) (fun h2 H _ F => ?_)
  ·obtain ⟨x0, h3, H⟩ := Aa H
   refine gla F s3 m0 1 rfl fun _ F => gx F (Ak rfl underlying224 (fR hr2 s3)) 3 rfl rfl fun _ F => gca F s3 (Bin h3) 10 rfl rfl rfl rfl fun w1 _ F s4 => ?_
   refine Ae (parts := [(0, .tmp 35)]) Flat.u8 ([x0.1] : List UInt8) F s4 Aqg rfl (by decide) rfl rfl rfl (by simp [Value.cells]) rfl rfl rfl fun v4 w2 _ F s5 => ?_
   obtain ⟨x1, h4, H⟩ := Aa H
   obtain ⟨_, hr_⟩ := (s5.f2.A59 m1)
   refine Av Flat.u8 F s5.f2 Aqg rfl rfl rfl rfl hr_ rfl rfl h4 rfl fun v5 w3 _ F s6 => ?_
   have s2557' := s6.f1.drop
   cases H
   exact gw 8 F rfl fun _ F => ⟨_, rfl, v5, F.sb, s2557'.f1⟩
  cases H
  obtain rfl := hr _ rfl
  exact ⟨v3, F.sb, s3.drop⟩
 intro _ w4 hJ
 obtain ⟨v1, F, s7⟩ := hJ
 have H := R0
 clear R0 H0
 refine ge 5 F rfl fun _ F => ?_
 obtain ⟨o2, H1, R1⟩ := Aa H
 clear H
 refine gx F (Ak rfl underlying47 (fO s7 m0)) 3 rfl rfl fun _ F => At9 (fun a w_ => ∃ p0 : Unit, o2 = .inr (p0) ∧ Fr a 59 [(8, v1)] ∧ SL w [] w_ [Sl Ty.u8 v1 o0]) ?_ ?_
 ·have H := H1
  refine gc 1 F rfl fun _ F => lpk (AT3 a0 a2 o0) (fun s8 a w_ => Fr a 59 [(0, v0), (2, v2), (8, v1), (39, v1), (40, jI (o0.length : Int)), (41, jI s8)] ∧ SL w [] w_ [Sl Ty.u8 v1 o0]) H ?_ ?_
  ·exact ⟨F.sb, s7⟩
  intro s8 _ w5 h5 o3 H hr
  obtain ⟨F, s9⟩ := h5
  replace H : AT3 a0 a2 o0 s8 = some o3 := H
  unfold AT3 at H
  refine gc 6 F rfl fun _ F => gif F H 7 4 rfl rfl rfl (fun h6 H _ F => ?_) (fun h6 H _ F => ?_)
  ·obtain ⟨x2, h7, H⟩ := Aa H
   obtain ⟨a4, h8, h9⟩ := Ax Flat.u8 s9 m0 Aqg rfl h7
   refine gi F h8 0 rfl fun _ F => ?_
   obtain ⟨x3, ha, H⟩ := Aa H
   obtain ⟨a5, hb, hc⟩ := ASr A7j (fun _ hC => (Bl hr2 hC)) s9 AG7 rfl ha
   obtain ⟨x4, hd, H⟩ := Aa H
   obtain ⟨a6, he, hf⟩ := ASr Flat.u8 (fun _ hC => (hC.A59 m0)) s9 Aqg rfl hd
   obtain ⟨x5, hg, H⟩ := Aa H
   refine gx F (Ao Aw9 rfl (Aqa.at_ (SL.AN4 Flat.u8 s9 m0 h9 h7) (o := 0) rfl)) 5 rfl rfl fun _ F => ATo Aq8 s9 F (QR.ev 3 rfl <| QR.ix hb rfl <| QR.qo (fun _ hC => Aw Bnw rfl (hc _ hC) rfl) rfl <| QR.ev 2 rfl <| QR.ix he rfl <| QR.qo (fun _ hC => Ao Aw9 rfl (Aqa.at_ (hf _ hC) (o := 0) rfl)) rfl <| QR.call (args := [.tmp 46, .tmp 50, .tmp 51, .tmp 54]) Bxn rfl (fun _ hC => Bg (Brk (a0 := a0) (a1 := x3) (a2 := x2) (a3 := x4) (hr0.Ajq hC) hg) hC) <| QR.ev 1 rfl <| Bb) fun w6 _ sa F => ge 1 F rfl fun _ F => gif F H 13 7 rfl rfl rfl (fun hh H _ F => ?_) (fun hh H _ F => ?_)
   ·cases H
    obtain rfl := hr _ rfl
    replace H := R1
    try dsimp only at H
    cases H
    exact rt F ⟨(.slice none 0 0), rfl, (SL.Axc (T := Ty.u8) sa).f1.drop⟩
   cases H
   exact ⟨_, rfl, F.sb, sa⟩
  cases H
  obtain rfl := hr _ rfl
  exact ⟨_, rfl, F.sb, s9⟩
 intro _ w7 hJ
 obtain ⟨p0, rfl, F, sc⟩ := hJ
 have H := R1
 clear R1 H1
 try dsimp only at H
 cases H
 exact ge 9 F rfl fun _ F => rt F ⟨v1, rfl, sc⟩
theorem Bgp {w : World} {a0 : Aas} {a1 : Int} {r : UInt8 × Int} (H : AV3 a0 a1 = some r) :
    Calls prog 163 #[.agg ⟨(jI a0.Locals :: jI a0.Height :: ev8 a0.Slots)⟩, jI a1] w (Ret fun u_ w_ => u_ = .tuple ⟨[jU (r.1.toNat : Int), jI r.2]⟩ ∧ SL w [] w_ []) := by
 have s0 : SL w [] w [] := SL.Aq9 w
 refine cin func163 ntmps163 2 rfl rfl rfl fun _ F0 => ?_
 unfold AV3 at H
 refine Ar F0 s0 rfl rfl rfl fun g8 w9 _ F s1 => ?_
 obtain ⟨x0, h0, H⟩ := Aa H
 refine gw 8 F rfl fun _ F => gla F s1 m0 0 rfl fun _ F => gca F s1 (AVm h0) 4 rfl rfl rfl rfl fun w0 _ F s2 => gif F H 9 5 rfl rfl rfl (fun h1 H _ F => ?_) (fun h1 H _ F => ?_)
 ·cases H
  exact rt F ⟨rfl, s2.drop⟩
 refine bsp 13 F H (fun h2 H F => ?_) (fun h2 H F => ?_)
 ·cases H
  exact gw 18 F rfl fun _ F => rt F ⟨rfl, s2.drop⟩
 refine gw 2 F rfl fun _ F => Afv F rfl rfl <| gld F s2 m0 5 rfl fun _ F => gif F H 9 7 rfl rfl rfl (fun h3 H _ F => ?_) (fun h3 H _ F => ?_)
 ·cases H
  exact rt F ⟨rfl, s2.drop⟩
 obtain ⟨x1, h4, H⟩ := Aa H
 refine gx F (AO6 ANo h4 rfl rfl) 0 rfl rfl fun _ F => ?_
 cases H
 exact gx F (Ao Aw9 rfl (SL.AT9 (pre := [jI a0.Locals, jI a0.Height]) s2 m0 rfl h4)) 5 rfl rfl fun _ F => rt F ⟨rfl, s2.drop⟩
theorem Bqs {w : World} {a0 : Aas} {r : Aas × UInt8 × Int} (H : Bav a0 = some r) :
    Calls prog 188 #[.agg ⟨(jI a0.Locals :: jI a0.Height :: ev8 a0.Slots)⟩] w (Ret fun u_ w_ => u_ = .tuple ⟨[.agg ⟨(jI r.1.Locals :: jI r.1.Height :: ev8 r.1.Slots)⟩, jU (r.2.1.toNat : Int), jI r.2.2]⟩ ∧ SL w [] w_ []) := by
 have s0 : SL w [] w [] := SL.Aq9 w
 refine cin func188 ntmps188 2 rfl rfl rfl fun _ F0 => ?_
 unfold Bav at H
 refine Ar F0 s0 rfl rfl rfl fun g0 w0 _ F s1 => Af F s1 Ajp rfl rfl fun g1 w1 _ F s2 => ?_
 obtain ⟨x0, h0, H⟩ := Aa H
 refine gw 6 F rfl fun _ F => gla F s2 m1 0 rfl fun _ F => gca F s2 (Bin h0) 14 rfl rfl rfl rfl fun w2 _ F s3 => gif F H 2 5 rfl rfl rfl (fun h1 H _ F => ?_) (fun h1 H _ F => ?_)
 ·refine gx F (Al (vs := []) Ajp ACi rfl (cs := jZ) (Ayf)) 1 rfl rfl fun _ F => ?_
  refine Akj (ds := jZ) F s3 rfl rfl (by simpa using Amy) (Ab rfl (Ab rfl (Ape _))) (by simp) fun w3 _ F s4 => ?_
  cases H
  refine gw 6 F rfl fun _ F => ?_
  refine Aj (rs := [.cell 2 118, .tmp 3, .tmp 4]) (vs := [.agg ⟨jZ⟩, jU 0, jI x0.2]) F (by rfl) ⟨_, _, rfl, Am s4 m0 rfl Aoi (by simp), _, _, rfl, An rfl, _, _, rfl, An rfl, rfl⟩ ⟨_, rfl, ⟨rfl, s4.drop.drop⟩⟩
 refine gld F s3 m1 2 rfl fun _ F => Ay F s3.f1 rfl rfl AYu rfl rfl rfl fun w4 _ F s5 => ?_
 obtain ⟨x1, h2, H⟩ := Aa H
 refine gw 4 F rfl fun _ F => gla F s5 m0 0 rfl fun _ F => gca F s5 (AZw h2) 1 rfl rfl rfl rfl fun w5 _ F s6 => ?_
 refine Akj (ds := (jI x1.Locals :: jI x1.Height :: ev8 x1.Slots)) F s6.f1 rfl rfl (by simpa using Amy) (Ab rfl (Ab rfl (Ape _))) (by simp) fun w6 _ F s7 => ?_
 cases H
 refine gw 5 F rfl fun _ F => ?_
 refine Aj (rs := [.cell 2 118, .tmp 3, .tmp 4]) (vs := [.agg ⟨(jI x1.Locals :: jI x1.Height :: ev8 x1.Slots)⟩, jU (x0.1.toNat : Int), jI 0]) F (by rfl) ⟨_, _, rfl, Am s7 m0 rfl Aoi (by simp), _, _, rfl, An rfl, _, _, rfl, An rfl, rfl⟩ ⟨_, rfl, ⟨rfl, s7.drop.drop⟩⟩
theorem Bnb {w : World} {a0 : Aas} {a1 : Int} {a2 : UInt8} {r : Aas × Int} (H : AX4 a0 a1 a2 = some r) :
    Calls prog 189 #[.agg ⟨(jI a0.Locals :: jI a0.Height :: ev8 a0.Slots)⟩, jI a1, jU (a2.toNat : Int)] w (Ret fun u_ w_ => u_ = .tuple ⟨[.agg ⟨(jI r.1.Locals :: jI r.1.Height :: ev8 r.1.Slots)⟩, jI r.2]⟩ ∧ SL w [] w_ []) := by
 have s0 : SL w [] w [] := SL.Aq9 w
 refine cin func189 ntmps189 2 rfl rfl rfl fun _ F0 => ?_
 unfold AX4 at H
 refine Ar F0 s0 rfl rfl rfl fun g0 w0 _ F s1 => Af F s1 Ajp rfl rfl fun g1 w1 _ F s2 => ?_
 obtain ⟨x0, h0, H⟩ := Aa H
 refine gw 5 F rfl fun _ F => gla F s2 m1 1 rfl fun _ F => gca F s2 (Bgp h0) 14 rfl rfl rfl rfl fun w2 _ F s3 => gif F H 2 4 rfl rfl rfl (fun h1 H _ F => ?_) (fun h1 H _ F => ?_)
 ·refine gx F (Al (vs := []) Ajp ACi rfl (cs := jZ) (Ayf)) 1 rfl rfl fun _ F => ?_
  refine Akj (ds := jZ) F s3 rfl rfl (by simpa using Amy) (Ab rfl (Ab rfl (Ape _))) (by simp) fun w3 _ F s4 => ?_
  cases H
  refine gw 5 F rfl fun _ F => ?_
  refine Aj (rs := [.cell 6 118, .tmp 7]) (vs := [.agg ⟨jZ⟩, jI x0.2]) F (by rfl) ⟨_, _, rfl, Am s4 m0 rfl Aoi (by simp), _, _, rfl, An rfl, rfl⟩ ⟨_, rfl, ⟨rfl, s4.drop.drop⟩⟩
 obtain ⟨x1, h2, H⟩ := Aa H
 refine gla F s3 m1 0 rfl fun _ F => gca F s3 (AZw h2) 0 rfl rfl rfl rfl fun w4 _ F s5 => ?_
 refine Akj (ds := (jI x1.Locals :: jI x1.Height :: ev8 x1.Slots)) F s5.f1 rfl rfl (by simpa using Amy) (Ab rfl (Ab rfl (Ape _))) (by simp) fun w5 _ F s6 => ?_
 obtain ⟨x2, h3, H⟩ := Aa H
 refine gw 7 F rfl fun _ F => gx F (AO6 ANo h3 rfl rfl) 0 rfl rfl fun _ F => AVw (y' := a2) (pre := [jI x1.Locals, jI x1.Height]) F s6 rfl h3 rfl rfl AWk fun w6 _ F s7 => gw 4 F rfl fun _ F => gla F s7 m0 0 rfl fun _ F => ?_
 refine Akj (ds := (jI x1.Locals :: jI x1.Height :: ev8 (AT6 x1.Slots a1 a2))) F s7.f1 rfl rfl (by simpa using Amy) (Ab rfl (Ab rfl (Ape _))) (by simp) fun w7 _ F s8 => ?_
 cases H
 refine gw 4 F rfl fun _ F => ?_
 refine Aj (rs := [.cell 6 118, .tmp 7]) (vs := [.agg ⟨(jI x1.Locals :: jI x1.Height :: ev8 (AT6 x1.Slots a1 a2))⟩, jI 0]) F (by rfl) ⟨_, _, rfl, Am s8 m0 rfl Aoi (by simp), _, _, rfl, An rfl, rfl⟩ ⟨_, rfl, ⟨rfl, s8.drop.drop⟩⟩
theorem Bot {w : World} {a0 : Aas} {a1 : UInt8} {r : Aas × Int} (H : AZn a0 a1 = some r) :
    Calls prog 190 #[.agg ⟨(jI a0.Locals :: jI a0.Height :: ev8 a0.Slots)⟩, jU (a1.toNat : Int)] w (Ret fun u_ w_ => u_ = .tuple ⟨[.agg ⟨(jI r.1.Locals :: jI r.1.Height :: ev8 r.1.Slots)⟩, jI r.2]⟩ ∧ SL w [] w_ []) := by
 have s0 : SL w [] w [] := SL.Aq9 w
 refine cin func190 ntmps190 2 rfl rfl rfl fun _ F0 => ?_
 unfold AZn at H
 refine Ar F0 s0 rfl rfl rfl fun g0 w0 _ F s1 => Af F s1 Ajp rfl rfl fun g1 w1 _ F s2 => ?_
 obtain ⟨x0, h0, H⟩ := Aa H
 refine gw 7 F rfl fun _ F => gla F s2 m1 0 rfl fun _ F => gca F s2 (AVm h0) 4 rfl rfl rfl rfl fun w2 _ F s3 => gif F H 2 3 rfl rfl rfl (fun h1 H _ F => ?_) (fun h1 H _ F => ?_)
 ·refine gx F (Al (vs := []) Ajp ACi rfl (cs := jZ) (Ayf)) 0 rfl rfl fun _ F => ?_
  refine Akj (ds := jZ) F s3 rfl rfl (by simpa using Amy) (Ab rfl (Ab rfl (Ape _))) (by simp) fun w3 _ F s4 => ?_
  cases H
  refine gw 6 F rfl fun _ F => ?_
  refine Aj (rs := [.cell 4 118, .tmp 5]) (vs := [.agg ⟨jZ⟩, jI 32]) F (by rfl) ⟨_, _, rfl, Am s4 m0 rfl Aoi (by simp), _, _, rfl, An rfl, rfl⟩ ⟨_, rfl, ⟨rfl, s4.drop.drop⟩⟩
 refine gld F s3 m1 1 rfl fun _ F => gld F s3 m1 5 rfl fun _ F => gif F H 2 5 rfl rfl rfl (fun h2 H _ F => ?_) (fun h2 H _ F => ?_)
 ·refine gx F (Al (vs := []) Ajp ACi rfl (cs := jZ) (Ayf)) 0 rfl rfl fun _ F => ?_
  refine Akj (ds := jZ) F s3 rfl rfl (by simpa using Amy) (Ab rfl (Ab rfl (Ape _))) (by simp) fun w4 _ F s5 => ?_
  cases H
  refine gw 6 F rfl fun _ F => ?_
  refine Aj (rs := [.cell 4 118, .tmp 5]) (vs := [.agg ⟨jZ⟩, jI 31]) F (by rfl) ⟨_, _, rfl, Am s5 m0 rfl Aoi (by simp), _, _, rfl, An rfl, rfl⟩ ⟨_, rfl, ⟨rfl, s5.drop.drop⟩⟩
 obtain ⟨x1, h3, H⟩ := Aa H
 refine gla F s3 m1 0 rfl fun _ F => gca F s3 (AZw h3) 0 rfl rfl rfl rfl fun w5 _ F s6 => ?_
 refine Akj (ds := (jI x1.Locals :: jI x1.Height :: ev8 x1.Slots)) F s6.f1 rfl rfl (by simpa using Amy) (Ab rfl (Ab rfl (Ape _))) (by simp) fun w6 _ F s7 => ?_
 obtain ⟨x2, h4, H⟩ := Aa H
 refine gw 5 F rfl fun _ F => gld F s7 m0 1 rfl fun _ F => gld F s7 m0 3 rfl fun _ F => gx F (AO6 ANo h4 rfl rfl) 0 rfl rfl fun _ F => AVw (y' := a1) (pre := [jI x1.Locals, jI x1.Height]) F s7 rfl h4 rfl rfl AWk fun w7 _ F s8 => gw 5 F rfl fun _ F => gld F s8 m0 2 rfl fun _ F => Ay F s8 rfl rfl AYu rfl rfl rfl fun w8 _ F s9 => gw 4 F rfl fun _ F => gla F s9 m0 0 rfl fun _ F => ?_
 refine Akj (ds := (jI x1.Locals :: jI (wr (x1.Height + 1)) :: ev8 (AT6 x1.Slots (wr (x1.Locals + x1.Height)) a1))) F s9.f1 rfl rfl (by simpa using Amy) (Ab rfl (Ab rfl (Ape _))) (by simp) fun w9 _ F sa => ?_
 cases H
 refine gw 4 F rfl fun _ F => ?_
 refine Aj (rs := [.cell 4 118, .tmp 5]) (vs := [.agg ⟨(jI x1.Locals :: jI (wr (x1.Height + 1)) :: ev8 (AT6 x1.Slots (wr (x1.Locals + x1.Height)) a1))⟩, jI 0]) F (by rfl) ⟨_, _, rfl, Am sa m0 rfl Aoi (by simp), _, _, rfl, An rfl, rfl⟩ ⟨_, rfl, ⟨rfl, sa.drop.drop⟩⟩
theorem Bgq {w : World} {v2 v3 : Value} {a0 : Aas} {a1 : Ads} {a2 : List UInt8} {a3 : List UInt8} {r : Aas × Int} (hr2 : Rd Ty.u8 w [] v2 a2) (hr3 : Rd Ty.u8 w [] v3 a3) (H : AUm a0 a1 a2 a3 = some r) :
    Calls prog 164 #[.agg ⟨(jI a0.Locals :: jI a0.Height :: ev8 a0.Slots)⟩, .agg ⟨[jI a1.At, jU (a1.Op.toNat : Int), jI a1.A, jI a1.B]⟩, v2, v3] w (Ret fun u_ w_ => u_ = .tuple ⟨[.agg ⟨(jI r.1.Locals :: jI r.1.Height :: ev8 r.1.Slots)⟩, jI r.2]⟩ ∧ SL w [] w_ []) := by
 have s0 : SL w [] w [] := SL.Aq9 w
 refine cin func164 ntmps164 2 rfl rfl rfl fun _ F0 => ?_
 unfold AUm at H
 refine Ar F0 s0 rfl rfl rfl fun g0 w0 _ F s1 => Ar F s1 rfl rfl rfl fun g1 w1 _ F s2 => Af F s2 Ajp rfl rfl fun g32 w2 _ F s3 => gw 7 F rfl fun _ F => ?_
 obtain ⟨o0, H0, R0⟩ := Aa H
 clear H
 refine gx F (Ak rfl underlying47 (fR hr2 s3)) 3 rfl rfl fun _ F => At9 (fun a w_ => Fr a 66 [(2, v2), (3, v3), (4, jP g0), (5, jP g1), (8, jP g32)] ∧ SL w [] w_ [Blk g32 118 jZ, Blk g1 79 [jI a1.At, jU (a1.Op.toNat : Int), jI a1.A, jI a1.B], Blk g0 118 (jI o0.1 :: jI o0.2.1 :: ev8 o0.2.2)]) ?_ ?_
 ·have H := H0
  refine gc 1 F rfl fun _ F => lpk (AUs a2) (fun s4 a w_ => Fr a 66 [(2, v2), (3, v3), (4, jP g0), (5, jP g1), (8, jP g32), (15, jI (a2.length : Int)), (16, jI s4.2.2.2)] ∧ SL w [] w_ [Blk g32 118 jZ, Blk g1 79 [jI a1.At, jU (a1.Op.toNat : Int), jI a1.A, jI a1.B], Blk g0 118 (jI s4.1 :: jI s4.2.1 :: ev8 s4.2.2.1)]) H ?_ ?_
  ·exact ⟨F.sb, s3⟩
  intro s4 _ w3 h0 o1 H hr
  obtain ⟨F, s5⟩ := h0
  replace H : AUs a2 s4 = some o1 := H
  unfold AUs at H
  refine gc 6 F rfl fun _ F => gif F H 5 4 rfl rfl rfl (fun h1 H _ F => ?_) (fun h1 H _ F => ?_)
  ·obtain ⟨x0, h2, H⟩ := Aa H
   refine gla F s5 m2 0 rfl fun _ F => gca F s5 (Bqs h2) 4 rfl rfl rfl rfl fun w4 _ F s6 => ?_
   refine Akj (ds := (jI x0.1.Locals :: jI x0.1.Height :: ev8 x0.1.Slots)) F s6.f2 rfl rfl (by simpa using Amy) (Ab rfl (Ab rfl (Ape _))) (by simp) fun w5 _ F s7 => ?_
   cases H
   exact gw 7 F rfl fun _ F => ⟨_, rfl, F.sb, s7.f2.f2⟩
  cases H
  obtain rfl := hr _ rfl
  exact ⟨F.sb, s5⟩
 intro _ w6 hJ
 obtain ⟨F, s8⟩ := hJ
 have H := R0
 clear R0 H0
 obtain ⟨o2, H1, R1⟩ := Aa H
 clear H
 refine ge 2 F rfl fun _ F => At9 (fun a w_ => ∃ p0 : Unit, o2 = .inr (p0) ∧ Fr a 66 [(2, v2), (3, v3), (4, jP g0), (5, jP g1), (8, jP g32)] ∧ SL w [] w_ [Blk g32 118 jZ, Blk g1 79 [jI a1.At, jU (a1.Op.toNat : Int), jI a1.A, jI a1.B], Blk g0 118 (jI o0.1 :: jI o0.2.1 :: ev8 o0.2.2)]) ?_ ?_
 ·have H := H1
  refine gc 3 F rfl fun _ F => gld F s8 m1 2 rfl fun _ F => bsp 28 F H (fun h3 H F => ?_) (fun h3 H F => ?_)
  ·refine gw 1 F rfl fun _ F => Afv F rfl rfl <| gld F s8 m2 4 rfl fun _ F => gif F H 2 1 rfl rfl rfl (fun h4 H _ F => ?_) (fun h4 H _ F => ?_)
   ·refine gx F (Al (vs := []) Ajp ACi rfl (cs := jZ) (Ayf)) 0 rfl rfl fun _ F => ?_
    refine Akj (ds := jZ) F s8 rfl rfl (by simpa using Amy) (Ab rfl (Ab rfl (Ape _))) (by simp) fun w7 _ F s9 => ?_
    cases H
    replace H := R1
    try dsimp only at H
    cases H
    refine gw 6 F rfl fun _ F => ?_
    refine Aj (rs := [.cell 8 118, .tmp 9]) (vs := [.agg ⟨jZ⟩, jI 73]) F (by rfl) ⟨_, _, rfl, Am s9 m0 rfl Aoi (by simp), _, _, rfl, An rfl, rfl⟩ ⟨_, rfl, ⟨rfl, s9.drop.drop.drop⟩⟩
   cases H
   exact ⟨_, rfl, F.sb, s8⟩
  cases H
  exact gw 8 F rfl fun _ F => ⟨_, rfl, F.sb, s8⟩
 intro _ w8 hJ
 obtain ⟨p0, rfl, F, sa⟩ := hJ
 have H := R1
 clear R1 H1
 try dsimp only at H
 obtain ⟨o3, H2, R2⟩ := Aa H
 clear H
 refine ge 2 F rfl fun _ F => At9 (fun a w_ => Fr a 66 [(3, v3), (4, jP g0), (8, jP g32)] ∧ SL w [] w_ [Blk g0 118 (jI o3.1 :: jI o3.2.1 :: ev8 o3.2.2), Blk g32 118 jZ]) ?_ ?_
 ·have H := H2
  refine gc 3 F rfl fun _ F => gld F sa m1 3 rfl fun _ F => gif F H 0 1 rfl rfl rfl (fun h5 H _ F => ?_) (fun h5 H _ F => ?_)
  ·obtain ⟨x1, h6, H⟩ := Aa H
   obtain ⟨x2, h7, H⟩ := Aa H
   refine AJp Aq8 sa.f2.drop ?_
   obtain ⟨a4, h8, h9⟩ := ASr Flat.u8 (fun _ hC => (Bl hr2 hC)) sa.drew.f2.drop Aqg rfl h6
   refine hq [1, 2, 3, 4, 5] F sa.drew.f2.drop (QI.ev 1 rfl <| QI.ld m1 rfl <| QI.ev 1 rfl <| QI.ix h8 rfl <| QI.op rfl (fun _ hC => Ao Aw9 rfl (Aqa.at_ (h9 _ hC) (o := 0) rfl)) rfl <| QI.nil) (by kernel_rfl) fun _ F => ?_
   refine ho 0 rfl (by kernel_rfl) ?_
   refine gla F sa.drew m2 1 rfl fun _ F => ⟨sa.drew.f2.drop, ?_⟩
   refine ho 6 rfl (by kernel_rfl) ?_
   refine gca F sa.drew (Bnb h7) 1 rfl rfl rfl rfl fun w9 _ F sc => ⟨sc.f2.drop, ?_⟩
   refine hq [7, 8, 9] F sc.f2.drop (QI.ev 3 rfl <| QI.nil) (by kernel_rfl) fun _ F => ?_
   refine ho 10 rfl (by kernel_rfl) ?_
   refine Akj (ds := (jI x2.1.Locals :: jI x2.1.Height :: ev8 x2.1.Slots)) F sc.f2 rfl rfl (by simpa using Amy) (Ab rfl (Ab rfl (Ape _))) (by simp) fun wa _ F sd => ?_
   refine gw 1 F rfl fun _ F => ⟨sd.drop, ?_⟩
   refine ANu (by kernel_rfl) ?_
   cases H
   exact ⟨F.sb, sd.f2.drop⟩
  cases H
  exact ⟨F.sb, sa.f1.drop.f1⟩
 intro _ wb hJ
 obtain ⟨F, se⟩ := hJ
 have H := R2
 clear R2 H2
 refine ge 5 F rfl fun _ F => ?_
 obtain ⟨o4, H3, R3⟩ := Aa H
 clear H
 refine gx F (Ak rfl underlying47 (fR hr3 se)) 3 rfl rfl fun _ F => At9 (fun a w_ => ∃ p1 : Int × Int × (Vector UInt8 24), o4 = .inr (p1) ∧ Fr a 66 [(4, jP g0), (8, jP g32)] ∧ SL w [] w_ [Blk g0 118 (jI p1.1 :: jI p1.2.1 :: ev8 p1.2.2), Blk g32 118 jZ]) ?_ ?_
 ·have H := H3
  refine gc 1 F rfl fun _ F => lpk (ASa a3) (fun sf a w_ => Fr a 66 [(4, jP g0), (8, jP g32), (47, v3), (48, jI (a3.length : Int)), (49, jI sf.2.2.2)] ∧ SL w [] w_ [Blk g0 118 (jI sf.1 :: jI sf.2.1 :: ev8 sf.2.2.1), Blk g32 118 jZ]) H ?_ ?_
  ·exact ⟨F.sb, se⟩
  intro sf _ wc ha o5 H hr
  obtain ⟨F, sg⟩ := ha
  replace H : ASa a3 sf = some o5 := H
  unfold ASa at H
  refine gc 6 F rfl fun _ F => gif F H 6 4 rfl rfl rfl (fun hb H _ F => ?_) (fun hb H _ F => ?_)
  ·obtain ⟨x3, hc, H⟩ := Aa H
   obtain ⟨a5, hd, he⟩ := AT7 Flat.u8 (Bl hr3 sg) Aqg rfl hc
   refine gi F hd 0 rfl fun _ F => ?_
   obtain ⟨x4, hf, H⟩ := Aa H
   refine gx F (Ao Aw9 rfl (Aqa.at_ he (o := 0) rfl)) 5 rfl rfl fun _ F => gla F sg m0 1 rfl fun _ F => gca F sg (Bot hf) 3 rfl rfl rfl rfl fun wd _ F sh => Af F sh Ajp rfl rfl fun g2 we _ F si => ?_
   refine Akj (ds := (jI x4.1.Locals :: jI x4.1.Height :: ev8 x4.1.Slots)) F si rfl rfl (by simpa using Amy) (Ab rfl (Ab rfl (Ape _))) (by simp) fun wf _ F sj => ?_
   refine gw 10 F rfl fun _ F => gif F H 2 3 rfl rfl rfl (fun hg H _ F => ?_) (fun hg H _ F => ?_)
   ·refine gx F (Al (vs := []) Ajp ACi rfl (cs := jZ) (Ayf)) 1 rfl rfl fun _ F => ?_
    refine Akj (ds := jZ) F sj.f2 rfl rfl (by simpa using Amy) (Ab rfl (Ab rfl (Ape _))) (by simp) fun wg _ F sk => ?_
    cases H
    obtain rfl := hr _ rfl
    replace H := R3
    try dsimp only at H
    cases H
    refine gw 11 F rfl fun _ F => ?_
    refine Aj (rs := [.cell 8 118, .tmp 9]) (vs := [.agg ⟨jZ⟩, jI x4.2]) F (by rfl) ⟨_, _, rfl, Am sk m0 rfl Aoi (by simp), _, _, rfl, An rfl, rfl⟩ ⟨_, rfl, ⟨rfl, sk.drop.drop.drop⟩⟩
   refine gla F sj m0 0 rfl fun _ F => ?_
   refine Akj (ds := (jI x4.1.Locals :: jI x4.1.Height :: ev8 x4.1.Slots)) F sj.f1 rfl rfl (by simpa using Amy) (Ab rfl (Ab rfl (Ape _))) (by simp) fun wh _ F sl => ?_
   cases H
   exact gw 7 F rfl fun _ F => ⟨_, rfl, F.sb, sl.f1.drop⟩
  cases H
  obtain rfl := hr _ rfl
  exact ⟨_, rfl, F.sb, sg⟩
 intro _ wi hJ
 obtain ⟨p1, rfl, F, sm⟩ := hJ
 have H := R3
 clear R3 H3
 try dsimp only at H
 refine ge 3 F rfl fun _ F => gla F sm m0 0 rfl fun _ F => ?_
 refine Akj (ds := (jI p1.1 :: jI p1.2.1 :: ev8 p1.2.2)) F sm.f1 rfl rfl (by simpa using Amy) (Ab rfl (Ab rfl (Ape _))) (by simp) fun wj _ F sn => ?_
 cases H
 refine gw 4 F rfl fun _ F => ?_
 refine Aj (rs := [.cell 8 118, .tmp 9]) (vs := [.agg ⟨(jI p1.1 :: jI p1.2.1 :: ev8 p1.2.2)⟩, jI 0]) F (by rfl) ⟨_, _, rfl, Am sn m0 rfl Aoi (by simp), _, _, rfl, An rfl, rfl⟩ ⟨_, rfl, ⟨rfl, sn.drop.drop⟩⟩
theorem Bmx {w : World} {v0 : Value} {a0 : List UInt8} {r : (List UInt8)} (hr0 : Rd Ty.u8 w [] v0 a0) (H : Bhg a0 = some r) :
    Calls prog 203 #[v0] w (Ret fun u_ w_ => ∃ u0 : Value, u_ = u0 ∧ SL w [] w_ [Sl Ty.u8 u0 r]) := by
 have s0 : SL w [] w [] := SL.Aq9 w
 refine cin func203 ntmps203 6 rfl rfl rfl fun _ F2 => ?_
 unfold Bhg at H
 obtain ⟨x0, h0, H⟩ := Aa H
 obtain ⟨x1, h1, H⟩ := Aa H
 refine AJp Aq8 s0 ?_
 obtain ⟨a1, h2, h3⟩ := ASr Flat.u8 (fun _ hC => (Bl hr0 hC)) s0.drew Aqg rfl h0
 obtain ⟨a2, h4, h5⟩ := ASr Flat.u8 (fun _ hC => (Bl hr0 hC)) s0.drew Aqg rfl h1
 refine hq [0, 1, 2, 3, 4, 5] F2 s0.drew (QI.ev 1 rfl <| QI.ix h2 rfl <| QI.op rfl (fun _ hC => Ao Aw9 rfl (Aqa.at_ (h3 _ hC) (o := 0) rfl)) rfl <| QI.ev 1 rfl <| QI.ix h4 rfl <| QI.op rfl (fun _ hC => Ao Aw9 rfl (Aqa.at_ (h5 _ hC) (o := 0) rfl)) rfl <| QI.nil) (by kernel_rfl) fun _ F => ?_
 refine ho 6 rfl (by kernel_rfl) ?_
 refine Ae (parts := [(0, .tmp 5), (1, .tmp 8)]) Flat.u8 ([x0, x1] : List UInt8) F s0.drew Aqg rfl (by decide) rfl rfl rfl (by simp [Value.cells]) rfl rfl rfl fun v1 w0 _ F s1 => ?_
 refine gw 1 F rfl fun _ F => ⟨s1.drop, ?_⟩
 refine hq [7] F s1.drop (QI.ev 1 rfl <| QI.nil) (by kernel_rfl) fun _ F => ?_
 refine ANu (by kernel_rfl) ?_
 cases H
 exact ge 2 F rfl fun _ F => rt F ⟨v1, rfl, s1⟩
theorem Bnl {w : World} {v0 : Value} {a0 : List UInt8} {r : (List UInt8)} (hr0 : Rd Ty.u8 w [] v0 a0) (H : Bg1 a0 = some r) :
    Calls prog 204 #[v0] w (Ret fun u_ w_ => ∃ u0 : Value, u_ = u0 ∧ SL w [] w_ [Sl Ty.u8 u0 r]) := by
 have s0 : SL w [] w [] := SL.Aq9 w
 refine cin func204 ntmps204 6 rfl rfl rfl fun _ F2 => ?_
 unfold Bg1 at H
 obtain ⟨x0, h0, H⟩ := Aa H
 obtain ⟨x1, h1, H⟩ := Aa H
 refine AJp Aq8 s0 ?_
 obtain ⟨a1, h2, h3⟩ := ASr Flat.u8 (fun _ hC => (Bl hr0 hC)) s0.drew Aqg rfl h0
 obtain ⟨a2, h4, h5⟩ := ASr Flat.u8 (fun _ hC => (Bl hr0 hC)) s0.drew Aqg rfl h1
 refine hq [0, 1, 2, 3, 4, 5] F2 s0.drew (QI.ev 1 rfl <| QI.ix h2 rfl <| QI.op rfl (fun _ hC => Ao Aw9 rfl (Aqa.at_ (h3 _ hC) (o := 0) rfl)) rfl <| QI.ev 1 rfl <| QI.ix h4 rfl <| QI.op rfl (fun _ hC => Ao Aw9 rfl (Aqa.at_ (h5 _ hC) (o := 0) rfl)) rfl <| QI.nil) (by kernel_rfl) fun _ F => ?_
 refine ho 6 rfl (by kernel_rfl) ?_
 refine Ae (parts := [(0, .tmp 5), (1, .tmp 8)]) Flat.u8 ([x0, x1] : List UInt8) F s0.drew Aqg rfl (by decide) rfl rfl rfl (by simp [Value.cells]) rfl rfl rfl fun v1 w0 _ F s1 => ?_
 refine gw 1 F rfl fun _ F => ⟨s1.drop, ?_⟩
 refine hq [7] F s1.drop (QI.ev 1 rfl <| QI.nil) (by kernel_rfl) fun _ F => ?_
 refine ANu (by kernel_rfl) ?_
 cases H
 exact ge 2 F rfl fun _ F => rt F ⟨v1, rfl, s1⟩
theorem Bww {w : World} {FF : List Nat} {v u : Value} {x : Gv} {l r : List UInt8} (hst : Aru [Gvc 214 203 204 47 v x] w FF) (hr : Rd Ty.u8 w FF u l) (H : Gv.run x l = some r) :
    ∃ f caps, v = clo f caps ∧ fnB prog f = true ∧ Calls prog f ([u] ++ caps).toArray w (Ret fun u_ w_ => SL w FF w_ [Sl Ty.u8 u_ r]) := by
  cases x with
  | const l' =>
    obtain ⟨qs, ⟨g, u1, rfl, rfl⟩, hs⟩ := AYe hst
    cases H
    refine ⟨214, [jP g], rfl, Bwr, ?_⟩
    have s0 : SL w FF w [Blk g 47 [u1], Sl Ty.u8 u1 r] := SL.init w FF hs
    refine AY8 func214 rfl ntmps214 (Nat.le_of_ble_eq_true rfl) (args := [u, jP g]) fun q0 F0 => ?_
    refine wp_seq ?_
    refine AXe ?_
    refine Ba9 F0 (PR.op (AYq rfl) <| PR.nil) fun q1 F1 => ?_
    refine AXf ?_
    refine AYc ?_
    refine wp_seq ?_
    refine AXe ?_
    refine Ba9 F1 (PR.op (Bll AZ0 rfl (s0.AQ9 (.head _) rfl)) <| PR.op (AYq rfl) <| PR.nil) fun q2 F2 => ?_
    refine AXf ?_
    refine AYc ?_
    refine wp_ret ?_
    exact AY4 (rs := [.tmp 3]) (vs := [u1]) F2 (by rfl) ⟨_, _, rfl, RV.tmp rfl, rfl⟩ ⟨_, rfl, s0.drop⟩
  | dup =>
    obtain ⟨qs, ⟨rfl, rfl⟩, hs⟩ := AYe hst
    have hF : FF = [] := hs
    subst hF
    exact ⟨203, [], rfl, Bw5, (Bmx hr H).mono fun _ _ ⟨v_, h1, h2⟩ => by
      obtain ⟨u0, rfl, h3⟩ := h2
      exact ⟨_, h1, h3⟩⟩
  | swap =>
    obtain ⟨qs, ⟨rfl, rfl⟩, hs⟩ := AYe hst
    have hF : FF = [] := hs
    subst hF
    exact ⟨204, [], rfl, Bx7, (Bnl hr H).mono fun _ _ ⟨v_, h1, h2⟩ => by
      obtain ⟨u0, rfl, h3⟩ := h2
      exact ⟨_, h1, h3⟩⟩
  | nil => cases H
theorem Bim {w : World} {v0_0 v0_1 : Value} {a0 : Adb} {a1 : Aas} {a2 : Ads} {r : Aas × Int} (hr0_0 : Rd Aef w [] v0_0 a0.Classes) (hr0_1 : Rd Ate w [] v0_1 a0.Akq) (H : Baz a0 a1 a2 = some r) :
    Calls prog 134 #[.agg ⟨[v0_0, v0_1, jI a0.Fn]⟩, .agg ⟨(jI a1.Locals :: jI a1.Height :: ev8 a1.Slots)⟩, .agg ⟨[jI a2.At, jU (a2.Op.toNat : Int), jI a2.A, jI a2.B]⟩] w (Ret fun u_ w_ => u_ = .tuple ⟨[.agg ⟨(jI r.1.Locals :: jI r.1.Height :: ev8 r.1.Slots)⟩, jI r.2]⟩ ∧ SL w [] w_ []) := by
 have s0 : SL w [] w [] := SL.Aq9 w
 refine cin func134 ntmps134 2 rfl rfl rfl fun _ F0 => ?_
 unfold Baz at H
 refine Ar F0 s0 rfl rfl rfl fun g0 w0 _ F s1 => Ar F s1 rfl rfl rfl fun g32 w1 _ F s2 => Ar F s2 rfl rfl rfl fun g1 w2 _ F s3 => Af F s3 Ajp rfl rfl fun g2 w3 _ F s4 => ?_
 obtain ⟨x0, h0, H⟩ := Aa H
 refine gw 6 F rfl fun _ F => gld F s4 m3 0 rfl fun _ F => gca F s4 (Bg6 (a0 := (⟨a0.Classes, a0.Akq, a0.Fn⟩ : Adb)) (hr0_0.Ajq s4) (hr0_1.Ajq s4) h0) 3 rfl rfl rfl rfl fun w4 _ F s5 => gif F H 2 5 rfl rfl rfl (fun h1 H _ F => ?_) (fun h1 H _ F => ?_)
 ·refine gx F (Al (vs := []) Ajp ACi rfl (cs := jZ) (Ayf)) 0 rfl rfl fun _ F => ?_
  refine Akj (ds := jZ) F s5 rfl rfl (by simpa using Amy) (Ab rfl (Ab rfl (Ape _))) (by simp) fun w5 _ F s6 => ?_
  cases H
  refine gw 5 F rfl fun _ F => ?_
  refine Aj (rs := [.cell 6 118, .tmp 7]) (vs := [.agg ⟨jZ⟩, jI 1]) F (by rfl) ⟨_, _, rfl, Am s6 m0 rfl Aoi (by simp), _, _, rfl, An rfl, rfl⟩ ⟨_, rfl, ⟨rfl, s6.drop.drop.drop.drop⟩⟩
 obtain ⟨x1, h2, H⟩ := Aa H
 refine gld F s5 m3 0 rfl fun _ F => gla F s5 m2 0 rfl fun _ F => gca F s5 (Bbt (hr0_0.Ajq s5) h2) 10 rfl rfl rfl rfl fun w6 _ F s7 => gif F H 2 4 rfl rfl rfl (fun h3 H _ F => ?_) (fun h3 H _ F => ?_)
 ·refine gx F (Al (vs := []) Ajp ACi rfl (cs := jZ) (Ayf)) 1 rfl rfl fun _ F => ?_
  refine Akj (ds := jZ) F s7 rfl rfl (by simpa using Amy) (Ab rfl (Ab rfl (Ape _))) (by simp) fun w7 _ F s8 => ?_
  cases H
  refine gw 5 F rfl fun _ F => ?_
  refine Aj (rs := [.cell 6 118, .tmp 7]) (vs := [.agg ⟨jZ⟩, jI x1]) F (by rfl) ⟨_, _, rfl, Am s8 m0 rfl Aoi (by simp), _, _, rfl, An rfl, rfl⟩ ⟨_, rfl, ⟨rfl, s8.drop.drop.drop.drop⟩⟩
 obtain ⟨x2, h4, H⟩ := Aa H
 refine gld F s7 m3 0 rfl fun _ F => gld F s7 m1 0 rfl fun _ F => std F (Brz (a0 := (⟨a0.Classes, a0.Akq, a0.Fn⟩ : Adb)) (hr0_0.Ajq s7) (hr0_1.Ajq s7) h4) fun v0 w8 _ h5 F => ?_
 obtain ⟨v1, v2, rfl, h6⟩ := h5
 have s9 := s7.add h6
 refine gw 3 F rfl fun _ F => Af F s9 AMl rfl rfl fun g3 w9 _ F sa => Ah F sa rfl rfl AP4 (Ab (Aq (fO sa m1)) (Ab (sa.ARx m2).2 Ap)) (Ac rfl) fun wa _ F sc => ?_
 obtain ⟨o0, H0, R0⟩ := Aa H
 clear H
 refine gw 4 F rfl fun _ F => At9 (fun a w_ => Fr a 101 [(3, jP g0), (4, jP g32), (5, jP g1), (6, jP g2), (8, jI x2.2), (9, jP g3), (10, .bool o0)] ∧ SL w [] w_ [Blk g3 226 [v1, v2], Sl Aeh v1 x2.1.takes, Gvc 214 203 204 47 v2 x2.1.gives, Blk g2 118 jZ, Blk g1 79 [jI a2.At, jU (a2.Op.toNat : Int), jI a2.A, jI a2.B], Blk g32 118 (jI a1.Locals :: jI a1.Height :: ev8 a1.Slots), Blk g0 110 [v0_0, v0_1, jI a0.Fn]]) ?_ ?_
 ·have H := H0
  refine gc 2 F rfl fun _ F => gld F sc m4 2 rfl fun _ F => bsp 36 F H (fun h7 H F => ?_) (fun h7 H F => ?_)
  ·cases H
   exact gw 6 F rfl fun _ F => ⟨F.sb, sc⟩
  refine gw 1 F rfl fun _ F => Afv F rfl rfl ?_
  cases H
  exact gld F sc m4 4 rfl fun _ F => ⟨F.sb, sc⟩
 intro _ wb hJ
 obtain ⟨F, sd⟩ := hJ
 have H := R0
 clear R0 H0
 obtain ⟨o1, H1, R1⟩ := Aa H
 clear H
 refine ge 2 F rfl fun _ F => At9 (fun a w_ => Fr a 101 [(3, jP g0), (4, jP g32), (5, jP g1), (6, jP g2), (8, jI o1), (9, jP g3)] ∧ SL w [] w_ [Blk g3 226 [v1, v2], Sl Aeh v1 x2.1.takes, Gvc 214 203 204 47 v2 x2.1.gives, Blk g2 118 jZ, Blk g1 79 [jI a2.At, jU (a2.Op.toNat : Int), jI a2.A, jI a2.B], Blk g32 118 (jI a1.Locals :: jI a1.Height :: ev8 a1.Slots), Blk g0 110 [v0_0, v0_1, jI a0.Fn]]) ?_ ?_
 ·have H := H1
  refine gc 5 F rfl fun _ F => bsp 43 F H (fun h8 H F => ?_) (fun h8 H F => ?_)
  ·refine gw 3 F rfl fun _ F => bsp 46 F H (fun h9 H F => ?_) (fun h9 H F => ?_)
   ·refine gw 1 F rfl fun _ F => Afv F rfl rfl <| gld F sd m4 2 rfl fun _ F => bsp 50 F H (fun ha H F => ?_) (fun ha H F => ?_)
    ·cases H
     exact gw 13 F rfl fun _ F => ⟨F.sb, sd⟩
    refine gw 1 F rfl fun _ F => Afv F rfl rfl <| gld F sd m4 1 rfl fun _ F => Afv F rfl rfl <| gld F sd m5 5 rfl fun _ F => gif F H 3 1 rfl rfl rfl (fun hb H _ F => ?_) (fun hb H _ F => ?_)
    ·cases H
     exact ⟨F.sb, sd⟩
    cases H
    exact ⟨F.sb, sd⟩
   cases H
   exact gw 15 F rfl fun _ F => ⟨F.sb, sd⟩
  cases H
  exact gw 18 F rfl fun _ F => ⟨F.sb, sd⟩
 intro _ wc hJ
 obtain ⟨F, se⟩ := hJ
 have H := R1
 clear R1 H1
 refine ge 8 F rfl fun _ F => gif F H 2 5 rfl rfl rfl (fun hc H _ F => ?_) (fun hc H _ F => ?_)
 ·refine gx F (Al (vs := []) Ajp ACi rfl (cs := jZ) (Ayf)) 1 rfl rfl fun _ F => ?_
  refine Akj (ds := jZ) F se.f3 rfl rfl (by simpa using Amy) (Ab rfl (Ab rfl (Ape _))) (by simp) fun wd _ F sf => ?_
  cases H
  refine gw 5 F rfl fun _ F => ?_
  refine Aj (rs := [.cell 6 118, .tmp 7]) (vs := [.agg ⟨jZ⟩, jI o1]) F (by rfl) ⟨_, _, rfl, Am sf m0 rfl Aoi (by simp), _, _, rfl, An rfl, rfl⟩ ⟨_, rfl, ⟨rfl, sf.drop.drop.drop.drop.drop.drop.drop⟩⟩
 obtain ⟨x3, hd, H⟩ := Aa H
 refine gld F se m6 0 rfl fun _ F => gla F se m5 1 rfl fun _ F => gld F se m0 0 rfl fun _ F => std F (Bpu (hr0_0.Ajq se) (se.rd0 m1) hd) fun v3 we _ he F => ?_
 obtain ⟨v4, rfl, hf⟩ := he
 have sg := se.add hf
 refine gw 14 F rfl fun _ F => gif F H 2 5 rfl rfl rfl (fun hg H _ F => ?_) (fun hg H _ F => ?_)
 ·refine gx F (Al (vs := []) Ajp ACi rfl (cs := jZ) (Ayf)) 1 rfl rfl fun _ F => ?_
  refine Akj (ds := jZ) F sg.f4 rfl rfl (by simpa using Amy) (Ab rfl (Ab rfl (Ape _))) (by simp) fun wf _ F sh => ?_
  cases H
  refine gw 5 F rfl fun _ F => ?_
  refine Aj (rs := [.cell 6 118, .tmp 7]) (vs := [.agg ⟨jZ⟩, jI x3.2]) F (by rfl) ⟨_, _, rfl, Am sh m0 rfl Aoi (by simp), _, _, rfl, An rfl, rfl⟩ ⟨_, rfl, ⟨rfl, sh.drop.drop.drop.drop.drop.drop.drop.drop⟩⟩
 obtain ⟨x4, hh, H⟩ := Aa H
 obtain ⟨G0, hi, hj, hk, hl⟩ := SL.open_ (ps := [Gvc 214 203 204 47 v2 x2.1.gives]) (rest := [Sl Ty.u8 v4 x3.1, Blk g3 226 [v1, v2], Sl Aeh v1 x2.1.takes, Blk g2 118 jZ, Blk g1 79 [jI a2.At, jU (a2.Op.toNat : Int), jI a2.A, jI a2.B], Blk g32 118 (jI a1.Locals :: jI a1.Height :: ev8 a1.Slots), Blk g0 110 [v0_0, v0_1, jI a0.Fn]]) sg.f3
 obtain ⟨f0, c0, hm, hn, ho⟩ := Bww hi (Boa m0 hk) hh
 refine gld F sg m1 1 rfl fun _ F => ?_
 refine ATb (args := [.tmp 77]) F hn (Eq.trans rfl (congrArg some hm)) rfl ho rfl fun v5 wg _ hp F => ?_
 have si := hl _ _ hp
 refine gw 7 F rfl fun _ F => gld F si m5 3 rfl fun _ F => gif F H 2 4 rfl rfl rfl (fun hq H _ F => ?_) (fun hq H _ F => ?_)
 ·obtain ⟨x5, hr, H⟩ := Aa H
  refine gla F si m6 1 rfl fun _ F => gld F si m5 0 rfl fun _ F => gca F si (Bgp hr) 14 rfl rfl rfl rfl fun wh _ F sj => gif F H 2 4 rfl rfl rfl (fun hs H _ F => ?_) (fun hs H _ F => ?_)
  ·refine gx F (Al (vs := []) Ajp ACi rfl (cs := jZ) (Ayf)) 0 rfl rfl fun _ F => ?_
   refine Akj (ds := jZ) F sj.f4 rfl rfl (by simpa using Amy) (Ab rfl (Ab rfl (Ape _))) (by simp) fun wi _ F sk => ?_
   cases H
   refine gw 6 F rfl fun _ F => ?_
   refine Aj (rs := [.cell 6 118, .tmp 7]) (vs := [.agg ⟨jZ⟩, jI 70]) F (by rfl) ⟨_, _, rfl, Am sk m0 rfl Aoi (by simp), _, _, rfl, An rfl, rfl⟩ ⟨_, rfl, ⟨rfl, sk.drop.drop.drop.drop.drop.drop.drop.drop⟩⟩
  refine Ae (parts := [(0, .tmp 92)]) Flat.u8 ([x5.1] : List UInt8) F sj Aqg rfl (by decide) rfl rfl rfl (by simp [Value.cells]) rfl rfl rfl fun v6 wj _ F sl => ?_
  obtain ⟨x6, ht, H⟩ := Aa H
  refine gw 5 F rfl fun _ F => gla F sl m7 0 rfl fun _ F => gld F sl m6 2 rfl fun _ F => gca F sl (Bgq (sl.rd0 m2) (sl.rd0 m0) ht) 2 rfl rfl rfl rfl fun wk _ F sm => ?_
  refine Akj (ds := (jI x6.1.Locals :: jI x6.1.Height :: ev8 x6.1.Slots)) F sm.f5 rfl rfl (by simpa using Amy) (Ab rfl (Ab rfl (Ape _))) (by simp) fun wl _ F sn => ?_
  cases H
  refine gw 4 F rfl fun _ F => ?_
  refine Aj (rs := [.cell 6 118, .tmp 7]) (vs := [.agg ⟨(jI x6.1.Locals :: jI x6.1.Height :: ev8 x6.1.Slots)⟩, jI x6.2]) F (by rfl) ⟨_, _, rfl, Am sn m0 rfl Aoi (by simp), _, _, rfl, An rfl, rfl⟩ ⟨_, rfl, ⟨rfl, sn.drop.drop.drop.drop.drop.drop.drop.drop.drop⟩⟩
 obtain ⟨x7, hu, H⟩ := Aa H
 refine gla F si m6 0 rfl fun _ F => gld F si m5 2 rfl fun _ F => gca F si (Bgq (si.rd0 m1) (si.rd0 m0) hu) 2 rfl rfl rfl rfl fun wm _ F so => ?_
 refine Akj (ds := (jI x7.1.Locals :: jI x7.1.Height :: ev8 x7.1.Slots)) F so.f4 rfl rfl (by simpa using Amy) (Ab rfl (Ab rfl (Ape _))) (by simp) fun wn _ F sp => ?_
 cases H
 refine gw 4 F rfl fun _ F => ?_
 refine Aj (rs := [.cell 6 118, .tmp 7]) (vs := [.agg ⟨(jI x7.1.Locals :: jI x7.1.Height :: ev8 x7.1.Slots)⟩, jI x7.2]) F (by rfl) ⟨_, _, rfl, Am sp m0 rfl Aoi (by simp), _, _, rfl, An rfl, rfl⟩ ⟨_, rfl, ⟨rfl, sp.drop.drop.drop.drop.drop.drop.drop.drop⟩⟩
theorem Bnj {w : World} {v0 : Value} {a0 : List Abi} {a1 : Aas} {a2 : Aas} {r : Int} (hr0 : Rd Aef w [] v0 a0) (H : Bao a0 a1 a2 = some r) :
    Calls prog 191 #[v0, .agg ⟨(jI a1.Locals :: jI a1.Height :: ev8 a1.Slots)⟩, .agg ⟨(jI a2.Locals :: jI a2.Height :: ev8 a2.Slots)⟩] w (Ret fun u_ w_ => u_ = jI r ∧ SL w [] w_ []) := by
 have s0 : SL w [] w [] := SL.Aq9 w
 refine cin func191 ntmps191 2 rfl rfl rfl fun _ F0 => ?_
 unfold Bao at H
 refine Ar F0 s0 rfl rfl rfl fun g0 w0 _ F s1 => Ar F s1 rfl rfl rfl fun g1 w1 _ F s2 => ?_
 obtain ⟨x0, h0, H⟩ := Aa H
 refine gw 6 F rfl fun _ F => gla F s2 m1 0 rfl fun _ F => gca F s2 (Bbt (hr0.Ajq s2) h0) 10 rfl rfl rfl rfl fun w2 _ F s3 => gif F H 2 8 rfl rfl rfl (fun h1 H _ F => ?_) (fun h1 H _ F => ?_)
 ·obtain ⟨x1, h2, H⟩ := Aa H
  refine gla F s3 m0 0 rfl fun _ F => gca F s3 (Bbt (hr0.Ajq s3) h2) 9 rfl rfl rfl rfl fun w3 _ F s4 => bsp 18 F H (fun h3 H F => ?_) (fun h3 H F => ?_)
  ·refine gw 1 F rfl fun _ F => Afv F rfl rfl <| gld F s4 m1 1 rfl fun _ F => Afv F rfl rfl <| gld F s4 m0 2 rfl fun _ F => bsp 24 F H (fun h4 H F => ?_) (fun h4 H F => ?_)
   ·cases H
    exact gw 21 F rfl fun _ F => rt F ⟨rfl, s4.drop.drop⟩
   refine gw 1 F rfl fun _ F => Afv F rfl rfl <| gld F s4 m1 1 rfl fun _ F => Afv F rfl rfl <| gld F s4 m0 5 rfl fun _ F => gif F H 11 9 rfl rfl rfl (fun h5 H _ F => ?_) (fun h5 H _ F => ?_)
   ·cases H
    exact rt F ⟨rfl, s4.drop.drop⟩
   cases H
   exact rt F ⟨rfl, s4.drop.drop⟩
  cases H
  exact gw 25 F rfl fun _ F => rt F ⟨rfl, s4.drop.drop⟩
 cases H
 exact gw 25 (F.kf (d := 18) h1) rfl fun _ F => rt F ⟨rfl, s3.drop.drop⟩
theorem Bjb {w : World} {FF : List Nat} {g1 g2 g3 : Nat} {v1_0 : Value} {a0 : Int} {a1 : List Abi} {a2 : Int} {a3 : UInt8} {r : Bool × UInt8} (hst : Aru [Blk g1 22 [v1_0], Blk g2 3 [jI a2], Blk g3 48 [jU (a3.toNat : Int)]] w FF) (hr1_0 : Rd Aef w FF v1_0 a1) (H : AXx a0 a1 a2 a3 = some r) :
    Calls prog 212 #[jI a0, jP g1, jP g2, jP g3] w (Ret fun u_ w_ => u_ = .bool r.1 ∧ SL w FF w_ [Blk g1 22 [v1_0], Blk g2 3 [jI a2], Blk g3 48 [jU (r.2.toNat : Int)]]) := by
 have s0 : SL w FF w [Blk g1 22 [v1_0], Blk g2 3 [jI a2], Blk g3 48 [jU (a3.toNat : Int)]] := SL.init w FF hst
 refine cin func212 ntmps212 8 rfl rfl rfl fun _ F2 => ?_
 unfold AXx at H
 obtain ⟨x0, h0, H⟩ := Aa H
 refine gld F2 s0 m0 0 rfl fun _ F => gld F s0 m1 1 rfl fun _ F => gca F s0 (Bgt (hr1_0.Ajq s0) h0) 2 rfl rfl rfl rfl fun w0 _ F s1 => gif F H 3 8 rfl rfl rfl (fun h1 H _ F => ?_) (fun h1 H _ F => ?_)
 ·refine gx F (Bh2 rfl underlying3 underlying48) 0 rfl rfl fun _ F => gx F (Biu rfl rfl) 0 rfl rfl fun _ F => Ay F s1.f2 rfl rfl AWk rfl rfl rfl fun w1 _ F s2 => ?_
  cases H
  exact gw 9 F rfl fun _ F => rt F ⟨rfl, s2.f2.f2⟩
 cases H
 exact rt F ⟨rfl, s1⟩
theorem Bdt {w : World} {FF : List Nat} {g0 g1 g2 : Nat} {v0 v300_0 : Value} {a0 : List Abi} {a1 : Int} {a300 : List Abi} {a301 : Int} {a302 : UInt8} {r : UInt8} (hst : Aru [Blk g0 22 [v300_0], Blk g1 3 [jI a301], Blk g2 48 [jU (a302.toNat : Int)]] w FF) (hr0 : Rd Aef w FF v0 a0) (hr300_0 : Rd Aef w FF v300_0 a300) (H : ARy a0 a1 a300 a301 a302 = some r) :
    Calls prog 99 #[v0, jI a1, clo 212 [jP g0, jP g1, jP g2]] w (Ret fun u_ w_ => u_ = .tuple ⟨[]⟩ ∧ SL w FF w_ [Blk g0 22 [v300_0], Blk g1 3 [jI a301], Blk g2 48 [jU (r.toNat : Int)]]) := by
 have s0 : SL w FF w [Blk g0 22 [v300_0], Blk g1 3 [jI a301], Blk g2 48 [jU (a302.toNat : Int)]] := SL.init w FF hst
 refine cin func99 ntmps99 0 rfl rfl rfl fun _ F0 => ?_
 unfold ARy at H
 obtain ⟨o0, H0, R0⟩ := Aa H
 clear H
 refine At9 (fun a w_ => ∃ p0 : UInt8, o0 = .inr (p0) ∧ Fr a 29 [] ∧ SL w FF w_ [Blk g0 22 [v300_0], Blk g1 3 [jI a301], Blk g2 48 [jU (p0.toNat : Int)]]) ?_ ?_
 ·have H := H0
  refine gc 1 F0 rfl fun _ F0 => lpk (AN9 a0 a300 a301) (fun s1 a w_ => Fr a 29 [(0, v0), (1, jI s1.2), (2, clo 212 [jP g0, jP g1, jP g2])] ∧ SL w FF w_ [Blk g0 22 [v300_0], Blk g1 3 [jI a301], Blk g2 48 [jU (s1.1.toNat : Int)]]) H ?_ ?_
  ·exact ⟨F0.sb, s0⟩
  intro s1 _ w0 h0 o1 H hr
  obtain ⟨F, s2⟩ := h0
  replace H : AN9 a0 a300 a301 s1 = some o1 := H
  unfold AN9 at H
  refine gc 6 F rfl fun _ F => bsp 9 F H (fun h1 H F => ?_) (fun h1 H F => ?_)
  ·refine gw 2 F rfl fun _ F => Afv F rfl rfl <| gx F (Ak rfl underlying22 (fR hr0 s2)) 3 rfl rfl fun _ F => bsp 15 F H (fun h2 H F => ?_) (fun h2 H F => ?_)
   ·obtain ⟨x0, h3, H⟩ := Aa H
    refine gw 2 F rfl fun _ F => Afv F rfl rfl ?_
    obtain ⟨G0, h4, h5, h6, h7⟩ := SL.open_ (ps := [Blk g0 22 [v300_0], Blk g1 3 [jI a301], Blk g2 48 [jU (s1.1.toNat : Int)]]) (rest := []) s2.f2.f2.f2
    refine ATb (args := [.tmp 17]) F Bx1 rfl rfl (Bjb (a0 := s1.2) (a1 := a300) (a2 := a301) (a3 := s1.1) h4 (hr300_0.pass s2.f2.f2.f2 h5) h3) rfl fun v1 w1 _ h8 F => ?_
    obtain ⟨rfl, h9⟩ := h8
    have s3 := h7 _ _ h9
    refine gw 3 F rfl fun _ F => gif F H 5 4 rfl rfl rfl (fun ha H _ F => ?_) (fun ha H _ F => ?_)
    ·obtain ⟨x1, hb, H⟩ := Aa H
     obtain ⟨a4, c0, G1, hc, hd, he, hf⟩ := Rd.idx hr0 AOf rfl hb
     obtain ⟨v2, rfl, hg⟩ := (ALt he hf)
     replace hd := hd _ _ s3
     refine gw 2 F rfl fun _ F => gi F hc 0 rfl fun _ F => gx F (Ba ATe rfl) 0 rfl rfl fun _ F => gx F (Ao AAd rfl (Aqa.at_ hd (o := 1) rfl)) 11 rfl rfl fun _ F => gif F H 6 7 rfl rfl rfl (fun hh H _ F => ?_) (fun hh H _ F => ?_)
     ·cases H
      obtain rfl := hr _ rfl
      replace H := R0
      try dsimp only at H
      cases H
      exact rt F ⟨rfl, s3⟩
     cases H
     exact ⟨_, rfl, F.sb, s3⟩
    cases H
    obtain rfl := hr _ rfl
    exact ⟨_, rfl, F.sb, s3⟩
   cases H
   obtain rfl := hr _ rfl
   exact gw 11 F rfl fun _ F => ⟨_, rfl, F.sb, s2⟩
  cases H
  obtain rfl := hr _ rfl
  exact gw 17 F rfl fun _ F => ⟨_, rfl, F.sb, s2⟩
 intro _ w2 hJ
 obtain ⟨p0, rfl, F, s4⟩ := hJ
 have H := R0
 clear R0 H0
 try dsimp only at H
 cases H
 exact Bi2 F (by rfl) ⟨_, rfl, ⟨rfl, s4⟩⟩
theorem Bo2 {w : World} {v0 : Value} {a0 : List Abi} {a1 : UInt8} {a2 : UInt8} {r : UInt8} (hr0 : Rd Aef w [] v0 a0) (H : AZm a0 a1 a2 = some r) :
    Calls prog 192 #[v0, jU (a1.toNat : Int), jU (a2.toNat : Int)] w (Ret fun u_ w_ => u_ = jU (r.toNat : Int) ∧ SL w [] w_ []) := by
 have s0 : SL w [] w [] := SL.Aq9 w
 refine cin func192 ntmps192 2 rfl rfl rfl fun _ F0 => ?_
 unfold AZm at H
 refine Ar F0 s0 rfl (Ag (fR hr0 s0)) rfl fun g8 w9 _ F s1 => ?_
 obtain ⟨x0, h0, H⟩ := Aa H
 refine gw 7 F rfl fun _ F => gld F s1 m0 1 rfl fun _ F => gca F s1 (ASx (hr0.Ajq s1) h0) 2 rfl rfl rfl rfl fun w0 _ F s2 => bsp 15 F H (fun h1 H F => ?_) (fun h1 H F => ?_)
 ·cases H
  exact gw 17 F rfl fun _ F => rt F ⟨rfl, s2.drop⟩
 refine Afv F rfl rfl ?_
 obtain ⟨x1, h2, H⟩ := Aa H
 refine gld F s2 m0 1 rfl fun _ F => Afv F rfl rfl <| gca F s2 (ASx (hr0.Ajq s2) h2) 5 rfl rfl rfl rfl fun w1 _ F s3 => gif F H 8 2 rfl rfl rfl (fun h3 H _ F => ?_) (fun h3 H _ F => ?_)
 ·cases H
  exact rt F ⟨rfl, s3.drop⟩
 obtain ⟨x2, h4, H⟩ := Aa H
 refine gld F s3 m0 2 rfl fun _ F => gca F s3 (Bem (hr0.Ajq s3) h4) 3 rfl rfl rfl rfl fun w2 _ F s4 => gif F H 9 2 rfl rfl rfl (fun h5 H _ F => ?_) (fun h5 H _ F => ?_)
 ·cases H
  exact rt F ⟨rfl, s4.drop⟩
 obtain ⟨x3, h6, H⟩ := Aa H
 refine gld F s4 m0 2 rfl fun _ F => gca F s4 (Bem (hr0.Ajq s4) h6) 3 rfl rfl rfl rfl fun w3 _ F s5 => gif F H 9 3 rfl rfl rfl (fun h7 H _ F => ?_) (fun h7 H _ F => ?_)
 ·cases H
  exact rt F ⟨rfl, s5.drop⟩
 obtain ⟨x4, h8, H⟩ := Aa H
 refine gca F s5 (AT8 h8) 2 rfl rfl rfl rfl fun w4 _ F s6 => bsp 37 F H (fun h9 H F => ?_) (fun h9 H F => ?_)
 ·cases H
  exact gw 16 F rfl fun _ F => rt F ⟨rfl, s6.drop⟩
 obtain ⟨x5, ha, H⟩ := Aa H
 refine gw 1 F rfl fun _ F => Afv F rfl rfl <| gca F s6 (AT8 ha) 5 rfl rfl rfl rfl fun w5 _ F s7 => gif F H 8 5 rfl rfl rfl (fun hb H _ F => ?_) (fun hb H _ F => ?_)
 ·cases H
  exact rt F ⟨rfl, s7.drop⟩
 refine Af F s7 Buh rfl rfl fun g0 w6 _ F s8 => Ay F s8 rfl rfl AWk rfl rfl rfl fun w7 _ F s9 => ?_
 obtain ⟨x6, hc, H⟩ := Aa H
 obtain ⟨x7, hd, H⟩ := Aa H
 refine gw 3 F rfl fun _ F => AJp Aq8 s9 ?_
 refine hq [0, 1, 3, 4] F s9.drew (QI.ld m1 rfl <| QI.ev 1 rfl <| QI.ld m1 rfl <| QI.ev 1 rfl <| QI.nil) (by kernel_rfl) fun _ F => ?_
 refine ANb [0, 1, 2, 3, 4, 5, 6] (fun a w_ => ∃ g1 : Nat, Fr a 59 [(3, jP g8), (7, jP g0), (9, jP g1), (44, jI x6), (47, jI x7)] ∧ SL w [] w_ [Blk g0 48 [jU 5], Blk g8 22 [v0], Blk g1 3 [jI 0]]) ?_ fun hD0 => ?_
 ·rintro a w_ ⟨g1, F, sa⟩
  refine hq [7] F sa.f2.drop (QI.ev 1 rfl <| QI.nil) (by kernel_rfl) fun _ F => ?_
  refine ho 8 rfl (by kernel_rfl) ?_
  refine Ay F sa.f2 rfl rfl AYu rfl rfl rfl fun w8 _ F sc => gw 1 F rfl fun _ F => ⟨sc.drop, ?_⟩
  refine ANu (by kernel_rfl) ?_
  refine ge 7 F rfl fun _ F => bsp 50 F H (fun he H F => ?_) (fun he H F => ?_)
  ·refine Afv F rfl rfl <| gld F sc m0 4 rfl fun _ F => gif F H 1 4 rfl rfl rfl (fun hf H _ F => ?_) (fun hf H _ F => ?_)
   ·obtain ⟨x8, hg, H⟩ := Aa H
    refine gld F sc m2 1 rfl fun _ F => gx F (AR9 (cs := [.tmp 3, .tmp 9, .tmp 7]) (vs := [jP g8, jP g1, jP g0]) rfl) 0 rfl rfl fun _ F => ?_
    have sd := sc.f1.f1.f2
    obtain ⟨G0, hh, hi, hj, hk⟩ := SL.open_ (ps := [Blk g8 22 [v0], Blk g1 3 [jI x7], Blk g0 48 [jU 5]]) (rest := []) sd
    refine std F (Bdt (a300 := a0) (a301 := x7) (a302 := 5) hh (hr0.pass sd hi) (hr0.pass sd hi) hg) fun v1 wa _ hl F => ?_
    obtain ⟨rfl, hm⟩ := hl
    have se := hk _ _ hm
    refine gw 4 F rfl fun _ F => ?_
    cases H
    exact gld F se m2 4 rfl fun _ F => rt F ⟨rfl, se.drop.drop.drop⟩
   cases H
   exact gld F sc m1 4 rfl fun _ F => rt F ⟨rfl, sc.drop.drop.drop⟩
  refine gw 10 F rfl fun _ F => ?_
  cases H
  exact gld F sc m1 4 rfl fun _ F => rt F ⟨rfl, sc.drop.drop.drop⟩
 refine ANb [0, 1, 2, 3, 4, 6] (fun a w_ => ∃ g1 : Nat, Fr a 59 [(3, jP g8), (7, jP g0), (9, jP g1), (44, jI x6), (45, v0), (46, jU (a2.toNat : Int))] ∧ SL w [] w_ [Blk g0 48 [jU 5], Blk g8 22 [v0], Blk g1 3 [jI 0]]) ?_ fun hD1 => ?_
 ·rintro a w_ ⟨g1, F, sf⟩
  refine ho 5 rfl (by kernel_rfl) ?_
  exact gca F sf (ASy (hr0.Ajq sf) hd) 1 rfl rfl rfl rfl fun wb _ F sg => ⟨sg.f2.drop, hto hD0 ⟨g1, F.sb, sg⟩ (by kernel_rfl)⟩
 refine ho2 2 6 rfl rfl (by kernel_rfl) ?_ ?_
 ·refine gca F s9.drew (ASy (hr0.Ajq s9.drew) hc) 1 rfl rfl rfl rfl fun wc _ F sh => ⟨sh, ?_⟩
  refine ho2 5 6 rfl rfl (by kernel_rfl) ?_ ?_
  ·refine gca F sh (ASy (hr0.Ajq sh) hd) 1 rfl rfl rfl rfl fun wb _ F sg => ⟨sg, ?_⟩
   refine ho 6 rfl (by kernel_rfl) ?_
   exact Af F sg AP6 rfl rfl fun g1 wd _ F si => gw 1 F rfl fun _ F => ⟨si.drop, hto hD0 ⟨g1, F.sb, si.f2.f2⟩ (by kernel_rfl)⟩
  exact Af F sh AP6 rfl rfl fun g1 wd _ F si => gw 1 F rfl fun _ F => ⟨si.drop, hto hD1 ⟨g1, F.sb, si.f2.f2⟩ (by kernel_rfl)⟩
 refine Af F s9.drew AP6 rfl rfl fun g1 wd _ F si => gw 1 F rfl fun _ F => ⟨si.drop, ?_⟩
 refine ho 2 rfl (by kernel_rfl) ?_
 exact gca F si (ASy (hr0.Ajq si) hc) 1 rfl rfl rfl rfl fun wc _ F sh => ⟨sh.drop, hto hD1 ⟨g1, F.sb, sh.f2.f2⟩ (by kernel_rfl)⟩
theorem Be2 {w : World} {v0 : Value} {a0 : List Abi} {a1 : Aas} {a2 : Aas} {r : Aas × Int} (hr0 : Rd Aef w [] v0 a0) (H : AX1 a0 a1 a2 = some r) :
    Calls prog 165 #[v0, .agg ⟨(jI a1.Locals :: jI a1.Height :: ev8 a1.Slots)⟩, .agg ⟨(jI a2.Locals :: jI a2.Height :: ev8 a2.Slots)⟩] w (Ret fun u_ w_ => u_ = .tuple ⟨[.agg ⟨(jI r.1.Locals :: jI r.1.Height :: ev8 r.1.Slots)⟩, jI r.2]⟩ ∧ SL w [] w_ []) := by
 have s0 : SL w [] w [] := SL.Aq9 w
 refine cin func165 ntmps165 2 rfl rfl rfl fun _ F0 => ?_
 unfold AX1 at H
 refine Ar F0 s0 rfl rfl rfl fun g0 w0 _ F s1 => Ar F s1 rfl rfl rfl fun g1 w1 _ F s2 => Af F s2 Ajp rfl rfl fun g32 w2 _ F s3 => ?_
 obtain ⟨x0, h0, H⟩ := Aa H
 refine gw 6 F rfl fun _ F => gla F s3 m2 0 rfl fun _ F => gla F s3 m1 0 rfl fun _ F => gca F s3 (Bnj (hr0.Ajq s3) h0) 10 rfl rfl rfl rfl fun w3 _ F s4 => gif F H 2 6 rfl rfl rfl (fun h1 H _ F => ?_) (fun h1 H _ F => ?_)
 ·refine gx F (Al (vs := []) Ajp ACi rfl (cs := jZ) (Ayf)) 1 rfl rfl fun _ F => ?_
  refine Akj (ds := jZ) F s4 rfl rfl (by simpa using Amy) (Ab rfl (Ab rfl (Ape _))) (by simp) fun w4 _ F s5 => ?_
  cases H
  refine gw 5 F rfl fun _ F => ?_
  refine Aj (rs := [.cell 6 118, .tmp 7]) (vs := [.agg ⟨jZ⟩, jI x0]) F (by rfl) ⟨_, _, rfl, Am s5 m0 rfl Aoi (by simp), _, _, rfl, An rfl, rfl⟩ ⟨_, rfl, ⟨rfl, s5.drop.drop.drop⟩⟩
 refine gld F s4 m2 1 rfl fun _ F => ?_
 obtain ⟨o0, H0, R0⟩ := Aa H
 clear H
 refine gld F s4 m2 4 rfl fun _ F => At9 (fun a w_ => Fr a 41 [(4, jP g0), (6, jP g32)] ∧ SL w [] w_ [Blk g32 118 jZ, Blk g0 118 (jI a1.Locals :: jI a1.Height :: ev8 o0)]) ?_ ?_
 ·have H := H0
  refine gc 1 F rfl fun _ F => lpk (ATw a0 a1 a2) (fun s6 a w_ => Fr a 41 [(0, v0), (4, jP g0), (5, jP g1), (6, jP g32), (22, jI (wr (a1.Locals + a1.Height))), (23, jI s6.2)] ∧ SL w [] w_ [Blk g32 118 jZ, Blk g1 118 (jI a2.Locals :: jI a2.Height :: ev8 a2.Slots), Blk g0 118 (jI a1.Locals :: jI a1.Height :: ev8 s6.1)]) H ?_ ?_
  ·exact ⟨F.sb, s4⟩
  intro s6 _ w5 h2 o1 H hr
  obtain ⟨F, s7⟩ := h2
  replace H : ATw a0 a1 a2 s6 = some o1 := H
  unfold ATw at H
  refine gc 6 F rfl fun _ F => gif F H 10 4 rfl rfl rfl (fun h3 H _ F => ?_) (fun h3 H _ F => ?_)
  ·obtain ⟨x1, h4, H⟩ := Aa H
   obtain ⟨x2, h5, H⟩ := Aa H
   obtain ⟨x3, h6, H⟩ := Aa H
   obtain ⟨x4, h7, H⟩ := Aa H
   refine AJp Aq8 s7.f2.drop ?_
   have s8 := s7.drew
   refine hq [0, 1, 2, 3, 6, 7, 8, 9, 11] F s8.f2.drop (QI.ev 6 rfl <| QI.op rfl (fun _ hC => AO6 ANo h5 rfl rfl) rfl <| QI.op rfl (fun _ hC => Ao Aw9 rfl (SL.AT9 (pre := [jI a2.Locals, jI a2.Height]) hC m1 rfl h5)) rfl <| QI.ev 1 rfl <| QI.nil) (by kernel_rfl) fun _ F => ?_
   refine ho 4 rfl (by kernel_rfl) ?_
   refine gx F (AO6 ANo h4 rfl rfl) 1 rfl rfl fun _ F => ⟨s8.f2.drop, ?_⟩
   refine ho 5 rfl (by kernel_rfl) ?_
   refine gx F (Ao Aw9 rfl (SL.AT9 (pre := [jI a1.Locals, jI a1.Height]) s8 m2 rfl h4)) 1 rfl rfl fun _ F => ⟨s8.f2.drop, ?_⟩
   refine ho 10 rfl (by kernel_rfl) ?_
   refine gca F s8 (Bo2 (hr0.Ajq s8) h6) 1 rfl rfl rfl rfl fun w6 _ F s9 => ⟨s9.f2.drop, ?_⟩
   refine ho 12 rfl (by kernel_rfl) ?_
   refine gx F (AO6 ANo h7 rfl rfl) 1 rfl rfl fun _ F => ⟨s9.f2.drop, ?_⟩
   refine ho 13 rfl (by kernel_rfl) ?_
   refine AVw (y' := x3) (pre := [jI a1.Locals, jI a1.Height]) F s9.f2 rfl h7 rfl rfl AWk fun w7 _ F sa => gw 1 F rfl fun _ F => ⟨sa.drop, ?_⟩
   refine ANu (by kernel_rfl) ?_
   cases H
   exact ge 6 F rfl fun _ F => ⟨_, rfl, F.sb, sa.f2.f2⟩
  cases H
  obtain rfl := hr _ rfl
  exact ⟨F.sb, s7.f1.drop⟩
 intro _ w8 hJ
 obtain ⟨F, sc⟩ := hJ
 have H := R0
 clear R0 H0
 refine ge 3 F rfl fun _ F => gla F sc m1 0 rfl fun _ F => ?_
 refine Akj (ds := (jI a1.Locals :: jI a1.Height :: ev8 o0)) F sc rfl rfl (by simpa using Amy) (Ab rfl (Ab rfl (Ape _))) (by simp) fun w9 _ F sd => ?_
 cases H
 refine gw 4 F rfl fun _ F => ?_
 refine Aj (rs := [.cell 6 118, .tmp 7]) (vs := [.agg ⟨(jI a1.Locals :: jI a1.Height :: ev8 o0)⟩, jI 0]) F (by rfl) ⟨_, _, rfl, Am sd m0 rfl Aoi (by simp), _, _, rfl, An rfl, rfl⟩ ⟨_, rfl, ⟨rfl, sd.drop.drop⟩⟩
theorem Beh {w : World} {FF : List Nat} {g0 g0_4 g0_5 g0_6 : Nat} {v0_0 v0_1 v0_3 : Value} {a0 : Ald} {a1 : Int} {a2 : Aas} {r : Int × Ald} (hst : Aru [Blk g0 154 [v0_0, v0_1, jI a0.e.Fn, v0_3, .map (some g0_4), .map (some g0_5), .map (some g0_6), jI a0.A3i], Mp (Value.int .i64) (fun x : Aas => Value.agg ⟨(jI x.Locals :: jI x.Height :: ev8 x.Slots)⟩) g0_4 a0.frames, Mp (Value.int .i64) (fun _ : Unit => Value.agg ⟨[]⟩) g0_5 a0.fresh, Mp (Value.int .i64) (Value.int .i64) g0_6 a0.taken] w FF) (hr0_0 : Rd Aef w FF v0_0 a0.e.Classes) (hr0_1 : Rd Ate w FF v0_1 a0.e.Akq) (hr0_3 : Rd Ty.u8 w FF v0_3 a0.code) (H : ASo a0 a1 a2 = some r) :
    Calls prog 135 #[jP g0, jI a1, .agg ⟨(jI a2.Locals :: jI a2.Height :: ev8 a2.Slots)⟩] w (Ret fun u_ w_ => ∃ u0 u1 u2 : Value, u_ = jI r.1 ∧ A3a Aef v0_0 a0.e.Classes u0 r.2.e.Classes ∧ A3a Ate v0_1 a0.e.Akq u1 r.2.e.Akq ∧ A3a Ty.u8 v0_3 a0.code u2 r.2.code ∧ SL w FF w_ [Blk g0 154 [u0, u1, jI r.2.e.Fn, u2, .map (some g0_4), .map (some g0_5), .map (some g0_6), jI r.2.A3i], Mp (Value.int .i64) (fun x : Aas => Value.agg ⟨(jI x.Locals :: jI x.Height :: ev8 x.Slots)⟩) g0_4 r.2.frames, Mp (Value.int .i64) (fun _ : Unit => Value.agg ⟨[]⟩) g0_5 r.2.fresh, Mp (Value.int .i64) (Value.int .i64) g0_6 r.2.taken]) := by
 have s0 : SL w FF w [Blk g0 154 [v0_0, v0_1, jI a0.e.Fn, v0_3, .map (some g0_4), .map (some g0_5), .map (some g0_6), jI a0.A3i], Mp (Value.int .i64) (fun x : Aas => Value.agg ⟨(jI x.Locals :: jI x.Height :: ev8 x.Slots)⟩) g0_4 a0.frames, Mp (Value.int .i64) (fun _ : Unit => Value.agg ⟨[]⟩) g0_5 a0.fresh, Mp (Value.int .i64) (Value.int .i64) g0_6 a0.taken] := SL.init w FF hst
 refine cin func135 ntmps135 2 rfl rfl rfl fun _ F0 => ?_
 unfold ASo at H
 refine Ar F0 s0 rfl rfl rfl fun g8 w9 _ F s1 => gw 8 F rfl fun _ F => gld F s1 m1 1 rfl fun _ F => gx F (Blv (k := a1) (z0 := (⟨(0 : Int), (0 : Int), (Vector.replicate 24 (0 : UInt8))⟩ : Aas)) s1 m2 underlying150 AUo Bkt rfl rfl) 3 rfl rfl fun _ F => Af F s1 Ajp rfl rfl fun g1 w0 _ F s2 => ?_
 refine Akj (ds := (jI (((A92 a0.frames a1).getD (⟨(0 : Int), (0 : Int), (Vector.replicate 24 (0 : UInt8))⟩ : Aas)).Locals) :: jI (((A92 a0.frames a1).getD (⟨(0 : Int), (0 : Int), (Vector.replicate 24 (0 : UInt8))⟩ : Aas)).Height) :: ev8 (((A92 a0.frames a1).getD (⟨(0 : Int), (0 : Int), (Vector.replicate 24 (0 : UInt8))⟩ : Aas)).Slots))) F s2 rfl rfl (by simpa using Amy) (Ab rfl (Ab rfl (Ape _))) (by simp) fun w1 _ F s3 => ?_
 obtain ⟨o0, H0, R0⟩ := Aa H
 clear H
 refine gw 4 F rfl fun _ F => At9 (fun a w_ => ∃ p0 : Int × Int × (Vector UInt8 24), o0 = .inr (p0) ∧ Fr a 59 [(0, jP g0), (1, jI a1), (5, jP g8), (7, jP g1), (8, .bool ((A92 a0.frames a1).isSome))] ∧ SL w FF w_ [Blk g8 118 (jI p0.1 :: jI p0.2.1 :: ev8 p0.2.2), Blk g1 118 (jI (((A92 a0.frames a1).getD (⟨(0 : Int), (0 : Int), (Vector.replicate 24 (0 : UInt8))⟩ : Aas)).Locals) :: jI (((A92 a0.frames a1).getD (⟨(0 : Int), (0 : Int), (Vector.replicate 24 (0 : UInt8))⟩ : Aas)).Height) :: ev8 (((A92 a0.frames a1).getD (⟨(0 : Int), (0 : Int), (Vector.replicate 24 (0 : UInt8))⟩ : Aas)).Slots)), Blk g0 154 [v0_0, v0_1, jI a0.e.Fn, v0_3, .map (some g0_4), .map (some g0_5), .map (some g0_6), jI a0.A3i], Mp (Value.int .i64) (fun x : Aas => Value.agg ⟨(jI x.Locals :: jI x.Height :: ev8 x.Slots)⟩) g0_4 a0.frames, Mp (Value.int .i64) (fun _ : Unit => Value.agg ⟨[]⟩) g0_5 a0.fresh, Mp (Value.int .i64) (Value.int .i64) g0_6 a0.taken]) ?_ ?_
 ·have H := H0
  refine gc 5 F rfl fun _ F => gif F H 1 1 rfl rfl rfl (fun h0 H _ F => ?_) (fun h0 H _ F => ?_)
  ·obtain ⟨x0, h1, H⟩ := Aa H
   refine AJp Aq8 s3 ?_
   refine hq [0, 1, 2, 3, 4, 5, 6] F s3.drew (QI.ev 4 rfl <| QI.ld m2 rfl <| QI.op rfl (fun _ hC => Aw Aoi rfl (hC.ANx m0 (o := 0) (ds := (jI (((A92 a0.frames a1).getD (⟨(0 : Int), (0 : Int), (Vector.replicate 24 (0 : UInt8))⟩ : Aas)).Locals) :: jI (((A92 a0.frames a1).getD (⟨(0 : Int), (0 : Int), (Vector.replicate 24 (0 : UInt8))⟩ : Aas)).Height) :: ev8 (((A92 a0.frames a1).getD (⟨(0 : Int), (0 : Int), (Vector.replicate 24 (0 : UInt8))⟩ : Aas)).Slots))) (ATv (pre := []) rfl rfl)) (by simp)) rfl <| QI.op rfl (fun _ hC => Aw Aoi rfl (hC.ANx m1 (o := 0) (ds := (jI a2.Locals :: jI a2.Height :: ev8 a2.Slots)) (ATv (pre := []) rfl rfl)) (by simp)) rfl <| QI.nil) (by kernel_rfl) fun _ F => ?_
   refine ANb [0, 1, 2, 3, 4, 5, 6, 7, 8, 9, 10, 11, 12] (fun a w_ => ∃ g2 : Nat, Fr a 59 [(0, jP g0), (1, jI a1), (5, jP g8), (7, jP g1), (8, .bool ((A92 a0.frames a1).isSome)), (9, jP g2), (31, jI x0.2)] ∧ SL w FF w_ [Blk g1 118 (jI (((A92 a0.frames a1).getD (⟨(0 : Int), (0 : Int), (Vector.replicate 24 (0 : UInt8))⟩ : Aas)).Locals) :: jI (((A92 a0.frames a1).getD (⟨(0 : Int), (0 : Int), (Vector.replicate 24 (0 : UInt8))⟩ : Aas)).Height) :: ev8 (((A92 a0.frames a1).getD (⟨(0 : Int), (0 : Int), (Vector.replicate 24 (0 : UInt8))⟩ : Aas)).Slots)), Blk g8 118 (jI a2.Locals :: jI a2.Height :: ev8 a2.Slots), Blk g0 154 [v0_0, v0_1, jI a0.e.Fn, v0_3, .map (some g0_4), .map (some g0_5), .map (some g0_6), jI a0.A3i], Mp (Value.int .i64) (fun x : Aas => Value.agg ⟨(jI x.Locals :: jI x.Height :: ev8 x.Slots)⟩) g0_4 a0.frames, Mp (Value.int .i64) (fun _ : Unit => Value.agg ⟨[]⟩) g0_5 a0.fresh, Mp (Value.int .i64) (Value.int .i64) g0_6 a0.taken, Blk g2 118 (jI x0.1.Locals :: jI x0.1.Height :: ev8 x0.1.Slots)]) ?_ fun hD0 => ?_
   ·rintro a w_ ⟨g2, F, s4⟩
    refine hq [13] F s4.f6.drop (QI.ev 1 rfl <| QI.nil) (by kernel_rfl) fun _ F => ?_
    refine ANu (by kernel_rfl) ?_
    refine ge 8 F rfl fun _ F => gif F H 6 3 rfl rfl rfl (fun h2 H _ F => ?_) (fun h2 H _ F => ?_)
    ·refine Ay F s4.f2 rfl rfl AYu rfl rfl rfl fun w2 _ F s5 => ?_
     cases H
     replace H := R0
     try dsimp only at H
     cases H
     exact gw 12 F rfl fun _ F => rt F ⟨v0_0, v0_1, v0_3, rfl, A3a.refl, A3a.refl, A3a.refl, s5.f1.drop.f1.drop.f4.drop⟩
    refine gla F s4 m6 0 rfl fun _ F => ?_
    refine Akj (ds := (jI x0.1.Locals :: jI x0.1.Height :: ev8 x0.1.Slots)) F s4.f1 rfl rfl (by simpa using Amy) (Ab rfl (Ab rfl (Ape _))) (by simp) fun w3 _ F s6 => ?_
    cases H
    exact gw 1 F rfl fun _ F => ⟨_, rfl, F.sb, s6.f6.drop⟩
   refine ho2 7 11 rfl rfl (by kernel_rfl) ?_ ?_
   ·refine gca F s3.drew (Be2 (hr0_0.Ajq s3.drew) h1) 1 rfl rfl rfl rfl fun w4 _ F s7 => ⟨s7, ?_⟩
    refine hq [8, 9, 10] F s7 (QI.ev 3 rfl <| QI.nil) (by kernel_rfl) fun _ F => ?_
    refine ho 11 rfl (by kernel_rfl) ?_
    refine Af F s7 Ajp rfl rfl fun g2 w5 _ F s8 => gw 1 F rfl fun _ F => ⟨s8.drop, ?_⟩
    refine ho 12 rfl (by kernel_rfl) ?_
    refine Akj (ds := (jI x0.1.Locals :: jI x0.1.Height :: ev8 x0.1.Slots)) F s8 rfl rfl (by simpa using Amy) (Ab rfl (Ab rfl (Ape _))) (by simp) fun w6 _ F s9 => ?_
    exact gw 1 F rfl fun _ F => ⟨s9.drop, hto hD0 ⟨g2, F.sb, s9.f6.f6.f6.f6.f6.f6⟩ (by kernel_rfl)⟩
   refine Af F s3.drew Ajp rfl rfl fun g2 w5 _ F s8 => gw 1 F rfl fun _ F => ⟨s8.drop, ?_⟩
   refine ho 7 rfl (by kernel_rfl) ?_
   refine gca F s8 (Be2 (hr0_0.Ajq s8) h1) 1 rfl rfl rfl rfl fun w4 _ F s7 => ⟨s7.drop, ?_⟩
   refine hq [8, 9, 10] F s7.drop (QI.ev 3 rfl <| QI.nil) (by kernel_rfl) fun _ F => ?_
   refine ho 12 rfl (by kernel_rfl) ?_
   refine Akj (ds := (jI x0.1.Locals :: jI x0.1.Height :: ev8 x0.1.Slots)) F s7 rfl rfl (by simpa using Amy) (Ab rfl (Ab rfl (Ape _))) (by simp) fun w6 _ F s9 => ?_
   exact gw 1 F rfl fun _ F => ⟨s9.drop, hto hD0 ⟨g2, F.sb, s9.f6.f6.f6.f6.f6.f6⟩ (by kernel_rfl)⟩
  cases H
  exact ⟨_, rfl, F.sb, s3.f5.f5.f5.f5.f4.f5⟩
 intro _ w7 hJ
 obtain ⟨p0, rfl, F, sa⟩ := hJ
 have H := R0
 clear R0 H0
 try dsimp only at H
 refine ge 7 F rfl fun _ F => bsp 42 F H (fun h3 H F => ?_) (fun h3 H F => ?_)
 ·refine gw 8 F rfl fun _ F => AJp Aq8 sa.f3.drop ?_
  refine hq [0, 1, 2, 3, 4, 5] F sa.drew.f3.drop (QI.ev 3 rfl <| QI.ld m2 rfl <| QI.ev 1 rfl <| QI.op rfl (fun _ hC => Aw Aoi rfl (hC.ANx m0 (o := 0) (ds := (jI p0.1 :: jI p0.2.1 :: ev8 p0.2.2)) (ATv (pre := []) rfl rfl)) (by simp)) rfl <| QI.nil) (by kernel_rfl) fun _ F => ?_
  refine ho 6 rfl (by kernel_rfl) ?_
  refine AZ8 (k := a1) (u := (⟨p0.1, p0.2.1, p0.2.2⟩ : Aas)) F sa.drew.f3 underlying150 AUo rfl rfl rfl fun w8 _ F sc => gw 1 F rfl fun _ F => ⟨sc.drop, ?_⟩
  refine ANu (by kernel_rfl) ?_
  refine ge 5 F rfl fun _ F => gld F sc m3 1 rfl fun _ F => gx F (Al (vs := []) Bf8 Bkr rfl (cs := []) (rfl)) 0 rfl rfl fun _ F => AZ8 (k := a1) (u := ()) F sc.f4 underlying151 AUo rfl rfl rfl fun wa _ F sd => ?_
  cases H
  exact gw 8 F rfl fun _ F => rt F ⟨v0_0, v0_1, v0_3, rfl, A3a.refl, A3a.refl, A3a.refl, sd.f2.drop.f2.drop.f3.f1.f2.f3⟩
 refine Afv F rfl rfl <| gla F sa m0 0 rfl fun _ F => Afv F rfl rfl <| gla F sa m1 0 rfl fun _ F => Afv F rfl rfl ?_
 refine gx F (Bit (xs := (jI p0.1 :: jI p0.2.1 :: ev8 p0.2.2)) (ys := (jI (((A92 a0.frames a1).getD (⟨(0 : Int), (0 : Int), (Vector.replicate 24 (0 : UInt8))⟩ : Aas)).Locals) :: jI (((A92 a0.frames a1).getD (⟨(0 : Int), (0 : Int), (Vector.replicate 24 (0 : UInt8))⟩ : Aas)).Height) :: ev8 (((A92 a0.frames a1).getD (⟨(0 : Int), (0 : Int), (Vector.replicate 24 (0 : UInt8))⟩ : Aas)).Slots))) Bbr (by decide) rfl rfl (Bix Bbr Bki (Bi rfl (Bj AAd rfl) (Bj AAd rfl) (EqAt.up (j := 2) (Bbp underlying3) (by decide)) (Bi rfl (Bj AAd rfl) (Bj AAd rfl) (EqAt.up (j := 2) (Bbp underlying3) (by decide)) (Bi rfl (Bfa AX3 (Bdb (pre := [jI p0.1, jI p0.2.1]) rfl rfl) (by simp)) (Bfa AX3 (Bdb (pre := [jI (((A92 a0.frames a1).getD (⟨(0 : Int), (0 : Int), (Vector.replicate 24 (0 : UInt8))⟩ : Aas)).Locals), jI (((A92 a0.frames a1).getD (⟨(0 : Int), (0 : Int), (Vector.replicate 24 (0 : UInt8))⟩ : Aas)).Height)]) rfl rfl) (by simp)) (EqAt.up (j := 2) (Bkd ANo underlying48 Bm3) (by decide)) Bi8))))) 3 rfl rfl fun _ F => ?_
 refine gif F H 1 8 rfl rfl rfl (fun h4 H _ F => ?_) (fun h4 H _ F => ?_)
 ·refine AJp Aq8 sa.f3.drop ?_
  refine hq [0, 1, 2, 3, 4, 5] F sa.drew.f3.drop (QI.ev 3 rfl <| QI.ld m2 rfl <| QI.ev 1 rfl <| QI.op rfl (fun _ hC => Aw Aoi rfl (hC.ANx m0 (o := 0) (ds := (jI p0.1 :: jI p0.2.1 :: ev8 p0.2.2)) (ATv (pre := []) rfl rfl)) (by simp)) rfl <| QI.nil) (by kernel_rfl) fun _ F => ?_
  refine ho 6 rfl (by kernel_rfl) ?_
  refine AZ8 (k := a1) (u := (⟨p0.1, p0.2.1, p0.2.2⟩ : Aas)) F sa.drew.f3 underlying150 AUo rfl rfl rfl fun wb _ F se => gw 1 F rfl fun _ F => ⟨se.drop, ?_⟩
  refine ANu (by kernel_rfl) ?_
  refine ge 5 F rfl fun _ F => gld F se m3 1 rfl fun _ F => gx F (Al (vs := []) Bf8 Bkr rfl (cs := []) (rfl)) 0 rfl rfl fun _ F => AZ8 (k := a1) (u := ()) F se.f4 underlying151 AUo rfl rfl rfl fun wc _ F sf => ?_
  cases H
  exact gw 8 F rfl fun _ F => rt F ⟨v0_0, v0_1, v0_3, rfl, A3a.refl, A3a.refl, A3a.refl, sf.f2.drop.f2.drop.f3.f1.f2.f3⟩
 cases H
 exact rt F ⟨v0_0, v0_1, v0_3, rfl, A3a.refl, A3a.refl, A3a.refl, sa.drop.drop⟩
theorem Bcq {w : World} {FF : List Nat} {g1 : Nat} {v1_0 : Value} {a0 : Int} {a1 : List UInt8} {r : Int × (List UInt8)} (hst : Aru [Blk g1 42 [v1_0]] w FF) (hr1_0 : Rd Ty.u8 w FF v1_0 a1) (H : ATu a0 a1 = some r) :
    Calls prog 75 #[jI a0, jP g1] w (Ret fun u_ w_ => ∃ u0 : Value, u_ = jI r.1 ∧ A3a Ty.u8 v1_0 a1 u0 r.2 ∧ SL w FF w_ [Blk g1 42 [u0]]) := by
 have s0 : SL w FF w [Blk g1 42 [v1_0]] := SL.init w FF hst
 refine cin func75 ntmps75 13 rfl rfl rfl fun _ F4 => ?_
 unfold ATu at H
 obtain ⟨x0, h0, H⟩ := Aa H
 obtain ⟨v0, h1, h2⟩ := Bpr (Bl hr1_0 s0) AO0 rfl h0 none (some a0) (.inr ⟨rfl, rfl⟩) (.inl rfl)
 have h3 := A3a.refl.trans h2
 have h4 := A3a.rd h2 hr1_0
 refine gld F4 s0 m0 1 rfl fun _ F => gx F (h1 _ _ _ _ _ .i64 .i64 _ _ _ _ _ rfl trivial rfl) 0 rfl rfl fun _ F => ?_
 obtain ⟨o0, H0, R0⟩ := Aa H
 clear H
 refine gx F (Ak rfl underlying42 (fR h4 s0)) 3 rfl rfl fun _ F => At9 (fun a w_ => Fr a 30 [(0, jI a0), (1, jP g1), (4, jI o0)] ∧ SL w FF w_ [Blk g1 42 [v1_0]]) ?_ ?_
 ·have H := H0
  refine gc 1 F rfl fun _ F => lpk (AQ6 x0) (fun s1 a w_ => Fr a 30 [(0, jI a0), (1, jP g1), (4, jI s1.1), (9, v0), (10, jI (x0.length : Int)), (11, jI s1.2)] ∧ SL w FF w_ [Blk g1 42 [v1_0]]) H ?_ ?_
  ·exact ⟨F.sb, s0⟩
  intro s1 _ w0 h5 o1 H hr
  obtain ⟨F, s2⟩ := h5
  replace H : AQ6 x0 s1 = some o1 := H
  unfold AQ6 at H
  refine gc 6 F rfl fun _ F => gif F H 6 4 rfl rfl rfl (fun h6 H _ F => ?_) (fun h6 H _ F => ?_)
  ·obtain ⟨x1, h7, H⟩ := Aa H
   obtain ⟨a2, h8, h9⟩ := AT7 Flat.u8 (Bl h4 s2) AO0 rfl h7
   refine gi F h8 0 rfl fun _ F => gx F (Ao AZa rfl (Aqa.at_ h9 (o := 0) rfl)) 5 rfl rfl fun _ F => gx F (B0s rfl rfl rfl) 1 rfl rfl fun _ F => gx F (AX0 rfl underlying5 underlying3) 0 rfl rfl fun _ F => ?_
   cases H
   exact gx F (B1l rfl rfl) 8 rfl rfl fun _ F => ⟨_, rfl, F.sb, s2⟩
  cases H
  obtain rfl := hr _ rfl
  exact ⟨F.sb, s2⟩
 intro _ w1 hJ
 obtain ⟨F, s3⟩ := hJ
 have H := R0
 clear R0 H0
 obtain ⟨x2, ha, H⟩ := Aa H
 obtain ⟨v1, hb, hc⟩ := Bpr (Bl hr1_0 s3) AO0 rfl ha (some a0) none (.inl rfl) (.inr ⟨rfl, rfl⟩)
 have hd := A3a.refl.trans hc
 have he := A3a.rd hc hr1_0
 refine ge 3 F rfl fun _ F => gld F s3 m0 1 rfl fun _ F => gx F (hb _ _ _ _ _ .i64 .i64 _ _ _ _ _ rfl rfl trivial) 0 rfl rfl fun _ F => Ay F s3 rfl rfl Bmm (Ag (fR he s3)) (Aq (fR he s3)) rfl fun w2 _ F s4 => gw 9 F rfl fun _ F => gif F H 3 9 rfl rfl rfl (fun hf H _ F => ?_) (fun hf H _ F => ?_)
 ·refine gx F (Bi6 rfl underlying3 underlying21) 0 rfl rfl fun _ F => ?_
  cases H
  exact gx F (Bi6 rfl underlying21 underlying3) 5 rfl rfl fun _ F => rt F ⟨v1, rfl, hd, s4⟩
 cases H
 exact rt F ⟨v1, rfl, hd, s4⟩
theorem Bgr {w : World} {v0 : Value} {a0 : List UInt8} {a1 : Int} {r : Ads × Int} (hr0 : Rd Ty.u8 w [] v0 a0) (H : AUn a0 a1 = some r) :
    Calls prog 48 #[v0, jI a1] w (Ret fun u_ w_ => u_ = .tuple ⟨[.agg ⟨[jI r.1.At, jU (r.1.Op.toNat : Int), jI r.1.A, jI r.1.B]⟩, jI r.2]⟩ ∧ SL w [] w_ []) := by
 have s0 : SL w [] w [] := SL.Aq9 w
 refine cin func48 ntmps48 2 rfl rfl rfl fun _ F0 => ?_
 unfold AUn at H
 refine Af F0 s0 APa rfl rfl fun g8 w9 _ F s1 => gw 5 F rfl fun _ F => gx F (Al (vs := []) APa Biw rfl (cs := [jI 0, jU 0, jI 0, jI 0]) (rfl)) 0 rfl rfl fun _ F => Af F s1 APa rfl rfl fun g0 w0 _ F s2 => Ah F s2 rfl rfl AOo (Ab rfl (Ab rfl (Ab rfl (Ab rfl Ap)))) (Ac rfl) fun w1 _ F s3 => gw 9 F rfl fun _ F => bsp 16 F H (fun h0 H F => ?_) (fun h0 H F => ?_)
 ·refine gw 11 F rfl fun _ F => gld F s3 m0 0 rfl fun _ F => Ah F s3.f1 rfl rfl AOo (Ab rfl (Ab rfl (Ab rfl (Ab rfl Ap)))) (Ac rfl) fun w2 _ F s4 => ?_
  cases H
  refine gw 6 F rfl fun _ F => ?_
  refine Aj (rs := [.cell 4 79, .tmp 5]) (vs := [.agg ⟨[jI 0, jU 0, jI 0, jI 0]⟩, jI 1]) F (by rfl) ⟨_, _, rfl, Am s4 m0 rfl AQ3 rfl, _, _, rfl, An rfl, rfl⟩ ⟨_, rfl, ⟨rfl, s4.drop.drop⟩⟩
 refine gw 2 F rfl fun _ F => Afv F rfl rfl <| gx F (Ak rfl underlying42 (fR hr0 s3)) 5 rfl rfl fun _ F => gif F H 2 4 rfl rfl rfl (fun h1 H _ F => ?_) (fun h1 H _ F => ?_)
 ·refine gld F s3 m0 0 rfl fun _ F => Ah F s3.f1 rfl rfl AOo (Ab rfl (Ab rfl (Ab rfl (Ab rfl Ap)))) (Ac rfl) fun w3 _ F s5 => ?_
  cases H
  refine gw 6 F rfl fun _ F => ?_
  refine Aj (rs := [.cell 4 79, .tmp 5]) (vs := [.agg ⟨[jI 0, jU 0, jI 0, jI 0]⟩, jI 1]) F (by rfl) ⟨_, _, rfl, Am s5 m0 rfl AQ3 rfl, _, _, rfl, An rfl, rfl⟩ ⟨_, rfl, ⟨rfl, s5.drop.drop⟩⟩
 refine gx F (Ak rfl underlying42 (fR hr0 s3)) 4 rfl rfl fun _ F => gif F H 2 4 rfl rfl rfl (fun h2 H _ F => ?_) (fun h2 H _ F => ?_)
 ·refine gld F s3 m0 0 rfl fun _ F => Ah F s3.f1 rfl rfl AOo (Ab rfl (Ab rfl (Ab rfl (Ab rfl Ap)))) (Ac rfl) fun w4 _ F s6 => ?_
  cases H
  refine gw 6 F rfl fun _ F => ?_
  refine Aj (rs := [.cell 4 79, .tmp 5]) (vs := [.agg ⟨[jI 0, jU 0, jI 0, jI 0]⟩, jI 2]) F (by rfl) ⟨_, _, rfl, Am s6 m0 rfl AQ3 rfl, _, _, rfl, An rfl, rfl⟩ ⟨_, rfl, ⟨rfl, s6.drop.drop⟩⟩
 obtain ⟨x0, h3, H⟩ := Aa H
 obtain ⟨a2, h4, h5⟩ := AT7 Flat.u8 (Bl hr0 s3) AO0 rfl h3
 obtain ⟨x1, h6, H⟩ := Aa H
 refine gi F h4 0 rfl fun _ F => gx F (Ao AZa rfl (Aqa.at_ h5 (o := 0) rfl)) 0 rfl rfl fun _ F => gca F s3 (AZk h6) 4 rfl rfl rfl rfl fun w5 _ F s7 => gif F H 2 3 rfl rfl rfl (fun h7 H _ F => ?_) (fun h7 H _ F => ?_)
 ·refine gld F s7 m0 0 rfl fun _ F => Ah F s7.f1 rfl rfl AOo (Ab rfl (Ab rfl (Ab rfl (Ab rfl Ap)))) (Ac rfl) fun w6 _ F s8 => ?_
  cases H
  refine gw 6 F rfl fun _ F => ?_
  refine Aj (rs := [.cell 4 79, .tmp 5]) (vs := [.agg ⟨[jI 0, jU 0, jI 0, jI 0]⟩, jI 40]) F (by rfl) ⟨_, _, rfl, Am s8 m0 rfl AQ3 rfl, _, _, rfl, An rfl, rfl⟩ ⟨_, rfl, ⟨rfl, s8.drop.drop⟩⟩
 obtain ⟨x2, h8, H⟩ := Aa H
 obtain ⟨a3, h9, ha⟩ := AT7 Flat.u8 (Bl hr0 s7) AO0 rfl h8
 obtain ⟨x3, hb, H⟩ := Aa H
 refine gx F (Ak rfl underlying42 (fR hr0 s7)) 4 rfl rfl fun _ F => gi F h9 0 rfl fun _ F => gx F (Ao AZa rfl (Aqa.at_ ha (o := 0) rfl)) 0 rfl rfl fun _ F => gca F s7 (AZk hb) 4 rfl rfl rfl rfl fun w7 _ F s9 => gif F H 2 8 rfl rfl rfl (fun hc H _ F => ?_) (fun hc H _ F => ?_)
 ·refine gld F s9 m0 0 rfl fun _ F => Ah F s9.f1 rfl rfl AOo (Ab rfl (Ab rfl (Ab rfl (Ab rfl Ap)))) (Ac rfl) fun w8 _ F sa => ?_
  cases H
  refine gw 6 F rfl fun _ F => ?_
  refine Aj (rs := [.cell 4 79, .tmp 5]) (vs := [.agg ⟨[jI 0, jU 0, jI 0, jI 0]⟩, jI 2]) F (by rfl) ⟨_, _, rfl, Am sa m0 rfl AQ3 rfl, _, _, rfl, An rfl, rfl⟩ ⟨_, rfl, ⟨rfl, sa.drop.drop⟩⟩
 obtain ⟨x4, hd, H⟩ := Aa H
 obtain ⟨a4, he, hf⟩ := AT7 Flat.u8 (Bl hr0 s9) AO0 rfl hd
 refine gi F he 0 rfl fun _ F => gx F (Ao AZa rfl (Aqa.at_ hf (o := 0) rfl)) 0 rfl rfl fun _ F => gx F (Al (vs := [jI a1, jU (x4.toNat : Int)]) APa Biw rfl (cs := [jI a1, jU (x4.toNat : Int), jI 0, jI 0]) (rfl)) 0 rfl rfl fun _ F => Af F s9 APa rfl rfl fun g1 wa _ F sb => Ah F sb rfl rfl AOo (Ab rfl (Ab rfl (Ab rfl (Ab rfl Ap)))) (Ac rfl) fun wb _ F sc => ?_
 obtain ⟨x5, hg, H⟩ := Aa H
 obtain ⟨v1, hh, hi⟩ := Rd.cut hr0 AO0 rfl hg (some (wr (a1 + 1))) none (.inl rfl) (.inr ⟨rfl, rfl⟩)
 refine gw 7 F rfl fun _ F => gx F (hh _ _ _ _ _ .i64 .i64 _ _ _ _ _ rfl rfl trivial) 0 rfl rfl fun _ F => Af F sc Bvr rfl rfl fun g2 wc _ F sd => Ay F sd rfl rfl Bmm (Ag (fR hi sd)) (Aq (fR hi sd)) rfl fun wd _ F se => gw 4 F rfl fun _ F => ?_
 obtain ⟨x6, hj, H⟩ := Aa H
 refine gx F (AR9 (cs := [.tmp 8]) (vs := [jP g2]) rfl) 6 rfl rfl fun _ F => gld F se m1 0 rfl fun _ F => gca F se (Bgn hj) 11 rfl rfl rfl rfl fun we _ F sf => ?_
 obtain ⟨x7, hk, H⟩ := Aa H
 obtain ⟨G0, hl, hm, hn, ho⟩ := SL.open_ (ps := [Blk g2 42 [v1]]) (rest := [Blk g1 79 [jI a1, jU (x4.toNat : Int), jI 0, jI 0], Blk g0 79 [jI 0, jU 0, jI 0, jI 0], Blk g8 79 [jI 0, jU 0, jI 0, jI 0]]) sf
 refine ATb (args := [.tmp 67]) F Br5 rfl rfl (Bcq (a0 := x6.1) (a1 := x5) hl (hi.pass sf hm) hk) rfl fun v2 wf _ hp F => ?_
 obtain ⟨v3, rfl, hq, hr⟩ := hp
 have sg := ho _ _ hr
 have hs := A3a.rd hq hi
 refine gw 1 F rfl fun _ F => Ay F sg.f1 rfl rfl AYu rfl rfl rfl fun wg _ F sh => ?_
 obtain ⟨x8, ht, H⟩ := Aa H
 obtain ⟨G1, hu, hv, hw, hx⟩ := SL.open_ (ps := [Blk g2 42 [v3]]) (rest := [Blk g1 79 [jI a1, jU (x4.toNat : Int), jI x7.1, jI 0], Blk g0 79 [jI 0, jU 0, jI 0, jI 0], Blk g8 79 [jI 0, jU 0, jI 0, jI 0]]) sh.f1
 refine gw 6 F rfl fun _ F => ?_
 refine ATb (args := [.tmp 71]) F Br5 rfl rfl (Bcq (a0 := x6.2) (a1 := x7.2) hu (hs.pass sh.f1 hv) ht) rfl fun v4 wh _ hy F => ?_
 obtain ⟨v5, rfl, hz, h10⟩ := hy
 have si := hx _ _ h10
 have h11 := A3a.rd hz hs
 refine gw 1 F rfl fun _ F => Ay F si.f1 rfl rfl AYu rfl rfl rfl fun wi _ F sj => gw 6 F rfl fun _ F => gld F sj m0 2 rfl fun _ F => bsp 77 F H (fun h12 H F => ?_) (fun h12 H F => ?_)
 ·refine gw 1 F rfl fun _ F => Afv F rfl rfl <| gld F sj m0 4 rfl fun _ F => gif F H 2 4 rfl rfl rfl (fun h13 H _ F => ?_) (fun h13 H _ F => ?_)
  ·refine gld F sj m2 0 rfl fun _ F => Ah F sj.f3 rfl rfl AOo (Ab rfl (Ab rfl (Ab rfl (Ab rfl Ap)))) (Ac rfl) fun wj _ F sk => ?_
   cases H
   refine gw 5 F rfl fun _ F => ?_
   refine Aj (rs := [.cell 4 79, .tmp 5]) (vs := [.agg ⟨[jI 0, jU 0, jI 0, jI 0]⟩, jI 5]) F (by rfl) ⟨_, _, rfl, Am sk m0 rfl AQ3 rfl, _, _, rfl, An rfl, rfl⟩ ⟨_, rfl, ⟨rfl, sk.drop.drop.drop.drop⟩⟩
  refine gld F sj m0 0 rfl fun _ F => Ah F sj.f3 rfl rfl AOo (Ab rfl (Ab rfl (Ab rfl (Ab rfl Ap)))) (Ac rfl) fun wk _ F sl => ?_
  cases H
  refine gw 4 F rfl fun _ F => ?_
  refine Aj (rs := [.cell 4 79, .tmp 5]) (vs := [.agg ⟨[jI a1, jU (x4.toNat : Int), jI x7.1, jI x8.1]⟩, jI 0]) F (by rfl) ⟨_, _, rfl, Am sl m0 rfl AQ3 rfl, _, _, rfl, An rfl, rfl⟩ ⟨_, rfl, ⟨rfl, sl.drop.drop.drop.drop⟩⟩
 refine gw 11 F rfl fun _ F => gld F sj m0 0 rfl fun _ F => Ah F sj.f3 rfl rfl AOo (Ab rfl (Ab rfl (Ab rfl (Ab rfl Ap)))) (Ac rfl) fun wl _ F sm => ?_
 cases H
 refine gw 4 F rfl fun _ F => ?_
 refine Aj (rs := [.cell 4 79, .tmp 5]) (vs := [.agg ⟨[jI a1, jU (x4.toNat : Int), jI x7.1, jI x8.1]⟩, jI 0]) F (by rfl) ⟨_, _, rfl, Am sm m0 rfl AQ3 rfl, _, _, rfl, An rfl, rfl⟩ ⟨_, rfl, ⟨rfl, sm.drop.drop.drop.drop⟩⟩
theorem Bry {w : World} {a0 : UInt8} {r : Bool} (H : Bb1 a0 = some r) :
    Calls prog 88 #[jU (a0.toNat : Int)] w (Ret fun u_ w_ => u_ = .bool r ∧ SL w [] w_ []) := by
 have s0 : SL w [] w [] := SL.Aq9 w
 refine cin func88 ntmps88 10 rfl rfl rfl fun _ F => ?_
 unfold Bb1 at H
 refine bsp 5 F H (fun h0 H F => ?_) (fun h0 H F => ?_)
 ·cases H
  exact gw 11 F rfl fun _ F => rt F ⟨rfl, s0⟩
 refine gw 4 F rfl fun _ F => bsp 9 F H (fun h1 H F => ?_) (fun h1 H F => ?_)
 ·cases H
  exact gw 7 F rfl fun _ F => rt F ⟨rfl, s0⟩
 cases H
 exact gw 7 F rfl fun _ F => rt F ⟨rfl, s0⟩
theorem Bqq {w : World} {a0 : UInt8} {r : Bool} (H : Baw a0 = some r) :
    Calls prog 89 #[jU (a0.toNat : Int)] w (Ret fun u_ w_ => u_ = .bool r ∧ SL w [] w_ []) := by
 have s0 : SL w [] w [] := SL.Aq9 w
 refine cin func89 ntmps89 10 rfl rfl rfl fun _ F8 => ?_
 unfold Baw at H
 refine bsp 5 F8 H (fun hb9 H F => ?_) (fun hb9 H F => ?_)
 ·cases H
  exact gw 7 F rfl fun _ F => rt F ⟨rfl, s0⟩
 cases H
 exact gw 7 F rfl fun _ F => rt F ⟨rfl, s0⟩
theorem Beg {w : World} {FF : List Nat} {g0 g0_4 g0_5 g0_6 : Nat} {v0_0 v0_1 v0_3 : Value} {a0 : Ald} {a1 : Int} {r : Int × Ald} (hst : Aru [Blk g0 154 [v0_0, v0_1, jI a0.e.Fn, v0_3, .map (some g0_4), .map (some g0_5), .map (some g0_6), jI a0.A3i], Mp (Value.int .i64) (fun x : Aas => Value.agg ⟨(jI x.Locals :: jI x.Height :: ev8 x.Slots)⟩) g0_4 a0.frames, Mp (Value.int .i64) (fun _ : Unit => Value.agg ⟨[]⟩) g0_5 a0.fresh, Mp (Value.int .i64) (Value.int .i64) g0_6 a0.taken] w FF) (hr0_0 : Rd Aef w FF v0_0 a0.e.Classes) (hr0_1 : Rd Ate w FF v0_1 a0.e.Akq) (hr0_3 : Rd Ty.u8 w FF v0_3 a0.code) (H : ASj a0 a1 = some r) :
    Calls prog 105 #[jP g0, jI a1] w (Ret fun u_ w_ => ∃ u0 u1 u2 : Value, u_ = jI r.1 ∧ A3a Aef v0_0 a0.e.Classes u0 r.2.e.Classes ∧ A3a Ate v0_1 a0.e.Akq u1 r.2.e.Akq ∧ A3a Ty.u8 v0_3 a0.code u2 r.2.code ∧ SL w FF w_ [Blk g0 154 [u0, u1, jI r.2.e.Fn, u2, .map (some g0_4), .map (some g0_5), .map (some g0_6), jI r.2.A3i], Mp (Value.int .i64) (fun x : Aas => Value.agg ⟨(jI x.Locals :: jI x.Height :: ev8 x.Slots)⟩) g0_4 r.2.frames, Mp (Value.int .i64) (fun _ : Unit => Value.agg ⟨[]⟩) g0_5 r.2.fresh, Mp (Value.int .i64) (Value.int .i64) g0_6 r.2.taken]) := by
 have s0 : SL w FF w [Blk g0 154 [v0_0, v0_1, jI a0.e.Fn, v0_3, .map (some g0_4), .map (some g0_5), .map (some g0_6), jI a0.A3i], Mp (Value.int .i64) (fun x : Aas => Value.agg ⟨(jI x.Locals :: jI x.Height :: ev8 x.Slots)⟩) g0_4 a0.frames, Mp (Value.int .i64) (fun _ : Unit => Value.agg ⟨[]⟩) g0_5 a0.fresh, Mp (Value.int .i64) (Value.int .i64) g0_6 a0.taken] := SL.init w FF hst
 refine cin func105 ntmps105 11 rfl rfl rfl fun _ F9 => ?_
 unfold ASj at H
 refine Ay F9 s0 rfl rfl AYu rfl rfl rfl fun w0 _ F s1 => gw 9 F rfl fun _ F => gld F s1 m0 0 rfl fun _ F => gx F (Ak rfl underlying42 (fR hr0_3 s1)) 3 rfl rfl fun _ F => gif F H 7 7 rfl rfl rfl (fun h0 H _ F => ?_) (fun h0 H _ F => ?_)
 ·cases H
  exact rt F ⟨v0_0, v0_1, v0_3, rfl, A3a.refl, A3a.refl, A3a.refl, s1⟩
 obtain ⟨x0, h1, H⟩ := Aa H
 refine gld F s1 m0 1 rfl fun _ F => gca F s1 (Bgr (hr0_3.Ajq s1) h1) 3 rfl rfl rfl rfl fun w1 _ F s2 => Af F s2 APa rfl rfl fun g1 w2 _ F s3 => Ah F s3 rfl rfl AOo (Ab rfl (Ab rfl (Ab rfl (Ab rfl Ap)))) (Ac rfl) fun w3 _ F s4 => gw 10 F rfl fun _ F => gif F H 8 6 rfl rfl rfl (fun h2 H _ F => ?_) (fun h2 H _ F => ?_)
 ·cases H
  exact rt F ⟨v0_0, v0_1, v0_3, rfl, A3a.refl, A3a.refl, A3a.refl, s4.drop⟩
 obtain ⟨x1, h3, H⟩ := Aa H
 refine gld F s4 m0 0 rfl fun _ F => ?_
 have s5 := s4.f4.f4.f4.f4
 obtain ⟨G0, h4, h5, h6, h7⟩ := SL.open_ (ps := [Blk g0 154 [v0_0, v0_1, jI a0.e.Fn, v0_3, .map (some g0_4), .map (some g0_5), .map (some g0_6), jI a1], Mp (Value.int .i64) (fun x : Aas => Value.agg ⟨(jI x.Locals :: jI x.Height :: ev8 x.Slots)⟩) g0_4 a0.frames, Mp (Value.int .i64) (fun _ : Unit => Value.agg ⟨[]⟩) g0_5 a0.fresh, Mp (Value.int .i64) (Value.int .i64) g0_6 a0.taken]) (rest := [Blk g1 79 [jI x0.1.At, jU (x0.1.Op.toNat : Int), jI x0.1.A, jI x0.1.B]]) s5
 refine std F (Be6 (a0 := (⟨(⟨a0.e.Classes, a0.e.Akq, a0.e.Fn⟩ : Adb), a0.code, a0.frames, a0.fresh, a0.taken, a1⟩ : Ald)) h4 (hr0_0.pass s5 h5) (hr0_1.pass s5 h5) (hr0_3.pass s5 h5) h3) fun v0 w4 _ h8 F => ?_
 obtain ⟨v1, v2, v3, rfl, h9, ha, hb, hc⟩ := h8
 have s6 := h7 _ _ hc
 have hd := A3a.rd h9 hr0_0
 have he := A3a.trans A3a.refl h9
 have hf := A3a.rd ha hr0_1
 have hg := A3a.trans A3a.refl ha
 have hh := A3a.rd hb hr0_3
 have hi := A3a.trans A3a.refl hb
 refine gw 3 F rfl fun _ F => gif F H 7 3 rfl rfl rfl (fun hj H _ F => ?_) (fun hj H _ F => ?_)
 ·cases H
  exact rt F ⟨v1, v2, v3, rfl, he, hg, hi, s6.f4.drop⟩
 obtain ⟨x2, hk, H⟩ := Aa H
 refine AJp Aq8 s6 ?_
 have s7 := s6.drew
 refine hq [0, 1, 2, 3, 4, 5, 6, 7, 8, 9, 10] F s7 (QI.ev 3 rfl <| QI.op rfl (fun _ hC => Aw AX6 rfl (hC.ANx m0 (o := 0) (ds := [v1, v2, jI x1.2.e.Fn]) (Bdg _ rfl)) rfl) rfl <| QI.ev 3 rfl <| QI.ld m0 rfl <| QI.ev 1 rfl <| QI.op rfl (fun _ hC => Bod (k := a1) (z0 := (⟨(0 : Int), (0 : Int), (Vector.replicate 24 (0 : UInt8))⟩ : Aas)) hC m1 underlying150 AUo Bkt rfl rfl) rfl <| QI.ld m4 rfl <| QI.nil) (by kernel_rfl) fun _ F => ?_
 refine ANb [0, 1, 2, 3, 4, 5, 6, 7, 8, 9, 10, 11, 12, 13, 14, 15, 16] (fun a w_ => ∃ g2 : Nat, Fr a 111 [(0, jP g0), (1, jI a1), (5, jP g1), (6, jI x0.2), (7, jP g2), (54, jI x2.2)] ∧ SL w FF w_ [Blk g0 154 [v1, v2, jI x1.2.e.Fn, v3, .map (some g0_4), .map (some g0_5), .map (some g0_6), jI x1.2.A3i], Mp (Value.int .i64) (fun x : Aas => Value.agg ⟨(jI x.Locals :: jI x.Height :: ev8 x.Slots)⟩) g0_4 x1.2.frames, Mp (Value.int .i64) (fun _ : Unit => Value.agg ⟨[]⟩) g0_5 x1.2.fresh, Mp (Value.int .i64) (Value.int .i64) g0_6 x1.2.taken, Blk g1 79 [jI x0.1.At, jU (x0.1.Op.toNat : Int), jI x0.1.A, jI x0.1.B], Blk g2 118 (jI x2.1.Locals :: jI x2.1.Height :: ev8 x2.1.Slots)]) ?_ fun hD0 => ?_
 ·rintro a w_ ⟨g2, F, s8⟩
  refine hq [17] F s8.f5.drop (QI.ev 1 rfl <| QI.nil) (by kernel_rfl) fun _ F => ?_
  refine ANu (by kernel_rfl) ?_
  refine ge 8 F rfl fun _ F => gif F H 8 11 rfl rfl rfl (fun hl H _ F => ?_) (fun hl H _ F => ?_)
  ·cases H
   exact rt F ⟨v1, v2, v3, rfl, he, hg, hi, s8.f4.drop.f4.drop⟩
  obtain ⟨x3, hm, H⟩ := Aa H
  refine gld F s8 m4 0 rfl fun _ F => gca F s8 (AZk hm) 5 rfl rfl rfl rfl fun w5 _ F s9 => ?_
  obtain ⟨o0, H0, R0⟩ := Aa H
  clear H
  refine At9 (fun a w_ => ∃ p0 : (List Int), o0 = .inr (p0) ∧ ∃ v4 : Value, Fr a 111 [(0, jP g0), (5, jP g1), (7, jP g2), (8, v4), (9, jI (wr (a1 + x3)))] ∧ SL w FF w_ [Blk g0 154 [v1, v2, jI x1.2.e.Fn, v3, .map (some g0_4), .map (some g0_5), .map (some g0_6), jI x1.2.A3i], Mp (Value.int .i64) (fun x : Aas => Value.agg ⟨(jI x.Locals :: jI x.Height :: ev8 x.Slots)⟩) g0_4 x1.2.frames, Mp (Value.int .i64) (fun _ : Unit => Value.agg ⟨[]⟩) g0_5 x1.2.fresh, Mp (Value.int .i64) (Value.int .i64) g0_6 x1.2.taken, Blk g1 79 [jI x0.1.At, jU (x0.1.Op.toNat : Int), jI x0.1.A, jI x0.1.B], Blk g2 118 (jI x2.1.Locals :: jI x2.1.Height :: ev8 x2.1.Slots), Sl (Ty.int .i64) v4 p0]) ?_ ?_
  ·have H := H0
   obtain ⟨x4, hn, H⟩ := Aa H
   refine gc 3 F rfl fun _ F => gld F s9 m4 0 rfl fun _ F => gca F s9 (Bqq hn) 2 rfl rfl rfl rfl fun w6 _ F sa => gif F H 2 1 rfl rfl rfl (fun hp H _ F => ?_) (fun hp H _ F => ?_)
   ·refine ATo Aq8 sa F (QR.ev 1 rfl <| QR.ld m4 rfl <| QR.ev 3 rfl <| QR.ld m0 rfl <| QR.qo (fun _ hC => Ak rfl underlying42 (AVo (Bl hh hC))) rfl <| QR.ev 1 rfl <| Bb) fun w7 _ sc F => ge 1 F rfl fun _ F => gif F H 9 5 rfl rfl rfl (fun hs H _ F => ?_) (fun hs H _ F => ?_)
    ·cases H
     replace H := R0
     try dsimp only at H
     cases H
     exact rt F ⟨v1, v2, v3, rfl, he, hg, hi, sc.f4.drop.f4.drop⟩
    refine gld F sc m4 0 rfl fun _ F => ?_
    refine Ae (parts := [(0, .tmp 76)]) (Flat.int .i64) ([x0.1.A] : List Int) F sc Awy rfl (by decide) rfl rfl rfl (by simp [Value.cells]) rfl rfl rfl fun v5 w8 _ F sd => ?_
    obtain ⟨x5, ht, H⟩ := Aa H
    have se := (SL.Axc (T := (Ty.int .i64)) sd)
    obtain ⟨_, hr_⟩ := (se.A59 m1)
    refine Av (Flat.int .i64) F se Awy rfl rfl rfl rfl hr_ rfl rfl ht rfl fun v6 w9 _ F sf => ?_
    have s580' := sf.f1.drop
    cases H
    exact gw 2 F rfl fun _ F => ⟨_, rfl, v6, F.sb, s580'.f6.f6.f6.f6.f6.f6⟩
   cases H
   exact ⟨_, rfl, (.slice none 0 0), F.sb, (SL.Axc (T := (Ty.int .i64)) sa).f6.f6.f6.f6.f6.f6⟩
  intro _ wa hJ
  obtain ⟨p0, rfl, v4, F, sg⟩ := hJ
  have H := R0
  clear R0 H0
  try dsimp only at H
  obtain ⟨o1, H1, R1⟩ := Aa H
  clear H
  refine ge 2 F rfl fun _ F => At9 (fun a w_ => ∃ p1 : (List Int), o1 = .inr (p1) ∧ ∃ v7 : Value, Fr a 111 [(0, jP g0), (7, jP g2), (8, v7)] ∧ SL w FF w_ [Blk g0 154 [v1, v2, jI x1.2.e.Fn, v3, .map (some g0_4), .map (some g0_5), .map (some g0_6), jI x1.2.A3i], Mp (Value.int .i64) (fun x : Aas => Value.agg ⟨(jI x.Locals :: jI x.Height :: ev8 x.Slots)⟩) g0_4 x1.2.frames, Mp (Value.int .i64) (fun _ : Unit => Value.agg ⟨[]⟩) g0_5 x1.2.fresh, Mp (Value.int .i64) (Value.int .i64) g0_6 x1.2.taken, Blk g2 118 (jI x2.1.Locals :: jI x2.1.Height :: ev8 x2.1.Slots), Sl (Ty.int .i64) v7 p1]) ?_ ?_
  ·have H := H1
   obtain ⟨x6, hu, H⟩ := Aa H
   refine gc 3 F rfl fun _ F => gld F sg m4 0 rfl fun _ F => gca F sg (Bry hu) 3 rfl rfl rfl rfl fun wb _ F sh => gif F H 7 1 rfl rfl rfl (fun hv H _ F => ?_) (fun hv H _ F => ?_)
   ·refine gld F sh m0 0 rfl fun _ F => gx F (Ak rfl underlying42 (fR hh sh)) 3 rfl rfl fun _ F => gif F H 9 5 rfl rfl rfl (fun hw H _ F => ?_) (fun hw H _ F => ?_)
    ·cases H
     replace H := R1
     try dsimp only at H
     cases H
     exact rt F ⟨v1, v2, v3, rfl, he, hg, hi, sh.f4.drop.f4.drop.f4.drop⟩
    refine Ae (parts := [(0, .tmp 91)]) (Flat.int .i64) ([wr (a1 + x3)] : List Int) F sh Awy rfl (by decide) rfl rfl rfl (by simp [Value.cells]) rfl rfl rfl fun v8 wc _ F si => ?_
    obtain ⟨x7, hx, H⟩ := Aa H
    obtain ⟨_, hr_⟩ := (si.f7.A59 m1)
    refine Av (Flat.int .i64) F si.f7 Awy rfl rfl rfl rfl hr_ rfl rfl hx rfl fun v9 wd _ F sj => ?_
    have s854' := sj.f1.drop
    cases H
    exact gw 2 F rfl fun _ F => ⟨_, rfl, v9, F.sb, s854'.f5.drop.f5.f5.f5.f5.f5⟩
   cases H
   exact ⟨_, rfl, v4, F.sb, sh.f4.drop⟩
  intro _ we hJ
  obtain ⟨p1, rfl, v7, F, sk⟩ := hJ
  have H := R1
  clear R1 H1
  try dsimp only at H
  obtain ⟨x8, hy, H⟩ := Aa H
  obtain ⟨G1, hz, h10, h11, h12⟩ := SL.open_ (ps := [Sl (Ty.int .i64) v7 p1]) (rest := [Blk g0 154 [v1, v2, jI x1.2.e.Fn, v3, .map (some g0_4), .map (some g0_5), .map (some g0_6), jI x1.2.A3i], Mp (Value.int .i64) (fun x : Aas => Value.agg ⟨(jI x.Locals :: jI x.Height :: ev8 x.Slots)⟩) g0_4 x1.2.frames, Mp (Value.int .i64) (fun _ : Unit => Value.agg ⟨[]⟩) g0_5 x1.2.fresh, Mp (Value.int .i64) (Value.int .i64) g0_6 x1.2.taken, Blk g2 118 (jI x2.1.Locals :: jI x2.1.Height :: ev8 x2.1.Slots)]) sk.f5
  refine ge 4 F rfl fun _ F => As (args := [.tmp 94]) F Bmn rfl (Bqh Bg2 hz hy) rfl fun va wf _ h13 F => ?_
  obtain ⟨rfl, h14⟩ := h13
  have sl := h12 _ _ h14
  obtain ⟨x9, h15, H⟩ := Aa H
  obtain ⟨G2, h16, h17, h18, h19⟩ := SL.open_ (ps := [Sl (Ty.int .i64) v7 x8]) (rest := [Blk g0 154 [v1, v2, jI x1.2.e.Fn, v3, .map (some g0_4), .map (some g0_5), .map (some g0_6), jI x1.2.A3i], Mp (Value.int .i64) (fun x : Aas => Value.agg ⟨(jI x.Locals :: jI x.Height :: ev8 x.Slots)⟩) g0_4 x1.2.frames, Mp (Value.int .i64) (fun _ : Unit => Value.agg ⟨[]⟩) g0_5 x1.2.fresh, Mp (Value.int .i64) (Value.int .i64) g0_6 x1.2.taken, Blk g2 118 (jI x2.1.Locals :: jI x2.1.Height :: ev8 x2.1.Slots)]) sl
  refine gw 6 F rfl fun _ F => As (args := [.tmp 96]) F Bsc rfl (Bjn Bhu h16 h15) rfl fun vb wg _ h1a F => ?_
  have sm := h19 _ _ h1a
  obtain ⟨o2, H2, R2⟩ := Aa H
  clear H
  refine gx F (Ak rfl underlying28 (fO sm m0)) 3 rfl rfl fun _ F => At9 (fun a w_ => ∃ p2 : (List Abi) × (List Am7) × Int × (List UInt8) × Int × (List (Int × Aas)) × (List (Int × Unit)) × (List (Int × Int)), o2 = .inr (p2) ∧ ∃ vc vd ve : Value, Rd Aef w FF vc p2.1 ∧ Rd Ate w FF vd p2.2.1 ∧ Rd Ty.u8 w FF ve p2.2.2.2.1 ∧ A3a Aef v0_0 a0.e.Classes vc p2.1 ∧ A3a Ate v0_1 a0.e.Akq vd p2.2.1 ∧ A3a Ty.u8 v0_3 a0.code ve p2.2.2.2.1 ∧ Fr a 111 [] ∧ SL w FF w_ [Blk g0 154 [vc, vd, jI p2.2.2.1, ve, .map (some g0_4), .map (some g0_5), .map (some g0_6), jI p2.2.2.2.2.1], Mp (Value.int .i64) (fun x : Aas => Value.agg ⟨(jI x.Locals :: jI x.Height :: ev8 x.Slots)⟩) g0_4 p2.2.2.2.2.2.1, Mp (Value.int .i64) (fun _ : Unit => Value.agg ⟨[]⟩) g0_5 p2.2.2.2.2.2.2.1, Mp (Value.int .i64) (Value.int .i64) g0_6 p2.2.2.2.2.2.2.2]) ?_ ?_
  ·have H := H2
   refine gc 1 F rfl fun _ F => lpk (AN7 x2 x9) (fun sn a w_ => ∃ vf vg vh : Value, Rd Aef w FF vf sn.1 ∧ Rd Ate w FF vg sn.2.1 ∧ Rd Ty.u8 w FF vh sn.2.2.2.1 ∧ A3a Aef v0_0 a0.e.Classes vf sn.1 ∧ A3a Ate v0_1 a0.e.Akq vg sn.2.1 ∧ A3a Ty.u8 v0_3 a0.code vh sn.2.2.2.1 ∧ Fr a 111 [(0, jP g0), (7, jP g2), (97, vb), (98, jI (x9.length : Int)), (99, jI sn.2.2.2.2.2.2.2.2)] ∧ SL w FF w_ [Sl (Ty.int .i64) vb x9, Blk g0 154 [vf, vg, jI sn.2.2.1, vh, .map (some g0_4), .map (some g0_5), .map (some g0_6), jI sn.2.2.2.2.1], Mp (Value.int .i64) (fun x : Aas => Value.agg ⟨(jI x.Locals :: jI x.Height :: ev8 x.Slots)⟩) g0_4 sn.2.2.2.2.2.1, Mp (Value.int .i64) (fun _ : Unit => Value.agg ⟨[]⟩) g0_5 sn.2.2.2.2.2.2.1, Mp (Value.int .i64) (Value.int .i64) g0_6 sn.2.2.2.2.2.2.2.1, Blk g2 118 (jI x2.1.Locals :: jI x2.1.Height :: ev8 x2.1.Slots)]) H ?_ ?_
   ·exact ⟨v1, v2, v3, hd, hf, hh, he, hg, hi, F.sb, sm⟩
   intro sn _ wh h1b o3 H hr
   obtain ⟨vf, vg, vh, h1c, h1d, h1e, h1f, h1g, h1h, F, so⟩ := h1b
   replace H : AN7 x2 x9 sn = some o3 := H
   unfold AN7 at H
   refine gc 6 F rfl fun _ F => gif F H 6 4 rfl rfl rfl (fun h1i H _ F => ?_) (fun h1i H _ F => ?_)
   ·obtain ⟨xa, h1j, H⟩ := Aa H
    obtain ⟨a2, h1k, h1l⟩ := Ax (Flat.int .i64) so m0 Awy rfl h1j
    refine gi F h1k 0 rfl fun _ F => ?_
    obtain ⟨xb, h1m, H⟩ := Aa H
    refine gx F (Ao AAd rfl (Aqa.at_ (SL.AN4 (Flat.int .i64) so m0 h1l h1j) (o := 0) rfl)) 7 rfl rfl fun _ F => gla F so m5 0 rfl fun _ F => ?_
    have sp := so.f4.f4.f4.f4
    obtain ⟨G3, h1n, h1o, h1p, h1q⟩ := SL.open_ (ps := [Blk g0 154 [vf, vg, jI sn.2.2.1, vh, .map (some g0_4), .map (some g0_5), .map (some g0_6), jI sn.2.2.2.2.1], Mp (Value.int .i64) (fun x : Aas => Value.agg ⟨(jI x.Locals :: jI x.Height :: ev8 x.Slots)⟩) g0_4 sn.2.2.2.2.2.1, Mp (Value.int .i64) (fun _ : Unit => Value.agg ⟨[]⟩) g0_5 sn.2.2.2.2.2.2.1, Mp (Value.int .i64) (Value.int .i64) g0_6 sn.2.2.2.2.2.2.2.1]) (rest := [Sl (Ty.int .i64) vb x9, Blk g2 118 (jI x2.1.Locals :: jI x2.1.Height :: ev8 x2.1.Slots)]) sp
    refine std F (Beh (a0 := (⟨(⟨sn.1, sn.2.1, sn.2.2.1⟩ : Adb), sn.2.2.2.1, sn.2.2.2.2.2.1, sn.2.2.2.2.2.2.1, sn.2.2.2.2.2.2.2.1, sn.2.2.2.2.1⟩ : Ald)) h1n (h1c.pass sp h1o) (h1d.pass sp h1o) (h1e.pass sp h1o) h1m) fun vi wi _ h1r F => ?_
    obtain ⟨vj, vk, vl, rfl, h1s, h1t, h1u, h1v⟩ := h1r
    have sq := h1q _ _ h1v
    have h1w := A3a.rd h1s h1c
    have h1x := A3a.trans h1f h1s
    have h1y := A3a.rd h1t h1d
    have h1z := A3a.trans h1g h1t
    have h20 := A3a.rd h1u h1e
    have h21 := A3a.trans h1h h1u
    refine gw 9 F rfl fun _ F => gif F H 13 7 rfl rfl rfl (fun h22 H _ F => ?_) (fun h22 H _ F => ?_)
    ·cases H
     obtain rfl := hr _ rfl
     replace H := R2
     try dsimp only at H
     cases H
     exact rt F ⟨vj, vk, vl, rfl, h1x, h1z, h21, sq.f4.drop.f4.drop⟩
    cases H
    exact ⟨_, rfl, vj, vk, vl, h1w, h1y, h20, h1x, h1z, h21, F.sb, sq.f5.f4.f4.f4.f4.f5⟩
   cases H
   obtain rfl := hr _ rfl
   exact ⟨_, rfl, vf, vg, vh, h1c, h1d, h1e, h1f, h1g, h1h, F.sb, so.drop.f4.drop⟩
  intro _ wj hJ
  obtain ⟨p2, rfl, vc, vd, ve, h23, h24, h25, h26, h27, h28, F, sr⟩ := hJ
  have H := R2
  clear R2 H2
  try dsimp only at H
  cases H
  exact ge 7 F rfl fun _ F => rt F ⟨vc, vd, ve, rfl, h26, h27, h28, sr⟩
 refine ho2 11 15 rfl rfl (by kernel_rfl) ?_ ?_
 ·refine gca F s7 (Bim (a0 := (⟨x1.2.e.Classes, x1.2.e.Akq, x1.2.e.Fn⟩ : Adb)) (hd.Ajq s7) (hf.Ajq s7) hk) 1 rfl rfl rfl rfl fun wk _ F ss => ⟨ss, ?_⟩
  refine hq [12, 13, 14] F ss (QI.ev 3 rfl <| QI.nil) (by kernel_rfl) fun _ F => ?_
  refine ho 15 rfl (by kernel_rfl) ?_
  refine Af F ss Ajp rfl rfl fun g2 wl _ F st => gw 1 F rfl fun _ F => ⟨st.drop, ?_⟩
  refine ho 16 rfl (by kernel_rfl) ?_
  refine Akj (ds := (jI x2.1.Locals :: jI x2.1.Height :: ev8 x2.1.Slots)) F st rfl rfl (by simpa using Amy) (Ab rfl (Ab rfl (Ape _))) (by simp) fun wm _ F su => ?_
  exact gw 1 F rfl fun _ F => ⟨su.drop, hto hD0 ⟨g2, F.sb, su.f5.f5.f5.f5.f5⟩ (by kernel_rfl)⟩
 refine Af F s7 Ajp rfl rfl fun g2 wl _ F st => gw 1 F rfl fun _ F => ⟨st.drop, ?_⟩
 refine ho 11 rfl (by kernel_rfl) ?_
 refine gca F st (Bim (a0 := (⟨x1.2.e.Classes, x1.2.e.Akq, x1.2.e.Fn⟩ : Adb)) (hd.Ajq st) (hf.Ajq st) hk) 1 rfl rfl rfl rfl fun wk _ F ss => ⟨ss.drop, ?_⟩
 refine hq [12, 13, 14] F ss.drop (QI.ev 3 rfl <| QI.nil) (by kernel_rfl) fun _ F => ?_
 refine ho 16 rfl (by kernel_rfl) ?_
 refine Akj (ds := (jI x2.1.Locals :: jI x2.1.Height :: ev8 x2.1.Slots)) F ss rfl rfl (by simpa using Amy) (Ab rfl (Ab rfl (Ape _))) (by simp) fun wm _ F su => ?_
 exact gw 1 F rfl fun _ F => ⟨su.drop, hto hD0 ⟨g2, F.sb, su.f5.f5.f5.f5.f5⟩ (by kernel_rfl)⟩
def Bk7 (p0 : Value) (q0 : List Abi) (p1 : Value) (q1 : List Am7) (p2 : Value) (q2 : List UInt8) (v : Value) (s : Ald) (qs : List Ck) : Prop := ∃ k0 k1 k2 k3 : Nat, ∃ v0 v1 v2 : Value, v = jP k0 ∧ A3a Aef p0 q0 v0 s.e.Classes ∧ A3a Ate p1 q1 v1 s.e.Akq ∧ A3a Ty.u8 p2 q2 v2 s.code ∧ qs = [Blk k0 154 [v0, v1, jI s.e.Fn, v2, .map (some k1), .map (some k2), .map (some k3), jI s.A3i], Mp (Value.int .i64) (fun x : Aas => Value.agg ⟨(jI x.Locals :: jI x.Height :: ev8 x.Slots)⟩) k1 s.frames, Mp (Value.int .i64) (fun _ : Unit => Value.agg ⟨[]⟩) k2 s.fresh, Mp (Value.int .i64) (Value.int .i64) k3 s.taken]
theorem Bm7 {w : World} {v0_0 v0_1 v2 : Value} {a0 : Adb} {a1 : Int} {a2 : List UInt8} {r : (Option Ald) × Int × Int} (hr0_0 : Rd Aef w [] v0_0 a0.Classes) (hr0_1 : Rd Ate w [] v0_1 a0.Akq) (hr2 : Rd Ty.u8 w [] v2 a2) (H : Ba5 a0 a1 a2 = some r) :
    Calls prog 71 #[.agg ⟨[v0_0, v0_1, jI a0.Fn]⟩, jI a1, v2] w (Ret fun u_ w_ => ∃ u0 : Value, u_ = .tuple ⟨[u0, jI r.2.1, jI r.2.2]⟩ ∧ SL w [] w_ [Bpc u0 r.1 (Bk7 v0_0 a0.Classes v0_1 a0.Akq v2 a2 u0)]) := by
 have s0 : SL w [] w [] := SL.Aq9 w
 refine cin func71 ntmps71 2 rfl rfl rfl fun _ F0 => ?_
 unfold Ba5 at H
 refine Ar F0 s0 rfl rfl rfl fun g8 w9 _ F s1 => gw 5 F rfl fun _ F => sck 0 rfl ?_
 obtain ⟨x0, h0, H⟩ := Aa H
 refine gc 3 F rfl fun _ F => gld F s1 m0 1 rfl fun _ F => gca F s1 (Brl (a0 := (⟨a0.Classes, a0.Akq, a0.Fn⟩ : Adb)) (hr0_0.Ajq s1) (hr0_1.Ajq s1) h0) 9 rfl rfl rfl rfl fun w0 _ F s2 => gif F H 11 6 rfl rfl rfl (fun h1 H _ F => ?_) (fun h1 H _ F => ?_)
 ·cases H
  exact rt F ⟨(.pointer none), rfl, (SL.Bdw s2).f1.drop⟩
 refine gx F (Ak rfl underlying42 (fR hr2 s2)) 3 rfl rfl fun _ F => gif F H 10 3 rfl rfl rfl (fun h2 H _ F => ?_) (fun h2 H _ F => ?_)
 ·cases H
  exact rt F ⟨(.pointer none), rfl, (SL.Bdw s2).f1.drop⟩
 obtain ⟨x1, h3, H⟩ := Aa H
 obtain ⟨x2, h4, H⟩ := Aa H
 refine AJp Aq8 s2 ?_
 obtain ⟨a3, c0, G0, h5, h6, h7, h8⟩ := Rd.idx hr0_1 APh rfl h3
 obtain ⟨v0, rfl, h9⟩ := (ARn h7 h8)
 have hc157_ := h6; clear h6; have h6 := fun w_ (hC : SL w [] w_ [Blk g8 110 [v0_0, v0_1, jI a0.Fn]]) => hc157_ _ _ hC
 refine hq [0, 1, 2, 3, 4, 5, 6, 7, 8, 9] F s2.drew (QI.ev 1 rfl <| QI.ld m0 rfl <| QI.ev 1 rfl <| QI.ld m0 rfl <| QI.ev 1 rfl <| QI.ld m0 rfl <| QI.ix h5 rfl <| QI.op rfl (fun _ hC => Ba Bad rfl) rfl <| QI.op rfl (fun _ hC => Ao AZ0 rfl (Aqa.at_ (h6 _ hC) (o := 0) rfl)) rfl <| QI.ev 1 rfl <| QI.nil) (by kernel_rfl) fun _ F => ?_
 refine ANb [0, 1, 2, 3, 4, 5, 6, 7, 8, 9, 10, 11, 12, 13, 14, 15] (fun a w_ => ∃ g0 : Nat, Fr a 88 [(2, v2), (3, jP g8), (10, jP g0), (38, jI x2.2)] ∧ SL w [] w_ [Blk g8 110 [v0_0, v0_1, jI a0.Fn], Blk g0 118 (jI x2.1.Locals :: jI x2.1.Height :: ev8 x2.1.Slots)]) ?_ fun hD0 => ?_
 ·rintro a w_ ⟨g0, F, s3⟩
  refine hq [16] F s3.f1.drop (QI.ev 1 rfl <| QI.nil) (by kernel_rfl) fun _ F => ?_
  refine ANu (by kernel_rfl) ?_
  refine ge 3 F rfl fun _ F => gld F s3 m0 1 rfl fun _ F => Bkk (Value.int .i64) (fun x : Aas => Value.agg ⟨(jI x.Locals :: jI x.Height :: ev8 x.Slots)⟩) F s3 rfl fun g1 w1 _ F s4 => gla F s4 m2 0 rfl fun _ F => Boi (k := 0) (u := (⟨x2.1.Locals, x2.1.Height, x2.1.Slots⟩ : Aas)) F s4 underlying150 AUo rfl rfl rfl fun w2 _ F s5 => gw 1 F rfl fun _ F => Bkk (Value.int .i64) (fun _ : Unit => Value.agg ⟨[]⟩) F s5 rfl fun g2 w3 _ F s6 => gx F (Al (vs := []) Bf8 Bkr rfl (cs := []) (rfl)) 0 rfl rfl fun _ F => Boi (k := 0) (u := ()) F s6 underlying151 AUo rfl rfl rfl fun w4 _ F s7 => gw 1 F rfl fun _ F => Bkk (Value.int .i64) (Value.int .i64) F s7 rfl fun g3 w5 _ F s8 => ?_
  have ha := (fR hr0_0 s8)
  have hb := (fR hr0_1 s8)
  have hc := (fR hr2 s8)
  refine gx F (Al (vs := [.agg ⟨[v0_0, v0_1, jI a0.Fn]⟩, v2, .map (some g1), .map (some g2), .map (some g3)]) Btn Bxe rfl (cs := [v0_0, v0_1, jI a0.Fn, v2, .map (some g1), .map (some g2), .map (some g3), jI 0]) (Bpb (pre := []) (zs := [.slice none 0 0, .slice none 0 0, jI 0]) (post := [.slice none 0 0, .map none, .map none, .map none, jI 0]) rfl rfl <| AN2 rfl (Ag hc) (by simp) <| AN2 rfl rfl (by simp) <| AN2 rfl rfl (by simp) <| AN2 rfl rfl (by simp) <| Ayf)) 0 rfl rfl fun _ F => ?_
  refine Ar F s8 rfl rfl rfl fun g4 w6 _ F s9 => ?_
  obtain ⟨o0, H0, R0⟩ := Aa H
  clear H
  refine gw 12 F rfl fun _ F => At9 (fun a w_ => ∃ v1 v3 v4 : Value, Rd Aef w [] v1 o0.1 ∧ Rd Ate w [] v3 o0.2.1 ∧ Rd Ty.u8 w [] v4 o0.2.2.2.1 ∧ A3a Aef v0_0 a0.Classes v1 o0.1 ∧ A3a Ate v0_1 a0.Akq v3 o0.2.1 ∧ A3a Ty.u8 v2 a2 v4 o0.2.2.2.1 ∧ Fr a 88 [(12, jP g4), (13, jI o0.2.2.2.2.2.2.2.2)] ∧ SL w [] w_ [Blk g4 154 [v1, v3, jI o0.2.2.1, v4, .map (some g1), .map (some g2), .map (some g3), jI o0.2.2.2.2.1], Mp (Value.int .i64) (fun x : Aas => Value.agg ⟨(jI x.Locals :: jI x.Height :: ev8 x.Slots)⟩) g1 o0.2.2.2.2.2.1, Mp (Value.int .i64) (fun _ : Unit => Value.agg ⟨[]⟩) g2 o0.2.2.2.2.2.2.1, Mp (Value.int .i64) (Value.int .i64) g3 o0.2.2.2.2.2.2.2.1]) ?_ ?_
  ·have H := H0
   refine gc 1 F rfl fun _ F => lpk (ARm a2) (fun sa a w_ => ∃ v5 v6 v7 : Value, Rd Aef w [] v5 sa.1 ∧ Rd Ate w [] v6 sa.2.1 ∧ Rd Ty.u8 w [] v7 sa.2.2.2.1 ∧ A3a Aef v0_0 a0.Classes v5 sa.1 ∧ A3a Ate v0_1 a0.Akq v6 sa.2.1 ∧ A3a Ty.u8 v2 a2 v7 sa.2.2.2.1 ∧ Fr a 88 [(2, v2), (12, jP g4), (13, jI sa.2.2.2.2.2.2.2.2)] ∧ SL w [] w_ [Blk g4 154 [v5, v6, jI sa.2.2.1, v7, .map (some g1), .map (some g2), .map (some g3), jI sa.2.2.2.2.1], Mp (Value.int .i64) (Value.int .i64) g3 sa.2.2.2.2.2.1, Mp (Value.int .i64) (fun _ : Unit => Value.agg ⟨[]⟩) g2 sa.2.2.2.2.2.2.1, Mp (Value.int .i64) (fun x : Aas => Value.agg ⟨(jI x.Locals :: jI x.Height :: ev8 x.Slots)⟩) g1 sa.2.2.2.2.2.2.2.1]) H ?_ ?_
   ·exact ⟨v0_0, v0_1, v2, hr0_0, hr0_1, hr2, A3a.refl, A3a.refl, A3a.refl, F.sb, s9.f4.drop.f4.drop⟩
   intro sa _ w7 hd o1 H hr
   obtain ⟨v5, v6, v7, he, hf, hg, hh, hi, hj, F, sc⟩ := hd
   replace H : ARm a2 sa = some o1 := H
   unfold ARm at H
   refine gc 6 F rfl fun _ F => gld F sc m0 0 rfl fun _ F => gx F (Bv1 sc m2 underlying151 rfl) 3 rfl rfl fun _ F => gif F H 6 4 rfl rfl rfl (fun hk H _ F => ?_) (fun hk H _ F => ?_)
   ·refine gx F (Ak rfl underlying42 (fR hr2 sc)) 9 rfl rfl fun _ F => gld F sc m0 0 rfl fun _ F => Bwv F sc.f2 underlying151 rfl rfl fun i0 w8 _ F sd => ?_
    obtain ⟨o2, H1, R1⟩ := Aa H
    clear H
    refine gw 2 F rfl fun _ F => At9 (fun a w_ => Fr a 88 [(2, v2), (12, jP g4), (14, jI o2)] ∧ SL w [] w_ [Mp (Value.int .i64) (fun _ : Unit => Value.agg ⟨[]⟩) g2 sa.2.2.2.2.2.2.1, Blk g4 154 [v5, v6, jI sa.2.2.1, v7, .map (some g1), .map (some g2), .map (some g3), jI sa.2.2.2.2.1], Mp (Value.int .i64) (Value.int .i64) g3 sa.2.2.2.2.2.1, Mp (Value.int .i64) (fun x : Aas => Value.agg ⟨(jI x.Locals :: jI x.Height :: ev8 x.Slots)⟩) g1 sa.2.2.2.2.2.2.2.1]) ?_ ?_
    ·have H := H1
     obtain ⟨o3, Hr, H2⟩ := Aa H
     refine gc 1 F rfl fun _ F => B1y (ARk) (fun j0 se a w_ => Fr a 88 [(2, v2), (12, jP g4), (14, jI se), (62, jP i0)] ∧ SL w [] w_ [Bdj (Value.int .i64) (fun _ : Unit => Value.agg ⟨[]⟩) g2 i0 sa.2.2.2.2.2.2.1 j0, Blk g4 154 [v5, v6, jI sa.2.2.1, v7, .map (some g1), .map (some g2), .map (some g3), jI sa.2.2.2.2.1], Mp (Value.int .i64) (Value.int .i64) g3 sa.2.2.2.2.2.1, Mp (Value.int .i64) (fun x : Aas => Value.agg ⟨(jI x.Locals :: jI x.Height :: ev8 x.Slots)⟩) g1 sa.2.2.2.2.2.2.2.1]) Hr ?_ ?_
     ·exact ⟨F.sb, sd⟩
     clear H Hr
     intro j0 se _ wa hl hm hn
     obtain ⟨F, sf⟩ := hl
     refine gc 2 F rfl fun _ F => Bzf F sf rfl rfl (fun _ hp F => ?_) (fun j1 p0 wb _ hs ht hu F sg => ?_)
     ·have H := B1g H2 (hm hp)
      try dsimp only at H
      have sh : SL w [] _ [Mp (Value.int .i64) (fun _ : Unit => Value.agg ⟨[]⟩) g2 sa.2.2.2.2.2.2.1, Blk g4 154 [v5, v6, jI sa.2.2.1, v7, .map (some g1), .map (some g2), .map (some g3), jI sa.2.2.2.2.1], Mp (Value.int .i64) (Value.int .i64) g3 sa.2.2.2.2.2.1, Mp (Value.int .i64) (fun x : Aas => Value.agg ⟨(jI x.Locals :: jI x.Height :: ev8 x.Slots)⟩) g1 sa.2.2.2.2.2.2.2.1] := (SL.unit sf)
      cases H
      exact gw 9 F rfl fun _ F => ⟨F.sb, sh⟩
     obtain ⟨o4, hv, hr0⟩ := hn j1 p0 hs ht hu
     replace hv : ARk p0 se = some o4 := hv
     have H := hv
     unfold ARk at H
     have hr := fun r' h => B1o H2 (hr0 r' h)
     clear hr0
     refine gw 10 F rfl fun _ F => gx F (Bxg sg m0 hs rfl) 7 rfl rfl fun _ F => ?_
     cases H
     exact gx F (Bz8 rfl rfl) 3 rfl rfl fun _ F => ⟨j1, p0, _, hs, ht, hu, hv, ⟨F.sb, sg⟩⟩
    intro _ wc hJ
    obtain ⟨F, si⟩ := hJ
    have H := R1
    clear R1 H1
    refine ge 6 F rfl fun _ F => gld F si m1 1 rfl fun _ F => Bt6 (k := o2) F si underlying151 AUo rfl rfl fun wd _ F sj => ?_
    obtain ⟨x3, hw, H⟩ := Aa H
    have sk := sj.f2.f1.f3.f3
    obtain ⟨G1, hx, hy, hz, h10⟩ := SL.open_ (ps := [Blk g4 154 [v5, v6, jI sa.2.2.1, v7, .map (some g1), .map (some g2), .map (some g3), jI sa.2.2.2.2.1], Mp (Value.int .i64) (fun x : Aas => Value.agg ⟨(jI x.Locals :: jI x.Height :: ev8 x.Slots)⟩) g1 sa.2.2.2.2.2.2.2.1, Mp (Value.int .i64) (fun _ : Unit => Value.agg ⟨[]⟩) g2 (AUg sa.2.2.2.2.2.2.1 o2), Mp (Value.int .i64) (Value.int .i64) g3 sa.2.2.2.2.2.1]) (rest := []) sk
    refine gw 6 F rfl fun _ F => std F (Beg (a0 := (⟨(⟨sa.1, sa.2.1, sa.2.2.1⟩ : Adb), sa.2.2.2.1, sa.2.2.2.2.2.2.2.1, (AUg sa.2.2.2.2.2.2.1 o2), sa.2.2.2.2.2.1, sa.2.2.2.2.1⟩ : Ald)) hx (he.pass sk hy) (hf.pass sk hy) (hg.pass sk hy) hw) fun v8 we _ h11 F => ?_
    obtain ⟨v9, va, vb, rfl, h12, h13, h14, h15⟩ := h11
    have sl := h10 _ _ h15
    have h16 := A3a.rd h12 he
    have h17 := A3a.trans hh h12
    have h18 := A3a.rd h13 hf
    have h19 := A3a.trans hi h13
    have h1a := A3a.rd h14 hg
    have h1b := A3a.trans hj h14
    refine gw 9 F rfl fun _ F => gif F H 4 2 rfl rfl rfl (fun h1c H _ F => ?_) (fun h1c H _ F => ?_)
    ·cases H
     obtain rfl := hr _ rfl
     exact ⟨v9, va, vb, h16, h18, h1a, h17, h19, h1b, F.sb, sl⟩
    cases H
    exact ⟨_, rfl, v9, va, vb, h16, h18, h1a, h17, h19, h1b, F.sb, sl.f1.f2.f3.f3⟩
   cases H
   obtain rfl := hr _ rfl
   exact ⟨v5, v6, v7, he, hf, hg, hh, hi, hj, F.sb, sc.f1.f2.f3.f3⟩
  intro _ wf hJ
  obtain ⟨v1, v3, v4, h1d, h1e, h1f, h1g, h1h, h1i, F, sm⟩ := hJ
  have H := R0
  clear R0 H0
  refine ge 8 F rfl fun _ F => gif F H 1 12 rfl rfl rfl (fun h1j H _ F => ?_) (fun h1j H _ F => ?_)
  ·refine ATo Aq8 sm F (QR.ev 3 rfl <| QR.ld m0 rfl <| QR.ev 4 rfl <| Bb) fun wg _ sn F => ?_
   cases H
   exact ge 4 F rfl fun _ F => rt F ⟨(.pointer none), rfl, (SL.Bdw sn).f1.drop.f1.drop.f1.drop.f1.drop⟩
  cases H
  exact rt F ⟨_, rfl, (SL.Brb (qs := [Blk g4 154 [v1, v3, jI o0.2.2.1, v4, .map (some g1), .map (some g2), .map (some g3), jI o0.2.2.2.2.1], Mp (Value.int .i64) (fun x : Aas => Value.agg ⟨(jI x.Locals :: jI x.Height :: ev8 x.Slots)⟩) g1 o0.2.2.2.2.2.1, Mp (Value.int .i64) (fun _ : Unit => Value.agg ⟨[]⟩) g2 o0.2.2.2.2.2.2.1, Mp (Value.int .i64) (Value.int .i64) g3 o0.2.2.2.2.2.2.2.1]) ⟨g4, g1, g2, g3, v1, v3, v4, rfl, h1g, h1h, h1i, rfl⟩ sm.f3.f3.f3.f3)⟩
 refine ho2 10 14 rfl rfl (by kernel_rfl) ?_ ?_
 ·refine gca F s2.drew (AY0 (hr0_0.Ajq s2.drew) (h9.Ajq s2.drew) h4) 1 rfl rfl rfl rfl fun wh _ F so => ⟨so, ?_⟩
  refine hq [11, 12, 13] F so (QI.ev 3 rfl <| QI.nil) (by kernel_rfl) fun _ F => ?_
  refine ho 14 rfl (by kernel_rfl) ?_
  refine Af F so Ajp rfl rfl fun g0 wi _ F sp => gw 1 F rfl fun _ F => ⟨sp.drop, ?_⟩
  refine ho 15 rfl (by kernel_rfl) ?_
  refine Akj (ds := (jI x2.1.Locals :: jI x2.1.Height :: ev8 x2.1.Slots)) F sp rfl rfl (by simpa using Amy) (Ab rfl (Ab rfl (Ape _))) (by simp) fun wj _ F sq => ?_
  exact gw 1 F rfl fun _ F => ⟨sq.drop, hto hD0 ⟨g0, F.sb, sq.f1⟩ (by kernel_rfl)⟩
 refine Af F s2.drew Ajp rfl rfl fun g0 wi _ F sp => gw 1 F rfl fun _ F => ⟨sp.drop, ?_⟩
 refine ho 10 rfl (by kernel_rfl) ?_
 refine gca F sp (AY0 (hr0_0.Ajq sp) (h9.Ajq sp) h4) 1 rfl rfl rfl rfl fun wh _ F so => ⟨so.drop, ?_⟩
 refine hq [11, 12, 13] F so.drop (QI.ev 3 rfl <| QI.nil) (by kernel_rfl) fun _ F => ?_
 refine ho 15 rfl (by kernel_rfl) ?_
 refine Akj (ds := (jI x2.1.Locals :: jI x2.1.Height :: ev8 x2.1.Slots)) F so rfl rfl (by simpa using Amy) (Ab rfl (Ab rfl (Ape _))) (by simp) fun wj _ F sq => ?_
 exact gw 1 F rfl fun _ F => ⟨sq.drop, hto hD0 ⟨g0, F.sb, sq.f1⟩ (by kernel_rfl)⟩
theorem Bos {w : World} {v0_0 v0_1 v2 : Value} {a0 : Adb} {a1 : Int} {a2 : List UInt8} {r : (List A1g) × Int × Int} (hr0_0 : Rd Aef w [] v0_0 a0.Classes) (hr0_1 : Rd Ate w [] v0_1 a0.Akq) (hr2 : Rd Ty.u8 w [] v2 a2) (H : AZr a0 a1 a2 = some r) :
    Calls prog 47 #[.agg ⟨[v0_0, v0_1, jI a0.Fn]⟩, jI a1, v2] w (Ret fun u_ w_ => ∃ u0 : Value, u_ = .tuple ⟨[u0, jI r.2.1, jI r.2.2]⟩ ∧ SL w [] w_ [Sl AOd u0 r.1]) := by
 have s0 : SL w [] w [] := SL.Aq9 w
 refine cin func47 ntmps47 2 rfl rfl rfl fun _ F0 => ?_
 unfold AZr at H
 refine Ar F0 s0 rfl rfl rfl fun g8 w9 _ F s1 => ?_
 obtain ⟨x0, h0, H⟩ := Aa H
 refine gw 7 F rfl fun _ F => gld F s1 m0 2 rfl fun _ F => std F (Bm7 (a0 := (⟨a0.Classes, a0.Akq, a0.Fn⟩ : Adb)) (hr0_0.Ajq s1) (hr0_1.Ajq s1) (hr2.Ajq s1) h0) fun v0 w0 _ h1 F => ?_
 obtain ⟨v1, rfl, h2⟩ := h1
 have s2 := s1.add h2
 refine gw 16 F rfl fun _ F => gif F H 11 9 rfl rfl rfl (fun h3 H _ F => ?_) (fun h3 H _ F => ?_)
 ·cases H
  exact rt F ⟨(.slice none 0 0), rfl, (SL.Axc (T := AOd) s2).f1.drop.f1.drop⟩
 obtain ⟨x1, h4, H⟩ := Aa H
 obtain ⟨_, ⟨g0, g1, g2, g3, v3, v4, v5, rfl, h5, h6, h7, rfl⟩, s3⟩ := SL.Bsx s2 h4
 have h8 := A3a.rd h5 hr0_0
 have h9 := A3a.rd h6 hr0_1
 have ha := A3a.rd h7 hr2
 refine gc 4 F rfl fun _ F => gld F s3 m0 0 rfl fun _ F => As (args := [.tmp 30]) F Bzd rfl (Bxi Bju) rfl fun v6 w1 _ hb F => ?_
 obtain ⟨g4, hc, hd⟩ := hb
 obtain rfl : v6 = clo 107 [jP g4] := hc
 have s4 : SL w [] _ [Blk g4 150 [.map (some g1)], Blk g0 154 [v3, v4, jI x1.e.Fn, v5, .map (some g1), .map (some g2), .map (some g3), jI x1.A3i], Mp (Value.int .i64) (fun x : Aas => Value.agg ⟨(jI x.Locals :: jI x.Height :: ev8 x.Slots)⟩) g1 x1.frames, Mp (Value.int .i64) (fun _ : Unit => Value.agg ⟨[]⟩) g2 x1.fresh, Mp (Value.int .i64) (Value.int .i64) g3 x1.taken, Blk g8 110 [v0_0, v0_1, jI a0.Fn]] := SL.add s3 hd
 obtain ⟨x2, he, H⟩ := Aa H
 obtain ⟨G0, hf, hg, hh, hi⟩ := SL.open_ (ps := [Mp (Value.int .i64) (fun x : Aas => Value.agg ⟨(jI x.Locals :: jI x.Height :: ev8 x.Slots)⟩) g1 x1.frames, Blk g4 150 [.map (some g1)]]) (rest := [Blk g0 154 [v3, v4, jI x1.e.Fn, v5, .map (some g1), .map (some g2), .map (some g3), jI x1.A3i], Mp (Value.int .i64) (fun _ : Unit => Value.agg ⟨[]⟩) g2 x1.fresh, Mp (Value.int .i64) (Value.int .i64) g3 x1.taken, Blk g8 110 [v0_0, v0_1, jI a0.Fn]]) s4.f2
 refine As (args := [.tmp 31]) F Bz5 rfl (Btg Brm Bju Bg2 rfl Byk Bmn Bwh hf he) rfl fun v7 w2 _ hj F => ?_
 have s5 : SL w [] _ [Mp (Value.int .i64) (fun x : Aas => Value.agg ⟨(jI x.Locals :: jI x.Height :: ev8 x.Slots)⟩) g1 x1.frames, Sl (Ty.int .i64) v7 x2, Blk g0 154 [v3, v4, jI x1.e.Fn, v5, .map (some g1), .map (some g2), .map (some g3), jI x1.A3i], Mp (Value.int .i64) (fun _ : Unit => Value.agg ⟨[]⟩) g2 x1.fresh, Mp (Value.int .i64) (Value.int .i64) g3 x1.taken, Blk g8 110 [v0_0, v0_1, jI a0.Fn]] := hi _ _ hj
 obtain ⟨o0, H0, R0⟩ := Aa H
 clear H
 refine gx F (Ak rfl underlying28 (fO s5 m1)) 3 rfl rfl fun _ F => At9 (fun a w_ => ∃ v8 : Value, Fr a 51 [(12, v8)] ∧ SL w [] w_ [Mp (Value.int .i64) (fun x : Aas => Value.agg ⟨(jI x.Locals :: jI x.Height :: ev8 x.Slots)⟩) g1 x1.frames, Mp (Value.int .i64) (fun _ : Unit => Value.agg ⟨[]⟩) g2 x1.fresh, Mp (Value.int .i64) (Value.int .i64) g3 x1.taken, Sl AOd v8 o0]) ?_ ?_
 ·have H := H0
  refine gc 1 F rfl fun _ F => lpk (ASb x1 x2) (fun s6 a w_ => ∃ v9 : Value, Fr a 51 [(9, jP g0), (12, v9), (32, v7), (33, jI (x2.length : Int)), (34, jI s6.2)] ∧ SL w [] w_ [Mp (Value.int .i64) (fun x : Aas => Value.agg ⟨(jI x.Locals :: jI x.Height :: ev8 x.Slots)⟩) g1 x1.frames, Sl (Ty.int .i64) v7 x2, Blk g0 154 [v3, v4, jI x1.e.Fn, v5, .map (some g1), .map (some g2), .map (some g3), jI x1.A3i], Mp (Value.int .i64) (fun _ : Unit => Value.agg ⟨[]⟩) g2 x1.fresh, Mp (Value.int .i64) (Value.int .i64) g3 x1.taken, Sl AOd v9 s6.1]) H ?_ ?_
  ·exact ⟨(.slice none 0 0), F.sb, (SL.Axc (T := AOd) s5).f6.drop.f5.f5.f5.f5.f5⟩
  intro s6 _ w3 hk o1 H hr
  obtain ⟨v9, F, s7⟩ := hk
  replace H : ASb x1 x2 s6 = some o1 := H
  unfold ASb at H
  refine gc 6 F rfl fun _ F => gif F H 6 4 rfl rfl rfl (fun hl H _ F => ?_) (fun hl H _ F => ?_)
  ·obtain ⟨x3, hm, H⟩ := Aa H
   obtain ⟨a3, hn, ho⟩ := Ax (Flat.int .i64) s7 m1 Awy rfl hm
   refine gi F hn 0 rfl fun _ F => gx F (Ao AAd rfl (Aqa.at_ (SL.AN4 (Flat.int .i64) s7 m1 ho hm) (o := 0) rfl)) 9 rfl rfl fun _ F => gld F s7 m2 1 rfl fun _ F => gx F (Bod (k := x3) (z0 := (⟨(0 : Int), (0 : Int), (Vector.replicate 24 (0 : UInt8))⟩ : Aas)) s7 m0 underlying150 AUo Bkt rfl rfl) 0 rfl rfl fun _ F => ?_
   refine gx F (Al (vs := [jI x3, .agg ⟨(jI (((A92 x1.frames x3).getD (⟨(0 : Int), (0 : Int), (Vector.replicate 24 (0 : UInt8))⟩ : Aas)).Locals) :: jI (((A92 x1.frames x3).getD (⟨(0 : Int), (0 : Int), (Vector.replicate 24 (0 : UInt8))⟩ : Aas)).Height) :: ev8 (((A92 x1.frames x3).getD (⟨(0 : Int), (0 : Int), (Vector.replicate 24 (0 : UInt8))⟩ : Aas)).Slots))⟩]) Bf9 Bqe rfl (cs := (jI x3 :: .bool false :: jI (((A92 x1.frames x3).getD (⟨(0 : Int), (0 : Int), (Vector.replicate 24 (0 : UInt8))⟩ : Aas)).Locals) :: jI (((A92 x1.frames x3).getD (⟨(0 : Int), (0 : Int), (Vector.replicate 24 (0 : UInt8))⟩ : Aas)).Height) :: ev8 (((A92 x1.frames x3).getD (⟨(0 : Int), (0 : Int), (Vector.replicate 24 (0 : UInt8))⟩ : Aas)).Slots))) (AN2 rfl rfl (by simp) <| Bpb (pre := [jI x3, .bool false]) (zs := jZ) (post := []) (by first | rfl | simp) (by simp) <| (by first | exact Ayf | simp [Ayf]))) 0 rfl rfl fun _ F => ?_
   refine Ae (parts := [(0, .tmp 46)]) ARz ([(⟨x3, false, (⟨((A92 x1.frames x3).getD (⟨(0 : Int), (0 : Int), (Vector.replicate 24 (0 : UInt8))⟩ : Aas)).Locals, ((A92 x1.frames x3).getD (⟨(0 : Int), (0 : Int), (Vector.replicate 24 (0 : UInt8))⟩ : Aas)).Height, ((A92 x1.frames x3).getD (⟨(0 : Int), (0 : Int), (Vector.replicate 24 (0 : UInt8))⟩ : Aas)).Slots⟩ : Aas)⟩ : A1g)] : List A1g) F s7 AYo rfl (by decide) rfl rfl rfl (by simp [Value.cells]) rfl rfl rfl fun va w4 _ F s8 => ?_
   obtain ⟨x4, hp, H⟩ := Aa H
   obtain ⟨_, hr_⟩ := (s8.f6.A59 m1)
   refine Av ARz F s8.f6 AYo rfl rfl rfl rfl hr_ rfl rfl hp rfl fun vb w5 _ F s9 => ?_
   have s2277' := s9.f1.drop
   cases H
   exact gw 8 F rfl fun _ F => ⟨_, rfl, vb, F.sb, s2277'.f5.f5.f5.f5.f5⟩
  cases H
  obtain rfl := hr _ rfl
  exact ⟨v9, F.sb, s7.f1.drop.f1.drop⟩
 intro _ w6 hJ
 obtain ⟨v8, F, sa⟩ := hJ
 have H := R0
 clear R0 H0
 cases H
 exact ge 10 F rfl fun _ F => rt F ⟨v8, rfl, sa.drop.drop.drop⟩
def Bo0 (v : Value) (s : AP8) (qs : List Ck) : Prop := ∃ k0 : Nat, ∃ v0 : Value, v = jP k0 ∧ qs = [Blk k0 81 [v0, jI s.AXh], Sl AE1 v0 s.l]
theorem Bo9 {w : World} {v0_1 v0_2 v0_3 : Value} {a0 : Aha} {a1 : Int} {r : (Option AP8) × Int × Int} (hr0_1 : Rd Aef w [] v0_1 a0.Classes) (hr0_2 : Rd AAt w [] v0_2 a0.Funcs) (hr0_3 : Rd (Ty.slice Ty.u8) w [] v0_3 a0.AF4) (H : Ba0 a0 a1 = some r) :
    Calls prog 26 #[.agg ⟨[.string ⟨⟨a0.Name⟩⟩, v0_1, v0_2, v0_3]⟩, jI a1] w (Ret fun u_ w_ => ∃ u0 : Value, u_ = .tuple ⟨[u0, jI r.2.1, jI r.2.2]⟩ ∧ SL w [] w_ [Bpc u0 r.1 (Bo0 u0)]) := by
 have s0 : SL w [] w [] := SL.Aq9 w
 refine cin func26 ntmps26 2 rfl rfl rfl fun _ F0 => ?_
 unfold Ba0 at H
 refine Ar F0 s0 rfl rfl rfl fun g8 w9 _ F s1 => ?_
 obtain ⟨x0, h0, H⟩ := Aa H
 refine gw 7 F rfl fun _ F => gld F s1 m0 1 rfl fun _ F => std F (Brv (a0 := (⟨a0.Name, a0.Classes, a0.Funcs, a0.AF4⟩ : Aha)) (hr0_1.Ajq s1) (hr0_2.Ajq s1) (hr0_3.Ajq s1) h0) fun v0 w0 _ h1 F => ?_
 obtain ⟨v1, v2, rfl, h2⟩ := h1
 have s2 := s1.add h2
 refine gw 3 F rfl fun _ F => Af F s2 AR5 rfl rfl fun g0 w1 _ F s3 => Ah F s3 rfl rfl AV0 (Ab (Aq (fO s3 m1)) (Ab (Aq (fO s3 m2)) (Ab rfl Ap))) (Ac rfl) fun w2 _ F s4 => gw 10 F rfl fun _ F => gif F H 9 4 rfl rfl rfl (fun h3 H _ F => ?_) (fun h3 H _ F => ?_)
 ·cases H
  exact rt F ⟨(.pointer none), rfl, (SL.Bdw s4).f1.drop.f1.drop.f1.drop.f1.drop⟩
 obtain ⟨x1, h4, H⟩ := Aa H
 obtain ⟨a2, c0, G0, h5, h6, h7, h8⟩ := Rd.idx hr0_2 AXp rfl h4
 obtain ⟨v3, v4, rfl, h9, ha⟩ := (AXc h7 h8)
 replace h6 := h6 _ _ s4
 refine gw 1 F rfl fun _ F => gld F s4 m3 1 rfl fun _ F => gi F h5 0 rfl fun _ F => gx F (Aw AZ3 rfl h6 rfl) 0 rfl rfl fun _ F => Af F s4 Bb8 rfl rfl fun g1 w3 _ F s5 => Ah F s5 rfl rfl Bev (Ab rfl (Ab (Aq (fR h9 s5)) (Ab rfl (Ab rfl (Ab (Aq (fR ha s5)) Ap))))) (Ac rfl) fun w4 _ F s6 => ?_
 obtain ⟨x2, hb, H⟩ := Aa H
 refine gw 4 F rfl fun _ F => gld F s6 m1 1 rfl fun _ F => gld F s6 m0 1 rfl fun _ F => gld F s6 m0 0 rfl fun _ F => std F (Bos (a0 := (⟨x0.1.Classes, x0.1.Akq, x0.1.Fn⟩ : Adb)) (s6.rd0 m2) (s6.rd0 m3) (ha.Ajq s6) hb) fun v5 w5 _ hc F => ?_
 obtain ⟨v6, rfl, hd⟩ := hc
 have s7 := s6.add hd
 refine gw 16 F rfl fun _ F => gif F H 11 4 rfl rfl rfl (fun he H _ F => ?_) (fun he H _ F => ?_)
 ·cases H
  exact rt F ⟨(.pointer none), rfl, (SL.Bdw s7).f1.drop.f1.drop.f1.drop.f1.drop.f1.drop.f1.drop⟩
 refine gx F (Al (vs := []) Bu1 B0c rfl (cs := [.slice none 0 0, jI 0]) (rfl)) 0 rfl rfl fun _ F => Ar F s7 rfl rfl rfl fun g2 w6 _ F s8 => gw 7 F rfl fun _ F => ?_
 obtain ⟨o0, H0, R0⟩ := Aa H
 clear H
 refine gx F (Ak rfl underlying113 (fO s8 m1)) 3 rfl rfl fun _ F => At9 (fun a w_ => ∃ v7 : Value, Fr a 84 [(13, jP g2)] ∧ SL w [] w_ [Blk g2 81 [v7, jI o0.2], Sl AE1 v7 o0.1]) ?_ ?_
 ·have H := H0
  refine gc 1 F rfl fun _ F => lpk (AT0 x1 x2) (fun s9 a w_ => ∃ v8 : Value, Fr a 84 [(9, jP g1), (13, jP g2), (47, v6), (48, jI (x2.1.length : Int)), (49, jI s9.2.2)] ∧ SL w [] w_ [Blk g2 81 [v8, jI s9.2.1], Sl AOd v6 x2.1, Blk g1 52 [.string ⟨⟨x1.Name⟩⟩, v3, jU (x1.Sig.Result.toNat : Int), jI x1.Locals, v4], Sl AE1 v8 s9.1]) H ?_ ?_
  ·exact ⟨(.slice none 0 0), F.sb, (SL.Axc (T := AE1) s8).f4.drop.f4.drop.f4.drop.f4.drop.f3.f3.f3⟩
  intro s9 _ w7 hf o1 H hr
  obtain ⟨v8, F, sa⟩ := hf
  replace H : AT0 x1 x2 s9 = some o1 := H
  unfold AT0 at H
  refine gc 6 F rfl fun _ F => gif F H 6 4 rfl rfl rfl (fun hg H _ F => ?_) (fun hg H _ F => ?_)
  ·obtain ⟨x3, hh, H⟩ := Aa H
   obtain ⟨a3, hi, hj⟩ := Ax ARz sa m1 AYo rfl hh
   refine gi F hi 0 rfl fun _ F => ?_
   refine gx F (Aw Bu2 rfl (SL.AN4 ARz sa m1 hj hh) (by simp)) 0 rfl rfl fun _ F => ?_
   refine Af F sa Bf9 rfl rfl fun g3 w8 _ F sc => ?_
   refine Akj (ds := (jI x3.At :: .bool x3.Dead :: jI x3.Frame.Locals :: jI x3.Frame.Height :: ev8 x3.Frame.Slots)) F sc rfl rfl (by simpa using Bxt) (Ab rfl (Ab rfl (Ab rfl (Ab rfl (Ape _))))) (by simp) fun wa _ F sd => ?_
   obtain ⟨x4, hk, H⟩ := Aa H
   refine gw 5 F rfl fun _ F => gld F sd m3 1 rfl fun _ F => gld F sd m0 0 rfl fun _ F => gca F sd (Bgr (ha.Ajq sd) hk) 3 rfl rfl rfl rfl fun wb _ F se => Af F se APa rfl rfl fun g4 wc _ F sf => Ah F sf rfl rfl AOo (Ab rfl (Ab rfl (Ab rfl (Ab rfl Ap)))) (Ac rfl) fun wd _ F sg => ?_
   obtain ⟨x5, hl, H⟩ := Aa H
   refine gw 4 F rfl fun _ F => AJp Aq8 sg.f2.drop.f4.drop ?_
   have sh := sg.drew
   refine hq [0, 1, 2, 3, 5] F sh.f2.drop.f4.drop (QI.ev 4 rfl <| QI.ld m0 rfl <| QI.nil) (by kernel_rfl) fun _ F => ?_
   refine ANb [0, 1, 2, 3, 4, 5, 6] (fun a w_ => ∃ v9 : Value, Fr a 84 [(9, jP g1), (13, jP g2), (15, jP g3), (47, v6), (48, jI (x2.1.length : Int)), (49, jI s9.2.2), (61, jP g2), (65, v8), (67, v9)] ∧ SL w [] w_ [Blk g4 79 [jI x4.1.At, jU (x4.1.Op.toNat : Int), jI x4.1.A, jI x4.1.B], Blk g3 120 (jI x3.At :: .bool x3.Dead :: jI x3.Frame.Locals :: jI x3.Frame.Height :: ev8 x3.Frame.Slots), Sl AOd v6 x2.1, Blk g1 52 [.string ⟨⟨x1.Name⟩⟩, v3, jU (x1.Sig.Result.toNat : Int), jI x1.Locals, v4], Sl AE1 v9 ([(⟨x4.1.At, x4.1.Op, x4.1.A, x4.1.B⟩ : Ads)] : List Ads), Blk g2 81 [v8, jI s9.2.1], Sl AE1 v8 s9.1]) ?_ fun hD0 => ?_
   ·rintro a w_ ⟨v9, F, si⟩
    refine ho 7 rfl (by kernel_rfl) ?_
    obtain ⟨_, hr_⟩ := (si.f6.A59 m5)
    refine Av AR2 F si.f6 Bab rfl rfl rfl rfl hr_ rfl rfl hl rfl fun va we _ F sj => ?_
    have s10860618' := sj.f5.drop
    refine gw 1 F rfl fun _ F => ⟨s10860618'.drop.f4.drop, ?_⟩
    refine hq [8, 9] F s10860618'.drop.f4.drop (QI.ev 2 rfl <| QI.nil) (by kernel_rfl) fun _ F => ?_
    refine ho 10 rfl (by kernel_rfl) ?_
    have sk := s10860618'.f5
    refine Ay F sk rfl rfl By6 (Ag (fO sk m1)) (Aq (fO sk m1)) rfl fun wf _ F sl => gw 1 F rfl fun _ F => ⟨sl.drop.drop, ?_⟩
    refine ANu (by kernel_rfl) ?_
    refine ge 1 F rfl fun _ F => AJp Aq8 sl.drop ?_
    have sm := sl.drew
    refine hq [0, 1, 2, 3, 5, 6, 7] F sm.drop (QI.ev 6 rfl <| QI.ld m2 rfl <| QI.nil) (by kernel_rfl) fun _ F => ?_
    refine ho 4 rfl (by kernel_rfl) ?_
    refine gld F sm m0 1 rfl fun _ F => ⟨sm.drop, ?_⟩
    refine hq [8, 9, 10] F sm.drop (QI.op rfl (fun _ hC => Bzr rfl rfl) rfl <| QI.ev 2 rfl <| QI.nil) (by kernel_rfl) fun _ F => ?_
    refine ho 11 rfl (by kernel_rfl) ?_
    refine Ay F sm rfl rfl AYu rfl rfl rfl fun wg _ F sn => gw 1 F rfl fun _ F => ⟨sn.drop, ?_⟩
    refine ANu (by kernel_rfl) ?_
    cases H
    exact ge 6 F rfl fun _ F => ⟨_, rfl, va, F.sb, sn.f2.drop.f2.drop.f1.f3.f3.f3⟩
   refine ho2 4 6 rfl rfl (by kernel_rfl) ?_ ?_
   ·refine gld F sh m2 1 rfl fun _ F => ⟨sh.f2.drop.f4.drop, ?_⟩
    refine ho 6 rfl (by kernel_rfl) ?_
    refine Ae (parts := [(0, .tmp 66)]) AR2 ([(⟨x4.1.At, x4.1.Op, x4.1.A, x4.1.B⟩ : Ads)] : List Ads) F sh Bab rfl (by decide) rfl rfl rfl (by simp [Value.cells]) rfl rfl rfl fun v9 wh _ F so => ?_
    exact gw 1 F rfl fun _ F => ⟨so.drop.f2.drop.f4.drop, hto hD0 ⟨v9, F.sb, so.f6.f4.f2.f6.f6.f6.f6⟩ (by kernel_rfl)⟩
   refine Ae (parts := [(0, .tmp 66)]) AR2 ([(⟨x4.1.At, x4.1.Op, x4.1.A, x4.1.B⟩ : Ads)] : List Ads) F sh Bab rfl (by decide) rfl rfl rfl (by simp [Value.cells]) rfl rfl rfl fun v9 wh _ F so => ?_
   refine gw 1 F rfl fun _ F => ⟨so.drop.f2.drop.f4.drop, ?_⟩
   refine ho 4 rfl (by kernel_rfl) ?_
   exact gld F so m3 1 rfl fun _ F => ⟨so.drop.f2.drop.f4.drop, hto hD0 ⟨v9, F.sb, so.f6.f4.f2.f6.f6.f6.f6⟩ (by kernel_rfl)⟩
  cases H
  obtain rfl := hr _ rfl
  exact ⟨v8, F.sb, sa.f1.drop.f1.drop⟩
 intro _ wi hJ
 obtain ⟨v7, F, sp⟩ := hJ
 have H := R0
 clear R0 H0
 cases H
 exact ge 10 F rfl fun _ F => rt F ⟨_, rfl, (SL.Brb (qs := [Blk g2 81 [v7, jI o0.2], Sl AE1 v7 o0.1]) ⟨g2, v7, rfl, rfl⟩ sp.f1.f1)⟩
theorem Bg7 {w : World} {FF : List Nat} {g0 : Nat} {v0_0 : Value} {a0 : AP8} {r : (List Int)} (hst : Aru [Blk g0 81 [v0_0, jI a0.AXh], Sl AE1 v0_0 a0.l] w FF) (H : AUv a0 = some r) :
    Calls prog 27 #[jP g0] w (Ret fun u_ w_ => ∃ u0 : Value, u_ = u0 ∧ SL w FF w_ [Blk g0 81 [v0_0, jI a0.AXh], Sl AE1 v0_0 a0.l, Sl (Ty.int .i64) u0 r]) := by
 have s0 : SL w FF w [Blk g0 81 [v0_0, jI a0.AXh], Sl AE1 v0_0 a0.l] := SL.init w FF hst
 refine cin func27 ntmps27 16 rfl rfl rfl fun _ F => ?_
 unfold AUv at H
 refine gld F s0 m0 0 rfl fun _ F => ?_
 obtain ⟨o0, H0, R0⟩ := Aa H
 clear H
 refine gx F (Ak rfl underlying75 (fO s0 m1)) 3 rfl rfl fun _ F => At9 (fun a w_ => ∃ v0 : Value, Fr a 28 [(3, v0)] ∧ SL w FF w_ [Blk g0 81 [v0_0, jI a0.AXh], Sl AE1 v0_0 a0.l, Sl (Ty.int .i64) v0 o0]) ?_ ?_
 ·have H := H0
  refine gc 1 F rfl fun _ F => lpk (AQl a0) (fun s1 a w_ => ∃ v1 : Value, Fr a 28 [(3, v1), (9, v0_0), (10, jI (a0.l.length : Int)), (11, jI s1.2)] ∧ SL w FF w_ [Blk g0 81 [v0_0, jI a0.AXh], Sl AE1 v0_0 a0.l, Sl (Ty.int .i64) v1 s1.1]) H ?_ ?_
  ·exact ⟨(.slice none 0 0), F.sb, (SL.Axc (T := (Ty.int .i64)) s0).f2.f2⟩
  intro s1 _ w0 h0 o1 H hr
  obtain ⟨v1, F, s2⟩ := h0
  replace H : AQl a0 s1 = some o1 := H
  unfold AQl at H
  refine gc 6 F rfl fun _ F => gif F H 6 4 rfl rfl rfl (fun h1 H _ F => ?_) (fun h1 H _ F => ?_)
  ·obtain ⟨x0, h2, H⟩ := Aa H
   obtain ⟨a1, h3, h4⟩ := Ax AR2 s2 m1 Bab rfl h2
   refine gi F h3 0 rfl fun _ F => gx F (Aw AQ3 rfl (SL.AN4 AR2 s2 m1 h4 h2) rfl) 0 rfl rfl fun _ F => Af F s2 APa rfl rfl fun g1 w1 _ F s3 => Ah F s3 rfl rfl AOo (Ab rfl (Ab rfl (Ab rfl (Ab rfl Ap)))) (Ac rfl) fun w2 _ F s4 => gw 5 F rfl fun _ F => gld F s4 m0 3 rfl fun _ F => gif F H 3 7 rfl rfl rfl (fun h5 H _ F => ?_) (fun h5 H _ F => ?_)
   ·refine gld F s4 m0 0 rfl fun _ F => ?_
    refine Ae (parts := [(0, .tmp 20)]) (Flat.int .i64) ([x0.A] : List Int) F s4 Awy rfl (by decide) rfl rfl rfl (by simp [Value.cells]) rfl rfl rfl fun v2 w3 _ F s5 => ?_
    obtain ⟨x1, h6, H⟩ := Aa H
    obtain ⟨_, hr_⟩ := (s5.f4.A59 m1)
    refine Av (Flat.int .i64) F s5.f4 Awy rfl rfl rfl rfl hr_ rfl rfl h6 rfl fun v3 w4 _ F s6 => ?_
    have s3264' := s6.f1.drop
    cases H
    exact gw 8 F rfl fun _ F => ⟨_, rfl, v3, F.sb, s3264'.f1.drop.f2.f2⟩
   cases H
   exact ⟨_, rfl, v1, F.sb, s4.drop⟩
  cases H
  obtain rfl := hr _ rfl
  exact ⟨v1, F.sb, s2⟩
 intro _ w5 hJ
 obtain ⟨v0, F, s7⟩ := hJ
 have H := R0
 clear R0 H0
 obtain ⟨x2, h7, H⟩ := Aa H
 obtain ⟨G0, h8, h9, ha, hb⟩ := SL.open_ (ps := [Sl (Ty.int .i64) v0 o0]) (rest := [Blk g0 81 [v0_0, jI a0.AXh], Sl AE1 v0_0 a0.l]) s7.f2
 refine ge 4 F rfl fun _ F => As (args := [.tmp 24]) F Bmn rfl (Bqh Bg2 h8 h7) rfl fun v4 w6 _ hc F => ?_
 obtain ⟨rfl, hd⟩ := hc
 have s8 := hb _ _ hd
 obtain ⟨x3, he, H⟩ := Aa H
 obtain ⟨G1, hf, hg, hh, hi⟩ := SL.open_ (ps := [Sl (Ty.int .i64) v0 x2]) (rest := [Blk g0 81 [v0_0, jI a0.AXh], Sl AE1 v0_0 a0.l]) s8
 refine gw 5 F rfl fun _ F => As (args := [.tmp 26]) F Bsc rfl (Bjn Bhu hf he) rfl fun v5 w7 _ hj F => ?_
 have s9 := hi _ _ hj
 cases H
 exact gw 4 F rfl fun _ F => rt F ⟨v5, rfl, s9.f2.f2⟩
theorem Beq {w : World} {v0 : Value} {a0 : List Int} {a1 : Int} {r : Int} (hr0 : Rd (Ty.int .i64) w [] v0 a0) (H : AUh a0 a1 = some r) :
    Calls prog 51 #[v0, jI a1] w (Ret fun u_ w_ => u_ = jI r ∧ SL w [] w_ []) := by
 have s0 : SL w [] w [] := SL.Aq9 w
 refine cin func51 ntmps51 9 rfl rfl rfl fun _ F => ?_
 unfold AUh at H
 obtain ⟨o0, H0, R0⟩ := Aa H
 clear H
 refine gx F (Ak rfl underlying28 (fR hr0 s0)) 3 rfl rfl fun _ F => At9 (fun a w_ => ∃ p0 : Unit, o0 = .inr (p0) ∧ Fr a 19 [] ∧ SL w [] w_ []) ?_ ?_
 ·have H := H0
  refine gc 1 F rfl fun _ F => lpk (AOv a0 a1) (fun s1 a w_ => Fr a 19 [(0, v0), (1, jI a1), (7, jI (a0.length : Int)), (8, jI s1)] ∧ SL w [] w_ []) H ?_ ?_
  ·exact ⟨F.sb, s0⟩
  intro s1 _ w0 h0 o1 H hr
  obtain ⟨F, s2⟩ := h0
  replace H : AOv a0 a1 s1 = some o1 := H
  unfold AOv at H
  refine gc 6 F rfl fun _ F => gif F H 15 4 rfl rfl rfl (fun h1 H _ F => ?_) (fun h1 H _ F => ?_)
  ·obtain ⟨x0, h2, H⟩ := Aa H
   obtain ⟨a2, h3, h4⟩ := AT7 (Flat.int .i64) (Bl hr0 s2) Awy rfl h2
   refine gi F h3 0 rfl fun _ F => gx F (Ao AAd rfl (Aqa.at_ h4 (o := 0) rfl)) 3 rfl rfl fun _ F => gif F H 13 7 rfl rfl rfl (fun h5 H _ F => ?_) (fun h5 H _ F => ?_)
   ·cases H
    obtain rfl := hr _ rfl
    replace H := R0
    try dsimp only at H
    cases H
    exact rt F ⟨rfl, s2⟩
   cases H
   exact ⟨_, rfl, F.sb, s2⟩
  cases H
  obtain rfl := hr _ rfl
  exact ⟨_, rfl, F.sb, s2⟩
 intro _ w1 hJ
 obtain ⟨p0, rfl, F, s3⟩ := hJ
 have H := R0
 clear R0 H0
 try dsimp only at H
 cases H
 exact ge 7 F rfl fun _ F => rt F ⟨rfl, s3⟩
theorem Bcw {w : World} {v0 : Value} {a0 : List Int} {a1 : Int} {r : Bool} (hr0 : Rd (Ty.int .i64) w [] v0 a0) (H : APv a0 a1 = some r) :
    Calls prog 28 #[v0, jI a1] w (Ret fun u_ w_ => u_ = .bool r ∧ SL w [] w_ []) := by
 have s0 : SL w [] w [] := SL.Aq9 w
 refine cin func28 ntmps28 9 rfl rfl rfl fun _ F => ?_
 unfold APv at H
 obtain ⟨x0, h0, H⟩ := Aa H
 refine gca F s0 (Beq (hr0.Ajq s0) h0) 5 rfl rfl rfl rfl fun w0 _ F s1 => ?_
 cases H
 exact rt F ⟨rfl, s1⟩
theorem Bek {w : World} {v0 : Value} {a0 : List Int} {r : (List Int)} (hr0 : Rd (Ty.int .i64) w [] v0 a0) (H : AUi a0 = some r) :
    Calls prog 52 #[v0] w (Ret fun u_ w_ => ∃ u0 : Value, u_ = u0 ∧ SL w [] w_ [Sl (Ty.int .i64) u0 r]) := by
 have s0 : SL w [] w [] := SL.Aq9 w
 refine cin func52 ntmps52 9 rfl rfl rfl fun _ F => ?_
 unfold AUi at H
 obtain ⟨A0, c0, h0⟩ := AVo (Bl hr0 s0)
 refine gx F (Bd5 rfl h0 rfl underlying28) 2 rfl rfl fun _ F => Bl4 F rfl (fun h1 => ?_) (fun h1 => ?_)
 ·have h2 := Blp (Bl hr0 s0) h0 (by simpa using h1)
  replace H := Bgj (B := some ([] : List Int)) H (by simp [h2, app])
  cases H
  exact gc 7 F rfl fun _ F => rt F ⟨(.slice none 0 0), rfl, (SL.Axc (T := (Ty.int .i64)) s0)⟩
 refine gc 4 F rfl fun _ F => ?_
 refine Ae (parts := []) (Flat.int .i64) ([] : List Int) F s0 Awy rfl (by decide) rfl rfl rfl (by simp [Value.cells]) rfl rfl rfl fun v1 w0 _ F s1 => ?_
 obtain ⟨x0, h3, H⟩ := Aa H
 obtain ⟨_, hr_⟩ := (Bl hr0 s1)
 refine gw 1 F rfl fun _ F => Av (Flat.int .i64) F s1 Awy rfl rfl rfl rfl hr_ rfl rfl h3 rfl fun v2 w1 _ F s2 => ?_
 cases H
 exact gw 4 F rfl fun _ F => rt F ⟨v2, rfl, s2⟩
theorem Bo1 {w : World} {v0 v1 : Value} {a0 : List (List Int)} {a1 : List Int} {r : (List Int)} (hr0 : Rd (Ty.slice (Ty.int .i64)) w [] v0 a0) (hr1 : Rd (Ty.int .i64) w [] v1 a1) (H : AXo a0 a1 = some r) :
    Calls prog 29 #[v0, v1] w (Ret fun u_ w_ => ∃ u0 : Value, u_ = u0 ∧ SL w [] w_ [Sl (Ty.int .i64) u0 r]) := by
 have s0 : SL w [] w [] := SL.Aq9 w
 refine cin func29 ntmps29 8 rfl rfl rfl fun _ F => ?_
 unfold AXo at H
 obtain ⟨x0, h0, H⟩ := Aa H
 refine gx F (Ak rfl underlying64 (fR hr0 s0)) 0 rfl rfl fun _ F => Au Flat.bool false F s0 A73 rfl rfl AFl rfl rfl rfl h0 rfl fun v2 w0 _ F s1 => ?_
 obtain ⟨x1, h1, H⟩ := Aa H
 refine gw 6 F rfl fun _ F => std F (Bek (hr1.Ajq s1) h1) fun v3 w1 _ h2 F => ?_
 obtain ⟨_, rfl, h3⟩ := h2
 have s2 := s1.add h3
 obtain ⟨o0, H0, R0⟩ := Aa H
 clear H
 refine gw 4 F rfl fun _ F => At9 (fun a w_ => ∃ v4 : Value, Fr a 51 [(5, v4)] ∧ SL w [] w_ [Sl Ty.bool v4 o0]) ?_ ?_
 ·have H := H0
  refine gc 1 F rfl fun _ F => lpk (ARc a0) (fun s3 a w_ => ∃ v5 v6 : Value, Fr a 51 [(0, v0), (5, v5), (6, v6)] ∧ SL w [] w_ [Sl Ty.bool v5 s3.1, Sl (Ty.int .i64) v6 s3.2]) H ?_ ?_
  ·exact ⟨v2, v3, F.sb, s2.f1⟩
  intro s3 _ w2 h4 o1 H hr
  obtain ⟨v5, v6, F, s4⟩ := h4
  replace H : ARc a0 s3 = some o1 := H
  unfold ARc at H
  refine gc 4 F rfl fun _ F => gx F (Ak rfl underlying28 (fO s4 m1)) 3 rfl rfl fun _ F => gif F H 6 4 rfl rfl rfl (fun h5 H _ F => ?_) (fun h5 H _ F => ?_)
  ·obtain ⟨x2, h6, H⟩ := Aa H
   obtain ⟨a2, h7, h8⟩ := Ax (Flat.int .i64) s4 m1 Awy rfl h6
   refine gi F h7 0 rfl fun _ F => ?_
   obtain ⟨x3, h9, H⟩ := Aa H
   obtain ⟨v7, ha, s5⟩ := SL.B1b s4.f1 Awy rfl h9 (some 1) none (.inl rfl) (.inr ⟨rfl, rfl⟩)
   refine gx F (Ao AAd rfl (Aqa.at_ (SL.AN4 (Flat.int .i64) s4 m1 h8 h6) (o := 0) rfl)) 6 rfl rfl fun _ F => ?_
   obtain ⟨x4, hb, H⟩ := Aa H
   obtain ⟨a3, hc, hd⟩ := Ax Flat.bool s5 m1 A73 rfl hb
   refine gx F (ha _ _ _ _ _ .i64 .i64 _ _ _ _ _ rfl rfl trivial) 8 rfl rfl fun _ F => gi F hc 0 rfl fun _ F => gx F (Ao Bbo rfl (Aqa.at_ (SL.AN4 Flat.bool s5 m1 hd hb) (o := 0) rfl)) 2 rfl rfl fun _ F => gif F H 3 6 rfl rfl rfl (fun he H _ F => ?_) (fun he H _ F => ?_)
   ·cases H
    exact ⟨_, rfl, v5, v7, F.sb, s5.f1⟩
   obtain ⟨x5, hf, H⟩ := Aa H
   obtain ⟨a4, hg, hh⟩ := Ax Flat.bool s5 m1 A73 rfl hf
   refine gi F hg 0 rfl fun _ F => ?_
   refine Bf (y' := true) Flat.bool F s5.f1 hh hf rfl rfl (by rfl) AYa fun w3 _ F s6 => ?_
   obtain ⟨x6, hi, H⟩ := Aa H
   obtain ⟨a5, c0, G0, hj, hk, hl, hm⟩ := Rd.idx hr0 Bah rfl hi
   refine gw 3 F rfl fun _ F => ?_
   obtain ⟨v8, rfl, hn⟩ := (Bf4 hl hm)
   replace hk := hk _ _ s6
   obtain ⟨x7, ho, H⟩ := Aa H
   refine gw 3 F rfl fun _ F => gi F hj 0 rfl fun _ F => gx F (Ao Bf0 rfl (Aqa.at_ hk (o := 0) rfl)) 0 rfl rfl fun _ F => ?_
   obtain ⟨_, hr_⟩ := (Bl hn s6.f1)
   refine Av (Flat.int .i64) F s6.f1 Awy rfl rfl rfl rfl hr_ rfl rfl ho rfl fun v9 w4 _ F s7 => ?_
   cases H
   exact gw 3 F rfl fun _ F => ⟨_, rfl, v5, v9, F.sb, s7.f1⟩
  cases H
  obtain rfl := hr _ rfl
  exact ⟨v5, F.sb, s4.f1.drop⟩
 intro _ w5 hJ
 obtain ⟨v4, F, s8⟩ := hJ
 have H := R0
 clear R0 H0
 refine ge 10 F rfl fun _ F => ?_
 obtain ⟨o2, H1, R1⟩ := Aa H
 clear H
 refine gx F (Ak rfl underlying44 (fO s8 m0)) 3 rfl rfl fun _ F => At9 (fun a w_ => ∃ va : Value, Fr a 51 [(8, va)] ∧ SL w [] w_ [Sl (Ty.int .i64) va o2]) ?_ ?_
 ·have H := H1
  refine gc 1 F rfl fun _ F => lpk (AS9 o0) (fun s9 a w_ => ∃ vb : Value, Fr a 51 [(8, vb), (37, v4), (38, jI (o0.length : Int)), (39, jI s9.2)] ∧ SL w [] w_ [Sl Ty.bool v4 o0, Sl (Ty.int .i64) vb s9.1]) H ?_ ?_
  ·exact ⟨(.slice none 0 0), F.sb, (SL.Axc (T := (Ty.int .i64)) s8).f1⟩
  intro s9 _ w6 hp o3 H hr
  obtain ⟨vb, F, sa⟩ := hp
  replace H : AS9 o0 s9 = some o3 := H
  unfold AS9 at H
  refine gc 6 F rfl fun _ F => gif F H 7 4 rfl rfl rfl (fun hq H _ F => ?_) (fun hq H _ F => ?_)
  ·obtain ⟨x8, hs, H⟩ := Aa H
   obtain ⟨a6, ht, hu⟩ := Ax Flat.bool sa m0 A73 rfl hs
   refine gi F ht 0 rfl fun _ F => gx F (Ao Bbo rfl (Aqa.at_ (SL.AN4 Flat.bool sa m0 hu hs) (o := 0) rfl)) 9 rfl rfl fun _ F => gif F H 3 7 rfl rfl rfl (fun hv H _ F => ?_) (fun hv H _ F => ?_)
   ·refine Ae (parts := [(0, .tmp 46)]) (Flat.int .i64) ([s9.2] : List Int) F sa Awy rfl (by decide) rfl rfl rfl (by simp [Value.cells]) rfl rfl rfl fun vc w7 _ F sc => ?_
    obtain ⟨x9, hw, H⟩ := Aa H
    obtain ⟨_, hr_⟩ := (sc.f2.A59 m1)
    refine Av (Flat.int .i64) F sc.f2 Awy rfl rfl rfl rfl hr_ rfl rfl hw rfl fun vd w8 _ F sd => ?_
    have s3896' := sd.f1.drop
    cases H
    exact gw 8 F rfl fun _ F => ⟨_, rfl, vd, F.sb, s3896'.f1⟩
   cases H
   exact ⟨_, rfl, vb, F.sb, sa⟩
  cases H
  obtain rfl := hr _ rfl
  exact ⟨vb, F.sb, sa.drop⟩
 intro _ w9 hJ
 obtain ⟨va, F, se⟩ := hJ
 have H := R1
 clear R1 H1
 cases H
 exact ge 8 F rfl fun _ F => rt F ⟨va, rfl, se⟩
theorem Bow {w : World} {v0_1 v0_2 v0_3 : Value} {a0 : Aha} {r : (List Int) × Int × Int} (hr0_1 : Rd Aef w [] v0_1 a0.Classes) (hr0_2 : Rd AAt w [] v0_2 a0.Funcs) (hr0_3 : Rd (Ty.slice Ty.u8) w [] v0_3 a0.AF4) (H : Bbu a0 = some r) :
    Calls prog 9 #[.agg ⟨[.string ⟨⟨a0.Name⟩⟩, v0_1, v0_2, v0_3]⟩] w (Ret fun u_ w_ => ∃ u0 : Value, u_ = .tuple ⟨[u0, jI r.2.1, jI r.2.2]⟩ ∧ SL w [] w_ [Sl (Ty.int .i64) u0 r.1]) := by
 have s0 : SL w [] w [] := SL.Aq9 w
 refine cin func9 ntmps9 2 rfl rfl rfl fun _ F0 => ?_
 unfold Bbu at H
 refine Ar F0 s0 rfl rfl rfl fun g8 w9 _ F s1 => gw 14 F rfl fun _ F => gld F s1 m0 0 rfl fun _ F => ?_
 obtain ⟨o0, H0, R0⟩ := Aa H
 clear H
 refine gx F (Ak rfl underlying23 (fR hr0_2 s1)) 3 rfl rfl fun _ F => At9 (fun a w_ => ∃ p0 : (List (List Int)), o0 = .inr (p0) ∧ ∃ v0 : Value, Fr a 54 [(5, v0)] ∧ SL w [] w_ [Sl (Ty.slice (Ty.int .i64)) v0 p0]) ?_ ?_
 ·have H := H0
  refine gc 1 F rfl fun _ F => lpk (ARg a0) (fun s2 a w_ => ∃ v1 : Value, Fr a 54 [(1, jP g8), (5, v1), (14, jI (a0.Funcs.length : Int)), (15, jI s2.2)] ∧ SL w [] w_ [Blk g8 26 [.string ⟨⟨a0.Name⟩⟩, v0_1, v0_2, v0_3], Sl (Ty.slice (Ty.int .i64)) v1 s2.1]) H ?_ ?_
  ·exact ⟨(.slice none 0 0), F.sb, (SL.Axc (T := (Ty.slice (Ty.int .i64))) s1).f1⟩
  intro s2 _ w0 h0 o1 H hr
  obtain ⟨v1, F, s3⟩ := h0
  replace H : ARg a0 s2 = some o1 := H
  unfold ARg at H
  refine gc 6 F rfl fun _ F => gif F H 12 4 rfl rfl rfl (fun h1 H _ F => ?_) (fun h1 H _ F => ?_)
  ·obtain ⟨x0, h2, H⟩ := Aa H
   refine gld F s3 m0 1 rfl fun _ F => std F (Bo9 (a0 := (⟨a0.Name, a0.Classes, a0.Funcs, a0.AF4⟩ : Aha)) (hr0_1.Ajq s3) (hr0_2.Ajq s3) (hr0_3.Ajq s3) h2) fun v2 w1 _ h3 F => ?_
   obtain ⟨v3, rfl, h4⟩ := h3
   have s4 := s3.add h4
   refine gw 16 F rfl fun _ F => gif F H 17 2 rfl rfl rfl (fun h5 H _ F => ?_) (fun h5 H _ F => ?_)
   ·cases H
    obtain rfl := hr _ rfl
    replace H := R0
    try dsimp only at H
    cases H
    exact rt F ⟨(.slice none 0 0), rfl, (SL.Axc (T := (Ty.int .i64)) s4).f1.drop.f1.drop.f1.drop⟩
   obtain ⟨x1, h6, H⟩ := Aa H
   obtain ⟨_, ⟨g0, v4, rfl, rfl⟩, s5⟩ := SL.Bsx s4 h6
   obtain ⟨x2, h7, H⟩ := Aa H
   obtain ⟨G0, h8, h9, ha, hb⟩ := SL.open_ (ps := [Blk g0 81 [v4, jI x1.AXh], Sl AE1 v4 x1.l]) (rest := [Blk g8 26 [.string ⟨⟨a0.Name⟩⟩, v0_1, v0_2, v0_3], Sl (Ty.slice (Ty.int .i64)) v1 s2.1]) s5.f1.f1
   refine gc 3 F rfl fun _ F => std F (Bg7 (a0 := (⟨x1.l, x1.AXh⟩ : AP8)) h8 h7) fun v5 w2 _ hc F => ?_
   obtain ⟨_, rfl, hd⟩ := hc
   have s6 := hb _ _ hd
   have he := (fO s6 m2)
   have s7 : SL w [] _ (Dt (Ty.slice (Ty.int .i64)) x2 [v5] :: [Blk g0 81 [v4, jI x1.AXh], Sl AE1 v4 x1.l, Blk g8 26 [.string ⟨⟨a0.Name⟩⟩, v0_1, v0_2, v0_3], Sl (Ty.slice (Ty.int .i64)) v1 s2.1]) := (SL.dsl s6.f2)
   refine Bc F s7 Bah rfl (by decide) rfl (Ag he) rfl fun v6 w3 _ F s8 => ?_
   obtain ⟨x3, hf, H⟩ := Aa H
   refine Bd F s8.f4 Bah rfl rfl rfl rfl rfl rfl hf rfl fun v7 w4 _ F s9 => ?_
   cases H
   exact gw 8 F rfl fun _ F => ⟨_, rfl, v7, F.sb, s9.f1.drop.f1.drop.f1⟩
  cases H
  obtain rfl := hr _ rfl
  exact ⟨_, rfl, v1, F.sb, s3.drop⟩
 intro _ w5 hJ
 obtain ⟨p0, rfl, v0, F, sa⟩ := hJ
 have H := R0
 clear R0 H0
 try dsimp only at H
 refine ge 10 F rfl fun _ F => ?_
 obtain ⟨o2, H1, R1⟩ := Aa H
 clear H
 refine gx F (Ak rfl underlying64 (fO sa m0)) 3 rfl rfl fun _ F => At9 (fun a w_ => ∃ v8 : Value, Fr a 54 [(10, v8)] ∧ SL w [] w_ [Sl (Ty.int .i64) v8 o2]) ?_ ?_
 ·have H := H1
  refine gc 1 F rfl fun _ F => lpk (ARe p0) (fun sc a w_ => ∃ v9 : Value, Fr a 54 [(5, v0), (10, v9), (36, jI (p0.length : Int)), (37, jI sc.2)] ∧ SL w [] w_ [Sl (Ty.slice (Ty.int .i64)) v0 p0, Sl (Ty.int .i64) v9 sc.1]) H ?_ ?_
  ·exact ⟨(.slice none 0 0), F.sb, (SL.Axc (T := (Ty.int .i64)) sa).f1⟩
  intro sc _ w6 hg o3 H hr
  obtain ⟨v9, F, sd⟩ := hg
  replace H : ARe p0 sc = some o3 := H
  unfold ARe at H
  refine gc 6 F rfl fun _ F => gif F H 12 4 rfl rfl rfl (fun hh H _ F => ?_) (fun hh H _ F => ?_)
  ·obtain ⟨x4, hi, H⟩ := Aa H
   obtain ⟨a1, c0, G1, hj, hk, hl, hm⟩ := Rd.idx (sd.rd0 m0) Bah rfl hi
   obtain ⟨va, rfl, hn⟩ := (Bf4 hl hm)
   replace hk := hk _ _ (SL.Aq9 _)
   obtain ⟨x5, ho, H⟩ := Aa H
   refine gw 3 F rfl fun _ F => gi F hj 0 rfl fun _ F => gx F (Ao Bf0 rfl (Aqa.at_ hk (o := 0) rfl)) 0 rfl rfl fun _ F => std F (Bo1 (sd.rd0 m0) hn ho) fun vb w7 _ hp F => ?_
   obtain ⟨_, rfl, hq⟩ := hp
   have se := sd.add hq
   obtain ⟨x6, hs, H⟩ := Aa H
   refine gw 1 F rfl fun _ F => gca F se (Bcw (se.rd0 m0) hs) 2 rfl rfl rfl rfl fun w8 _ F sf => gif F H 3 7 rfl rfl rfl (fun ht H _ F => ?_) (fun ht H _ F => ?_)
   ·refine Ae (parts := [(0, .tmp 49)]) (Flat.int .i64) ([sc.2] : List Int) F sf Awy rfl (by decide) rfl rfl rfl (by simp [Value.cells]) rfl rfl rfl fun vc wa _ F sg => ?_
    obtain ⟨x7, hu, H⟩ := Aa H
    obtain ⟨_, hr_⟩ := (sg.f3.A59 m1)
    refine Av (Flat.int .i64) F sg.f3 Awy rfl rfl rfl rfl hr_ rfl rfl hu rfl fun vd wb _ F sh => ?_
    have s9017' := sh.f1.drop
    cases H
    exact gw 8 F rfl fun _ F => ⟨_, rfl, vd, F.sb, s9017'.f1.drop.f1⟩
   cases H
   exact ⟨_, rfl, v9, F.sb, sf.drop⟩
  cases H
  obtain rfl := hr _ rfl
  exact ⟨v9, F.sb, sd.drop⟩
 intro _ wc hJ
 obtain ⟨v8, F, si⟩ := hJ
 have H := R1
 clear R1 H1
 cases H
 exact ge 10 F rfl fun _ F => rt F ⟨v8, rfl, si⟩
theorem Bc3 {w : World} {v0_1 v0_2 v0_3 : Value} {a0 : Aha} {r : Bool} (hr0_1 : Rd Aef w [] v0_1 a0.Classes) (hr0_2 : Rd AAt w [] v0_2 a0.Funcs) (hr0_3 : Rd (Ty.slice Ty.u8) w [] v0_3 a0.AF4) (H : APy a0 = some r) :
    Calls prog 3 #[.agg ⟨[.string ⟨⟨a0.Name⟩⟩, v0_1, v0_2, v0_3]⟩] w (Ret fun u_ w_ => u_ = .bool r ∧ SL w [] w_ []) := by
 have s0 : SL w [] w [] := SL.Aq9 w
 refine cin func3 ntmps3 2 rfl rfl rfl fun _ F0 => ?_
 unfold APy at H
 refine Ar F0 s0 rfl rfl rfl fun g8 w9 _ F s1 => ?_
 obtain ⟨x0, h0, H⟩ := Aa H
 refine gw 5 F rfl fun _ F => gld F s1 m0 0 rfl fun _ F => std F (Be7 (a0 := (⟨a0.Name, a0.Classes, a0.Funcs, a0.AF4⟩ : Aha)) (hr0_1.Ajq s1) (hr0_2.Ajq s1) (hr0_3.Ajq s1) h0) fun v0 w0 _ h1 F => ?_
 obtain ⟨v1, v2, v3, rfl, h2⟩ := h1
 have s2 := s1.add h2
 refine Af F s2 AYb rfl rfl fun g0 w1 _ F s3 => Ah F s3 rfl rfl Bnk (Ab rfl (Ab (Aq (fO s3 m1)) (Ab (Aq (fO s3 m2)) (Ab (Aq (fO s3 m3)) Ap)))) (Ac rfl) fun w2 _ F s4 => ?_
 obtain ⟨x1, h3, H⟩ := Aa H
 refine gw 4 F rfl fun _ F => gld F s4 m0 0 rfl fun _ F => std F (Bow (a0 := (⟨x0.Name, x0.Classes, x0.Funcs, x0.AF4⟩ : Aha)) (s4.rd0 m1) (s4.rd0 m2) (s4.rd0 m3) h3) fun v4 w3 _ h4 F => ?_
 obtain ⟨v5, rfl, h5⟩ := h4
 have s5 := s4.add h5
 obtain ⟨x2, h6, H⟩ := Aa H
 refine gw 11 F rfl fun _ F => gld F s5 m5 0 rfl fun _ F => std F (Bgf (a0 := (⟨a0.Name, a0.Classes, a0.Funcs, a0.AF4⟩ : Aha)) (hr0_1.Ajq s5) (hr0_2.Ajq s5) (hr0_3.Ajq s5) h6) fun v6 w4 _ h7 F => ?_
 obtain ⟨v7, rfl, h8⟩ := h7
 have s6 := s5.add h8
 obtain ⟨x3, h9, H⟩ := Aa H
 refine gw 13 F rfl fun _ F => gca F s6 (Bes (s6.rd0 m1) (s6.rd0 m0) h9) 1 rfl rfl rfl rfl fun w5 _ F s7 => bsp 27 F H (fun ha H F => ?_) (fun ha H F => ?_)
 ·refine gw 5 F rfl fun _ F => bsp 32 F H (fun hb H F => ?_) (fun hb H F => ?_)
  ·refine gw 5 F rfl fun _ F => bsp 37 F H (fun hc H F => ?_) (fun hc H F => ?_)
   ·refine Afv F rfl rfl <| gld F s7 m2 0 rfl fun _ F => Afv F rfl rfl <| gld F s7 m6 0 rfl fun _ F => ?_
    obtain ⟨x4, hd, H⟩ := Aa H
    refine Afv F rfl rfl <| gca F s7 (Bc0 (a0 := (⟨x0.Name, x0.Classes, x0.Funcs, x0.AF4⟩ : Aha)) (a1 := (⟨a0.Name, a0.Classes, a0.Funcs, a0.AF4⟩ : Aha)) (s7.rd0 m3) (s7.rd0 m4) (s7.rd0 m5) (hr0_1.Ajq s7) (hr0_2.Ajq s7) (hr0_3.Ajq s7) hd) 5 rfl rfl rfl rfl fun w6 _ F s8 => ?_
    cases H
    exact rt F ⟨rfl, s8.drop.drop.drop.drop.drop.drop.drop⟩
   cases H
   exact gw 8 F rfl fun _ F => rt F ⟨rfl, s7.drop.drop.drop.drop.drop.drop.drop⟩
  cases H
  exact gw 13 F rfl fun _ F => rt F ⟨rfl, s7.drop.drop.drop.drop.drop.drop.drop⟩
 cases H
 exact gw 18 F rfl fun _ F => rt F ⟨rfl, s7.drop.drop.drop.drop.drop.drop.drop⟩
end Go.Proofs.YtfcpkcehecmcpaaGreat
