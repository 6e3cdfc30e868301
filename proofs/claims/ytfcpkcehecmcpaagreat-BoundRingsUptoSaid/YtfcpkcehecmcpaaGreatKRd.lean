/- Lemmas, walks and laws that the row of this claim rests on, merged into few texts: part 4. -/
import Derived.Test.YtfcpkcehecmcpaaGreatKRc
set_option linter.unusedVariables false
set_option linter.unusedSimpArgs false
namespace Go.Proofs.YtfcpkcehecmcpaaGreat
open Go Go.RowKit Go.Pv Go.Proofs.Tryz
open Go.Pv renaming bind_ok → Aa, Bke → Ab, Bhz → Ae, Bkv → Af, Bf5 → Ag, Bd6 → Ah, Bp8 → Ai, AY4 → Aj, Bp2 → Ak, Bk4 → Al, Bll → Ao, Bmz → Ap, Bks → Aq, Ba8 → Ar, Be4 → As, Bm5 → Au, Bdh → Av, Bbs → Aw, Bne → Ax, Bdu → Ay, Bi1 → Az, Blf → Ba, Bfw → Bc, Bcl → Bd, bool_split → Be, Bj5 → Bf, Bm0 → Bg, Bd2 → Bh, Bkj → Bi, Bde → Bj, Bea → Bk, rdL → Bl
open Nat renaming le_of_ble_eq_true → Ac
open Bool renaming noConfusion → Ad
open Go.Pv.RV renaming blk → Am, tmp → An
open Go.Pv.QR renaming nil → Bb
theorem Bhv {w : World} {v0_1 v0_2 v0_3 : Value} {a0 : Aha} {a1 : Int} {r : Adb × Bool} {wb : World} {Fb : List Nat} (hb : Fm wb Fb w) (hB : ∀ k ∈ ([] : List Nat), k ∈ Fb ∨ wb.heap.size ≤ k) (hr0_1 : Rd Aef wb Fb v0_1 a0.Classes) (hr0_2 : Rd AAt wb Fb v0_2 a0.Funcs) (hr0_3 : Rd (Ty.slice Ty.u8) wb Fb v0_3 a0.AF4) (H : AVa a0 a1 = some r) :
    Calls prog 55 #[.agg ⟨[.string ⟨⟨a0.Name⟩⟩, v0_1, v0_2, v0_3]⟩, jI a1] w (Ret fun u_ w_ => ∃ u0 u1 : Value, u_ = .tuple ⟨[.agg ⟨[u0, u1, jI r.1.Fn]⟩, .bool r.2]⟩ ∧ A3a Aef v0_1 a0.Classes u0 r.1.Classes ∧ SL w [] w_ [Sl (APe wb Fb) u1 r.1.Akq]) := by
 have s0 : SL w [] w [] := SL.Aq9 w
 refine cin func55 ntmps55 2 rfl rfl rfl fun _ F0 => ?_
 unfold AVa at H
 refine Ar F0 s0 rfl rfl rfl fun g0 w0 _ F s1 => Af F s1 AR5 rfl rfl fun g1 w2 _ F s2 => gw 9 F rfl fun _ F => bsp 10 F H (fun h0 H F => ?_) (fun h0 H F => ?_)
 ·refine gw 11 F rfl fun _ F => gx F (Al (vs := []) AR5 Bbi rfl (cs := [.slice none 0 0, .slice none 0 0, jI 0]) (rfl)) 0 rfl rfl fun _ F => Ah F s2 rfl rfl AV0 (Ab rfl (Ab rfl (Ab rfl Ap))) (Ac rfl) fun w3 _ F s3 => ?_
  cases H
  refine gw 5 F rfl fun _ F => ?_
  refine Aj (rs := [.cell 4 110, .tmp 5]) (vs := [.agg ⟨[.slice none 0 0, .slice none 0 0, jI 0]⟩, .bool false]) F (by rfl) ⟨_, _, rfl, Am s3 m0 rfl AX6 rfl, _, _, rfl, An rfl, rfl⟩ ⟨_, rfl, ⟨(.slice none 0 0), (.slice none 0 0), rfl, A3a.nil, (SL.Axc (T := (APe wb Fb)) s3).f1.drop.f1.drop⟩⟩
 refine gw 2 F rfl fun _ F => Afv F rfl rfl <| gld F s2 m1 0 rfl fun _ F => Afv F rfl rfl <| gx F (Ak rfl underlying23 (AVo (Bl hr0_2 (SL.up hb hB s2)))) 4 rfl rfl fun _ F => gif F H 2 5 rfl rfl rfl (fun h1 H _ F => ?_) (fun h1 H _ F => ?_)
 ·refine gx F (Al (vs := []) AR5 Bbi rfl (cs := [.slice none 0 0, .slice none 0 0, jI 0]) (rfl)) 0 rfl rfl fun _ F => Ah F s2 rfl rfl AV0 (Ab rfl (Ab rfl (Ab rfl Ap))) (Ac rfl) fun w4 _ F s4 => ?_
  cases H
  refine gw 5 F rfl fun _ F => ?_
  refine Aj (rs := [.cell 4 110, .tmp 5]) (vs := [.agg ⟨[.slice none 0 0, .slice none 0 0, jI 0]⟩, .bool false]) F (by rfl) ⟨_, _, rfl, Am s4 m0 rfl AX6 rfl, _, _, rfl, An rfl, rfl⟩ ⟨_, rfl, ⟨(.slice none 0 0), (.slice none 0 0), rfl, A3a.nil, (SL.Axc (T := (APe wb Fb)) s4).f1.drop.f1.drop⟩⟩
 have h2 := (AVo (Bl hr0_1 (SL.up hb hB s2)))
 refine gld F s2 m1 1 rfl fun _ F => ?_
 refine gx F (Al (vs := [v0_1, jI a1]) AR5 Bbi rfl (cs := [v0_1, .slice none 0 0, jI a1]) (by obtain ⟨_, _, e_0⟩ := h2; rw [e_0] <;> rfl)) 0 rfl rfl fun _ F => ?_
 refine Af F s2 AR5 rfl rfl fun g2 w5 _ F s5 => Ah F s5 rfl rfl AV0 (Ab (Aq (AVo (Bl hr0_1 (SL.up hb hB s5)))) (Ab rfl (Ab rfl Ap))) (Ac rfl) fun w6 _ F s6 => ?_
 obtain ⟨o0, H0, R0⟩ := Aa H
 clear H
 refine gw 8 F rfl fun _ F => At9 (fun a w_ => ∃ v0 : Value, Fr a 41 [(4, jP g1), (6, jP g2)] ∧ SL w [] w_ [Blk g2 110 [v0_1, v0, jI a1], Blk g1 110 [.slice none 0 0, .slice none 0 0, jI 0], Sl (APe wb Fb) v0 o0]) ?_ ?_
 ·have H := H0
  refine gc 1 F rfl fun _ F => lpk (ARt a0) (fun s7 a w_ => ∃ v1 : Value, Fr a 41 [(2, jP g0), (4, jP g1), (6, jP g2), (7, jI s7.2)] ∧ SL w [] w_ [Blk g2 110 [v0_1, v1, jI a1], Blk g1 110 [.slice none 0 0, .slice none 0 0, jI 0], Blk g0 26 [.string ⟨⟨a0.Name⟩⟩, v0_1, v0_2, v0_3], Sl (APe wb Fb) v1 s7.1]) H ?_ ?_
  ·exact ⟨(.slice none 0 0), F.sb, (SL.Axc (T := (APe wb Fb)) s6).f3.f3.f3⟩
  intro s7 _ w7 h3 o1 H hr
  obtain ⟨v1, F, s8⟩ := h3
  replace H : ARt a0 s7 = some o1 := H
  unfold ARt at H
  refine gc 5 F rfl fun _ F => gld F s8 m2 0 rfl fun _ F => gx F (Ak rfl underlying23 (AVo (Bl hr0_2 (SL.up hb hB s8)))) 3 rfl rfl fun _ F => gif F H 4 4 rfl rfl rfl (fun h4 H _ F => ?_) (fun h4 H _ F => ?_)
  ·obtain ⟨x0, h5, H⟩ := Aa H
   obtain ⟨x1, h6, H⟩ := Aa H
   refine AJp Aq8 s8.drop.f2.drop ?_
   have s9 := s8.drew
   obtain ⟨a2, c0, G0, h7, h8, h9, ha⟩ := Rd.idx hr0_2 AXp rfl h5
   obtain ⟨v2, v3, rfl, hc, hd⟩ := (AXc h9 ha)
   have hc5868_ := h8; clear h8; have h8 := fun w_ (hC : SL w [] w_ [Blk g1 110 [.slice none 0 0, .slice none 0 0, jI 0], Blk g0 26 [.string ⟨⟨a0.Name⟩⟩, v0_1, v0_2, v0_3]]) => hc5868_ _ _ (SL.up hb hB hC)
   refine hq [0, 2, 3, 4, 5, 6, 7] F s9.drop.f2.drop (QI.ev 2 rfl <| QI.ld m1 rfl <| QI.ev 1 rfl <| QI.ix h7 rfl <| QI.op rfl (fun _ hC => Ba Bum rfl) rfl <| QI.op rfl (fun _ hC => Aw AV1 rfl (Aqa.sub (h8 _ hC) 1 (ds := [v2, jU (x0.Sig.Result.toNat : Int)]) (Bdg _ rfl)) rfl) rfl <| QI.nil) (by kernel_rfl) fun _ F => ?_
   refine ANb [0, 1, 2, 3, 4, 5, 6, 7, 8] (fun a w_ => ∃ v4 : Value, Fr a 41 [(2, jP g0), (4, jP g1), (6, jP g2), (7, jI s7.2), (30, v1), (37, v4)] ∧ SL w [] w_ [Blk g1 110 [.slice none 0 0, .slice none 0 0, jI 0], Blk g0 26 [.string ⟨⟨a0.Name⟩⟩, v0_1, v0_2, v0_3], Sl (APe wb Fb) v4 ([(⟨x0.Sig.Ars, x0.Sig.Result⟩ : Am7)] : List Am7), Blk g2 110 [v0_1, v1, jI a1], Sl (APe wb Fb) v1 s7.1]) ?_ fun hD0 => ?_
   ·rintro a w_ ⟨v4, F, sa⟩
    refine ho 9 rfl (by kernel_rfl) ?_
    refine Bd F sa.f2.f4 APh rfl rfl rfl rfl rfl rfl h6 rfl fun v5 w8 _ F sc => gw 1 F rfl fun _ F => ⟨sc.drop.f2.drop, ?_⟩
    refine hq [10] F sc.drop.f2.drop (QI.ev 1 rfl <| QI.nil) (by kernel_rfl) fun _ F => ?_
    refine ho 11 rfl (by kernel_rfl) ?_
    refine Ay F sc.f3 rfl rfl Bpy (Ag (fO sc.f3 m1)) (Aq (fO sc.f3 m1)) rfl fun w9 _ F sd => gw 1 F rfl fun _ F => ⟨sd.drop.drop, ?_⟩
    refine ANu (by kernel_rfl) ?_
    cases H
    exact ge 7 F rfl fun _ F => ⟨_, rfl, v5, F.sb, sd.f1.f3.f3.f3⟩
   refine ho2 1 8 rfl rfl (by kernel_rfl) ?_ ?_
   ·refine gld F s9 m0 1 rfl fun _ F => ⟨s9.drop.f2.drop, ?_⟩
    refine ho 8 rfl (by kernel_rfl) ?_
    have se : SL w [] _ (Dt (APe wb Fb) (⟨x0.Sig.Ars, x0.Sig.Result⟩ : Am7) [v2, jU (x0.Sig.Result.toNat : Int)] :: [Blk g2 110 [v0_1, v1, jI a1], Blk g1 110 [.slice none 0 0, .slice none 0 0, jI 0], Blk g0 26 [.string ⟨⟨a0.Name⟩⟩, v0_1, v0_2, v0_3], Sl (APe wb Fb) v1 s7.1]) := (SL.Bet (f := ARp) (x := (⟨x0.Sig.Ars, x0.Sig.Result⟩ : Am7)) (SL.AWe (SL.Byz (T := Ty.u8) (w1 := wb) (F1 := Fb) (SL.AXy s9 Flat.u8 x0.Sig.Result) hc)))
    refine Bc F se APh rfl (by decide) rfl rfl rfl fun v4 wa _ F sf => ?_
    exact gw 1 F rfl fun _ F => ⟨sf.drop.drop.f2.drop, hto hD0 ⟨v4, F.sb, sf.f4.f2.f2.f4.f4⟩ (by kernel_rfl)⟩
   have se : SL w [] _ (Dt (APe wb Fb) (⟨x0.Sig.Ars, x0.Sig.Result⟩ : Am7) [v2, jU (x0.Sig.Result.toNat : Int)] :: [Blk g2 110 [v0_1, v1, jI a1], Blk g1 110 [.slice none 0 0, .slice none 0 0, jI 0], Blk g0 26 [.string ⟨⟨a0.Name⟩⟩, v0_1, v0_2, v0_3], Sl (APe wb Fb) v1 s7.1]) := (SL.Bet (f := ARp) (x := (⟨x0.Sig.Ars, x0.Sig.Result⟩ : Am7)) (SL.AWe (SL.Byz (T := Ty.u8) (w1 := wb) (F1 := Fb) (SL.AXy s9 Flat.u8 x0.Sig.Result) hc)))
   refine Bc F se APh rfl (by decide) rfl rfl rfl fun v4 wa _ F sf => ?_
   refine gw 1 F rfl fun _ F => ⟨sf.drop.drop.f2.drop, ?_⟩
   refine ho 1 rfl (by kernel_rfl) ?_
   exact gld F sf m1 1 rfl fun _ F => ⟨sf.drop.drop.f2.drop, hto hD0 ⟨v4, F.sb, sf.f4.f2.f2.f4.f4⟩ (by kernel_rfl)⟩
  cases H
  obtain rfl := hr _ rfl
  exact ⟨v1, F.sb, s8.f2.drop⟩
 intro _ wc hJ
 obtain ⟨v0, F, sg⟩ := hJ
 have H := R0
 clear R0 H0
 refine ge 3 F rfl fun _ F => gld F sg m0 0 rfl fun _ F => Ah F sg.f1 rfl rfl AV0 (Ab (Aq (AVo (Bl hr0_1 (SL.up hb hB sg.f1)))) (Ab (Aq (fO sg.f1 m2)) (Ab rfl Ap))) (Ac rfl) fun wd _ F sh => ?_
 cases H
 refine gw 4 F rfl fun _ F => ?_
 refine Aj (rs := [.cell 4 110, .tmp 5]) (vs := [.agg ⟨[v0_1, v0, jI a1]⟩, .bool true]) F (by rfl) ⟨_, _, rfl, Am sh m0 rfl AX6 rfl, _, _, rfl, An rfl, rfl⟩ ⟨_, rfl, ⟨v0_1, v0, rfl, A3a.refl, sh.drop.drop⟩⟩
theorem Bbg {w : World} {v0 : Value} {a0 : List Abi} {a1 : Int} {r : (List Int)} (hr0 : Rd Aef w [] v0 a0) (H : ASu a0 a1 = some r) :
    Calls prog 126 #[v0, jI a1] w (Ret fun u_ w_ => ∃ u0 : Value, u_ = u0 ∧ SL w [] w_ [Sl (Ty.int .i64) u0 r]) := by
 have s0 : SL w [] w [] := SL.Aq9 w
 refine cin func126 ntmps126 11 rfl rfl rfl fun _ F4 => ?_
 unfold ASu at H
 obtain ⟨o0, H0, R0⟩ := Aa H
 clear H
 refine At9 (fun a w_ => ∃ v1 : Value, Fr a 31 [(5, v1)] ∧ SL w [] w_ [Sl (Ty.int .i64) v1 o0]) ?_ ?_
 ·have H := H0
  refine gc 1 F4 rfl fun _ F4 => lpk (AO4 a0) (fun s1 a w_ => ∃ v2 : Value, Fr a 31 [(0, v0), (1, jI s1.1), (5, v2)] ∧ SL w [] w_ [Sl (Ty.int .i64) v2 s1.2]) H ?_ ?_
  ·exact ⟨(.slice none 0 0), F4.sb, (SL.Axc (T := (Ty.int .i64)) s0)⟩
  intro s1 _ w0 h0 o1 H hr
  obtain ⟨v2, F, s2⟩ := h0
  replace H : AO4 a0 s1 = some o1 := H
  unfold AO4 at H
  refine gc 6 F rfl fun _ F => bsp 8 F H (fun h1 H F => ?_) (fun h1 H F => ?_)
  ·refine gw 2 F rfl fun _ F => Afv F rfl rfl <| gx F (Ak rfl underlying22 (fR hr0 s2)) 3 rfl rfl fun _ F => bsp 14 F H (fun h2 H F => ?_) (fun h2 H F => ?_)
   ·refine gw 1 F rfl fun _ F => Afv F rfl rfl <| gx F (Ak rfl underlying28 (fO s2 m0)) 1 rfl rfl fun _ F => Afv F rfl rfl <| gx F (Ak rfl underlying22 (fR hr0 s2)) 4 rfl rfl fun _ F => gif F H 7 4 rfl rfl rfl (fun h3 H _ F => ?_) (fun h3 H _ F => ?_)
    ·refine Ae (parts := [(0, .tmp 22)]) (Flat.int .i64) ([s1.1] : List Int) F s2 Awy rfl (by decide) rfl rfl rfl (by simp [Value.cells]) rfl rfl rfl fun v3 w1 _ F s3 => ?_
     obtain ⟨x0, h4, H⟩ := Aa H
     obtain ⟨_, hr_⟩ := (s3.f1.A59 m1)
     refine Av (Flat.int .i64) F s3.f1 Awy rfl rfl rfl rfl hr_ rfl rfl h4 rfl fun v4 w2 _ F s4 => ?_
     have s1102' := s4.f1.drop
     obtain ⟨x1, h5, H⟩ := Aa H
     obtain ⟨a2, c0, G0, h6, h7, h8, h9⟩ := Rd.idx hr0 AOf rfl h5
     refine gw 4 F rfl fun _ F => ?_
     obtain ⟨v5, rfl, ha⟩ := (ALt h8 h9)
     replace h7 := h7 _ _ s1102'
     refine gw 2 F rfl fun _ F => gi F h6 0 rfl fun _ F => gx F (Ba ATe rfl) 0 rfl rfl fun _ F => ?_
     cases H
     exact gx F (Ao AAd rfl (Aqa.at_ h7 (o := 1) rfl)) 3 rfl rfl fun _ F => ⟨_, rfl, v4, F.sb, s1102'⟩
    cases H
    obtain rfl := hr _ rfl
    exact ⟨v2, F.sb, s2⟩
   cases H
   obtain rfl := hr _ rfl
   exact gw 13 F rfl fun _ F => ⟨v2, F.sb, s2⟩
  cases H
  obtain rfl := hr _ rfl
  exact gw 19 F rfl fun _ F => ⟨v2, F.sb, s2⟩
 intro _ w3 hJ
 obtain ⟨v1, F, s5⟩ := hJ
 have H := R0
 clear R0 H0
 cases H
 exact ge 8 F rfl fun _ F => rt F ⟨v1, rfl, s5⟩
theorem ASf {w : World} {v0 : Value} {a0 : List Abi} {a1 : Int} {r : (List Ar2)} (hr0 : Rd Aef w [] v0 a0) (H : AN5 a0 a1 = some r) :
    Calls prog 101 #[v0, jI a1] w (Ret fun u_ w_ => ∃ u0 : Value, u_ = u0 ∧ SL w [] w_ [Sl AG5 u0 r]) := by
 have s0 : SL w [] w [] := SL.Aq9 w
 refine cin func101 ntmps101 9 rfl rfl rfl fun _ F => ?_
 unfold AN5 at H
 obtain ⟨x0, h0, H⟩ := Aa H
 refine std F (Bbg (hr0.Ajq s0) h0) fun v1 w0 _ h1 F => ?_
 obtain ⟨_, rfl, h2⟩ := h1
 have s1 := s0.add h2
 refine gw 12 F rfl fun _ F => ?_
 obtain ⟨o0, H0, R0⟩ := Aa H
 clear H
 refine gx F (Ak rfl underlying28 (fO s1 m0)) 4 rfl rfl fun _ F => At9 (fun a w_ => ∃ v2 : Value, Fr a 29 [(6, v2)] ∧ SL w [] w_ [Sl AG5 v2 o0]) ?_ ?_
 ·have H := H0
  refine gc 1 F rfl fun _ F => lpk (AR0 a0 x0) (fun s2 a w_ => ∃ v3 : Value, Fr a 29 [(0, v0), (5, v1), (6, v3), (7, jI s2.2)] ∧ SL w [] w_ [Sl (Ty.int .i64) v1 x0, Sl AG5 v3 s2.1]) H ?_ ?_
  ·exact ⟨(.slice none 0 0), F.sb, (SL.Axc (T := AG5) s1).f1⟩
  intro s2 _ w1 h3 o1 H hr
  obtain ⟨v3, F, s3⟩ := h3
  replace H : AR0 a0 x0 s2 = some o1 := H
  unfold AR0 at H
  refine gc 7 F rfl fun _ F => gif F H 5 4 rfl rfl rfl (fun h4 H _ F => ?_) (fun h4 H _ F => ?_)
  ·obtain ⟨x1, h5, H⟩ := Aa H
   obtain ⟨a2, h6, h7⟩ := Ax (Flat.int .i64) s3 m0 Awy rfl h5
   obtain ⟨x2, h8, H⟩ := Aa H
   obtain ⟨a3, c0, G0, h9, ha, hb, hc⟩ := Rd.idx hr0 AOf rfl h8
   obtain ⟨v4, rfl, hd⟩ := (ALt hb hc)
   replace ha := ha _ _ s3
   obtain ⟨x3, he, H⟩ := Aa H
   refine gw 4 F rfl fun _ F => gi F h6 0 rfl fun _ F => gx F (Ao AAd rfl (Aqa.at_ (SL.AN4 (Flat.int .i64) s3 m0 h7 h5) (o := 0) rfl)) 0 rfl rfl fun _ F => gi F h9 0 rfl fun _ F => gx F (Ba AXb rfl) 0 rfl rfl fun _ F => gx F (Ao AYn rfl (Aqa.at_ ha (o := 2) rfl)) 0 rfl rfl fun _ F => ?_
   obtain ⟨_, hr_⟩ := (Bl hd s3.f1)
   refine Av AOt F s3.f1 ASm rfl rfl rfl rfl hr_ rfl rfl he rfl fun v5 w2 _ F s4 => ?_
   cases H
   exact gw 9 F rfl fun _ F => ⟨_, rfl, v5, F.sb, s4.f1⟩
  cases H
  obtain rfl := hr _ rfl
  exact ⟨v3, F.sb, s3.drop⟩
 intro _ w3 hJ
 obtain ⟨v2, F, s5⟩ := hJ
 have H := R0
 clear R0 H0
 cases H
 exact ge 8 F rfl fun _ F => rt F ⟨v2, rfl, s5⟩
theorem AP0 {w : World} {v0 : Value} {a0 : List Abi} {a1 : UInt8} {r : Bool} (hr0 : Rd Aef w [] v0 a0) (H : ANw a0 a1 = some r) :
    Calls prog 145 #[v0, jU (a1.toNat : Int)] w (Ret fun u_ w_ => u_ = .bool r ∧ SL w [] w_ []) := by
 have s0 : SL w [] w [] := SL.Aq9 w
 refine cin func145 ntmps145 10 rfl rfl rfl fun _ F => ?_
 unfold ANw at H
 refine bsp 7 F H (fun h0 H F => ?_) (fun h0 H F => ?_)
 ·cases H
  exact gw 15 F rfl fun _ F => rt F ⟨rfl, s0⟩
 refine gw 3 F rfl fun _ F => bsp 10 F H (fun h1 H F => ?_) (fun h1 H F => ?_)
 ·refine gw 1 F rfl fun _ F => Afv F rfl rfl <| gx F (Beu rfl rfl) 0 rfl rfl fun _ F => Afv F rfl rfl <| gx F (AX0 rfl underlying48 underlying3) 1 rfl rfl fun _ F => Afv F rfl rfl ?_
  cases H
  exact gx F (Ak rfl underlying22 (fR hr0 s0)) 7 rfl rfl fun _ F => rt F ⟨rfl, s0⟩
 cases H
 exact gw 12 F rfl fun _ F => rt F ⟨rfl, s0⟩
theorem AWh {w : World} {v0 : Value} {a0 : List Abi} {a1 : UInt8} {r : Bool} (hr0 : Rd Aef w [] v0 a0) (H : AQo a0 a1 = some r) :
    Calls prog 144 #[v0, jU (a1.toNat : Int)] w (Ret fun u_ w_ => u_ = .bool r ∧ SL w [] w_ []) := by
 have s0 : SL w [] w [] := SL.Aq9 w
 refine cin func144 ntmps144 9 rfl rfl rfl fun _ F => ?_
 unfold AQo at H
 obtain ⟨x0, h0, H⟩ := Aa H
 refine gca F s0 (AP0 (hr0.Ajq s0) h0) 1 rfl rfl rfl rfl fun w0 _ F s1 => bsp 8 F H (fun h1 H F => ?_) (fun h1 H F => ?_)
 ·refine gw 4 F rfl fun _ F => bsp 12 F H (fun h2 H F => ?_) (fun h2 H F => ?_)
  ·cases H
   exact gw 7 F rfl fun _ F => rt F ⟨rfl, s1⟩
  cases H
  exact gw 7 F rfl fun _ F => rt F ⟨rfl, s1⟩
 cases H
 exact gw 11 F rfl fun _ F => rt F ⟨rfl, s1⟩
theorem AZ5 {w : World} {a0 : List UInt8} {r : Bool} (H : ARs a0 = some r) :
    Calls prog 167 #[.string ⟨⟨a0⟩⟩] w (Ret fun u_ w_ => u_ = .bool r ∧ SL w [] w_ []) := by
 have s0 : SL w [] w [] := SL.Aq9 w
 refine cin func167 ntmps167 9 rfl rfl rfl fun _ F => ?_
 unfold ARs at H
 refine gx F (AY7 rfl underlying9) 2 rfl rfl fun _ F => bsp 9 F H (fun h0 H F => ?_) (fun h0 H F => ?_)
 ·cases H
  exact gw 14 F rfl fun _ F => rt F ⟨rfl, s0⟩
 refine gw 1 F rfl fun _ F => Afv F rfl rfl <| gx F (AY7 rfl underlying9) 4 rfl rfl fun _ F => gif F H 7 8 rfl rfl rfl (fun h1 H _ F => ?_) (fun h1 H _ F => ?_)
 ·cases H
  exact rt F ⟨rfl, s0⟩
 obtain ⟨o0, H0, R0⟩ := Aa H
 clear H
 refine At9 (fun a w_ => ∃ p0 : Unit, o0 = .inr (p0) ∧ Fr a 55 [] ∧ SL w [] w_ []) ?_ ?_
 ·have H := H0
  refine gc 1 F rfl fun _ F => lpk (AQi a0) (fun s1 a w_ => Fr a 55 [(0, .string ⟨⟨a0⟩⟩), (3, jI s1)] ∧ SL w [] w_ []) H ?_ ?_
  ·exact ⟨F.sb, s0⟩
  intro s1 _ w0 h2 o1 H hr
  obtain ⟨F, s2⟩ := h2
  replace H : AQi a0 s1 = some o1 := H
  unfold AQi at H
  refine gc 5 F rfl fun _ F => gx F (AY7 rfl underlying9) 3 rfl rfl fun _ F => gif F H 8 4 rfl rfl rfl (fun h3 H _ F => ?_) (fun h3 H _ F => ?_)
  ·obtain ⟨x0, h4, H⟩ := Aa H
   obtain ⟨o2, H1, R1⟩ := Aa H
   clear H
   refine gx F (Bsp rfl rfl underlying9 h4) 4 rfl rfl fun _ F => At9 (fun a w_ => Fr a 55 [(0, .string ⟨⟨a0⟩⟩), (3, jI s1), (4, jU (x0.toNat : Int)), (5, .bool o2)] ∧ SL w [] w_ []) ?_ ?_
   ·have H := H1
    refine gc 4 F rfl fun _ F => bsp 25 F H (fun h5 H F => ?_) (fun h5 H F => ?_)
    ·refine gw 4 F rfl fun _ F => bsp 29 F H (fun h6 H F => ?_) (fun h6 H F => ?_)
     ·cases H
      exact gw 9 F rfl fun _ F => ⟨F.sb, s2⟩
     refine gw 3 F rfl fun _ F => bsp 32 F H (fun h7 H F => ?_) (fun h7 H F => ?_)
     ·cases H
      exact gw 6 F rfl fun _ F => ⟨F.sb, s2⟩
     cases H
     exact gw 6 F rfl fun _ F => ⟨F.sb, s2⟩
    refine gw 7 F rfl fun _ F => bsp 32 F H (fun h8 H F => ?_) (fun h8 H F => ?_)
    ·cases H
     exact gw 6 F rfl fun _ F => ⟨F.sb, s2⟩
    cases H
    exact gw 6 F rfl fun _ F => ⟨F.sb, s2⟩
   intro _ w1 hJ
   obtain ⟨F, s3⟩ := hJ
   have H := R1
   clear R1 H1
   refine ge 6 F rfl fun _ F => bsp 39 F H (fun h9 H F => ?_) (fun h9 H F => ?_)
   ·refine gw 3 F rfl fun _ F => bsp 42 F H (fun ha H F => ?_) (fun ha H F => ?_)
    ·cases H
     obtain rfl := hr _ rfl
     replace H := R0
     try dsimp only at H
     cases H
     exact gw 27 F rfl fun _ F => rt F ⟨rfl, s3⟩
    refine gw 3 F rfl fun _ F => bsp 45 F H (fun hb H F => ?_) (fun hb H F => ?_)
    ·refine gw 3 F rfl fun _ F => bsp 48 F H (fun hc H F => ?_) (fun hc H F => ?_)
     ·cases H
      obtain rfl := hr _ rfl
      replace H := R0
      try dsimp only at H
      cases H
      exact gw 21 F rfl fun _ F => rt F ⟨rfl, s3⟩
     refine gw 8 F rfl fun _ F => gif F H 12 8 rfl rfl rfl (fun hd H _ F => ?_) (fun hd H _ F => ?_)
     ·cases H
      obtain rfl := hr _ rfl
      replace H := R0
      try dsimp only at H
      cases H
      exact rt F ⟨rfl, s3⟩
     cases H
     exact ⟨_, rfl, F.sb, s3⟩
    cases H
    exact gw 20 F rfl fun _ F => ⟨_, rfl, F.sb, s3⟩
   cases H
   exact gw 26 F rfl fun _ F => ⟨_, rfl, F.sb, s3⟩
  cases H
  obtain rfl := hr _ rfl
  exact ⟨_, rfl, F.sb, s2⟩
 intro _ w2 hJ
 obtain ⟨p0, rfl, F, s4⟩ := hJ
 have H := R0
 clear R0 H0
 try dsimp only at H
 cases H
 exact ge 7 F rfl fun _ F => rt F ⟨rfl, s4⟩
theorem Bgw {w : World} {a0 : UInt8} {r : (List UInt8)} (H : AWd a0 = some r) :
    Calls prog 193 #[jU (a0.toNat : Int)] w (Ret fun u_ w_ => u_ = .string ⟨⟨r⟩⟩ ∧ SL w [] w_ []) := by
 have s0 : SL w [] w [] := SL.Aq9 w
 refine cin func193 ntmps193 18 rfl rfl rfl fun _ F => ?_
 unfold AWd at H
 refine gif F H 8 6 rfl rfl rfl (fun h0 H _ F => ?_) (fun h0 H _ F => ?_)
 ·cases H
  exact rt F ⟨rfl, s0⟩
 refine gif F H 8 6 rfl rfl rfl (fun h1 H _ F => ?_) (fun h1 H _ F => ?_)
 ·cases H
  exact rt F ⟨rfl, s0⟩
 refine gif F H 8 6 rfl rfl rfl (fun h2 H _ F => ?_) (fun h2 H _ F => ?_)
 ·cases H
  exact rt F ⟨rfl, s0⟩
 refine gif F H 8 6 rfl rfl rfl (fun h3 H _ F => ?_) (fun h3 H _ F => ?_)
 ·cases H
  exact rt F ⟨rfl, s0⟩
 refine gif F H 8 6 rfl rfl rfl (fun h4 H _ F => ?_) (fun h4 H _ F => ?_)
 ·cases H
  exact rt F ⟨rfl, s0⟩
 refine gif F H 8 9 rfl rfl rfl (fun h5 H _ F => ?_) (fun h5 H _ F => ?_)
 ·cases H
  exact rt F ⟨rfl, s0⟩
 cases H
 exact rt F ⟨rfl, s0⟩
theorem Bfh {w : World} {a0 : List UInt8} {r : Bool} (H : AS3 a0 = some r) :
    Calls prog 168 #[.string ⟨⟨a0⟩⟩] w (Ret fun u_ w_ => u_ = .bool r ∧ SL w [] w_ []) := by
 have s0 : SL w [] w [] := SL.Aq9 w
 refine cin func168 ntmps168 11 rfl rfl rfl fun _ F => ?_
 unfold AS3 at H
 obtain ⟨o0, H0, R0⟩ := Aa H
 clear H
 refine At9 (fun a w_ => ∃ p0 : Unit, o0 = .inr (p0) ∧ Fr a 12 [] ∧ SL w [] w_ []) ?_ ?_
 ·have H := H0
  refine gc 1 F rfl fun _ F => lpk (AOb a0) (fun s1 a w_ => Fr a 12 [(0, .string ⟨⟨a0⟩⟩), (3, jU (s1.toNat : Int))] ∧ SL w [] w_ []) H ?_ ?_
  ·exact ⟨F.sb, s0⟩
  intro s1 _ w0 h0 o1 H hr
  obtain ⟨F, s2⟩ := h0
  replace H : AOb a0 s1 = some o1 := H
  unfold AOb at H
  refine gc 7 F rfl fun _ F => gif F H 7 4 rfl rfl rfl (fun h1 H _ F => ?_) (fun h1 H _ F => ?_)
  ·obtain ⟨x0, h2, H⟩ := Aa H
   refine gca F s2 (Bgw h2) 1 rfl rfl rfl rfl fun w1 _ F s3 => gx F (Be0 rfl rfl) 2 rfl rfl fun _ F => gif F H 12 5 rfl rfl rfl (fun h3 H _ F => ?_) (fun h3 H _ F => ?_)
   ·cases H
    obtain rfl := hr _ rfl
    replace H := R0
    try dsimp only at H
    cases H
    exact rt F ⟨rfl, s3⟩
   cases H
   exact gx F (Biu rfl rfl) 2 rfl rfl fun _ F => ⟨_, rfl, F.sb, s3⟩
  cases H
  obtain rfl := hr _ rfl
  exact ⟨_, rfl, F.sb, s2⟩
 intro _ w2 hJ
 obtain ⟨p0, rfl, F, s4⟩ := hJ
 have H := R0
 clear R0 H0
 try dsimp only at H
 cases H
 exact ge 7 F rfl fun _ F => rt F ⟨rfl, s4⟩
theorem AX7 {w : World} {v0 : Value} {a0 : List Ar2} {a1 : List UInt8} {r : Bool} (hr0 : Rd AG5 w [] v0 a0) (H : AU3 a0 a1 = some r) :
    Calls prog 169 #[v0, .string ⟨⟨a1⟩⟩] w (Ret fun u_ w_ => u_ = .bool r ∧ SL w [] w_ []) := by
 have s0 : SL w [] w [] := SL.Aq9 w
 refine cin func169 ntmps169 11 rfl rfl rfl fun _ F => ?_
 unfold AU3 at H
 obtain ⟨o0, H0, R0⟩ := Aa H
 clear H
 refine At9 (fun a w_ => ∃ p0 : Unit, o0 = .inr (p0) ∧ Fr a 19 [] ∧ SL w [] w_ []) ?_ ?_
 ·have H := H0
  refine gc 1 F rfl fun _ F => lpk (AQm a0 a1) (fun s1 a w_ => Fr a 19 [(0, v0), (1, .string ⟨⟨a1⟩⟩), (5, jI s1)] ∧ SL w [] w_ []) H ?_ ?_
  ·exact ⟨F.sb, s0⟩
  intro s1 _ w0 h0 o1 H hr
  obtain ⟨F, s2⟩ := h0
  replace H : AQm a0 a1 s1 = some o1 := H
  unfold AQm at H
  refine gc 5 F rfl fun _ F => gx F (Ak rfl underlying101 (fR hr0 s2)) 3 rfl rfl fun _ F => gif F H 8 4 rfl rfl rfl (fun h1 H _ F => ?_) (fun h1 H _ F => ?_)
  ·obtain ⟨x0, h2, H⟩ := Aa H
   obtain ⟨a2, h3, h4⟩ := AT7 AOt (Bl hr0 s2) ASm rfl h2
   refine gi F h3 0 rfl fun _ F => gx F (Ba Bmi rfl) 0 rfl rfl fun _ F => gx F (Ao AUt rfl (Aqa.at_ h4 (o := 0) rfl)) 1 rfl rfl fun _ F => gx F (Be0 rfl rfl) 2 rfl rfl fun _ F => gif F H 12 8 rfl rfl rfl (fun h5 H _ F => ?_) (fun h5 H _ F => ?_)
   ·cases H
    obtain rfl := hr _ rfl
    replace H := R0
    try dsimp only at H
    cases H
    exact rt F ⟨rfl, s2⟩
   cases H
   exact ⟨_, rfl, F.sb, s2⟩
  cases H
  obtain rfl := hr _ rfl
  exact ⟨_, rfl, F.sb, s2⟩
 intro _ w1 hJ
 obtain ⟨p0, rfl, F, s3⟩ := hJ
 have H := R0
 clear R0 H0
 try dsimp only at H
 cases H
 exact ge 7 F rfl fun _ F => rt F ⟨rfl, s3⟩
theorem Bf3 {w : World} {v0 : Value} {a0 : List Abi} {a1 : Int} {r : Int} (hr0 : Rd Aef w [] v0 a0) (H : ATm a0 a1 = some r) :
    Calls prog 143 #[v0, jI a1] w (Ret fun u_ w_ => u_ = jI r ∧ SL w [] w_ []) := by
 have s0 : SL w [] w [] := SL.Aq9 w
 refine cin func143 ntmps143 7 rfl rfl rfl fun _ F2 => ?_
 unfold ATm at H
 obtain ⟨x0, h0, H⟩ := Aa H
 obtain ⟨a2, c0, G0, h1, h2, h3, h4⟩ := Rd.idx hr0 AOf rfl h0
 obtain ⟨v1, rfl, h5⟩ := (ALt h3 h4)
 replace h2 := h2 _ _ s0
 refine gw 2 F2 rfl fun _ F => gi F h1 0 rfl fun _ F => gx F (Aw Bcb rfl h2 rfl) 0 rfl rfl fun _ F => Af F s0 Bc2 rfl rfl fun g0 w0 _ F s1 => Ah F s1 rfl rfl Bfz (Ab rfl (Ab rfl (Ab (Aq (fR h5 s1)) Ap))) (Ac rfl) fun w1 _ F s2 => gw 9 F rfl fun _ F => gif F H 7 6 rfl rfl rfl (fun h6 H _ F => ?_) (fun h6 H _ F => ?_)
 ·cases H
  exact rt F ⟨rfl, s2.drop⟩
 obtain ⟨x1, h7, H⟩ := Aa H
 refine gld F s2 m0 0 rfl fun _ F => gca F s2 (AZ5 h7) 2 rfl rfl rfl rfl fun w2 _ F s3 => bsp 20 F H (fun h8 H F => ?_) (fun h8 H F => ?_)
 ·cases H
  exact gw 14 F rfl fun _ F => rt F ⟨rfl, s3.drop⟩
 refine gw 1 F rfl fun _ F => Afv F rfl rfl <| gld F s3 m0 0 rfl fun _ F => ?_
 obtain ⟨x2, h9, H⟩ := Aa H
 refine Afv F rfl rfl <| gca F s3 (Bfh h9) 3 rfl rfl rfl rfl fun w3 _ F s4 => gif F H 7 8 rfl rfl rfl (fun ha H _ F => ?_) (fun ha H _ F => ?_)
 ·cases H
  exact rt F ⟨rfl, s4.drop⟩
 obtain ⟨o0, H0, R0⟩ := Aa H
 clear H
 refine At9 (fun a w_ => ∃ p0 : Unit, o0 = .inr (p0) ∧ Fr a 92 [(0, v0), (1, jI a1), (5, jP g0)] ∧ SL w [] w_ [Blk g0 103 [.string ⟨⟨x0.Name⟩⟩, jI x0.Ar1, v1]]) ?_ ?_
 ·have H := H0
  refine gc 1 F rfl fun _ F => lpk (APi a0 a1 x0) (fun s5 a w_ => Fr a 92 [(0, v0), (1, jI a1), (5, jP g0), (6, jI s5)] ∧ SL w [] w_ [Blk g0 103 [.string ⟨⟨x0.Name⟩⟩, jI x0.Ar1, v1]]) H ?_ ?_
  ·exact ⟨F.sb, s4⟩
  intro s5 _ w4 hb o1 H hr
  obtain ⟨F, s6⟩ := hb
  replace H : APi a0 a1 x0 s5 = some o1 := H
  unfold APi at H
  refine gc 8 F rfl fun _ F => gif F H 5 4 rfl rfl rfl (fun hc H _ F => ?_) (fun hc H _ F => ?_)
  ·obtain ⟨x3, hd, H⟩ := Aa H
   obtain ⟨a3, c1, G1, he, hf, hg, hh⟩ := Rd.idx hr0 AOf rfl hd
   obtain ⟨v2, rfl, hi⟩ := (ALt hg hh)
   have hc2060_ := hf; clear hf; have hf := fun w_ (hC : SL w [] w_ [Blk g0 103 [.string ⟨⟨x0.Name⟩⟩, jI x0.Ar1, v1]]) => hc2060_ _ _ hC
   refine ATo Aq8 s6 F (QR.ev 2 rfl <| QR.ix he rfl <| QR.qo (fun _ hC => Ba AW7 rfl) rfl <| QR.qo (fun _ hC => Ao AUt rfl (Aqa.at_ (hf _ hC) (o := 0) rfl)) rfl <| QR.ev 1 rfl <| QR.ld m0 rfl <| QR.qo (fun _ hC => Be0 rfl rfl) rfl <| Bb) fun w5 _ s7 F => ge 1 F rfl fun _ F => gif F H 12 8 rfl rfl rfl (fun hj H _ F => ?_) (fun hj H _ F => ?_)
   ·cases H
    obtain rfl := hr _ rfl
    replace H := R0
    try dsimp only at H
    cases H
    exact rt F ⟨rfl, s7.drop⟩
   cases H
   exact ⟨_, rfl, F.sb, s7⟩
  cases H
  obtain rfl := hr _ rfl
  exact ⟨_, rfl, F.sb, s6⟩
 intro _ w6 hJ
 obtain ⟨p0, rfl, F, s8⟩ := hJ
 have H := R0
 clear R0 H0
 try dsimp only at H
 refine ge 5 F rfl fun _ F => gld F s8 m0 2 rfl fun _ F => bsp 41 F H (fun hk H F => ?_) (fun hk H F => ?_)
 ·cases H
  exact gw 15 F rfl fun _ F => rt F ⟨rfl, s8.drop⟩
 refine gw 1 F rfl fun _ F => Afv F rfl rfl <| gld F s8 m0 5 rfl fun _ F => gif F H 7 6 rfl rfl rfl (fun hl H _ F => ?_) (fun hl H _ F => ?_)
 ·cases H
  exact rt F ⟨rfl, s8.drop⟩
 obtain ⟨x4, hm, H⟩ := Aa H
 refine gld F s8 m0 0 rfl fun _ F => std F (ASf (hr0.Ajq s8) hm) fun v3 w7 _ hn F => ?_
 obtain ⟨_, rfl, ho⟩ := hn
 have s9 := s8.add ho
 obtain ⟨o2, H1, R1⟩ := Aa H
 clear H
 refine gw 9 F rfl fun _ F => At9 (fun a w_ => ∃ p1 : Unit, o2 = .inr (p1) ∧ Fr a 92 [(5, jP g0), (7, v3)] ∧ SL w [] w_ [Sl AG5 v3 x4, Blk g0 103 [.string ⟨⟨x0.Name⟩⟩, jI x0.Ar1, v1]]) ?_ ?_
 ·have H := H1
  refine gc 1 F rfl fun _ F => lpk (AOq a0 x0 x4) (fun sa a w_ => Fr a 92 [(0, v0), (5, jP g0), (7, v3), (8, jI sa)] ∧ SL w [] w_ [Sl AG5 v3 x4, Blk g0 103 [.string ⟨⟨x0.Name⟩⟩, jI x0.Ar1, v1]]) H ?_ ?_
  ·exact ⟨F.sb, s9⟩
  intro sa _ w8 hp o3 H hr
  obtain ⟨F, sc⟩ := hp
  replace H : AOq a0 x0 x4 sa = some o3 := H
  unfold AOq at H
  refine gc 5 F rfl fun _ F => gld F sc m1 0 rfl fun _ F => gx F (Ak rfl underlying101 (fR h5 sc)) 3 rfl rfl fun _ F => gif F H 7 4 rfl rfl rfl (fun hq H _ F => ?_) (fun hq H _ F => ?_)
  ·obtain ⟨x5, hs, H⟩ := Aa H
   obtain ⟨a4, ht, hu⟩ := AT7 AOt (Bl h5 sc) ASm rfl hs
   refine gld F sc m1 1 rfl fun _ F => gi F ht 0 rfl fun _ F => gx F (Aw Bca rfl hu rfl) 0 rfl rfl fun _ F => Af F sc Bfs rfl rfl fun g1 w9 _ F sd => Ah F sd rfl rfl Bk3 (Ab rfl (Ab rfl Ap)) (Ac rfl) fun wa _ F se => ?_
   obtain ⟨x6, hv, H⟩ := Aa H
   refine gw 6 F rfl fun _ F => gld F se m0 0 rfl fun _ F => gca F se (AZ5 hv) 3 rfl rfl rfl rfl fun wb _ F sf => gif F H 13 4 rfl rfl rfl (fun hw H _ F => ?_) (fun hw H _ F => ?_)
   ·cases H
    obtain rfl := hr _ rfl
    replace H := R1
    try dsimp only at H
    cases H
    exact rt F ⟨rfl, sf.drop.drop.drop⟩
   obtain ⟨x7, hx, H⟩ := Aa H
   refine Be x7 (fun hy => ?_) (fun hy => ?_)
   ·replace H := AZv hy H
    refine ATo Aq8 sf F (QR.ev 2 rfl <| QR.ld m0 rfl <| QR.call (args := [.tmp 67, .tmp 69]) Bkn rfl (fun _ hC => Bg (AX7 (a0 := x4) (a1 := x5.Name) (hC.rd0 m1) hx) hC) <| QR.ev 1 rfl <| QR.qs rfl rfl (Ai rfl hy) Ad rfl rfl <| QR.qs rfl rfl (Ai rfl hy) Ad rfl rfl <| QR.qs rfl rfl (Ai rfl hy) Ad rfl rfl <| QR.qs rfl rfl (Ai rfl hy) Ad rfl rfl <| QR.qs rfl rfl (Ai rfl hy) Ad rfl rfl <| QR.qs rfl rfl (Ai rfl hy) Ad rfl rfl <| QR.qs rfl rfl (Ai rfl hy) Ad rfl rfl <| QR.qo (fun _ hC => Bh (AXr rfl hy) rfl) rfl <| Bb) fun wc _ sg F => ?_
    cases H
    obtain rfl := hr _ rfl
    replace H := R1
    try dsimp only at H
    cases H
    exact ge 15 F rfl fun _ F => rt F ⟨rfl, sg.drop.drop.drop⟩
   replace H := AZy hy H
   obtain ⟨x8, hz, H⟩ := Aa H
   obtain ⟨v4, h10, h11⟩ := Rd.cut h5 ASm rfl hz none (some sa) (.inr ⟨rfl, rfl⟩) (.inl rfl)
   obtain ⟨x9, h12, H⟩ := Aa H
   refine ATo Aq8 sf F (QR.ev 2 rfl <| QR.ld m0 rfl <| QR.call (args := [.tmp 67, .tmp 69]) Bkn rfl (fun _ hC => Bg (AX7 (a0 := x4) (a1 := x5.Name) (hC.rd0 m1) hx) hC) <| QR.ev 1 rfl <| QR.qg (fun _ hC => Bpa AXb rfl rfl) rfl rfl (Ai rfl hy) rfl rfl <| QR.qg (fun _ hC => Ao AYn rfl (hC.AQ9 m2 rfl)) rfl rfl (Ai rfl hy) rfl rfl <| QR.qg (fun _ hC => Az rfl) rfl rfl (Ai rfl hy) rfl rfl <| QR.qg (fun _ hC => h10 _ _ _ _ _ .i64 .i64 _ _ _ _ _ rfl trivial rfl) rfl rfl (Ai rfl hy) rfl rfl <| QR.qg (fun _ hC => Bpa Bmi rfl rfl) rfl rfl (Ai rfl hy) rfl rfl <| QR.qg (fun _ hC => Ao AUt rfl (hC.AQ9 m0 rfl)) rfl rfl (Ai rfl hy) rfl rfl <| QR.Bt1 rfl (Ai rfl hy) (args := [.tmp 75, .tmp 77]) Bkn rfl (fun _ hC => Bg (AX7 (a0 := x8) (a1 := x5.Name) (h11.Ajq hC) h12) hC) <| QR.qo (fun _ hC => Bk (AXr rfl hy) rfl) rfl <| Bb) fun wd _ sh F => ge 1 F rfl fun _ F => gif F H 13 6 rfl rfl rfl (fun h13 H _ F => ?_) (fun h13 H _ F => ?_)
   ·cases H
    obtain rfl := hr _ rfl
    replace H := R1
    try dsimp only at H
    cases H
    exact rt F ⟨rfl, sh.drop.drop.drop⟩
   obtain ⟨xa, h14, H⟩ := Aa H
   refine gld F sh m0 0 rfl fun _ F => gca F sh (AWh (hr0.Ajq sh) h14) 3 rfl rfl rfl rfl fun we _ F si => gif F H 12 8 rfl rfl rfl (fun h15 H _ F => ?_) (fun h15 H _ F => ?_)
   ·cases H
    obtain rfl := hr _ rfl
    replace H := R1
    try dsimp only at H
    cases H
    exact rt F ⟨rfl, si.drop.drop.drop⟩
   cases H
   exact ⟨_, rfl, F.sb, si.drop⟩
  cases H
  obtain rfl := hr _ rfl
  exact ⟨_, rfl, F.sb, sc⟩
 intro _ wf hJ
 obtain ⟨p1, rfl, F, sj⟩ := hJ
 have H := R1
 clear R1 H1
 try dsimp only at H
 refine ge 5 F rfl fun _ F => gld F sj m1 0 rfl fun _ F => gx F (Ak rfl underlying101 (fR h5 sj)) 1 rfl rfl fun _ F => gx F (Ak rfl underlying101 (fO sj m0)) 4 rfl rfl fun _ F => gif F H 7 8 rfl rfl rfl (fun h16 H _ F => ?_) (fun h16 H _ F => ?_)
 ·cases H
  exact rt F ⟨rfl, sj.drop.drop⟩
 cases H
 exact rt F ⟨rfl, sj.drop.drop⟩
theorem Ba2 {w : World} {v0 : Value} {a0 : List Abi} {r : Int × Int} (hr0 : Rd Aef w [] v0 a0) (H : ASc a0 = some r) :
    Calls prog 119 #[v0] w (Ret fun u_ w_ => u_ = .tuple ⟨[jI r.1, jI r.2]⟩ ∧ SL w [] w_ []) := by
 have s0 : SL w [] w [] := SL.Aq9 w
 refine cin func119 ntmps119 12 rfl rfl rfl fun _ F => ?_
 unfold ASc at H
 obtain ⟨o0, H0, R0⟩ := Aa H
 clear H
 refine At9 (fun a w_ => ∃ p0 : Unit, o0 = .inr (p0) ∧ Fr a 19 [] ∧ SL w [] w_ []) ?_ ?_
 ·have H := H0
  refine gc 1 F rfl fun _ F => lpk (APm a0) (fun s1 a w_ => Fr a 19 [(0, v0), (4, jI s1)] ∧ SL w [] w_ []) H ?_ ?_
  ·exact ⟨F.sb, s0⟩
  intro s1 _ w0 h0 o1 H hr
  obtain ⟨F, s2⟩ := h0
  replace H : APm a0 s1 = some o1 := H
  unfold APm at H
  refine gc 5 F rfl fun _ F => gx F (Ak rfl underlying22 (fR hr0 s2)) 3 rfl rfl fun _ F => gif F H 8 4 rfl rfl rfl (fun h1 H _ F => ?_) (fun h1 H _ F => ?_)
  ·obtain ⟨x0, h2, H⟩ := Aa H
   refine gca F s2 (Bf3 (hr0.Ajq s2) h2) 9 rfl rfl rfl rfl fun w1 _ F s3 => gif F H 15 8 rfl rfl rfl (fun h3 H _ F => ?_) (fun h3 H _ F => ?_)
   ·cases H
    obtain rfl := hr _ rfl
    replace H := R0
    try dsimp only at H
    cases H
    exact rt F ⟨rfl, s3⟩
   cases H
   exact ⟨_, rfl, F.sb, s3⟩
  cases H
  obtain rfl := hr _ rfl
  exact ⟨_, rfl, F.sb, s2⟩
 intro _ w2 hJ
 obtain ⟨p0, rfl, F, s4⟩ := hJ
 have H := R0
 clear R0 H0
 try dsimp only at H
 cases H
 exact ge 8 F rfl fun _ F => rt F ⟨rfl, s4⟩
theorem Be5 {w : World} {v0 v1_0 : Value} {a0 : List Abi} {a1 : Am7} {r : Bool} (hr0 : Rd Aef w [] v0 a0) (hr1_0 : Rd Ty.u8 w [] v1_0 a1.Ars) (H : AS4 a0 a1 = some r) :
    Calls prog 120 #[v0, .agg ⟨[v1_0, jU (a1.Result.toNat : Int)]⟩] w (Ret fun u_ w_ => u_ = .bool r ∧ SL w [] w_ []) := by
 have s0 : SL w [] w [] := SL.Aq9 w
 refine cin func120 ntmps120 2 rfl rfl rfl fun _ F0 => ?_
 unfold AS4 at H
 refine Ar F0 s0 rfl rfl rfl fun g8 w9 _ F s1 => ?_
 obtain ⟨o0, H0, R0⟩ := Aa H
 clear H
 refine gw 9 F rfl fun _ F => At9 (fun a w_ => ∃ p0 : Unit, o0 = .inr (p0) ∧ Fr a 36 [(0, v0), (3, jP g8)] ∧ SL w [] w_ [Blk g8 50 [v1_0, jU (a1.Result.toNat : Int)]]) ?_ ?_
 ·have H := H0
  refine gc 1 F rfl fun _ F => lpk (AO5 a0 a1) (fun s2 a w_ => Fr a 36 [(0, v0), (3, jP g8), (5, jI s2)] ∧ SL w [] w_ [Blk g8 50 [v1_0, jU (a1.Result.toNat : Int)]]) H ?_ ?_
  ·exact ⟨F.sb, s1⟩
  intro s2 _ w0 h0 o1 H hr
  obtain ⟨F, s3⟩ := h0
  replace H : AO5 a0 a1 s2 = some o1 := H
  unfold AO5 at H
  refine gc 5 F rfl fun _ F => gld F s3 m0 0 rfl fun _ F => gx F (Ak rfl underlying47 (fR hr1_0 s3)) 3 rfl rfl fun _ F => gif F H 8 4 rfl rfl rfl (fun h1 H _ F => ?_) (fun h1 H _ F => ?_)
  ·obtain ⟨x0, h2, H⟩ := Aa H
   obtain ⟨a2, h3, h4⟩ := AT7 Flat.u8 (Bl hr1_0 s3) Aqg rfl h2
   obtain ⟨x1, h5, H⟩ := Aa H
   refine gld F s3 m0 1 rfl fun _ F => gi F h3 0 rfl fun _ F => gx F (Ao Aw9 rfl (Aqa.at_ h4 (o := 0) rfl)) 0 rfl rfl fun _ F => gca F s3 (AWh (hr0.Ajq s3) h5) 3 rfl rfl rfl rfl fun w1 _ F s4 => gif F H 12 8 rfl rfl rfl (fun h6 H _ F => ?_) (fun h6 H _ F => ?_)
   ·cases H
    obtain rfl := hr _ rfl
    replace H := R0
    try dsimp only at H
    cases H
    exact rt F ⟨rfl, s4.drop⟩
   cases H
   exact ⟨_, rfl, F.sb, s4⟩
  cases H
  obtain rfl := hr _ rfl
  exact ⟨_, rfl, F.sb, s3⟩
 intro _ w2 hJ
 obtain ⟨p0, rfl, F, s5⟩ := hJ
 have H := R0
 clear R0 H0
 try dsimp only at H
 refine ge 4 F rfl fun _ F => gld F s5 m0 0 rfl fun _ F => gx F (Ak rfl underlying47 (fR hr1_0 s5)) 2 rfl rfl fun _ F => bsp 25 F H (fun h7 H F => ?_) (fun h7 H F => ?_)
 ·refine gw 1 F rfl fun _ F => Afv F rfl rfl <| gld F s5 m0 2 rfl fun _ F => bsp 29 F H (fun h8 H F => ?_) (fun h8 H F => ?_)
  ·cases H
   exact gw 10 F rfl fun _ F => rt F ⟨rfl, s5.drop⟩
  refine gw 2 F rfl fun _ F => Afv F rfl rfl <| gld F s5 m0 0 rfl fun _ F => ?_
  obtain ⟨x2, h9, H⟩ := Aa H
  refine Afv F rfl rfl <| gca F s5 (AWh (hr0.Ajq s5) h9) 6 rfl rfl rfl rfl fun w3 _ F s6 => ?_
  cases H
  exact rt F ⟨rfl, s6.drop⟩
 cases H
 exact gw 14 F rfl fun _ F => rt F ⟨rfl, s5.drop⟩
theorem Bf6 {w : World} {a0 : Int} {r : Aas × Int} (H : ATk a0 = some r) :
    Calls prog 121 #[jI a0] w (Ret fun u_ w_ => u_ = .tuple ⟨[.agg ⟨(jI r.1.Locals :: jI r.1.Height :: ev8 r.1.Slots)⟩, jI r.2]⟩ ∧ SL w [] w_ []) := by
 have s0 : SL w [] w [] := SL.Aq9 w
 refine cin func121 ntmps121 2 rfl rfl rfl fun _ F0 => ?_
 unfold ATk at H
 refine Af F0 s0 Ajp rfl rfl fun g8 w9 _ F s1 => gw 9 F rfl fun _ F => bsp 6 F H (fun h0 H F => ?_) (fun h0 H F => ?_)
 ·refine gw 8 F rfl fun _ F => gx F (Al (vs := []) Ajp ACi rfl (cs := jZ) (Ayf)) 0 rfl rfl fun _ F => ?_
  refine Akj (ds := jZ) F s1 rfl rfl (by simpa using Amy) (Ab rfl (Ab rfl (Ape _))) (by simp) fun w0 _ F s2 => ?_
  cases H
  refine gw 5 F rfl fun _ F => ?_
  refine Aj (rs := [.cell 2 118, .tmp 3]) (vs := [.agg ⟨jZ⟩, jI 1]) F (by rfl) ⟨_, _, rfl, Am s2 m0 rfl Aoi (by simp), _, _, rfl, An rfl, rfl⟩ ⟨_, rfl, ⟨rfl, s2.drop⟩⟩
 refine gw 5 F rfl fun _ F => gif F H 2 5 rfl rfl rfl (fun h1 H _ F => ?_) (fun h1 H _ F => ?_)
 ·refine gx F (Al (vs := []) Ajp ACi rfl (cs := jZ) (Ayf)) 0 rfl rfl fun _ F => ?_
  refine Akj (ds := jZ) F s1 rfl rfl (by simpa using Amy) (Ab rfl (Ab rfl (Ape _))) (by simp) fun w1 _ F s3 => ?_
  cases H
  refine gw 5 F rfl fun _ F => ?_
  refine Aj (rs := [.cell 2 118, .tmp 3]) (vs := [.agg ⟨jZ⟩, jI 1]) F (by rfl) ⟨_, _, rfl, Am s3 m0 rfl Aoi (by simp), _, _, rfl, An rfl, rfl⟩ ⟨_, rfl, ⟨rfl, s3.drop⟩⟩
 refine gx F (Al (vs := [jI a0]) Ajp ACi rfl (cs := (jI a0 :: jI 0 :: ev8 (Vector.replicate 24 (0 : UInt8)))) (AN2 rfl rfl (by simp) <| Ayf)) 0 rfl rfl fun _ F => ?_
 refine Akj (ds := (jI a0 :: jI 0 :: ev8 (Vector.replicate 24 (0 : UInt8)))) F s1 rfl rfl (by simpa using Amy) (Ab rfl (Ab rfl (Ape _))) (by simp) fun w2 _ F s4 => ?_
 cases H
 refine gw 4 F rfl fun _ F => ?_
 refine Aj (rs := [.cell 2 118, .tmp 3]) (vs := [.agg ⟨(jI a0 :: jI 0 :: ev8 (Vector.replicate 24 (0 : UInt8)))⟩, jI 0]) F (by rfl) ⟨_, _, rfl, Am s4 m0 rfl Aoi (by simp), _, _, rfl, An rfl, rfl⟩ ⟨_, rfl, ⟨rfl, s4.drop⟩⟩
theorem Bfi {w : World} {v0 : Value} {a0 : List Abi} {a1 : UInt8} {r : Bool} (hr0 : Rd Aef w [] v0 a0) (H : AS1 a0 a1 = some r) :
    Calls prog 122 #[v0, jU (a1.toNat : Int)] w (Ret fun u_ w_ => u_ = .bool r ∧ SL w [] w_ []) := by
 have s0 : SL w [] w [] := SL.Aq9 w
 refine cin func122 ntmps122 9 rfl rfl rfl fun _ F => ?_
 unfold AS1 at H
 obtain ⟨x0, h0, H⟩ := Aa H
 refine gca F s0 (AP0 (hr0.Ajq s0) h0) 1 rfl rfl rfl rfl fun w0 _ F s1 => bsp 8 F H (fun h1 H F => ?_) (fun h1 H F => ?_)
 ·refine gw 4 F rfl fun _ F => bsp 12 F H (fun h2 H F => ?_) (fun h2 H F => ?_)
  ·cases H
   exact gw 7 F rfl fun _ F => rt F ⟨rfl, s1⟩
  cases H
  exact gw 7 F rfl fun _ F => rt F ⟨rfl, s1⟩
 cases H
 exact gw 11 F rfl fun _ F => rt F ⟨rfl, s1⟩
theorem AW8 {w : World} {v0 v1 : Value} {a0 : List Abi} {a1 : List UInt8} {a2 : Int} {r : Aas × Int} (hr0 : Rd Aef w [] v0 a0) (hr1 : Rd Ty.u8 w [] v1 a1) (H : AO2 a0 a1 a2 = some r) :
    Calls prog 81 #[v0, v1, jI a2] w (Ret fun u_ w_ => u_ = .tuple ⟨[.agg ⟨(jI r.1.Locals :: jI r.1.Height :: ev8 r.1.Slots)⟩, jI r.2]⟩ ∧ SL w [] w_ []) := by
 have s0 : SL w [] w [] := SL.Aq9 w
 refine cin func81 ntmps81 2 rfl rfl rfl fun _ F0 => ?_
 unfold AO2 at H
 refine Af F0 s0 Ajp rfl rfl fun g8 w9 _ F s1 => ?_
 obtain ⟨x0, h0, H⟩ := Aa H
 refine gw 6 F rfl fun _ F => gca F s1 (Bf6 h0) 3 rfl rfl rfl rfl fun w0 _ F s2 => Af F s2 Ajp rfl rfl fun g0 w1 _ F s3 => ?_
 refine Akj (ds := (jI x0.1.Locals :: jI x0.1.Height :: ev8 x0.1.Slots)) F s3 rfl rfl (by simpa using Amy) (Ab rfl (Ab rfl (Ape _))) (by simp) fun w2 _ F s4 => ?_
 refine gw 9 F rfl fun _ F => bsp 19 F H (fun h1 H F => ?_) (fun h1 H F => ?_)
 ·refine gw 15 F rfl fun _ F => gx F (Al (vs := []) Ajp ACi rfl (cs := jZ) (Ayf)) 0 rfl rfl fun _ F => ?_
  refine Akj (ds := jZ) F s4.f1 rfl rfl (by simpa using Amy) (Ab rfl (Ab rfl (Ape _))) (by simp) fun w3 _ F s5 => ?_
  cases H
  refine gw 5 F rfl fun _ F => ?_
  refine Aj (rs := [.cell 6 118, .tmp 7]) (vs := [.agg ⟨jZ⟩, jI 1]) F (by rfl) ⟨_, _, rfl, Am s5 m0 rfl Aoi (by simp), _, _, rfl, An rfl, rfl⟩ ⟨_, rfl, ⟨rfl, s5.drop.drop⟩⟩
 refine gw 1 F rfl fun _ F => Afv F rfl rfl <| gx F (Ak rfl underlying47 (fR hr1 s4)) 3 rfl rfl fun _ F => bsp 24 F H (fun h2 H F => ?_) (fun h2 H F => ?_)
 ·refine gw 10 F rfl fun _ F => gx F (Al (vs := []) Ajp ACi rfl (cs := jZ) (Ayf)) 0 rfl rfl fun _ F => ?_
  refine Akj (ds := jZ) F s4.f1 rfl rfl (by simpa using Amy) (Ab rfl (Ab rfl (Ape _))) (by simp) fun w4 _ F s6 => ?_
  cases H
  refine gw 5 F rfl fun _ F => ?_
  refine Aj (rs := [.cell 6 118, .tmp 7]) (vs := [.agg ⟨jZ⟩, jI 1]) F (by rfl) ⟨_, _, rfl, Am s6 m0 rfl Aoi (by simp), _, _, rfl, An rfl, rfl⟩ ⟨_, rfl, ⟨rfl, s6.drop.drop⟩⟩
 refine gw 1 F rfl fun _ F => Afv F rfl rfl <| gx F (Ak rfl underlying47 (fR hr1 s4)) 5 rfl rfl fun _ F => gif F H 2 6 rfl rfl rfl (fun h3 H _ F => ?_) (fun h3 H _ F => ?_)
 ·refine gx F (Al (vs := []) Ajp ACi rfl (cs := jZ) (Ayf)) 0 rfl rfl fun _ F => ?_
  refine Akj (ds := jZ) F s4.f1 rfl rfl (by simpa using Amy) (Ab rfl (Ab rfl (Ape _))) (by simp) fun w5 _ F s7 => ?_
  cases H
  refine gw 5 F rfl fun _ F => ?_
  refine Aj (rs := [.cell 6 118, .tmp 7]) (vs := [.agg ⟨jZ⟩, jI 1]) F (by rfl) ⟨_, _, rfl, Am s7 m0 rfl Aoi (by simp), _, _, rfl, An rfl, rfl⟩ ⟨_, rfl, ⟨rfl, s7.drop.drop⟩⟩
 obtain ⟨o0, H0, R0⟩ := Aa H
 clear H
 refine gx F (Ak rfl underlying47 (fR hr1 s4)) 3 rfl rfl fun _ F => At9 (fun a w_ => ∃ p0 : (Vector UInt8 24), o0 = .inr (p0) ∧ Fr a 49 [(6, jP g8), (8, jP g0)] ∧ SL w [] w_ [Blk g0 118 (jI x0.1.Locals :: jI x0.1.Height :: ev8 p0), Blk g8 118 jZ]) ?_ ?_
 ·have H := H0
  refine gc 1 F rfl fun _ F => lpk (AN0 a0 a1) (fun s8 a w_ => Fr a 49 [(0, v0), (6, jP g8), (8, jP g0), (31, v1), (32, jI (a1.length : Int)), (33, jI s8.2)] ∧ SL w [] w_ [Blk g0 118 (jI x0.1.Locals :: jI x0.1.Height :: ev8 s8.1), Blk g8 118 jZ]) H ?_ ?_
  ·exact ⟨F.sb, s4⟩
  intro s8 _ w6 h4 o1 H hr
  obtain ⟨F, s9⟩ := h4
  replace H : AN0 a0 a1 s8 = some o1 := H
  unfold AN0 at H
  refine gc 6 F rfl fun _ F => gif F H 7 4 rfl rfl rfl (fun h5 H _ F => ?_) (fun h5 H _ F => ?_)
  ·obtain ⟨x1, h6, H⟩ := Aa H
   obtain ⟨a3, h7, h8⟩ := AT7 Flat.u8 (Bl hr1 s9) Aqg rfl h6
   refine gi F h7 0 rfl fun _ F => ?_
   obtain ⟨x2, h9, H⟩ := Aa H
   refine gx F (Ao Aw9 rfl (Aqa.at_ h8 (o := 0) rfl)) 9 rfl rfl fun _ F => gca F s9 (Bfi (hr0.Ajq s9) h9) 3 rfl rfl rfl rfl fun w7 _ F sa => gif F H 2 6 rfl rfl rfl (fun ha H _ F => ?_) (fun ha H _ F => ?_)
   ·refine gx F (Al (vs := []) Ajp ACi rfl (cs := jZ) (Ayf)) 0 rfl rfl fun _ F => ?_
    refine Akj (ds := jZ) F sa.f1 rfl rfl (by simpa using Amy) (Ab rfl (Ab rfl (Ape _))) (by simp) fun w8 _ F sc => ?_
    cases H
    obtain rfl := hr _ rfl
    replace H := R0
    try dsimp only at H
    cases H
    refine gw 11 F rfl fun _ F => ?_
    refine Aj (rs := [.cell 6 118, .tmp 7]) (vs := [.agg ⟨jZ⟩, jI 1]) F (by rfl) ⟨_, _, rfl, Am sc m0 rfl Aoi (by simp), _, _, rfl, An rfl, rfl⟩ ⟨_, rfl, ⟨rfl, sc.drop.drop⟩⟩
   obtain ⟨x3, hb, H⟩ := Aa H
   refine gx F (AO6 ANo hb rfl rfl) 0 rfl rfl fun _ F => AVw (y' := x1) (pre := [jI x0.1.Locals, jI x0.1.Height]) F sa rfl hb rfl rfl AWk fun wa _ F sd => ?_
   cases H
   exact gw 7 F rfl fun _ F => ⟨_, rfl, F.sb, sd⟩
  cases H
  obtain rfl := hr _ rfl
  exact ⟨_, rfl, F.sb, s9⟩
 intro _ wb hJ
 obtain ⟨p0, rfl, F, se⟩ := hJ
 have H := R0
 clear R0 H0
 try dsimp only at H
 refine ge 3 F rfl fun _ F => gla F se m0 0 rfl fun _ F => ?_
 refine Akj (ds := (jI x0.1.Locals :: jI x0.1.Height :: ev8 p0)) F se.f1 rfl rfl (by simpa using Amy) (Ab rfl (Ab rfl (Ape _))) (by simp) fun wc _ F sf => ?_
 cases H
 refine gw 4 F rfl fun _ F => ?_
 refine Aj (rs := [.cell 6 118, .tmp 7]) (vs := [.agg ⟨(jI x0.1.Locals :: jI x0.1.Height :: ev8 p0)⟩, jI 0]) F (by rfl) ⟨_, _, rfl, Am sf m0 rfl Aoi (by simp), _, _, rfl, An rfl, rfl⟩ ⟨_, rfl, ⟨rfl, sf.drop.drop⟩⟩
theorem Bia {w : World} {v0_0 v0_1 : Value} {a0 : Adb} {a1 : Int} {r : Int} (hr0_0 : Rd Aef w [] v0_0 a0.Classes) (hr0_1 : Rd Ate w [] v0_1 a0.Akq) (H : AP3 a0 a1 = some r) :
    Calls prog 80 #[.agg ⟨[v0_0, v0_1, jI a0.Fn]⟩, jI a1] w (Ret fun u_ w_ => u_ = jI r ∧ SL w [] w_ []) := by
 have s0 : SL w [] w [] := SL.Aq9 w
 refine cin func80 ntmps80 2 rfl rfl rfl fun _ F0 => ?_
 unfold AP3 at H
 refine Ar F0 s0 rfl rfl rfl fun g8 w9 _ F s1 => ?_
 obtain ⟨x0, h0, H⟩ := Aa H
 refine gw 6 F rfl fun _ F => gld F s1 m0 0 rfl fun _ F => gca F s1 (Ba2 (hr0_0.Ajq s1) h0) 14 rfl rfl rfl rfl fun w0 _ F s2 => gif F H 8 6 rfl rfl rfl (fun h1 H _ F => ?_) (fun h1 H _ F => ?_)
 ·cases H
  exact rt F ⟨rfl, s2.drop⟩
 refine gld F s2 m0 0 rfl fun _ F => gx F (Ak rfl underlying108 (fR hr0_1 s2)) 3 rfl rfl fun _ F => gif F H 7 8 rfl rfl rfl (fun h2 H _ F => ?_) (fun h2 H _ F => ?_)
 ·cases H
  exact rt F ⟨rfl, s2.drop⟩
 obtain ⟨o0, H0, R0⟩ := Aa H
 clear H
 refine At9 (fun a w_ => ∃ p0 : Unit, o0 = .inr (p0) ∧ Fr a 71 [(1, jI a1), (2, jP g8)] ∧ SL w [] w_ [Blk g8 110 [v0_0, v0_1, jI a0.Fn]]) ?_ ?_
 ·have H := H0
  refine gc 1 F rfl fun _ F => lpk (AM7 a0) (fun s3 a w_ => Fr a 71 [(1, jI a1), (2, jP g8), (7, jI s3)] ∧ SL w [] w_ [Blk g8 110 [v0_0, v0_1, jI a0.Fn]]) H ?_ ?_
  ·exact ⟨F.sb, s2⟩
  intro s3 _ w1 h3 o1 H hr
  obtain ⟨F, s4⟩ := h3
  replace H : AM7 a0 s3 = some o1 := H
  unfold AM7 at H
  refine gc 5 F rfl fun _ F => gld F s4 m0 0 rfl fun _ F => gx F (Ak rfl underlying108 (fR hr0_1 s4)) 3 rfl rfl fun _ F => gif F H 7 4 rfl rfl rfl (fun h4 H _ F => ?_) (fun h4 H _ F => ?_)
  ·obtain ⟨x1, h5, H⟩ := Aa H
   obtain ⟨a3, c0, G0, h6, h7, h8, h9⟩ := Rd.idx hr0_1 APh rfl h5
   obtain ⟨v0, rfl, ha⟩ := (ARn h8 h9)
   replace h7 := h7 _ _ s4
   refine gw 1 F rfl fun _ F => gld F s4 m0 1 rfl fun _ F => gi F h6 0 rfl fun _ F => gx F (Ba Bad rfl) 0 rfl rfl fun _ F => gx F (Ao AZ0 rfl (Aqa.at_ h7 (o := 0) rfl)) 0 rfl rfl fun _ F => gx F (Ak rfl underlying47 (fR ha s4)) 3 rfl rfl fun _ F => gif F H 13 3 rfl rfl rfl (fun hb H _ F => ?_) (fun hb H _ F => ?_)
   ·cases H
    obtain rfl := hr _ rfl
    replace H := R0
    try dsimp only at H
    cases H
    exact rt F ⟨rfl, s4.drop⟩
   obtain ⟨x2, hc, H⟩ := Aa H
   obtain ⟨a4, c1, G1, hd, he, hf, hg⟩ := Rd.idx hr0_1 APh rfl hc
   obtain ⟨v1, rfl, hh⟩ := (ARn hf hg)
   have hc6512_ := he; clear he; have he := fun w_ (hC : SL w [] w_ [Blk g8 110 [v0_0, v0_1, jI a0.Fn]]) => hc6512_ _ _ hC
   obtain ⟨x3, hi, H⟩ := Aa H
   refine ATo Aq8 s4 F (QR.ev 1 rfl <| QR.ld m0 rfl <| QR.ev 1 rfl <| QR.ld m0 rfl <| QR.ev 1 rfl <| QR.ix hd rfl <| QR.qo (fun _ hC => Aw AV1 rfl (he _ hC) rfl) rfl <| QR.call (args := [.tmp 37, .tmp 42]) Bx0 rfl (fun _ hC => Bg (Be5 (a0 := a0.Classes) (a1 := x2) (hr0_0.Ajq hC) (hh.Ajq hC) hi) hC) <| QR.ev 1 rfl <| Bb) fun w2 _ s5 F => ge 1 F rfl fun _ F => gif F H 12 8 rfl rfl rfl (fun hj H _ F => ?_) (fun hj H _ F => ?_)
   ·cases H
    obtain rfl := hr _ rfl
    replace H := R0
    try dsimp only at H
    cases H
    exact rt F ⟨rfl, s5.drop⟩
   cases H
   exact ⟨_, rfl, F.sb, s5⟩
  cases H
  obtain rfl := hr _ rfl
  exact ⟨_, rfl, F.sb, s4⟩
 intro _ w3 hJ
 obtain ⟨p0, rfl, F, s6⟩ := hJ
 have H := R0
 clear R0 H0
 try dsimp only at H
 refine ge 5 F rfl fun _ F => gld F s6 m0 2 rfl fun _ F => bsp 48 F H (fun hk H F => ?_) (fun hk H F => ?_)
 ·cases H
  exact gw 17 F rfl fun _ F => rt F ⟨rfl, s6.drop⟩
 refine gw 1 F rfl fun _ F => Afv F rfl rfl <| gld F s6 m0 1 rfl fun _ F => Afv F rfl rfl <| gld F s6 m0 0 rfl fun _ F => Afv F rfl rfl <| gx F (Ak rfl underlying108 (fR hr0_1 s6)) 4 rfl rfl fun _ F => gif F H 7 3 rfl rfl rfl (fun hl H _ F => ?_) (fun hl H _ F => ?_)
 ·cases H
  exact rt F ⟨rfl, s6.drop⟩
 obtain ⟨x4, hm, H⟩ := Aa H
 obtain ⟨a5, c2, G2, hn, ho, hp, hq⟩ := Rd.idx hr0_1 APh rfl hm
 obtain ⟨v2, rfl, hs⟩ := (ARn hp hq)
 have hc6597_ := ho; clear ho; have ho := fun w_ (hC : SL w [] w_ [Blk g8 110 [v0_0, v0_1, jI a0.Fn]]) => hc6597_ _ _ hC
 obtain ⟨x5, ht, H⟩ := Aa H
 refine ATo Aq8 s6 F (QR.ev 1 rfl <| QR.ld m0 rfl <| QR.ev 1 rfl <| QR.ld m0 rfl <| QR.ev 1 rfl <| QR.ld m0 rfl <| QR.ix hn rfl <| QR.qo (fun _ hC => Ba Bad rfl) rfl <| QR.qo (fun _ hC => Ao AZ0 rfl (Aqa.at_ (ho _ hC) (o := 0) rfl)) rfl <| QR.ev 1 rfl <| QR.call (args := [.tmp 58, .tmp 65, .tmp 66]) Bzy rfl (fun _ hC => Bg (AW8 (a0 := a0.Classes) (a1 := x4.Ars) (a2 := a1) (hr0_0.Ajq hC) (hs.Ajq hC) ht) hC) <| QR.ev 4 rfl <| Bb) fun w4 _ s7 F => ?_
 cases H
 exact ge 8 F rfl fun _ F => rt F ⟨rfl, s7.drop⟩
theorem Bcm {w : World} {v0_0 v0_1 v0_2 v0_3 : Value} {a0 : Aiw} {r : Int} (hr0_0 : Rd Ty.bool w [] v0_0 a0.Has) (hr0_1 : Rd A0w w [] v0_1 a0.Frame) (hr0_2 : Rd Ty.bool w [] v0_2 a0.AJs) (hr0_3 : Rd (Ty.int .i64) w [] v0_3 a0.Taken) (H : AQz a0 = some r) :
    Calls prog 82 #[.agg ⟨[v0_0, v0_1, v0_2, v0_3]⟩] w (Ret fun u_ w_ => u_ = jI r ∧ SL w [] w_ []) := by
 have s0 : SL w [] w [] := SL.Aq9 w
 refine cin func82 ntmps82 2 rfl rfl rfl fun _ F0 => ?_
 unfold AQz at H
 refine Ar F0 s0 rfl rfl rfl fun g8 w9 _ F s1 => ?_
 obtain ⟨o0, H0, R0⟩ := Aa H
 clear H
 refine gw 9 F rfl fun _ F => At9 (fun a w_ => ∃ p0 : Unit, o0 = .inr (p0) ∧ Fr a 17 [] ∧ SL w [] w_ []) ?_ ?_
 ·have H := H0
  refine gc 1 F rfl fun _ F => lpk (ANv a0) (fun s2 a w_ => Fr a 17 [(1, jP g8), (3, jI s2)] ∧ SL w [] w_ [Blk g8 164 [v0_0, v0_1, v0_2, v0_3]]) H ?_ ?_
  ·exact ⟨F.sb, s1⟩
  intro s2 _ w0 h0 o1 H hr
  obtain ⟨F, s3⟩ := h0
  replace H : ANv a0 s2 = some o1 := H
  unfold ANv at H
  refine gc 5 F rfl fun _ F => gld F s3 m0 0 rfl fun _ F => gx F (Ak rfl underlying44 (fR hr0_2 s3)) 3 rfl rfl fun _ F => gif F H 7 4 rfl rfl rfl (fun h1 H _ F => ?_) (fun h1 H _ F => ?_)
  ·obtain ⟨x0, h2, H⟩ := Aa H
   obtain ⟨a1, h3, h4⟩ := AT7 Flat.bool (Bl hr0_2 s3) A73 rfl h2
   refine gld F s3 m0 1 rfl fun _ F => gi F h3 0 rfl fun _ F => gx F (Ao Bbo rfl (Aqa.at_ h4 (o := 0) rfl)) 2 rfl rfl fun _ F => gif F H 13 8 rfl rfl rfl (fun h5 H _ F => ?_) (fun h5 H _ F => ?_)
   ·cases H
    obtain rfl := hr _ rfl
    replace H := R0
    try dsimp only at H
    cases H
    exact rt F ⟨rfl, s3.drop⟩
   cases H
   exact ⟨_, rfl, F.sb, s3⟩
  cases H
  obtain rfl := hr _ rfl
  exact ⟨_, rfl, F.sb, s3.drop⟩
 intro _ w1 hJ
 obtain ⟨p0, rfl, F, s4⟩ := hJ
 have H := R0
 clear R0 H0
 try dsimp only at H
 cases H
 exact ge 7 F rfl fun _ F => rt F ⟨rfl, s4⟩
theorem Bbc {w : World} {v0_0 v0_1 v0_2 v0_3 : Value} {a0 : Aiw} {a1 : Int} {a2 : Int} {r : Bool} (hr0_0 : Rd Ty.bool w [] v0_0 a0.Has) (hr0_1 : Rd A0w w [] v0_1 a0.Frame) (hr0_2 : Rd Ty.bool w [] v0_2 a0.AJs) (hr0_3 : Rd (Ty.int .i64) w [] v0_3 a0.Taken) (H : APs a0 a1 a2 = some r) :
    Calls prog 123 #[.agg ⟨[v0_0, v0_1, v0_2, v0_3]⟩, jI a1, jI a2] w (Ret fun u_ w_ => u_ = .bool r ∧ SL w [] w_ []) := by
 have s0 : SL w [] w [] := SL.Aq9 w
 refine cin func123 ntmps123 2 rfl rfl rfl fun _ F0 => ?_
 unfold APs at H
 refine Ar F0 s0 rfl rfl rfl fun g8 w9 _ F s1 => ?_
 obtain ⟨o0, H0, R0⟩ := Aa H
 clear H
 refine gw 9 F rfl fun _ F => At9 (fun a w_ => ∃ p0 : Unit, o0 = .inr (p0) ∧ Fr a 44 [] ∧ SL w [] w_ []) ?_ ?_
 ·have H := H0
  refine gc 1 F rfl fun _ F => lpk (ANj a0 a1 a2) (fun s2 a w_ => Fr a 44 [(1, jI a1), (2, jI a2), (3, jP g8), (7, jI s2)] ∧ SL w [] w_ [Blk g8 164 [v0_0, v0_1, v0_2, v0_3]]) H ?_ ?_
  ·exact ⟨F.sb, s1⟩
  intro s2 _ w0 h0 o1 H hr
  obtain ⟨F, s3⟩ := h0
  replace H : ANj a0 a1 a2 s2 = some o1 := H
  unfold ANj at H
  refine gc 5 F rfl fun _ F => gld F s3 m0 0 rfl fun _ F => gx F (Ak rfl underlying28 (fR hr0_3 s3)) 3 rfl rfl fun _ F => gif F H 7 4 rfl rfl rfl (fun h1 H _ F => ?_) (fun h1 H _ F => ?_)
  ·obtain ⟨x0, h2, H⟩ := Aa H
   obtain ⟨a3, h3, h4⟩ := AT7 (Flat.int .i64) (Bl hr0_3 s3) Awy rfl h2
   refine gld F s3 m0 1 rfl fun _ F => gi F h3 0 rfl fun _ F => gx F (Ao AAd rfl (Aqa.at_ h4 (o := 0) rfl)) 2 rfl rfl fun _ F => bsp 21 F H (fun h5 H F => ?_) (fun h5 H F => ?_)
   ·refine gw 5 F rfl fun _ F => bsp 26 F H (fun h6 H F => ?_) (fun h6 H F => ?_)
    ·refine gw 3 F rfl fun _ F => Afv F rfl rfl ?_
     obtain ⟨x1, h7, H⟩ := Aa H
     obtain ⟨a4, h8, h9⟩ := AT7 (Flat.int .i64) (Bl hr0_3 s3) Awy rfl h7
     refine gld F s3 m0 1 rfl fun _ F => Afv F rfl rfl <| gi F h8 0 rfl fun _ F => Afv F rfl rfl <| gx F (Ao AAd rfl (Aqa.at_ h9 (o := 0) rfl)) 4 rfl rfl fun _ F => bsp 37 F H (fun ha H F => ?_) (fun ha H F => ?_)
     ·refine gw 8 F rfl fun _ F => gif F H 12 8 rfl rfl rfl (fun hb H _ F => ?_) (fun hb H _ F => ?_)
      ·cases H
       obtain rfl := hr _ rfl
       replace H := R0
       try dsimp only at H
       cases H
       exact rt F ⟨rfl, s3.drop⟩
      cases H
      exact ⟨_, rfl, F.sb, s3⟩
     cases H
     exact gw 17 F rfl fun _ F => ⟨_, rfl, F.sb, s3⟩
    cases H
    exact gw 28 F rfl fun _ F => ⟨_, rfl, F.sb, s3⟩
   cases H
   exact gw 33 F rfl fun _ F => ⟨_, rfl, F.sb, s3⟩
  cases H
  obtain rfl := hr _ rfl
  exact ⟨_, rfl, F.sb, s3.drop⟩
 intro _ w1 hJ
 obtain ⟨p0, rfl, F, s4⟩ := hJ
 have H := R0
 clear R0 H0
 try dsimp only at H
 cases H
 exact ge 7 F rfl fun _ F => rt F ⟨rfl, s4⟩
theorem AZ4 {w : World} {v0 : Value} {a0 : List Abi} {a1 : UInt8} {r : Bool} (hr0 : Rd Aef w [] v0 a0) (H : ARu a0 a1 = some r) :
    Calls prog 170 #[v0, jU (a1.toNat : Int)] w (Ret fun u_ w_ => u_ = .bool r ∧ SL w [] w_ []) := by
 have s0 : SL w [] w [] := SL.Aq9 w
 refine cin func170 ntmps170 9 rfl rfl rfl fun _ F => ?_
 unfold ARu at H
 obtain ⟨x0, h0, H⟩ := Aa H
 refine gca F s0 (AP0 (hr0.Ajq s0) h0) 1 rfl rfl rfl rfl fun w0 _ F s1 => bsp 8 F H (fun h1 H F => ?_) (fun h1 H F => ?_)
 ·refine gw 4 F rfl fun _ F => bsp 12 F H (fun h2 H F => ?_) (fun h2 H F => ?_)
  ·cases H
   exact gw 7 F rfl fun _ F => rt F ⟨rfl, s1⟩
  cases H
  exact gw 7 F rfl fun _ F => rt F ⟨rfl, s1⟩
 cases H
 exact gw 11 F rfl fun _ F => rt F ⟨rfl, s1⟩
theorem Bhx {w : World} {v0_0 v0_1 : Value} {a0 : Adb} {r : Bool} (hr0_0 : Rd Aef w [] v0_0 a0.Classes) (hr0_1 : Rd Ate w [] v0_1 a0.Akq) (H : AR7 a0 = some r) :
    Calls prog 146 #[.agg ⟨[v0_0, v0_1, jI a0.Fn]⟩] w (Ret fun u_ w_ => u_ = .bool r ∧ SL w [] w_ []) := by
 have s0 : SL w [] w [] := SL.Aq9 w
 refine cin func146 ntmps146 2 rfl rfl rfl fun _ F0 => ?_
 unfold AR7 at H
 refine Ar F0 s0 rfl rfl rfl fun g8 w9 _ F s1 => ?_
 obtain ⟨x0, h0, H⟩ := Aa H
 refine gw 7 F rfl fun _ F => gld F s1 m0 0 rfl fun _ F => gca F s1 (Ba2 (hr0_0.Ajq s1) h0) 13 rfl rfl rfl rfl fun w0 _ F s2 => gif F H 7 6 rfl rfl rfl (fun h1 H _ F => ?_) (fun h1 H _ F => ?_)
 ·cases H
  exact rt F ⟨rfl, s2.drop⟩
 refine gld F s2 m0 0 rfl fun _ F => gx F (Ak rfl underlying108 (fR hr0_1 s2)) 2 rfl rfl fun _ F => bsp 21 F H (fun h2 H F => ?_) (fun h2 H F => ?_)
 ·cases H
  exact gw 22 F rfl fun _ F => rt F ⟨rfl, s2.drop⟩
 refine gw 1 F rfl fun _ F => Afv F rfl rfl <| gld F s2 m0 3 rfl fun _ F => bsp 26 F H (fun h3 H F => ?_) (fun h3 H F => ?_)
 ·cases H
  exact gw 17 F rfl fun _ F => rt F ⟨rfl, s2.drop⟩
 refine gw 1 F rfl fun _ F => Afv F rfl rfl <| gld F s2 m0 1 rfl fun _ F => Afv F rfl rfl <| gld F s2 m0 0 rfl fun _ F => Afv F rfl rfl <| gx F (Ak rfl underlying108 (fR hr0_1 s2)) 4 rfl rfl fun _ F => gif F H 7 6 rfl rfl rfl (fun h4 H _ F => ?_) (fun h4 H _ F => ?_)
 ·cases H
  exact rt F ⟨rfl, s2.drop⟩
 refine gld F s2 m0 0 rfl fun _ F => ?_
 obtain ⟨o0, H0, R0⟩ := Aa H
 clear H
 refine gx F (Ak rfl underlying108 (fR hr0_1 s2)) 3 rfl rfl fun _ F => At9 (fun a w_ => ∃ p0 : Unit, o0 = .inr (p0) ∧ Fr a 72 [] ∧ SL w [] w_ []) ?_ ?_
 ·have H := H0
  refine gc 1 F rfl fun _ F => lpk (AOk a0) (fun s3 a w_ => Fr a 72 [(1, jP g8), (35, v0_1), (36, jI (a0.Akq.length : Int)), (37, jI s3)] ∧ SL w [] w_ [Blk g8 110 [v0_0, v0_1, jI a0.Fn]]) H ?_ ?_
  ·exact ⟨F.sb, s2⟩
  intro s3 _ w1 h5 o1 H hr
  obtain ⟨F, s4⟩ := h5
  replace H : AOk a0 s3 = some o1 := H
  unfold AOk at H
  refine gc 6 F rfl fun _ F => gif F H 6 4 rfl rfl rfl (fun h6 H _ F => ?_) (fun h6 H _ F => ?_)
  ·obtain ⟨x1, h7, H⟩ := Aa H
   obtain ⟨a1, c0, G0, h8, h9, ha, hb⟩ := Rd.idx hr0_1 APh rfl h7
   obtain ⟨v0, rfl, hc⟩ := (ARn ha hb)
   replace h9 := h9 _ _ s4
   refine gi F h8 0 rfl fun _ F => gx F (Aw AV1 rfl h9 rfl) 0 rfl rfl fun _ F => Af F s4 AYi rfl rfl fun g0 w2 _ F s5 => Ah F s5 rfl rfl Bc8 (Ab (Aq (fR hc s5)) (Ab rfl Ap)) (Ac rfl) fun w3 _ F s6 => ?_
   obtain ⟨o2, H1, R1⟩ := Aa H
   clear H
   refine gw 3 F rfl fun _ F => At9 (fun a w_ => ∃ p1 : Bool × Bool, o2 = .inr (p1) ∧ Fr a 72 [(1, jP g8), (6, jP g0), (35, v0_1), (36, jI (a0.Akq.length : Int)), (37, jI s3), (46, .pointer (some ⟨g0, 1, none⟩)), (47, jU (x1.Result.toNat : Int)), (48, .bool ((x1.Result.toNat : Int) != 0)), (49, .bool p1.1), (56, .bool p1.2)] ∧ SL w [] w_ [Blk g0 50 [v0, jU (x1.Result.toNat : Int)], Blk g8 110 [v0_0, v0_1, jI a0.Fn]]) ?_ ?_
   ·have H := H1
    refine gc 3 F rfl fun _ F => gld F s6 m0 0 rfl fun _ F => gx F (Ak rfl underlying47 (fR hc s6)) 2 rfl rfl fun _ F => bsp 45 F H (fun hd H F => ?_) (fun hd H F => ?_)
    ·cases H
     replace H := R1
     try dsimp only at H
     cases H
     obtain rfl := hr _ rfl
     replace H := R0
     try dsimp only at H
     cases H
     exact gw 29 F rfl fun _ F => rt F ⟨rfl, s6.drop.drop⟩
    refine gw 1 F rfl fun _ F => Afv F rfl rfl <| gld F s6 m0 2 rfl fun _ F => bsp 49 F H (fun he H F => ?_) (fun he H F => ?_)
    ·refine gw 1 F rfl fun _ F => Afv F rfl rfl <| gld F s6 m1 1 rfl fun _ F => Afv F rfl rfl <| gld F s6 m0 0 rfl fun _ F => ?_
     obtain ⟨x2, hf, H⟩ := Aa H
     refine Afv F rfl rfl <| gca F s6 (AZ4 (hr0_0.Ajq s6) hf) 5 rfl rfl rfl rfl fun w4 _ F s7 => gif F H 14 1 rfl rfl rfl (fun hg H _ F => ?_) (fun hg H _ F => ?_)
     ·cases H
      replace H := R1
      try dsimp only at H
      cases H
      obtain rfl := hr _ rfl
      replace H := R0
      try dsimp only at H
      cases H
      exact rt F ⟨rfl, s7.drop.drop⟩
     cases H
     exact ⟨_, rfl, F.sb, s7⟩
    cases H
    exact gw 12 F rfl fun _ F => ⟨_, rfl, F.sb, s6⟩
   intro _ w5 hJ
   obtain ⟨p1, rfl, F, s8⟩ := hJ
   have H := R1
   clear R1 H1
   try dsimp only at H
   refine ge 4 F rfl fun _ F => gld F s8 m0 0 rfl fun _ F => ?_
   obtain ⟨o3, H2, R2⟩ := Aa H
   clear H
   refine gx F (Ak rfl underlying47 (fR hc s8)) 3 rfl rfl fun _ F => At9 (fun a w_ => ∃ p2 : Unit, o3 = .inr (p2) ∧ Fr a 72 [(1, jP g8), (35, v0_1), (36, jI (a0.Akq.length : Int)), (37, jI s3), (46, .pointer (some ⟨g0, 1, none⟩)), (47, jU (x1.Result.toNat : Int)), (48, .bool ((x1.Result.toNat : Int) != 0)), (49, .bool p1.1), (56, .bool p1.2)] ∧ SL w [] w_ [Blk g0 50 [v0, jU (x1.Result.toNat : Int)], Blk g8 110 [v0_0, v0_1, jI a0.Fn]]) ?_ ?_
   ·have H := H2
    refine gc 1 F rfl fun _ F => lpk (AOm a0 x1) (fun s9 a w_ => Fr a 72 [(1, jP g8), (35, v0_1), (36, jI (a0.Akq.length : Int)), (37, jI s3), (46, .pointer (some ⟨g0, 1, none⟩)), (47, jU (x1.Result.toNat : Int)), (48, .bool ((x1.Result.toNat : Int) != 0)), (49, .bool p1.1), (56, .bool p1.2), (59, v0), (60, jI (x1.Ars.length : Int)), (61, jI s9)] ∧ SL w [] w_ [Blk g0 50 [v0, jU (x1.Result.toNat : Int)], Blk g8 110 [v0_0, v0_1, jI a0.Fn]]) H ?_ ?_
    ·exact ⟨F.sb, s8⟩
    intro s9 _ w6 hh o4 H hr
    obtain ⟨F, sa⟩ := hh
    replace H : AOm a0 x1 s9 = some o4 := H
    unfold AOm at H
    refine gc 6 F rfl fun _ F => gif F H 6 4 rfl rfl rfl (fun hi H _ F => ?_) (fun hi H _ F => ?_)
    ·obtain ⟨x3, hj, H⟩ := Aa H
     obtain ⟨a2, hk, hl⟩ := AT7 Flat.u8 (Bl hc sa) Aqg rfl hj
     refine gi F hk 0 rfl fun _ F => ?_
     obtain ⟨x4, hm, H⟩ := Aa H
     refine gx F (Ao Aw9 rfl (Aqa.at_ hl (o := 0) rfl)) 6 rfl rfl fun _ F => gld F sa m1 1 rfl fun _ F => gca F sa (AZ4 (hr0_0.Ajq sa) hm) 3 rfl rfl rfl rfl fun w7 _ F sc => gif F H 17 7 rfl rfl rfl (fun hn H _ F => ?_) (fun hn H _ F => ?_)
     ·cases H
      obtain rfl := hr _ rfl
      replace H := R2
      try dsimp only at H
      cases H
      obtain rfl := hr _ rfl
      replace H := R0
      try dsimp only at H
      cases H
      exact rt F ⟨rfl, sc.drop.drop⟩
     cases H
     exact ⟨_, rfl, F.sb, sc⟩
    cases H
    obtain rfl := hr _ rfl
    exact ⟨_, rfl, F.sb, sa⟩
   intro _ w8 hJ
   obtain ⟨p2, rfl, F, sd⟩ := hJ
   have H := R2
   clear R2 H2
   try dsimp only at H
   cases H
   exact ge 6 F rfl fun _ F => ⟨_, rfl, F.sb, sd.drop⟩
  cases H
  obtain rfl := hr _ rfl
  exact ⟨_, rfl, F.sb, s4.drop⟩
 intro _ wa hJ
 obtain ⟨p0, rfl, F, se⟩ := hJ
 have H := R0
 clear R0 H0
 try dsimp only at H
 cases H
 exact ge 7 F rfl fun _ F => rt F ⟨rfl, se⟩
theorem AW6 {w : World} {a0 : Aas} {r : Bool} (H : AQ4 a0 = some r) :
    Calls prog 171 #[.agg ⟨(jI a0.Locals :: jI a0.Height :: ev8 a0.Slots)⟩] w (Ret fun u_ w_ => u_ = .bool r ∧ SL w [] w_ []) := by
 have s0 : SL w [] w [] := SL.Aq9 w
 refine cin func171 ntmps171 2 rfl rfl rfl fun _ F0 => ?_
 unfold AQ4 at H
 refine Ar F0 s0 rfl rfl rfl fun g8 w9 _ F s1 => gw 6 F rfl fun _ F => gld F s1 m0 2 rfl fun _ F => bsp 6 F H (fun h0 H F => ?_) (fun h0 H F => ?_)
 ·refine gw 1 F rfl fun _ F => Afv F rfl rfl <| gld F s1 m0 3 rfl fun _ F => bsp 11 F H (fun h1 H F => ?_) (fun h1 H F => ?_)
  ·refine gw 1 F rfl fun _ F => Afv F rfl rfl <| gld F s1 m0 3 rfl fun _ F => bsp 16 F H (fun h2 H F => ?_) (fun h2 H F => ?_)
   ·refine gw 1 F rfl fun _ F => Afv F rfl rfl <| gld F s1 m0 3 rfl fun _ F => bsp 21 F H (fun h3 H F => ?_) (fun h3 H F => ?_)
    ·refine gw 1 F rfl fun _ F => Afv F rfl rfl <| gld F s1 m0 1 rfl fun _ F => Afv F rfl rfl ?_
     cases H
     exact gld F s1 m0 7 rfl fun _ F => rt F ⟨rfl, s1.drop⟩
    cases H
    exact gw 11 F rfl fun _ F => rt F ⟨rfl, s1.drop⟩
   cases H
   exact gw 16 F rfl fun _ F => rt F ⟨rfl, s1.drop⟩
  cases H
  exact gw 21 F rfl fun _ F => rt F ⟨rfl, s1.drop⟩
 cases H
 exact gw 26 F rfl fun _ F => rt F ⟨rfl, s1.drop⟩
theorem AW4 {w : World} {v0 : Value} {a0 : List Abi} {a1 : Aas} {r : Int} (hr0 : Rd Aef w [] v0 a0) (H : APr a0 a1 = some r) :
    Calls prog 147 #[v0, .agg ⟨(jI a1.Locals :: jI a1.Height :: ev8 a1.Slots)⟩] w (Ret fun u_ w_ => u_ = jI r ∧ SL w [] w_ []) := by
 have s0 : SL w [] w [] := SL.Aq9 w
 refine cin func147 ntmps147 2 rfl rfl rfl fun _ F0 => ?_
 unfold APr at H
 refine Ar F0 s0 rfl rfl rfl fun g8 w9 _ F s1 => ?_
 obtain ⟨x0, h0, H⟩ := Aa H
 refine gw 6 F rfl fun _ F => gla F s1 m0 0 rfl fun _ F => gca F s1 (AW6 h0) 3 rfl rfl rfl rfl fun w0 _ F s2 => gif F H 7 6 rfl rfl rfl (fun h1 H _ F => ?_) (fun h1 H _ F => ?_)
 ·cases H
  exact rt F ⟨rfl, s2.drop⟩
 refine gld F s2 m0 1 rfl fun _ F => ?_
 obtain ⟨o0, H0, R0⟩ := Aa H
 clear H
 refine gld F s2 m0 4 rfl fun _ F => At9 (fun a w_ => ∃ p0 : Unit, o0 = .inr (p0) ∧ Fr a 40 [(0, v0), (3, jP g8)] ∧ SL w [] w_ [Blk g8 118 (jI a1.Locals :: jI a1.Height :: ev8 a1.Slots)]) ?_ ?_
 ·have H := H0
  refine gc 1 F rfl fun _ F => lpk (APg a1) (fun s3 a w_ => Fr a 40 [(0, v0), (3, jP g8), (5, jI s3)] ∧ SL w [] w_ [Blk g8 118 (jI a1.Locals :: jI a1.Height :: ev8 a1.Slots)]) H ?_ ?_
  ·exact ⟨F.sb, s2⟩
  intro s3 _ w1 h2 o1 H hr
  obtain ⟨F, s4⟩ := h2
  replace H : APg a1 s3 = some o1 := H
  unfold APg at H
  refine gc 7 F rfl fun _ F => gif F H 8 4 rfl rfl rfl (fun h3 H _ F => ?_) (fun h3 H _ F => ?_)
  ·obtain ⟨x1, h4, H⟩ := Aa H
   refine gx F (AO6 ANo h4 rfl rfl) 0 rfl rfl fun _ F => gx F (Ao Aw9 rfl (SL.AT9 (pre := [jI a1.Locals, jI a1.Height]) s4 m0 rfl h4)) 3 rfl rfl fun _ F => gif F H 12 8 rfl rfl rfl (fun h5 H _ F => ?_) (fun h5 H _ F => ?_)
   ·cases H
    obtain rfl := hr _ rfl
    replace H := R0
    try dsimp only at H
    cases H
    exact rt F ⟨rfl, s4.drop⟩
   cases H
   exact ⟨_, rfl, F.sb, s4⟩
  cases H
  obtain rfl := hr _ rfl
  exact ⟨_, rfl, F.sb, s4⟩
 intro _ w2 hJ
 obtain ⟨p0, rfl, F, s5⟩ := hJ
 have H := R0
 clear R0 H0
 try dsimp only at H
 obtain ⟨o2, H1, R1⟩ := Aa H
 clear H
 refine ge 7 F rfl fun _ F => At9 (fun a w_ => ∃ p1 : Unit, o2 = .inr (p1) ∧ Fr a 40 [] ∧ SL w [] w_ []) ?_ ?_
 ·have H := H1
  refine gc 1 F rfl fun _ F => lpk (APk a0 a1) (fun s6 a w_ => Fr a 40 [(0, v0), (3, jP g8), (6, jI s6)] ∧ SL w [] w_ [Blk g8 118 (jI a1.Locals :: jI a1.Height :: ev8 a1.Slots)]) H ?_ ?_
  ·exact ⟨F.sb, s5⟩
  intro s6 _ w3 h6 o3 H hr
  obtain ⟨F, s7⟩ := h6
  replace H : APk a0 a1 s6 = some o3 := H
  unfold APk at H
  refine gc 5 F rfl fun _ F => gld F s7 m0 1 rfl fun _ F => gld F s7 m0 4 rfl fun _ F => gif F H 9 4 rfl rfl rfl (fun h7 H _ F => ?_) (fun h7 H _ F => ?_)
  ·obtain ⟨x2, h8, H⟩ := Aa H
   obtain ⟨x3, h9, H⟩ := Aa H
   refine gx F (AO6 ANo h8 rfl rfl) 0 rfl rfl fun _ F => gx F (Ao Aw9 rfl (SL.AT9 (pre := [jI a1.Locals, jI a1.Height]) s7 m0 rfl h8)) 0 rfl rfl fun _ F => gca F s7 (AP0 (hr0.Ajq s7) h9) 3 rfl rfl rfl rfl fun w4 _ F s8 => gif F H 12 8 rfl rfl rfl (fun ha H _ F => ?_) (fun ha H _ F => ?_)
   ·cases H
    obtain rfl := hr _ rfl
    replace H := R1
    try dsimp only at H
    cases H
    exact rt F ⟨rfl, s8.drop⟩
   cases H
   exact ⟨_, rfl, F.sb, s8⟩
  cases H
  obtain rfl := hr _ rfl
  exact ⟨_, rfl, F.sb, s7.drop⟩
 intro _ w5 hJ
 obtain ⟨p1, rfl, F, s9⟩ := hJ
 have H := R1
 clear R1 H1
 try dsimp only at H
 cases H
 exact ge 7 F rfl fun _ F => rt F ⟨rfl, s9⟩
theorem AZd {w : World} {v0_0 v0_1 : Value} {a0 : Adb} {a1 : Ads} {r : Int} (hr0_0 : Rd Aef w [] v0_0 a0.Classes) (hr0_1 : Rd Ate w [] v0_1 a0.Akq) (H : AQw a0 a1 = some r) :
    Calls prog 148 #[.agg ⟨[v0_0, v0_1, jI a0.Fn]⟩, .agg ⟨[jI a1.At, jU (a1.Op.toNat : Int), jI a1.A, jI a1.B]⟩] w (Ret fun u_ w_ => u_ = jI r ∧ SL w [] w_ []) := by
 have s0 : SL w [] w [] := SL.Aq9 w
 refine cin func148 ntmps148 2 rfl rfl rfl fun _ F0 => ?_
 unfold AQw at H
 refine Ar F0 s0 rfl rfl rfl fun g0 w0 _ F s1 => Ar F s1 rfl rfl rfl fun g1 w1 _ F s2 => ?_
 obtain ⟨o0, H0, R0⟩ := Aa H
 clear H
 refine gw 4 F rfl fun _ F => At9 (fun a w_ => ∃ p0 : Unit, o0 = .inr (p0) ∧ Fr a 59 [(2, jP g0), (3, jP g1)] ∧ SL w [] w_ [Blk g1 79 [jI a1.At, jU (a1.Op.toNat : Int), jI a1.A, jI a1.B], Blk g0 110 [v0_0, v0_1, jI a0.Fn]]) ?_ ?_
 ·have H := H0
  refine gc 3 F rfl fun _ F => gld F s2 m0 9 rfl fun _ F => gif F H 3 1 rfl rfl rfl (fun h0 H _ F => ?_) (fun h0 H _ F => ?_)
  ·refine gld F s2 m0 2 rfl fun _ F => bsp 12 F H (fun h1 H F => ?_) (fun h1 H F => ?_)
   ·cases H
    replace H := R0
    try dsimp only at H
    cases H
    exact gw 19 F rfl fun _ F => rt F ⟨rfl, s2.drop.drop⟩
   refine gw 1 F rfl fun _ F => Afv F rfl rfl <| gld F s2 m0 1 rfl fun _ F => Afv F rfl rfl <| gld F s2 m1 0 rfl fun _ F => Afv F rfl rfl <| gx F (Ak rfl underlying108 (fR hr0_1 s2)) 4 rfl rfl fun _ F => gif F H 9 2 rfl rfl rfl (fun h2 H _ F => ?_) (fun h2 H _ F => ?_)
   ·cases H
    replace H := R0
    try dsimp only at H
    cases H
    exact rt F ⟨rfl, s2.drop.drop⟩
   cases H
   exact ⟨_, rfl, F.sb, s2⟩
  obtain ⟨o1, H1, R1⟩ := Aa H
  clear H
  refine At9 (fun a w_ => Fr a 59 [(2, jP g0), (3, jP g1), (20, .bool o1)] ∧ SL w [] w_ [Blk g1 79 [jI a1.At, jU (a1.Op.toNat : Int), jI a1.A, jI a1.B], Blk g0 110 [v0_0, v0_1, jI a0.Fn]]) ?_ ?_
  ·have H := H1
   refine gc 6 F rfl fun _ F => gif F H 1 6 rfl rfl rfl (fun h3 H _ F => ?_) (fun h3 H _ F => ?_)
   ·cases H
    exact ⟨F.sb, s2⟩
   refine gif F H 1 6 rfl rfl rfl (fun h4 H _ F => ?_) (fun h4 H _ F => ?_)
   ·cases H
    exact ⟨F.sb, s2⟩
   refine gif F H 1 6 rfl rfl rfl (fun h5 H _ F => ?_) (fun h5 H _ F => ?_)
   ·cases H
    exact ⟨F.sb, s2⟩
   refine gif F H 1 4 rfl rfl rfl (fun h6 H _ F => ?_) (fun h6 H _ F => ?_)
   ·cases H
    exact ⟨F.sb, s2⟩
   cases H
   exact ⟨F.sb, s2⟩
  intro _ w2 hJ
  obtain ⟨F, s3⟩ := hJ
  have H := R1
  clear R1 H1
  refine ge 1 F rfl fun _ F => gif F H 3 2 rfl rfl rfl (fun h7 H _ F => ?_) (fun h7 H _ F => ?_)
  ·refine gld F s3 m0 2 rfl fun _ F => bsp 29 F H (fun h8 H F => ?_) (fun h8 H F => ?_)
   ·cases H
    replace H := R0
    try dsimp only at H
    cases H
    exact gw 19 F rfl fun _ F => rt F ⟨rfl, s3.drop.drop⟩
   refine gw 1 F rfl fun _ F => Afv F rfl rfl <| gld F s3 m0 1 rfl fun _ F => Afv F rfl rfl <| gld F s3 m1 0 rfl fun _ F => Afv F rfl rfl <| gx F (Ak rfl underlying22 (fR hr0_0 s3)) 4 rfl rfl fun _ F => gif F H 9 2 rfl rfl rfl (fun h9 H _ F => ?_) (fun h9 H _ F => ?_)
   ·cases H
    replace H := R0
    try dsimp only at H
    cases H
    exact rt F ⟨rfl, s3.drop.drop⟩
   cases H
   exact ⟨_, rfl, F.sb, s3⟩
  cases H
  exact ⟨_, rfl, F.sb, s3⟩
 intro _ w3 hJ
 obtain ⟨p0, rfl, F, s4⟩ := hJ
 have H := R0
 clear R0 H0
 try dsimp only at H
 refine ge 5 F rfl fun _ F => gld F s4 m0 2 rfl fun _ F => bsp 40 F H (fun ha H F => ?_) (fun ha H F => ?_)
 ·refine gw 8 F rfl fun _ F => Be (decide (a1.B < 0)) (fun hgs3 => ?_) (fun hgs3 => ?_)
  ·replace H := AZv hgs3 H
   refine AJp Aq8 s4 ?_
   refine hq [0, 1, 2, 3, 4, 5, 6, 7, 8, 9, 10, 11, 12, 13] F s4.drew (QI.ev 1 rfl <| QI.ld m0 rfl <| QI.ev 2 rfl <| QI.kn (dj := 48) rfl hgs3 <| QI.ev 10 rfl <| QI.nil) (by kernel_rfl) fun _ F => ?_
   refine ANu (by kernel_rfl) ?_
   cases H
   exact ge 9 F rfl fun _ F => rt F ⟨rfl, s4.drew.drop.drop⟩
  replace H := AZy hgs3 H
  obtain ⟨x0, hb, H⟩ := Aa H
  refine AJp Aq8 s4 ?_
  refine hq [0, 1, 2, 3, 4, 5, 6, 7, 8, 9] F s4.drew (QI.ev 1 rfl <| QI.ld m0 rfl <| QI.ev 2 rfl <| QI.kn (dj := 48) rfl hgs3 <| QI.ev 1 rfl <| QI.gop rfl (fun _ hC => Ao AAd rfl (hC.AQ9 m0 rfl)) rfl rfl rfl rfl rfl <| QI.ev 1 rfl <| QI.gop rfl (fun _ hC => Ao Bp5 rfl (hC.AQ9 m1 rfl)) rfl rfl rfl rfl rfl <| QI.ev 1 rfl <| QI.gop rfl (fun _ hC => Ao AAd rfl (hC.AQ9 m0 rfl)) rfl rfl rfl rfl rfl <| QI.nil) (by kernel_rfl) fun _ F => ?_
  refine ho 10 rfl (by kernel_rfl) ?_
  refine Afv F rfl rfl <| std F (ASf (hr0_0.Ajq s4.drew) hb) fun v0 w4 _ hc F => ?_
  obtain ⟨_, rfl, hd⟩ := hc
  have s5 := s4.drew.add hd
  refine gw 1 F rfl fun _ F => ⟨s5.drop, ?_⟩
  refine ho 11 rfl (by kernel_rfl) ?_
  refine Afv F rfl rfl <| gx F (Ak rfl underlying101 (fO s5 m0)) 1 rfl rfl fun _ F => ⟨s5.drop, ?_⟩
  refine hq [12, 13] F s5.drop (QI.ev 2 rfl <| QI.nil) (by kernel_rfl) fun _ F => ?_
  refine ANu (by kernel_rfl) ?_
  refine ge 1 F rfl fun _ F => gif F H 7 8 rfl rfl rfl (fun he H _ F => ?_) (fun he H _ F => ?_)
  ·cases H
   exact rt F ⟨rfl, s5.drop.drop.drop⟩
  cases H
  exact rt F ⟨rfl, s5.drop.drop.drop⟩
 refine gw 1 F rfl fun _ F => Afv F rfl rfl <| gld F s4 m0 4 rfl fun _ F => gif F H 1 8 rfl rfl rfl (fun hf H _ F => ?_) (fun hf H _ F => ?_)
 ·refine Be (decide (a1.B < 0)) (fun hgs4 => ?_) (fun hgs4 => ?_)
  ·replace H := AZv hgs4 H
   refine AJp Aq8 s4 ?_
   refine hq [0, 1, 2, 3, 4, 5, 6, 7, 8, 9, 10, 11, 12, 13] F s4.drew (QI.ev 1 rfl <| QI.ld m0 rfl <| QI.ev 2 rfl <| QI.kn (dj := 48) rfl hgs4 <| QI.ev 10 rfl <| QI.nil) (by kernel_rfl) fun _ F => ?_
   refine ANu (by kernel_rfl) ?_
   cases H
   exact ge 9 F rfl fun _ F => rt F ⟨rfl, s4.drew.drop.drop⟩
  replace H := AZy hgs4 H
  obtain ⟨x1, hg, H⟩ := Aa H
  refine AJp Aq8 s4 ?_
  refine hq [0, 1, 2, 3, 4, 5, 6, 7, 8, 9] F s4.drew (QI.ev 1 rfl <| QI.ld m0 rfl <| QI.ev 2 rfl <| QI.kn (dj := 48) rfl hgs4 <| QI.ev 1 rfl <| QI.gop rfl (fun _ hC => Ao AAd rfl (hC.AQ9 m0 rfl)) rfl rfl rfl rfl rfl <| QI.ev 1 rfl <| QI.gop rfl (fun _ hC => Ao Bp5 rfl (hC.AQ9 m1 rfl)) rfl rfl rfl rfl rfl <| QI.ev 1 rfl <| QI.gop rfl (fun _ hC => Ao AAd rfl (hC.AQ9 m0 rfl)) rfl rfl rfl rfl rfl <| QI.nil) (by kernel_rfl) fun _ F => ?_
  refine ho 10 rfl (by kernel_rfl) ?_
  refine Afv F rfl rfl <| std F (ASf (hr0_0.Ajq s4.drew) hg) fun v1 w5 _ hh F => ?_
  obtain ⟨_, rfl, hi⟩ := hh
  have s6 := s4.drew.add hi
  refine gw 1 F rfl fun _ F => ⟨s6.drop, ?_⟩
  refine ho 11 rfl (by kernel_rfl) ?_
  refine Afv F rfl rfl <| gx F (Ak rfl underlying101 (fO s6 m0)) 1 rfl rfl fun _ F => ⟨s6.drop, ?_⟩
  refine hq [12, 13] F s6.drop (QI.ev 2 rfl <| QI.nil) (by kernel_rfl) fun _ F => ?_
  refine ANu (by kernel_rfl) ?_
  refine ge 1 F rfl fun _ F => gif F H 7 8 rfl rfl rfl (fun hj H _ F => ?_) (fun hj H _ F => ?_)
  ·cases H
   exact rt F ⟨rfl, s6.drop.drop.drop⟩
  cases H
  exact rt F ⟨rfl, s6.drop.drop.drop⟩
 cases H
 exact rt F ⟨rfl, s4.drop.drop⟩
theorem AXs {w : World} {a0 : UInt8} {r : (List UInt8)} (H : ARl a0 = some r) :
    Calls prog 194 #[jU (a0.toNat : Int)] w (Ret fun u_ w_ => ∃ u0 : Value, u_ = u0 ∧ SL w [] w_ [Sl Ty.u8 u0 r]) := by
 have s0 : SL w [] w [] := SL.Aq9 w
 refine cin func194 ntmps194 12 rfl rfl rfl fun _ F => ?_
 unfold ARl at H
 refine gif F H 7 5 rfl rfl rfl (fun h0 H _ F => ?_) (fun h0 H _ F => ?_)
 ·cases H
  exact rt F ⟨(.slice none 0 0), rfl, (SL.Axc (T := Ty.u8) s0)⟩
 refine Ae (parts := [(0, .tmp 5)]) Flat.u8 ([a0] : List UInt8) F s0 Aqg rfl (by decide) rfl rfl rfl (by simp [Value.cells]) rfl rfl rfl fun v0 w0 _ F s1 => ?_
 cases H
 exact gw 4 F rfl fun _ F => rt F ⟨v0, rfl, s1⟩
theorem AW3 {w : World} {a0 : Int} {r : UInt8} (H : AO3 a0 = some r) :
    Calls prog 195 #[jI a0] w (Ret fun u_ w_ => u_ = jU (r.toNat : Int) ∧ SL w [] w_ []) := by
 have s0 : SL w [] w [] := SL.Aq9 w
 refine cin func195 ntmps195 8 rfl rfl rfl fun _ F7 => ?_
 unfold AO3 at H
 refine gx F7 (Bh2 rfl underlying3 underlying48) 0 rfl rfl fun _ F8 => ?_
 cases H
 exact gx F8 (Biu rfl rfl) 4 rfl rfl fun _ F => rt F ⟨rfl, s0⟩
theorem Bfq {w : World} {v0_0 v0_1 : Value} {a0 : Adb} {a1 : Ads} {r : (List UInt8)} {wb : World} {Fb : List Nat} (hb : Fm wb Fb w) (hB : ∀ k ∈ ([] : List Nat), k ∈ Fb ∨ wb.heap.size ≤ k) (hr0_0 : Rd Aef wb Fb v0_0 a0.Classes) (hr0_1 : Rd Ate wb Fb v0_1 a0.Akq) (H : ATi a0 a1 = some r) :
    Calls prog 172 #[.agg ⟨[v0_0, v0_1, jI a0.Fn]⟩, .agg ⟨[jI a1.At, jU (a1.Op.toNat : Int), jI a1.A, jI a1.B]⟩] w (Ret fun u_ w_ => ∃ u0 : Value, u_ = u0 ∧ SL w [] w_ [Mx Ty.u8 wb Fb u0 r]) := by
 have s0 : SL w [] w [] := SL.Aq9 w
 refine cin func172 ntmps172 2 rfl rfl rfl fun _ F0 => ?_
 unfold ATi at H
 refine Ar F0 s0 rfl rfl rfl fun g0 w0 _ F s1 => Ar F s1 rfl rfl rfl fun g1 w1 _ F s2 => gw 7 F rfl fun _ F => gld F s2 m0 9 rfl fun _ F => gif F H 2 1 rfl rfl rfl (fun h0 H _ F => ?_) (fun h0 H _ F => ?_)
 ·refine Ae (parts := [(0, .const (jU 254))]) Flat.u8 ([(254 : UInt8)] : List UInt8) F s2 Aqg rfl (by decide) rfl rfl rfl (by simp [Value.cells]) rfl rfl rfl fun v0 w2 _ F s3 => ?_
  cases H
  exact gw 6 F rfl fun _ F => rt F ⟨v0, rfl, (SL.ATt (wb := wb) (Fb := Fb) s3).f1.drop.f1.drop⟩
 obtain ⟨o0, H0, R0⟩ := Aa H
 clear H
 refine At9 (fun a w_ => Fr a 94 [(2, jP g0), (3, jP g1), (6, jU (a1.Op.toNat : Int)), (10, .bool o0)] ∧ SL w [] w_ [Blk g1 79 [jI a1.At, jU (a1.Op.toNat : Int), jI a1.A, jI a1.B], Blk g0 110 [v0_0, v0_1, jI a0.Fn]]) ?_ ?_
 ·have H := H0
  refine gc 6 F rfl fun _ F => gif F H 1 4 rfl rfl rfl (fun h1 H _ F => ?_) (fun h1 H _ F => ?_)
  ·cases H
   exact ⟨F.sb, s2⟩
  cases H
  exact ⟨F.sb, s2⟩
 intro _ w3 hJ
 obtain ⟨F, s4⟩ := hJ
 have H := R0
 clear R0 H0
 refine ge 1 F rfl fun _ F => gif F H 2 6 rfl rfl rfl (fun h2 H _ F => ?_) (fun h2 H _ F => ?_)
 ·refine Ae (parts := [(0, .const (jU 255))]) Flat.u8 ([(255 : UInt8)] : List UInt8) F s4 Aqg rfl (by decide) rfl rfl rfl (by simp [Value.cells]) rfl rfl rfl fun v1 w4 _ F s5 => ?_
  cases H
  exact gw 6 F rfl fun _ F => rt F ⟨v1, rfl, (SL.ATt (wb := wb) (Fb := Fb) s5).f1.drop.f1.drop⟩
 refine gif F H 2 1 rfl rfl rfl (fun h3 H _ F => ?_) (fun h3 H _ F => ?_)
 ·refine Ae (parts := [(0, .const (jU 255)), (1, .const (jU 255))]) Flat.u8 ([(255 : UInt8), (255 : UInt8)] : List UInt8) F s4 Aqg rfl (by decide) rfl rfl rfl (by simp [Value.cells]) rfl rfl rfl fun v2 w5 _ F s6 => ?_
  cases H
  exact gw 6 F rfl fun _ F => rt F ⟨v2, rfl, (SL.ATt (wb := wb) (Fb := Fb) s6).f1.drop.f1.drop⟩
 obtain ⟨o1, H1, R1⟩ := Aa H
 clear H
 refine At9 (fun a w_ => Fr a 94 [(2, jP g0), (3, jP g1), (6, jU (a1.Op.toNat : Int)), (17, .bool o1)] ∧ SL w [] w_ [Blk g1 79 [jI a1.At, jU (a1.Op.toNat : Int), jI a1.A, jI a1.B], Blk g0 110 [v0_0, v0_1, jI a0.Fn]]) ?_ ?_
 ·have H := H1
  refine gc 6 F rfl fun _ F => gif F H 1 6 rfl rfl rfl (fun h4 H _ F => ?_) (fun h4 H _ F => ?_)
  ·cases H
   exact ⟨F.sb, s4⟩
  refine gif F H 1 6 rfl rfl rfl (fun h5 H _ F => ?_) (fun h5 H _ F => ?_)
  ·cases H
   exact ⟨F.sb, s4⟩
  refine gif F H 1 6 rfl rfl rfl (fun h6 H _ F => ?_) (fun h6 H _ F => ?_)
  ·cases H
   exact ⟨F.sb, s4⟩
  refine gif F H 1 6 rfl rfl rfl (fun h7 H _ F => ?_) (fun h7 H _ F => ?_)
  ·cases H
   exact ⟨F.sb, s4⟩
  refine gif F H 1 4 rfl rfl rfl (fun h8 H _ F => ?_) (fun h8 H _ F => ?_)
  ·cases H
   exact ⟨F.sb, s4⟩
  cases H
  exact ⟨F.sb, s4⟩
 intro _ w6 hJ
 obtain ⟨F, s7⟩ := hJ
 have H := R1
 clear R1 H1
 refine ge 1 F rfl fun _ F => gif F H 2 1 rfl rfl rfl (fun h9 H _ F => ?_) (fun h9 H _ F => ?_)
 ·refine Ae (parts := [(0, .const (jU 1)), (1, .const (jU 1))]) Flat.u8 ([(1 : UInt8), (1 : UInt8)] : List UInt8) F s7 Aqg rfl (by decide) rfl rfl rfl (by simp [Value.cells]) rfl rfl rfl fun v3 w7 _ F s8 => ?_
  cases H
  exact gw 6 F rfl fun _ F => rt F ⟨v3, rfl, (SL.ATt (wb := wb) (Fb := Fb) s8).f1.drop.f1.drop⟩
 obtain ⟨o2, H2, R2⟩ := Aa H
 clear H
 refine At9 (fun a w_ => Fr a 94 [(2, jP g0), (3, jP g1), (6, jU (a1.Op.toNat : Int)), (25, .bool o2)] ∧ SL w [] w_ [Blk g1 79 [jI a1.At, jU (a1.Op.toNat : Int), jI a1.A, jI a1.B], Blk g0 110 [v0_0, v0_1, jI a0.Fn]]) ?_ ?_
 ·have H := H2
  refine gc 6 F rfl fun _ F => gif F H 1 6 rfl rfl rfl (fun ha H _ F => ?_) (fun ha H _ F => ?_)
  ·cases H
   exact ⟨F.sb, s7⟩
  refine gif F H 1 4 rfl rfl rfl (fun hc H _ F => ?_) (fun hc H _ F => ?_)
  ·cases H
   exact ⟨F.sb, s7⟩
  cases H
  exact ⟨F.sb, s7⟩
 intro _ w8 hJ
 obtain ⟨F, s9⟩ := hJ
 have H := R2
 clear R2 H2
 refine ge 1 F rfl fun _ F => gif F H 2 6 rfl rfl rfl (fun hd H _ F => ?_) (fun hd H _ F => ?_)
 ·refine Ae (parts := [(0, .const (jU 1))]) Flat.u8 ([(1 : UInt8)] : List UInt8) F s9 Aqg rfl (by decide) rfl rfl rfl (by simp [Value.cells]) rfl rfl rfl fun v4 w9 _ F sa => ?_
  cases H
  exact gw 6 F rfl fun _ F => rt F ⟨v4, rfl, (SL.ATt (wb := wb) (Fb := Fb) sa).f1.drop.f1.drop⟩
 refine gif F H 2 1 rfl rfl rfl (fun he H _ F => ?_) (fun he H _ F => ?_)
 ·refine Ae (parts := [(0, .const (jU 255)), (1, .const (jU 255))]) Flat.u8 ([(255 : UInt8), (255 : UInt8)] : List UInt8) F s9 Aqg rfl (by decide) rfl rfl rfl (by simp [Value.cells]) rfl rfl rfl fun v5 wa _ F sc => ?_
  cases H
  exact gw 6 F rfl fun _ F => rt F ⟨v5, rfl, (SL.ATt (wb := wb) (Fb := Fb) sc).f1.drop.f1.drop⟩
 obtain ⟨o3, H3, R3⟩ := Aa H
 clear H
 refine At9 (fun a w_ => Fr a 94 [(2, jP g0), (3, jP g1), (6, jU (a1.Op.toNat : Int)), (33, .bool o3)] ∧ SL w [] w_ [Blk g1 79 [jI a1.At, jU (a1.Op.toNat : Int), jI a1.A, jI a1.B], Blk g0 110 [v0_0, v0_1, jI a0.Fn]]) ?_ ?_
 ·have H := H3
  refine gc 6 F rfl fun _ F => gif F H 1 4 rfl rfl rfl (fun hf H _ F => ?_) (fun hf H _ F => ?_)
  ·cases H
   exact ⟨F.sb, s9⟩
  cases H
  exact ⟨F.sb, s9⟩
 intro _ wc hJ
 obtain ⟨F, sd⟩ := hJ
 have H := R3
 clear R3 H3
 refine ge 1 F rfl fun _ F => gif F H 2 6 rfl rfl rfl (fun hg H _ F => ?_) (fun hg H _ F => ?_)
 ·refine Ae (parts := [(0, .const (jU 2))]) Flat.u8 ([(2 : UInt8)] : List UInt8) F sd Aqg rfl (by decide) rfl rfl rfl (by simp [Value.cells]) rfl rfl rfl fun v6 wd _ F se => ?_
  cases H
  exact gw 6 F rfl fun _ F => rt F ⟨v6, rfl, (SL.ATt (wb := wb) (Fb := Fb) se).f1.drop.f1.drop⟩
 refine gif F H 2 6 rfl rfl rfl (fun hh H _ F => ?_) (fun hh H _ F => ?_)
 ·refine Ae (parts := [(0, .const (jU 253)), (1, .const (jU 253))]) Flat.u8 ([(253 : UInt8), (253 : UInt8)] : List UInt8) F sd Aqg rfl (by decide) rfl rfl rfl (by simp [Value.cells]) rfl rfl rfl fun v7 we _ F sf => ?_
  cases H
  exact gw 6 F rfl fun _ F => rt F ⟨v7, rfl, (SL.ATt (wb := wb) (Fb := Fb) sf).f1.drop.f1.drop⟩
 refine gif F H 2 6 rfl rfl rfl (fun hi H _ F => ?_) (fun hi H _ F => ?_)
 ·obtain ⟨x0, hj, H⟩ := Aa H
  obtain ⟨a2, c0, G0, hk, hl, hm, hn⟩ := Rd.idx hr0_1 APh rfl hj
  obtain ⟨v8, rfl, hp⟩ := (ARn hm hn)
  replace hl := hl _ _ (SL.up hb hB sd)
  refine gw 1 F rfl fun _ F => gld F sd m1 1 rfl fun _ F => gld F sd m0 0 rfl fun _ F => gi F hk 0 rfl fun _ F => gx F (Ba Bad rfl) 0 rfl rfl fun _ F => ?_
  cases H
  exact gx F (Ao AZ0 rfl (Aqa.at_ hl (o := 0) rfl)) 6 rfl rfl fun _ F => rt F ⟨v8, rfl, (SL.B1e sd hp).f1.drop.f1.drop⟩
 refine gif F H 2 6 rfl rfl rfl (fun hr H _ F => ?_) (fun hr H _ F => ?_)
 ·obtain ⟨x1, hs, H⟩ := Aa H
  obtain ⟨a3, c1, G1, ht, hu, hv, hw⟩ := Rd.idx hr0_1 APh rfl hs
  obtain ⟨v9, rfl, hx⟩ := (ARn hv hw)
  replace hu := hu _ _ (SL.up hb hB sd)
  obtain ⟨x2, hy, H⟩ := Aa H
  refine gw 1 F rfl fun _ F => gld F sd m1 1 rfl fun _ F => gld F sd m1 0 rfl fun _ F => gi F ht 0 rfl fun _ F => gx F (Ba Bis rfl) 0 rfl rfl fun _ F => gx F (Ao Aw9 rfl (Aqa.at_ hu (o := 1) rfl)) 0 rfl rfl fun _ F => std F (AXs hy) fun va wf _ hz F => ?_
  obtain ⟨_, rfl, h10⟩ := hz
  have sg := sd.add h10
  cases H
  exact gw 6 F rfl fun _ F => rt F ⟨va, rfl, (SL.ATt (wb := wb) (Fb := Fb) sg).f1.drop.f1.drop⟩
 refine gif F H 3 6 rfl rfl rfl (fun h11 H _ F => ?_) (fun h11 H _ F => ?_)
 ·obtain ⟨x3, h12, H⟩ := Aa H
  refine gld F sd m0 0 rfl fun _ F => gca F sd (AW3 h12) 0 rfl rfl rfl rfl fun wg _ F sh => ?_
  refine Ae (parts := [(0, .tmp 63)]) Flat.u8 ([x3] : List UInt8) F sh Aqg rfl (by decide) rfl rfl rfl (by simp [Value.cells]) rfl rfl rfl fun vb wh _ F si => ?_
  cases H
  exact gw 6 F rfl fun _ F => rt F ⟨vb, rfl, (SL.ATt (wb := wb) (Fb := Fb) si).f1.drop.f1.drop⟩
 refine gif F H 1 6 rfl rfl rfl (fun h13 H _ F => ?_) (fun h13 H _ F => ?_)
 ·obtain ⟨x4, h14, H⟩ := Aa H
  obtain ⟨x5, h15, H⟩ := Aa H
  obtain ⟨x6, h16, H⟩ := Aa H
  refine AJp Aq8 sd ?_
  refine hq [0, 1, 3, 4, 5, 6, 8, 9] F sd.drew (QI.ev 1 rfl <| QI.ld m0 rfl <| QI.ev 1 rfl <| QI.ld m1 rfl <| QI.ev 1 rfl <| QI.ld m0 rfl <| QI.ev 1 rfl <| QI.ld m0 rfl <| QI.nil) (by kernel_rfl) fun _ F => ?_
  refine ho 2 rfl (by kernel_rfl) ?_
  refine gca F sd.drew (AW3 h14) 1 rfl rfl rfl rfl fun wi _ F sj => ⟨sj, ?_⟩
  refine ho 7 rfl (by kernel_rfl) ?_
  refine std F (ASf (hr0_0.Ajq (SL.up hb hB sj)) h15) fun vc wj _ h17 F => ?_
  obtain ⟨_, rfl, h18⟩ := h17
  have sk := sj.add h18
  refine gw 1 F rfl fun _ F => ⟨sk.drop, ?_⟩
  refine ho 10 rfl (by kernel_rfl) ?_
  obtain ⟨a4, h19, h1a⟩ := Ax AOt sk m0 ASm rfl h16
  refine gi F h19 1 rfl fun _ F => ⟨sk.drop, ?_⟩
  refine hq [11] F sk.drop (QI.op rfl (fun _ hC => Ba Bgh rfl) rfl <| QI.nil) (by kernel_rfl) fun _ F => ?_
  refine ho 12 rfl (by kernel_rfl) ?_
  refine gx F (Ao Aw9 rfl (Aqa.at_ (SL.AN4 AOt sk m0 h1a h16) (o := 1) rfl)) 1 rfl rfl fun _ F => ⟨sk.drop, ?_⟩
  refine ho 13 rfl (by kernel_rfl) ?_
  refine Ae (parts := [(0, .tmp 69), (1, .tmp 79)]) Flat.u8 ([x4, x6.ASg] : List UInt8) F sk Aqg rfl (by decide) rfl rfl rfl (by simp [Value.cells]) rfl rfl rfl fun vd wk _ F sl => ?_
  refine gw 1 F rfl fun _ F => ⟨sl.drop.drop, ?_⟩
  refine hq [14] F sl.drop.drop (QI.ev 1 rfl <| QI.nil) (by kernel_rfl) fun _ F => ?_
  refine ANu (by kernel_rfl) ?_
  cases H
  exact ge 4 F rfl fun _ F => rt F ⟨vd, rfl, (SL.ATt (wb := wb) (Fb := Fb) sl).f1.drop.f1.drop.f1.drop⟩
 refine gif F H 2 6 rfl rfl rfl (fun h1b H _ F => ?_) (fun h1b H _ F => ?_)
 ·refine Ae (parts := [(0, .const (jU 4))]) Flat.u8 ([(4 : UInt8)] : List UInt8) F sd Aqg rfl (by decide) rfl rfl rfl (by simp [Value.cells]) rfl rfl rfl fun ve wl _ F sm => ?_
  cases H
  exact gw 6 F rfl fun _ F => rt F ⟨ve, rfl, (SL.ATt (wb := wb) (Fb := Fb) sm).f1.drop.f1.drop⟩
 refine gif F H 2 6 rfl rfl rfl (fun h1c H _ F => ?_) (fun h1c H _ F => ?_)
 ·refine Ae (parts := [(0, .const (jU 4)), (1, .const (jU 1))]) Flat.u8 ([(4 : UInt8), (1 : UInt8)] : List UInt8) F sd Aqg rfl (by decide) rfl rfl rfl (by simp [Value.cells]) rfl rfl rfl fun vf wm _ F sn => ?_
  cases H
  exact gw 6 F rfl fun _ F => rt F ⟨vf, rfl, (SL.ATt (wb := wb) (Fb := Fb) sn).f1.drop.f1.drop⟩
 refine gif F H 2 7 rfl rfl rfl (fun h1d H _ F => ?_) (fun h1d H _ F => ?_)
 ·refine Ae (parts := [(0, .const (jU 4)), (1, .const (jU 1)), (2, .const (jU 1))]) Flat.u8 ([(4 : UInt8), (1 : UInt8), (1 : UInt8)] : List UInt8) F sd Aqg rfl (by decide) rfl rfl rfl (by simp [Value.cells]) rfl rfl rfl fun vg wn _ F so => ?_
  cases H
  exact gw 6 F rfl fun _ F => rt F ⟨vg, rfl, (SL.ATt (wb := wb) (Fb := Fb) so).f1.drop.f1.drop⟩
 refine gif F H 5 5 rfl rfl rfl (fun h1e H _ F => ?_) (fun h1e H _ F => ?_)
 ·refine Ae (parts := [(0, .const (jU 253))]) Flat.u8 ([(253 : UInt8)] : List UInt8) F sd Aqg rfl (by decide) rfl rfl rfl (by simp [Value.cells]) rfl rfl rfl fun vh wo _ F sp => ?_
  cases H
  exact gw 6 F rfl fun _ F => rt F ⟨vh, rfl, (SL.ATt (wb := wb) (Fb := Fb) sp).f1.drop.f1.drop⟩
 refine gif F H 2 9 rfl rfl rfl (fun h1f H _ F => ?_) (fun h1f H _ F => ?_)
 ·refine Ae (parts := [(0, .const (jU 253))]) Flat.u8 ([(253 : UInt8)] : List UInt8) F sd Aqg rfl (by decide) rfl rfl rfl (by simp [Value.cells]) rfl rfl rfl fun vi wp _ F sq => ?_
  cases H
  exact gw 6 F rfl fun _ F => rt F ⟨vi, rfl, (SL.ATt (wb := wb) (Fb := Fb) sq).f1.drop.f1.drop⟩
 cases H
 exact rt F ⟨(.slice none 0 0), rfl, (SL.ATt (wb := wb) (Fb := Fb) (SL.Axc (T := Ty.u8) sd)).f1.drop.f1.drop⟩
theorem AUe {w : World} {a0 : UInt8} {r : Bool} (H : APt a0 = some r) :
    Calls prog 196 #[jU (a0.toNat : Int)] w (Ret fun u_ w_ => u_ = .bool r ∧ SL w [] w_ []) := by
 have s0 : SL w [] w [] := SL.Aq9 w
 refine cin func196 ntmps196 10 rfl rfl rfl fun _ F => ?_
 unfold APt at H
 refine bsp 5 F H (fun h0 H F => ?_) (fun h0 H F => ?_)
 ·cases H
  exact gw 15 F rfl fun _ F => rt F ⟨rfl, s0⟩
 refine gw 4 F rfl fun _ F => bsp 9 F H (fun h1 H F => ?_) (fun h1 H F => ?_)
 ·cases H
  exact gw 11 F rfl fun _ F => rt F ⟨rfl, s0⟩
 refine gw 4 F rfl fun _ F => bsp 13 F H (fun h2 H F => ?_) (fun h2 H F => ?_)
 ·cases H
  exact gw 7 F rfl fun _ F => rt F ⟨rfl, s0⟩
 cases H
 exact gw 7 F rfl fun _ F => rt F ⟨rfl, s0⟩
theorem AVs {w : World} {v0 : Value} {a0 : List Abi} {a1 : UInt8} {a2 : UInt8} {r : Bool} (hr0 : Rd Aef w [] v0 a0) (H : AQ8 a0 a1 a2 = some r) :
    Calls prog 197 #[v0, jU (a1.toNat : Int), jU (a2.toNat : Int)] w (Ret fun u_ w_ => u_ = .bool r ∧ SL w [] w_ []) := by
 have s0 : SL w [] w [] := SL.Aq9 w
 refine cin func197 ntmps197 10 rfl rfl rfl fun _ F => ?_
 unfold AQ8 at H
 obtain ⟨x0, h0, H⟩ := Aa H
 refine gca F s0 (AP0 (hr0.Ajq s0) h0) 2 rfl rfl rfl rfl fun w0 _ F s1 => bsp 13 F H (fun h1 H F => ?_) (fun h1 H F => ?_)
 ·cases H
  exact gw 15 F rfl fun _ F => rt F ⟨rfl, s1⟩
 obtain ⟨x1, h2, H⟩ := Aa H
 refine gw 2 F rfl fun _ F => Afv F rfl rfl <| gca F s1 (AP0 (hr0.Ajq s1) h2) 4 rfl rfl rfl rfl fun w1 _ F s2 => gif F H 7 3 rfl rfl rfl (fun h3 H _ F => ?_) (fun h3 H _ F => ?_)
 ·cases H
  exact rt F ⟨rfl, s2⟩
 obtain ⟨o0, H0, R0⟩ := Aa H
 clear H
 refine At9 (fun a w_ => ∃ p0 : Unit, o0 = .inr (p0) ∧ Fr a 67 [(0, v0), (1, jU (a1.toNat : Int)), (2, jU (a2.toNat : Int))] ∧ SL w [] w_ []) ?_ ?_
 ·have H := H0
  refine gc 6 F rfl fun _ F => bsp 22 F H (fun h4 H F => ?_) (fun h4 H F => ?_)
  ·cases H
   replace H := R0
   try dsimp only at H
   cases H
   exact gw 30 F rfl fun _ F => rt F ⟨rfl, s2⟩
  refine gw 4 F rfl fun _ F => bsp 26 F H (fun h5 H F => ?_) (fun h5 H F => ?_)
  ·cases H
   replace H := R0
   try dsimp only at H
   cases H
   exact gw 26 F rfl fun _ F => rt F ⟨rfl, s2⟩
  refine gw 3 F rfl fun _ F => bsp 29 F H (fun h6 H F => ?_) (fun h6 H F => ?_)
  ·obtain ⟨x2, h7, H⟩ := Aa H
   refine gw 1 F rfl fun _ F => Afv F rfl rfl <| gca F s2 (AUe h7) 3 rfl rfl rfl rfl fun w2 _ F s3 => bsp 34 F H (fun h8 H F => ?_) (fun h8 H F => ?_)
   ·cases H
    replace H := R0
    try dsimp only at H
    cases H
    exact gw 18 F rfl fun _ F => rt F ⟨rfl, s3⟩
   obtain ⟨x3, h9, H⟩ := Aa H
   refine gw 1 F rfl fun _ F => Afv F rfl rfl <| gca F s3 (AUe h9) 1 rfl rfl rfl rfl fun w3 _ F s4 => bsp 37 F H (fun ha H F => ?_) (fun ha H F => ?_)
   ·refine gw 6 F rfl fun _ F => gif F H 8 1 rfl rfl rfl (fun hb H _ F => ?_) (fun hb H _ F => ?_)
    ·cases H
     replace H := R0
     try dsimp only at H
     cases H
     exact rt F ⟨rfl, s4⟩
    cases H
    exact ⟨_, rfl, F.sb, s4⟩
   cases H
   exact gw 8 F rfl fun _ F => ⟨_, rfl, F.sb, s4⟩
  obtain ⟨x4, hc, H⟩ := Aa H
  refine gw 6 F rfl fun _ F => Afv F rfl rfl <| gca F s2 (AUe hc) 1 rfl rfl rfl rfl fun w4 _ F s5 => bsp 37 F H (fun hd H F => ?_) (fun hd H F => ?_)
  ·refine gw 6 F rfl fun _ F => gif F H 8 1 rfl rfl rfl (fun he H _ F => ?_) (fun he H _ F => ?_)
   ·cases H
    replace H := R0
    try dsimp only at H
    cases H
    exact rt F ⟨rfl, s5⟩
   cases H
   exact ⟨_, rfl, F.sb, s5⟩
  cases H
  exact gw 8 F rfl fun _ F => ⟨_, rfl, F.sb, s5⟩
 intro _ w5 hJ
 obtain ⟨p0, rfl, F, s6⟩ := hJ
 have H := R0
 clear R0 H0
 try dsimp only at H
 refine ge 7 F rfl fun _ F => bsp 44 F H (fun hf H F => ?_) (fun hf H F => ?_)
 ·cases H
  exact gw 13 F rfl fun _ F => rt F ⟨rfl, s6⟩
 refine gw 5 F rfl fun _ F => gif F H 7 6 rfl rfl rfl (fun hg H _ F => ?_) (fun hg H _ F => ?_)
 ·cases H
  exact rt F ⟨rfl, s6⟩
 obtain ⟨x5, hh, H⟩ := Aa H
 refine gx F (Beu rfl rfl) 0 rfl rfl fun _ F => gx F (AX0 rfl underlying48 underlying3) 0 rfl rfl fun _ F => std F (Bbg (hr0.Ajq s6) hh) fun v1 w6 _ hi F => ?_
 obtain ⟨_, rfl, hj⟩ := hi
 have s7 := s6.add hj
 obtain ⟨o1, H1, R1⟩ := Aa H
 clear H
 refine gw 9 F rfl fun _ F => At9 (fun a w_ => ∃ p1 : Unit, o1 = .inr (p1) ∧ Fr a 67 [] ∧ SL w [] w_ []) ?_ ?_
 ·have H := H1
  refine gc 1 F rfl fun _ F => lpk (AQn a2 x5) (fun s8 a w_ => Fr a 67 [(2, jU (a2.toNat : Int)), (7, v1), (8, jI s8)] ∧ SL w [] w_ [Sl (Ty.int .i64) v1 x5]) H ?_ ?_
  ·exact ⟨F.sb, s7⟩
  intro s8 _ w7 hk o2 H hr
  obtain ⟨F, s9⟩ := hk
  replace H : AQn a2 x5 s8 = some o2 := H
  unfold AQn at H
  refine gc 5 F rfl fun _ F => gx F (Ak rfl underlying28 (fO s9 m0)) 3 rfl rfl fun _ F => gif F H 8 4 rfl rfl rfl (fun hl H _ F => ?_) (fun hl H _ F => ?_)
  ·obtain ⟨x6, hm, H⟩ := Aa H
   obtain ⟨a3, hn, ho⟩ := Ax (Flat.int .i64) s9 m0 Awy rfl hm
   refine gi F hn 0 rfl fun _ F => gx F (Ao AAd rfl (Aqa.at_ (SL.AN4 (Flat.int .i64) s9 m0 ho hm) (o := 0) rfl)) 1 rfl rfl fun _ F => gx F (Beu rfl rfl) 0 rfl rfl fun _ F => gx F (AX0 rfl underlying48 underlying3) 3 rfl rfl fun _ F => gif F H 12 8 rfl rfl rfl (fun hp H _ F => ?_) (fun hp H _ F => ?_)
   ·cases H
    obtain rfl := hr _ rfl
    replace H := R1
    try dsimp only at H
    cases H
    exact rt F ⟨rfl, s9.drop⟩
   cases H
   exact ⟨_, rfl, F.sb, s9⟩
  cases H
  obtain rfl := hr _ rfl
  exact ⟨_, rfl, F.sb, s9.drop⟩
 intro _ w8 hJ
 obtain ⟨p1, rfl, F, sa⟩ := hJ
 have H := R1
 clear R1 H1
 try dsimp only at H
 cases H
 exact ge 7 F rfl fun _ F => rt F ⟨rfl, sa⟩
theorem Be3 {w : World} {v0 : Value} {a0 : List Abi} {a1 : UInt8} {a2 : UInt8} {r : Bool} (hr0 : Rd Aef w [] v0 a0) (H : AS2 a0 a1 a2 = some r) :
    Calls prog 173 #[v0, jU (a1.toNat : Int), jU (a2.toNat : Int)] w (Ret fun u_ w_ => u_ = .bool r ∧ SL w [] w_ []) := by
 have s0 : SL w [] w [] := SL.Aq9 w
 refine cin func173 ntmps173 18 rfl rfl rfl fun _ F => ?_
 unfold AS2 at H
 refine gif F H 8 6 rfl rfl rfl (fun h0 H _ F => ?_) (fun h0 H _ F => ?_)
 ·cases H
  exact rt F ⟨rfl, s0⟩
 refine gif F H 10 6 rfl rfl rfl (fun h1 H _ F => ?_) (fun h1 H _ F => ?_)
 ·cases H
  exact rt F ⟨rfl, s0⟩
 refine gif F H 3 8 rfl rfl rfl (fun h2 H _ F => ?_) (fun h2 H _ F => ?_)
 ·obtain ⟨x0, h3, H⟩ := Aa H
  refine gca F s0 (AUe h3) 6 rfl rfl rfl rfl fun w0 _ F s1 => ?_
  cases H
  exact rt F ⟨rfl, s1⟩
 obtain ⟨x1, h4, H⟩ := Aa H
 refine gca F s0 (AVs (hr0.Ajq s0) h4) 4 rfl rfl rfl rfl fun w1 _ F s2 => ?_
 cases H
 exact rt F ⟨rfl, s2⟩
theorem Bfp {w : World} {v0_0 v0_1 : Value} {a0 : Adb} {a1 : Ads} {r : (List UInt8)} (hr0_0 : Rd Aef w [] v0_0 a0.Classes) (hr0_1 : Rd Ate w [] v0_1 a0.Akq) (H : ATr a0 a1 = some r) :
    Calls prog 174 #[.agg ⟨[v0_0, v0_1, jI a0.Fn]⟩, .agg ⟨[jI a1.At, jU (a1.Op.toNat : Int), jI a1.A, jI a1.B]⟩] w (Ret fun u_ w_ => ∃ u0 : Value, u_ = u0 ∧ SL w [] w_ [Sl Ty.u8 u0 r]) := by
 have s0 : SL w [] w [] := SL.Aq9 w
 refine cin func174 ntmps174 2 rfl rfl rfl fun _ F0 => ?_
 unfold ATr at H
 refine Ar F0 s0 rfl rfl rfl fun g0 w0 _ F s1 => Ar F s1 rfl rfl rfl fun g1 w1 _ F s2 => gw 7 F rfl fun _ F => ?_
 obtain ⟨o0, H0, R0⟩ := Aa H
 clear H
 refine gld F s2 m0 4 rfl fun _ F => At9 (fun a w_ => Fr a 69 [(2, jP g0), (3, jP g1), (6, jU (a1.Op.toNat : Int)), (7, .bool o0)] ∧ SL w [] w_ [Blk g1 79 [jI a1.At, jU (a1.Op.toNat : Int), jI a1.A, jI a1.B], Blk g0 110 [v0_0, v0_1, jI a0.Fn]]) ?_ ?_
 ·have H := H0
  refine gc 6 F rfl fun _ F => gif F H 1 6 rfl rfl rfl (fun h0 H _ F => ?_) (fun h0 H _ F => ?_)
  ·cases H
   exact ⟨F.sb, s2⟩
  refine gif F H 1 6 rfl rfl rfl (fun h1 H _ F => ?_) (fun h1 H _ F => ?_)
  ·cases H
   exact ⟨F.sb, s2⟩
  refine gif F H 1 6 rfl rfl rfl (fun h2 H _ F => ?_) (fun h2 H _ F => ?_)
  ·cases H
   exact ⟨F.sb, s2⟩
  refine gif F H 1 6 rfl rfl rfl (fun h3 H _ F => ?_) (fun h3 H _ F => ?_)
  ·cases H
   exact ⟨F.sb, s2⟩
  refine gif F H 1 6 rfl rfl rfl (fun h4 H _ F => ?_) (fun h4 H _ F => ?_)
  ·cases H
   exact ⟨F.sb, s2⟩
  refine gif F H 1 6 rfl rfl rfl (fun h5 H _ F => ?_) (fun h5 H _ F => ?_)
  ·cases H
   exact ⟨F.sb, s2⟩
  refine gif F H 1 6 rfl rfl rfl (fun h6 H _ F => ?_) (fun h6 H _ F => ?_)
  ·cases H
   exact ⟨F.sb, s2⟩
  refine gif F H 1 4 rfl rfl rfl (fun h7 H _ F => ?_) (fun h7 H _ F => ?_)
  ·cases H
   exact ⟨F.sb, s2⟩
  cases H
  exact ⟨F.sb, s2⟩
 intro _ w2 hJ
 obtain ⟨F, s3⟩ := hJ
 have H := R0
 clear R0 H0
 refine ge 1 F rfl fun _ F => gif F H 2 1 rfl rfl rfl (fun h8 H _ F => ?_) (fun h8 H _ F => ?_)
 ·refine Ae (parts := [(0, .const (jU 1))]) Flat.u8 ([(1 : UInt8)] : List UInt8) F s3 Aqg rfl (by decide) rfl rfl rfl (by simp [Value.cells]) rfl rfl rfl fun v0 w3 _ F s4 => ?_
  cases H
  exact gw 6 F rfl fun _ F => rt F ⟨v0, rfl, s4.f1.drop.f1.drop⟩
 obtain ⟨o1, H1, R1⟩ := Aa H
 clear H
 refine At9 (fun a w_ => Fr a 69 [(2, jP g0), (3, jP g1), (6, jU (a1.Op.toNat : Int)), (18, .bool o1)] ∧ SL w [] w_ [Blk g1 79 [jI a1.At, jU (a1.Op.toNat : Int), jI a1.A, jI a1.B], Blk g0 110 [v0_0, v0_1, jI a0.Fn]]) ?_ ?_
 ·have H := H1
  refine gc 6 F rfl fun _ F => gif F H 1 6 rfl rfl rfl (fun h9 H _ F => ?_) (fun h9 H _ F => ?_)
  ·cases H
   exact ⟨F.sb, s3⟩
  refine gif F H 1 6 rfl rfl rfl (fun ha H _ F => ?_) (fun ha H _ F => ?_)
  ·cases H
   exact ⟨F.sb, s3⟩
  refine gif F H 1 6 rfl rfl rfl (fun hb H _ F => ?_) (fun hb H _ F => ?_)
  ·cases H
   exact ⟨F.sb, s3⟩
  refine gif F H 1 6 rfl rfl rfl (fun hc H _ F => ?_) (fun hc H _ F => ?_)
  ·cases H
   exact ⟨F.sb, s3⟩
  refine gif F H 1 4 rfl rfl rfl (fun hd H _ F => ?_) (fun hd H _ F => ?_)
  ·cases H
   exact ⟨F.sb, s3⟩
  cases H
  exact ⟨F.sb, s3⟩
 intro _ w4 hJ
 obtain ⟨F, s5⟩ := hJ
 have H := R1
 clear R1 H1
 refine ge 1 F rfl fun _ F => gif F H 2 6 rfl rfl rfl (fun he H _ F => ?_) (fun he H _ F => ?_)
 ·refine Ae (parts := [(0, .const (jU 2))]) Flat.u8 ([(2 : UInt8)] : List UInt8) F s5 Aqg rfl (by decide) rfl rfl rfl (by simp [Value.cells]) rfl rfl rfl fun v1 w5 _ F s6 => ?_
  cases H
  exact gw 6 F rfl fun _ F => rt F ⟨v1, rfl, s6.f1.drop.f1.drop⟩
 refine gif F H 2 6 rfl rfl rfl (fun hf H _ F => ?_) (fun hf H _ F => ?_)
 ·refine Ae (parts := [(0, .const (jU 3))]) Flat.u8 ([(3 : UInt8)] : List UInt8) F s5 Aqg rfl (by decide) rfl rfl rfl (by simp [Value.cells]) rfl rfl rfl fun v2 w6 _ F s7 => ?_
  cases H
  exact gw 6 F rfl fun _ F => rt F ⟨v2, rfl, s7.f1.drop.f1.drop⟩
 refine gif F H 2 1 rfl rfl rfl (fun hg H _ F => ?_) (fun hg H _ F => ?_)
 ·refine Ae (parts := [(0, .const (jU 255))]) Flat.u8 ([(255 : UInt8)] : List UInt8) F s5 Aqg rfl (by decide) rfl rfl rfl (by simp [Value.cells]) rfl rfl rfl fun v3 w7 _ F s8 => ?_
  cases H
  exact gw 6 F rfl fun _ F => rt F ⟨v3, rfl, s8.f1.drop.f1.drop⟩
 obtain ⟨o2, H2, R2⟩ := Aa H
 clear H
 refine At9 (fun a w_ => Fr a 69 [(2, jP g0), (3, jP g1), (6, jU (a1.Op.toNat : Int)), (32, .bool o2)] ∧ SL w [] w_ [Blk g1 79 [jI a1.At, jU (a1.Op.toNat : Int), jI a1.A, jI a1.B], Blk g0 110 [v0_0, v0_1, jI a0.Fn]]) ?_ ?_
 ·have H := H2
  refine gc 6 F rfl fun _ F => gif F H 1 4 rfl rfl rfl (fun hh H _ F => ?_) (fun hh H _ F => ?_)
  ·cases H
   exact ⟨F.sb, s5⟩
  cases H
  exact ⟨F.sb, s5⟩
 intro _ w8 hJ
 obtain ⟨F, s9⟩ := hJ
 have H := R2
 clear R2 H2
 refine ge 1 F rfl fun _ F => gif F H 2 6 rfl rfl rfl (fun hi H _ F => ?_) (fun hi H _ F => ?_)
 ·refine Ae (parts := [(0, .const (jU 255)), (1, .const (jU 255))]) Flat.u8 ([(255 : UInt8), (255 : UInt8)] : List UInt8) F s9 Aqg rfl (by decide) rfl rfl rfl (by simp [Value.cells]) rfl rfl rfl fun v4 w9 _ F sa => ?_
  cases H
  exact gw 6 F rfl fun _ F => rt F ⟨v4, rfl, sa.f1.drop.f1.drop⟩
 refine gif F H 2 1 rfl rfl rfl (fun hj H _ F => ?_) (fun hj H _ F => ?_)
 ·obtain ⟨x0, hk, H⟩ := Aa H
  obtain ⟨a2, c0, G0, hl, hm, hn, hp⟩ := Rd.idx hr0_1 APh rfl hk
  obtain ⟨v5, rfl, hr⟩ := (ARn hn hp)
  replace hm := hm _ _ s9
  obtain ⟨x1, hs, H⟩ := Aa H
  refine gw 1 F rfl fun _ F => gld F s9 m1 1 rfl fun _ F => gld F s9 m0 0 rfl fun _ F => gi F hl 0 rfl fun _ F => gx F (Ba Bis rfl) 0 rfl rfl fun _ F => gx F (Ao Aw9 rfl (Aqa.at_ hm (o := 1) rfl)) 0 rfl rfl fun _ F => std F (AXs hs) fun v6 wa _ ht F => ?_
  obtain ⟨_, rfl, hu⟩ := ht
  have sc := s9.add hu
  cases H
  exact gw 6 F rfl fun _ F => rt F ⟨v6, rfl, sc.f1.drop.f1.drop⟩
 obtain ⟨o3, H3, R3⟩ := Aa H
 clear H
 refine At9 (fun a w_ => Fr a 69 [(2, jP g0), (3, jP g1), (6, jU (a1.Op.toNat : Int)), (46, .bool o3)] ∧ SL w [] w_ [Blk g1 79 [jI a1.At, jU (a1.Op.toNat : Int), jI a1.A, jI a1.B], Blk g0 110 [v0_0, v0_1, jI a0.Fn]]) ?_ ?_
 ·have H := H3
  refine gc 6 F rfl fun _ F => gif F H 1 4 rfl rfl rfl (fun hv H _ F => ?_) (fun hv H _ F => ?_)
  ·cases H
   exact ⟨F.sb, s9⟩
  cases H
  exact ⟨F.sb, s9⟩
 intro _ wb hJ
 obtain ⟨F, sd⟩ := hJ
 have H := R3
 clear R3 H3
 refine ge 1 F rfl fun _ F => gif F H 3 6 rfl rfl rfl (fun hw H _ F => ?_) (fun hw H _ F => ?_)
 ·obtain ⟨x2, hx, H⟩ := Aa H
  refine gld F sd m0 0 rfl fun _ F => gca F sd (AW3 hx) 0 rfl rfl rfl rfl fun wc _ F se => ?_
  refine Ae (parts := [(0, .tmp 51)]) Flat.u8 ([x2] : List UInt8) F se Aqg rfl (by decide) rfl rfl rfl (by simp [Value.cells]) rfl rfl rfl fun v7 wd _ F sf => ?_
  cases H
  exact gw 6 F rfl fun _ F => rt F ⟨v7, rfl, sf.f1.drop.f1.drop⟩
 refine gif F H 1 6 rfl rfl rfl (fun hy H _ F => ?_) (fun hy H _ F => ?_)
 ·obtain ⟨x3, hz, H⟩ := Aa H
  obtain ⟨x4, h10, H⟩ := Aa H
  obtain ⟨x5, h11, H⟩ := Aa H
  refine AJp Aq8 sd ?_
  refine hq [0, 1, 2, 3, 5, 6] F sd.drew (QI.ev 1 rfl <| QI.ld m1 rfl <| QI.ev 1 rfl <| QI.ld m0 rfl <| QI.ev 1 rfl <| QI.ld m0 rfl <| QI.nil) (by kernel_rfl) fun _ F => ?_
  refine ho 4 rfl (by kernel_rfl) ?_
  refine std F (ASf (hr0_0.Ajq sd.drew) hz) fun v8 we _ h12 F => ?_
  obtain ⟨_, rfl, h13⟩ := h12
  have sg := sd.drew.add h13
  refine gw 1 F rfl fun _ F => ⟨sg.drop, ?_⟩
  refine ho 7 rfl (by kernel_rfl) ?_
  obtain ⟨a3, h14, h15⟩ := Ax AOt sg m0 ASm rfl h10
  refine gi F h14 1 rfl fun _ F => ⟨sg.drop, ?_⟩
  refine hq [8] F sg.drop (QI.op rfl (fun _ hC => Ba Bgh rfl) rfl <| QI.nil) (by kernel_rfl) fun _ F => ?_
  refine ho 9 rfl (by kernel_rfl) ?_
  refine gx F (Ao Aw9 rfl (Aqa.at_ (SL.AN4 AOt sg m0 h15 h10) (o := 1) rfl)) 1 rfl rfl fun _ F => ⟨sg.drop, ?_⟩
  refine ho 10 rfl (by kernel_rfl) ?_
  refine std F (AXs h11) fun v9 wf _ h16 F => ?_
  obtain ⟨_, rfl, h17⟩ := h16
  have sh := sg.add h17
  refine gw 1 F rfl fun _ F => ⟨sh.drop.drop, ?_⟩
  refine hq [11] F sh.drop.drop (QI.ev 1 rfl <| QI.nil) (by kernel_rfl) fun _ F => ?_
  refine ANu (by kernel_rfl) ?_
  cases H
  exact ge 4 F rfl fun _ F => rt F ⟨v9, rfl, sh.f1.drop.f1.drop.f1.drop⟩
 refine gif F H 2 9 rfl rfl rfl (fun h18 H _ F => ?_) (fun h18 H _ F => ?_)
 ·refine Ae (parts := [(0, .const (jU 4))]) Flat.u8 ([(4 : UInt8)] : List UInt8) F sd Aqg rfl (by decide) rfl rfl rfl (by simp [Value.cells]) rfl rfl rfl fun va wg _ F si => ?_
  cases H
  exact gw 6 F rfl fun _ F => rt F ⟨va, rfl, si.f1.drop.f1.drop⟩
 cases H
 exact rt F ⟨(.slice none 0 0), rfl, (SL.Axc (T := Ty.u8) sd).f1.drop.f1.drop⟩
theorem Bbe {w : World} {a0 : Aas} {r : Aas} (H : ASt a0 = some r) :
    Calls prog 198 #[.agg ⟨(jI a0.Locals :: jI a0.Height :: ev8 a0.Slots)⟩] w (Ret fun u_ w_ => u_ = .agg ⟨(jI r.Locals :: jI r.Height :: ev8 r.Slots)⟩ ∧ SL w [] w_ []) := by
 have s0 : SL w [] w [] := SL.Aq9 w
 refine cin func198 ntmps198 2 rfl rfl rfl fun _ F0 => ?_
 unfold ASt at H
 refine Ar F0 s0 rfl rfl rfl fun g0 w0 _ F s1 => Af F s1 Ajp rfl rfl fun g1 w1 _ F s2 => gw 6 F rfl fun _ F => gld F s2 m1 1 rfl fun _ F => ?_
 obtain ⟨o0, H0, R0⟩ := Aa H
 clear H
 refine gld F s2 m1 4 rfl fun _ F => At9 (fun a w_ => Fr a 17 [(1, jP g0), (2, jP g1)] ∧ SL w [] w_ [Blk g1 118 jZ, Blk g0 118 (jI a0.Locals :: jI a0.Height :: ev8 o0)]) ?_ ?_
 ·have H := H0
  refine gc 1 F rfl fun _ F => lpk (AP5) (fun s3 a w_ => Fr a 17 [(1, jP g0), (2, jP g1), (3, jI s3.2)] ∧ SL w [] w_ [Blk g1 118 jZ, Blk g0 118 (jI a0.Locals :: jI a0.Height :: ev8 s3.1)]) H ?_ ?_
  ·exact ⟨F.sb, s2⟩
  intro s3 _ w2 h0 o1 H hr
  obtain ⟨F, s4⟩ := h0
  replace H : AP5 s3 = some o1 := H
  unfold AP5 at H
  refine gc 7 F rfl fun _ F => gif F H 7 4 rfl rfl rfl (fun h1 H _ F => ?_) (fun h1 H _ F => ?_)
  ·obtain ⟨x0, h2, H⟩ := Aa H
   refine gx F (AO6 ANo h2 rfl rfl) 0 rfl rfl fun _ F => AVw (y' := (0 : UInt8)) (pre := [jI a0.Locals, jI a0.Height]) F s4.f1 rfl h2 rfl rfl AWk fun w3 _ F s5 => ?_
   cases H
   exact gw 8 F rfl fun _ F => ⟨_, rfl, F.sb, s5.f1⟩
  cases H
  obtain rfl := hr _ rfl
  exact ⟨F.sb, s4⟩
 intro _ w4 hJ
 obtain ⟨F, s6⟩ := hJ
 have H := R0
 clear R0 H0
 refine ge 3 F rfl fun _ F => gla F s6 m1 0 rfl fun _ F => ?_
 refine Akj (ds := (jI a0.Locals :: jI a0.Height :: ev8 o0)) F s6 rfl rfl (by simpa using Amy) (Ab rfl (Ab rfl (Ape _))) (by simp) fun w5 _ F s7 => ?_
 cases H
 refine gw 3 F rfl fun _ F => ?_
 refine Aj (rs := [.cell 2 118]) (vs := [.agg ⟨(jI a0.Locals :: jI a0.Height :: ev8 o0)⟩]) F (by rfl) ⟨_, _, rfl, Am s7 m0 rfl Aoi (by simp), rfl⟩ ⟨_, rfl, ⟨rfl, s7.drop.drop⟩⟩
theorem Bij {w : World} {a0 : Aas} {r : Aas × UInt8 × Int} (H : AUy a0 = some r) :
    Calls prog 175 #[.agg ⟨(jI a0.Locals :: jI a0.Height :: ev8 a0.Slots)⟩] w (Ret fun u_ w_ => u_ = .tuple ⟨[.agg ⟨(jI r.1.Locals :: jI r.1.Height :: ev8 r.1.Slots)⟩, jU (r.2.1.toNat : Int), jI r.2.2]⟩ ∧ SL w [] w_ []) := by
 have s0 : SL w [] w [] := SL.Aq9 w
 refine cin func175 ntmps175 2 rfl rfl rfl fun _ F0 => ?_
 unfold AUy at H
 refine Ar F0 s0 rfl rfl rfl fun g0 w0 _ F s1 => Af F s1 Ajp rfl rfl fun g1 w1 _ F s2 => ?_
 obtain ⟨x0, h0, H⟩ := Aa H
 refine gw 7 F rfl fun _ F => gla F s2 m1 0 rfl fun _ F => gca F s2 (AW6 h0) 3 rfl rfl rfl rfl fun w2 _ F s3 => gif F H 2 6 rfl rfl rfl (fun h1 H _ F => ?_) (fun h1 H _ F => ?_)
 ·refine gx F (Al (vs := []) Ajp ACi rfl (cs := jZ) (Ayf)) 0 rfl rfl fun _ F => ?_
  refine Akj (ds := jZ) F s3 rfl rfl (by simpa using Amy) (Ab rfl (Ab rfl (Ape _))) (by simp) fun w3 _ F s4 => ?_
  cases H
  refine gw 6 F rfl fun _ F => ?_
  refine Aj (rs := [.cell 2 118, .tmp 3, .tmp 4]) (vs := [.agg ⟨jZ⟩, jU 0, jI 32]) F (by rfl) ⟨_, _, rfl, Am s4 m0 rfl Aoi (by simp), _, _, rfl, An rfl, _, _, rfl, An rfl, rfl⟩ ⟨_, rfl, ⟨rfl, s4.drop.drop⟩⟩
 refine gld F s3 m1 3 rfl fun _ F => gif F H 2 5 rfl rfl rfl (fun h2 H _ F => ?_) (fun h2 H _ F => ?_)
 ·refine gx F (Al (vs := []) Ajp ACi rfl (cs := jZ) (Ayf)) 0 rfl rfl fun _ F => ?_
  refine Akj (ds := jZ) F s3 rfl rfl (by simpa using Amy) (Ab rfl (Ab rfl (Ape _))) (by simp) fun w4 _ F s5 => ?_
  cases H
  refine gw 6 F rfl fun _ F => ?_
  refine Aj (rs := [.cell 2 118, .tmp 3, .tmp 4]) (vs := [.agg ⟨jZ⟩, jU 0, jI 30]) F (by rfl) ⟨_, _, rfl, Am s5 m0 rfl Aoi (by simp), _, _, rfl, An rfl, _, _, rfl, An rfl, rfl⟩ ⟨_, rfl, ⟨rfl, s5.drop.drop⟩⟩
 obtain ⟨x1, h3, H⟩ := Aa H
 refine gld F s3 m1 1 rfl fun _ F => gld F s3 m1 3 rfl fun _ F => gx F (AO6 ANo h3 rfl rfl) 0 rfl rfl fun _ F => gx F (Ao Aw9 rfl (SL.AT9 (pre := [jI a0.Locals, jI a0.Height]) s3 m1 rfl h3)) 6 rfl rfl fun _ F => gld F s3 m1 2 rfl fun _ F => Ay F s3.f1 rfl rfl AYu rfl rfl rfl fun w5 _ F s6 => ?_
 obtain ⟨x2, h4, H⟩ := Aa H
 refine gw 4 F rfl fun _ F => gla F s6 m0 0 rfl fun _ F => gca F s6 (Bbe h4) 1 rfl rfl rfl rfl fun w6 _ F s7 => ?_
 refine Akj (ds := (jI x2.Locals :: jI x2.Height :: ev8 x2.Slots)) F s7.f1 rfl rfl (by simpa using Amy) (Ab rfl (Ab rfl (Ape _))) (by simp) fun w7 _ F s8 => ?_
 cases H
 refine gw 5 F rfl fun _ F => ?_
 refine Aj (rs := [.cell 2 118, .tmp 3, .tmp 4]) (vs := [.agg ⟨(jI x2.Locals :: jI x2.Height :: ev8 x2.Slots)⟩, jU (x1.toNat : Int), jI 0]) F (by rfl) ⟨_, _, rfl, Am s8 m0 rfl Aoi (by simp), _, _, rfl, An rfl, _, _, rfl, An rfl, rfl⟩ ⟨_, rfl, ⟨rfl, s8.drop.drop⟩⟩
theorem Bgx {w : World} {a0 : Aas} {a1 : UInt8} {r : Aas × Int} (H : AUd a0 a1 = some r) :
    Calls prog 176 #[.agg ⟨(jI a0.Locals :: jI a0.Height :: ev8 a0.Slots)⟩, jU (a1.toNat : Int)] w (Ret fun u_ w_ => u_ = .tuple ⟨[.agg ⟨(jI r.1.Locals :: jI r.1.Height :: ev8 r.1.Slots)⟩, jI r.2]⟩ ∧ SL w [] w_ []) := by
 have s0 : SL w [] w [] := SL.Aq9 w
 refine cin func176 ntmps176 2 rfl rfl rfl fun _ F0 => ?_
 unfold AUd at H
 refine Ar F0 s0 rfl rfl rfl fun g0 w0 _ F s1 => Af F s1 Ajp rfl rfl fun g1 w1 _ F s2 => ?_
 obtain ⟨x0, h0, H⟩ := Aa H
 refine gw 6 F rfl fun _ F => gla F s2 m1 0 rfl fun _ F => gca F s2 (AW6 h0) 3 rfl rfl rfl rfl fun w2 _ F s3 => gif F H 2 5 rfl rfl rfl (fun h1 H _ F => ?_) (fun h1 H _ F => ?_)
 ·refine gx F (Al (vs := []) Ajp ACi rfl (cs := jZ) (Ayf)) 0 rfl rfl fun _ F => ?_
  refine Akj (ds := jZ) F s3 rfl rfl (by simpa using Amy) (Ab rfl (Ab rfl (Ape _))) (by simp) fun w3 _ F s4 => ?_
  cases H
  refine gw 5 F rfl fun _ F => ?_
  refine Aj (rs := [.cell 4 118, .tmp 5]) (vs := [.agg ⟨jZ⟩, jI 32]) F (by rfl) ⟨_, _, rfl, Am s4 m0 rfl Aoi (by simp), _, _, rfl, An rfl, rfl⟩ ⟨_, rfl, ⟨rfl, s4.drop.drop⟩⟩
 refine gld F s3 m1 1 rfl fun _ F => gld F s3 m1 11 rfl fun _ F => gif F H 2 4 rfl rfl rfl (fun h2 H _ F => ?_) (fun h2 H _ F => ?_)
 ·refine gx F (Al (vs := []) Ajp ACi rfl (cs := jZ) (Ayf)) 0 rfl rfl fun _ F => ?_
  refine Akj (ds := jZ) F s3 rfl rfl (by simpa using Amy) (Ab rfl (Ab rfl (Ape _))) (by simp) fun w4 _ F s5 => ?_
  cases H
  refine gw 5 F rfl fun _ F => ?_
  refine Aj (rs := [.cell 4 118, .tmp 5]) (vs := [.agg ⟨jZ⟩, jI 31]) F (by rfl) ⟨_, _, rfl, Am s5 m0 rfl Aoi (by simp), _, _, rfl, An rfl, rfl⟩ ⟨_, rfl, ⟨rfl, s5.drop.drop⟩⟩
 obtain ⟨x1, h3, H⟩ := Aa H
 refine gla F s3 m1 0 rfl fun _ F => gca F s3 (Bbe h3) 0 rfl rfl rfl rfl fun w5 _ F s6 => ?_
 refine Akj (ds := (jI x1.Locals :: jI x1.Height :: ev8 x1.Slots)) F s6.f1 rfl rfl (by simpa using Amy) (Ab rfl (Ab rfl (Ape _))) (by simp) fun w6 _ F s7 => ?_
 obtain ⟨x2, h4, H⟩ := Aa H
 refine gw 7 F rfl fun _ F => gx F (AO6 ANo h4 rfl rfl) 0 rfl rfl fun _ F => AVw (y' := a1) (pre := [jI x1.Locals, jI x1.Height]) F s7 rfl h4 rfl rfl AWk fun w7 _ F s8 => gw 5 F rfl fun _ F => gld F s8 m0 2 rfl fun _ F => Ay F s8 rfl rfl AYu rfl rfl rfl fun w8 _ F s9 => gw 4 F rfl fun _ F => gla F s9 m0 0 rfl fun _ F => ?_
 refine Akj (ds := (jI x1.Locals :: jI (wr (x1.Height + 1)) :: ev8 (AT6 x1.Slots (wr (a0.Locals + a0.Height)) a1))) F s9.f1 rfl rfl (by simpa using Amy) (Ab rfl (Ab rfl (Ape _))) (by simp) fun w9 _ F sa => ?_
 cases H
 refine gw 4 F rfl fun _ F => ?_
 refine Aj (rs := [.cell 4 118, .tmp 5]) (vs := [.agg ⟨(jI x1.Locals :: jI (wr (x1.Height + 1)) :: ev8 (AT6 x1.Slots (wr (a0.Locals + a0.Height)) a1))⟩, jI 0]) F (by rfl) ⟨_, _, rfl, Am sa m0 rfl Aoi (by simp), _, _, rfl, An rfl, rfl⟩ ⟨_, rfl, ⟨rfl, sa.drop.drop⟩⟩
theorem Bax {w : World} {v0_0 v0_1 : Value} {a0 : Adb} {a1 : Aas} {a2 : Ads} {r : Aas × Int} (hr0_0 : Rd Aef w [] v0_0 a0.Classes) (hr0_1 : Rd Ate w [] v0_1 a0.Akq) (H : ASd a0 a1 a2 = some r) :
    Calls prog 149 #[.agg ⟨[v0_0, v0_1, jI a0.Fn]⟩, .agg ⟨(jI a1.Locals :: jI a1.Height :: ev8 a1.Slots)⟩, .agg ⟨[jI a2.At, jU (a2.Op.toNat : Int), jI a2.A, jI a2.B]⟩] w (Ret fun u_ w_ => u_ = .tuple ⟨[.agg ⟨(jI r.1.Locals :: jI r.1.Height :: ev8 r.1.Slots)⟩, jI r.2]⟩ ∧ SL w [] w_ []) := by
 have s0 : SL w [] w [] := SL.Aq9 w
 refine cin func149 ntmps149 2 rfl rfl rfl fun _ F0 => ?_
 unfold ASd at H
 refine Ar F0 s0 rfl rfl rfl fun g0 w0 _ F s1 => Ar F s1 rfl rfl rfl fun g32 w1 _ F s2 => Ar F s2 rfl rfl rfl fun g1 w2 _ F s3 => Af F s3 Ajp rfl rfl fun g2 w3 _ F s4 => gw 5 F rfl fun _ F => gx F (Al (vs := []) Ajp ACi rfl (cs := jZ) (Ayf)) 0 rfl rfl fun _ F => Af F s4 Ajp rfl rfl fun g64 w4 _ F s5 => ?_
 refine Akj (ds := jZ) F s5 rfl rfl (by simpa using Amy) (Ab rfl (Ab rfl (Ape _))) (by simp) fun w5 _ F s6 => ?_
 obtain ⟨x0, h0, H⟩ := Aa H
 refine gw 4 F rfl fun _ F => gld F s6 m4 0 rfl fun _ F => gld F s6 m2 0 rfl fun _ F => std F (Bfq (a0 := (⟨a0.Classes, a0.Akq, a0.Fn⟩ : Adb)) (wb := w) (Fb := []) s6.fm Biz hr0_0 hr0_1 h0) fun v0 w6 _ h1 F => ?_
 obtain ⟨_, rfl, h2⟩ := h1
 have s7 := s6.add h2
 refine gw 7 F rfl fun _ F => gld F s7 m4 1 rfl fun _ F => gx F (Ak rfl underlying47 (AVo (s7.Bmk m0))) 3 rfl rfl fun _ F => gif F H 2 5 rfl rfl rfl (fun h3 H _ F => ?_) (fun h3 H _ F => ?_)
 ·refine gla F s7 m1 0 rfl fun _ F => ?_
  refine Akj (ds := jZ) F s7.f2 rfl rfl (by simpa using Amy) (Ab rfl (Ab rfl (Ape _))) (by simp) fun w7 _ F s8 => ?_
  cases H
  refine gw 5 F rfl fun _ F => ?_
  refine Aj (rs := [.cell 6 118, .tmp 7]) (vs := [.agg ⟨jZ⟩, jI 30]) F (by rfl) ⟨_, _, rfl, Am s8 m0 rfl Aoi (by simp), _, _, rfl, An rfl, rfl⟩ ⟨_, rfl, ⟨rfl, s8.drop.drop.drop.drop.drop.drop⟩⟩
 refine gld F s7 m4 1 rfl fun _ F => gld F s7 m4 2 rfl fun _ F => gx F (Ak rfl underlying47 (AVo (s7.Bmk m0))) 13 rfl rfl fun _ F => ?_
 obtain ⟨o0, H0, R0⟩ := Aa H
 clear H
 refine gx F (Ak rfl underlying47 (AVo (s7.Bmk m0))) 3 rfl rfl fun _ F => At9 (fun a w_ => ∃ p0 : (List UInt8), o0 = .inr (p0) ∧ ∃ v1 : Value, Fr a 175 [(3, jP g0), (4, jP g32), (5, jP g1), (6, jP g2), (8, jP g64), (9, v0), (11, v1)] ∧ SL w [] w_ [Mx Ty.u8 w [] v0 x0, Blk g64 118 jZ, Blk g2 118 jZ, Blk g1 79 [jI a2.At, jU (a2.Op.toNat : Int), jI a2.A, jI a2.B], Blk g32 118 (jI a1.Locals :: jI a1.Height :: ev8 a1.Slots), Blk g0 110 [v0_0, v0_1, jI a0.Fn], Sl Ty.u8 v1 p0]) ?_ ?_
 ·have H := H0
  refine gc 1 F rfl fun _ F => lpk (ANn a0 a1 x0) (fun s9 a w_ => ∃ v2 : Value, Fr a 175 [(3, jP g0), (4, jP g32), (5, jP g1), (6, jP g2), (8, jP g64), (9, v0), (10, jI (wr ((wr (a1.Locals + a1.Height)) - (x0.length : Int)))), (11, v2), (38, v0), (39, jI (x0.length : Int)), (40, jI s9.2)] ∧ SL w [] w_ [Mx Ty.u8 w [] v0 x0, Blk g64 118 jZ, Blk g2 118 jZ, Blk g1 79 [jI a2.At, jU (a2.Op.toNat : Int), jI a2.A, jI a2.B], Blk g32 118 (jI a1.Locals :: jI a1.Height :: ev8 a1.Slots), Blk g0 110 [v0_0, v0_1, jI a0.Fn], Sl Ty.u8 v2 s9.1]) H ?_ ?_
  ·exact ⟨(.slice none 0 0), F.sb, (SL.Axc (T := Ty.u8) s7).f6.f6.f6.f6.f6.f6⟩
  intro s9 _ w8 h4 o1 H hr
  obtain ⟨v2, F, sa⟩ := h4
  replace H : ANn a0 a1 x0 s9 = some o1 := H
  unfold ANn at H
  refine gc 6 F rfl fun _ F => gif F H 7 4 rfl rfl rfl (fun h5 H _ F => ?_) (fun h5 H _ F => ?_)
  ·obtain ⟨x1, h6, H⟩ := Aa H
   obtain ⟨a3, h7, h8⟩ := AT7 Flat.u8 (sa.Bmk m0) Aqg rfl h6
   refine gi F h7 0 rfl fun _ F => ?_
   obtain ⟨x2, h9, H⟩ := Aa H
   refine gx F (Ao Aw9 rfl (Aqa.at_ h8 (o := 0) rfl)) 10 rfl rfl fun _ F => gx F (AO6 ANo h9 rfl rfl) 0 rfl rfl fun _ F => ?_
   obtain ⟨x3, ha, H⟩ := Aa H
   refine gx F (Ao Aw9 rfl (SL.AT9 (pre := [jI a1.Locals, jI a1.Height]) sa m4 rfl h9)) 7 rfl rfl fun _ F => gld F sa m5 2 rfl fun _ F => gca F sa (Be3 (hr0_0.Ajq sa) ha) 3 rfl rfl rfl rfl fun w9 _ F sc => gif F H 2 5 rfl rfl rfl (fun hb H _ F => ?_) (fun hb H _ F => ?_)
   ·refine gla F sc m1 0 rfl fun _ F => ?_
    refine Akj (ds := jZ) F sc.f2 rfl rfl (by simpa using Amy) (Ab rfl (Ab rfl (Ape _))) (by simp) fun wa _ F sd => ?_
    cases H
    obtain rfl := hr _ rfl
    replace H := R0
    try dsimp only at H
    cases H
    refine gw 11 F rfl fun _ F => ?_
    refine Aj (rs := [.cell 6 118, .tmp 7]) (vs := [.agg ⟨jZ⟩, jI 70]) F (by rfl) ⟨_, _, rfl, Am sd m0 rfl Aoi (by simp), _, _, rfl, An rfl, rfl⟩ ⟨_, rfl, ⟨rfl, sd.drop.drop.drop.drop.drop.drop.drop⟩⟩
   refine Ae (parts := [(0, .tmp 59)]) Flat.u8 ([x2] : List UInt8) F sc Aqg rfl (by decide) rfl rfl rfl (by simp [Value.cells]) rfl rfl rfl fun v3 wc _ F se => ?_
   obtain ⟨x4, hc, H⟩ := Aa H
   obtain ⟨_, hr_⟩ := (se.f7.A59 m1)
   refine Av Flat.u8 F se.f7 Aqg rfl rfl rfl rfl hr_ rfl rfl hc rfl fun v4 wd _ F sf => ?_
   have s6718' := sf.f1.drop
   cases H
   exact gw 8 F rfl fun _ F => ⟨_, rfl, v4, F.sb, s6718'.f6.f6.f6.f6.f6.f6⟩
  cases H
  obtain rfl := hr _ rfl
  exact ⟨_, rfl, v2, F.sb, sa⟩
 intro _ we hJ
 obtain ⟨p0, rfl, v1, F, sg⟩ := hJ
 have H := R0
 clear R0 H0
 try dsimp only at H
 obtain ⟨o2, H1, R1⟩ := Aa H
 clear H
 refine ge 2 F rfl fun _ F => At9 (fun a w_ => ∃ p1 : Unit, o2 = .inr (p1) ∧ Fr a 175 [(3, jP g0), (4, jP g32), (5, jP g1), (6, jP g2), (8, jP g64), (9, v0), (11, v1)] ∧ SL w [] w_ [Mx Ty.u8 w [] v0 x0, Blk g64 118 jZ, Blk g2 118 jZ, Blk g1 79 [jI a2.At, jU (a2.Op.toNat : Int), jI a2.A, jI a2.B], Blk g32 118 (jI a1.Locals :: jI a1.Height :: ev8 a1.Slots), Blk g0 110 [v0_0, v0_1, jI a0.Fn], Sl Ty.u8 v1 p0]) ?_ ?_
 ·have H := H1
  refine gc 1 F rfl fun _ F => Be ((a2.Op.toNat : Int) == 16) (fun hd => ?_) (fun hd => ?_)
  ·replace H := AZv hd H
   obtain ⟨x5, he, H⟩ := Aa H
   obtain ⟨a4, hf, hg⟩ := ASr Flat.u8 (fun _ hC => (hC.A59 m6)) sg Aqg rfl he
   obtain ⟨x6, hh, H⟩ := Aa H
   obtain ⟨a5, hi, hj⟩ := ASr Flat.u8 (fun _ hC => (hC.A59 m6)) sg Aqg rfl hh
   refine Be ((x5.toNat : Int) != (x6.toNat : Int)) (fun hk => ?_) (fun hk => ?_)
   ·replace H := AZv hk H
    refine ATo Aq8 sg F (QR.ev 1 rfl <| QR.ld m3 rfl <| QR.ev 2 rfl <| QR.qg (fun _ hC => Az rfl) rfl rfl (Ai rfl hd) rfl rfl <| QR.qg (fun _ hC => hf _ _ _ _ _ _ _ _ _ _ rfl rfl) rfl rfl (Ai rfl hd) rfl rfl <| QR.qg (fun _ hC => Ao Aw9 rfl (Aqa.at_ (hg _ hC) (o := 0) rfl)) rfl rfl (Ai rfl hd) rfl rfl <| QR.qg (fun _ hC => Az rfl) rfl rfl (Ai rfl hd) rfl rfl <| QR.qg (fun _ hC => hi _ _ _ _ _ _ _ _ _ _ rfl rfl) rfl rfl (Ai rfl hd) rfl rfl <| QR.qg (fun _ hC => Ao Aw9 rfl (Aqa.at_ (hj _ hC) (o := 0) rfl)) rfl rfl (Ai rfl hd) rfl rfl <| QR.qg (fun _ hC => Bcr rfl rfl) rfl rfl (Ai rfl hd) rfl rfl <| QR.qg (fun _ hC => Az rfl) rfl rfl (Ai rfl hd) rfl rfl <| QR.qs rfl rfl (Ai rfl hk) Ad rfl rfl <| QR.qs rfl rfl (Ai rfl hk) Ad rfl rfl <| QR.qs rfl rfl (Ai rfl hk) Ad rfl rfl <| QR.qs rfl rfl (Ai rfl hk) Ad rfl rfl <| QR.qs rfl rfl (Ai rfl hk) Ad rfl rfl <| QR.qt rfl rfl rfl rfl rfl <| QR.qt rfl rfl rfl rfl rfl <| QR.qt rfl rfl rfl rfl rfl <| QR.qt rfl rfl rfl rfl rfl <| QR.qs rfl rfl (Ai rfl hk) Ad rfl rfl <| QR.qg (fun _ hC => Bh (AXr rfl hk) rfl) rfl rfl (Ai rfl hd) rfl rfl <| QR.qo (fun _ hC => Bh (AXr rfl hd) rfl) rfl <| Bb) fun wf _ sh F => ?_
    refine ge 4 F rfl fun _ F => gla F sh m1 0 rfl fun _ F => ?_
    refine Akj (ds := jZ) F sh.f2 rfl rfl (by simpa using Amy) (Ab rfl (Ab rfl (Ape _))) (by simp) fun wg _ F si => ?_
    cases H
    replace H := R1
    try dsimp only at H
    cases H
    refine gw 6 F rfl fun _ F => ?_
    refine Aj (rs := [.cell 6 118, .tmp 7]) (vs := [.agg ⟨jZ⟩, jI 70]) F (by rfl) ⟨_, _, rfl, Am si m0 rfl Aoi (by simp), _, _, rfl, An rfl, rfl⟩ ⟨_, rfl, ⟨rfl, si.drop.drop.drop.drop.drop.drop.drop⟩⟩
   replace H := AZy hk H
   obtain ⟨x7, hl, H⟩ := Aa H
   obtain ⟨a6, hm, hn⟩ := ASr Flat.u8 (fun _ hC => (hC.A59 m6)) sg Aqg rfl hl
   refine Be ((x7.toNat : Int) != 1) (fun hp => ?_) (fun hp => ?_)
   ·replace H := AZv hp H
    obtain ⟨x8, hs, H⟩ := Aa H
    obtain ⟨a7, ht, hu⟩ := ASr Flat.u8 (fun _ hC => (hC.A59 m6)) sg Aqg rfl hs
    refine ATo Aq8 sg F (QR.ev 1 rfl <| QR.ld m3 rfl <| QR.ev 2 rfl <| QR.qg (fun _ hC => Az rfl) rfl rfl (Ai rfl hd) rfl rfl <| QR.qg (fun _ hC => hf _ _ _ _ _ _ _ _ _ _ rfl rfl) rfl rfl (Ai rfl hd) rfl rfl <| QR.qg (fun _ hC => Ao Aw9 rfl (Aqa.at_ (hg _ hC) (o := 0) rfl)) rfl rfl (Ai rfl hd) rfl rfl <| QR.qg (fun _ hC => Az rfl) rfl rfl (Ai rfl hd) rfl rfl <| QR.qg (fun _ hC => hi _ _ _ _ _ _ _ _ _ _ rfl rfl) rfl rfl (Ai rfl hd) rfl rfl <| QR.qg (fun _ hC => Ao Aw9 rfl (Aqa.at_ (hj _ hC) (o := 0) rfl)) rfl rfl (Ai rfl hd) rfl rfl <| QR.qg (fun _ hC => Bcr rfl rfl) rfl rfl (Ai rfl hd) rfl rfl <| QR.qg (fun _ hC => Az rfl) rfl rfl (Ai rfl hd) rfl rfl <| QR.qg (fun _ hC => Az rfl) rfl rfl (Ai rfl hk) rfl rfl <| QR.qg (fun _ hC => hm _ _ _ _ _ _ _ _ _ _ rfl rfl) rfl rfl (Ai rfl hk) rfl rfl <| QR.qg (fun _ hC => Ao Aw9 rfl (Aqa.at_ (hn _ hC) (o := 0) rfl)) rfl rfl (Ai rfl hk) rfl rfl <| QR.qg (fun _ hC => Bcr rfl rfl) rfl rfl (Ai rfl hk) rfl rfl <| QR.qg (fun _ hC => Az rfl) rfl rfl (Ai rfl hk) rfl rfl <| QR.qg (fun _ hC => Az rfl) rfl rfl (Ai rfl hp) rfl rfl <| QR.qg (fun _ hC => ht _ _ _ _ _ _ _ _ _ _ rfl rfl) rfl rfl (Ai rfl hp) rfl rfl <| QR.qg (fun _ hC => Ao Aw9 rfl (Aqa.at_ (hu _ hC) (o := 0) rfl)) rfl rfl (Ai rfl hp) rfl rfl <| QR.qg (fun _ hC => Bcr rfl rfl) rfl rfl (Ai rfl hp) rfl rfl <| QR.qg (fun _ hC => Bh (AXr rfl hp) rfl) rfl rfl (Ai rfl hk) rfl rfl <| QR.qg (fun _ hC => Bk (AXr rfl hk) rfl) rfl rfl (Ai rfl hd) rfl rfl <| QR.qo (fun _ hC => Bh (AXr rfl hd) rfl) rfl <| Bb) fun wh _ sj F => ?_
    refine ge 1 F rfl fun _ F => gif F H 2 1 rfl rfl rfl (fun hv H _ F => ?_) (fun hv H _ F => ?_)
    ·refine gla F sj m1 0 rfl fun _ F => ?_
     refine Akj (ds := jZ) F sj.f2 rfl rfl (by simpa using Amy) (Ab rfl (Ab rfl (Ape _))) (by simp) fun wi _ F sk => ?_
     cases H
     replace H := R1
     try dsimp only at H
     cases H
     refine gw 6 F rfl fun _ F => ?_
     refine Aj (rs := [.cell 6 118, .tmp 7]) (vs := [.agg ⟨jZ⟩, jI 70]) F (by rfl) ⟨_, _, rfl, Am sk m0 rfl Aoi (by simp), _, _, rfl, An rfl, rfl⟩ ⟨_, rfl, ⟨rfl, sk.drop.drop.drop.drop.drop.drop.drop⟩⟩
    cases H
    exact ⟨_, rfl, F.sb, sj⟩
   replace H := AZy hp H
   refine ATo Aq8 sg F (QR.ev 1 rfl <| QR.ld m3 rfl <| QR.ev 2 rfl <| QR.qg (fun _ hC => Az rfl) rfl rfl (Ai rfl hd) rfl rfl <| QR.qg (fun _ hC => hf _ _ _ _ _ _ _ _ _ _ rfl rfl) rfl rfl (Ai rfl hd) rfl rfl <| QR.qg (fun _ hC => Ao Aw9 rfl (Aqa.at_ (hg _ hC) (o := 0) rfl)) rfl rfl (Ai rfl hd) rfl rfl <| QR.qg (fun _ hC => Az rfl) rfl rfl (Ai rfl hd) rfl rfl <| QR.qg (fun _ hC => hi _ _ _ _ _ _ _ _ _ _ rfl rfl) rfl rfl (Ai rfl hd) rfl rfl <| QR.qg (fun _ hC => Ao Aw9 rfl (Aqa.at_ (hj _ hC) (o := 0) rfl)) rfl rfl (Ai rfl hd) rfl rfl <| QR.qg (fun _ hC => Bcr rfl rfl) rfl rfl (Ai rfl hd) rfl rfl <| QR.qg (fun _ hC => Az rfl) rfl rfl (Ai rfl hd) rfl rfl <| QR.qg (fun _ hC => Az rfl) rfl rfl (Ai rfl hk) rfl rfl <| QR.qg (fun _ hC => hm _ _ _ _ _ _ _ _ _ _ rfl rfl) rfl rfl (Ai rfl hk) rfl rfl <| QR.qg (fun _ hC => Ao Aw9 rfl (Aqa.at_ (hn _ hC) (o := 0) rfl)) rfl rfl (Ai rfl hk) rfl rfl <| QR.qg (fun _ hC => Bcr rfl rfl) rfl rfl (Ai rfl hk) rfl rfl <| QR.qg (fun _ hC => Az rfl) rfl rfl (Ai rfl hk) rfl rfl <| QR.qs rfl rfl (Ai rfl hp) Ad rfl rfl <| QR.qs rfl rfl (Ai rfl hp) Ad rfl rfl <| QR.qs rfl rfl (Ai rfl hp) Ad rfl rfl <| QR.qs rfl rfl (Ai rfl hp) Ad rfl rfl <| QR.qg (fun _ hC => Bk (AXr rfl hp) rfl) rfl rfl (Ai rfl hk) rfl rfl <| QR.qg (fun _ hC => Bk (AXr rfl hk) rfl) rfl rfl (Ai rfl hd) rfl rfl <| QR.qo (fun _ hC => Bh (AXr rfl hd) rfl) rfl <| Bb) fun wj _ sl F => ?_
   cases H
   exact ge 3 F rfl fun _ F => ⟨_, rfl, F.sb, sl⟩
  replace H := AZy hd H
  refine ATo Aq8 sg F (QR.ev 1 rfl <| QR.ld m3 rfl <| QR.ev 2 rfl <| QR.qs rfl rfl (Ai rfl hd) Ad rfl rfl <| QR.qs rfl rfl (Ai rfl hd) Ad rfl rfl <| QR.qs rfl rfl (Ai rfl hd) Ad rfl rfl <| QR.qs rfl rfl (Ai rfl hd) Ad rfl rfl <| QR.qs rfl rfl (Ai rfl hd) Ad rfl rfl <| QR.qs rfl rfl (Ai rfl hd) Ad rfl rfl <| QR.qs rfl rfl (Ai rfl hd) Ad rfl rfl <| QR.qs rfl rfl (Ai rfl hd) Ad rfl rfl <| QR.qt rfl rfl rfl rfl rfl <| QR.qt rfl rfl rfl rfl rfl <| QR.qt rfl rfl rfl rfl rfl <| QR.qt rfl rfl rfl rfl rfl <| QR.qt rfl rfl rfl rfl rfl <| QR.qt rfl rfl rfl rfl rfl <| QR.qt rfl rfl rfl rfl rfl <| QR.qt rfl rfl rfl rfl rfl <| QR.qt rfl rfl rfl rfl rfl <| QR.qt rfl rfl rfl rfl rfl <| QR.qs rfl rfl (Ai rfl hd) Ad rfl rfl <| QR.qo (fun _ hC => Bk (AXr rfl hd) rfl) rfl <| Bb) fun wk _ sm F => ?_
  cases H
  exact ge 3 F rfl fun _ F => ⟨_, rfl, F.sb, sm⟩
 intro _ wl hJ
 obtain ⟨p1, rfl, F, sn⟩ := hJ
 have H := R1
 clear R1 H1
 try dsimp only at H
 obtain ⟨x9, hw, H⟩ := Aa H
 refine ge 3 F rfl fun _ F => gld F sn m5 0 rfl fun _ F => gld F sn m3 0 rfl fun _ F => std F (Bfp (a0 := (⟨a0.Classes, a0.Akq, a0.Fn⟩ : Adb)) (hr0_0.Ajq sn) (hr0_1.Ajq sn) hw) fun v5 wm _ hx F => ?_
 obtain ⟨_, rfl, hy⟩ := hx
 have so := sn.add hy
 obtain ⟨o3, H2, R2⟩ := Aa H
 clear H
 refine gw 4 F rfl fun _ F => At9 (fun a w_ => ∃ p2 : (List UInt8), o3 = .inr (p2) ∧ ∃ v6 : Value, Fr a 175 [(4, jP g32), (5, jP g1), (6, jP g2), (8, jP g64), (9, v0), (11, v1), (15, v6)] ∧ SL w [] w_ [Mx Ty.u8 w [] v0 x0, Blk g64 118 jZ, Blk g2 118 jZ, Blk g1 79 [jI a2.At, jU (a2.Op.toNat : Int), jI a2.A, jI a2.B], Blk g32 118 (jI a1.Locals :: jI a1.Height :: ev8 a1.Slots), Sl Ty.u8 v1 p0, Sl Ty.u8 v6 p2]) ?_ ?_
 ·have H := H2
  refine gc 3 F rfl fun _ F => gld F so m4 9 rfl fun _ F => gif F H 4 6 rfl rfl rfl (fun hz H _ F => ?_) (fun hz H _ F => ?_)
  ·obtain ⟨xa, h10, H⟩ := Aa H
   refine gld F so m4 1 rfl fun _ F => gx F (AO6 ANo h10 rfl rfl) 0 rfl rfl fun _ F => gx F (Ao Aw9 rfl (SL.AT9 (pre := [jI a1.Locals, jI a1.Height]) so m5 rfl h10)) 3 rfl rfl fun _ F => gif F H 2 4 rfl rfl rfl (fun h11 H _ F => ?_) (fun h11 H _ F => ?_)
   ·refine gla F so m2 0 rfl fun _ F => ?_
    refine Akj (ds := jZ) F so.f3 rfl rfl (by simpa using Amy) (Ab rfl (Ab rfl (Ape _))) (by simp) fun wn _ F sp => ?_
    cases H
    replace H := R2
    try dsimp only at H
    cases H
    refine gw 8 F rfl fun _ F => ?_
    refine Aj (rs := [.cell 6 118, .tmp 7]) (vs := [.agg ⟨jZ⟩, jI 70]) F (by rfl) ⟨_, _, rfl, Am sp m0 rfl Aoi (by simp), _, _, rfl, An rfl, rfl⟩ ⟨_, rfl, ⟨rfl, sp.drop.drop.drop.drop.drop.drop.drop.drop⟩⟩
   obtain ⟨xb, h12, H⟩ := Aa H
   refine gld F so m4 1 rfl fun _ F => gx F (AO6 ANo h12 rfl rfl) 0 rfl rfl fun _ F => gx F (Ao Aw9 rfl (SL.AT9 (pre := [jI a1.Locals, jI a1.Height]) so m5 rfl h12)) 0 rfl rfl fun _ F => ?_
   refine Ae (parts := [(0, .tmp 106)]) Flat.u8 ([xb] : List UInt8) F so Aqg rfl (by decide) rfl rfl rfl (by simp [Value.cells]) rfl rfl rfl fun v7 wo _ F sq => ?_
   cases H
   exact gw 3 F rfl fun _ F => ⟨_, rfl, v7, F.sb, sq.f1.drop.f6.drop.f6.f6.f6.f6.f6.f6⟩
  refine gif F H 0 6 rfl rfl rfl (fun h13 H _ F => ?_) (fun h13 H _ F => ?_)
  ·obtain ⟨xc, h14, H⟩ := Aa H
   obtain ⟨xd, h15, H⟩ := Aa H
   refine AJp Aq8 so ?_
   obtain ⟨a8, h16, h17⟩ := ASr Flat.u8 (fun _ hC => (hC.A59 m7)) so.drew Aqg rfl h14
   obtain ⟨a9, h18, h19⟩ := ASr Flat.u8 (fun _ hC => (hC.A59 m7)) so.drew Aqg rfl h15
   refine hq [0, 1, 2, 3, 4, 5] F so.drew (QI.ev 1 rfl <| QI.ix h16 rfl <| QI.op rfl (fun _ hC => Ao Aw9 rfl (Aqa.at_ (h17 _ hC) (o := 0) rfl)) rfl <| QI.ev 1 rfl <| QI.ix h18 rfl <| QI.op rfl (fun _ hC => Ao Aw9 rfl (Aqa.at_ (h19 _ hC) (o := 0) rfl)) rfl <| QI.nil) (by kernel_rfl) fun _ F => ?_
   refine ho 6 rfl (by kernel_rfl) ?_
   refine Ae (parts := [(0, .tmp 112), (1, .tmp 115)]) Flat.u8 ([xc, xd] : List UInt8) F so.drew Aqg rfl (by decide) rfl rfl rfl (by simp [Value.cells]) rfl rfl rfl fun v8 wp _ F sr => ?_
   refine gw 1 F rfl fun _ F => ⟨sr.drop, ?_⟩
   refine hq [7] F sr.drop (QI.ev 1 rfl <| QI.nil) (by kernel_rfl) fun _ F => ?_
   refine ANu (by kernel_rfl) ?_
   cases H
   exact ge 1 F rfl fun _ F => ⟨_, rfl, v8, F.sb, sr.f1.drop.f6.drop.f6.f6.f6.f6.f6.f6⟩
  refine gif F H 0 2 rfl rfl rfl (fun h1a H _ F => ?_) (fun h1a H _ F => ?_)
  ·obtain ⟨xe, h1b, H⟩ := Aa H
   obtain ⟨xf, h1c, H⟩ := Aa H
   refine AJp Aq8 so ?_
   obtain ⟨aa, h1d, h1e⟩ := ASr Flat.u8 (fun _ hC => (hC.A59 m7)) so.drew Aqg rfl h1b
   obtain ⟨ab, h1f, h1g⟩ := ASr Flat.u8 (fun _ hC => (hC.A59 m7)) so.drew Aqg rfl h1c
   refine hq [0, 1, 2, 3, 4, 5] F so.drew (QI.ev 1 rfl <| QI.ix h1d rfl <| QI.op rfl (fun _ hC => Ao Aw9 rfl (Aqa.at_ (h1e _ hC) (o := 0) rfl)) rfl <| QI.ev 1 rfl <| QI.ix h1f rfl <| QI.op rfl (fun _ hC => Ao Aw9 rfl (Aqa.at_ (h1g _ hC) (o := 0) rfl)) rfl <| QI.nil) (by kernel_rfl) fun _ F => ?_
   refine ho 6 rfl (by kernel_rfl) ?_
   refine Ae (parts := [(0, .tmp 121), (1, .tmp 124)]) Flat.u8 ([xe, xf] : List UInt8) F so.drew Aqg rfl (by decide) rfl rfl rfl (by simp [Value.cells]) rfl rfl rfl fun v9 wq _ F ss => ?_
   refine gw 1 F rfl fun _ F => ⟨ss.drop, ?_⟩
   refine hq [7] F ss.drop (QI.ev 1 rfl <| QI.nil) (by kernel_rfl) fun _ F => ?_
   refine ANu (by kernel_rfl) ?_
   cases H
   exact ge 1 F rfl fun _ F => ⟨_, rfl, v9, F.sb, ss.f1.drop.f6.drop.f6.f6.f6.f6.f6.f6⟩
  cases H
  exact ⟨_, rfl, v5, F.sb, so.f6.drop.f6.f6.f6.f6.f6.f6⟩
 intro _ ws hJ
 obtain ⟨p2, rfl, v6, F, st⟩ := hJ
 have H := R2
 clear R2 H2
 try dsimp only at H
 refine ge 5 F rfl fun _ F => ?_
 obtain ⟨o4, H3, R3⟩ := Aa H
 clear H
 refine gx F (Ak rfl underlying47 (AVo (st.Bmk m0))) 3 rfl rfl fun _ F => At9 (fun a w_ => Fr a 175 [(4, jP g32), (5, jP g1), (6, jP g2), (8, jP g64), (11, v1), (15, v6)] ∧ SL w [] w_ [Blk g64 118 jZ, Blk g2 118 jZ, Blk g1 79 [jI a2.At, jU (a2.Op.toNat : Int), jI a2.A, jI a2.B], Blk g32 118 (jI o4.1 :: jI o4.2.1 :: ev8 o4.2.2), Sl Ty.u8 v1 p0, Sl Ty.u8 v6 p2]) ?_ ?_
 ·have H := H3
  refine gc 1 F rfl fun _ F => lpk (AQu x0) (fun su a w_ => Fr a 175 [(4, jP g32), (5, jP g1), (6, jP g2), (8, jP g64), (11, v1), (15, v6), (127, jI (x0.length : Int)), (128, jI su.2.2.2)] ∧ SL w [] w_ [Blk g64 118 jZ, Blk g2 118 jZ, Blk g1 79 [jI a2.At, jU (a2.Op.toNat : Int), jI a2.A, jI a2.B], Blk g32 118 (jI su.1 :: jI su.2.1 :: ev8 su.2.2.1), Sl Ty.u8 v1 p0, Sl Ty.u8 v6 p2]) H ?_ ?_
  ·exact ⟨F.sb, st.drop⟩
  intro su _ wt h1h o5 H hr
  obtain ⟨F, sv⟩ := h1h
  replace H : AQu x0 su = some o5 := H
  unfold AQu at H
  refine gc 6 F rfl fun _ F => gif F H 5 4 rfl rfl rfl (fun h1i H _ F => ?_) (fun h1i H _ F => ?_)
  ·obtain ⟨xg, h1j, H⟩ := Aa H
   refine gla F sv m3 0 rfl fun _ F => gca F sv (Bij h1j) 4 rfl rfl rfl rfl fun wu _ F sw => ?_
   refine Akj (ds := (jI xg.1.Locals :: jI xg.1.Height :: ev8 xg.1.Slots)) F sw.f3 rfl rfl (by simpa using Amy) (Ab rfl (Ab rfl (Ape _))) (by simp) fun wv _ F sx => ?_
   cases H
   exact gw 7 F rfl fun _ F => ⟨_, rfl, F.sb, sx.f5.f5.f2.f5.f5.f5⟩
  cases H
  obtain rfl := hr _ rfl
  exact ⟨F.sb, sv⟩
 intro _ ww hJ
 obtain ⟨F, sy⟩ := hJ
 have H := R3
 clear R3 H3
 obtain ⟨o6, H4, R4⟩ := Aa H
 clear H
 refine ge 2 F rfl fun _ F => At9 (fun a w_ => ∃ p3 : Unit, o6 = .inr (p3) ∧ Fr a 175 [(4, jP g32), (5, jP g1), (6, jP g2), (8, jP g64), (11, v1), (15, v6)] ∧ SL w [] w_ [Blk g64 118 jZ, Blk g2 118 jZ, Blk g1 79 [jI a2.At, jU (a2.Op.toNat : Int), jI a2.A, jI a2.B], Blk g32 118 (jI o4.1 :: jI o4.2.1 :: ev8 o4.2.2), Sl Ty.u8 v1 p0, Sl Ty.u8 v6 p2]) ?_ ?_
 ·have H := H4
  refine gc 3 F rfl fun _ F => gld F sy m2 2 rfl fun _ F => bsp 140 F H (fun h1k H F => ?_) (fun h1k H F => ?_)
  ·refine gw 1 F rfl fun _ F => Afv F rfl rfl <| gld F sy m3 4 rfl fun _ F => gif F H 2 1 rfl rfl rfl (fun h1l H _ F => ?_) (fun h1l H _ F => ?_)
   ·refine gla F sy m0 0 rfl fun _ F => ?_
    refine Akj (ds := jZ) F sy.f1 rfl rfl (by simpa using Amy) (Ab rfl (Ab rfl (Ape _))) (by simp) fun wx _ F sz => ?_
    cases H
    replace H := R4
    try dsimp only at H
    cases H
    refine gw 6 F rfl fun _ F => ?_
    refine Aj (rs := [.cell 6 118, .tmp 7]) (vs := [.agg ⟨jZ⟩, jI 73]) F (by rfl) ⟨_, _, rfl, Am sz m0 rfl Aoi (by simp), _, _, rfl, An rfl, rfl⟩ ⟨_, rfl, ⟨rfl, sz.drop.drop.drop.drop.drop.drop⟩⟩
   cases H
   exact ⟨_, rfl, F.sb, sy⟩
  cases H
  exact gw 8 F rfl fun _ F => ⟨_, rfl, F.sb, sy⟩
 intro _ wy hJ
 obtain ⟨p3, rfl, F, s10⟩ := hJ
 have H := R4
 clear R4 H4
 try dsimp only at H
 obtain ⟨o7, H5, R5⟩ := Aa H
 clear H
 refine ge 2 F rfl fun _ F => At9 (fun a w_ => Fr a 175 [(4, jP g32), (6, jP g2), (8, jP g64), (15, v6)] ∧ SL w [] w_ [Blk g32 118 (jI o4.1 :: jI o4.2.1 :: ev8 o7), Blk g64 118 jZ, Blk g2 118 jZ, Sl Ty.u8 v6 p2]) ?_ ?_
 ·have H := H5
  refine gc 3 F rfl fun _ F => gld F s10 m2 3 rfl fun _ F => gif F H 0 1 rfl rfl rfl (fun h1m H _ F => ?_) (fun h1m H _ F => ?_)
  ·obtain ⟨xh, h1n, H⟩ := Aa H
   obtain ⟨xi, h1o, H⟩ := Aa H
   refine AJp Aq8 s10.f3.drop ?_
   obtain ⟨ac, h1p, h1q⟩ := ASr Flat.u8 (fun _ hC => (hC.A59 m3)) s10.drew.f3.drop Aqg rfl h1n
   refine hq [0, 1, 2, 3, 4, 5] F s10.drew.f3.drop (QI.ev 1 rfl <| QI.ld m2 rfl <| QI.ev 1 rfl <| QI.ix h1p rfl <| QI.op rfl (fun _ hC => Ao Aw9 rfl (Aqa.at_ (h1q _ hC) (o := 0) rfl)) rfl <| QI.ev 1 rfl <| QI.nil) (by kernel_rfl) fun _ F => ?_
   refine ho 6 rfl (by kernel_rfl) ?_
   refine gx F (AO6 ANo h1o rfl rfl) 1 rfl rfl fun _ F => ⟨s10.drew.f3.drop, ?_⟩
   refine ho 7 rfl (by kernel_rfl) ?_
   refine AVw (y' := xh) (pre := [jI o4.1, jI o4.2.1]) F s10.drew.f3 rfl h1o rfl rfl AWk fun wz _ F s11 => gw 1 F rfl fun _ F => ⟨s11.drop, ?_⟩
   refine ANu (by kernel_rfl) ?_
   cases H
   exact ⟨F.sb, s11.f3.drop.f3.drop⟩
  cases H
  exact ⟨F.sb, s10.f2.drop.f3.drop.f3.f2.f2.f3⟩
 intro _ w10 hJ
 obtain ⟨F, s12⟩ := hJ
 have H := R5
 clear R5 H5
 refine ge 5 F rfl fun _ F => ?_
 obtain ⟨o8, H6, R6⟩ := Aa H
 clear H
 refine gx F (Ak rfl underlying47 (fO s12 m3)) 3 rfl rfl fun _ F => At9 (fun a w_ => ∃ p4 : Int × Int × (Vector UInt8 24), o8 = .inr (p4) ∧ Fr a 175 [(4, jP g32), (6, jP g2)] ∧ SL w [] w_ [Blk g32 118 (jI p4.1 :: jI p4.2.1 :: ev8 p4.2.2), Blk g2 118 jZ]) ?_ ?_
 ·have H := H6
  refine gc 1 F rfl fun _ F => lpk (AOp p2) (fun s13 a w_ => Fr a 175 [(4, jP g32), (6, jP g2), (8, jP g64), (156, v6), (157, jI (p2.length : Int)), (158, jI s13.2.2.2)] ∧ SL w [] w_ [Blk g32 118 (jI s13.1 :: jI s13.2.1 :: ev8 s13.2.2.1), Blk g64 118 jZ, Blk g2 118 jZ, Sl Ty.u8 v6 p2]) H ?_ ?_
  ·exact ⟨F.sb, s12⟩
  intro s13 _ w11 h1r o9 H hr
  obtain ⟨F, s14⟩ := h1r
  replace H : AOp p2 s13 = some o9 := H
  unfold AOp at H
  refine gc 6 F rfl fun _ F => gif F H 6 4 rfl rfl rfl (fun h1s H _ F => ?_) (fun h1s H _ F => ?_)
  ·obtain ⟨xj, h1t, H⟩ := Aa H
   obtain ⟨ad, h1u, h1v⟩ := Ax Flat.u8 s14 m3 Aqg rfl h1t
   refine gi F h1u 0 rfl fun _ F => ?_
   obtain ⟨xk, h1w, H⟩ := Aa H
   refine gx F (Ao Aw9 rfl (Aqa.at_ (SL.AN4 Flat.u8 s14 m3 h1v h1t) (o := 0) rfl)) 5 rfl rfl fun _ F => gla F s14 m0 1 rfl fun _ F => gca F s14 (Bgx h1w) 3 rfl rfl rfl rfl fun w12 _ F s15 => Af F s15 Ajp rfl rfl fun g3 w13 _ F s16 => ?_
   refine Akj (ds := (jI xk.1.Locals :: jI xk.1.Height :: ev8 xk.1.Slots)) F s16 rfl rfl (by simpa using Amy) (Ab rfl (Ab rfl (Ape _))) (by simp) fun w14 _ F s17 => ?_
   refine gw 10 F rfl fun _ F => gif F H 2 3 rfl rfl rfl (fun h1x H _ F => ?_) (fun h1x H _ F => ?_)
   ·refine gla F s17 m2 1 rfl fun _ F => ?_
    refine Akj (ds := jZ) F s17.f3 rfl rfl (by simpa using Amy) (Ab rfl (Ab rfl (Ape _))) (by simp) fun w15 _ F s18 => ?_
    cases H
    obtain rfl := hr _ rfl
    replace H := R6
    try dsimp only at H
    cases H
    refine gw 11 F rfl fun _ F => ?_
    refine Aj (rs := [.cell 6 118, .tmp 7]) (vs := [.agg ⟨jZ⟩, jI xk.2]) F (by rfl) ⟨_, _, rfl, Am s18 m0 rfl Aoi (by simp), _, _, rfl, An rfl, rfl⟩ ⟨_, rfl, ⟨rfl, s18.drop.drop.drop.drop.drop⟩⟩
   refine gla F s17 m0 0 rfl fun _ F => ?_
   refine Akj (ds := (jI xk.1.Locals :: jI xk.1.Height :: ev8 xk.1.Slots)) F s17.f1 rfl rfl (by simpa using Amy) (Ab rfl (Ab rfl (Ape _))) (by simp) fun w16 _ F s19 => ?_
   cases H
   exact gw 7 F rfl fun _ F => ⟨_, rfl, F.sb, s19.f1.drop⟩
  cases H
  obtain rfl := hr _ rfl
  exact ⟨_, rfl, F.sb, s14.f1.drop.f2.drop⟩
 intro _ w17 hJ
 obtain ⟨p4, rfl, F, s1a⟩ := hJ
 have H := R6
 clear R6 H6
 try dsimp only at H
 refine ge 3 F rfl fun _ F => gla F s1a m0 0 rfl fun _ F => ?_
 refine Akj (ds := (jI p4.1 :: jI p4.2.1 :: ev8 p4.2.2)) F s1a.f1 rfl rfl (by simpa using Amy) (Ab rfl (Ab rfl (Ape _))) (by simp) fun w18 _ F s1b => ?_
 cases H
 refine gw 4 F rfl fun _ F => ?_
 refine Aj (rs := [.cell 6 118, .tmp 7]) (vs := [.agg ⟨(jI p4.1 :: jI p4.2.1 :: ev8 p4.2.2)⟩, jI 0]) F (by rfl) ⟨_, _, rfl, Am s1b m0 rfl Aoi (by simp), _, _, rfl, An rfl, rfl⟩ ⟨_, rfl, ⟨rfl, s1b.drop.drop⟩⟩
theorem Bbh {w : World} {a0 : UInt8} {r : Int × Int} (H : AQk a0 = some r) :
    Calls prog 85 #[jU (a0.toNat : Int)] w (Ret fun u_ w_ => u_ = .tuple ⟨[jI r.1, jI r.2]⟩ ∧ SL w [] w_ []) := by
 have s0 : SL w [] w [] := SL.Aq9 w
 refine cin func85 ntmps85 19 rfl rfl rfl fun _ F => ?_
 unfold AQk at H
 refine gif F H 9 1 rfl rfl rfl (fun h0 H _ F => ?_) (fun h0 H _ F => ?_)
 ·cases H
  exact rt F ⟨rfl, s0⟩
 obtain ⟨o0, H0, R0⟩ := Aa H
 clear H
 refine At9 (fun a w_ => Fr a 22 [(4, jU (a0.toNat : Int)), (7, .bool o0)] ∧ SL w [] w_ []) ?_ ?_
 ·have H := H0
  refine gc 6 F rfl fun _ F => gif F H 1 4 rfl rfl rfl (fun h1 H _ F => ?_) (fun h1 H _ F => ?_)
  ·cases H
   exact ⟨F.sb, s0⟩
  cases H
  exact ⟨F.sb, s0⟩
 intro _ w0 hJ
 obtain ⟨F, s1⟩ := hJ
 have H := R0
 clear R0 H0
 refine ge 1 F rfl fun _ F => gif F H 9 1 rfl rfl rfl (fun h2 H _ F => ?_) (fun h2 H _ F => ?_)
 ·cases H
  exact rt F ⟨rfl, s1⟩
 obtain ⟨o1, H1, R1⟩ := Aa H
 clear H
 refine At9 (fun a w_ => Fr a 22 [(4, jU (a0.toNat : Int)), (10, .bool o1)] ∧ SL w [] w_ []) ?_ ?_
 ·have H := H1
  refine gc 6 F rfl fun _ F => gif F H 1 4 rfl rfl rfl (fun h3 H _ F => ?_) (fun h3 H _ F => ?_)
  ·cases H
   exact ⟨F.sb, s1⟩
  cases H
  exact ⟨F.sb, s1⟩
 intro _ w1 hJ
 obtain ⟨F, s2⟩ := hJ
 have H := R1
 clear R1 H1
 refine ge 1 F rfl fun _ F => gif F H 9 1 rfl rfl rfl (fun h4 H _ F => ?_) (fun h4 H _ F => ?_)
 ·cases H
  exact rt F ⟨rfl, s2⟩
 obtain ⟨o2, H2, R2⟩ := Aa H
 clear H
 refine At9 (fun a w_ => Fr a 22 [(13, .bool o2)] ∧ SL w [] w_ []) ?_ ?_
 ·have H := H2
  refine gc 6 F rfl fun _ F => gif F H 1 6 rfl rfl rfl (fun h5 H _ F => ?_) (fun h5 H _ F => ?_)
  ·cases H
   exact ⟨F.sb, s2⟩
  refine gif F H 1 6 rfl rfl rfl (fun h6 H _ F => ?_) (fun h6 H _ F => ?_)
  ·cases H
   exact ⟨F.sb, s2⟩
  refine gif F H 1 6 rfl rfl rfl (fun h7 H _ F => ?_) (fun h7 H _ F => ?_)
  ·cases H
   exact ⟨F.sb, s2⟩
  refine gif F H 1 6 rfl rfl rfl (fun h8 H _ F => ?_) (fun h8 H _ F => ?_)
  ·cases H
   exact ⟨F.sb, s2⟩
  refine gif F H 1 6 rfl rfl rfl (fun h9 H _ F => ?_) (fun h9 H _ F => ?_)
  ·cases H
   exact ⟨F.sb, s2⟩
  refine gif F H 1 6 rfl rfl rfl (fun ha H _ F => ?_) (fun ha H _ F => ?_)
  ·cases H
   exact ⟨F.sb, s2⟩
  refine gif F H 1 4 rfl rfl rfl (fun hb H _ F => ?_) (fun hb H _ F => ?_)
  ·cases H
   exact ⟨F.sb, s2⟩
  cases H
  exact ⟨F.sb, s2⟩
 intro _ w2 hJ
 obtain ⟨F, s3⟩ := hJ
 have H := R2
 clear R2 H2
 refine ge 1 F rfl fun _ F => gif F H 9 10 rfl rfl rfl (fun hc H _ F => ?_) (fun hc H _ F => ?_)
 ·cases H
  exact rt F ⟨rfl, s3⟩
 cases H
 exact rt F ⟨rfl, s3⟩
theorem AVf {w : World} {a0 : UInt8} {r : Int} (H : AOs a0 = some r) :
    Calls prog 84 #[jU (a0.toNat : Int)] w (Ret fun u_ w_ => u_ = jI r ∧ SL w [] w_ []) := by
 have s0 : SL w [] w [] := SL.Aq9 w
 refine cin func84 ntmps84 12 rfl rfl rfl fun _ F => ?_
 unfold AOs at H
 refine gif F H 7 5 rfl rfl rfl (fun h0 H _ F => ?_) (fun h0 H _ F => ?_)
 ·cases H
  exact rt F ⟨rfl, s0⟩
 obtain ⟨x0, h1, H⟩ := Aa H
 refine gca F s0 (Bbh h1) 17 rfl rfl rfl rfl fun w0 _ F s1 => ?_
 cases H
 exact rt F ⟨rfl, s1⟩
theorem Bau {w : World} {v0_0 v0_1 : Value} {a0 : Adb} {a1 : Aas} {a2 : Ads} {r : Aas × Int} (hr0_0 : Rd Aef w [] v0_0 a0.Classes) (hr0_1 : Rd Ate w [] v0_1 a0.Akq) (H : ATj a0 a1 a2 = some r) :
    Calls prog 124 #[.agg ⟨[v0_0, v0_1, jI a0.Fn]⟩, .agg ⟨(jI a1.Locals :: jI a1.Height :: ev8 a1.Slots)⟩, .agg ⟨[jI a2.At, jU (a2.Op.toNat : Int), jI a2.A, jI a2.B]⟩] w (Ret fun u_ w_ => u_ = .tuple ⟨[.agg ⟨(jI r.1.Locals :: jI r.1.Height :: ev8 r.1.Slots)⟩, jI r.2]⟩ ∧ SL w [] w_ []) := by
 have s0 : SL w [] w [] := SL.Aq9 w
 refine cin func124 ntmps124 2 rfl rfl rfl fun _ F0 => ?_
 unfold ATj at H
 refine Ar F0 s0 rfl rfl rfl fun g0 w0 _ F s1 => Ar F s1 rfl rfl rfl fun g32 w1 _ F s2 => Ar F s2 rfl rfl rfl fun g1 w2 _ F s3 => Af F s3 Ajp rfl rfl fun g2 w3 _ F s4 => gw 5 F rfl fun _ F => gx F (Al (vs := []) Ajp ACi rfl (cs := jZ) (Ayf)) 0 rfl rfl fun _ F => Af F s4 Ajp rfl rfl fun g64 w4 _ F s5 => ?_
 refine Akj (ds := jZ) F s5 rfl rfl (by simpa using Amy) (Ab rfl (Ab rfl (Ape _))) (by simp) fun w5 _ F s6 => ?_
 obtain ⟨x0, h0, H⟩ := Aa H
 refine gw 5 F rfl fun _ F => gld F s6 m4 0 rfl fun _ F => gca F s6 (Bhx (a0 := (⟨a0.Classes, a0.Akq, a0.Fn⟩ : Adb)) (hr0_0.Ajq s6) (hr0_1.Ajq s6) h0) 3 rfl rfl rfl rfl fun w6 _ F s7 => gif F H 2 6 rfl rfl rfl (fun h1 H _ F => ?_) (fun h1 H _ F => ?_)
 ·refine gla F s7 m0 0 rfl fun _ F => ?_
  refine Akj (ds := jZ) F s7.f1 rfl rfl (by simpa using Amy) (Ab rfl (Ab rfl (Ape _))) (by simp) fun w7 _ F s8 => ?_
  cases H
  refine gw 5 F rfl fun _ F => ?_
  refine Aj (rs := [.cell 6 118, .tmp 7]) (vs := [.agg ⟨jZ⟩, jI 1]) F (by rfl) ⟨_, _, rfl, Am s8 m0 rfl Aoi (by simp), _, _, rfl, An rfl, rfl⟩ ⟨_, rfl, ⟨rfl, s8.drop.drop.drop.drop.drop⟩⟩
 obtain ⟨x1, h2, H⟩ := Aa H
 refine gld F s7 m4 0 rfl fun _ F => gla F s7 m3 0 rfl fun _ F => gca F s7 (AW4 (hr0_0.Ajq s7) h2) 9 rfl rfl rfl rfl fun w8 _ F s9 => gif F H 2 6 rfl rfl rfl (fun h3 H _ F => ?_) (fun h3 H _ F => ?_)
 ·refine gla F s9 m0 1 rfl fun _ F => ?_
  refine Akj (ds := jZ) F s9.f1 rfl rfl (by simpa using Amy) (Ab rfl (Ab rfl (Ape _))) (by simp) fun w9 _ F sa => ?_
  cases H
  refine gw 5 F rfl fun _ F => ?_
  refine Aj (rs := [.cell 6 118, .tmp 7]) (vs := [.agg ⟨jZ⟩, jI x1]) F (by rfl) ⟨_, _, rfl, Am sa m0 rfl Aoi (by simp), _, _, rfl, An rfl, rfl⟩ ⟨_, rfl, ⟨rfl, sa.drop.drop.drop.drop.drop⟩⟩
 obtain ⟨x2, h4, H⟩ := Aa H
 refine gld F s9 m2 0 rfl fun _ F => gca F s9 (AVf h4) 3 rfl rfl rfl rfl fun wa _ F sc => gif F H 2 3 rfl rfl rfl (fun h5 H _ F => ?_) (fun h5 H _ F => ?_)
 ·refine gla F sc m0 0 rfl fun _ F => ?_
  refine Akj (ds := jZ) F sc.f1 rfl rfl (by simpa using Amy) (Ab rfl (Ab rfl (Ape _))) (by simp) fun wb _ F sd => ?_
  cases H
  refine gw 5 F rfl fun _ F => ?_
  refine Aj (rs := [.cell 6 118, .tmp 7]) (vs := [.agg ⟨jZ⟩, jI 40]) F (by rfl) ⟨_, _, rfl, Am sd m0 rfl Aoi (by simp), _, _, rfl, An rfl, rfl⟩ ⟨_, rfl, ⟨rfl, sd.drop.drop.drop.drop.drop⟩⟩
 obtain ⟨o0, H0, R0⟩ := Aa H
 clear H
 refine At9 (fun a w_ => Fr a 65 [(3, jP g0), (4, jP g32), (5, jP g1), (6, jP g2), (8, jP g64), (10, .bool o0)] ∧ SL w [] w_ [Blk g64 118 jZ, Blk g2 118 jZ, Blk g1 79 [jI a2.At, jU (a2.Op.toNat : Int), jI a2.A, jI a2.B], Blk g32 118 (jI a1.Locals :: jI a1.Height :: ev8 a1.Slots), Blk g0 110 [v0_0, v0_1, jI a0.Fn]]) ?_ ?_
 ·have H := H0
  refine gc 2 F rfl fun _ F => gld F sc m2 2 rfl fun _ F => bsp 33 F H (fun h6 H F => ?_) (fun h6 H F => ?_)
  ·cases H
   exact gw 6 F rfl fun _ F => ⟨F.sb, sc⟩
  refine gw 1 F rfl fun _ F => Afv F rfl rfl ?_
  cases H
  exact gld F sc m2 4 rfl fun _ F => ⟨F.sb, sc⟩
 intro _ wc hJ
 obtain ⟨F, se⟩ := hJ
 have H := R0
 clear R0 H0
 refine ge 6 F rfl fun _ F => bsp 39 F H (fun h7 H F => ?_) (fun h7 H F => ?_)
 ·refine gw 1 F rfl fun _ F => Afv F rfl rfl <| gld F se m2 2 rfl fun _ F => bsp 43 F H (fun h8 H F => ?_) (fun h8 H F => ?_)
  ·refine gw 12 F rfl fun _ F => gla F se m0 0 rfl fun _ F => ?_
   refine Akj (ds := jZ) F se.f1 rfl rfl (by simpa using Amy) (Ab rfl (Ab rfl (Ape _))) (by simp) fun wd _ F sf => ?_
   cases H
   refine gw 5 F rfl fun _ F => ?_
   refine Aj (rs := [.cell 6 118, .tmp 7]) (vs := [.agg ⟨jZ⟩, jI 33]) F (by rfl) ⟨_, _, rfl, Am sf m0 rfl Aoi (by simp), _, _, rfl, An rfl, rfl⟩ ⟨_, rfl, ⟨rfl, sf.drop.drop.drop.drop.drop⟩⟩
  refine gw 1 F rfl fun _ F => Afv F rfl rfl <| gld F se m2 1 rfl fun _ F => Afv F rfl rfl <| gld F se m3 5 rfl fun _ F => gif F H 2 5 rfl rfl rfl (fun h9 H _ F => ?_) (fun h9 H _ F => ?_)
  ·refine gla F se m0 0 rfl fun _ F => ?_
   refine Akj (ds := jZ) F se.f1 rfl rfl (by simpa using Amy) (Ab rfl (Ab rfl (Ape _))) (by simp) fun we _ F sg => ?_
   cases H
   refine gw 5 F rfl fun _ F => ?_
   refine Aj (rs := [.cell 6 118, .tmp 7]) (vs := [.agg ⟨jZ⟩, jI 33]) F (by rfl) ⟨_, _, rfl, Am sg m0 rfl Aoi (by simp), _, _, rfl, An rfl, rfl⟩ ⟨_, rfl, ⟨rfl, sg.drop.drop.drop.drop.drop⟩⟩
  obtain ⟨x3, ha, H⟩ := Aa H
  refine gld F se m4 0 rfl fun _ F => gld F se m2 0 rfl fun _ F => gca F se (AZd (a0 := (⟨a0.Classes, a0.Akq, a0.Fn⟩ : Adb)) (hr0_0.Ajq se) (hr0_1.Ajq se) ha) 9 rfl rfl rfl rfl fun wf _ F sh => gif F H 2 4 rfl rfl rfl (fun hb H _ F => ?_) (fun hb H _ F => ?_)
  ·refine gla F sh m0 1 rfl fun _ F => ?_
   refine Akj (ds := jZ) F sh.f1 rfl rfl (by simpa using Amy) (Ab rfl (Ab rfl (Ape _))) (by simp) fun wg _ F si => ?_
   cases H
   refine gw 5 F rfl fun _ F => ?_
   refine Aj (rs := [.cell 6 118, .tmp 7]) (vs := [.agg ⟨jZ⟩, jI x3]) F (by rfl) ⟨_, _, rfl, Am si m0 rfl Aoi (by simp), _, _, rfl, An rfl, rfl⟩ ⟨_, rfl, ⟨rfl, si.drop.drop.drop.drop.drop⟩⟩
  obtain ⟨x4, hc, H⟩ := Aa H
  refine gld F sh m4 0 rfl fun _ F => gla F sh m3 0 rfl fun _ F => gld F sh m2 0 rfl fun _ F => gca F sh (Bax (a0 := (⟨a0.Classes, a0.Akq, a0.Fn⟩ : Adb)) (hr0_0.Ajq sh) (hr0_1.Ajq sh) hc) 2 rfl rfl rfl rfl fun wh _ F sj => ?_
  refine Akj (ds := (jI x4.1.Locals :: jI x4.1.Height :: ev8 x4.1.Slots)) F sj.f1 rfl rfl (by simpa using Amy) (Ab rfl (Ab rfl (Ape _))) (by simp) fun wi _ F sk => ?_
  cases H
  refine gw 4 F rfl fun _ F => ?_
  refine Aj (rs := [.cell 6 118, .tmp 7]) (vs := [.agg ⟨(jI x4.1.Locals :: jI x4.1.Height :: ev8 x4.1.Slots)⟩, jI x4.2]) F (by rfl) ⟨_, _, rfl, Am sk m0 rfl Aoi (by simp), _, _, rfl, An rfl, rfl⟩ ⟨_, rfl, ⟨rfl, sk.drop.drop.drop.drop.drop⟩⟩
 obtain ⟨x5, hd, H⟩ := Aa H
 refine gw 19 F rfl fun _ F => gld F se m4 0 rfl fun _ F => gld F se m2 0 rfl fun _ F => gca F se (AZd (a0 := (⟨a0.Classes, a0.Akq, a0.Fn⟩ : Adb)) (hr0_0.Ajq se) (hr0_1.Ajq se) hd) 9 rfl rfl rfl rfl fun wj _ F sl => gif F H 2 4 rfl rfl rfl (fun he H _ F => ?_) (fun he H _ F => ?_)
 ·refine gla F sl m0 1 rfl fun _ F => ?_
  refine Akj (ds := jZ) F sl.f1 rfl rfl (by simpa using Amy) (Ab rfl (Ab rfl (Ape _))) (by simp) fun wk _ F sm => ?_
  cases H
  refine gw 5 F rfl fun _ F => ?_
  refine Aj (rs := [.cell 6 118, .tmp 7]) (vs := [.agg ⟨jZ⟩, jI x5]) F (by rfl) ⟨_, _, rfl, Am sm m0 rfl Aoi (by simp), _, _, rfl, An rfl, rfl⟩ ⟨_, rfl, ⟨rfl, sm.drop.drop.drop.drop.drop⟩⟩
 obtain ⟨x6, hf, H⟩ := Aa H
 refine gld F sl m4 0 rfl fun _ F => gla F sl m3 0 rfl fun _ F => gld F sl m2 0 rfl fun _ F => gca F sl (Bax (a0 := (⟨a0.Classes, a0.Akq, a0.Fn⟩ : Adb)) (hr0_0.Ajq sl) (hr0_1.Ajq sl) hf) 2 rfl rfl rfl rfl fun wl _ F sn => ?_
 refine Akj (ds := (jI x6.1.Locals :: jI x6.1.Height :: ev8 x6.1.Slots)) F sn.f1 rfl rfl (by simpa using Amy) (Ab rfl (Ab rfl (Ape _))) (by simp) fun wm _ F so => ?_
 cases H
 refine gw 4 F rfl fun _ F => ?_
 refine Aj (rs := [.cell 6 118, .tmp 7]) (vs := [.agg ⟨(jI x6.1.Locals :: jI x6.1.Height :: ev8 x6.1.Slots)⟩, jI x6.2]) F (by rfl) ⟨_, _, rfl, Am so m0 rfl Aoi (by simp), _, _, rfl, An rfl, rfl⟩ ⟨_, rfl, ⟨rfl, so.drop.drop.drop.drop.drop⟩⟩
theorem Bg5 {w : World} {v0 : Value} {a0 : List Abi} {r : (List UInt8)} (hr0 : Rd Aef w [] v0 a0) (H : AU4 a0 = some r) :
    Calls prog 199 #[v0] w (Ret fun u_ w_ => ∃ u0 : Value, u_ = u0 ∧ SL w [] w_ [Sl Ty.u8 u0 r]) := by
 have s0 : SL w [] w [] := SL.Aq9 w
 refine cin func199 ntmps199 16 rfl rfl rfl fun _ F => ?_
 unfold AU4 at H
 obtain ⟨o0, H0, R0⟩ := Aa H
 clear H
 refine At9 (fun a w_ => ∃ v1 : Value, Fr a 19 [(3, v1)] ∧ SL w [] w_ [Sl Ty.u8 v1 o0]) ?_ ?_
 ·have H := H0
  refine gc 1 F rfl fun _ F => lpk (AQr a0) (fun s1 a w_ => ∃ v2 : Value, Fr a 19 [(0, v0), (3, v2), (4, jI s1.2)] ∧ SL w [] w_ [Sl Ty.u8 v2 s1.1]) H ?_ ?_
  ·exact ⟨(.slice none 0 0), F.sb, (SL.Axc (T := Ty.u8) s0)⟩
  intro s1 _ w0 h0 o1 H hr
  obtain ⟨v2, F, s2⟩ := h0
  replace H : AQr a0 s1 = some o1 := H
  unfold AQr at H
  refine gc 7 F rfl fun _ F => gif F H 8 4 rfl rfl rfl (fun h1 H _ F => ?_) (fun h1 H _ F => ?_)
  ·obtain ⟨x0, h2, H⟩ := Aa H
   refine gx F (Bh2 rfl underlying3 underlying48) 0 rfl rfl fun _ F => gca F s2 (AP0 (hr0.Ajq s2) h2) 2 rfl rfl rfl rfl fun w1 _ F s3 => gif F H 3 8 rfl rfl rfl (fun h3 H _ F => ?_) (fun h3 H _ F => ?_)
   ·refine gx F (Bh2 rfl underlying3 underlying48) 0 rfl rfl fun _ F => ?_
    refine Ae (parts := [(0, .tmp 15)]) Flat.u8 ([AQt s1.2] : List UInt8) F s3 Aqg rfl (by decide) rfl rfl rfl (by simp [Value.cells]) rfl rfl rfl fun v3 w2 _ F s4 => ?_
    obtain ⟨x1, h4, H⟩ := Aa H
    obtain ⟨_, hr_⟩ := (s4.f1.A59 m1)
    refine Av Flat.u8 F s4.f1 Aqg rfl rfl rfl rfl hr_ rfl rfl h4 rfl fun v4 w3 _ F s5 => ?_
    have s2340' := s5.f1.drop
    cases H
    exact gw 9 F rfl fun _ F => ⟨_, rfl, v4, F.sb, s2340'⟩
   cases H
   exact ⟨_, rfl, v2, F.sb, s3⟩
  cases H
  obtain rfl := hr _ rfl
  exact ⟨v2, F.sb, s2⟩
 intro _ w4 hJ
 obtain ⟨v1, F, s6⟩ := hJ
 have H := R0
 clear R0 H0
 cases H
 exact ge 8 F rfl fun _ F => rt F ⟨v1, rfl, s6⟩
theorem Bfu {w : World} {v0 : Value} {a0 : List Abi} {a1 : UInt8} {a2 : UInt8} {r : UInt8} (hr0 : Rd Aef w [] v0 a0) (H : ATp a0 a1 a2 = some r) :
    Calls prog 177 #[v0, jU (a1.toNat : Int), jU (a2.toNat : Int)] w (Ret fun u_ w_ => u_ = jU (r.toNat : Int) ∧ SL w [] w_ []) := by
 have s0 : SL w [] w [] := SL.Aq9 w
 refine cin func177 ntmps177 13 rfl rfl rfl fun _ F => ?_
 unfold ATp at H
 obtain ⟨x0, h0, H⟩ := Aa H
 refine std F (Bg5 (hr0.Ajq s0) h0) fun v1 w0 _ h1 F => ?_
 obtain ⟨_, rfl, h2⟩ := h1
 have s1 := s0.add h2
 obtain ⟨o0, H0, R0⟩ := Aa H
 clear H
 refine gw 9 F rfl fun _ F => At9 (fun a w_ => Fr a 41 [(7, jU (o0.toNat : Int))] ∧ SL w [] w_ []) ?_ ?_
 ·have H := H0
  refine gc 1 F rfl fun _ F => lpk (APn a0 a1 a2 x0) (fun s2 a w_ => Fr a 41 [(0, v0), (1, jU (a1.toNat : Int)), (2, jU (a2.toNat : Int)), (7, jU (s2.1.toNat : Int)), (8, v1), (9, jI s2.2)] ∧ SL w [] w_ [Sl Ty.u8 v1 x0]) H ?_ ?_
  ·exact ⟨F.sb, s1⟩
  intro s2 _ w1 h3 o1 H hr
  obtain ⟨F, s3⟩ := h3
  replace H : APn a0 a1 a2 x0 s2 = some o1 := H
  unfold APn at H
  refine gc 5 F rfl fun _ F => gx F (Ak rfl underlying47 (fO s3 m0)) 3 rfl rfl fun _ F => gif F H 8 4 rfl rfl rfl (fun h4 H _ F => ?_) (fun h4 H _ F => ?_)
  ·obtain ⟨x1, h5, H⟩ := Aa H
   obtain ⟨a3, h6, h7⟩ := Ax Flat.u8 s3 m0 Aqg rfl h5
   refine gi F h6 0 rfl fun _ F => ?_
   obtain ⟨x2, h8, H⟩ := Aa H
   refine gx F (Ao Aw9 rfl (Aqa.at_ (SL.AN4 Flat.u8 s3 m0 h7 h5) (o := 0) rfl)) 8 rfl rfl fun _ F => gca F s3 (AVs (hr0.Ajq s3) h8) 1 rfl rfl rfl rfl fun w2 _ F s4 => bsp 27 F H (fun h9 H F => ?_) (fun h9 H F => ?_)
   ·obtain ⟨x3, ha, H⟩ := Aa H
    refine gw 3 F rfl fun _ F => Afv F rfl rfl <| gca F s4 (AVs (hr0.Ajq s4) ha) 2 rfl rfl rfl rfl fun w3 _ F s5 => bsp 33 F H (fun hb H F => ?_) (fun hb H F => ?_)
    ·obtain ⟨x4, hc, H⟩ := Aa H
     refine gw 3 F rfl fun _ F => Afv F rfl rfl <| gca F s5 (AVs (hr0.Ajq s5) hc) 3 rfl rfl rfl rfl fun w4 _ F s6 => gif F H 11 8 rfl rfl rfl (fun hd H _ F => ?_) (fun hd H _ F => ?_)
     ·cases H
      exact ⟨_, rfl, F.sb, s6⟩
     cases H
     exact ⟨_, rfl, F.sb, s6⟩
    cases H
    exact gw 16 F rfl fun _ F => ⟨_, rfl, F.sb, s5⟩
   cases H
   exact gw 22 F rfl fun _ F => ⟨_, rfl, F.sb, s4⟩
  cases H
  obtain rfl := hr _ rfl
  exact ⟨F.sb, s3.drop⟩
 intro _ w5 hJ
 obtain ⟨F, s7⟩ := hJ
 have H := R0
 clear R0 H0
 cases H
 exact ge 8 F rfl fun _ F => rt F ⟨rfl, s7⟩
theorem Bam {w : World} {v0 : Value} {a0 : List Abi} {a1 : Aas} {a2 : Aas} {r : Aas × Int} (hr0 : Rd Aef w [] v0 a0) (H : ATq a0 a1 a2 = some r) :
    Calls prog 150 #[v0, .agg ⟨(jI a1.Locals :: jI a1.Height :: ev8 a1.Slots)⟩, .agg ⟨(jI a2.Locals :: jI a2.Height :: ev8 a2.Slots)⟩] w (Ret fun u_ w_ => u_ = .tuple ⟨[.agg ⟨(jI r.1.Locals :: jI r.1.Height :: ev8 r.1.Slots)⟩, jI r.2]⟩ ∧ SL w [] w_ []) := by
 have s0 : SL w [] w [] := SL.Aq9 w
 refine cin func150 ntmps150 2 rfl rfl rfl fun _ F0 => ?_
 unfold ATq at H
 refine Ar F0 s0 rfl rfl rfl fun g0 w0 _ F s1 => Ar F s1 rfl rfl rfl fun g1 w1 _ F s2 => Af F s2 Ajp rfl rfl fun g32 w2 _ F s3 => ?_
 obtain ⟨x0, h0, H⟩ := Aa H
 refine gw 7 F rfl fun _ F => gla F s3 m2 0 rfl fun _ F => gca F s3 (AW4 (hr0.Ajq s3) h0) 9 rfl rfl rfl rfl fun w3 _ F s4 => gif F H 2 6 rfl rfl rfl (fun h1 H _ F => ?_) (fun h1 H _ F => ?_)
 ·refine gx F (Al (vs := []) Ajp ACi rfl (cs := jZ) (Ayf)) 1 rfl rfl fun _ F => ?_
  refine Akj (ds := jZ) F s4 rfl rfl (by simpa using Amy) (Ab rfl (Ab rfl (Ape _))) (by simp) fun w4 _ F s5 => ?_
  cases H
  refine gw 5 F rfl fun _ F => ?_
  refine Aj (rs := [.cell 6 118, .tmp 7]) (vs := [.agg ⟨jZ⟩, jI x0]) F (by rfl) ⟨_, _, rfl, Am s5 m0 rfl Aoi (by simp), _, _, rfl, An rfl, rfl⟩ ⟨_, rfl, ⟨rfl, s5.drop.drop.drop⟩⟩
 obtain ⟨x1, h2, H⟩ := Aa H
 refine gla F s4 m1 0 rfl fun _ F => gca F s4 (AW4 (hr0.Ajq s4) h2) 9 rfl rfl rfl rfl fun w5 _ F s6 => gif F H 2 6 rfl rfl rfl (fun h3 H _ F => ?_) (fun h3 H _ F => ?_)
 ·refine gx F (Al (vs := []) Ajp ACi rfl (cs := jZ) (Ayf)) 1 rfl rfl fun _ F => ?_
  refine Akj (ds := jZ) F s6 rfl rfl (by simpa using Amy) (Ab rfl (Ab rfl (Ape _))) (by simp) fun w6 _ F s7 => ?_
  cases H
  refine gw 5 F rfl fun _ F => ?_
  refine Aj (rs := [.cell 6 118, .tmp 7]) (vs := [.agg ⟨jZ⟩, jI x1]) F (by rfl) ⟨_, _, rfl, Am s7 m0 rfl Aoi (by simp), _, _, rfl, An rfl, rfl⟩ ⟨_, rfl, ⟨rfl, s7.drop.drop.drop⟩⟩
 refine gld F s6 m2 1 rfl fun _ F => gld F s6 m1 2 rfl fun _ F => bsp 30 F H (fun h4 H F => ?_) (fun h4 H F => ?_)
 ·refine gw 11 F rfl fun _ F => gx F (Al (vs := []) Ajp ACi rfl (cs := jZ) (Ayf)) 0 rfl rfl fun _ F => ?_
  refine Akj (ds := jZ) F s6 rfl rfl (by simpa using Amy) (Ab rfl (Ab rfl (Ape _))) (by simp) fun w7 _ F s8 => ?_
  cases H
  refine gw 5 F rfl fun _ F => ?_
  refine Aj (rs := [.cell 6 118, .tmp 7]) (vs := [.agg ⟨jZ⟩, jI 32]) F (by rfl) ⟨_, _, rfl, Am s8 m0 rfl Aoi (by simp), _, _, rfl, An rfl, rfl⟩ ⟨_, rfl, ⟨rfl, s8.drop.drop.drop⟩⟩
 refine gw 1 F rfl fun _ F => Afv F rfl rfl <| gld F s6 m2 1 rfl fun _ F => Afv F rfl rfl <| gld F s6 m1 4 rfl fun _ F => gif F H 2 8 rfl rfl rfl (fun h5 H _ F => ?_) (fun h5 H _ F => ?_)
 ·refine gx F (Al (vs := []) Ajp ACi rfl (cs := jZ) (Ayf)) 0 rfl rfl fun _ F => ?_
  refine Akj (ds := jZ) F s6 rfl rfl (by simpa using Amy) (Ab rfl (Ab rfl (Ape _))) (by simp) fun w8 _ F s9 => ?_
  cases H
  refine gw 5 F rfl fun _ F => ?_
  refine Aj (rs := [.cell 6 118, .tmp 7]) (vs := [.agg ⟨jZ⟩, jI 32]) F (by rfl) ⟨_, _, rfl, Am s9 m0 rfl Aoi (by simp), _, _, rfl, An rfl, rfl⟩ ⟨_, rfl, ⟨rfl, s9.drop.drop.drop⟩⟩
 obtain ⟨o0, H0, R0⟩ := Aa H
 clear H
 refine At9 (fun a w_ => Fr a 61 [(4, jP g0), (6, jP g32)] ∧ SL w [] w_ [Blk g32 118 jZ, Blk g0 118 (jI a1.Locals :: jI a1.Height :: ev8 o0)]) ?_ ?_
 ·have H := H0
  refine gc 1 F rfl fun _ F => lpk (AQv a0 a1 a2) (fun sa a w_ => Fr a 61 [(0, v0), (4, jP g0), (5, jP g1), (6, jP g32), (10, jI sa.2)] ∧ SL w [] w_ [Blk g32 118 jZ, Blk g1 118 (jI a2.Locals :: jI a2.Height :: ev8 a2.Slots), Blk g0 118 (jI a1.Locals :: jI a1.Height :: ev8 sa.1)]) H ?_ ?_
  ·exact ⟨F.sb, s6⟩
  intro sa _ w9 h6 o1 H hr
  obtain ⟨F, sc⟩ := h6
  replace H : AQv a0 a1 a2 sa = some o1 := H
  unfold AQv at H
  refine gc 5 F rfl fun _ F => gld F sc m2 1 rfl fun _ F => gld F sc m2 4 rfl fun _ F => gif F H 4 4 rfl rfl rfl (fun h7 H _ F => ?_) (fun h7 H _ F => ?_)
  ·obtain ⟨x2, h8, H⟩ := Aa H
   obtain ⟨x3, h9, H⟩ := Aa H
   obtain ⟨x4, ha, H⟩ := Aa H
   obtain ⟨x5, hb, H⟩ := Aa H
   refine AJp Aq8 sc.f2.drop ?_
   have sd := sc.drew
   refine hq [0, 1, 2, 3, 6, 7, 8, 9, 11] F sd.f2.drop (QI.ev 6 rfl <| QI.op rfl (fun _ hC => AO6 ANo h9 rfl rfl) rfl <| QI.op rfl (fun _ hC => Ao Aw9 rfl (SL.AT9 (pre := [jI a2.Locals, jI a2.Height]) hC m1 rfl h9)) rfl <| QI.ev 1 rfl <| QI.nil) (by kernel_rfl) fun _ F => ?_
   refine ho 4 rfl (by kernel_rfl) ?_
   refine gx F (AO6 ANo h8 rfl rfl) 1 rfl rfl fun _ F => ⟨sd.f2.drop, ?_⟩
   refine ho 5 rfl (by kernel_rfl) ?_
   refine gx F (Ao Aw9 rfl (SL.AT9 (pre := [jI a1.Locals, jI a1.Height]) sd m2 rfl h8)) 1 rfl rfl fun _ F => ⟨sd.f2.drop, ?_⟩
   refine ho 10 rfl (by kernel_rfl) ?_
   refine gca F sd (Bfu (hr0.Ajq sd) ha) 1 rfl rfl rfl rfl fun wa _ F se => ⟨se.f2.drop, ?_⟩
   refine ho 12 rfl (by kernel_rfl) ?_
   refine gx F (AO6 ANo hb rfl rfl) 1 rfl rfl fun _ F => ⟨se.f2.drop, ?_⟩
   refine ho 13 rfl (by kernel_rfl) ?_
   refine AVw (y' := x4) (pre := [jI a1.Locals, jI a1.Height]) F se.f2 rfl hb rfl rfl AWk fun wb _ F sf => gw 1 F rfl fun _ F => ⟨sf.drop, ?_⟩
   refine ANu (by kernel_rfl) ?_
   cases H
   exact ge 7 F rfl fun _ F => ⟨_, rfl, F.sb, sf.f2.f2⟩
  cases H
  obtain rfl := hr _ rfl
  exact ⟨F.sb, sc.f1.drop⟩
 intro _ wc hJ
 obtain ⟨F, sg⟩ := hJ
 have H := R0
 clear R0 H0
 refine ge 3 F rfl fun _ F => gla F sg m1 0 rfl fun _ F => ?_
 refine Akj (ds := (jI a1.Locals :: jI a1.Height :: ev8 o0)) F sg rfl rfl (by simpa using Amy) (Ab rfl (Ab rfl (Ape _))) (by simp) fun wd _ F sh => ?_
 cases H
 refine gw 4 F rfl fun _ F => ?_
 refine Aj (rs := [.cell 6 118, .tmp 7]) (vs := [.agg ⟨(jI a1.Locals :: jI a1.Height :: ev8 o0)⟩, jI 0]) F (by rfl) ⟨_, _, rfl, Am sh m0 rfl Aoi (by simp), _, _, rfl, An rfl, rfl⟩ ⟨_, rfl, ⟨rfl, sh.drop.drop⟩⟩
theorem Bc5 {w : World} {FF : List Nat} {v0_0 v0_1 v0_2 v0_3 v1 : Value} {a0 : Aiw} {a1 : List Abi} {a2 : Int} {a3 : Aas} {r : Int × Aiw} (hst : Aru [Sl Ty.bool v0_0 a0.Has, Sl A0w v0_1 a0.Frame, Sl Ty.bool v0_2 a0.AJs, Sl (Ty.int .i64) v0_3 a0.Taken] w FF) (hr1 : Rd Aef w FF v1 a1) (H : ARj a0 a1 a2 a3 = some r) :
    Calls prog 125 #[.agg ⟨[v0_0, v0_1, v0_2, v0_3]⟩, v1, jI a2, .agg ⟨(jI a3.Locals :: jI a3.Height :: ev8 a3.Slots)⟩] w (Ret fun u_ w_ => u_ = jI r.1 ∧ SL w FF w_ [Sl Ty.bool v0_0 r.2.Has, Sl A0w v0_1 r.2.Frame, Sl Ty.bool v0_2 r.2.AJs, Sl (Ty.int .i64) v0_3 r.2.Taken]) := by
 have s0 : SL w FF w [Sl Ty.bool v0_0 a0.Has, Sl A0w v0_1 a0.Frame, Sl Ty.bool v0_2 a0.AJs, Sl (Ty.int .i64) v0_3 a0.Taken] := SL.init w FF hst
 refine cin func125 ntmps125 2 rfl rfl rfl fun _ F0 => ?_
 unfold ARj at H
 refine Ar F0 s0 rfl rfl rfl fun g0 w0 _ F s1 => Ar F s1 rfl rfl rfl fun g1 w1 _ F s2 => ?_
 obtain ⟨x0, h0, H⟩ := Aa H
 obtain ⟨a4, h1, h2⟩ := Ax Flat.bool s2 m2 A73 rfl h0
 refine gw 7 F rfl fun _ F => gld F s2 m1 1 rfl fun _ F => gi F h1 0 rfl fun _ F => gx F (Ao Bbo rfl (Aqa.at_ (SL.AN4 Flat.bool s2 m2 h2 h0) (o := 0) rfl)) 3 rfl rfl fun _ F => gif F H 1 3 rfl rfl rfl (fun h3 H _ F => ?_) (fun h3 H _ F => ?_)
 ·obtain ⟨x1, h4, H⟩ := Aa H
  obtain ⟨x2, h5, H⟩ := Aa H
  obtain ⟨x3, h6, H⟩ := Aa H
  refine AJp Aq8 s2.f2.drop.f2.drop.f2.drop ?_
  refine hq [0, 1, 2, 3, 4, 5, 6, 7, 8, 9] F s2.drew.f2.drop.f2.drop.f2.drop (QI.ev 1 rfl <| QI.ld m1 rfl <| QI.ev 2 rfl <| QI.ld m1 rfl <| QI.ev 2 rfl <| QI.ld m1 rfl <| QI.ev 1 rfl <| QI.op rfl (fun _ hC => Aw Aoi rfl (hC.ANx m0 (o := 0) (ds := (jI a3.Locals :: jI a3.Height :: ev8 a3.Slots)) (ATv (pre := []) rfl rfl)) (by simp)) rfl <| QI.nil) (by kernel_rfl) fun _ F => ?_
  refine ho 10 rfl (by kernel_rfl) ?_
  obtain ⟨a5, h7, h8⟩ := Ax Flat.bool s2.drew m2 A73 rfl h4
  refine gi F h7 1 rfl fun _ F => ⟨s2.drew.f2.drop.f2.drop.f2.drop, ?_⟩
  refine ho 11 rfl (by kernel_rfl) ?_
  refine Bf (y' := true) Flat.bool F s2.drew.f2 h8 h4 rfl rfl (by rfl) AYa fun w2 _ F s3 => ?_
  refine gw 1 F rfl fun _ F => ⟨s3.drop.f2.drop.f2.drop, ?_⟩
  refine ho 12 rfl (by kernel_rfl) ?_
  obtain ⟨a6, h9, ha⟩ := Ax AC2 s3 m3 AOh rfl h5
  refine gi F h9 1 rfl fun _ F => ⟨s3.drop.f2.drop.f2.drop, ?_⟩
  refine ho 13 rfl (by kernel_rfl) ?_
  refine Bf (y' := (⟨a3.Locals, a3.Height, a3.Slots⟩ : Aas)) AC2 F s3.f3 ha h5 rfl rfl (by rfl) Amy fun w3 _ F s4 => ?_
  refine gw 1 F rfl fun _ F => ⟨s4.drop.drop.f2.drop, ?_⟩
  refine ho 14 rfl (by kernel_rfl) ?_
  obtain ⟨a7, hb, hc⟩ := Ax Flat.bool s4 m4 A73 rfl h6
  refine gi F hb 1 rfl fun _ F => ⟨s4.drop.drop.f2.drop, ?_⟩
  refine ho 15 rfl (by kernel_rfl) ?_
  refine Bf (y' := true) Flat.bool F s4.f4 hc h6 rfl rfl (by rfl) AYa fun w4 _ F s5 => ?_
  refine gw 1 F rfl fun _ F => ⟨s5.drop.drop.drop, ?_⟩
  refine ANu (by kernel_rfl) ?_
  cases H
  exact ge 8 F rfl fun _ F => rt F ⟨rfl, s5.f3.drop.f3.drop.f3.f1.f2.f3⟩
 obtain ⟨x4, hd, H⟩ := Aa H
 obtain ⟨x5, he, H⟩ := Aa H
 refine AJp Aq8 s2 ?_
 obtain ⟨a8, hf, hg⟩ := ASr AC2 (fun _ hC => (hC.A59 m3)) s2.drew AOh rfl hd
 refine hq [0, 1, 2, 3, 4, 5, 6] F s2.drew (QI.ev 2 rfl <| QI.ld m1 rfl <| QI.ev 1 rfl <| QI.ix hf rfl <| QI.op rfl (fun _ hC => Aw Aoi rfl (hg _ hC) (by simp)) rfl <| QI.op rfl (fun _ hC => Aw Aoi rfl (hC.ANx m0 (o := 0) (ds := (jI a3.Locals :: jI a3.Height :: ev8 a3.Slots)) (ATv (pre := []) rfl rfl)) (by simp)) rfl <| QI.nil) (by kernel_rfl) fun _ F => ?_
 refine ANb [0, 1, 2, 3, 4, 5, 6, 7, 8, 9, 10, 11, 12] (fun a w_ => ∃ g2 : Nat, Fr a 60 [(2, jI a2), (4, jP g0), (9, jP g2), (40, jI x5.2)] ∧ SL w FF w_ [Blk g1 118 (jI a3.Locals :: jI a3.Height :: ev8 a3.Slots), Blk g0 164 [v0_0, v0_1, v0_2, v0_3], Sl Ty.bool v0_0 a0.Has, Sl A0w v0_1 a0.Frame, Sl Ty.bool v0_2 a0.AJs, Sl (Ty.int .i64) v0_3 a0.Taken, Blk g2 118 (jI x5.1.Locals :: jI x5.1.Height :: ev8 x5.1.Slots)]) ?_ fun hD0 => ?_
 ·rintro a w_ ⟨g2, F, s6⟩
  refine hq [13] F s6.f6.drop (QI.ev 1 rfl <| QI.nil) (by kernel_rfl) fun _ F => ?_
  refine ANu (by kernel_rfl) ?_
  refine ge 8 F rfl fun _ F => gif F H 8 4 rfl rfl rfl (fun hh H _ F => ?_) (fun hh H _ F => ?_)
  ·cases H
   exact rt F ⟨rfl, s6.drop.drop.f4.drop⟩
  obtain ⟨x6, hi, H⟩ := Aa H
  obtain ⟨a9, hj, hk⟩ := ASr AC2 (fun _ hC => (hC.A59 m3)) s6 AOh rfl hi
  refine ATo Aq8 s6 F (QR.qo (fun _ hC => Aw Aoi rfl (hC.ANx m6 (o := 0) (ds := (jI x5.1.Locals :: jI x5.1.Height :: ev8 x5.1.Slots)) (ATv (pre := []) rfl rfl)) (by simp)) rfl <| QR.ev 1 rfl <| QR.ld m1 rfl <| QR.ev 1 rfl <| QR.ix hj rfl <| QR.qo (fun _ hC => Aw Aoi rfl (hk _ hC) (by simp)) rfl <| QR.qo (fun _ hC => Bit (xs := (jI x5.1.Locals :: jI x5.1.Height :: ev8 x5.1.Slots)) (ys := (jI x6.Locals :: jI x6.Height :: ev8 x6.Slots)) Bbr (by decide) rfl rfl (Bix Bbr Bki (Bi rfl (Bj AAd rfl) (Bj AAd rfl) (EqAt.up (j := 2) (Bbp underlying3) (by decide)) (Bi rfl (Bj AAd rfl) (Bj AAd rfl) (EqAt.up (j := 2) (Bbp underlying3) (by decide)) (Bi rfl (Bfa AX3 (Bdb (pre := [jI x5.1.Locals, jI x5.1.Height]) rfl rfl) (by simp)) (Bfa AX3 (Bdb (pre := [jI x6.Locals, jI x6.Height]) rfl rfl) (by simp)) (EqAt.up (j := 2) (Bkd ANo underlying48 Bm3) (by decide)) Bi8))))) rfl <| Bb) fun w5 _ s7 F => ?_
  refine ge 1 F rfl fun _ F => gif F H 0 8 rfl rfl rfl (fun hl H _ F => ?_) (fun hl H _ F => ?_)
  ·obtain ⟨x7, hm, H⟩ := Aa H
   obtain ⟨x8, hn, H⟩ := Aa H
   refine AJp Aq8 s7.f3.drop.f3.drop ?_
   refine hq [0, 1, 2, 3, 4, 5, 6] F s7.drew.f3.drop.f3.drop (QI.ev 1 rfl <| QI.ld m1 rfl <| QI.ev 2 rfl <| QI.ld m1 rfl <| QI.ev 1 rfl <| QI.op rfl (fun _ hC => Aw Aoi rfl (hC.ANx m4 (o := 0) (ds := (jI x5.1.Locals :: jI x5.1.Height :: ev8 x5.1.Slots)) (ATv (pre := []) rfl rfl)) (by simp)) rfl <| QI.nil) (by kernel_rfl) fun _ F => ?_
   refine ho 7 rfl (by kernel_rfl) ?_
   obtain ⟨aa, hp, hr⟩ := Ax AC2 s7.drew m3 AOh rfl hm
   refine gi F hp 1 rfl fun _ F => ⟨s7.drew.f3.drop.f3.drop, ?_⟩
   refine ho 8 rfl (by kernel_rfl) ?_
   refine Bf (y' := (⟨x5.1.Locals, x5.1.Height, x5.1.Slots⟩ : Aas)) AC2 F s7.drew.f3 hr hm rfl rfl (by rfl) Amy fun w6 _ F s8 => ?_
   refine gw 1 F rfl fun _ F => ⟨s8.drop.f3.drop, ?_⟩
   refine ho 9 rfl (by kernel_rfl) ?_
   obtain ⟨ab, hs, ht⟩ := Ax Flat.bool s8 m4 A73 rfl hn
   refine gi F hs 1 rfl fun _ F => ⟨s8.drop.f3.drop, ?_⟩
   refine ho 10 rfl (by kernel_rfl) ?_
   refine Bf (y' := true) Flat.bool F s8.f4 ht hn rfl rfl (by rfl) AYa fun w7 _ F s9 => ?_
   refine gw 1 F rfl fun _ F => ⟨s9.drop.drop, ?_⟩
   refine ANu (by kernel_rfl) ?_
   cases H
   exact ge 7 F rfl fun _ F => rt F ⟨rfl, s9.f2.drop.f2.drop.f4.drop.f3.f1.f2.f3⟩
  cases H
  exact rt F ⟨rfl, s7.drop.drop.f4.drop⟩
 refine ho2 7 11 rfl rfl (by kernel_rfl) ?_ ?_
 ·refine gca F s2.drew (Bam (hr1.Ajq s2.drew) he) 1 rfl rfl rfl rfl fun w8 _ F sa => ⟨sa, ?_⟩
  refine hq [8, 9, 10] F sa (QI.ev 3 rfl <| QI.nil) (by kernel_rfl) fun _ F => ?_
  refine ho 11 rfl (by kernel_rfl) ?_
  refine Af F sa Ajp rfl rfl fun g2 w9 _ F sc => gw 1 F rfl fun _ F => ⟨sc.drop, ?_⟩
  refine ho 12 rfl (by kernel_rfl) ?_
  refine Akj (ds := (jI x5.1.Locals :: jI x5.1.Height :: ev8 x5.1.Slots)) F sc rfl rfl (by simpa using Amy) (Ab rfl (Ab rfl (Ape _))) (by simp) fun wa _ F sd => ?_
  exact gw 1 F rfl fun _ F => ⟨sd.drop, hto hD0 ⟨g2, F.sb, sd.f6.f6.f6.f6.f6.f6⟩ (by kernel_rfl)⟩
 refine Af F s2.drew Ajp rfl rfl fun g2 w9 _ F sc => gw 1 F rfl fun _ F => ⟨sc.drop, ?_⟩
 refine ho 7 rfl (by kernel_rfl) ?_
 refine gca F sc (Bam (hr1.Ajq sc) he) 1 rfl rfl rfl rfl fun w8 _ F sa => ⟨sa.drop, ?_⟩
 refine hq [8, 9, 10] F sa.drop (QI.ev 3 rfl <| QI.nil) (by kernel_rfl) fun _ F => ?_
 refine ho 12 rfl (by kernel_rfl) ?_
 refine Akj (ds := (jI x5.1.Locals :: jI x5.1.Height :: ev8 x5.1.Slots)) F sa rfl rfl (by simpa using Amy) (Ab rfl (Ab rfl (Ape _))) (by simp) fun wa _ F sd => ?_
 exact gw 1 F rfl fun _ F => ⟨sd.drop, hto hD0 ⟨g2, F.sb, sd.f6.f6.f6.f6.f6.f6⟩ (by kernel_rfl)⟩
theorem AVe {w : World} {v0 : Value} {a0 : List UInt8} {a1 : Int} {r : Int} (hr0 : Rd Ty.u8 w [] v0 a0) (H : ASs a0 a1 = some r) :
    Calls prog 86 #[v0, jI a1] w (Ret fun u_ w_ => u_ = jI r ∧ SL w [] w_ []) := by
 have s0 : SL w [] w [] := SL.Aq9 w
 refine cin func86 ntmps86 16 rfl rfl rfl fun _ F => ?_
 unfold ASs at H
 obtain ⟨o0, H0, R0⟩ := Aa H
 clear H
 refine At9 (fun a w_ => Fr a 29 [(1, jI a1), (5, jI o0)] ∧ SL w [] w_ []) ?_ ?_
 ·have H := H0
  refine gc 1 F rfl fun _ F => lpk (AP1 a0 a1) (fun s1 a w_ => Fr a 29 [(0, v0), (1, jI a1), (5, jI s1.1), (6, jI s1.2)] ∧ SL w [] w_ []) H ?_ ?_
  ·exact ⟨F.sb, s0⟩
  intro s1 _ w0 h0 o1 H hr
  obtain ⟨F, s2⟩ := h0
  replace H : AP1 a0 a1 s1 = some o1 := H
  unfold AP1 at H
  refine gc 8 F rfl fun _ F => gif F H 9 4 rfl rfl rfl (fun h1 H _ F => ?_) (fun h1 H _ F => ?_)
  ·obtain ⟨x0, h2, H⟩ := Aa H
   obtain ⟨a2, h3, h4⟩ := AT7 Flat.u8 (Bl hr0 s2) AO0 rfl h2
   refine gi F h3 0 rfl fun _ F => gx F (Ao AZa rfl (Aqa.at_ h4 (o := 0) rfl)) 0 rfl rfl fun _ F => ?_
   cases H
   exact gx F (AX0 rfl underlying5 underlying3) 10 rfl rfl fun _ F => ⟨_, rfl, F.sb, s2⟩
  cases H
  obtain rfl := hr _ rfl
  exact ⟨F.sb, s2⟩
 intro _ w1 hJ
 obtain ⟨F, s3⟩ := hJ
 have H := R0
 clear R0 H0
 refine ge 7 F rfl fun _ F => bsp 22 F H (fun h5 H F => ?_) (fun h5 H F => ?_)
 ·refine gw 5 F rfl fun _ F => gif F H 13 9 rfl rfl rfl (fun h6 H _ F => ?_) (fun h6 H _ F => ?_)
  ·cases H
   exact rt F ⟨rfl, s3⟩
  cases H
  exact rt F ⟨rfl, s3⟩
 cases H
 exact gw 15 F rfl fun _ F => rt F ⟨rfl, s3⟩
theorem AWj {w : World} {v0 : Value} {a0 : List UInt8} {a1 : Int} {r : Ads × Int} (hr0 : Rd Ty.u8 w [] v0 a0) (H : APc a0 a1 = some r) :
    Calls prog 57 #[v0, jI a1] w (Ret fun u_ w_ => u_ = .tuple ⟨[.agg ⟨[jI r.1.At, jU (r.1.Op.toNat : Int), jI r.1.A, jI r.1.B]⟩, jI r.2]⟩ ∧ SL w [] w_ []) := by
 have s0 : SL w [] w [] := SL.Aq9 w
 refine cin func57 ntmps57 2 rfl rfl rfl fun _ F0 => ?_
 unfold APc at H
 refine Af F0 s0 APa rfl rfl fun g8 w9 _ F s1 => gw 5 F rfl fun _ F => Af F s1 APa rfl rfl fun g0 w0 _ F s2 => gw 8 F rfl fun _ F => bsp 14 F H (fun h0 H F => ?_) (fun h0 H F => ?_)
 ·refine gw 10 F rfl fun _ F => gld F s2 m0 0 rfl fun _ F => Ah F s2.f1 rfl rfl AOo (Ab rfl (Ab rfl (Ab rfl (Ab rfl Ap)))) (Ac rfl) fun w1 _ F s3 => ?_
  cases H
  refine gw 5 F rfl fun _ F => ?_
  refine Aj (rs := [.cell 4 79, .tmp 5]) (vs := [.agg ⟨[jI 0, jU 0, jI 0, jI 0]⟩, jI 1]) F (by rfl) ⟨_, _, rfl, Am s3 m0 rfl AQ3 rfl, _, _, rfl, An rfl, rfl⟩ ⟨_, rfl, ⟨rfl, s3.drop.drop⟩⟩
 refine gw 2 F rfl fun _ F => Afv F rfl rfl <| gx F (Ak rfl underlying42 (fR hr0 s2)) 4 rfl rfl fun _ F => gif F H 2 7 rfl rfl rfl (fun h1 H _ F => ?_) (fun h1 H _ F => ?_)
 ·refine gld F s2 m0 0 rfl fun _ F => Ah F s2.f1 rfl rfl AOo (Ab rfl (Ab rfl (Ab rfl (Ab rfl Ap)))) (Ac rfl) fun w2 _ F s4 => ?_
  cases H
  refine gw 5 F rfl fun _ F => ?_
  refine Aj (rs := [.cell 4 79, .tmp 5]) (vs := [.agg ⟨[jI 0, jU 0, jI 0, jI 0]⟩, jI 1]) F (by rfl) ⟨_, _, rfl, Am s4 m0 rfl AQ3 rfl, _, _, rfl, An rfl, rfl⟩ ⟨_, rfl, ⟨rfl, s4.drop.drop⟩⟩
 refine gx F (Ak rfl underlying42 (fR hr0 s2)) 3 rfl rfl fun _ F => gif F H 2 6 rfl rfl rfl (fun h2 H _ F => ?_) (fun h2 H _ F => ?_)
 ·refine gld F s2 m0 0 rfl fun _ F => Ah F s2.f1 rfl rfl AOo (Ab rfl (Ab rfl (Ab rfl (Ab rfl Ap)))) (Ac rfl) fun w3 _ F s5 => ?_
  cases H
  refine gw 5 F rfl fun _ F => ?_
  refine Aj (rs := [.cell 4 79, .tmp 5]) (vs := [.agg ⟨[jI 0, jU 0, jI 0, jI 0]⟩, jI 2]) F (by rfl) ⟨_, _, rfl, Am s5 m0 rfl AQ3 rfl, _, _, rfl, An rfl, rfl⟩ ⟨_, rfl, ⟨rfl, s5.drop.drop⟩⟩
 obtain ⟨x0, h3, H⟩ := Aa H
 obtain ⟨a2, h4, h5⟩ := AT7 Flat.u8 (Bl hr0 s2) AO0 rfl h3
 refine gi F h4 0 rfl fun _ F => ?_
 obtain ⟨x1, h6, H⟩ := Aa H
 refine gx F (Ao AZa rfl (Aqa.at_ h5 (o := 0) rfl)) 6 rfl rfl fun _ F => gca F s2 (AVf h6) 10 rfl rfl rfl rfl fun w4 _ F s6 => gif F H 2 6 rfl rfl rfl (fun h7 H _ F => ?_) (fun h7 H _ F => ?_)
 ·refine gld F s6 m0 0 rfl fun _ F => Ah F s6.f1 rfl rfl AOo (Ab rfl (Ab rfl (Ab rfl (Ab rfl Ap)))) (Ac rfl) fun w5 _ F s7 => ?_
  cases H
  refine gw 5 F rfl fun _ F => ?_
  refine Aj (rs := [.cell 4 79, .tmp 5]) (vs := [.agg ⟨[jI 0, jU 0, jI 0, jI 0]⟩, jI 40]) F (by rfl) ⟨_, _, rfl, Am s7 m0 rfl AQ3 rfl, _, _, rfl, An rfl, rfl⟩ ⟨_, rfl, ⟨rfl, s7.drop.drop⟩⟩
 refine gx F (Ak rfl underlying42 (fR hr0 s6)) 6 rfl rfl fun _ F => gif F H 2 5 rfl rfl rfl (fun h8 H _ F => ?_) (fun h8 H _ F => ?_)
 ·refine gld F s6 m0 0 rfl fun _ F => Ah F s6.f1 rfl rfl AOo (Ab rfl (Ab rfl (Ab rfl (Ab rfl Ap)))) (Ac rfl) fun w6 _ F s8 => ?_
  cases H
  refine gw 5 F rfl fun _ F => ?_
  refine Aj (rs := [.cell 4 79, .tmp 5]) (vs := [.agg ⟨[jI 0, jU 0, jI 0, jI 0]⟩, jI 2]) F (by rfl) ⟨_, _, rfl, Am s8 m0 rfl AQ3 rfl, _, _, rfl, An rfl, rfl⟩ ⟨_, rfl, ⟨rfl, s8.drop.drop⟩⟩
 obtain ⟨x2, h9, H⟩ := Aa H
 refine gca F s6 (Bbh h9) 8 rfl rfl rfl rfl fun w7 _ F s9 => ?_
 obtain ⟨x3, ha, H⟩ := Aa H
 obtain ⟨x4, hb, H⟩ := Aa H
 obtain ⟨x5, hc, H⟩ := Aa H
 obtain ⟨x6, hd, H⟩ := Aa H
 refine AJp Aq8 s9 ?_
 obtain ⟨v1, he, hf⟩ := Rd.cut hr0 AO0 rfl ha (some (wr (a1 + 1))) none (.inl rfl) (.inr ⟨rfl, rfl⟩)
 obtain ⟨v2, hg, hh⟩ := Rd.cut hr0 AO0 rfl hc (some (wr ((wr (a1 + 1)) + x2.1))) none (.inl rfl) (.inr ⟨rfl, rfl⟩)
 refine hq [0, 1, 2, 3, 4, 5, 6, 8, 9, 10, 11, 12, 13, 14] F s9.drew (QI.ev 5 rfl <| QI.op rfl (fun _ hC => he _ _ _ _ _ .i64 .i64 _ _ _ _ _ rfl rfl trivial) rfl <| QI.ev 6 rfl <| QI.op rfl (fun _ hC => hg _ _ _ _ _ .i64 .i64 _ _ _ _ _ rfl rfl trivial) rfl <| QI.ev 1 rfl <| QI.nil) (by kernel_rfl) fun _ F => ?_
 refine ANb [0, 1, 2, 3, 4, 5, 6, 7, 8, 9, 10, 11, 12, 13, 14, 15, 16, 17, 18] (fun a w_ => ∃ g1 : Nat, Fr a 73 [(4, jP g8), (6, jP g0), (7, jU (x0.toNat : Int)), (11, jP g1)] ∧ SL w [] w_ [Blk g0 79 [jI 0, jU 0, jI 0, jI 0], Blk g8 79 [jI 0, jU 0, jI 0, jI 0], Blk g1 79 [jI a1, jU (x0.toNat : Int), jI x4, jI x6]]) ?_ fun hD0 => ?_
 ·rintro a w_ ⟨g1, F, sa⟩
  refine ANu (by kernel_rfl) ?_
  refine ge 7 F rfl fun _ F => bsp 66 F H (fun hi H F => ?_) (fun hi H F => ?_)
  ·refine gw 1 F rfl fun _ F => Afv F rfl rfl <| gld F sa m2 4 rfl fun _ F => gif F H 2 4 rfl rfl rfl (fun hj H _ F => ?_) (fun hj H _ F => ?_)
   ·refine gld F sa m0 0 rfl fun _ F => Ah F sa.f1 rfl rfl AOo (Ab rfl (Ab rfl (Ab rfl (Ab rfl Ap)))) (Ac rfl) fun w8 _ F sc => ?_
    cases H
    refine gw 5 F rfl fun _ F => ?_
    refine Aj (rs := [.cell 4 79, .tmp 5]) (vs := [.agg ⟨[jI 0, jU 0, jI 0, jI 0]⟩, jI 5]) F (by rfl) ⟨_, _, rfl, Am sc m0 rfl AQ3 rfl, _, _, rfl, An rfl, rfl⟩ ⟨_, rfl, ⟨rfl, sc.drop.drop.drop⟩⟩
   refine gld F sa m2 0 rfl fun _ F => Ah F sa.f1 rfl rfl AOo (Ab rfl (Ab rfl (Ab rfl (Ab rfl Ap)))) (Ac rfl) fun wa _ F sd => ?_
   cases H
   refine gw 4 F rfl fun _ F => ?_
   refine Aj (rs := [.cell 4 79, .tmp 5]) (vs := [.agg ⟨[jI a1, jU (x0.toNat : Int), jI x4, jI x6]⟩, jI 0]) F (by rfl) ⟨_, _, rfl, Am sd m0 rfl AQ3 rfl, _, _, rfl, An rfl, rfl⟩ ⟨_, rfl, ⟨rfl, sd.drop.drop.drop⟩⟩
  refine gw 11 F rfl fun _ F => gld F sa m2 0 rfl fun _ F => Ah F sa.f1 rfl rfl AOo (Ab rfl (Ab rfl (Ab rfl (Ab rfl Ap)))) (Ac rfl) fun wb _ F se => ?_
  cases H
  refine gw 4 F rfl fun _ F => ?_
  refine Aj (rs := [.cell 4 79, .tmp 5]) (vs := [.agg ⟨[jI a1, jU (x0.toNat : Int), jI x4, jI x6]⟩, jI 0]) F (by rfl) ⟨_, _, rfl, Am se m0 rfl AQ3 rfl, _, _, rfl, An rfl, rfl⟩ ⟨_, rfl, ⟨rfl, se.drop.drop.drop⟩⟩
 refine ANb [0, 1, 2, 3, 4, 5, 6, 7, 8, 9, 10, 11, 12, 13, 14, 17] (fun a w_ => ∃ g1 : Nat, Fr a 73 [(4, jP g8), (6, jP g0), (7, jU (x0.toNat : Int)), (11, jP g1), (47, jI a1), (48, jU (x0.toNat : Int)), (54, jI x4), (60, v2), (61, jI x2.2)] ∧ SL w [] w_ [Blk g0 79 [jI 0, jU 0, jI 0, jI 0], Blk g8 79 [jI 0, jU 0, jI 0, jI 0], Blk g1 79 [jI 0, jU 0, jI 0, jI 0]]) ?_ fun hD1 => ?_
 ·rintro a w_ ⟨g1, F, sf⟩
  refine ho 15 rfl (by kernel_rfl) ?_
  refine gca F sf (AVe (hh.Ajq sf) hd) 1 rfl rfl rfl rfl fun wc _ F sg => ⟨sg.f2.drop, ?_⟩
  refine hq [16] F sg.f2.drop (QI.op rfl (fun _ hC => Al (vs := [jI a1, jU (x0.toNat : Int), jI x4, jI x6]) APa Biw rfl (cs := [jI a1, jU (x0.toNat : Int), jI x4, jI x6]) (rfl)) rfl <| QI.nil) (by kernel_rfl) fun _ F => ?_
  refine ho 18 rfl (by kernel_rfl) ?_
  exact Ah F sg.f2 rfl rfl AOo (Ab rfl (Ab rfl (Ab rfl (Ab rfl Ap)))) (Ac rfl) fun wd _ F sh => gw 1 F rfl fun _ F => ⟨sh.drop, hto hD0 ⟨g1, F.sb, sh.f2.f2⟩ (by kernel_rfl)⟩
 refine ho2 7 17 rfl rfl (by kernel_rfl) ?_ ?_
 ·refine gca F s9.drew (AVe (hf.Ajq s9.drew) hb) 1 rfl rfl rfl rfl fun we _ F si => ⟨si, ?_⟩
  refine ho2 15 17 rfl rfl (by kernel_rfl) ?_ ?_
  ·refine gca F si (AVe (hh.Ajq si) hd) 1 rfl rfl rfl rfl fun wc _ F sg => ⟨sg, ?_⟩
   refine hq [16] F sg (QI.op rfl (fun _ hC => Al (vs := [jI a1, jU (x0.toNat : Int), jI x4, jI x6]) APa Biw rfl (cs := [jI a1, jU (x0.toNat : Int), jI x4, jI x6]) (rfl)) rfl <| QI.nil) (by kernel_rfl) fun _ F => ?_
   refine ho 17 rfl (by kernel_rfl) ?_
   refine Af F sg APa rfl rfl fun g1 wf _ F sj => gw 1 F rfl fun _ F => ⟨sj.drop, ?_⟩
   refine ho 18 rfl (by kernel_rfl) ?_
   exact Ah F sj rfl rfl AOo (Ab rfl (Ab rfl (Ab rfl (Ab rfl Ap)))) (Ac rfl) fun wd _ F sh => gw 1 F rfl fun _ F => ⟨sh.drop, hto hD0 ⟨g1, F.sb, sh.f2.f2⟩ (by kernel_rfl)⟩
  exact Af F si APa rfl rfl fun g1 wf _ F sj => gw 1 F rfl fun _ F => ⟨sj.drop, hto hD1 ⟨g1, F.sb, sj.f2.f2⟩ (by kernel_rfl)⟩
 refine Af F s9.drew APa rfl rfl fun g1 wf _ F sj => gw 1 F rfl fun _ F => ⟨sj.drop, ?_⟩
 refine ho 7 rfl (by kernel_rfl) ?_
 exact gca F sj (AVe (hf.Ajq sj) hb) 1 rfl rfl rfl rfl fun we _ F si => ⟨si.drop, hto hD1 ⟨g1, F.sb, si.f2.f2⟩ (by kernel_rfl)⟩
theorem Bfo {w : World} {a0 : UInt8} {r : Bool} (H : AVv a0 = some r) :
    Calls prog 93 #[jU (a0.toNat : Int)] w (Ret fun u_ w_ => u_ = .bool r ∧ SL w [] w_ []) := by
 have s0 : SL w [] w [] := SL.Aq9 w
 refine cin func93 ntmps93 10 rfl rfl rfl fun _ F8 => ?_
 unfold AVv at H
 refine bsp 5 F8 H (fun hb9 H F => ?_) (fun hb9 H F => ?_)
 ·cases H
  exact gw 7 F rfl fun _ F => rt F ⟨rfl, s0⟩
 cases H
 exact gw 7 F rfl fun _ F => rt F ⟨rfl, s0⟩
theorem Bgy {w : World} {a0 : UInt8} {r : Bool} (H : AWb a0 = some r) :
    Calls prog 94 #[jU (a0.toNat : Int)] w (Ret fun u_ w_ => u_ = .bool r ∧ SL w [] w_ []) := by
 have s0 : SL w [] w [] := SL.Aq9 w
 refine cin func94 ntmps94 10 rfl rfl rfl fun _ F => ?_
 unfold AWb at H
 refine bsp 5 F H (fun h0 H F => ?_) (fun h0 H F => ?_)
 ·cases H
  exact gw 11 F rfl fun _ F => rt F ⟨rfl, s0⟩
 refine gw 4 F rfl fun _ F => bsp 9 F H (fun h1 H F => ?_) (fun h1 H F => ?_)
 ·cases H
  exact gw 7 F rfl fun _ F => rt F ⟨rfl, s0⟩
 cases H
 exact gw 7 F rfl fun _ F => rt F ⟨rfl, s0⟩
theorem Bjd {w : World} {a0 : Ads} {a1 : Int} {r : (List Int) × Int} (H : AVn a0 a1 = some r) :
    Calls prog 60 #[.agg ⟨[jI a0.At, jU (a0.Op.toNat : Int), jI a0.A, jI a0.B]⟩, jI a1] w (Ret fun u_ w_ => ∃ u0 : Value, u_ = .tuple ⟨[u0, jI r.2]⟩ ∧ SL w [] w_ [Sl (Ty.int .i64) u0 r.1]) := by
 have s0 : SL w [] w [] := SL.Aq9 w
 refine cin func60 ntmps60 2 rfl rfl rfl fun _ F0 => ?_
 unfold AVn at H
 refine Ar F0 s0 rfl rfl rfl fun g8 w9 _ F s1 => ?_
 obtain ⟨x0, h0, H⟩ := Aa H
 refine gw 5 F rfl fun _ F => ATo Aq8 s1 F (QR.ev 1 rfl <| QR.ld m0 rfl <| QR.ev 1 rfl <| QR.ld m0 rfl <| QR.call (args := [.tmp 13]) Bz3 rfl (fun _ hC => Bg (AVf (a0 := a0.Op) h0) hC) <| QR.ev 2 rfl <| Bb) fun w0 _ s2 F => ?_
 obtain ⟨x1, h1, H⟩ := Aa H
 refine ge 4 F rfl fun _ F => gld F s2 m0 0 rfl fun _ F => gca F s2 (Bfo h1) 6 rfl rfl rfl rfl fun w1 _ F s3 => ?_
 obtain ⟨x2, h2, H⟩ := Aa H
 refine gld F s3 m0 0 rfl fun _ F => gca F s3 (Bgy h2) 5 rfl rfl rfl rfl fun w2 _ F s4 => ?_
 obtain ⟨o0, H0, R0⟩ := Aa H
 clear H
 refine At9 (fun a w_ => ∃ p0 : Unit, o0 = .inr (p0) ∧ Fr a 73 [(1, jI a1), (2, jP g8), (6, jI (wr (a0.At + x0))), (7, .bool x1), (8, .bool (!x2))] ∧ SL w [] w_ [Blk g8 79 [jI a0.At, jU (a0.Op.toNat : Int), jI a0.A, jI a0.B]]) ?_ ?_
 ·have H := H0
  refine gc 4 F rfl fun _ F => bsp 24 F H (fun h3 H F => ?_) (fun h3 H F => ?_)
  ·refine gw 1 F rfl fun _ F => Afv F rfl rfl <| gld F s4 m0 5 rfl fun _ F => gif F H 9 1 rfl rfl rfl (fun h4 H _ F => ?_) (fun h4 H _ F => ?_)
   ·cases H
    replace H := R0
    try dsimp only at H
    cases H
    exact rt F ⟨(.slice none 0 0), rfl, (SL.Axc (T := (Ty.int .i64)) s4).f1.drop⟩
   cases H
   exact ⟨_, rfl, F.sb, s4⟩
  cases H
  exact gw 9 F rfl fun _ F => ⟨_, rfl, F.sb, s4⟩
 intro _ w3 hJ
 obtain ⟨p0, rfl, F, s5⟩ := hJ
 have H := R0
 clear R0 H0
 try dsimp only at H
 obtain ⟨o1, H1, R1⟩ := Aa H
 clear H
 refine ge 2 F rfl fun _ F => At9 (fun a w_ => ∃ p1 : Unit, o1 = .inr (p1) ∧ Fr a 73 [(2, jP g8), (6, jI (wr (a0.At + x0))), (7, .bool x1), (8, .bool (!x2))] ∧ SL w [] w_ [Blk g8 79 [jI a0.At, jU (a0.Op.toNat : Int), jI a0.A, jI a0.B]]) ?_ ?_
 ·have H := H1
  refine gc 4 F rfl fun _ F => bsp 31 F H (fun h5 H F => ?_) (fun h5 H F => ?_)
  ·refine gw 6 F rfl fun _ F => gif F H 9 1 rfl rfl rfl (fun h6 H _ F => ?_) (fun h6 H _ F => ?_)
   ·cases H
    replace H := R1
    try dsimp only at H
    cases H
    exact rt F ⟨(.slice none 0 0), rfl, (SL.Axc (T := (Ty.int .i64)) s5).f1.drop⟩
   cases H
   exact ⟨_, rfl, F.sb, s5⟩
  cases H
  exact gw 8 F rfl fun _ F => ⟨_, rfl, F.sb, s5⟩
 intro _ w4 hJ
 obtain ⟨p1, rfl, F, s6⟩ := hJ
 have H := R1
 clear R1 H1
 try dsimp only at H
 obtain ⟨o2, H2, R2⟩ := Aa H
 clear H
 refine ge 7 F rfl fun _ F => At9 (fun a w_ => ∃ v0 : Value, Fr a 73 [(2, jP g8), (6, jI (wr (a0.At + x0))), (7, .bool x1), (8, .bool (!x2)), (9, v0)] ∧ SL w [] w_ [Blk g8 79 [jI a0.At, jU (a0.Op.toNat : Int), jI a0.A, jI a0.B], Sl (Ty.int .i64) v0 o2]) ?_ ?_
 ·have H := H2
  refine gc 4 F rfl fun _ F => bsp 37 F H (fun h7 H F => ?_) (fun h7 H F => ?_)
  ·refine gw 3 F rfl fun _ F => bsp 40 F H (fun h8 H F => ?_) (fun h8 H F => ?_)
   ·refine gw 12 F rfl fun _ F => gld F s6 m0 0 rfl fun _ F => ?_
    refine Ae (parts := [(0, .tmp 49)]) (Flat.int .i64) ([a0.A] : List Int) F s6 Awy rfl (by decide) rfl rfl rfl (by simp [Value.cells]) rfl rfl rfl fun v1 w5 _ F s7 => ?_
    obtain ⟨x3, h9, H⟩ := Aa H
    have s8 := (SL.Axc (T := (Ty.int .i64)) s7)
    obtain ⟨_, hr_⟩ := (s8.A59 m1)
    refine Av (Flat.int .i64) F s8 Awy rfl rfl rfl rfl hr_ rfl rfl h9 rfl fun v2 w6 _ F s9 => ?_
    have s354' := s9.f1.drop
    cases H
    exact gw 2 F rfl fun _ F => ⟨v2, F.sb, s354'.f1⟩
   refine gw 1 F rfl fun _ F => Afv F rfl rfl <| gld F s6 m0 6 rfl fun _ F => gif F H 3 1 rfl rfl rfl (fun ha H _ F => ?_) (fun ha H _ F => ?_)
   ·refine gld F s6 m0 0 rfl fun _ F => ?_
    refine Ae (parts := [(0, .tmp 49)]) (Flat.int .i64) ([a0.A] : List Int) F s6 Awy rfl (by decide) rfl rfl rfl (by simp [Value.cells]) rfl rfl rfl fun v3 w7 _ F sa => ?_
    obtain ⟨x4, hb, H⟩ := Aa H
    have sc := (SL.Axc (T := (Ty.int .i64)) sa)
    obtain ⟨_, hr_⟩ := (sc.A59 m1)
    refine Av (Flat.int .i64) F sc Awy rfl rfl rfl rfl hr_ rfl rfl hb rfl fun v4 w8 _ F sd => ?_
    have s378' := sd.f1.drop
    cases H
    exact gw 2 F rfl fun _ F => ⟨v4, F.sb, s378'.f1⟩
   cases H
   exact ⟨(.slice none 0 0), F.sb, (SL.Axc (T := (Ty.int .i64)) s6).f1⟩
  cases H
  exact gw 13 F rfl fun _ F => ⟨(.slice none 0 0), F.sb, (SL.Axc (T := (Ty.int .i64)) s6).f1⟩
 intro _ wa hJ
 obtain ⟨v0, F, se⟩ := hJ
 have H := R2
 clear R2 H2
 refine ge 7 F rfl fun _ F => gif F H 3 7 rfl rfl rfl (fun hc H _ F => ?_) (fun hc H _ F => ?_)
 ·refine Ae (parts := [(0, .tmp 54)]) (Flat.int .i64) ([wr (a0.At + x0)] : List Int) F se Awy rfl (by decide) rfl rfl rfl (by simp [Value.cells]) rfl rfl rfl fun v5 wb _ F sf => ?_
  obtain ⟨x5, hd, H⟩ := Aa H
  obtain ⟨_, hr_⟩ := (sf.f2.A59 m1)
  refine Av (Flat.int .i64) F sf.f2 Awy rfl rfl rfl rfl hr_ rfl rfl hd rfl fun v6 wc _ F sg => ?_
  have s423' := sg.f1.drop
  refine gw 8 F rfl fun _ F => bsp 58 F H (fun he H F => ?_) (fun he H F => ?_)
  ·refine gw 3 F rfl fun _ F => gw 1 (F.kt (d := 61) hc) rfl fun _ F => Afv F rfl rfl <| gx F (Ao AAd rfl (s423'.AQ9 m1 rfl)) 5 rfl rfl fun _ F => gif F H 3 10 rfl rfl rfl (fun hf H _ F => ?_) (fun hf H _ F => ?_)
   ·refine gx F (Ao AAd rfl (s423'.AQ9 m1 rfl)) 0 rfl rfl fun _ F => ?_
    refine Ae (parts := [(0, .tmp 69)]) (Flat.int .i64) ([a0.A] : List Int) F s423' Awy rfl (by decide) rfl rfl rfl (by simp [Value.cells]) rfl rfl rfl fun v7 wd _ F sh => ?_
    obtain ⟨x6, hg, H⟩ := Aa H
    obtain ⟨_, hr_⟩ := (sh.f1.A59 m1)
    refine Av (Flat.int .i64) F sh.f1 Awy rfl rfl rfl rfl hr_ rfl rfl hg rfl fun v8 we _ F si => ?_
    have s478' := si.f1.drop
    cases H
    exact gw 11 F rfl fun _ F => rt F ⟨v8, rfl, s478'.f1.drop⟩
   cases H
   exact rt F ⟨v6, rfl, s423'.f1.drop⟩
  cases H
  exact gw 21 F rfl fun _ F => rt F ⟨v6, rfl, s423'.f1.drop⟩
 refine bsp 58 F H (fun hh H F => ?_) (fun hh H F => ?_)
 ·refine gw 3 F rfl fun _ F => ?_
  cases H
  exact gw 18 (F.kf (d := 61) hc) rfl fun _ F => rt F ⟨v0, rfl, se.drop⟩
 cases H
 exact gw 21 F rfl fun _ F => rt F ⟨v0, rfl, se.drop⟩
theorem Bck {w : World} {FF : List Nat} {v0_0 v0_1 v0_2 v0_3 v1_0 v1_1 v2 : Value} {a0 : Aiw} {a1 : Adb} {a2 : List UInt8} {a3 : Int} {r : Int × Int × Aiw} (hst : Aru [Sl Ty.bool v0_0 a0.Has, Sl A0w v0_1 a0.Frame, Sl Ty.bool v0_2 a0.AJs, Sl (Ty.int .i64) v0_3 a0.Taken] w FF) (hr1_0 : Rd Aef w FF v1_0 a1.Classes) (hr1_1 : Rd Ate w FF v1_1 a1.Akq) (hr2 : Rd Ty.u8 w FF v2 a2) (H : AQ2 a0 a1 a2 a3 = some r) :
    Calls prog 83 #[.agg ⟨[v0_0, v0_1, v0_2, v0_3]⟩, .agg ⟨[v1_0, v1_1, jI a1.Fn]⟩, v2, jI a3] w (Ret fun u_ w_ => u_ = .tuple ⟨[jI r.1, jI r.2.1]⟩ ∧ SL w FF w_ [Sl Ty.bool v0_0 r.2.2.Has, Sl A0w v0_1 r.2.2.Frame, Sl Ty.bool v0_2 r.2.2.AJs, Sl (Ty.int .i64) v0_3 r.2.2.Taken]) := by
 have s0 : SL w FF w [Sl Ty.bool v0_0 a0.Has, Sl A0w v0_1 a0.Frame, Sl Ty.bool v0_2 a0.AJs, Sl (Ty.int .i64) v0_3 a0.Taken] := SL.init w FF hst
 refine cin func83 ntmps83 2 rfl rfl rfl fun _ F0 => ?_
 unfold AQ2 at H
 refine Ar F0 s0 rfl rfl rfl fun g0 w0 _ F s1 => Ar F s1 rfl rfl rfl fun g1 w1 _ F s2 => ?_
 obtain ⟨x0, h0, H⟩ := Aa H
 obtain ⟨a4, h1, h2⟩ := Ax Flat.bool s2 m4 A73 rfl h0
 refine gw 7 F rfl fun _ F => gld F s2 m1 1 rfl fun _ F => gi F h1 0 rfl fun _ F => ?_
 refine Bf (y' := false) Flat.bool F s2.f4 h2 h0 rfl rfl (by rfl) AYa fun w2 _ F s3 => ?_
 refine gw 7 F rfl fun _ F => gx F (Ak rfl underlying42 (fR hr2 s3)) 3 rfl rfl fun _ F => gif F H 9 6 rfl rfl rfl (fun h3 H _ F => ?_) (fun h3 H _ F => ?_)
 ·cases H
  exact rt F ⟨rfl, s3.f1.drop.f1.drop.f3.f1.f3.f3⟩
 obtain ⟨x1, h4, H⟩ := Aa H
 refine gca F s3 (AWj (hr2.Ajq s3) h4) 3 rfl rfl rfl rfl fun w3 _ F s4 => Af F s4 APa rfl rfl fun g2 w4 _ F s5 => Ah F s5 rfl rfl AOo (Ab rfl (Ab rfl (Ab rfl (Ab rfl Ap)))) (Ac rfl) fun w5 _ F s6 => gw 10 F rfl fun _ F => gif F H 10 5 rfl rfl rfl (fun h5 H _ F => ?_) (fun h5 H _ F => ?_)
 ·cases H
  exact rt F ⟨rfl, s6.drop.f1.drop.f1.drop.f3.f1.f3.f3⟩
 obtain ⟨x2, h6, H⟩ := Aa H
 refine gld F s6 m0 0 rfl fun _ F => gca F s6 (AVf h6) 6 rfl rfl rfl rfl fun w6 _ F s7 => ?_
 obtain ⟨x3, h7, H⟩ := Aa H
 refine gld F s7 m3 2 rfl fun _ F => gca F s7 (Bbc (a0 := (⟨a0.Has, a0.Frame, (a0.AJs.set a3.toNat false), a0.Taken⟩ : Aiw)) (s7.rd0 m4) (s7.rd0 m5) (s7.rd0 m1) (s7.rd0 m6) h7) 2 rfl rfl rfl rfl fun w7 _ F s8 => gif F H 9 5 rfl rfl rfl (fun h8 H _ F => ?_) (fun h8 H _ F => ?_)
 ·cases H
  exact rt F ⟨rfl, s8.drop.f1.drop.f1.drop.f3.f1.f3.f3⟩
 obtain ⟨x4, h9, H⟩ := Aa H
 obtain ⟨a5, ha, hb⟩ := Ax (Flat.int .i64) s8 m6 Awy rfl h9
 refine gld F s8 m3 2 rfl fun _ F => gi F ha 0 rfl fun _ F => ?_
 refine Bf (y' := x2) (Flat.int .i64) F s8.f6 hb h9 rfl rfl (by rfl) AYu fun w8 _ F s9 => ?_
 obtain ⟨x5, hc, H⟩ := Aa H
 obtain ⟨x6, hd, H⟩ := Aa H
 refine gw 3 F rfl fun _ F => AJp Aq8 s9 ?_
 have sa := s9.drew
 obtain ⟨a6, he, hf⟩ := ASr AC2 (fun _ hC => (hC.A59 m6)) sa AOh rfl hc
 refine hq [0, 1, 2, 3, 4, 5, 6] F sa (QI.ld m3 rfl <| QI.ev 1 rfl <| QI.ld m4 rfl <| QI.ev 1 rfl <| QI.ix he rfl <| QI.op rfl (fun _ hC => Aw Aoi rfl (hf _ hC) (by simp)) rfl <| QI.ld m1 rfl <| QI.nil) (by kernel_rfl) fun _ F => ?_
 refine ANb [0, 1, 2, 3, 4, 5, 6, 7, 8, 9, 10, 11, 12] (fun a w_ => ∃ g3 : Nat, Fr a 97 [(2, v2), (3, jI a3), (4, jP g0), (5, jP g1), (10, jP g2), (11, jI x1.2), (13, jP g3), (59, jI x6.2)] ∧ SL w FF w_ [Sl (Ty.int .i64) v0_3 (a0.Taken.set a3.toNat x2), Blk g2 79 [jI x1.1.At, jU (x1.1.Op.toNat : Int), jI x1.1.A, jI x1.1.B], Sl Ty.bool v0_2 (a0.AJs.set a3.toNat false), Blk g1 110 [v1_0, v1_1, jI a1.Fn], Blk g0 164 [v0_0, v0_1, v0_2, v0_3], Sl Ty.bool v0_0 a0.Has, Sl A0w v0_1 a0.Frame, Blk g3 118 (jI x6.1.Locals :: jI x6.1.Height :: ev8 x6.1.Slots)]) ?_ fun hD0 => ?_
 ·rintro a w_ ⟨g3, F, sc⟩
  refine hq [13] F sc.f7.drop (QI.ev 1 rfl <| QI.nil) (by kernel_rfl) fun _ F => ?_
  refine ANu (by kernel_rfl) ?_
  refine ge 8 F rfl fun _ F => gif F H 10 4 rfl rfl rfl (fun hg H _ F => ?_) (fun hg H _ F => ?_)
  ·cases H
   exact rt F ⟨rfl, sc.f1.drop.f2.drop.f2.drop.f4.drop.f1.f3.f3⟩
  obtain ⟨x7, hh, H⟩ := Aa H
  refine gld F sc m1 1 rfl fun _ F => gx F (Ak rfl underlying42 (fR hr2 sc)) 0 rfl rfl fun _ F => std F (Bjd hh) fun v0 w9 _ hi F => ?_
  obtain ⟨v1, rfl, hj⟩ := hi
  have sd := sc.add hj
  refine gw 14 F rfl fun _ F => gif F H 10 8 rfl rfl rfl (fun hk H _ F => ?_) (fun hk H _ F => ?_)
  ·cases H
   exact rt F ⟨rfl, sd.drop.f1.drop.f2.drop.f2.drop.f4.drop.f1.f3.f3⟩
  obtain ⟨o0, H0, R0⟩ := Aa H
  clear H
  refine At9 (fun a w_ => ∃ p0 : (List Int) × (List Bool) × (List Bool) × (List Aas), o0 = .inr (p0) ∧ Fr a 97 [] ∧ SL w FF w_ [Sl (Ty.int .i64) v0_3 p0.1, Sl Ty.bool v0_2 p0.2.1, Sl Ty.bool v0_0 p0.2.2.1, Sl A0w v0_1 p0.2.2.2]) ?_ ?_
  ·have H := H0
   refine gc 1 F rfl fun _ F => lpk (ANg a1 x6 x7) (fun se a w_ => Fr a 97 [(4, jP g0), (5, jP g1), (13, jP g3), (14, v1), (15, jI se.2.2.2.2)] ∧ SL w FF w_ [Sl (Ty.int .i64) v1 x7.1, Sl (Ty.int .i64) v0_3 se.1, Sl Ty.bool v0_2 se.2.1, Blk g1 110 [v1_0, v1_1, jI a1.Fn], Blk g0 164 [v0_0, v0_1, v0_2, v0_3], Sl Ty.bool v0_0 se.2.2.1, Sl A0w v0_1 se.2.2.2.1, Blk g3 118 (jI x6.1.Locals :: jI x6.1.Height :: ev8 x6.1.Slots)]) H ?_ ?_
   ·exact ⟨F.sb, sd.f2.drop⟩
   intro se _ wa hl o1 H hr
   obtain ⟨F, sf⟩ := hl
   replace H : ANg a1 x6 x7 se = some o1 := H
   unfold ANg at H
   refine gc 5 F rfl fun _ F => gx F (Ak rfl underlying28 (fO sf m0)) 3 rfl rfl fun _ F => gif F H 5 4 rfl rfl rfl (fun hm H _ F => ?_) (fun hm H _ F => ?_)
   ·obtain ⟨x8, hn, H⟩ := Aa H
    obtain ⟨x9, hp, H⟩ := Aa H
    refine AJp Aq8 sf.f1.drop.f1.drop.f3.drop.f3.drop ?_
    have sg := sf.drew.f1.drop.f1.drop.f3.drop.f3.drop
    obtain ⟨a7, hs, ht⟩ := ASr (Flat.int .i64) (fun _ hC => (hC.A59 m0)) sg Awy rfl hn
    refine hq [0, 1, 2, 3, 4, 5, 6, 7] F sg (QI.ld m2 rfl <| QI.ev 1 rfl <| QI.ld m1 rfl <| QI.ev 2 rfl <| QI.ix hs rfl <| QI.op rfl (fun _ hC => Ao AAd rfl (Aqa.at_ (ht _ hC) (o := 0) rfl)) rfl <| QI.op rfl (fun _ hC => Aw Aoi rfl (hC.ANx m3 (o := 0) (ds := (jI x6.1.Locals :: jI x6.1.Height :: ev8 x6.1.Slots)) (ATv (pre := []) rfl rfl)) (by simp)) rfl <| QI.nil) (by kernel_rfl) fun _ F => ?_
    refine ho 8 rfl (by kernel_rfl) ?_
    obtain ⟨G0, hu, hv, hw, hx⟩ := SL.open_ (ps := [Sl Ty.bool v0_0 se.2.2.1, Sl A0w v0_1 se.2.2.2.1, Sl Ty.bool v0_2 se.2.1, Sl (Ty.int .i64) v0_3 se.1]) (rest := [Sl (Ty.int .i64) v1 x7.1, Blk g1 110 [v1_0, v1_1, jI a1.Fn], Blk g0 164 [v0_0, v0_1, v0_2, v0_3], Blk g3 118 (jI x6.1.Locals :: jI x6.1.Height :: ev8 x6.1.Slots)]) sf.drew.f1.f2.f6.f6
    refine std F (Bc5 (a0 := (⟨se.2.2.1, se.2.2.2.1, se.2.1, se.1⟩ : Aiw)) hu (hr1_0.pass sf.drew.f1.f2.f6.f6 hv) hp) fun v3 wb _ hy F => ?_
    obtain ⟨rfl, hz⟩ := hy
    have sh := hx _ _ hz
    refine gw 1 F rfl fun _ F => ⟨sh.drop.drop.drop.drop, ?_⟩
    refine hq [9] F sh.drop.drop.drop.drop (QI.ev 1 rfl <| QI.nil) (by kernel_rfl) fun _ F => ?_
    refine ANu (by kernel_rfl) ?_
    refine ge 7 F rfl fun _ F => gif F H 4 8 rfl rfl rfl (fun h10 H _ F => ?_) (fun h10 H _ F => ?_)
    ·obtain ⟨xa, h11, H⟩ := Aa H
     obtain ⟨a8, h12, h13⟩ := Ax (Flat.int .i64) sh m4 Awy rfl h11
     refine gi F h12 0 rfl fun _ F => ?_
     cases H
     obtain rfl := hr _ rfl
     replace H := R0
     try dsimp only at H
     cases H
     exact gx F (Ao AAd rfl (Aqa.at_ (SL.AN4 (Flat.int .i64) sh m4 h13 h11) (o := 0) rfl)) 12 rfl rfl fun _ F => rt F ⟨rfl, sh.f4.drop.f4.drop.f4.drop.f4.drop⟩
    cases H
    exact ⟨_, rfl, F.sb, sh.f7.f2.f2.f7.f7.f5.f6.f7⟩
   cases H
   obtain rfl := hr _ rfl
   exact ⟨_, rfl, F.sb, sf.drop.f2.drop.f2.drop.f4.drop⟩
  intro _ wc hJ
  obtain ⟨p0, rfl, F, si⟩ := hJ
  have H := R0
  clear R0 H0
  try dsimp only at H
  cases H
  exact ge 8 F rfl fun _ F => rt F ⟨rfl, si.f1.f3.f3⟩
 refine ho2 7 11 rfl rfl (by kernel_rfl) ?_ ?_
 ·refine gca F sa (Bau (a0 := (⟨a1.Classes, a1.Akq, a1.Fn⟩ : Adb)) (hr1_0.Ajq sa) (hr1_1.Ajq sa) hd) 1 rfl rfl rfl rfl fun wd _ F sj => ⟨sj, ?_⟩
  refine hq [8, 9, 10] F sj (QI.ev 3 rfl <| QI.nil) (by kernel_rfl) fun _ F => ?_
  refine ho 11 rfl (by kernel_rfl) ?_
  refine Af F sj Ajp rfl rfl fun g3 we _ F sk => gw 1 F rfl fun _ F => ⟨sk.drop, ?_⟩
  refine ho 12 rfl (by kernel_rfl) ?_
  refine Akj (ds := (jI x6.1.Locals :: jI x6.1.Height :: ev8 x6.1.Slots)) F sk rfl rfl (by simpa using Amy) (Ab rfl (Ab rfl (Ape _))) (by simp) fun wf _ F sl => ?_
  exact gw 1 F rfl fun _ F => ⟨sl.drop, hto hD0 ⟨g3, F.sb, sl.f7.f7.f7.f7.f7.f7.f7⟩ (by kernel_rfl)⟩
 refine Af F sa Ajp rfl rfl fun g3 we _ F sk => gw 1 F rfl fun _ F => ⟨sk.drop, ?_⟩
 refine ho 7 rfl (by kernel_rfl) ?_
 refine gca F sk (Bau (a0 := (⟨a1.Classes, a1.Akq, a1.Fn⟩ : Adb)) (hr1_0.Ajq sk) (hr1_1.Ajq sk) hd) 1 rfl rfl rfl rfl fun wd _ F sj => ⟨sj.drop, ?_⟩
 refine hq [8, 9, 10] F sj.drop (QI.ev 3 rfl <| QI.nil) (by kernel_rfl) fun _ F => ?_
 refine ho 12 rfl (by kernel_rfl) ?_
 refine Akj (ds := (jI x6.1.Locals :: jI x6.1.Height :: ev8 x6.1.Slots)) F sj rfl rfl (by simpa using Amy) (Ab rfl (Ab rfl (Ape _))) (by simp) fun wf _ F sl => ?_
 exact gw 1 F rfl fun _ F => ⟨sl.drop, hto hD0 ⟨g3, F.sb, sl.f7.f7.f7.f7.f7.f7.f7⟩ (by kernel_rfl)⟩
theorem Bfk {w : World} {v0_0 v0_1 v2 : Value} {a0 : Adb} {a1 : Int} {a2 : List UInt8} {r : (List A1g) × Int × Int} (hr0_0 : Rd Aef w [] v0_0 a0.Classes) (hr0_1 : Rd Ate w [] v0_1 a0.Akq) (hr2 : Rd Ty.u8 w [] v2 a2) (H : ATl a0 a1 a2 = some r) :
    Calls prog 56 #[.agg ⟨[v0_0, v0_1, jI a0.Fn]⟩, jI a1, v2] w (Ret fun u_ w_ => ∃ u0 : Value, u_ = .tuple ⟨[u0, jI r.2.1, jI r.2.2]⟩ ∧ SL w [] w_ [Sl AOd u0 r.1]) := by
 have s0 : SL w [] w [] := SL.Aq9 w
 refine cin func56 ntmps56 2 rfl rfl rfl fun _ F0 => ?_
 unfold ATl at H
 refine Ar F0 s0 rfl rfl rfl fun g8 w9 _ F s1 => ?_
 obtain ⟨x0, h0, H⟩ := Aa H
 refine gw 7 F rfl fun _ F => gld F s1 m0 1 rfl fun _ F => gca F s1 (Bia (a0 := (⟨a0.Classes, a0.Akq, a0.Fn⟩ : Adb)) (hr0_0.Ajq s1) (hr0_1.Ajq s1) h0) 10 rfl rfl rfl rfl fun w0 _ F s2 => gif F H 10 5 rfl rfl rfl (fun h1 H _ F => ?_) (fun h1 H _ F => ?_)
 ·cases H
  exact rt F ⟨(.slice none 0 0), rfl, (SL.Axc (T := AOd) s2).f1.drop⟩
 refine gx F (Ak rfl underlying42 (fR hr2 s2)) 10 rfl rfl fun _ F => gif F H 9 3 rfl rfl rfl (fun h2 H _ F => ?_) (fun h2 H _ F => ?_)
 ·cases H
  exact rt F ⟨(.slice none 0 0), rfl, (SL.Axc (T := AOd) s2).f1.drop⟩
 obtain ⟨x1, h3, H⟩ := Aa H
 obtain ⟨x2, h4, H⟩ := Aa H
 obtain ⟨x3, h5, H⟩ := Aa H
 obtain ⟨x4, h6, H⟩ := Aa H
 refine AJp Aq8 s2 ?_
 have s3 := s2.drew
 refine hq [0, 1, 3, 4, 6, 7, 9, 10] F s3 (QI.ev 8 rfl <| QI.nil) (by kernel_rfl) fun _ F => ?_
 refine ANb [0, 1, 2, 3, 4, 5, 6, 7, 8, 9, 10, 11, 12, 13] (fun a w_ => ∃ g0 : Nat, ∃ v0 : Value, ∃ v1 : Value, ∃ v3 : Value, ∃ v4 : Value, Fr a 103 [(1, jI a1), (2, v2), (3, jP g8), (10, jI (a2.length : Int)), (11, jP g0), (41, .agg ⟨[v0, v1, v3, v4]⟩)] ∧ SL w [] w_ [Blk g8 110 [v0_0, v0_1, jI a0.Fn], Sl Ty.bool v0 x1, Sl A0w v1 x2, Sl Ty.bool v3 x3, Sl (Ty.int .i64) v4 x4, Blk g0 164 [.slice none 0 0, .slice none 0 0, .slice none 0 0, .slice none 0 0]]) ?_ fun hD0 => ?_
 ·rintro a w_ ⟨g0, v0, v1, v3, v4, F, s4⟩
  refine ho 14 rfl (by kernel_rfl) ?_
  have s5 := s4.f5
  refine Ah F s5 rfl rfl Bw6 (Ab (Aq (fO s5 m2)) (Ab (Aq (fO s5 m3)) (Ab (Aq (fO s5 m4)) (Ab (Aq (fO s5 m5)) Ap)))) (Ac rfl) fun w1 _ F s6 => gw 1 F rfl fun _ F => ⟨s6.drop.f1.drop.f1.drop.f1.drop.f1.drop, ?_⟩
  refine ANu (by kernel_rfl) ?_
  obtain ⟨x5, h7, H⟩ := Aa H
  obtain ⟨x6, h8, H⟩ := Aa H
  refine ge 2 F rfl fun _ F => AJp Aq8 s6 ?_
  have s7 := s6.drew
  obtain ⟨a3, c0, G0, h9, ha, hb, hc⟩ := Rd.idx hr0_1 APh rfl h7
  obtain ⟨v5, rfl, hd⟩ := (ARn hb hc)
  have hc231_ := ha; clear ha; have ha := fun w_ (hC : SL w [] w_ [Blk g0 164 [v0, v1, v3, v4], Blk g8 110 [v0_0, v0_1, jI a0.Fn], Sl Ty.bool v0 x1, Sl A0w v1 x2, Sl Ty.bool v3 x3, Sl (Ty.int .i64) v4 x4]) => hc231_ _ _ hC
  refine hq [0, 1, 2, 3, 4, 5, 6, 7, 8, 9] F s7 (QI.ev 1 rfl <| QI.ld m1 rfl <| QI.ev 1 rfl <| QI.ld m1 rfl <| QI.ev 1 rfl <| QI.ld m1 rfl <| QI.ix h9 rfl <| QI.op rfl (fun _ hC => Ba Bad rfl) rfl <| QI.op rfl (fun _ hC => Ao AZ0 rfl (Aqa.at_ (ha _ hC) (o := 0) rfl)) rfl <| QI.ev 1 rfl <| QI.nil) (by kernel_rfl) fun _ F => ?_
  refine ANb [0, 1, 2, 3, 4, 5, 6, 7, 8, 9, 10, 11, 12, 13, 14, 15] (fun a w_ => ∃ g1 : Nat, Fr a 103 [(2, v2), (3, jP g8), (10, jI (a2.length : Int)), (11, jP g0), (12, jP g1), (55, jI x6.2)] ∧ SL w [] w_ [Blk g0 164 [v0, v1, v3, v4], Blk g8 110 [v0_0, v0_1, jI a0.Fn], Sl Ty.bool v0 x1, Sl A0w v1 x2, Sl Ty.bool v3 x3, Sl (Ty.int .i64) v4 x4, Blk g1 118 (jI x6.1.Locals :: jI x6.1.Height :: ev8 x6.1.Slots)]) ?_ fun hD0 => ?_
  ·rintro a w_ ⟨g1, F, s8⟩
   refine hq [16] F s8.f6.drop (QI.ev 1 rfl <| QI.nil) (by kernel_rfl) fun _ F => ?_
   refine ANu (by kernel_rfl) ?_
   obtain ⟨x7, he, H⟩ := Aa H
   obtain ⟨x8, hf, H⟩ := Aa H
   obtain ⟨x9, hg, H⟩ := Aa H
   refine ge 2 F rfl fun _ F => AJp Aq8 s8.f2.drop.f2.drop.f2.drop ?_
   have s9 := s8.drew
   refine hq [0, 1, 2, 3, 4, 5, 6] F s9.f2.drop.f2.drop.f2.drop (QI.ev 1 rfl <| QI.ld m0 rfl <| QI.ev 1 rfl <| QI.ld m0 rfl <| QI.ev 1 rfl <| QI.ld m0 rfl <| QI.op rfl (fun _ hC => Aw Aoi rfl (hC.ANx m3 (o := 0) (ds := (jI x6.1.Locals :: jI x6.1.Height :: ev8 x6.1.Slots)) (ATv (pre := []) rfl rfl)) (by simp)) rfl <| QI.nil) (by kernel_rfl) fun _ F => ?_
   refine ho 7 rfl (by kernel_rfl) ?_
   obtain ⟨a4, hh, hi⟩ := Ax Flat.bool s9 m2 A73 rfl he
   refine gi F hh 1 rfl fun _ F => ⟨s9.f2.drop.f2.drop.f2.drop, ?_⟩
   refine ho 8 rfl (by kernel_rfl) ?_
   refine Bf (y' := true) Flat.bool F s9.f2 hi he rfl rfl (by rfl) AYa fun w2 _ F sa => ?_
   refine gw 1 F rfl fun _ F => ⟨sa.drop.f2.drop.f2.drop, ?_⟩
   refine ho 9 rfl (by kernel_rfl) ?_
   obtain ⟨a5, hj, hk⟩ := Ax AC2 sa m3 AOh rfl hf
   refine gi F hj 1 rfl fun _ F => ⟨sa.drop.f2.drop.f2.drop, ?_⟩
   refine ho 10 rfl (by kernel_rfl) ?_
   refine Bf (y' := (⟨x6.1.Locals, x6.1.Height, x6.1.Slots⟩ : Aas)) AC2 F sa.f3 hk hf rfl rfl (by rfl) Amy fun w3 _ F sc => ?_
   refine gw 1 F rfl fun _ F => ⟨sc.drop.drop.f2.drop, ?_⟩
   refine ho 11 rfl (by kernel_rfl) ?_
   obtain ⟨a6, hl, hm⟩ := Ax Flat.bool sc m4 A73 rfl hg
   refine gi F hl 1 rfl fun _ F => ⟨sc.drop.drop.f2.drop, ?_⟩
   refine ho 12 rfl (by kernel_rfl) ?_
   refine Bf (y' := true) Flat.bool F sc.f4 hm hg rfl rfl (by rfl) AYa fun w4 _ F sd => ?_
   refine gw 1 F rfl fun _ F => ⟨sd.drop.drop.drop, ?_⟩
   refine ANu (by kernel_rfl) ?_
   obtain ⟨o0, H0, R0⟩ := Aa H
   clear H
   refine ge 7 F rfl fun _ F => At9 (fun a w_ => ∃ p0 : (List Bool) × (List Aas) × (List Bool) × (List Int), o0 = .inr (p0) ∧ ∃ v6 v7 v8 v9 : Value, Fr a 103 [(10, jI (a2.length : Int)), (11, jP g0)] ∧ SL w [] w_ [Blk g0 164 [v6, v7, v8, v9], Sl Ty.bool v6 p0.1, Sl A0w v7 p0.2.1, Sl Ty.bool v8 p0.2.2.1, Sl (Ty.int .i64) v9 p0.2.2.2]) ?_ ?_
   ·have H := H0
    refine gc 1 F rfl fun _ F => lpk (AOn a0 a2) (fun se a w_ => ∃ va vb vc vd : Value, Fr a 103 [(2, v2), (3, jP g8), (10, jI (a2.length : Int)), (11, jP g0), (14, jI se.2.2.2.2)] ∧ SL w [] w_ [Blk g0 164 [va, vb, vc, vd], Blk g8 110 [v0_0, v0_1, jI a0.Fn], Sl Ty.bool va se.1, Sl A0w vb se.2.1, Sl Ty.bool vc se.2.2.1, Sl (Ty.int .i64) vd se.2.2.2.1]) H ?_ ?_
    ·exact ⟨v0, v1, v3, v4, F.sb, sd.f6.drop.f5.f1.f2.f3.f5.f5⟩
    intro se _ w5 hn o1 H hr
    obtain ⟨va, vb, vc, vd, F, sf⟩ := hn
    replace H : AOn a0 a2 se = some o1 := H
    unfold AOn at H
    refine gc 7 F rfl fun _ F => gif F H 6 4 rfl rfl rfl (fun hp H _ F => ?_) (fun hp H _ F => ?_)
    ·obtain ⟨xa, hs, H⟩ := Aa H
     refine gld F sf m0 0 rfl fun _ F => ?_
     have sg := sf.f5.f5.f5.f5
     obtain ⟨G1, ht, hu, hv, hw⟩ := SL.open_ (ps := [Sl Ty.bool va se.1, Sl A0w vb se.2.1, Sl Ty.bool vc se.2.2.1, Sl (Ty.int .i64) vd se.2.2.2.1]) (rest := [Blk g0 164 [va, vb, vc, vd], Blk g8 110 [v0_0, v0_1, jI a0.Fn]]) sg
     refine gld F sf m1 2 rfl fun _ F => std F (Bck (a0 := (⟨se.1, se.2.1, se.2.2.1, se.2.2.2.1⟩ : Aiw)) (a1 := (⟨a0.Classes, a0.Akq, a0.Fn⟩ : Adb)) ht (hr0_0.pass sg hu) (hr0_1.pass sg hu) (hr2.pass sg hu) hs) fun ve w6 _ hx F => ?_
     obtain ⟨rfl, hy⟩ := hx
     have sh := hw _ _ hy
     refine gw 13 F rfl fun _ F => gif F H 16 4 rfl rfl rfl (fun hz H _ F => ?_) (fun hz H _ F => ?_)
     ·cases H
      obtain rfl := hr _ rfl
      replace H := R0
      try dsimp only at H
      cases H
      exact rt F ⟨(.slice none 0 0), rfl, (SL.Axc (T := AOd) sh).f1.drop.f1.drop.f1.drop.f1.drop.f1.drop.f1.drop⟩
     obtain ⟨xb, h10, H⟩ := Aa H
     refine gld F sh m4 0 rfl fun _ F => gca F sh (Bcm (a0 := (⟨xa.2.2.Has, xa.2.2.Frame, xa.2.2.AJs, xa.2.2.Taken⟩ : Aiw)) (sh.rd0 m0) (sh.rd0 m1) (sh.rd0 m2) (sh.rd0 m3) h10) 2 rfl rfl rfl rfl fun w7 _ F si => ?_
     cases H
     exact ⟨_, rfl, va, vb, vc, vd, F.sb, si.f3.f3.f3.f3.f5.f5⟩
    cases H
    obtain rfl := hr _ rfl
    exact ⟨_, rfl, va, vb, vc, vd, F.sb, sf.f1.drop⟩
   intro _ w8 hJ
   obtain ⟨p0, rfl, v6, v7, v8, v9, F, sj⟩ := hJ
   have H := R0
   clear R0 H0
   try dsimp only at H
   obtain ⟨o2, H1, R1⟩ := Aa H
   clear H
   refine ge 12 F rfl fun _ F => At9 (fun a w_ => ∃ vf : Value, Fr a 103 [(17, vf)] ∧ SL w [] w_ [Sl Ty.bool v6 p0.1, Sl A0w v7 p0.2.1, Sl Ty.bool v8 p0.2.2.1, Sl (Ty.int .i64) v9 p0.2.2.2, Sl AOd vf o2]) ?_ ?_
   ·have H := H1
    refine gc 1 F rfl fun _ F => lpk (APl a2 p0) (fun sk a w_ => ∃ vg : Value, Fr a 103 [(10, jI (a2.length : Int)), (11, jP g0), (17, vg), (18, jI sk.2)] ∧ SL w [] w_ [Blk g0 164 [v6, v7, v8, v9], Sl Ty.bool v6 p0.1, Sl A0w v7 p0.2.1, Sl Ty.bool v8 p0.2.2.1, Sl (Ty.int .i64) v9 p0.2.2.2, Sl AOd vg sk.1]) H ?_ ?_
    ·exact ⟨(.slice none 0 0), F.sb, (SL.Axc (T := AOd) sj).f5.f5.f5.f5.f5⟩
    intro sk _ wa h11 o3 H hr
    obtain ⟨vg, F, sl⟩ := h11
    replace H : APl a2 p0 sk = some o3 := H
    unfold APl at H
    refine gc 8 F rfl fun _ F => gif F H 7 4 rfl rfl rfl (fun h12 H _ F => ?_) (fun h12 H _ F => ?_)
    ·obtain ⟨xc, h13, H⟩ := Aa H
     obtain ⟨a7, h14, h15⟩ := Ax Flat.bool sl m1 A73 rfl h13
     refine gld F sl m0 1 rfl fun _ F => gi F h14 0 rfl fun _ F => gx F (Ao Bbo rfl (Aqa.at_ (SL.AN4 Flat.bool sl m1 h15 h13) (o := 0) rfl)) 2 rfl rfl fun _ F => gif F H 4 8 rfl rfl rfl (fun h16 H _ F => ?_) (fun h16 H _ F => ?_)
     ·obtain ⟨xd, h17, H⟩ := Aa H
      obtain ⟨a8, h18, h19⟩ := Ax AC2 sl m2 AOh rfl h17
      refine gld F sl m0 1 rfl fun _ F => gi F h18 0 rfl fun _ F => ?_
      refine gx F (Aw Aoi rfl (SL.AN4 AC2 sl m2 h19 h17) (by simp)) 0 rfl rfl fun _ F => ?_
      refine gx F (Al (vs := [jI sk.2, .agg ⟨(jI xd.Locals :: jI xd.Height :: ev8 xd.Slots)⟩]) Bf9 Bqe rfl (cs := (jI sk.2 :: .bool false :: jI xd.Locals :: jI xd.Height :: ev8 xd.Slots)) (AN2 rfl rfl (by simp) <| Bpb (pre := [jI sk.2, .bool false]) (zs := jZ) (post := []) (by first | rfl | simp) (by simp) <| (by first | exact Ayf | simp [Ayf]))) 0 rfl rfl fun _ F => ?_
      refine Ae (parts := [(0, .tmp 99)]) ARz ([(⟨sk.2, false, (⟨xd.Locals, xd.Height, xd.Slots⟩ : Aas)⟩ : A1g)] : List A1g) F sl AYo rfl (by decide) rfl rfl rfl (by simp [Value.cells]) rfl rfl rfl fun vh wb _ F sm => ?_
      obtain ⟨xe, h1a, H⟩ := Aa H
      obtain ⟨_, hr_⟩ := (sm.f6.A59 m1)
      refine Av ARz F sm.f6 AYo rfl rfl rfl rfl hr_ rfl rfl h1a rfl fun vi wc _ F sn => ?_
      have s5945' := sn.f1.drop
      cases H
      exact gw 9 F rfl fun _ F => ⟨_, rfl, vi, F.sb, s5945'.f5.f5.f5.f5.f5⟩
     cases H
     exact ⟨_, rfl, vg, F.sb, sl⟩
    cases H
    obtain rfl := hr _ rfl
    exact ⟨vg, F.sb, sl.drop⟩
   intro _ wd hJ
   obtain ⟨vf, F, so⟩ := hJ
   have H := R1
   clear R1 H1
   cases H
   exact ge 10 F rfl fun _ F => rt F ⟨vf, rfl, so.drop.drop.drop.drop⟩
  refine ho2 10 14 rfl rfl (by kernel_rfl) ?_ ?_
  ·refine gca F s7 (AW8 (hr0_0.Ajq s7) (hd.Ajq s7) h8) 1 rfl rfl rfl rfl fun we _ F sp => ⟨sp, ?_⟩
   refine hq [11, 12, 13] F sp (QI.ev 3 rfl <| QI.nil) (by kernel_rfl) fun _ F => ?_
   refine ho 14 rfl (by kernel_rfl) ?_
   refine Af F sp Ajp rfl rfl fun g1 wf _ F sq => gw 1 F rfl fun _ F => ⟨sq.drop, ?_⟩
   refine ho 15 rfl (by kernel_rfl) ?_
   refine Akj (ds := (jI x6.1.Locals :: jI x6.1.Height :: ev8 x6.1.Slots)) F sq rfl rfl (by simpa using Amy) (Ab rfl (Ab rfl (Ape _))) (by simp) fun wg _ F sr => ?_
   exact gw 1 F rfl fun _ F => ⟨sr.drop, hto hD0 ⟨g1, F.sb, sr.f6.f6.f6.f6.f6.f6⟩ (by kernel_rfl)⟩
  refine Af F s7 Ajp rfl rfl fun g1 wf _ F sq => gw 1 F rfl fun _ F => ⟨sq.drop, ?_⟩
  refine ho 10 rfl (by kernel_rfl) ?_
  refine gca F sq (AW8 (hr0_0.Ajq sq) (hd.Ajq sq) h8) 1 rfl rfl rfl rfl fun we _ F sp => ⟨sp.drop, ?_⟩
  refine hq [11, 12, 13] F sp.drop (QI.ev 3 rfl <| QI.nil) (by kernel_rfl) fun _ F => ?_
  refine ho 15 rfl (by kernel_rfl) ?_
  refine Akj (ds := (jI x6.1.Locals :: jI x6.1.Height :: ev8 x6.1.Slots)) F sp rfl rfl (by simpa using Amy) (Ab rfl (Ab rfl (Ape _))) (by simp) fun wg _ F sr => ?_
  exact gw 1 F rfl fun _ F => ⟨sr.drop, hto hD0 ⟨g1, F.sb, sr.f6.f6.f6.f6.f6.f6⟩ (by kernel_rfl)⟩
 refine ANb [0, 1, 2, 3, 4, 5, 6, 7, 8, 9, 10, 11, 13] (fun a w_ => ∃ g0 : Nat, ∃ v0 : Value, ∃ v1 : Value, ∃ v3 : Value, ∃ v4 : Value, Fr a 103 [(1, jI a1), (2, v2), (3, jP g8), (10, jI (a2.length : Int)), (11, jP g0), (31, v0), (34, v1), (37, v3), (40, v4)] ∧ SL w [] w_ [Blk g8 110 [v0_0, v0_1, jI a0.Fn], Sl Ty.bool v0 x1, Sl A0w v1 x2, Sl Ty.bool v3 x3, Sl (Ty.int .i64) v4 x4, Blk g0 164 [.slice none 0 0, .slice none 0 0, .slice none 0 0, .slice none 0 0]]) ?_ fun hD1 => ?_
 ·rintro a w_ ⟨g0, v0, v1, v3, v4, F, ss⟩
  refine ho 12 rfl (by kernel_rfl) ?_
  have h1b := (fO ss m1)
  have h1c := (fO ss m2)
  have h1d := (fO ss m3)
  have h1e := (fO ss m4)
  refine gx F (Al (vs := [v0, v1, v3, v4]) AN8 Bqb rfl (cs := [v0, v1, v3, v4]) (AN2 rfl (Ag h1b) (by simp) <| AN2 rfl (Ag h1c) (by simp) <| AN2 rfl (Ag h1d) (by simp) <| AN2 rfl (Ag h1e) (by simp) <| Ayf)) 1 rfl rfl fun _ F => ?_
  exact ⟨ss.f1.drop.f1.drop.f1.drop.f1.drop.f1.drop, hto hD0 ⟨g0, v0, v1, v3, v4, F.sb, ss⟩ (by kernel_rfl)⟩
 refine ANb [0, 1, 2, 3, 4, 5, 6, 7, 8, 9, 10, 11] (fun a w_ => ∃ v0 : Value, ∃ v1 : Value, ∃ v3 : Value, ∃ v4 : Value, Fr a 103 [(1, jI a1), (2, v2), (3, jP g8), (10, jI (a2.length : Int)), (31, v0), (34, v1), (37, v3), (40, v4)] ∧ SL w [] w_ [Blk g8 110 [v0_0, v0_1, jI a0.Fn], Sl Ty.bool v0 x1, Sl A0w v1 x2, Sl Ty.bool v3 x3, Sl (Ty.int .i64) v4 x4]) ?_ fun hD2 => ?_
 ·rintro a w_ ⟨v0, v1, v3, v4, F, st⟩
  refine ho2 12 13 rfl rfl (by kernel_rfl) ?_ ?_
  ·have h1b := (fO st m1)
   have h1c := (fO st m2)
   have h1d := (fO st m3)
   have h1e := (fO st m4)
   refine gx F (Al (vs := [v0, v1, v3, v4]) AN8 Bqb rfl (cs := [v0, v1, v3, v4]) (AN2 rfl (Ag h1b) (by simp) <| AN2 rfl (Ag h1c) (by simp) <| AN2 rfl (Ag h1d) (by simp) <| AN2 rfl (Ag h1e) (by simp) <| Ayf)) 1 rfl rfl fun _ F => ?_
   refine ⟨st.f1.drop.f1.drop.f1.drop.f1.drop, ?_⟩
   refine ho 13 rfl (by kernel_rfl) ?_
   exact Af F st AN8 rfl rfl fun g0 wh _ F su => gw 1 F rfl fun _ F => ⟨su.drop.f1.drop.f1.drop.f1.drop.f1.drop, hto hD0 ⟨g0, v0, v1, v3, v4, F.sb, su.f5.f5.f5.f5.f5⟩ (by kernel_rfl)⟩
  exact Af F st AN8 rfl rfl fun g0 wh _ F su => gw 1 F rfl fun _ F => ⟨su.drop.f1.drop.f1.drop.f1.drop.f1.drop, hto hD1 ⟨g0, v0, v1, v3, v4, F.sb, su.f5.f5.f5.f5.f5⟩ (by kernel_rfl)⟩
 refine ANb [0, 1, 2, 3, 4, 5, 6, 7, 8, 9, 10, 13] (fun a w_ => ∃ g0 : Nat, ∃ v0 : Value, ∃ v1 : Value, ∃ v3 : Value, Fr a 103 [(1, jI a1), (2, v2), (3, jP g8), (10, jI (a2.length : Int)), (11, jP g0), (31, v0), (34, v1), (37, v3), (39, jI (wr ((a2.length : Int) + 1)))] ∧ SL w [] w_ [Blk g8 110 [v0_0, v0_1, jI a0.Fn], Sl Ty.bool v0 x1, Sl A0w v1 x2, Sl Ty.bool v3 x3, Blk g0 164 [.slice none 0 0, .slice none 0 0, .slice none 0 0, .slice none 0 0]]) ?_ fun hD3 => ?_
 ·rintro a w_ ⟨g0, v0, v1, v3, F, sv⟩
  refine ho 11 rfl (by kernel_rfl) ?_
  exact Au (Flat.int .i64) (0 : Int) F sv Awy rfl rfl AP6 rfl rfl rfl h6 rfl fun v4 wi _ F sw => gw 1 F rfl fun _ F => ⟨sw.drop.f1.drop.f1.drop.f1.drop.f1.drop, hto hD1 ⟨g0, v0, v1, v3, v4, F.sb, sw.f5.f1.f5.f5.f5.f5⟩ (by kernel_rfl)⟩
 refine ANb [0, 1, 2, 3, 4, 5, 6, 7, 8, 9, 10] (fun a w_ => ∃ v0 : Value, ∃ v1 : Value, ∃ v3 : Value, Fr a 103 [(1, jI a1), (2, v2), (3, jP g8), (10, jI (a2.length : Int)), (31, v0), (34, v1), (37, v3), (39, jI (wr ((a2.length : Int) + 1)))] ∧ SL w [] w_ [Blk g8 110 [v0_0, v0_1, jI a0.Fn], Sl Ty.bool v0 x1, Sl A0w v1 x2, Sl Ty.bool v3 x3]) ?_ fun hD4 => ?_
 ·rintro a w_ ⟨v0, v1, v3, F, sx⟩
  refine ho2 11 13 rfl rfl (by kernel_rfl) ?_ ?_
  ·exact Au (Flat.int .i64) (0 : Int) F sx Awy rfl rfl AP6 rfl rfl rfl h6 rfl fun v4 wi _ F sw => gw 1 F rfl fun _ F => ⟨sw.drop.f1.drop.f1.drop.f1.drop, hto hD2 ⟨v0, v1, v3, v4, F.sb, sw.f4.f4.f4.f4⟩ (by kernel_rfl)⟩
  exact Af F sx AN8 rfl rfl fun g0 wh _ F su => gw 1 F rfl fun _ F => ⟨su.drop.f1.drop.f1.drop.f1.drop, hto hD3 ⟨g0, v0, v1, v3, F.sb, su.f4.f4.f4.f4⟩ (by kernel_rfl)⟩
 refine ANb [0, 1, 2, 3, 4, 5, 6, 7, 9, 10, 11, 13] (fun a w_ => ∃ g0 : Nat, ∃ v0 : Value, ∃ v1 : Value, ∃ v4 : Value, Fr a 103 [(1, jI a1), (2, v2), (3, jP g8), (10, jI (a2.length : Int)), (11, jP g0), (31, v0), (34, v1), (36, jI (wr ((a2.length : Int) + 1))), (40, v4)] ∧ SL w [] w_ [Blk g8 110 [v0_0, v0_1, jI a0.Fn], Sl Ty.bool v0 x1, Sl A0w v1 x2, Sl (Ty.int .i64) v4 x4, Blk g0 164 [.slice none 0 0, .slice none 0 0, .slice none 0 0, .slice none 0 0]]) ?_ fun hD5 => ?_
 ·rintro a w_ ⟨g0, v0, v1, v4, F, sy⟩
  refine ho 8 rfl (by kernel_rfl) ?_
  exact Au Flat.bool false F sy A73 rfl rfl AFl rfl rfl rfl h5 rfl fun v3 wj _ F sz => gw 1 F rfl fun _ F => ⟨sz.drop.f1.drop.f1.drop.f1.drop.f1.drop, hto hD1 ⟨g0, v0, v1, v3, v4, F.sb, sz.f5.f5.f2.f5.f5.f5⟩ (by kernel_rfl)⟩
 refine ANb [0, 1, 2, 3, 4, 5, 6, 7, 9, 10, 11] (fun a w_ => ∃ v0 : Value, ∃ v1 : Value, ∃ v4 : Value, Fr a 103 [(1, jI a1), (2, v2), (3, jP g8), (10, jI (a2.length : Int)), (31, v0), (34, v1), (36, jI (wr ((a2.length : Int) + 1))), (40, v4)] ∧ SL w [] w_ [Blk g8 110 [v0_0, v0_1, jI a0.Fn], Sl Ty.bool v0 x1, Sl A0w v1 x2, Sl (Ty.int .i64) v4 x4]) ?_ fun hD6 => ?_
 ·rintro a w_ ⟨v0, v1, v4, F, s10⟩
  refine ho2 8 13 rfl rfl (by kernel_rfl) ?_ ?_
  ·exact Au Flat.bool false F s10 A73 rfl rfl AFl rfl rfl rfl h5 rfl fun v3 wj _ F sz => gw 1 F rfl fun _ F => ⟨sz.drop.f1.drop.f1.drop.f1.drop, hto hD2 ⟨v0, v1, v3, v4, F.sb, sz.f4.f1.f4.f4.f4⟩ (by kernel_rfl)⟩
  exact Af F s10 AN8 rfl rfl fun g0 wh _ F su => gw 1 F rfl fun _ F => ⟨su.drop.f1.drop.f1.drop.f1.drop, hto hD5 ⟨g0, v0, v1, v4, F.sb, su.f4.f4.f4.f4⟩ (by kernel_rfl)⟩
 refine ANb [0, 1, 2, 3, 4, 5, 6, 7, 9, 10, 13] (fun a w_ => ∃ g0 : Nat, ∃ v0 : Value, ∃ v1 : Value, Fr a 103 [(1, jI a1), (2, v2), (3, jP g8), (10, jI (a2.length : Int)), (11, jP g0), (31, v0), (34, v1), (36, jI (wr ((a2.length : Int) + 1))), (39, jI (wr ((a2.length : Int) + 1)))] ∧ SL w [] w_ [Blk g8 110 [v0_0, v0_1, jI a0.Fn], Sl Ty.bool v0 x1, Sl A0w v1 x2, Blk g0 164 [.slice none 0 0, .slice none 0 0, .slice none 0 0, .slice none 0 0]]) ?_ fun hD7 => ?_
 ·rintro a w_ ⟨g0, v0, v1, F, s11⟩
  refine ho2 8 11 rfl rfl (by kernel_rfl) ?_ ?_
  ·exact Au Flat.bool false F s11 A73 rfl rfl AFl rfl rfl rfl h5 rfl fun v3 wj _ F sz => gw 1 F rfl fun _ F => ⟨sz.drop.f1.drop.f1.drop.f1.drop, hto hD3 ⟨g0, v0, v1, v3, F.sb, sz.f4.f1.f4.f4.f4⟩ (by kernel_rfl)⟩
  exact Au (Flat.int .i64) (0 : Int) F s11 Awy rfl rfl AP6 rfl rfl rfl h6 rfl fun v4 wi _ F sw => gw 1 F rfl fun _ F => ⟨sw.drop.f1.drop.f1.drop.f1.drop, hto hD5 ⟨g0, v0, v1, v4, F.sb, sw.f4.f1.f4.f4.f4⟩ (by kernel_rfl)⟩
 refine ANb [0, 1, 2, 3, 4, 5, 6, 7, 9, 10] (fun a w_ => ∃ v0 : Value, ∃ v1 : Value, Fr a 103 [(1, jI a1), (2, v2), (3, jP g8), (10, jI (a2.length : Int)), (31, v0), (34, v1), (36, jI (wr ((a2.length : Int) + 1))), (39, jI (wr ((a2.length : Int) + 1)))] ∧ SL w [] w_ [Blk g8 110 [v0_0, v0_1, jI a0.Fn], Sl Ty.bool v0 x1, Sl A0w v1 x2]) ?_ fun hD8 => ?_
 ·rintro a w_ ⟨v0, v1, F, s13⟩
  refine ho3 8 11 13 rfl rfl rfl (by kernel_rfl) ?_ ?_ ?_
  ·exact Au Flat.bool false F s13 A73 rfl rfl AFl rfl rfl rfl h5 rfl fun v3 wj _ F sz => gw 1 F rfl fun _ F => ⟨sz.drop.f1.drop.f1.drop, hto hD4 ⟨v0, v1, v3, F.sb, sz.f3.f3.f3⟩ (by kernel_rfl)⟩
  ·exact Au (Flat.int .i64) (0 : Int) F s13 Awy rfl rfl AP6 rfl rfl rfl h6 rfl fun v4 wi _ F sw => gw 1 F rfl fun _ F => ⟨sw.drop.f1.drop.f1.drop, hto hD6 ⟨v0, v1, v4, F.sb, sw.f3.f3.f3⟩ (by kernel_rfl)⟩
  exact Af F s13 AN8 rfl rfl fun g0 wh _ F su => gw 1 F rfl fun _ F => ⟨su.drop.f1.drop.f1.drop, hto hD7 ⟨g0, v0, v1, F.sb, su.f3.f3.f3⟩ (by kernel_rfl)⟩
 refine ANb [0, 1, 2, 3, 4, 6, 7, 8, 9, 10, 11, 13] (fun a w_ => ∃ g0 : Nat, ∃ v0 : Value, ∃ v3 : Value, ∃ v4 : Value, Fr a 103 [(1, jI a1), (2, v2), (3, jP g8), (10, jI (a2.length : Int)), (11, jP g0), (31, v0), (33, jI (wr ((a2.length : Int) + 1))), (37, v3), (40, v4)] ∧ SL w [] w_ [Blk g8 110 [v0_0, v0_1, jI a0.Fn], Sl Ty.bool v0 x1, Sl Ty.bool v3 x3, Sl (Ty.int .i64) v4 x4, Blk g0 164 [.slice none 0 0, .slice none 0 0, .slice none 0 0, .slice none 0 0]]) ?_ fun hD9 => ?_
 ·rintro a w_ ⟨g0, v0, v3, v4, F, s14⟩
  refine ho 5 rfl (by kernel_rfl) ?_
  exact Au AC2 (⟨(0 : Int), (0 : Int), (Vector.replicate 24 (0 : UInt8))⟩ : Aas) F s14 AOh rfl rfl Ajp rfl rfl rfl h4 rfl fun v1 wk _ F s15 => gw 1 F rfl fun _ F => ⟨s15.drop.f1.drop.f1.drop.f1.drop.f1.drop, hto hD1 ⟨g0, v0, v1, v3, v4, F.sb, s15.f5.f5.f5.f3.f5.f5⟩ (by kernel_rfl)⟩
 refine ANb [0, 1, 2, 3, 4, 6, 7, 8, 9, 10, 11] (fun a w_ => ∃ v0 : Value, ∃ v3 : Value, ∃ v4 : Value, Fr a 103 [(1, jI a1), (2, v2), (3, jP g8), (10, jI (a2.length : Int)), (31, v0), (33, jI (wr ((a2.length : Int) + 1))), (37, v3), (40, v4)] ∧ SL w [] w_ [Blk g8 110 [v0_0, v0_1, jI a0.Fn], Sl Ty.bool v0 x1, Sl Ty.bool v3 x3, Sl (Ty.int .i64) v4 x4]) ?_ fun h1f => ?_
 ·rintro a w_ ⟨v0, v3, v4, F, s16⟩
  refine ho2 5 13 rfl rfl (by kernel_rfl) ?_ ?_
  ·exact Au AC2 (⟨(0 : Int), (0 : Int), (Vector.replicate 24 (0 : UInt8))⟩ : Aas) F s16 AOh rfl rfl Ajp rfl rfl rfl h4 rfl fun v1 wk _ F s15 => gw 1 F rfl fun _ F => ⟨s15.drop.f1.drop.f1.drop.f1.drop, hto hD2 ⟨v0, v1, v3, v4, F.sb, s15.f4.f4.f2.f4.f4⟩ (by kernel_rfl)⟩
  exact Af F s16 AN8 rfl rfl fun g0 wh _ F su => gw 1 F rfl fun _ F => ⟨su.drop.f1.drop.f1.drop.f1.drop, hto hD9 ⟨g0, v0, v3, v4, F.sb, su.f4.f4.f4.f4⟩ (by kernel_rfl)⟩
 refine ANb [0, 1, 2, 3, 4, 6, 7, 8, 9, 10, 13] (fun a w_ => ∃ g0 : Nat, ∃ v0 : Value, ∃ v3 : Value, Fr a 103 [(1, jI a1), (2, v2), (3, jP g8), (10, jI (a2.length : Int)), (11, jP g0), (31, v0), (33, jI (wr ((a2.length : Int) + 1))), (37, v3), (39, jI (wr ((a2.length : Int) + 1)))] ∧ SL w [] w_ [Blk g8 110 [v0_0, v0_1, jI a0.Fn], Sl Ty.bool v0 x1, Sl Ty.bool v3 x3, Blk g0 164 [.slice none 0 0, .slice none 0 0, .slice none 0 0, .slice none 0 0]]) ?_ fun h1g => ?_
 ·rintro a w_ ⟨g0, v0, v3, F, s17⟩
  refine ho2 5 11 rfl rfl (by kernel_rfl) ?_ ?_
  ·exact Au AC2 (⟨(0 : Int), (0 : Int), (Vector.replicate 24 (0 : UInt8))⟩ : Aas) F s17 AOh rfl rfl Ajp rfl rfl rfl h4 rfl fun v1 wk _ F s15 => gw 1 F rfl fun _ F => ⟨s15.drop.f1.drop.f1.drop.f1.drop, hto hD3 ⟨g0, v0, v1, v3, F.sb, s15.f4.f4.f2.f4.f4⟩ (by kernel_rfl)⟩
  exact Au (Flat.int .i64) (0 : Int) F s17 Awy rfl rfl AP6 rfl rfl rfl h6 rfl fun v4 wi _ F sw => gw 1 F rfl fun _ F => ⟨sw.drop.f1.drop.f1.drop.f1.drop, hto hD9 ⟨g0, v0, v3, v4, F.sb, sw.f4.f1.f4.f4.f4⟩ (by kernel_rfl)⟩
 refine ANb [0, 1, 2, 3, 4, 6, 7, 8, 9, 10] (fun a w_ => ∃ v0 : Value, ∃ v3 : Value, Fr a 103 [(1, jI a1), (2, v2), (3, jP g8), (10, jI (a2.length : Int)), (31, v0), (33, jI (wr ((a2.length : Int) + 1))), (37, v3), (39, jI (wr ((a2.length : Int) + 1)))] ∧ SL w [] w_ [Blk g8 110 [v0_0, v0_1, jI a0.Fn], Sl Ty.bool v0 x1, Sl Ty.bool v3 x3]) ?_ fun h1h => ?_
 ·rintro a w_ ⟨v0, v3, F, s18⟩
  refine ho3 5 11 13 rfl rfl rfl (by kernel_rfl) ?_ ?_ ?_
  ·exact Au AC2 (⟨(0 : Int), (0 : Int), (Vector.replicate 24 (0 : UInt8))⟩ : Aas) F s18 AOh rfl rfl Ajp rfl rfl rfl h4 rfl fun v1 wk _ F s15 => gw 1 F rfl fun _ F => ⟨s15.drop.f1.drop.f1.drop, hto hD4 ⟨v0, v1, v3, F.sb, s15.f3.f1.f3.f3⟩ (by kernel_rfl)⟩
  ·exact Au (Flat.int .i64) (0 : Int) F s18 Awy rfl rfl AP6 rfl rfl rfl h6 rfl fun v4 wi _ F sw => gw 1 F rfl fun _ F => ⟨sw.drop.f1.drop.f1.drop, hto h1f ⟨v0, v3, v4, F.sb, sw.f3.f3.f3⟩ (by kernel_rfl)⟩
  exact Af F s18 AN8 rfl rfl fun g0 wh _ F su => gw 1 F rfl fun _ F => ⟨su.drop.f1.drop.f1.drop, hto h1g ⟨g0, v0, v3, F.sb, su.f3.f3.f3⟩ (by kernel_rfl)⟩
 refine ANb [0, 1, 2, 3, 4, 6, 7, 9, 10, 11, 13] (fun a w_ => ∃ g0 : Nat, ∃ v0 : Value, ∃ v4 : Value, Fr a 103 [(1, jI a1), (2, v2), (3, jP g8), (10, jI (a2.length : Int)), (11, jP g0), (31, v0), (33, jI (wr ((a2.length : Int) + 1))), (36, jI (wr ((a2.length : Int) + 1))), (40, v4)] ∧ SL w [] w_ [Blk g8 110 [v0_0, v0_1, jI a0.Fn], Sl Ty.bool v0 x1, Sl (Ty.int .i64) v4 x4, Blk g0 164 [.slice none 0 0, .slice none 0 0, .slice none 0 0, .slice none 0 0]]) ?_ fun h1i => ?_
 ·rintro a w_ ⟨g0, v0, v4, F, s19⟩
  refine ho2 5 8 rfl rfl (by kernel_rfl) ?_ ?_
  ·exact Au AC2 (⟨(0 : Int), (0 : Int), (Vector.replicate 24 (0 : UInt8))⟩ : Aas) F s19 AOh rfl rfl Ajp rfl rfl rfl h4 rfl fun v1 wk _ F s15 => gw 1 F rfl fun _ F => ⟨s15.drop.f1.drop.f1.drop.f1.drop, hto hD5 ⟨g0, v0, v1, v4, F.sb, s15.f4.f4.f2.f4.f4⟩ (by kernel_rfl)⟩
  exact Au Flat.bool false F s19 A73 rfl rfl AFl rfl rfl rfl h5 rfl fun v3 wj _ F sz => gw 1 F rfl fun _ F => ⟨sz.drop.f1.drop.f1.drop.f1.drop, hto hD9 ⟨g0, v0, v3, v4, F.sb, sz.f4.f4.f2.f4.f4⟩ (by kernel_rfl)⟩
 refine ANb [0, 1, 2, 3, 4, 6, 7, 9, 10, 11] (fun a w_ => ∃ v0 : Value, ∃ v4 : Value, Fr a 103 [(1, jI a1), (2, v2), (3, jP g8), (10, jI (a2.length : Int)), (31, v0), (33, jI (wr ((a2.length : Int) + 1))), (36, jI (wr ((a2.length : Int) + 1))), (40, v4)] ∧ SL w [] w_ [Blk g8 110 [v0_0, v0_1, jI a0.Fn], Sl Ty.bool v0 x1, Sl (Ty.int .i64) v4 x4]) ?_ fun h1j => ?_
 ·rintro a w_ ⟨v0, v4, F, s1a⟩
  refine ho3 5 8 13 rfl rfl rfl (by kernel_rfl) ?_ ?_ ?_
  ·exact Au AC2 (⟨(0 : Int), (0 : Int), (Vector.replicate 24 (0 : UInt8))⟩ : Aas) F s1a AOh rfl rfl Ajp rfl rfl rfl h4 rfl fun v1 wk _ F s15 => gw 1 F rfl fun _ F => ⟨s15.drop.f1.drop.f1.drop, hto hD6 ⟨v0, v1, v4, F.sb, s15.f3.f1.f3.f3⟩ (by kernel_rfl)⟩
  ·exact Au Flat.bool false F s1a A73 rfl rfl AFl rfl rfl rfl h5 rfl fun v3 wj _ F sz => gw 1 F rfl fun _ F => ⟨sz.drop.f1.drop.f1.drop, hto h1f ⟨v0, v3, v4, F.sb, sz.f3.f1.f3.f3⟩ (by kernel_rfl)⟩
  exact Af F s1a AN8 rfl rfl fun g0 wh _ F su => gw 1 F rfl fun _ F => ⟨su.drop.f1.drop.f1.drop, hto h1i ⟨g0, v0, v4, F.sb, su.f3.f3.f3⟩ (by kernel_rfl)⟩
 refine ANb [0, 1, 2, 3, 4, 6, 7, 9, 10, 13] (fun a w_ => ∃ g0 : Nat, ∃ v0 : Value, Fr a 103 [(1, jI a1), (2, v2), (3, jP g8), (10, jI (a2.length : Int)), (11, jP g0), (31, v0), (33, jI (wr ((a2.length : Int) + 1))), (36, jI (wr ((a2.length : Int) + 1))), (39, jI (wr ((a2.length : Int) + 1)))] ∧ SL w [] w_ [Blk g8 110 [v0_0, v0_1, jI a0.Fn], Sl Ty.bool v0 x1, Blk g0 164 [.slice none 0 0, .slice none 0 0, .slice none 0 0, .slice none 0 0]]) ?_ fun h1k => ?_
 ·rintro a w_ ⟨g0, v0, F, s1b⟩
  refine ho3 5 8 11 rfl rfl rfl (by kernel_rfl) ?_ ?_ ?_
  ·exact Au AC2 (⟨(0 : Int), (0 : Int), (Vector.replicate 24 (0 : UInt8))⟩ : Aas) F s1b AOh rfl rfl Ajp rfl rfl rfl h4 rfl fun v1 wk _ F s15 => gw 1 F rfl fun _ F => ⟨s15.drop.f1.drop.f1.drop, hto hD7 ⟨g0, v0, v1, F.sb, s15.f3.f1.f3.f3⟩ (by kernel_rfl)⟩
  ·exact Au Flat.bool false F s1b A73 rfl rfl AFl rfl rfl rfl h5 rfl fun v3 wj _ F sz => gw 1 F rfl fun _ F => ⟨sz.drop.f1.drop.f1.drop, hto h1g ⟨g0, v0, v3, F.sb, sz.f3.f1.f3.f3⟩ (by kernel_rfl)⟩
  exact Au (Flat.int .i64) (0 : Int) F s1b Awy rfl rfl AP6 rfl rfl rfl h6 rfl fun v4 wi _ F sw => gw 1 F rfl fun _ F => ⟨sw.drop.f1.drop.f1.drop, hto h1i ⟨g0, v0, v4, F.sb, sw.f3.f1.f3.f3⟩ (by kernel_rfl)⟩
 refine ANb [0, 1, 3, 4, 5, 6, 7, 8, 9, 10, 11, 13] (fun a w_ => ∃ g0 : Nat, ∃ v1 : Value, ∃ v3 : Value, ∃ v4 : Value, Fr a 103 [(1, jI a1), (2, v2), (3, jP g8), (10, jI (a2.length : Int)), (11, jP g0), (30, jI (wr ((a2.length : Int) + 1))), (34, v1), (37, v3), (40, v4)] ∧ SL w [] w_ [Blk g8 110 [v0_0, v0_1, jI a0.Fn], Sl A0w v1 x2, Sl Ty.bool v3 x3, Sl (Ty.int .i64) v4 x4, Blk g0 164 [.slice none 0 0, .slice none 0 0, .slice none 0 0, .slice none 0 0]]) ?_ fun h1l => ?_
 ·rintro a w_ ⟨g0, v1, v3, v4, F, s1c⟩
  refine ho 2 rfl (by kernel_rfl) ?_
  exact Au Flat.bool false F s1c A73 rfl rfl AFl rfl rfl rfl h3 rfl fun v0 wl _ F s1d => gw 1 F rfl fun _ F => ⟨s1d.drop.f1.drop.f1.drop.f1.drop.f1.drop, hto hD1 ⟨g0, v0, v1, v3, v4, F.sb, s1d.f5.f5.f5.f5.f4.f5⟩ (by kernel_rfl)⟩
 refine ANb [0, 1, 3, 4, 5, 6, 7, 8, 9, 10, 11] (fun a w_ => ∃ v1 : Value, ∃ v3 : Value, ∃ v4 : Value, Fr a 103 [(1, jI a1), (2, v2), (3, jP g8), (10, jI (a2.length : Int)), (30, jI (wr ((a2.length : Int) + 1))), (34, v1), (37, v3), (40, v4)] ∧ SL w [] w_ [Blk g8 110 [v0_0, v0_1, jI a0.Fn], Sl A0w v1 x2, Sl Ty.bool v3 x3, Sl (Ty.int .i64) v4 x4]) ?_ fun h1m => ?_
 ·rintro a w_ ⟨v1, v3, v4, F, s1e⟩
  refine ho2 2 13 rfl rfl (by kernel_rfl) ?_ ?_
  ·exact Au Flat.bool false F s1e A73 rfl rfl AFl rfl rfl rfl h3 rfl fun v0 wl _ F s1d => gw 1 F rfl fun _ F => ⟨s1d.drop.f1.drop.f1.drop.f1.drop, hto hD2 ⟨v0, v1, v3, v4, F.sb, s1d.f4.f4.f4.f3.f4⟩ (by kernel_rfl)⟩
  exact Af F s1e AN8 rfl rfl fun g0 wh _ F su => gw 1 F rfl fun _ F => ⟨su.drop.f1.drop.f1.drop.f1.drop, hto h1l ⟨g0, v1, v3, v4, F.sb, su.f4.f4.f4.f4⟩ (by kernel_rfl)⟩
 refine ANb [0, 1, 3, 4, 5, 6, 7, 8, 9, 10, 13] (fun a w_ => ∃ g0 : Nat, ∃ v1 : Value, ∃ v3 : Value, Fr a 103 [(1, jI a1), (2, v2), (3, jP g8), (10, jI (a2.length : Int)), (11, jP g0), (30, jI (wr ((a2.length : Int) + 1))), (34, v1), (37, v3), (39, jI (wr ((a2.length : Int) + 1)))] ∧ SL w [] w_ [Blk g8 110 [v0_0, v0_1, jI a0.Fn], Sl A0w v1 x2, Sl Ty.bool v3 x3, Blk g0 164 [.slice none 0 0, .slice none 0 0, .slice none 0 0, .slice none 0 0]]) ?_ fun h1n => ?_
 ·rintro a w_ ⟨g0, v1, v3, F, s1f⟩
  refine ho2 2 11 rfl rfl (by kernel_rfl) ?_ ?_
  ·exact Au Flat.bool false F s1f A73 rfl rfl AFl rfl rfl rfl h3 rfl fun v0 wl _ F s1d => gw 1 F rfl fun _ F => ⟨s1d.drop.f1.drop.f1.drop.f1.drop, hto hD3 ⟨g0, v0, v1, v3, F.sb, s1d.f4.f4.f4.f3.f4⟩ (by kernel_rfl)⟩
  exact Au (Flat.int .i64) (0 : Int) F s1f Awy rfl rfl AP6 rfl rfl rfl h6 rfl fun v4 wi _ F sw => gw 1 F rfl fun _ F => ⟨sw.drop.f1.drop.f1.drop.f1.drop, hto h1l ⟨g0, v1, v3, v4, F.sb, sw.f4.f1.f4.f4.f4⟩ (by kernel_rfl)⟩
 refine ANb [0, 1, 3, 4, 5, 6, 7, 8, 9, 10] (fun a w_ => ∃ v1 : Value, ∃ v3 : Value, Fr a 103 [(1, jI a1), (2, v2), (3, jP g8), (10, jI (a2.length : Int)), (30, jI (wr ((a2.length : Int) + 1))), (34, v1), (37, v3), (39, jI (wr ((a2.length : Int) + 1)))] ∧ SL w [] w_ [Blk g8 110 [v0_0, v0_1, jI a0.Fn], Sl A0w v1 x2, Sl Ty.bool v3 x3]) ?_ fun h1o => ?_
 ·rintro a w_ ⟨v1, v3, F, s1g⟩
  refine ho3 2 11 13 rfl rfl rfl (by kernel_rfl) ?_ ?_ ?_
  ·exact Au Flat.bool false F s1g A73 rfl rfl AFl rfl rfl rfl h3 rfl fun v0 wl _ F s1d => gw 1 F rfl fun _ F => ⟨s1d.drop.f1.drop.f1.drop, hto hD4 ⟨v0, v1, v3, F.sb, s1d.f3.f3.f2.f3⟩ (by kernel_rfl)⟩
  ·exact Au (Flat.int .i64) (0 : Int) F s1g Awy rfl rfl AP6 rfl rfl rfl h6 rfl fun v4 wi _ F sw => gw 1 F rfl fun _ F => ⟨sw.drop.f1.drop.f1.drop, hto h1m ⟨v1, v3, v4, F.sb, sw.f3.f3.f3⟩ (by kernel_rfl)⟩
  exact Af F s1g AN8 rfl rfl fun g0 wh _ F su => gw 1 F rfl fun _ F => ⟨su.drop.f1.drop.f1.drop, hto h1n ⟨g0, v1, v3, F.sb, su.f3.f3.f3⟩ (by kernel_rfl)⟩
 refine ANb [0, 1, 3, 4, 5, 6, 7, 9, 10, 11, 13] (fun a w_ => ∃ g0 : Nat, ∃ v1 : Value, ∃ v4 : Value, Fr a 103 [(1, jI a1), (2, v2), (3, jP g8), (10, jI (a2.length : Int)), (11, jP g0), (30, jI (wr ((a2.length : Int) + 1))), (34, v1), (36, jI (wr ((a2.length : Int) + 1))), (40, v4)] ∧ SL w [] w_ [Blk g8 110 [v0_0, v0_1, jI a0.Fn], Sl A0w v1 x2, Sl (Ty.int .i64) v4 x4, Blk g0 164 [.slice none 0 0, .slice none 0 0, .slice none 0 0, .slice none 0 0]]) ?_ fun h1p => ?_
 ·rintro a w_ ⟨g0, v1, v4, F, s1h⟩
  refine ho2 2 8 rfl rfl (by kernel_rfl) ?_ ?_
  ·exact Au Flat.bool false F s1h A73 rfl rfl AFl rfl rfl rfl h3 rfl fun v0 wl _ F s1d => gw 1 F rfl fun _ F => ⟨s1d.drop.f1.drop.f1.drop.f1.drop, hto hD5 ⟨g0, v0, v1, v4, F.sb, s1d.f4.f4.f4.f3.f4⟩ (by kernel_rfl)⟩
  exact Au Flat.bool false F s1h A73 rfl rfl AFl rfl rfl rfl h5 rfl fun v3 wj _ F sz => gw 1 F rfl fun _ F => ⟨sz.drop.f1.drop.f1.drop.f1.drop, hto h1l ⟨g0, v1, v3, v4, F.sb, sz.f4.f4.f2.f4.f4⟩ (by kernel_rfl)⟩
 refine ANb [0, 1, 3, 4, 5, 6, 7, 9, 10, 11] (fun a w_ => ∃ v1 : Value, ∃ v4 : Value, Fr a 103 [(1, jI a1), (2, v2), (3, jP g8), (10, jI (a2.length : Int)), (30, jI (wr ((a2.length : Int) + 1))), (34, v1), (36, jI (wr ((a2.length : Int) + 1))), (40, v4)] ∧ SL w [] w_ [Blk g8 110 [v0_0, v0_1, jI a0.Fn], Sl A0w v1 x2, Sl (Ty.int .i64) v4 x4]) ?_ fun h1q => ?_
 ·rintro a w_ ⟨v1, v4, F, s1i⟩
  refine ho3 2 8 13 rfl rfl rfl (by kernel_rfl) ?_ ?_ ?_
  ·exact Au Flat.bool false F s1i A73 rfl rfl AFl rfl rfl rfl h3 rfl fun v0 wl _ F s1d => gw 1 F rfl fun _ F => ⟨s1d.drop.f1.drop.f1.drop, hto hD6 ⟨v0, v1, v4, F.sb, s1d.f3.f3.f2.f3⟩ (by kernel_rfl)⟩
  ·exact Au Flat.bool false F s1i A73 rfl rfl AFl rfl rfl rfl h5 rfl fun v3 wj _ F sz => gw 1 F rfl fun _ F => ⟨sz.drop.f1.drop.f1.drop, hto h1m ⟨v1, v3, v4, F.sb, sz.f3.f1.f3.f3⟩ (by kernel_rfl)⟩
  exact Af F s1i AN8 rfl rfl fun g0 wh _ F su => gw 1 F rfl fun _ F => ⟨su.drop.f1.drop.f1.drop, hto h1p ⟨g0, v1, v4, F.sb, su.f3.f3.f3⟩ (by kernel_rfl)⟩
 refine ANb [0, 1, 3, 4, 5, 6, 7, 9, 10, 13] (fun a w_ => ∃ g0 : Nat, ∃ v1 : Value, Fr a 103 [(1, jI a1), (2, v2), (3, jP g8), (10, jI (a2.length : Int)), (11, jP g0), (30, jI (wr ((a2.length : Int) + 1))), (34, v1), (36, jI (wr ((a2.length : Int) + 1))), (39, jI (wr ((a2.length : Int) + 1)))] ∧ SL w [] w_ [Blk g8 110 [v0_0, v0_1, jI a0.Fn], Sl A0w v1 x2, Blk g0 164 [.slice none 0 0, .slice none 0 0, .slice none 0 0, .slice none 0 0]]) ?_ fun h1r => ?_
 ·rintro a w_ ⟨g0, v1, F, s1j⟩
  refine ho3 2 8 11 rfl rfl rfl (by kernel_rfl) ?_ ?_ ?_
  ·exact Au Flat.bool false F s1j A73 rfl rfl AFl rfl rfl rfl h3 rfl fun v0 wl _ F s1d => gw 1 F rfl fun _ F => ⟨s1d.drop.f1.drop.f1.drop, hto hD7 ⟨g0, v0, v1, F.sb, s1d.f3.f3.f2.f3⟩ (by kernel_rfl)⟩
  ·exact Au Flat.bool false F s1j A73 rfl rfl AFl rfl rfl rfl h5 rfl fun v3 wj _ F sz => gw 1 F rfl fun _ F => ⟨sz.drop.f1.drop.f1.drop, hto h1n ⟨g0, v1, v3, F.sb, sz.f3.f1.f3.f3⟩ (by kernel_rfl)⟩
  exact Au (Flat.int .i64) (0 : Int) F s1j Awy rfl rfl AP6 rfl rfl rfl h6 rfl fun v4 wi _ F sw => gw 1 F rfl fun _ F => ⟨sw.drop.f1.drop.f1.drop, hto h1p ⟨g0, v1, v4, F.sb, sw.f3.f1.f3.f3⟩ (by kernel_rfl)⟩
 refine ANb [0, 1, 3, 4, 6, 7, 8, 9, 10, 11, 13] (fun a w_ => ∃ g0 : Nat, ∃ v3 : Value, ∃ v4 : Value, Fr a 103 [(1, jI a1), (2, v2), (3, jP g8), (10, jI (a2.length : Int)), (11, jP g0), (30, jI (wr ((a2.length : Int) + 1))), (33, jI (wr ((a2.length : Int) + 1))), (37, v3), (40, v4)] ∧ SL w [] w_ [Blk g8 110 [v0_0, v0_1, jI a0.Fn], Sl Ty.bool v3 x3, Sl (Ty.int .i64) v4 x4, Blk g0 164 [.slice none 0 0, .slice none 0 0, .slice none 0 0, .slice none 0 0]]) ?_ fun h1s => ?_
 ·rintro a w_ ⟨g0, v3, v4, F, s1k⟩
  refine ho2 2 5 rfl rfl (by kernel_rfl) ?_ ?_
  ·exact Au Flat.bool false F s1k A73 rfl rfl AFl rfl rfl rfl h3 rfl fun v0 wl _ F s1d => gw 1 F rfl fun _ F => ⟨s1d.drop.f1.drop.f1.drop.f1.drop, hto hD9 ⟨g0, v0, v3, v4, F.sb, s1d.f4.f4.f4.f3.f4⟩ (by kernel_rfl)⟩
  exact Au AC2 (⟨(0 : Int), (0 : Int), (Vector.replicate 24 (0 : UInt8))⟩ : Aas) F s1k AOh rfl rfl Ajp rfl rfl rfl h4 rfl fun v1 wk _ F s15 => gw 1 F rfl fun _ F => ⟨s15.drop.f1.drop.f1.drop.f1.drop, hto h1l ⟨g0, v1, v3, v4, F.sb, s15.f4.f4.f4.f3.f4⟩ (by kernel_rfl)⟩
 refine ANb [0, 1, 3, 4, 6, 7, 8, 9, 10, 11] (fun a w_ => ∃ v3 : Value, ∃ v4 : Value, Fr a 103 [(1, jI a1), (2, v2), (3, jP g8), (10, jI (a2.length : Int)), (30, jI (wr ((a2.length : Int) + 1))), (33, jI (wr ((a2.length : Int) + 1))), (37, v3), (40, v4)] ∧ SL w [] w_ [Blk g8 110 [v0_0, v0_1, jI a0.Fn], Sl Ty.bool v3 x3, Sl (Ty.int .i64) v4 x4]) ?_ fun h1t => ?_
 ·rintro a w_ ⟨v3, v4, F, s1l⟩
  refine ho3 2 5 13 rfl rfl rfl (by kernel_rfl) ?_ ?_ ?_
  ·exact Au Flat.bool false F s1l A73 rfl rfl AFl rfl rfl rfl h3 rfl fun v0 wl _ F s1d => gw 1 F rfl fun _ F => ⟨s1d.drop.f1.drop.f1.drop, hto h1f ⟨v0, v3, v4, F.sb, s1d.f3.f3.f2.f3⟩ (by kernel_rfl)⟩
  ·exact Au AC2 (⟨(0 : Int), (0 : Int), (Vector.replicate 24 (0 : UInt8))⟩ : Aas) F s1l AOh rfl rfl Ajp rfl rfl rfl h4 rfl fun v1 wk _ F s15 => gw 1 F rfl fun _ F => ⟨s15.drop.f1.drop.f1.drop, hto h1m ⟨v1, v3, v4, F.sb, s15.f3.f3.f2.f3⟩ (by kernel_rfl)⟩
  exact Af F s1l AN8 rfl rfl fun g0 wh _ F su => gw 1 F rfl fun _ F => ⟨su.drop.f1.drop.f1.drop, hto h1s ⟨g0, v3, v4, F.sb, su.f3.f3.f3⟩ (by kernel_rfl)⟩
 refine ANb [0, 1, 3, 4, 6, 7, 8, 9, 10, 13] (fun a w_ => ∃ g0 : Nat, ∃ v3 : Value, Fr a 103 [(1, jI a1), (2, v2), (3, jP g8), (10, jI (a2.length : Int)), (11, jP g0), (30, jI (wr ((a2.length : Int) + 1))), (33, jI (wr ((a2.length : Int) + 1))), (37, v3), (39, jI (wr ((a2.length : Int) + 1)))] ∧ SL w [] w_ [Blk g8 110 [v0_0, v0_1, jI a0.Fn], Sl Ty.bool v3 x3, Blk g0 164 [.slice none 0 0, .slice none 0 0, .slice none 0 0, .slice none 0 0]]) ?_ fun h1u => ?_
 ·rintro a w_ ⟨g0, v3, F, s1m⟩
  refine ho3 2 5 11 rfl rfl rfl (by kernel_rfl) ?_ ?_ ?_
  ·exact Au Flat.bool false F s1m A73 rfl rfl AFl rfl rfl rfl h3 rfl fun v0 wl _ F s1d => gw 1 F rfl fun _ F => ⟨s1d.drop.f1.drop.f1.drop, hto h1g ⟨g0, v0, v3, F.sb, s1d.f3.f3.f2.f3⟩ (by kernel_rfl)⟩
  ·exact Au AC2 (⟨(0 : Int), (0 : Int), (Vector.replicate 24 (0 : UInt8))⟩ : Aas) F s1m AOh rfl rfl Ajp rfl rfl rfl h4 rfl fun v1 wk _ F s15 => gw 1 F rfl fun _ F => ⟨s15.drop.f1.drop.f1.drop, hto h1n ⟨g0, v1, v3, F.sb, s15.f3.f3.f2.f3⟩ (by kernel_rfl)⟩
  exact Au (Flat.int .i64) (0 : Int) F s1m Awy rfl rfl AP6 rfl rfl rfl h6 rfl fun v4 wi _ F sw => gw 1 F rfl fun _ F => ⟨sw.drop.f1.drop.f1.drop, hto h1s ⟨g0, v3, v4, F.sb, sw.f3.f1.f3.f3⟩ (by kernel_rfl)⟩
 refine ANb [0, 1, 3, 4, 6, 7, 9, 10, 11, 13] (fun a w_ => ∃ g0 : Nat, ∃ v4 : Value, Fr a 103 [(1, jI a1), (2, v2), (3, jP g8), (10, jI (a2.length : Int)), (11, jP g0), (30, jI (wr ((a2.length : Int) + 1))), (33, jI (wr ((a2.length : Int) + 1))), (36, jI (wr ((a2.length : Int) + 1))), (40, v4)] ∧ SL w [] w_ [Blk g8 110 [v0_0, v0_1, jI a0.Fn], Sl (Ty.int .i64) v4 x4, Blk g0 164 [.slice none 0 0, .slice none 0 0, .slice none 0 0, .slice none 0 0]]) ?_ fun h1v => ?_
 ·rintro a w_ ⟨g0, v4, F, s1n⟩
  refine ho3 2 5 8 rfl rfl rfl (by kernel_rfl) ?_ ?_ ?_
  ·exact Au Flat.bool false F s1n A73 rfl rfl AFl rfl rfl rfl h3 rfl fun v0 wl _ F s1d => gw 1 F rfl fun _ F => ⟨s1d.drop.f1.drop.f1.drop, hto h1i ⟨g0, v0, v4, F.sb, s1d.f3.f3.f2.f3⟩ (by kernel_rfl)⟩
  ·exact Au AC2 (⟨(0 : Int), (0 : Int), (Vector.replicate 24 (0 : UInt8))⟩ : Aas) F s1n AOh rfl rfl Ajp rfl rfl rfl h4 rfl fun v1 wk _ F s15 => gw 1 F rfl fun _ F => ⟨s15.drop.f1.drop.f1.drop, hto h1p ⟨g0, v1, v4, F.sb, s15.f3.f3.f2.f3⟩ (by kernel_rfl)⟩
  exact Au Flat.bool false F s1n A73 rfl rfl AFl rfl rfl rfl h5 rfl fun v3 wj _ F sz => gw 1 F rfl fun _ F => ⟨sz.drop.f1.drop.f1.drop, hto h1s ⟨g0, v3, v4, F.sb, sz.f3.f3.f2.f3⟩ (by kernel_rfl)⟩
 refine hm_ (rs := [2, 5, 8, 11, 13]) (by kernel_rfl) (by decide) (hcc rfl ?_ <| hcc rfl ?_ <| hcc rfl ?_ <| hcc rfl ?_ <| hcc rfl ?_ <| Biq)
 ·refine Au Flat.bool false F s3 A73 rfl rfl AFl rfl rfl rfl h3 rfl fun v0 wl _ F s1d => gw 1 F rfl fun _ F => ⟨s1d.drop, ?_⟩
  refine ho4 5 8 11 13 rfl rfl rfl rfl (by kernel_rfl) ?_ ?_ ?_ ?_
  ·exact Au AC2 (⟨(0 : Int), (0 : Int), (Vector.replicate 24 (0 : UInt8))⟩ : Aas) F s1d AOh rfl rfl Ajp rfl rfl rfl h4 rfl fun v1 wk _ F s15 => gw 1 F rfl fun _ F => ⟨s15.drop.drop, hto hD8 ⟨v0, v1, F.sb, s15.f1.f2⟩ (by kernel_rfl)⟩
  ·exact Au Flat.bool false F s1d A73 rfl rfl AFl rfl rfl rfl h5 rfl fun v3 wj _ F sz => gw 1 F rfl fun _ F => ⟨sz.drop.drop, hto h1h ⟨v0, v3, F.sb, sz.f1.f2⟩ (by kernel_rfl)⟩
  ·exact Au (Flat.int .i64) (0 : Int) F s1d Awy rfl rfl AP6 rfl rfl rfl h6 rfl fun v4 wi _ F sw => gw 1 F rfl fun _ F => ⟨sw.drop.drop, hto h1j ⟨v0, v4, F.sb, sw.f1.f2⟩ (by kernel_rfl)⟩
  exact Af F s1d AN8 rfl rfl fun g0 wh _ F su => gw 1 F rfl fun _ F => ⟨su.drop.drop, hto h1k ⟨g0, v0, F.sb, su.f1.f2⟩ (by kernel_rfl)⟩
 ·refine Au AC2 (⟨(0 : Int), (0 : Int), (Vector.replicate 24 (0 : UInt8))⟩ : Aas) F s3 AOh rfl rfl Ajp rfl rfl rfl h4 rfl fun v1 wk _ F s15 => gw 1 F rfl fun _ F => ⟨s15.drop, ?_⟩
  refine ho4 2 8 11 13 rfl rfl rfl rfl (by kernel_rfl) ?_ ?_ ?_ ?_
  ·exact Au Flat.bool false F s15 A73 rfl rfl AFl rfl rfl rfl h3 rfl fun v0 wl _ F s1d => gw 1 F rfl fun _ F => ⟨s1d.drop.drop, hto hD8 ⟨v0, v1, F.sb, s1d.f1.f1.f2⟩ (by kernel_rfl)⟩
  ·exact Au Flat.bool false F s15 A73 rfl rfl AFl rfl rfl rfl h5 rfl fun v3 wj _ F sz => gw 1 F rfl fun _ F => ⟨sz.drop.drop, hto h1o ⟨v1, v3, F.sb, sz.f1.f2⟩ (by kernel_rfl)⟩
  ·exact Au (Flat.int .i64) (0 : Int) F s15 Awy rfl rfl AP6 rfl rfl rfl h6 rfl fun v4 wi _ F sw => gw 1 F rfl fun _ F => ⟨sw.drop.drop, hto h1q ⟨v1, v4, F.sb, sw.f1.f2⟩ (by kernel_rfl)⟩
  exact Af F s15 AN8 rfl rfl fun g0 wh _ F su => gw 1 F rfl fun _ F => ⟨su.drop.drop, hto h1r ⟨g0, v1, F.sb, su.f1.f2⟩ (by kernel_rfl)⟩
 ·refine Au Flat.bool false F s3 A73 rfl rfl AFl rfl rfl rfl h5 rfl fun v3 wj _ F sz => gw 1 F rfl fun _ F => ⟨sz.drop, ?_⟩
  refine ho4 2 5 11 13 rfl rfl rfl rfl (by kernel_rfl) ?_ ?_ ?_ ?_
  ·exact Au Flat.bool false F sz A73 rfl rfl AFl rfl rfl rfl h3 rfl fun v0 wl _ F s1d => gw 1 F rfl fun _ F => ⟨s1d.drop.drop, hto h1h ⟨v0, v3, F.sb, s1d.f1.f1.f2⟩ (by kernel_rfl)⟩
  ·exact Au AC2 (⟨(0 : Int), (0 : Int), (Vector.replicate 24 (0 : UInt8))⟩ : Aas) F sz AOh rfl rfl Ajp rfl rfl rfl h4 rfl fun v1 wk _ F s15 => gw 1 F rfl fun _ F => ⟨s15.drop.drop, hto h1o ⟨v1, v3, F.sb, s15.f1.f1.f2⟩ (by kernel_rfl)⟩
  ·exact Au (Flat.int .i64) (0 : Int) F sz Awy rfl rfl AP6 rfl rfl rfl h6 rfl fun v4 wi _ F sw => gw 1 F rfl fun _ F => ⟨sw.drop.drop, hto h1t ⟨v3, v4, F.sb, sw.f1.f2⟩ (by kernel_rfl)⟩
  exact Af F sz AN8 rfl rfl fun g0 wh _ F su => gw 1 F rfl fun _ F => ⟨su.drop.drop, hto h1u ⟨g0, v3, F.sb, su.f1.f2⟩ (by kernel_rfl)⟩
 ·refine Au (Flat.int .i64) (0 : Int) F s3 Awy rfl rfl AP6 rfl rfl rfl h6 rfl fun v4 wi _ F sw => gw 1 F rfl fun _ F => ⟨sw.drop, ?_⟩
  refine ho4 2 5 8 13 rfl rfl rfl rfl (by kernel_rfl) ?_ ?_ ?_ ?_
  ·exact Au Flat.bool false F sw A73 rfl rfl AFl rfl rfl rfl h3 rfl fun v0 wl _ F s1d => gw 1 F rfl fun _ F => ⟨s1d.drop.drop, hto h1j ⟨v0, v4, F.sb, s1d.f1.f1.f2⟩ (by kernel_rfl)⟩
  ·exact Au AC2 (⟨(0 : Int), (0 : Int), (Vector.replicate 24 (0 : UInt8))⟩ : Aas) F sw AOh rfl rfl Ajp rfl rfl rfl h4 rfl fun v1 wk _ F s15 => gw 1 F rfl fun _ F => ⟨s15.drop.drop, hto h1q ⟨v1, v4, F.sb, s15.f1.f1.f2⟩ (by kernel_rfl)⟩
  ·exact Au Flat.bool false F sw A73 rfl rfl AFl rfl rfl rfl h5 rfl fun v3 wj _ F sz => gw 1 F rfl fun _ F => ⟨sz.drop.drop, hto h1t ⟨v3, v4, F.sb, sz.f1.f1.f2⟩ (by kernel_rfl)⟩
  exact Af F sw AN8 rfl rfl fun g0 wh _ F su => gw 1 F rfl fun _ F => ⟨su.drop.drop, hto h1v ⟨g0, v4, F.sb, su.f1.f2⟩ (by kernel_rfl)⟩
 refine Af F s3 AN8 rfl rfl fun g0 wh _ F su => gw 1 F rfl fun _ F => ⟨su.drop, ?_⟩
 refine ho4 2 5 8 11 rfl rfl rfl rfl (by kernel_rfl) ?_ ?_ ?_ ?_
 ·exact Au Flat.bool false F su A73 rfl rfl AFl rfl rfl rfl h3 rfl fun v0 wl _ F s1d => gw 1 F rfl fun _ F => ⟨s1d.drop.drop, hto h1k ⟨g0, v0, F.sb, s1d.f1.f1.f2⟩ (by kernel_rfl)⟩
 ·exact Au AC2 (⟨(0 : Int), (0 : Int), (Vector.replicate 24 (0 : UInt8))⟩ : Aas) F su AOh rfl rfl Ajp rfl rfl rfl h4 rfl fun v1 wk _ F s15 => gw 1 F rfl fun _ F => ⟨s15.drop.drop, hto h1r ⟨g0, v1, F.sb, s15.f1.f1.f2⟩ (by kernel_rfl)⟩
 ·exact Au Flat.bool false F su A73 rfl rfl AFl rfl rfl rfl h5 rfl fun v3 wj _ F sz => gw 1 F rfl fun _ F => ⟨sz.drop.drop, hto h1u ⟨g0, v3, F.sb, sz.f1.f1.f2⟩ (by kernel_rfl)⟩
 exact Au (Flat.int .i64) (0 : Int) F su Awy rfl rfl AP6 rfl rfl rfl h6 rfl fun v4 wi _ F sw => gw 1 F rfl fun _ F => ⟨sw.drop.drop, hto h1v ⟨g0, v4, F.sb, sw.f1.f1.f2⟩ (by kernel_rfl)⟩
theorem Bep {w : World} {v0_1 v0_2 v0_3 : Value} {a0 : Aha} {a1 : Int} {r : (List Ads) × Int × Int × Int} (hr0_1 : Rd Aef w [] v0_1 a0.Classes) (hr0_2 : Rd AAt w [] v0_2 a0.Funcs) (hr0_3 : Rd (Ty.slice Ty.u8) w [] v0_3 a0.AF4) (H : AP2 a0 a1 = some r) :
    Calls prog 34 #[.agg ⟨[.string ⟨⟨a0.Name⟩⟩, v0_1, v0_2, v0_3]⟩, jI a1] w (Ret fun u_ w_ => ∃ u0 : Value, u_ = .tuple ⟨[u0, jI r.2.1, jI r.2.2.1, jI r.2.2.2]⟩ ∧ SL w [] w_ [Sl AE1 u0 r.1]) := by
 have s0 : SL w [] w [] := SL.Aq9 w
 refine cin func34 ntmps34 2 rfl rfl rfl fun _ F0 => ?_
 unfold AP2 at H
 refine Ar F0 s0 rfl rfl rfl fun g8 w9 _ F s1 => ?_
 obtain ⟨x0, h0, H⟩ := Aa H
 refine gw 8 F rfl fun _ F => gld F s1 m0 1 rfl fun _ F => std F (Bhv (a0 := (⟨a0.Name, a0.Classes, a0.Funcs, a0.AF4⟩ : Aha)) (wb := w) (Fb := []) s1.fm Biz hr0_1 hr0_2 hr0_3 h0) fun v0 w0 _ h1 F => ?_
 obtain ⟨v1, v2, rfl, h2, h3⟩ := h1
 have s2 := s1.add h3
 have h4 := A3a.rd h2 hr0_1
 refine gw 3 F rfl fun _ F => Af F s2 AR5 rfl rfl fun g0 w1 _ F s3 => Ah F s3 rfl rfl AV0 (Ab (Aq (fR h4 s3)) (Ab (Aq (fO s3 m1)) (Ab rfl Ap))) (Ac rfl) fun w2 _ F s4 => gw 10 F rfl fun _ F => gif F H 10 4 rfl rfl rfl (fun h5 H _ F => ?_) (fun h5 H _ F => ?_)
 ·cases H
  exact rt F ⟨(.slice none 0 0), rfl, (SL.Axc (T := AE1) s4).f1.drop.f1.drop.f1.drop⟩
 obtain ⟨x1, h6, H⟩ := Aa H
 obtain ⟨a2, c0, G0, h7, h8, h9, ha⟩ := Rd.idx hr0_2 AXp rfl h6
 obtain ⟨v3, v4, rfl, hb, hc⟩ := (AXc h9 ha)
 replace h8 := h8 _ _ s4
 refine gw 1 F rfl fun _ F => gld F s4 m2 1 rfl fun _ F => gi F h7 0 rfl fun _ F => gx F (Aw AZ3 rfl h8 rfl) 0 rfl rfl fun _ F => Af F s4 Bb8 rfl rfl fun g1 w3 _ F s5 => Ah F s5 rfl rfl Bev (Ab rfl (Ab (Aq (fR hb s5)) (Ab rfl (Ab rfl (Ab (Aq (fR hc s5)) Ap))))) (Ac rfl) fun w4 _ F s6 => ?_
 obtain ⟨x2, hd, H⟩ := Aa H
 refine gw 4 F rfl fun _ F => gld F s6 m1 1 rfl fun _ F => gld F s6 m0 1 rfl fun _ F => gld F s6 m0 0 rfl fun _ F => std F (Bfk (a0 := (⟨x0.1.Classes, x0.1.Akq, x0.1.Fn⟩ : Adb)) (h4.Ajq s6) (Rd.conv (s6.rd0 m2) s6.fm Biz (Conv.iso ARp (Conv.pair (Conv.Bq6 _) (Conv.refl _)))) (hc.Ajq s6) hd) fun v5 w5 _ he F => ?_
 obtain ⟨v6, rfl, hf⟩ := he
 have s7 := s6.add hf
 refine gw 16 F rfl fun _ F => gif F H 12 18 rfl rfl rfl (fun hg H _ F => ?_) (fun hg H _ F => ?_)
 ·cases H
  exact rt F ⟨(.slice none 0 0), rfl, (SL.Axc (T := AE1) s7).f1.drop.f1.drop.f1.drop.f1.drop.f1.drop⟩
 obtain ⟨o0, H0, R0⟩ := Aa H
 clear H
 refine At9 (fun a w_ => ∃ v7 : Value, Fr a 83 [(14, v7), (15, jI o0.2)] ∧ SL w [] w_ [Sl AE1 v7 o0.1]) ?_ ?_
 ·have H := H0
  refine gc 1 F rfl fun _ F => lpk (AOw x1 x2) (fun s8 a w_ => ∃ v8 : Value, Fr a 83 [(10, jP g1), (11, v6), (14, v8), (15, jI s8.2.1), (16, jI s8.2.2)] ∧ SL w [] w_ [Sl AOd v6 x2.1, Blk g1 52 [.string ⟨⟨x1.Name⟩⟩, v3, jU (x1.Sig.Result.toNat : Int), jI x1.Locals, v4], Sl AE1 v8 s8.1]) H ?_ ?_
  ·exact ⟨(.slice none 0 0), F.sb, (SL.Axc (T := AE1) s7).f3.drop.f3.drop.f3.drop.f2.f2⟩
  intro s8 _ w6 hh o1 H hr
  obtain ⟨v8, F, s9⟩ := hh
  replace H : AOw x1 x2 s8 = some o1 := H
  unfold AOw at H
  refine gc 5 F rfl fun _ F => gx F (Ak rfl underlying113 (fO s9 m0)) 3 rfl rfl fun _ F => gif F H 5 4 rfl rfl rfl (fun hi H _ F => ?_) (fun hi H _ F => ?_)
  ·obtain ⟨x3, hj, H⟩ := Aa H
   obtain ⟨x4, hk, H⟩ := Aa H
   refine AJp Aq8 s9 ?_
   have sa := s9.drew
   obtain ⟨a3, hl, hm⟩ := ASr ARz (fun _ hC => (hC.A59 m0)) sa AYo rfl hj
   refine hq [0, 1, 2, 3, 4, 5, 6] F sa (QI.ev 1 rfl <| QI.ld m1 rfl <| QI.ev 2 rfl <| QI.ix hl rfl <| QI.op rfl (fun _ hC => Ba Btp rfl) rfl <| QI.op rfl (fun _ hC => Ao AAd rfl (Aqa.at_ (hm _ hC) (o := 0) rfl)) rfl <| QI.nil) (by kernel_rfl) fun _ F => ?_
   refine ANb [0, 1, 2, 3, 4, 5, 6, 7, 8, 9, 10, 11, 12] (fun a w_ => ∃ g2 : Nat, Fr a 83 [(10, jP g1), (11, v6), (14, v8), (15, jI s8.2.1), (16, jI s8.2.2), (17, jP g2), (62, jI x4.2)] ∧ SL w [] w_ [Sl AOd v6 x2.1, Blk g1 52 [.string ⟨⟨x1.Name⟩⟩, v3, jU (x1.Sig.Result.toNat : Int), jI x1.Locals, v4], Sl AE1 v8 s8.1, Blk g2 79 [jI x4.1.At, jU (x4.1.Op.toNat : Int), jI x4.1.A, jI x4.1.B]]) ?_ fun hD0 => ?_
   ·rintro a w_ ⟨g2, F, sc⟩
    refine hq [13] F sc.f3.drop (QI.ev 1 rfl <| QI.nil) (by kernel_rfl) fun _ F => ?_
    refine ANu (by kernel_rfl) ?_
    refine ge 4 F rfl fun _ F => gld F sc m3 0 rfl fun _ F => ?_
    refine Ae (parts := [(0, .tmp 64)]) AR2 ([(⟨x4.1.At, x4.1.Op, x4.1.A, x4.1.B⟩ : Ads)] : List Ads) F sc Bab rfl (by decide) rfl rfl rfl (by simp [Value.cells]) rfl rfl rfl fun v9 w7 _ F sd => ?_
    obtain ⟨x5, hn, H⟩ := Aa H
    obtain ⟨_, hr_⟩ := (sd.f3.A59 m1)
    refine Av AR2 F sd.f3 Bab rfl rfl rfl rfl hr_ rfl rfl hn rfl fun va w8 _ F se => ?_
    have s7209' := se.f1.drop
    obtain ⟨x6, hp, H⟩ := Aa H
    obtain ⟨a4, hs, ht⟩ := Ax ARz s7209' m1 AYo rfl hp
    refine gw 7 F rfl fun _ F => gi F hs 0 rfl fun _ F => gx F (Ba Bmf rfl) 0 rfl rfl fun _ F => gx F (Bud Bmj rfl rfl) 0 rfl rfl fun _ F => gx F (Ao AAd rfl (Aqa.at_ (SL.AN4 ARz s7209' m1 ht hp) (o := 3) rfl)) 4 rfl rfl fun _ F => gif F H 3 8 rfl rfl rfl (fun hu H _ F => ?_) (fun hu H _ F => ?_)
    ·obtain ⟨x7, hv, H⟩ := Aa H
     obtain ⟨a5, hw, hx⟩ := Ax ARz s7209' m1 AYo rfl hv
     refine gi F hw 0 rfl fun _ F => gx F (Ba Bmf rfl) 0 rfl rfl fun _ F => gx F (Bud Bmj rfl rfl) 0 rfl rfl fun _ F => ?_
     cases H
     exact gx F (Ao AAd rfl (Aqa.at_ (SL.AN4 ARz s7209' m1 hx hv) (o := 3) rfl)) 9 rfl rfl fun _ F => ⟨_, rfl, va, F.sb, s7209'.f3.drop.f2.f2⟩
    cases H
    exact ⟨_, rfl, va, F.sb, s7209'.f3.drop.f2.f2⟩
   refine ho2 7 11 rfl rfl (by kernel_rfl) ?_ ?_
   ·refine gca F sa (AWj (hc.Ajq sa) hk) 1 rfl rfl rfl rfl fun wa _ F sf => ⟨sf, ?_⟩
    refine hq [8, 9, 10] F sf (QI.ev 3 rfl <| QI.nil) (by kernel_rfl) fun _ F => ?_
    refine ho 11 rfl (by kernel_rfl) ?_
    refine Af F sf APa rfl rfl fun g2 wc _ F sg => gw 1 F rfl fun _ F => ⟨sg.drop, ?_⟩
    refine ho 12 rfl (by kernel_rfl) ?_
    exact Ah F sg rfl rfl AOo (Ab rfl (Ab rfl (Ab rfl (Ab rfl Ap)))) (Ac rfl) fun wd _ F sh => gw 1 F rfl fun _ F => ⟨sh.drop, hto hD0 ⟨g2, F.sb, sh.f3.f3.f3⟩ (by kernel_rfl)⟩
   refine Af F sa APa rfl rfl fun g2 wc _ F sg => gw 1 F rfl fun _ F => ⟨sg.drop, ?_⟩
   refine ho 7 rfl (by kernel_rfl) ?_
   refine gca F sg (AWj (hc.Ajq sg) hk) 1 rfl rfl rfl rfl fun wa _ F sf => ⟨sf.drop, ?_⟩
   refine hq [8, 9, 10] F sf.drop (QI.ev 3 rfl <| QI.nil) (by kernel_rfl) fun _ F => ?_
   refine ho 12 rfl (by kernel_rfl) ?_
   exact Ah F sf rfl rfl AOo (Ab rfl (Ab rfl (Ab rfl (Ab rfl Ap)))) (Ac rfl) fun wd _ F sh => gw 1 F rfl fun _ F => ⟨sh.drop, hto hD0 ⟨g2, F.sb, sh.f3.f3.f3⟩ (by kernel_rfl)⟩
  cases H
  obtain rfl := hr _ rfl
  exact ⟨v8, F.sb, s9.drop.drop⟩
 intro _ we hJ
 obtain ⟨v7, F, si⟩ := hJ
 have H := R0
 clear R0 H0
 cases H
 exact ge 12 F rfl fun _ F => rt F ⟨v7, rfl, si⟩
theorem Bf7 {w : World} {v0_1 v0_2 v0_3 : Value} {a0 : Aha} {a1 : Int} {r : (List Int) × Int × Int} (hr0_1 : Rd Aef w [] v0_1 a0.Classes) (hr0_2 : Rd AAt w [] v0_2 a0.Funcs) (hr0_3 : Rd (Ty.slice Ty.u8) w [] v0_3 a0.AF4) (H : AQ0 a0 a1 = some r) :
    Calls prog 14 #[.agg ⟨[.string ⟨⟨a0.Name⟩⟩, v0_1, v0_2, v0_3]⟩, jI a1] w (Ret fun u_ w_ => ∃ u0 : Value, u_ = .tuple ⟨[u0, jI r.2.1, jI r.2.2]⟩ ∧ SL w [] w_ [Sl (Ty.int .i64) u0 r.1]) := by
 have s0 : SL w [] w [] := SL.Aq9 w
 refine cin func14 ntmps14 2 rfl rfl rfl fun _ F0 => ?_
 unfold AQ0 at H
 refine Ar F0 s0 rfl rfl rfl fun g8 w9 _ F s1 => ?_
 obtain ⟨x0, h0, H⟩ := Aa H
 refine gw 7 F rfl fun _ F => gld F s1 m0 1 rfl fun _ F => std F (Bep (a0 := (⟨a0.Name, a0.Classes, a0.Funcs, a0.AF4⟩ : Aha)) (hr0_1.Ajq s1) (hr0_2.Ajq s1) (hr0_3.Ajq s1) h0) fun v0 w0 _ h1 F => ?_
 obtain ⟨v1, rfl, h2⟩ := h1
 have s2 := s1.add h2
 refine gw 18 F rfl fun _ F => gif F H 11 13 rfl rfl rfl (fun h3 H _ F => ?_) (fun h3 H _ F => ?_)
 ·cases H
  exact rt F ⟨(.slice none 0 0), rfl, (SL.Axc (T := (Ty.int .i64)) s2).f1.drop.f1.drop⟩
 obtain ⟨o0, H0, R0⟩ := Aa H
 clear H
 refine At9 (fun a w_ => ∃ v2 : Value, Fr a 65 [(11, v2)] ∧ SL w [] w_ [Sl (Ty.int .i64) v2 o0]) ?_ ?_
 ·have H := H0
  refine gc 1 F rfl fun _ F => lpk (APj a0 x0) (fun s3 a w_ => ∃ v3 : Value, Fr a 65 [(2, jP g8), (7, v1), (11, v3), (12, jI s3.2)] ∧ SL w [] w_ [Sl AE1 v1 x0.1, Blk g8 26 [.string ⟨⟨a0.Name⟩⟩, v0_1, v0_2, v0_3], Sl (Ty.int .i64) v3 s3.1]) H ?_ ?_
  ·exact ⟨(.slice none 0 0), F.sb, (SL.Axc (T := (Ty.int .i64)) s2).f2.f2⟩
  intro s3 _ w1 h4 o1 H hr
  obtain ⟨v3, F, s4⟩ := h4
  replace H : APj a0 x0 s3 = some o1 := H
  unfold APj at H
  refine gc 5 F rfl fun _ F => gld F s4 m1 0 rfl fun _ F => gx F (Ak rfl underlying23 (fR hr0_2 s4)) 3 rfl rfl fun _ F => gif F H 15 4 rfl rfl rfl (fun h5 H _ F => ?_) (fun h5 H _ F => ?_)
  ·obtain ⟨o2, H1, R1⟩ := Aa H
   clear H
   refine At9 (fun a w_ => Fr a 65 [(2, jP g8), (7, v1), (11, v3), (12, jI s3.2), (13, .bool o2)] ∧ SL w [] w_ [Sl AE1 v1 x0.1, Blk g8 26 [.string ⟨⟨a0.Name⟩⟩, v0_1, v0_2, v0_3], Sl (Ty.int .i64) v3 s3.1]) ?_ ?_
   ·have H := H1
    refine gc 1 F rfl fun _ F => lpk (APf x0 s3) (fun s5 a w_ => Fr a 65 [(2, jP g8), (7, v1), (11, v3), (12, jI s3.2), (13, .bool s5.1), (14, jI s5.2)] ∧ SL w [] w_ [Sl AE1 v1 x0.1, Blk g8 26 [.string ⟨⟨a0.Name⟩⟩, v0_1, v0_2, v0_3], Sl (Ty.int .i64) v3 s3.1]) H ?_ ?_
    ·exact ⟨F.sb, s4⟩
    intro s5 _ w2 h6 o3 H hr
    obtain ⟨F, s6⟩ := h6
    replace H : APf x0 s3 s5 = some o3 := H
    unfold APf at H
    refine gc 5 F rfl fun _ F => gx F (Ak rfl underlying75 (fO s6 m0)) 3 rfl rfl fun _ F => gif F H 7 4 rfl rfl rfl (fun h7 H _ F => ?_) (fun h7 H _ F => ?_)
    ·refine bsp 41 F H (fun h8 H F => ?_) (fun h8 H F => ?_)
     ·cases H
      exact gw 26 F rfl fun _ F => ⟨_, rfl, F.sb, s6⟩
     obtain ⟨x1, h9, H⟩ := Aa H
     obtain ⟨a2, ha, hb⟩ := Ax AR2 s6 m0 Bab rfl h9
     refine gw 2 F rfl fun _ F => Afv F rfl rfl <| gi F ha 0 rfl fun _ F => Afv F rfl rfl <| gx F (Ba Bul rfl) 0 rfl rfl fun _ F => Afv F rfl rfl <| gx F (Ao AZa rfl (Aqa.at_ (SL.AN4 AR2 s6 m0 hb h9) (o := 1) rfl)) 0 rfl rfl fun _ F => Afv F rfl rfl <| gx F (AX0 rfl underlying5 underlying3) 2 rfl rfl fun _ F => bsp 49 F H (fun hc H F => ?_) (fun hc H F => ?_)
     ·obtain ⟨x2, hd, H⟩ := Aa H
      obtain ⟨a3, he, hf⟩ := Ax AR2 s6 m0 Bab rfl hd
      refine gw 2 F rfl fun _ F => Afv F rfl rfl <| gi F he 0 rfl fun _ F => Afv F rfl rfl <| gx F (Ba Bt7 rfl) 0 rfl rfl fun _ F => Afv F rfl rfl ?_
      cases H
      exact gx F (Ao AAd rfl (Aqa.at_ (SL.AN4 AR2 s6 m0 hf hd) (o := 2) rfl)) 13 rfl rfl fun _ F => ⟨_, rfl, F.sb, s6⟩
     cases H
     exact gw 18 F rfl fun _ F => ⟨_, rfl, F.sb, s6⟩
    cases H
    obtain rfl := hr _ rfl
    exact ⟨F.sb, s6⟩
   intro _ w3 hJ
   obtain ⟨F, s7⟩ := hJ
   have H := R1
   clear R1 H1
   refine ge 6 F rfl fun _ F => gif F H 3 8 rfl rfl rfl (fun hg H _ F => ?_) (fun hg H _ F => ?_)
   ·refine Ae (parts := [(0, .tmp 61)]) (Flat.int .i64) ([s3.2] : List Int) F s7 Awy rfl (by decide) rfl rfl rfl (by simp [Value.cells]) rfl rfl rfl fun v4 w4 _ F s8 => ?_
    obtain ⟨x3, hh, H⟩ := Aa H
    obtain ⟨_, hr_⟩ := (s8.f3.A59 m1)
    refine Av (Flat.int .i64) F s8.f3 Awy rfl rfl rfl rfl hr_ rfl rfl hh rfl fun v5 w5 _ F s9 => ?_
    have s106312' := s9.f1.drop
    cases H
    exact gw 9 F rfl fun _ F => ⟨_, rfl, v5, F.sb, s106312'.f2.f2⟩
   cases H
   exact ⟨_, rfl, v3, F.sb, s7⟩
  cases H
  obtain rfl := hr _ rfl
  exact ⟨v3, F.sb, s4.drop.drop⟩
 intro _ w6 hJ
 obtain ⟨v2, F, sa⟩ := hJ
 have H := R0
 clear R0 H0
 cases H
 exact ge 10 F rfl fun _ F => rt F ⟨v2, rfl, sa⟩
end Go.Proofs.YtfcpkcehecmcpaaGreat
