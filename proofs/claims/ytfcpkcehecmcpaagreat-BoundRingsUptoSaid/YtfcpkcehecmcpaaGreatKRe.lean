/- Lemmas, walks and laws that the row of this claim rests on, merged into few texts: part 5. -/
import Derived.Test.YtfcpkcehecmcpaaGreatKRd
set_option linter.unusedVariables false
set_option linter.unusedSimpArgs false
namespace Go.Proofs.YtfcpkcehecmcpaaGreat
open Go Go.RowKit Go.Pv Go.Proofs.Tryz
open Go.Pv renaming bind_ok → Aa, Bke → Ab, Bhz → Ae, Bkv → Af, Bf5 → Ag, Bd6 → Ah, Bp8 → Ai, AY4 → Aj, Bp2 → Ak, Bk4 → Al, Bll → Ao, Bmz → Ap, Bks → Aq, Ba8 → Ar, Be4 → As, Bm5 → Au, Bdh → Av, Bbs → Aw, Bne → Ax, Bdu → Ay, Bi1 → Az, Blf → Ba, Bfw → Bc, Bcl → Bd, bool_split → Be, Bj5 → Bf, Bm0 → Bg, Bd2 → Bh, Bkj → Bi, Bde → Bj, Bea → Bk, rdL → Bl
open Nat renaming le_of_ble_eq_true → Ac
open Bool renaming noConfusion → Ad
open Go.Pv.RV renaming blk → Am, tmp → An
open Go.Pv.QR renaming nil → Bb
theorem Bew {w : World} {v0 : Value} {a0 : List (List Int)} {a1 : Int} {a2 : Bool} {r : (List Bool)} (hr0 : Rd (Ty.slice (Ty.int .i64)) w [] v0 a0) (H : ARw a0 a1 a2 = some r) :
    Calls prog 30 #[v0, jI a1, .bool a2] w (Ret fun u_ w_ => ∃ u0 : Value, u_ = u0 ∧ SL w [] w_ [Sl Ty.bool u0 r]) := by
 have s0 : SL w [] w [] := SL.Aq9 w
 refine cin func30 ntmps30 8 rfl rfl rfl fun _ F => ?_
 unfold ARw at H
 obtain ⟨x0, h0, H⟩ := Aa H
 refine gx F (Ak rfl underlying64 (fR hr0 s0)) 0 rfl rfl fun _ F => Au Flat.bool false F s0 A73 rfl rfl AFl rfl rfl rfl h0 rfl fun v1 w0 _ F s1 => ?_
 obtain ⟨x1, h1, H⟩ := Aa H
 obtain ⟨a3, c0, G0, h2, h3, h4, h5⟩ := Rd.idx hr0 Bah rfl h1
 refine gw 5 F rfl fun _ F => ?_
 obtain ⟨v2, rfl, h6⟩ := (Bf4 h4 h5)
 replace h3 := h3 _ _ s1
 obtain ⟨x2, h7, H⟩ := Aa H
 refine gw 2 F rfl fun _ F => gi F h2 0 rfl fun _ F => gx F (Ao Bf0 rfl (Aqa.at_ h3 (o := 0) rfl)) 0 rfl rfl fun _ F => ?_
 have s2 := (SL.Axc (T := (Ty.int .i64)) s1)
 obtain ⟨_, hr_⟩ := (Bl h6 s2)
 refine Av (Flat.int .i64) F s2 Awy rfl rfl rfl rfl hr_ rfl rfl h7 rfl fun v3 w1 _ F s3 => ?_
 obtain ⟨o0, H0, R0⟩ := Aa H
 clear H
 refine gw 9 F rfl fun _ F => At9 (fun a w_ => ∃ v4 : Value, Fr a 51 [(1, jI a1), (2, .bool a2), (7, v4)] ∧ SL w [] w_ [Sl Ty.bool v4 o0]) ?_ ?_
 ·have H := H0
  refine gc 1 F rfl fun _ F => lpk (ANh a0) (fun s4 a w_ => ∃ v5 v6 : Value, Fr a 51 [(0, v0), (1, jI a1), (2, .bool a2), (7, v5), (8, v6), (9, jI s4.2.2)] ∧ SL w [] w_ [Sl Ty.bool v5 s4.1, Sl (Ty.int .i64) v6 s4.2.1]) H ?_ ?_
  ·exact ⟨v1, v3, F.sb, s3.f1⟩
  intro s4 _ w2 h8 o1 H hr
  obtain ⟨v5, v6, F, s5⟩ := h8
  replace H : ANh a0 s4 = some o1 := H
  unfold ANh at H
  refine gc 5 F rfl fun _ F => gx F (Ak rfl underlying28 (fO s5 m1)) 3 rfl rfl fun _ F => gif F H 10 4 rfl rfl rfl (fun h9 H _ F => ?_) (fun h9 H _ F => ?_)
  ·obtain ⟨x3, ha, H⟩ := Aa H
   obtain ⟨a4, hb, hc⟩ := Ax (Flat.int .i64) s5 m1 Awy rfl ha
   obtain ⟨x4, hd, H⟩ := Aa H
   obtain ⟨a5, he, hf⟩ := Ax Flat.bool s5 m0 A73 rfl hd
   refine gi F hb 0 rfl fun _ F => gx F (Ao AAd rfl (Aqa.at_ (SL.AN4 (Flat.int .i64) s5 m1 hc ha) (o := 0) rfl)) 0 rfl rfl fun _ F => gi F he 0 rfl fun _ F => gx F (Ao Bbo rfl (Aqa.at_ (SL.AN4 Flat.bool s5 m0 hf hd) (o := 0) rfl)) 2 rfl rfl fun _ F => gif F H 9 7 rfl rfl rfl (fun hg H _ F => ?_) (fun hg H _ F => ?_)
   ·cases H
    exact ⟨_, rfl, v5, v6, F.sb, s5⟩
   obtain ⟨x5, hh, H⟩ := Aa H
   obtain ⟨a6, hi, hj⟩ := Ax (Flat.int .i64) s5 m1 Awy rfl hh
   obtain ⟨x6, hk, H⟩ := Aa H
   obtain ⟨a7, hl, hm⟩ := Ax Flat.bool s5 m0 A73 rfl hk
   refine gi F hi 0 rfl fun _ F => gx F (Ao AAd rfl (Aqa.at_ (SL.AN4 (Flat.int .i64) s5 m1 hj hh) (o := 0) rfl)) 0 rfl rfl fun _ F => gi F hl 0 rfl fun _ F => ?_
   refine Bf (y' := true) Flat.bool F s5 hm hk rfl rfl (by rfl) AYa fun w3 _ F s6 => ?_
   obtain ⟨x7, hn, H⟩ := Aa H
   obtain ⟨a8, ho, hp⟩ := Ax (Flat.int .i64) s6 m1 Awy rfl hn
   obtain ⟨x8, hq, H⟩ := Aa H
   obtain ⟨a9, c1, G1, hs, ht, hu, hv⟩ := Rd.idx hr0 Bah rfl hq
   refine gw 3 F rfl fun _ F => ?_
   obtain ⟨v7, rfl, hw⟩ := (Bf4 hu hv)
   replace ht := ht _ _ s6
   obtain ⟨x9, hx, H⟩ := Aa H
   refine gw 4 F rfl fun _ F => gi F ho 0 rfl fun _ F => gx F (Ao AAd rfl (Aqa.at_ (SL.AN4 (Flat.int .i64) s6 m1 hp hn) (o := 0) rfl)) 0 rfl rfl fun _ F => gi F hs 0 rfl fun _ F => gx F (Ao Bf0 rfl (Aqa.at_ ht (o := 0) rfl)) 0 rfl rfl fun _ F => ?_
   obtain ⟨_, hr_⟩ := (Bl hw s6.f1)
   refine Av (Flat.int .i64) F s6.f1 Awy rfl rfl rfl rfl hr_ rfl rfl hx rfl fun v8 w4 _ F s7 => ?_
   cases H
   exact gw 9 F rfl fun _ F => ⟨_, rfl, v5, v8, F.sb, s7.f1⟩
  cases H
  obtain rfl := hr _ rfl
  exact ⟨v5, F.sb, s5.f1.drop⟩
 intro _ w5 hJ
 obtain ⟨v4, F, s8⟩ := hJ
 have H := R0
 clear R0 H0
 refine ge 7 F rfl fun _ F => gif F H 3 9 rfl rfl rfl (fun hy H _ F => ?_) (fun hy H _ F => ?_)
 ·obtain ⟨xa, hz, H⟩ := Aa H
  obtain ⟨aa, h10, h11⟩ := Ax Flat.bool s8 m0 A73 rfl hz
  refine gi F h10 0 rfl fun _ F => ?_
  refine Bf (y' := true) Flat.bool F s8 h11 hz rfl rfl (by rfl) AYa fun w6 _ F s9 => ?_
  cases H
  exact gw 9 F rfl fun _ F => rt F ⟨v4, rfl, s9⟩
 cases H
 exact rt F ⟨v4, rfl, s8⟩
theorem Bgf {w : World} {v0_1 v0_2 v0_3 : Value} {a0 : Aha} {r : (List Int) × Int × Int} (hr0_1 : Rd Aef w [] v0_1 a0.Classes) (hr0_2 : Rd AAt w [] v0_2 a0.Funcs) (hr0_3 : Rd (Ty.slice Ty.u8) w [] v0_3 a0.AF4) (H : AVq a0 = some r) :
    Calls prog 10 #[.agg ⟨[.string ⟨⟨a0.Name⟩⟩, v0_1, v0_2, v0_3]⟩] w (Ret fun u_ w_ => ∃ u0 : Value, u_ = .tuple ⟨[u0, jI r.2.1, jI r.2.2]⟩ ∧ SL w [] w_ [Sl (Ty.int .i64) u0 r.1]) := by
 have s0 : SL w [] w [] := SL.Aq9 w
 refine cin func10 ntmps10 2 rfl rfl rfl fun _ F0 => ?_
 unfold AVq at H
 refine Ar F0 s0 rfl rfl rfl fun g8 w9 _ F s1 => ?_
 obtain ⟨o0, H0, R0⟩ := Aa H
 clear H
 refine gw 16 F rfl fun _ F => At9 (fun a w_ => ∃ p0 : (List (List Int)), o0 = .inr (p0) ∧ ∃ v0 : Value, Fr a 52 [(1, jP g8), (5, v0)] ∧ SL w [] w_ [Blk g8 26 [.string ⟨⟨a0.Name⟩⟩, v0_1, v0_2, v0_3], Sl (Ty.slice (Ty.int .i64)) v0 p0]) ?_ ?_
 ·have H := H0
  refine gc 1 F rfl fun _ F => lpk (AN1 a0) (fun s2 a w_ => ∃ v1 : Value, Fr a 52 [(1, jP g8), (5, v1), (6, jI s2.2)] ∧ SL w [] w_ [Blk g8 26 [.string ⟨⟨a0.Name⟩⟩, v0_1, v0_2, v0_3], Sl (Ty.slice (Ty.int .i64)) v1 s2.1]) H ?_ ?_
  ·exact ⟨(.slice none 0 0), F.sb, (SL.Axc (T := (Ty.slice (Ty.int .i64))) s1).f1⟩
  intro s2 _ w0 h0 o1 H hr
  obtain ⟨v1, F, s3⟩ := h0
  replace H : AN1 a0 s2 = some o1 := H
  unfold AN1 at H
  refine gc 5 F rfl fun _ F => gld F s3 m0 0 rfl fun _ F => gx F (Ak rfl underlying23 (fR hr0_2 s3)) 3 rfl rfl fun _ F => gif F H 6 4 rfl rfl rfl (fun h1 H _ F => ?_) (fun h1 H _ F => ?_)
  ·obtain ⟨x0, h2, H⟩ := Aa H
   refine gld F s3 m0 1 rfl fun _ F => std F (Bf7 (a0 := (⟨a0.Name, a0.Classes, a0.Funcs, a0.AF4⟩ : Aha)) (hr0_1.Ajq s3) (hr0_2.Ajq s3) (hr0_3.Ajq s3) h2) fun v2 w1 _ h3 F => ?_
   obtain ⟨v3, rfl, h4⟩ := h3
   have s4 := s3.add h4
   refine gw 16 F rfl fun _ F => gif F H 17 5 rfl rfl rfl (fun h5 H _ F => ?_) (fun h5 H _ F => ?_)
   ·cases H
    obtain rfl := hr _ rfl
    replace H := R0
    try dsimp only at H
    cases H
    exact rt F ⟨(.slice none 0 0), rfl, (SL.Axc (T := (Ty.int .i64)) s4).f1.drop.f1.drop.f1.drop⟩
   have h6 := (fO s4 m0)
   have s5 : SL w [] _ (Dt (Ty.slice (Ty.int .i64)) x0.1 [v3] :: [Blk g8 26 [.string ⟨⟨a0.Name⟩⟩, v0_1, v0_2, v0_3], Sl (Ty.slice (Ty.int .i64)) v1 s2.1]) := (SL.dsl s4)
   refine Bc F s5 Bah rfl (by decide) rfl (Ag h6) rfl fun v4 w2 _ F s6 => ?_
   obtain ⟨x1, h7, H⟩ := Aa H
   refine Bd F s6.f2 Bah rfl rfl rfl rfl rfl rfl h7 rfl fun v5 w3 _ F s7 => ?_
   cases H
   exact gw 9 F rfl fun _ F => ⟨_, rfl, v5, F.sb, s7.f1⟩
  cases H
  obtain rfl := hr _ rfl
  exact ⟨_, rfl, v1, F.sb, s3⟩
 intro _ w4 hJ
 obtain ⟨p0, rfl, v0, F, s8⟩ := hJ
 have H := R0
 clear R0 H0
 try dsimp only at H
 obtain ⟨o2, H1, R1⟩ := Aa H
 clear H
 refine ge 12 F rfl fun _ F => At9 (fun a w_ => ∃ v6 : Value, Fr a 52 [(10, v6)] ∧ SL w [] w_ [Sl (Ty.int .i64) v6 o2]) ?_ ?_
 ·have H := H1
  refine gc 1 F rfl fun _ F => lpk (AN3 a0 p0) (fun s9 a w_ => ∃ v7 : Value, Fr a 52 [(1, jP g8), (5, v0), (10, v7), (11, jI s9.2)] ∧ SL w [] w_ [Blk g8 26 [.string ⟨⟨a0.Name⟩⟩, v0_1, v0_2, v0_3], Sl (Ty.slice (Ty.int .i64)) v0 p0, Sl (Ty.int .i64) v7 s9.1]) H ?_ ?_
  ·exact ⟨(.slice none 0 0), F.sb, (SL.Axc (T := (Ty.int .i64)) s8).f2.f2⟩
  intro s9 _ w5 h8 o3 H hr
  obtain ⟨v7, F, sa⟩ := h8
  replace H : AN3 a0 p0 s9 = some o3 := H
  unfold AN3 at H
  refine gc 5 F rfl fun _ F => gld F sa m0 0 rfl fun _ F => gx F (Ak rfl underlying23 (fR hr0_2 sa)) 3 rfl rfl fun _ F => gif F H 8 4 rfl rfl rfl (fun h9 H _ F => ?_) (fun h9 H _ F => ?_)
  ·obtain ⟨x2, ha, H⟩ := Aa H
   refine std F (Bew (sa.rd0 m1) ha) fun v8 w6 _ hb F => ?_
   obtain ⟨_, rfl, hc⟩ := hb
   have sc := sa.add hc
   obtain ⟨x3, hd, H⟩ := Aa H
   obtain ⟨a1, he, hf⟩ := Ax Flat.bool sc m0 A73 rfl hd
   refine gw 1 F rfl fun _ F => gi F he 0 rfl fun _ F => gx F (Ao Bbo rfl (Aqa.at_ (SL.AN4 Flat.bool sc m0 hf hd) (o := 0) rfl)) 2 rfl rfl fun _ F => gif F H 3 8 rfl rfl rfl (fun hg H _ F => ?_) (fun hg H _ F => ?_)
   ·refine Ae (parts := [(0, .tmp 48)]) (Flat.int .i64) ([s9.2] : List Int) F sc Awy rfl (by decide) rfl rfl rfl (by simp [Value.cells]) rfl rfl rfl fun v9 w7 _ F sd => ?_
    obtain ⟨x4, hh, H⟩ := Aa H
    obtain ⟨_, hr_⟩ := (sd.f4.A59 m1)
    refine Av (Flat.int .i64) F sd.f4 Awy rfl rfl rfl rfl hr_ rfl rfl hh rfl fun va w8 _ F se => ?_
    have s6837' := se.f1.drop
    cases H
    exact gw 9 F rfl fun _ F => ⟨_, rfl, va, F.sb, s6837'.f1.drop.f2.f2⟩
   cases H
   exact ⟨_, rfl, v7, F.sb, sc.drop⟩
  cases H
  obtain rfl := hr _ rfl
  exact ⟨v7, F.sb, sa.drop.drop⟩
 intro _ wa hJ
 obtain ⟨v6, F, sf⟩ := hJ
 have H := R1
 clear R1 H1
 cases H
 exact ge 10 F rfl fun _ F => rt F ⟨v6, rfl, sf⟩
theorem Bes {w : World} {v0 v1 : Value} {a0 : List Int} {a1 : List Int} {r : Bool} (hr0 : Rd (Ty.int .i64) w [] v0 a0) (hr1 : Rd (Ty.int .i64) w [] v1 a1) (H : ASn a0 a1 = some r) :
    Calls prog 11 #[v0, v1] w (Ret fun u_ w_ => u_ = .bool r ∧ SL w [] w_ []) := by
 have s0 : SL w [] w [] := SL.Aq9 w
 refine cin func11 ntmps11 9 rfl rfl rfl fun _ F => ?_
 unfold ASn at H
 refine gx F (Ak rfl underlying28 (fR hr0 s0)) 1 rfl rfl fun _ F => gx F (Ak rfl underlying28 (fR hr1 s0)) 3 rfl rfl fun _ F => gif F H 7 6 rfl rfl rfl (fun h0 H _ F => ?_) (fun h0 H _ F => ?_)
 ·cases H
  exact rt F ⟨rfl, s0⟩
 obtain ⟨o0, H0, R0⟩ := Aa H
 clear H
 refine gx F (Ak rfl underlying28 (fR hr0 s0)) 3 rfl rfl fun _ F => At9 (fun a w_ => ∃ p0 : Unit, o0 = .inr (p0) ∧ Fr a 26 [] ∧ SL w [] w_ []) ?_ ?_
 ·have H := H0
  refine gc 1 F rfl fun _ F => lpk (APz a0 a1) (fun s1 a w_ => Fr a 26 [(0, v0), (1, v1), (12, jI (a0.length : Int)), (13, jI s1)] ∧ SL w [] w_ []) H ?_ ?_
  ·exact ⟨F.sb, s0⟩
  intro s1 _ w0 h1 o1 H hr
  obtain ⟨F, s2⟩ := h1
  replace H : APz a0 a1 s1 = some o1 := H
  unfold APz at H
  refine gc 6 F rfl fun _ F => gif F H 11 4 rfl rfl rfl (fun h2 H _ F => ?_) (fun h2 H _ F => ?_)
  ·obtain ⟨x0, h3, H⟩ := Aa H
   obtain ⟨a2, h4, h5⟩ := ASr (Flat.int .i64) (fun _ hC => (Bl hr0 hC)) s2 Awy rfl h3
   obtain ⟨x1, h6, H⟩ := Aa H
   obtain ⟨a3, h7, h8⟩ := ASr (Flat.int .i64) (fun _ hC => (Bl hr1 hC)) s2 Awy rfl h6
   refine ATo Aq8 s2 F (QR.ev 2 rfl <| QR.ix h4 rfl <| QR.qo (fun _ hC => Ao AAd rfl (Aqa.at_ (h5 _ hC) (o := 0) rfl)) rfl <| QR.ev 2 rfl <| QR.ix h7 rfl <| QR.qo (fun _ hC => Ao AAd rfl (Aqa.at_ (h8 _ hC) (o := 0) rfl)) rfl <| QR.ev 1 rfl <| Bb) fun w1 _ s3 F => ge 1 F rfl fun _ F => gif F H 12 7 rfl rfl rfl (fun h9 H _ F => ?_) (fun h9 H _ F => ?_)
   ·cases H
    obtain rfl := hr _ rfl
    replace H := R0
    try dsimp only at H
    cases H
    exact rt F ⟨rfl, s3⟩
   cases H
   exact ⟨_, rfl, F.sb, s3⟩
  cases H
  obtain rfl := hr _ rfl
  exact ⟨_, rfl, F.sb, s2⟩
 intro _ w2 hJ
 obtain ⟨p0, rfl, F, s4⟩ := hJ
 have H := R0
 clear R0 H0
 try dsimp only at H
 cases H
 exact ge 7 F rfl fun _ F => rt F ⟨rfl, s4⟩
theorem AZf {w : World} {v0 v1 : Value} {a0 : List Ar2} {a1 : List Ar2} {r : Bool} (hr0 : Rd AG5 w [] v0 a0) (hr1 : Rd AG5 w [] v1 a1) (H : AOi a0 a1 = some r) :
    Calls prog 53 #[v0, v1] w (Ret fun u_ w_ => u_ = .bool r ∧ SL w [] w_ []) := by
 have s0 : SL w [] w [] := SL.Aq9 w
 refine cin func53 ntmps53 9 rfl rfl rfl fun _ F => ?_
 unfold AOi at H
 refine gx F (Ak rfl underlying101 (fR hr0 s0)) 1 rfl rfl fun _ F => gx F (Ak rfl underlying101 (fR hr1 s0)) 3 rfl rfl fun _ F => gif F H 7 6 rfl rfl rfl (fun h0 H _ F => ?_) (fun h0 H _ F => ?_)
 ·cases H
  exact rt F ⟨rfl, s0⟩
 obtain ⟨o0, H0, R0⟩ := Aa H
 clear H
 refine gx F (Ak rfl underlying101 (fR hr0 s0)) 3 rfl rfl fun _ F => At9 (fun a w_ => ∃ p0 : Unit, o0 = .inr (p0) ∧ Fr a 26 [] ∧ SL w [] w_ []) ?_ ?_
 ·have H := H0
  refine gc 1 F rfl fun _ F => lpk (AM9 a0 a1) (fun s1 a w_ => Fr a 26 [(0, v0), (1, v1), (12, jI (a0.length : Int)), (13, jI s1)] ∧ SL w [] w_ []) H ?_ ?_
  ·exact ⟨F.sb, s0⟩
  intro s1 _ w0 h1 o1 H hr
  obtain ⟨F, s2⟩ := h1
  replace H : AM9 a0 a1 s1 = some o1 := H
  unfold AM9 at H
  refine gc 6 F rfl fun _ F => gif F H 11 4 rfl rfl rfl (fun h2 H _ F => ?_) (fun h2 H _ F => ?_)
  ·obtain ⟨x0, h3, H⟩ := Aa H
   obtain ⟨a2, h4, h5⟩ := ASr AOt (fun _ hC => (Bl hr0 hC)) s2 ASm rfl h3
   obtain ⟨x1, h6, H⟩ := Aa H
   obtain ⟨a3, h7, h8⟩ := ASr AOt (fun _ hC => (Bl hr1 hC)) s2 ASm rfl h6
   refine ATo Aq8 s2 F (QR.ev 2 rfl <| QR.ix h4 rfl <| QR.qo (fun _ hC => Aw Bca rfl (h5 _ hC) rfl) rfl <| QR.ev 2 rfl <| QR.ix h7 rfl <| QR.qo (fun _ hC => Aw Bca rfl (h8 _ hC) rfl) rfl <| QR.qo (fun _ hC => Bit (xs := [.string ⟨⟨x0.Name⟩⟩, jU (x0.ASg.toNat : Int)]) (ys := [.string ⟨⟨x1.Name⟩⟩, jU (x1.ASg.toNat : Int)]) Bph (by decide) rfl rfl (Bix Bph Bwn (Bi rfl (Bj AUt rfl) (Bj AUt rfl) (EqAt.up (j := 1) (Bws underlying9) (by decide)) (Bi rfl (Bj Aw9 rfl) (Bj Aw9 rfl) (EqAt.up (j := 1) (Br7 underlying48) (by decide)) Bi8)))) rfl <| Bb) fun w1 _ s3 F => ?_
   refine ge 1 F rfl fun _ F => gif F H 12 7 rfl rfl rfl (fun h9 H _ F => ?_) (fun h9 H _ F => ?_)
   ·cases H
    obtain rfl := hr _ rfl
    replace H := R0
    try dsimp only at H
    cases H
    exact rt F ⟨rfl, s3⟩
   cases H
   exact ⟨_, rfl, F.sb, s3⟩
  cases H
  obtain rfl := hr _ rfl
  exact ⟨_, rfl, F.sb, s2⟩
 intro _ w2 hJ
 obtain ⟨p0, rfl, F, s4⟩ := hJ
 have H := R0
 clear R0 H0
 try dsimp only at H
 cases H
 exact ge 7 F rfl fun _ F => rt F ⟨rfl, s4⟩
theorem Bcj {w : World} {v0 v1 : Value} {a0 : List Abi} {a1 : List Abi} {r : Bool} (hr0 : Rd Aef w [] v0 a0) (hr1 : Rd Aef w [] v1 a1) (H : AQ5 a0 a1 = some r) :
    Calls prog 31 #[v0, v1] w (Ret fun u_ w_ => u_ = .bool r ∧ SL w [] w_ []) := by
 have s0 : SL w [] w [] := SL.Aq9 w
 refine cin func31 ntmps31 9 rfl rfl rfl fun _ F => ?_
 unfold AQ5 at H
 refine gx F (Ak rfl underlying22 (fR hr0 s0)) 1 rfl rfl fun _ F => gx F (Ak rfl underlying22 (fR hr1 s0)) 3 rfl rfl fun _ F => gif F H 7 6 rfl rfl rfl (fun h0 H _ F => ?_) (fun h0 H _ F => ?_)
 ·cases H
  exact rt F ⟨rfl, s0⟩
 obtain ⟨o0, H0, R0⟩ := Aa H
 clear H
 refine gx F (Ak rfl underlying22 (fR hr0 s0)) 3 rfl rfl fun _ F => At9 (fun a w_ => ∃ p0 : Unit, o0 = .inr (p0) ∧ Fr a 55 [] ∧ SL w [] w_ []) ?_ ?_
 ·have H := H0
  refine gc 1 F rfl fun _ F => lpk (AOr a0 a1) (fun s1 a w_ => Fr a 55 [(0, v0), (1, v1), (12, jI (a0.length : Int)), (13, jI s1)] ∧ SL w [] w_ []) H ?_ ?_
  ·exact ⟨F.sb, s0⟩
  intro s1 _ w0 h1 o1 H hr
  obtain ⟨F, s2⟩ := h1
  replace H : AOr a0 a1 s1 = some o1 := H
  unfold AOr at H
  refine gc 6 F rfl fun _ F => gif F H 11 4 rfl rfl rfl (fun h2 H _ F => ?_) (fun h2 H _ F => ?_)
  ·obtain ⟨x0, h3, H⟩ := Aa H
   obtain ⟨a2, c0, G0, h4, h5, h6, h7⟩ := Rd.idx hr0 AOf rfl h3
   obtain ⟨v2, rfl, h8⟩ := (ALt h6 h7)
   have hc4631_ := h5; clear h5; have h5 := fun w_ (hC : SL w [] w_ []) => hc4631_ _ _ hC
   obtain ⟨x1, h9, H⟩ := Aa H
   obtain ⟨a3, c1, G1, ha, hb, hc, hd⟩ := Rd.idx hr1 AOf rfl h9
   obtain ⟨v3, rfl, he⟩ := (ALt hc hd)
   have hc4642_ := hb; clear hb; have hb := fun w_ (hC : SL w [] w_ []) => hc4642_ _ _ hC
   refine Be (x0.Name != x1.Name) (fun hf => ?_) (fun hf => ?_)
   ·replace H := AZv hf H
    refine ATo Aq8 s2 F (QR.ev 2 rfl <| QR.ix h4 rfl <| QR.qo (fun _ hC => Ba AW7 rfl) rfl <| QR.qo (fun _ hC => Ao AUt rfl (Aqa.at_ (h5 _ hC) (o := 0) rfl)) rfl <| QR.ev 2 rfl <| QR.ix ha rfl <| QR.qo (fun _ hC => Ba AW7 rfl) rfl <| QR.qo (fun _ hC => Ao AUt rfl (Aqa.at_ (hb _ hC) (o := 0) rfl)) rfl <| QR.qo (fun _ hC => Bma rfl rfl) rfl <| QR.ev 1 rfl <| QR.qs rfl rfl (Ai rfl hf) Ad rfl rfl <| QR.qs rfl rfl (Ai rfl hf) Ad rfl rfl <| QR.qs rfl rfl (Ai rfl hf) Ad rfl rfl <| QR.qs rfl rfl (Ai rfl hf) Ad rfl rfl <| QR.qs rfl rfl (Ai rfl hf) Ad rfl rfl <| QR.qs rfl rfl (Ai rfl hf) Ad rfl rfl <| QR.qs rfl rfl (Ai rfl hf) Ad rfl rfl <| QR.qs rfl rfl (Ai rfl hf) Ad rfl rfl <| QR.qs rfl rfl (Ai rfl hf) Ad rfl rfl <| QR.qs rfl rfl (Ai rfl hf) Ad rfl rfl <| QR.qs rfl rfl (Ai rfl hf) Ad rfl rfl <| QR.qo (fun _ hC => Bh (AXr rfl hf) rfl) rfl <| QR.ev 1 rfl <| QR.qs rfl rfl rfl Ad rfl rfl <| QR.qs rfl rfl rfl Ad rfl rfl <| QR.qs rfl rfl rfl Ad rfl rfl <| QR.qs rfl rfl rfl Ad rfl rfl <| QR.qs rfl rfl rfl Ad rfl rfl <| QR.qs rfl rfl rfl Ad rfl rfl <| QR.qs rfl rfl rfl Ad rfl rfl <| QR.qs rfl rfl rfl Ad rfl rfl <| QR.qs rfl rfl rfl Ad rfl rfl <| QR.qs rfl rfl rfl Ad rfl rfl <| QR.qs rfl rfl rfl Ad rfl rfl <| QR.qs rfl rfl rfl Ad rfl rfl <| QR.qo (fun _ hC => Bh rfl rfl) rfl <| Bb) fun w1 _ s3 F => ?_
    cases H
    obtain rfl := hr _ rfl
    replace H := R0
    try dsimp only at H
    cases H
    exact ge 14 F rfl fun _ F => rt F ⟨rfl, s3⟩
   replace H := AZy hf H
   obtain ⟨x2, hg, H⟩ := Aa H
   obtain ⟨a4, c2, G2, hh, hi, hj, hk⟩ := Rd.idx hr0 AOf rfl hg
   obtain ⟨v4, rfl, hl⟩ := (ALt hj hk)
   have hc4660_ := hi; clear hi; have hi := fun w_ (hC : SL w [] w_ []) => hc4660_ _ _ hC
   obtain ⟨x3, hm, H⟩ := Aa H
   obtain ⟨a5, c3, G3, hn, ho, hp, hq⟩ := Rd.idx hr1 AOf rfl hm
   obtain ⟨v5, rfl, hs⟩ := (ALt hp hq)
   have hc4671_ := ho; clear ho; have ho := fun w_ (hC : SL w [] w_ []) => hc4671_ _ _ hC
   refine Be (x2.Ar1 != x3.Ar1) (fun ht => ?_) (fun ht => ?_)
   ·replace H := AZv ht H
    refine ATo Aq8 s2 F (QR.ev 2 rfl <| QR.ix h4 rfl <| QR.qo (fun _ hC => Ba AW7 rfl) rfl <| QR.qo (fun _ hC => Ao AUt rfl (Aqa.at_ (h5 _ hC) (o := 0) rfl)) rfl <| QR.ev 2 rfl <| QR.ix ha rfl <| QR.qo (fun _ hC => Ba AW7 rfl) rfl <| QR.qo (fun _ hC => Ao AUt rfl (Aqa.at_ (hb _ hC) (o := 0) rfl)) rfl <| QR.qo (fun _ hC => Bma rfl rfl) rfl <| QR.ev 1 rfl <| QR.qg (fun _ hC => Az rfl) rfl rfl (Ai rfl hf) rfl rfl <| QR.qg (fun _ hC => Az rfl) rfl rfl (Ai rfl hf) rfl rfl <| QR.qg (fun _ hC => hh _ _ _ _ _ _ _ _ _ _ rfl rfl) rfl rfl (Ai rfl hf) rfl rfl <| QR.qg (fun _ hC => Ba ATe rfl) rfl rfl (Ai rfl hf) rfl rfl <| QR.qg (fun _ hC => Ao AAd rfl (Aqa.at_ (hi _ hC) (o := 1) rfl)) rfl rfl (Ai rfl hf) rfl rfl <| QR.qg (fun _ hC => Az rfl) rfl rfl (Ai rfl hf) rfl rfl <| QR.qg (fun _ hC => Az rfl) rfl rfl (Ai rfl hf) rfl rfl <| QR.qg (fun _ hC => hn _ _ _ _ _ _ _ _ _ _ rfl rfl) rfl rfl (Ai rfl hf) rfl rfl <| QR.qg (fun _ hC => Ba ATe rfl) rfl rfl (Ai rfl hf) rfl rfl <| QR.qg (fun _ hC => Ao AAd rfl (Aqa.at_ (ho _ hC) (o := 1) rfl)) rfl rfl (Ai rfl hf) rfl rfl <| QR.qg (fun _ hC => Bcr rfl rfl) rfl rfl (Ai rfl hf) rfl rfl <| QR.qo (fun _ hC => Bk (AXr rfl hf) rfl) rfl <| QR.ev 1 rfl <| QR.qs rfl rfl (Ai rfl ht) Ad rfl rfl <| QR.qs rfl rfl (Ai rfl ht) Ad rfl rfl <| QR.qs rfl rfl (Ai rfl ht) Ad rfl rfl <| QR.qs rfl rfl (Ai rfl ht) Ad rfl rfl <| QR.qs rfl rfl (Ai rfl ht) Ad rfl rfl <| QR.qs rfl rfl (Ai rfl ht) Ad rfl rfl <| QR.qs rfl rfl (Ai rfl ht) Ad rfl rfl <| QR.qs rfl rfl (Ai rfl ht) Ad rfl rfl <| QR.qs rfl rfl (Ai rfl ht) Ad rfl rfl <| QR.qs rfl rfl (Ai rfl ht) Ad rfl rfl <| QR.qs rfl rfl (Ai rfl ht) Ad rfl rfl <| QR.qs rfl rfl (Ai rfl ht) Ad rfl rfl <| QR.qo (fun _ hC => Bh (AXr rfl ht) rfl) rfl <| Bb) fun w2 _ s4 F => ?_
    cases H
    obtain rfl := hr _ rfl
    replace H := R0
    try dsimp only at H
    cases H
    exact ge 14 F rfl fun _ F => rt F ⟨rfl, s4⟩
   replace H := AZy ht H
   obtain ⟨x4, hu, H⟩ := Aa H
   obtain ⟨a6, c4, G4, hv, hw, hx, hy⟩ := Rd.idx hr0 AOf rfl hu
   obtain ⟨v6, rfl, hz⟩ := (ALt hx hy)
   have hc4689_ := hw; clear hw; have hw := fun w_ (hC : SL w [] w_ []) => hc4689_ _ _ hC
   obtain ⟨x5, h10, H⟩ := Aa H
   obtain ⟨a7, c5, G5, h11, h12, h13, h14⟩ := Rd.idx hr1 AOf rfl h10
   obtain ⟨v7, rfl, h15⟩ := (ALt h13 h14)
   have hc4700_ := h12; clear h12; have h12 := fun w_ (hC : SL w [] w_ []) => hc4700_ _ _ hC
   obtain ⟨x6, h16, H⟩ := Aa H
   refine ATo Aq8 s2 F (QR.ev 2 rfl <| QR.ix h4 rfl <| QR.qo (fun _ hC => Ba AW7 rfl) rfl <| QR.qo (fun _ hC => Ao AUt rfl (Aqa.at_ (h5 _ hC) (o := 0) rfl)) rfl <| QR.ev 2 rfl <| QR.ix ha rfl <| QR.qo (fun _ hC => Ba AW7 rfl) rfl <| QR.qo (fun _ hC => Ao AUt rfl (Aqa.at_ (hb _ hC) (o := 0) rfl)) rfl <| QR.qo (fun _ hC => Bma rfl rfl) rfl <| QR.ev 1 rfl <| QR.qg (fun _ hC => Az rfl) rfl rfl (Ai rfl hf) rfl rfl <| QR.qg (fun _ hC => Az rfl) rfl rfl (Ai rfl hf) rfl rfl <| QR.qg (fun _ hC => hh _ _ _ _ _ _ _ _ _ _ rfl rfl) rfl rfl (Ai rfl hf) rfl rfl <| QR.qg (fun _ hC => Ba ATe rfl) rfl rfl (Ai rfl hf) rfl rfl <| QR.qg (fun _ hC => Ao AAd rfl (Aqa.at_ (hi _ hC) (o := 1) rfl)) rfl rfl (Ai rfl hf) rfl rfl <| QR.qg (fun _ hC => Az rfl) rfl rfl (Ai rfl hf) rfl rfl <| QR.qg (fun _ hC => Az rfl) rfl rfl (Ai rfl hf) rfl rfl <| QR.qg (fun _ hC => hn _ _ _ _ _ _ _ _ _ _ rfl rfl) rfl rfl (Ai rfl hf) rfl rfl <| QR.qg (fun _ hC => Ba ATe rfl) rfl rfl (Ai rfl hf) rfl rfl <| QR.qg (fun _ hC => Ao AAd rfl (Aqa.at_ (ho _ hC) (o := 1) rfl)) rfl rfl (Ai rfl hf) rfl rfl <| QR.qg (fun _ hC => Bcr rfl rfl) rfl rfl (Ai rfl hf) rfl rfl <| QR.qo (fun _ hC => Bk (AXr rfl hf) rfl) rfl <| QR.ev 1 rfl <| QR.qg (fun _ hC => Az rfl) rfl rfl (Ai rfl ht) rfl rfl <| QR.qg (fun _ hC => Az rfl) rfl rfl (Ai rfl ht) rfl rfl <| QR.qg (fun _ hC => hv _ _ _ _ _ _ _ _ _ _ rfl rfl) rfl rfl (Ai rfl ht) rfl rfl <| QR.qg (fun _ hC => Ba AXb rfl) rfl rfl (Ai rfl ht) rfl rfl <| QR.qg (fun _ hC => Ao AYn rfl (Aqa.at_ (hw _ hC) (o := 2) rfl)) rfl rfl (Ai rfl ht) rfl rfl <| QR.qg (fun _ hC => Az rfl) rfl rfl (Ai rfl ht) rfl rfl <| QR.qg (fun _ hC => Az rfl) rfl rfl (Ai rfl ht) rfl rfl <| QR.qg (fun _ hC => h11 _ _ _ _ _ _ _ _ _ _ rfl rfl) rfl rfl (Ai rfl ht) rfl rfl <| QR.qg (fun _ hC => Ba AXb rfl) rfl rfl (Ai rfl ht) rfl rfl <| QR.qg (fun _ hC => Ao AYn rfl (Aqa.at_ (h12 _ hC) (o := 2) rfl)) rfl rfl (Ai rfl ht) rfl rfl <| QR.Bt1 rfl (Ai rfl ht) (args := [.tmp 45, .tmp 50]) Bzw rfl (fun _ hC => Bg (AZf (a0 := x4.Fields) (a1 := x5.Fields) (hz.Ajq hC) (h15.Ajq hC) h16) hC) <| QR.qg (fun _ hC => Bv4 rfl) rfl rfl (Ai rfl ht) rfl rfl <| QR.qo (fun _ hC => Bk (AXr rfl ht) rfl) rfl <| Bb) fun w3 _ s5 F => ?_
   refine ge 1 F rfl fun _ F => gif F H 12 7 rfl rfl rfl (fun h17 H _ F => ?_) (fun h17 H _ F => ?_)
   ·cases H
    obtain rfl := hr _ rfl
    replace H := R0
    try dsimp only at H
    cases H
    exact rt F ⟨rfl, s5⟩
   cases H
   exact ⟨_, rfl, F.sb, s5⟩
  cases H
  obtain rfl := hr _ rfl
  exact ⟨_, rfl, F.sb, s2⟩
 intro _ w4 hJ
 obtain ⟨p0, rfl, F, s6⟩ := hJ
 have H := R0
 clear R0 H0
 try dsimp only at H
 cases H
 exact ge 7 F rfl fun _ F => rt F ⟨rfl, s6⟩
theorem AYl {w : World} {v0 v1 : Value} {a0 : List UInt8} {a1 : List UInt8} {r : Bool} (hr0 : Rd Ty.u8 w [] v0 a0) (hr1 : Rd Ty.u8 w [] v1 a1) (H : AQj a0 a1 = some r) :
    Calls prog 33 #[v0, v1] w (Ret fun u_ w_ => u_ = .bool r ∧ SL w [] w_ []) := by
 have s0 : SL w [] w [] := SL.Aq9 w
 refine cin func33 ntmps33 9 rfl rfl rfl fun _ F => ?_
 unfold AQj at H
 refine gx F (Ak rfl underlying42 (fR hr0 s0)) 1 rfl rfl fun _ F => gx F (Ak rfl underlying42 (fR hr1 s0)) 3 rfl rfl fun _ F => gif F H 7 6 rfl rfl rfl (fun h0 H _ F => ?_) (fun h0 H _ F => ?_)
 ·cases H
  exact rt F ⟨rfl, s0⟩
 obtain ⟨o0, H0, R0⟩ := Aa H
 clear H
 refine gx F (Ak rfl underlying42 (fR hr0 s0)) 3 rfl rfl fun _ F => At9 (fun a w_ => ∃ p0 : Unit, o0 = .inr (p0) ∧ Fr a 26 [] ∧ SL w [] w_ []) ?_ ?_
 ·have H := H0
  refine gc 1 F rfl fun _ F => lpk (AO7 a0 a1) (fun s1 a w_ => Fr a 26 [(0, v0), (1, v1), (12, jI (a0.length : Int)), (13, jI s1)] ∧ SL w [] w_ []) H ?_ ?_
  ·exact ⟨F.sb, s0⟩
  intro s1 _ w0 h1 o1 H hr
  obtain ⟨F, s2⟩ := h1
  replace H : AO7 a0 a1 s1 = some o1 := H
  unfold AO7 at H
  refine gc 6 F rfl fun _ F => gif F H 11 4 rfl rfl rfl (fun h2 H _ F => ?_) (fun h2 H _ F => ?_)
  ·obtain ⟨x0, h3, H⟩ := Aa H
   obtain ⟨a2, h4, h5⟩ := ASr Flat.u8 (fun _ hC => (Bl hr0 hC)) s2 AO0 rfl h3
   obtain ⟨x1, h6, H⟩ := Aa H
   obtain ⟨a3, h7, h8⟩ := ASr Flat.u8 (fun _ hC => (Bl hr1 hC)) s2 AO0 rfl h6
   refine ATo Aq8 s2 F (QR.ev 2 rfl <| QR.ix h4 rfl <| QR.qo (fun _ hC => Ao AZa rfl (Aqa.at_ (h5 _ hC) (o := 0) rfl)) rfl <| QR.ev 2 rfl <| QR.ix h7 rfl <| QR.qo (fun _ hC => Ao AZa rfl (Aqa.at_ (h8 _ hC) (o := 0) rfl)) rfl <| QR.ev 1 rfl <| Bb) fun w1 _ s3 F => ge 1 F rfl fun _ F => gif F H 12 7 rfl rfl rfl (fun h9 H _ F => ?_) (fun h9 H _ F => ?_)
   ·cases H
    obtain rfl := hr _ rfl
    replace H := R0
    try dsimp only at H
    cases H
    exact rt F ⟨rfl, s3⟩
   cases H
   exact ⟨_, rfl, F.sb, s3⟩
  cases H
  obtain rfl := hr _ rfl
  exact ⟨_, rfl, F.sb, s2⟩
 intro _ w2 hJ
 obtain ⟨p0, rfl, F, s4⟩ := hJ
 have H := R0
 clear R0 H0
 try dsimp only at H
 cases H
 exact ge 7 F rfl fun _ F => rt F ⟨rfl, s4⟩
theorem AZz {w : World} {v0 v1 : Value} {a0 : List UInt8} {a1 : List UInt8} {r : Bool} (hr0 : Rd Ty.u8 w [] v0 a0) (hr1 : Rd Ty.u8 w [] v1 a1) (H : AO1 a0 a1 = some r) :
    Calls prog 79 #[v0, v1] w (Ret fun u_ w_ => u_ = .bool r ∧ SL w [] w_ []) := by
 have s0 : SL w [] w [] := SL.Aq9 w
 refine cin func79 ntmps79 9 rfl rfl rfl fun _ F => ?_
 unfold AO1 at H
 refine gx F (Ak rfl underlying47 (fR hr0 s0)) 1 rfl rfl fun _ F => gx F (Ak rfl underlying47 (fR hr1 s0)) 3 rfl rfl fun _ F => gif F H 7 6 rfl rfl rfl (fun h0 H _ F => ?_) (fun h0 H _ F => ?_)
 ·cases H
  exact rt F ⟨rfl, s0⟩
 obtain ⟨o0, H0, R0⟩ := Aa H
 clear H
 refine gx F (Ak rfl underlying47 (fR hr0 s0)) 3 rfl rfl fun _ F => At9 (fun a w_ => ∃ p0 : Unit, o0 = .inr (p0) ∧ Fr a 26 [] ∧ SL w [] w_ []) ?_ ?_
 ·have H := H0
  refine gc 1 F rfl fun _ F => lpk (ANm a0 a1) (fun s1 a w_ => Fr a 26 [(0, v0), (1, v1), (12, jI (a0.length : Int)), (13, jI s1)] ∧ SL w [] w_ []) H ?_ ?_
  ·exact ⟨F.sb, s0⟩
  intro s1 _ w0 h1 o1 H hr
  obtain ⟨F, s2⟩ := h1
  replace H : ANm a0 a1 s1 = some o1 := H
  unfold ANm at H
  refine gc 6 F rfl fun _ F => gif F H 11 4 rfl rfl rfl (fun h2 H _ F => ?_) (fun h2 H _ F => ?_)
  ·obtain ⟨x0, h3, H⟩ := Aa H
   obtain ⟨a2, h4, h5⟩ := ASr Flat.u8 (fun _ hC => (Bl hr0 hC)) s2 Aqg rfl h3
   obtain ⟨x1, h6, H⟩ := Aa H
   obtain ⟨a3, h7, h8⟩ := ASr Flat.u8 (fun _ hC => (Bl hr1 hC)) s2 Aqg rfl h6
   refine ATo Aq8 s2 F (QR.ev 2 rfl <| QR.ix h4 rfl <| QR.qo (fun _ hC => Ao Aw9 rfl (Aqa.at_ (h5 _ hC) (o := 0) rfl)) rfl <| QR.ev 2 rfl <| QR.ix h7 rfl <| QR.qo (fun _ hC => Ao Aw9 rfl (Aqa.at_ (h8 _ hC) (o := 0) rfl)) rfl <| QR.ev 1 rfl <| Bb) fun w1 _ s3 F => ge 1 F rfl fun _ F => gif F H 12 7 rfl rfl rfl (fun h9 H _ F => ?_) (fun h9 H _ F => ?_)
   ·cases H
    obtain rfl := hr _ rfl
    replace H := R0
    try dsimp only at H
    cases H
    exact rt F ⟨rfl, s3⟩
   cases H
   exact ⟨_, rfl, F.sb, s3⟩
  cases H
  obtain rfl := hr _ rfl
  exact ⟨_, rfl, F.sb, s2⟩
 intro _ w2 hJ
 obtain ⟨p0, rfl, F, s4⟩ := hJ
 have H := R0
 clear R0 H0
 try dsimp only at H
 cases H
 exact ge 7 F rfl fun _ F => rt F ⟨rfl, s4⟩
theorem Bel {w : World} {v0_0 v1_0 : Value} {a0 : Am7} {a1 : Am7} {r : Bool} (hr0_0 : Rd Ty.u8 w [] v0_0 a0.Ars) (hr1_0 : Rd Ty.u8 w [] v1_0 a1.Ars) (H : ASp a0 a1 = some r) :
    Calls prog 54 #[.agg ⟨[v0_0, jU (a0.Result.toNat : Int)]⟩, .agg ⟨[v1_0, jU (a1.Result.toNat : Int)]⟩] w (Ret fun u_ w_ => u_ = .bool r ∧ SL w [] w_ []) := by
 have s0 : SL w [] w [] := SL.Aq9 w
 refine cin func54 ntmps54 2 rfl rfl rfl fun _ F0 => ?_
 unfold ASp at H
 refine Ar F0 s0 rfl rfl rfl fun g0 w0 _ F s1 => Ar F s1 rfl rfl rfl fun g1 w1 _ F s2 => gw 6 F rfl fun _ F => gld F s2 m1 1 rfl fun _ F => gld F s2 m0 2 rfl fun _ F => bsp 10 F H (fun h0 H F => ?_) (fun h0 H F => ?_)
 ·refine gw 1 F rfl fun _ F => Afv F rfl rfl <| gld F s2 m1 1 rfl fun _ F => Afv F rfl rfl <| gld F s2 m0 0 rfl fun _ F => ?_
  obtain ⟨x0, h1, H⟩ := Aa H
  refine Afv F rfl rfl <| gca F s2 (AZz (hr0_0.Ajq s2) (hr1_0.Ajq s2) h1) 5 rfl rfl rfl rfl fun w2 _ F s3 => ?_
  cases H
  exact rt F ⟨rfl, s3.drop.drop⟩
 cases H
 exact gw 10 F rfl fun _ F => rt F ⟨rfl, s2.drop.drop⟩
theorem Bdz {w : World} {v0_1 v0_4 v1_1 v1_4 : Value} {a0 : A7z} {a1 : A7z} {r : Bool} (hr0_1 : Rd Ty.u8 w [] v0_1 a0.Sig.Ars) (hr0_4 : Rd Ty.u8 w [] v0_4 a0.Code) (hr1_1 : Rd Ty.u8 w [] v1_1 a1.Sig.Ars) (hr1_4 : Rd Ty.u8 w [] v1_4 a1.Code) (H : AR8 a0 a1 = some r) :
    Calls prog 32 #[.agg ⟨[.string ⟨⟨a0.Name⟩⟩, v0_1, jU (a0.Sig.Result.toNat : Int), jI a0.Locals, v0_4]⟩, .agg ⟨[.string ⟨⟨a1.Name⟩⟩, v1_1, jU (a1.Sig.Result.toNat : Int), jI a1.Locals, v1_4]⟩] w (Ret fun u_ w_ => u_ = .bool r ∧ SL w [] w_ []) := by
 have s0 : SL w [] w [] := SL.Aq9 w
 refine cin func32 ntmps32 2 rfl rfl rfl fun _ F0 => ?_
 unfold AR8 at H
 refine Ar F0 s0 rfl rfl rfl fun g0 w0 _ F s1 => Ar F s1 rfl rfl rfl fun g1 w1 _ F s2 => gw 6 F rfl fun _ F => gld F s2 m1 1 rfl fun _ F => gld F s2 m0 0 rfl fun _ F => gx F (Be0 rfl rfl) 1 rfl rfl fun _ F => bsp 10 F H (fun h0 H F => ?_) (fun h0 H F => ?_)
 ·refine gw 1 F rfl fun _ F => Afv F rfl rfl <| gx F (Aw AV1 rfl (s2.ANx m1 (o := 1) (ds := [v0_1, jU (a0.Sig.Result.toNat : Int)]) (Bdg _ rfl)) rfl) 1 rfl rfl fun _ F => Afv F rfl rfl <| gx F (Aw AV1 rfl (s2.ANx m0 (o := 1) (ds := [v1_1, jU (a1.Sig.Result.toNat : Int)]) (Bdg _ rfl)) rfl) 0 rfl rfl fun _ F => ?_
  obtain ⟨x0, h1, H⟩ := Aa H
  refine Afv F rfl rfl <| gca F s2 (Bel (a0 := (⟨a0.Sig.Ars, a0.Sig.Result⟩ : Am7)) (a1 := (⟨a1.Sig.Ars, a1.Sig.Result⟩ : Am7)) (hr0_1.Ajq s2) (hr1_1.Ajq s2) h1) 2 rfl rfl rfl rfl fun w2 _ F s3 => bsp 17 F H (fun h2 H F => ?_) (fun h2 H F => ?_)
  ·refine gw 1 F rfl fun _ F => Afv F rfl rfl <| gld F s3 m1 1 rfl fun _ F => Afv F rfl rfl <| gld F s3 m0 3 rfl fun _ F => bsp 24 F H (fun h3 H F => ?_) (fun h3 H F => ?_)
   ·refine gw 1 F rfl fun _ F => Afv F rfl rfl <| gld F s3 m1 1 rfl fun _ F => Afv F rfl rfl <| gld F s3 m0 0 rfl fun _ F => ?_
    obtain ⟨x1, h4, H⟩ := Aa H
    refine Afv F rfl rfl <| gca F s3 (AYl (hr0_4.Ajq s3) (hr1_4.Ajq s3) h4) 5 rfl rfl rfl rfl fun w3 _ F s4 => ?_
    cases H
    exact rt F ⟨rfl, s4.drop.drop⟩
   cases H
   exact gw 10 F rfl fun _ F => rt F ⟨rfl, s3.drop.drop⟩
  cases H
  exact gw 17 F rfl fun _ F => rt F ⟨rfl, s3.drop.drop⟩
 cases H
 exact gw 24 F rfl fun _ F => rt F ⟨rfl, s2.drop.drop⟩
theorem Bc0 {w : World} {v0_1 v0_2 v0_3 v1_1 v1_2 v1_3 : Value} {a0 : Aha} {a1 : Aha} {r : Bool} (hr0_1 : Rd Aef w [] v0_1 a0.Classes) (hr0_2 : Rd AAt w [] v0_2 a0.Funcs) (hr0_3 : Rd (Ty.slice Ty.u8) w [] v0_3 a0.AF4) (hr1_1 : Rd Aef w [] v1_1 a1.Classes) (hr1_2 : Rd AAt w [] v1_2 a1.Funcs) (hr1_3 : Rd (Ty.slice Ty.u8) w [] v1_3 a1.AF4) (H : ARh a0 a1 = some r) :
    Calls prog 12 #[.agg ⟨[.string ⟨⟨a0.Name⟩⟩, v0_1, v0_2, v0_3]⟩, .agg ⟨[.string ⟨⟨a1.Name⟩⟩, v1_1, v1_2, v1_3]⟩] w (Ret fun u_ w_ => u_ = .bool r ∧ SL w [] w_ []) := by
 have s0 : SL w [] w [] := SL.Aq9 w
 refine cin func12 ntmps12 2 rfl rfl rfl fun _ F0 => ?_
 unfold ARh at H
 refine Ar F0 s0 rfl rfl rfl fun g0 w0 _ F s1 => Ar F s1 rfl rfl rfl fun g1 w1 _ F s2 => gw 7 F rfl fun _ F => gld F s2 m1 1 rfl fun _ F => gld F s2 m0 0 rfl fun _ F => gx F (Bma rfl rfl) 1 rfl rfl fun _ F => bsp 12 F H (fun h0 H F => ?_) (fun h0 H F => ?_)
 ·cases H
  exact gw 35 F rfl fun _ F => rt F ⟨rfl, s2.drop.drop⟩
 refine gw 1 F rfl fun _ F => Afv F rfl rfl <| gld F s2 m1 1 rfl fun _ F => Afv F rfl rfl <| gld F s2 m0 0 rfl fun _ F => ?_
 obtain ⟨x0, h1, H⟩ := Aa H
 refine Afv F rfl rfl <| gca F s2 (Bcj (hr0_1.Ajq s2) (hr1_1.Ajq s2) h1) 3 rfl rfl rfl rfl fun w2 _ F s3 => bsp 20 F H (fun h2 H F => ?_) (fun h2 H F => ?_)
 ·cases H
  exact gw 27 F rfl fun _ F => rt F ⟨rfl, s3.drop.drop⟩
 refine gw 1 F rfl fun _ F => Afv F rfl rfl <| gld F s3 m1 0 rfl fun _ F => Afv F rfl rfl <| gx F (Ak rfl underlying23 (fR hr0_2 s3)) 1 rfl rfl fun _ F => Afv F rfl rfl <| gld F s3 m0 0 rfl fun _ F => Afv F rfl rfl <| gx F (Ak rfl underlying23 (fR hr1_2 s3)) 3 rfl rfl fun _ F => bsp 29 F H (fun h3 H F => ?_) (fun h3 H F => ?_)
 ·cases H
  exact gw 18 F rfl fun _ F => rt F ⟨rfl, s3.drop.drop⟩
 refine gw 1 F rfl fun _ F => Afv F rfl rfl <| gld F s3 m1 0 rfl fun _ F => Afv F rfl rfl <| gx F (Ak rfl underlying24 (fR hr0_3 s3)) 1 rfl rfl fun _ F => Afv F rfl rfl <| gld F s3 m0 0 rfl fun _ F => Afv F rfl rfl <| gx F (Ak rfl underlying24 (fR hr1_3 s3)) 4 rfl rfl fun _ F => gif F H 7 6 rfl rfl rfl (fun h4 H _ F => ?_) (fun h4 H _ F => ?_)
 ·cases H
  exact rt F ⟨rfl, s3.drop.drop⟩
 refine gld F s3 m1 0 rfl fun _ F => ?_
 obtain ⟨o0, H0, R0⟩ := Aa H
 clear H
 refine gx F (Ak rfl underlying23 (fR hr0_2 s3)) 3 rfl rfl fun _ F => At9 (fun a w_ => ∃ p0 : Unit, o0 = .inr (p0) ∧ Fr a 76 [(2, jP g0), (3, jP g1)] ∧ SL w [] w_ [Blk g1 26 [.string ⟨⟨a1.Name⟩⟩, v1_1, v1_2, v1_3], Blk g0 26 [.string ⟨⟨a0.Name⟩⟩, v0_1, v0_2, v0_3]]) ?_ ?_
 ·have H := H0
  refine gc 1 F rfl fun _ F => lpk (AOy a0 a1) (fun s4 a w_ => Fr a 76 [(2, jP g0), (3, jP g1), (40, jI (a0.Funcs.length : Int)), (41, jI s4)] ∧ SL w [] w_ [Blk g1 26 [.string ⟨⟨a1.Name⟩⟩, v1_1, v1_2, v1_3], Blk g0 26 [.string ⟨⟨a0.Name⟩⟩, v0_1, v0_2, v0_3]]) H ?_ ?_
  ·exact ⟨F.sb, s3⟩
  intro s4 _ w3 h5 o1 H hr
  obtain ⟨F, s5⟩ := h5
  replace H : AOy a0 a1 s4 = some o1 := H
  unfold AOy at H
  refine gc 6 F rfl fun _ F => gif F H 11 4 rfl rfl rfl (fun h6 H _ F => ?_) (fun h6 H _ F => ?_)
  ·obtain ⟨x1, h7, H⟩ := Aa H
   obtain ⟨a2, c0, G0, h8, h9, ha, hb⟩ := Rd.idx hr0_2 AXp rfl h7
   obtain ⟨v0, v1, rfl, hc, hd⟩ := (AXc ha hb)
   have hc3755_ := h9; clear h9; have h9 := fun w_ (hC : SL w [] w_ [Blk g1 26 [.string ⟨⟨a1.Name⟩⟩, v1_1, v1_2, v1_3], Blk g0 26 [.string ⟨⟨a0.Name⟩⟩, v0_1, v0_2, v0_3]]) => hc3755_ _ _ hC
   obtain ⟨x2, he, H⟩ := Aa H
   obtain ⟨a3, c1, G1, hf, hg, hh, hi⟩ := Rd.idx hr1_2 AXp rfl he
   obtain ⟨v2, v3, rfl, hj, hk⟩ := (AXc hh hi)
   have hc3768_ := hg; clear hg; have hg := fun w_ (hC : SL w [] w_ [Blk g1 26 [.string ⟨⟨a1.Name⟩⟩, v1_1, v1_2, v1_3], Blk g0 26 [.string ⟨⟨a0.Name⟩⟩, v0_1, v0_2, v0_3]]) => hc3768_ _ _ hC
   obtain ⟨x3, hl, H⟩ := Aa H
   refine ATo Aq8 s5 F (QR.ev 1 rfl <| QR.ld m1 rfl <| QR.ev 1 rfl <| QR.ix h8 rfl <| QR.qo (fun _ hC => Aw AZ3 rfl (h9 _ hC) rfl) rfl <| QR.ev 1 rfl <| QR.ld m0 rfl <| QR.ev 1 rfl <| QR.ix hf rfl <| QR.qo (fun _ hC => Aw AZ3 rfl (hg _ hC) rfl) rfl <| QR.call (args := [.tmp 48, .tmp 53]) B0b rfl (fun _ hC => Bg (Bdz (a0 := x1) (a1 := x2) (hc.Ajq hC) (hd.Ajq hC) (hj.Ajq hC) (hk.Ajq hC) hl) hC) <| QR.ev 1 rfl <| Bb) fun w4 _ s6 F => ge 1 F rfl fun _ F => gif F H 12 7 rfl rfl rfl (fun hm H _ F => ?_) (fun hm H _ F => ?_)
   ·cases H
    obtain rfl := hr _ rfl
    replace H := R0
    try dsimp only at H
    cases H
    exact rt F ⟨rfl, s6.drop.drop⟩
   cases H
   exact ⟨_, rfl, F.sb, s6⟩
  cases H
  obtain rfl := hr _ rfl
  exact ⟨_, rfl, F.sb, s5⟩
 intro _ w5 hJ
 obtain ⟨p0, rfl, F, s7⟩ := hJ
 have H := R0
 clear R0 H0
 try dsimp only at H
 refine ge 5 F rfl fun _ F => gld F s7 m1 0 rfl fun _ F => ?_
 obtain ⟨o2, H1, R1⟩ := Aa H
 clear H
 refine gx F (Ak rfl underlying24 (fR hr0_3 s7)) 3 rfl rfl fun _ F => At9 (fun a w_ => ∃ p1 : Unit, o2 = .inr (p1) ∧ Fr a 76 [] ∧ SL w [] w_ []) ?_ ?_
 ·have H := H1
  refine gc 1 F rfl fun _ F => lpk (AOz a0 a1) (fun s8 a w_ => Fr a 76 [(2, jP g0), (3, jP g1), (59, jI (a0.AF4.length : Int)), (60, jI s8)] ∧ SL w [] w_ [Blk g1 26 [.string ⟨⟨a1.Name⟩⟩, v1_1, v1_2, v1_3], Blk g0 26 [.string ⟨⟨a0.Name⟩⟩, v0_1, v0_2, v0_3]]) H ?_ ?_
  ·exact ⟨F.sb, s7⟩
  intro s8 _ w6 hn o3 H hr
  obtain ⟨F, s9⟩ := hn
  replace H : AOz a0 a1 s8 = some o3 := H
  unfold AOz at H
  refine gc 6 F rfl fun _ F => gif F H 11 4 rfl rfl rfl (fun ho H _ F => ?_) (fun ho H _ F => ?_)
  ·obtain ⟨x4, hp, H⟩ := Aa H
   obtain ⟨a4, c2, G2, hq, hs, ht, hu⟩ := Rd.idx hr0_3 Bda rfl hp
   obtain ⟨v4, rfl, hv⟩ := (Bf4 ht hu)
   have hc7014_ := hs; clear hs; have hs := fun w_ (hC : SL w [] w_ [Blk g1 26 [.string ⟨⟨a1.Name⟩⟩, v1_1, v1_2, v1_3], Blk g0 26 [.string ⟨⟨a0.Name⟩⟩, v0_1, v0_2, v0_3]]) => hc7014_ _ _ hC
   obtain ⟨x5, hw, H⟩ := Aa H
   obtain ⟨a5, c3, G3, hx, hy, hz, h10⟩ := Rd.idx hr1_3 Bda rfl hw
   obtain ⟨v5, rfl, h11⟩ := (Bf4 hz h10)
   have hc7025_ := hy; clear hy; have hy := fun w_ (hC : SL w [] w_ [Blk g1 26 [.string ⟨⟨a1.Name⟩⟩, v1_1, v1_2, v1_3], Blk g0 26 [.string ⟨⟨a0.Name⟩⟩, v0_1, v0_2, v0_3]]) => hc7025_ _ _ hC
   obtain ⟨x6, h12, H⟩ := Aa H
   refine ATo Aq8 s9 F (QR.ev 1 rfl <| QR.ld m1 rfl <| QR.ev 1 rfl <| QR.ix hq rfl <| QR.qo (fun _ hC => Ao Bj3 rfl (Aqa.at_ (hs _ hC) (o := 0) rfl)) rfl <| QR.ev 1 rfl <| QR.ld m0 rfl <| QR.ev 1 rfl <| QR.ix hx rfl <| QR.qo (fun _ hC => Ao Bj3 rfl (Aqa.at_ (hy _ hC) (o := 0) rfl)) rfl <| QR.call (args := [.tmp 67, .tmp 72]) Bz4 rfl (fun _ hC => Bg (AYl (a0 := x4) (a1 := x5) (hv.Ajq hC) (h11.Ajq hC) h12) hC) <| QR.ev 1 rfl <| Bb) fun w7 _ sa F => ge 1 F rfl fun _ F => gif F H 12 7 rfl rfl rfl (fun h13 H _ F => ?_) (fun h13 H _ F => ?_)
   ·cases H
    obtain rfl := hr _ rfl
    replace H := R1
    try dsimp only at H
    cases H
    exact rt F ⟨rfl, sa.drop.drop⟩
   cases H
   exact ⟨_, rfl, F.sb, sa⟩
  cases H
  obtain rfl := hr _ rfl
  exact ⟨_, rfl, F.sb, s9.drop.drop⟩
 intro _ w8 hJ
 obtain ⟨p1, rfl, F, sc⟩ := hJ
 have H := R1
 clear R1 H1
 try dsimp only at H
 cases H
 exact ge 7 F rfl fun _ F => rt F ⟨rfl, sc⟩
theorem AUc {w : World} {v0 : Value} {a0 : List Ar2} {r : (List Ar2)} (hr0 : Rd AG5 w [] v0 a0) (H : ANq a0 = some r) :
    Calls prog 44 #[v0] w (Ret fun u_ w_ => ∃ u0 : Value, u_ = u0 ∧ SL w [] w_ [Sl AG5 u0 r]) := by
 have s0 : SL w [] w [] := SL.Aq9 w
 refine cin func44 ntmps44 9 rfl rfl rfl fun _ F => ?_
 unfold ANq at H
 obtain ⟨A0, c0, h0⟩ := AVo (Bl hr0 s0)
 refine gx F (Bd5 rfl h0 rfl underlying101) 2 rfl rfl fun _ F => Bl4 F rfl (fun h1 => ?_) (fun h1 => ?_)
 ·have h2 := Blp (Bl hr0 s0) h0 (by simpa using h1)
  replace H := Bgj (B := some ([] : List Ar2)) H (by simp [h2, app])
  cases H
  exact gc 7 F rfl fun _ F => rt F ⟨(.slice none 0 0), rfl, (SL.Axc (T := AG5) s0)⟩
 refine gc 4 F rfl fun _ F => ?_
 refine Ae (parts := []) AOt ([] : List Ar2) F s0 ASm rfl (by decide) rfl rfl rfl (by simp [Value.cells]) rfl rfl rfl fun v1 w0 _ F s1 => ?_
 obtain ⟨x0, h3, H⟩ := Aa H
 obtain ⟨_, hr_⟩ := (Bl hr0 s1)
 refine gw 1 F rfl fun _ F => Av AOt F s1 ASm rfl rfl rfl rfl hr_ rfl rfl h3 rfl fun v2 w1 _ F s2 => ?_
 cases H
 exact gw 4 F rfl fun _ F => rt F ⟨v2, rfl, s2⟩
theorem AZj {w : World} {v0 : Value} {a0 : List Abi} {r : (List Abi)} (hr0 : Rd Aef w [] v0 a0) (H : ASk a0 = some r) :
    Calls prog 23 #[v0] w (Ret fun u_ w_ => ∃ u0 : Value, u_ = u0 ∧ SL w [] w_ [Sl Aef u0 r]) := by
 have s0 : SL w [] w [] := SL.Aq9 w
 refine cin func23 ntmps23 14 rfl rfl rfl fun _ F => ?_
 unfold ASk at H
 obtain ⟨o0, H0, R0⟩ := Aa H
 clear H
 refine gx F (Ak rfl underlying22 (fR hr0 s0)) 3 rfl rfl fun _ F => At9 (fun a w_ => ∃ v1 : Value, Fr a 22 [(3, v1)] ∧ SL w [] w_ [Sl Aef v1 o0]) ?_ ?_
 ·have H := H0
  refine gc 1 F rfl fun _ F => lpk (APx a0) (fun s1 a w_ => ∃ v2 : Value, Fr a 22 [(3, v2), (6, v0), (7, jI (a0.length : Int)), (8, jI s1.2)] ∧ SL w [] w_ [Sl Aef v2 s1.1]) H ?_ ?_
  ·exact ⟨(.slice none 0 0), F.sb, (SL.Axc (T := Aef) s0)⟩
  intro s1 _ w0 h0 o1 H hr
  obtain ⟨v2, F, s2⟩ := h0
  replace H : APx a0 s1 = some o1 := H
  unfold APx at H
  refine gc 6 F rfl fun _ F => gif F H 6 4 rfl rfl rfl (fun h1 H _ F => ?_) (fun h1 H _ F => ?_)
  ·obtain ⟨x0, h2, H⟩ := Aa H
   obtain ⟨a1, c0, G0, h3, h4, h5, h6⟩ := Rd.idx hr0 AOf rfl h2
   obtain ⟨v3, rfl, h7⟩ := (ALt h5 h6)
   replace h4 := h4 _ _ s2
   refine gi F h3 0 rfl fun _ F => gx F (Aw Bcb rfl h4 rfl) 0 rfl rfl fun _ F => Af F s2 Bc2 rfl rfl fun g0 w1 _ F s3 => Ah F s3 rfl rfl Bfz (Ab rfl (Ab rfl (Ab (Aq (fR h7 s3)) Ap))) (Ac rfl) fun w2 _ F s4 => ?_
   obtain ⟨x1, h8, H⟩ := Aa H
   refine gw 5 F rfl fun _ F => gld F s4 m0 0 rfl fun _ F => std F (AUc (h7.Ajq s4) h8) fun v4 w3 _ h9 F => ?_
   obtain ⟨_, rfl, ha⟩ := h9
   have s5 := s4.add ha
   refine gw 1 F rfl fun _ F => Ay F s5.f1 rfl rfl Bpl (Ag (fO s5.f1 m1)) (Aq (fO s5.f1 m1)) rfl fun w4 _ F s6 => gw 4 F rfl fun _ F => gld F s6 m0 0 rfl fun _ F => ?_
   have s7 : SL w [] _ (Dt Aef (⟨x0.Name, x0.Ar1, x1⟩ : Abi) [.string ⟨⟨x0.Name⟩⟩, jI x0.Ar1, v4] :: [Blk g0 103 [.string ⟨⟨x0.Name⟩⟩, jI x0.Ar1, v4], Sl Aef v2 s1.1]) := (SL.Bet (f := AV8) (x := (⟨x0.Name, x0.Ar1, x1⟩ : Abi)) (SL.AWe (SL.AXy (SL.AWe (SL.AXy (SL.dsl s6.f1) (Flat.int .i64) x0.Ar1)) Flat.str x0.Name)))
   refine Bc F s7 AOf rfl (by decide) rfl rfl rfl fun v5 w5 _ F s8 => ?_
   obtain ⟨x2, hb, H⟩ := Aa H
   refine Bd F s8.f2 AOf rfl rfl rfl rfl rfl rfl hb rfl fun v6 w6 _ F s9 => ?_
   cases H
   exact gw 8 F rfl fun _ F => ⟨_, rfl, v6, F.sb, s9.f1.drop⟩
  cases H
  obtain rfl := hr _ rfl
  exact ⟨v2, F.sb, s2⟩
 intro _ w7 hJ
 obtain ⟨v1, F, sa⟩ := hJ
 have H := R0
 clear R0 H0
 cases H
 exact ge 8 F rfl fun _ F => rt F ⟨v1, rfl, sa⟩
theorem AVc {w : World} {v0 : Value} {a0 : List UInt8} {r : (List UInt8)} (hr0 : Rd Ty.u8 w [] v0 a0) (H : AQf a0 = some r) :
    Calls prog 25 #[v0] w (Ret fun u_ w_ => ∃ u0 : Value, u_ = u0 ∧ SL w [] w_ [Sl Ty.u8 u0 r]) := by
 have s0 : SL w [] w [] := SL.Aq9 w
 refine cin func25 ntmps25 9 rfl rfl rfl fun _ F => ?_
 unfold AQf at H
 obtain ⟨A0, c0, h0⟩ := AVo (Bl hr0 s0)
 refine gx F (Bd5 rfl h0 rfl underlying42) 2 rfl rfl fun _ F => Bl4 F rfl (fun h1 => ?_) (fun h1 => ?_)
 ·have h2 := Blp (Bl hr0 s0) h0 (by simpa using h1)
  replace H := Bgj (B := some ([] : List UInt8)) H (by simp [h2, app])
  cases H
  exact gc 7 F rfl fun _ F => rt F ⟨(.slice none 0 0), rfl, (SL.Axc (T := Ty.u8) s0)⟩
 refine gc 4 F rfl fun _ F => ?_
 refine Ae (parts := []) Flat.u8 ([] : List UInt8) F s0 AO0 rfl (by decide) rfl rfl rfl (by simp [Value.cells]) rfl rfl rfl fun v1 w0 _ F s1 => ?_
 obtain ⟨x0, h3, H⟩ := Aa H
 obtain ⟨_, hr_⟩ := (Bl hr0 s1)
 refine gw 1 F rfl fun _ F => Av Flat.u8 F s1 AO0 rfl rfl rfl rfl hr_ rfl rfl h3 rfl fun v2 w1 _ F s2 => ?_
 cases H
 exact gw 4 F rfl fun _ F => rt F ⟨v2, rfl, s2⟩
theorem AR6 {w : World} {v0 : Value} {a0 : List UInt8} {r : (List UInt8)} (hr0 : Rd Ty.u8 w [] v0 a0) (H : ANz a0 = some r) :
    Calls prog 70 #[v0] w (Ret fun u_ w_ => ∃ u0 : Value, u_ = u0 ∧ SL w [] w_ [Sl Ty.u8 u0 r]) := by
 have s0 : SL w [] w [] := SL.Aq9 w
 refine cin func70 ntmps70 9 rfl rfl rfl fun _ F => ?_
 unfold ANz at H
 obtain ⟨A0, c0, h0⟩ := AVo (Bl hr0 s0)
 refine gx F (Bd5 rfl h0 rfl underlying47) 2 rfl rfl fun _ F => Bl4 F rfl (fun h1 => ?_) (fun h1 => ?_)
 ·have h2 := Blp (Bl hr0 s0) h0 (by simpa using h1)
  replace H := Bgj (B := some ([] : List UInt8)) H (by simp [h2, app])
  cases H
  exact gc 7 F rfl fun _ F => rt F ⟨(.slice none 0 0), rfl, (SL.Axc (T := Ty.u8) s0)⟩
 refine gc 4 F rfl fun _ F => ?_
 refine Ae (parts := []) Flat.u8 ([] : List UInt8) F s0 Aqg rfl (by decide) rfl rfl rfl (by simp [Value.cells]) rfl rfl rfl fun v1 w0 _ F s1 => ?_
 obtain ⟨x0, h3, H⟩ := Aa H
 obtain ⟨_, hr_⟩ := (Bl hr0 s1)
 refine gw 1 F rfl fun _ F => Av Flat.u8 F s1 Aqg rfl rfl rfl rfl hr_ rfl rfl h3 rfl fun v2 w1 _ F s2 => ?_
 cases H
 exact gw 4 F rfl fun _ F => rt F ⟨v2, rfl, s2⟩
theorem Bg4 {w : World} {v0_0 : Value} {a0 : Am7} {r : Am7} (hr0_0 : Rd Ty.u8 w [] v0_0 a0.Ars) (H : AU6 a0 = some r) :
    Calls prog 45 #[.agg ⟨[v0_0, jU (a0.Result.toNat : Int)]⟩] w (Ret fun u_ w_ => ∃ u0 : Value, u_ = .agg ⟨[u0, jU (r.Result.toNat : Int)]⟩ ∧ SL w [] w_ [Sl Ty.u8 u0 r.Ars]) := by
 have s0 : SL w [] w [] := SL.Aq9 w
 refine cin func45 ntmps45 2 rfl rfl rfl fun _ F0 => ?_
 unfold AU6 at H
 refine Ar F0 s0 rfl rfl rfl fun g0 w0 _ F s1 => Af F s1 AYi rfl rfl fun g1 w1 _ F s2 => ?_
 obtain ⟨x0, h0, H⟩ := Aa H
 refine gw 5 F rfl fun _ F => gld F s2 m1 0 rfl fun _ F => std F (AR6 (hr0_0.Ajq s2) h0) fun v0 w2 _ h1 F => ?_
 obtain ⟨_, rfl, h2⟩ := h1
 have s3 := s2.add h2
 refine gw 1 F rfl fun _ F => Ay F s3.f2 rfl rfl Bzb (Ag (fO s3.f2 m1)) (Aq (fO s3.f2 m1)) rfl fun w3 _ F s4 => gw 4 F rfl fun _ F => gld F s4 m0 0 rfl fun _ F => Ah F s4.f2 rfl rfl Bc8 (Ab (Aq (fO s4.f2 m2)) (Ab rfl Ap)) (Ac rfl) fun w4 _ F s5 => ?_
 cases H
 refine gw 3 F rfl fun _ F => ?_
 refine Aj (rs := [.cell 2 50]) (vs := [.agg ⟨[v0, jU (a0.Result.toNat : Int)]⟩]) F (by rfl) ⟨_, _, rfl, Am s5 m0 rfl AV1 rfl, rfl⟩ ⟨_, rfl, ⟨v0, rfl, s5.drop.drop⟩⟩
theorem Bbd {w : World} {v0_1 v0_4 : Value} {a0 : A7z} {r : A7z} (hr0_1 : Rd Ty.u8 w [] v0_1 a0.Sig.Ars) (hr0_4 : Rd Ty.u8 w [] v0_4 a0.Code) (H : AUb a0 = some r) :
    Calls prog 24 #[.agg ⟨[.string ⟨⟨a0.Name⟩⟩, v0_1, jU (a0.Sig.Result.toNat : Int), jI a0.Locals, v0_4]⟩] w (Ret fun u_ w_ => ∃ u0 u1 : Value, u_ = .agg ⟨[.string ⟨⟨r.Name⟩⟩, u0, jU (r.Sig.Result.toNat : Int), jI r.Locals, u1]⟩ ∧ SL w [] w_ [Sl Ty.u8 u0 r.Sig.Ars, Sl Ty.u8 u1 r.Code]) := by
 have s0 : SL w [] w [] := SL.Aq9 w
 refine cin func24 ntmps24 2 rfl rfl rfl fun _ F0 => ?_
 unfold AUb at H
 refine Ar F0 s0 rfl rfl rfl fun g0 w0 _ F s1 => Af F s1 Bb8 rfl rfl fun g1 w1 _ F s2 => ?_
 obtain ⟨x0, h0, H⟩ := Aa H
 refine gw 5 F rfl fun _ F => gx F (Aw AV1 rfl (s2.ANx m1 (o := 1) (ds := [v0_1, jU (a0.Sig.Result.toNat : Int)]) (Bdg _ rfl)) rfl) 0 rfl rfl fun _ F => std F (Bg4 (a0 := (⟨a0.Sig.Ars, a0.Sig.Result⟩ : Am7)) (hr0_1.Ajq s2) h0) fun v0 w2 _ h1 F => ?_
 obtain ⟨v1, rfl, h2⟩ := h1
 have s3 := s2.add h2
 refine gw 1 F rfl fun _ F => Ah F s3.f2 rfl rfl Bc8 (Ab (Aq (fO s3.f2 m1)) (Ab rfl Ap)) (Ac rfl) fun w3 _ F s4 => ?_
 obtain ⟨x1, h3, H⟩ := Aa H
 refine gw 5 F rfl fun _ F => gld F s4 m0 0 rfl fun _ F => std F (AVc (hr0_4.Ajq s4) h3) fun v2 w4 _ h4 F => ?_
 obtain ⟨_, rfl, h5⟩ := h4
 have s5 := s4.add h5
 refine gw 1 F rfl fun _ F => Ay F s5.f1 rfl rfl Bmm (Ag (fO s5.f1 m1)) (Aq (fO s5.f1 m1)) rfl fun w5 _ F s6 => gw 4 F rfl fun _ F => gld F s6 m0 0 rfl fun _ F => Ah F s6.f3 rfl rfl Bev (Ab rfl (Ab (Aq (fO s6.f3 m3)) (Ab rfl (Ab rfl (Ab (Aq (fO s6.f3 m2)) Ap))))) (Ac rfl) fun w6 _ F s7 => ?_
 cases H
 refine gw 3 F rfl fun _ F => ?_
 refine Aj (rs := [.cell 2 52]) (vs := [.agg ⟨[.string ⟨⟨a0.Name⟩⟩, v1, jU (x0.Result.toNat : Int), jI a0.Locals, v2]⟩]) F (by rfl) ⟨_, _, rfl, Am s7 m0 rfl AZ3 rfl, rfl⟩ ⟨_, rfl, ⟨v1, v2, rfl, s7.drop.drop.f1⟩⟩
theorem Be7 {w : World} {v0_1 v0_2 v0_3 : Value} {a0 : Aha} {r : Aha} (hr0_1 : Rd Aef w [] v0_1 a0.Classes) (hr0_2 : Rd AAt w [] v0_2 a0.Funcs) (hr0_3 : Rd (Ty.slice Ty.u8) w [] v0_3 a0.AF4) (H : AS5 a0 = some r) :
    Calls prog 8 #[.agg ⟨[.string ⟨⟨a0.Name⟩⟩, v0_1, v0_2, v0_3]⟩] w (Ret fun u_ w_ => ∃ u0 u1 u2 : Value, u_ = .agg ⟨[.string ⟨⟨r.Name⟩⟩, u0, u1, u2]⟩ ∧ SL w [] w_ [Sl Aef u0 r.Classes, Sl AAt u1 r.Funcs, Sl (Ty.slice Ty.u8) u2 r.AF4]) := by
 have s0 : SL w [] w [] := SL.Aq9 w
 refine cin func8 ntmps8 2 rfl rfl rfl fun _ F0 => ?_
 unfold AS5 at H
 refine Ar F0 s0 rfl rfl rfl fun g0 w0 _ F s1 => Af F s1 AYb rfl rfl fun g1 w1 _ F s2 => ?_
 obtain ⟨x0, h0, H⟩ := Aa H
 refine gw 3 F rfl fun _ F => AJp Aq8 s2 ?_
 refine hq [0, 1, 2, 3] F s2.drew (QI.ev 1 rfl <| QI.ld m1 rfl <| QI.ev 1 rfl <| QI.ld m1 rfl <| QI.nil) (by kernel_rfl) fun _ F => ?_
 refine ANb [0, 1, 2, 3, 4, 5, 6] (fun a w_ => ∃ g2 : Nat, ∃ v0 : Value, Fr a 45 [(1, jP g0), (2, jP g1), (3, jP g2), (13, .agg ⟨[.string ⟨⟨a0.Name⟩⟩, v0, .slice none 0 0, .slice none 0 0]⟩)] ∧ SL w [] w_ [Blk g1 26 [.string ⟨⟨[]⟩⟩, .slice none 0 0, .slice none 0 0, .slice none 0 0], Blk g0 26 [.string ⟨⟨a0.Name⟩⟩, v0_1, v0_2, v0_3], Sl Aef v0 x0, Blk g2 26 [.string ⟨⟨[]⟩⟩, .slice none 0 0, .slice none 0 0, .slice none 0 0]]) ?_ fun hD0 => ?_
 ·rintro a w_ ⟨g2, v0, F, s3⟩
  refine ho 7 rfl (by kernel_rfl) ?_
  refine Ah F s3.f3 rfl rfl Bnk (Ab rfl (Ab (Aq (fO s3.f3 m3)) (Ab rfl (Ab rfl Ap)))) (Ac rfl) fun w2 _ F s4 => gw 1 F rfl fun _ F => ⟨s4.drop.f2.drop, ?_⟩
  refine ANu (by kernel_rfl) ?_
  refine ge 5 F rfl fun _ F => gld F s4 m2 0 rfl fun _ F => ?_
  obtain ⟨o0, H0, R0⟩ := Aa H
  clear H
  refine gx F (Ak rfl underlying23 (fR hr0_2 s4)) 3 rfl rfl fun _ F => At9 (fun a w_ => ∃ v1 : Value, Fr a 45 [(1, jP g0), (2, jP g1), (3, jP g2)] ∧ SL w [] w_ [Blk g2 26 [.string ⟨⟨a0.Name⟩⟩, v0, v1, .slice none 0 0], Blk g1 26 [.string ⟨⟨[]⟩⟩, .slice none 0 0, .slice none 0 0, .slice none 0 0], Blk g0 26 [.string ⟨⟨a0.Name⟩⟩, v0_1, v0_2, v0_3], Sl Aef v0 x0, Sl AAt v1 o0]) ?_ ?_
  ·have H := H0
   refine gc 1 F rfl fun _ F => lpk (AQg a0) (fun s5 a w_ => ∃ v2 : Value, Fr a 45 [(1, jP g0), (2, jP g1), (3, jP g2), (15, v0_2), (16, jI (a0.Funcs.length : Int)), (17, jI s5.2)] ∧ SL w [] w_ [Blk g2 26 [.string ⟨⟨a0.Name⟩⟩, v0, v2, .slice none 0 0], Blk g1 26 [.string ⟨⟨[]⟩⟩, .slice none 0 0, .slice none 0 0, .slice none 0 0], Blk g0 26 [.string ⟨⟨a0.Name⟩⟩, v0_1, v0_2, v0_3], Sl Aef v0 x0, Sl AAt v2 s5.1]) H ?_ ?_
   ·exact ⟨(.slice none 0 0), F.sb, (SL.Axc (T := AAt) s4).f4.f4.f4.f4⟩
   intro s5 _ w3 h1 o1 H hr
   obtain ⟨v2, F, s6⟩ := h1
   replace H : AQg a0 s5 = some o1 := H
   unfold AQg at H
   refine gc 6 F rfl fun _ F => gif F H 6 4 rfl rfl rfl (fun h2 H _ F => ?_) (fun h2 H _ F => ?_)
   ·obtain ⟨x1, h3, H⟩ := Aa H
    obtain ⟨a1, c0, G0, h4, h5, h6, h7⟩ := Rd.idx hr0_2 AXp rfl h3
    obtain ⟨v3, v4, rfl, h8, h9⟩ := (AXc h6 h7)
    replace h5 := h5 _ _ s6
    refine gi F h4 0 rfl fun _ F => gx F (Aw AZ3 rfl h5 rfl) 0 rfl rfl fun _ F => Af F s6 Bb8 rfl rfl fun g3 w4 _ F s7 => Ah F s7 rfl rfl Bev (Ab rfl (Ab (Aq (fR h8 s7)) (Ab rfl (Ab rfl (Ab (Aq (fR h9 s7)) Ap))))) (Ac rfl) fun w5 _ F s8 => ?_
    obtain ⟨x2, ha, H⟩ := Aa H
    obtain ⟨x3, hb, H⟩ := Aa H
    refine gw 2 F rfl fun _ F => AJp Aq8 s8.f1.drop.f4.drop ?_
    have s9 := s8.drew
    refine hq [0, 2] F s9.f1.drop.f4.drop (QI.ev 1 rfl <| QI.ld m0 rfl <| QI.nil) (by kernel_rfl) fun _ F => ?_
    refine ANb [0, 1, 2, 3, 4] (fun a w_ => ∃ v5 : Value, Fr a 45 [(1, jP g0), (2, jP g1), (3, jP g2), (15, v0_2), (16, jI (a0.Funcs.length : Int)), (17, jI s5.2), (22, v2), (25, v5)] ∧ SL w [] w_ [Blk g3 52 [.string ⟨⟨x1.Name⟩⟩, v3, jU (x1.Sig.Result.toNat : Int), jI x1.Locals, v4], Blk g1 26 [.string ⟨⟨[]⟩⟩, .slice none 0 0, .slice none 0 0, .slice none 0 0], Blk g0 26 [.string ⟨⟨a0.Name⟩⟩, v0_1, v0_2, v0_3], Sl Aef v0 x0, Blk g2 26 [.string ⟨⟨a0.Name⟩⟩, v0, v2, .slice none 0 0], Sl AAt v5 ([(⟨x2.Name, (⟨x2.Sig.Ars, x2.Sig.Result⟩ : Am7), x2.Locals, x2.Code⟩ : A7z)] : List A7z), Sl AAt v2 s5.1]) ?_ fun hD0 => ?_
    ·rintro a w_ ⟨v5, F, sa⟩
     refine ho 5 rfl (by kernel_rfl) ?_
     refine Bd F sa.f5.f6 AXp rfl rfl rfl rfl rfl rfl hb rfl fun v6 w6 _ F sc => gw 1 F rfl fun _ F => ⟨sc.drop.f4.drop, ?_⟩
     refine hq [6] F sc.drop.f4.drop (QI.ev 1 rfl <| QI.nil) (by kernel_rfl) fun _ F => ?_
     refine ho 7 rfl (by kernel_rfl) ?_
     refine Ay F sc.f5 rfl rfl Bze (Ag (fO sc.f5 m1)) (Aq (fO sc.f5 m1)) rfl fun w7 _ F sd => gw 1 F rfl fun _ F => ⟨sd.drop.drop, ?_⟩
     refine ANu (by kernel_rfl) ?_
     cases H
     exact ge 6 F rfl fun _ F => ⟨_, rfl, v6, F.sb, sd.f2.drop.f1.f4.f4.f4.f4⟩
    refine ANb [0, 1, 2, 3] (fun a w_ => ∃ v7 : Value, ∃ v8 : Value, Fr a 45 [(1, jP g0), (2, jP g1), (3, jP g2), (15, v0_2), (16, jI (a0.Funcs.length : Int)), (17, jI s5.2), (22, v2), (24, .agg ⟨[.string ⟨⟨x2.Name⟩⟩, v7, jU (x2.Sig.Result.toNat : Int), jI x2.Locals, v8]⟩)] ∧ SL w [] w_ [Blk g3 52 [.string ⟨⟨x1.Name⟩⟩, v3, jU (x1.Sig.Result.toNat : Int), jI x1.Locals, v4], Blk g1 26 [.string ⟨⟨[]⟩⟩, .slice none 0 0, .slice none 0 0, .slice none 0 0], Blk g0 26 [.string ⟨⟨a0.Name⟩⟩, v0_1, v0_2, v0_3], Sl Aef v0 x0, Blk g2 26 [.string ⟨⟨a0.Name⟩⟩, v0, v2, .slice none 0 0], Sl Ty.u8 v7 x2.Sig.Ars, Sl Ty.u8 v8 x2.Code, Sl AAt v2 s5.1]) ?_ fun hD1 => ?_
    ·rintro a w_ ⟨v7, v8, F, se⟩
     refine ho 4 rfl (by kernel_rfl) ?_
     have sf : SL w [] _ (Dt AAt (⟨x2.Name, (⟨x2.Sig.Ars, x2.Sig.Result⟩ : Am7), x2.Locals, x2.Code⟩ : A7z) [.string ⟨⟨x2.Name⟩⟩, v7, jU (x2.Sig.Result.toNat : Int), jI x2.Locals, v8] :: [Blk g3 52 [.string ⟨⟨x1.Name⟩⟩, v3, jU (x1.Sig.Result.toNat : Int), jI x1.Locals, v4], Blk g1 26 [.string ⟨⟨[]⟩⟩, .slice none 0 0, .slice none 0 0, .slice none 0 0], Blk g0 26 [.string ⟨⟨a0.Name⟩⟩, v0_1, v0_2, v0_3], Sl Aef v0 x0, Blk g2 26 [.string ⟨⟨a0.Name⟩⟩, v0, v2, .slice none 0 0], Sl AAt v2 s5.1]) := (SL.Bet (f := AXa) (x := (⟨x2.Name, (⟨x2.Sig.Ars, x2.Sig.Result⟩ : Am7), x2.Locals, x2.Code⟩ : A7z)) (SL.AWe (SL.AXy (SL.AWe (SL.Bet (f := ARp) (x := (⟨x2.Sig.Ars, x2.Sig.Result⟩ : Am7)) (SL.AWe (SL.dsl (SL.AXy (SL.AWe (SL.AXy (SL.dsl se.f6) (Flat.int .i64) x2.Locals)) Flat.u8 x2.Sig.Result).f7)))) Flat.str x2.Name)))
     refine Bc F sf AXp rfl (by decide) rfl rfl rfl fun v5 w8 _ F sg => ?_
     exact gw 1 F rfl fun _ F => ⟨sg.drop.f4.drop.f4.drop, hto hD0 ⟨v5, F.sb, sg.f6.f1.f6.f6.f6.f6.f6⟩ (by kernel_rfl)⟩
    refine ho2 1 3 rfl rfl (by kernel_rfl) ?_ ?_
    ·refine gld F s9 m1 1 rfl fun _ F => ⟨s9.f1.drop.f4.drop, ?_⟩
     refine ho 3 rfl (by kernel_rfl) ?_
     refine std F (Bbd (a0 := (⟨x1.Name, (⟨x1.Sig.Ars, x1.Sig.Result⟩ : Am7), x1.Locals, x1.Code⟩ : A7z)) (h8.Ajq s9) (h9.Ajq s9) ha) fun v9 w9 _ hc F => ?_
     obtain ⟨v7, v8, rfl, hd⟩ := hc
     have sh := s9.add hd
     exact gw 1 F rfl fun _ F => ⟨sh.drop.drop.f1.drop.f4.drop, hto hD1 ⟨v7, v8, F.sb, sh.f7.f2.f2.f4.f7.f7.f7.f7⟩ (by kernel_rfl)⟩
    refine std F (Bbd (a0 := (⟨x1.Name, (⟨x1.Sig.Ars, x1.Sig.Result⟩ : Am7), x1.Locals, x1.Code⟩ : A7z)) (h8.Ajq s9) (h9.Ajq s9) ha) fun v9 w9 _ hc F => ?_
    obtain ⟨v7, v8, rfl, hd⟩ := hc
    have sh := s9.add hd
    refine gw 1 F rfl fun _ F => ⟨sh.drop.drop.f1.drop.f4.drop, ?_⟩
    refine ho2 1 4 rfl rfl (by kernel_rfl) ?_ ?_
    ·exact gld F sh m3 1 rfl fun _ F => ⟨sh.drop.drop.f1.drop.f4.drop, hto hD1 ⟨v7, v8, F.sb, sh.f7.f2.f2.f4.f7.f7.f7.f7⟩ (by kernel_rfl)⟩
    have sf : SL w [] _ (Dt AAt (⟨x2.Name, (⟨x2.Sig.Ars, x2.Sig.Result⟩ : Am7), x2.Locals, x2.Code⟩ : A7z) [.string ⟨⟨x2.Name⟩⟩, v7, jU (x2.Sig.Result.toNat : Int), jI x2.Locals, v8] :: [Blk g3 52 [.string ⟨⟨x1.Name⟩⟩, v3, jU (x1.Sig.Result.toNat : Int), jI x1.Locals, v4], Blk g2 26 [.string ⟨⟨a0.Name⟩⟩, v0, v2, .slice none 0 0], Blk g1 26 [.string ⟨⟨[]⟩⟩, .slice none 0 0, .slice none 0 0, .slice none 0 0], Blk g0 26 [.string ⟨⟨a0.Name⟩⟩, v0_1, v0_2, v0_3], Sl Aef v0 x0, Sl AAt v2 s5.1]) := (SL.Bet (f := AXa) (x := (⟨x2.Name, (⟨x2.Sig.Ars, x2.Sig.Result⟩ : Am7), x2.Locals, x2.Code⟩ : A7z)) (SL.AWe (SL.AXy (SL.AWe (SL.Bet (f := ARp) (x := (⟨x2.Sig.Ars, x2.Sig.Result⟩ : Am7)) (SL.AWe (SL.dsl (SL.AXy (SL.AWe (SL.AXy (SL.dsl sh.f1) (Flat.int .i64) x2.Locals)) Flat.u8 x2.Sig.Result).f2)))) Flat.str x2.Name)))
    refine Bc F sf AXp rfl (by decide) rfl rfl rfl fun v5 w8 _ F sg => ?_
    refine gw 1 F rfl fun _ F => ⟨sg.drop.f1.drop.f4.drop, ?_⟩
    refine ho 1 rfl (by kernel_rfl) ?_
    exact gld F sg m2 1 rfl fun _ F => ⟨sg.drop.f1.drop.f4.drop, hto hD0 ⟨v5, F.sb, sg.f6.f1.f3.f6.f6.f6.f6⟩ (by kernel_rfl)⟩
   cases H
   obtain rfl := hr _ rfl
   exact ⟨v2, F.sb, s6⟩
  intro _ wa hJ
  obtain ⟨v1, F, si⟩ := hJ
  have H := R0
  clear R0 H0
  refine ge 5 F rfl fun _ F => gld F si m2 0 rfl fun _ F => ?_
  obtain ⟨o2, H1, R1⟩ := Aa H
  clear H
  refine gx F (Ak rfl underlying24 (fR hr0_3 si)) 3 rfl rfl fun _ F => At9 (fun a w_ => ∃ va : Value, Fr a 45 [(2, jP g1), (3, jP g2)] ∧ SL w [] w_ [Blk g2 26 [.string ⟨⟨a0.Name⟩⟩, v0, v1, va], Blk g1 26 [.string ⟨⟨[]⟩⟩, .slice none 0 0, .slice none 0 0, .slice none 0 0], Sl Aef v0 x0, Sl AAt v1 o0, Sl (Ty.slice Ty.u8) va o2]) ?_ ?_
  ·have H := H1
   refine gc 1 F rfl fun _ F => lpk (AQe a0) (fun sj a w_ => ∃ vb : Value, Fr a 45 [(2, jP g1), (3, jP g2), (30, v0_3), (31, jI (a0.AF4.length : Int)), (32, jI sj.2)] ∧ SL w [] w_ [Blk g2 26 [.string ⟨⟨a0.Name⟩⟩, v0, v1, vb], Blk g1 26 [.string ⟨⟨[]⟩⟩, .slice none 0 0, .slice none 0 0, .slice none 0 0], Sl Aef v0 x0, Sl AAt v1 o0, Sl (Ty.slice Ty.u8) vb sj.1]) H ?_ ?_
   ·exact ⟨(.slice none 0 0), F.sb, (SL.Axc (T := (Ty.slice Ty.u8)) si).f3.drop.f4.f4.f4.f4⟩
   intro sj _ wb he o3 H hr
   obtain ⟨vb, F, sk⟩ := he
   replace H : AQe a0 sj = some o3 := H
   unfold AQe at H
   refine gc 6 F rfl fun _ F => gif F H 6 4 rfl rfl rfl (fun hf H _ F => ?_) (fun hf H _ F => ?_)
   ·obtain ⟨x4, hg, H⟩ := Aa H
    obtain ⟨a2, c1, G1, hh, hi, hj, hk⟩ := Rd.idx hr0_3 Bda rfl hg
    obtain ⟨vc, rfl, hl⟩ := (Bf4 hj hk)
    replace hi := hi _ _ sk
    refine gi F hh 0 rfl fun _ F => ?_
    obtain ⟨x5, hm, H⟩ := Aa H
    obtain ⟨x6, hn, H⟩ := Aa H
    refine gx F (Ao Bj3 rfl (Aqa.at_ hi (o := 0) rfl)) 3 rfl rfl fun _ F => AJp Aq8 sk.drop.f3.drop ?_
    have sl := sk.drew
    refine hq [0, 2] F sl.drop.f3.drop (QI.ev 2 rfl <| QI.nil) (by kernel_rfl) fun _ F => ?_
    refine ANb [0, 1, 2, 3, 4] (fun a w_ => ∃ vd : Value, Fr a 45 [(2, jP g1), (3, jP g2), (30, v0_3), (31, jI (a0.AF4.length : Int)), (32, jI sj.2), (37, vb), (40, vd)] ∧ SL w [] w_ [Blk g1 26 [.string ⟨⟨[]⟩⟩, .slice none 0 0, .slice none 0 0, .slice none 0 0], Sl Aef v0 x0, Sl AAt v1 o0, Blk g2 26 [.string ⟨⟨a0.Name⟩⟩, v0, v1, vb], Sl (Ty.slice Ty.u8) vb sj.1, Sl (Ty.slice Ty.u8) vd ([x5] : List (List UInt8))]) ?_ fun hD0 => ?_
    ·rintro a w_ ⟨vd, F, sm⟩
     refine ho 5 rfl (by kernel_rfl) ?_
     refine Bd F sm.f5.f5 Bda rfl rfl rfl rfl rfl rfl hn rfl fun ve wc _ F sn => gw 1 F rfl fun _ F => ⟨sn.drop.f3.drop, ?_⟩
     refine hq [6] F sn.drop.f3.drop (QI.ev 1 rfl <| QI.nil) (by kernel_rfl) fun _ F => ?_
     refine ho 7 rfl (by kernel_rfl) ?_
     refine Ay F sn.f4 rfl rfl By3 (Ag (fO sn.f4 m1)) (Aq (fO sn.f4 m1)) rfl fun wd _ F so => gw 1 F rfl fun _ F => ⟨so.drop.drop, ?_⟩
     refine ANu (by kernel_rfl) ?_
     cases H
     exact ge 6 F rfl fun _ F => ⟨_, rfl, ve, F.sb, so.f1.f4.f4.f4.f4⟩
    refine ANb [0, 1, 2, 3] (fun a w_ => ∃ vf : Value, Fr a 45 [(2, jP g1), (3, jP g2), (30, v0_3), (31, jI (a0.AF4.length : Int)), (32, jI sj.2), (37, vb), (39, vf)] ∧ SL w [] w_ [Blk g1 26 [.string ⟨⟨[]⟩⟩, .slice none 0 0, .slice none 0 0, .slice none 0 0], Sl Aef v0 x0, Sl AAt v1 o0, Blk g2 26 [.string ⟨⟨a0.Name⟩⟩, v0, v1, vb], Sl (Ty.slice Ty.u8) vb sj.1, Sl Ty.u8 vf x5]) ?_ fun hD1 => ?_
    ·rintro a w_ ⟨vf, F, sp⟩
     refine ho 4 rfl (by kernel_rfl) ?_
     have hp := (fO sp m5)
     have sq : SL w [] _ (Dt (Ty.slice Ty.u8) x5 [vf] :: [Blk g1 26 [.string ⟨⟨[]⟩⟩, .slice none 0 0, .slice none 0 0, .slice none 0 0], Sl Aef v0 x0, Sl AAt v1 o0, Blk g2 26 [.string ⟨⟨a0.Name⟩⟩, v0, v1, vb], Sl (Ty.slice Ty.u8) vb sj.1]) := (SL.dsl sp.f5)
     refine Bc F sq Bda rfl (by decide) rfl (Ag hp) rfl fun vd we _ F sr => ?_
     exact gw 1 F rfl fun _ F => ⟨sr.drop.f3.drop.f3.drop, hto hD0 ⟨vd, F.sb, sr.f5.f5.f5.f5.f5⟩ (by kernel_rfl)⟩
    refine ho2 1 3 rfl rfl (by kernel_rfl) ?_ ?_
    ·refine gld F sl m0 1 rfl fun _ F => ⟨sl.drop.f3.drop, ?_⟩
     refine ho 3 rfl (by kernel_rfl) ?_
     refine std F (AVc (hl.Ajq sl) hm) fun vf wf _ hs F => ?_
     obtain ⟨_, rfl, ht⟩ := hs
     have ss := sl.add ht
     exact gw 1 F rfl fun _ F => ⟨ss.drop.drop.f3.drop, hto hD1 ⟨vf, F.sb, ss.f5.f2.f5.f5.f5⟩ (by kernel_rfl)⟩
    refine std F (AVc (hl.Ajq sl) hm) fun vf wf _ hs F => ?_
    obtain ⟨_, rfl, ht⟩ := hs
    have ss := sl.add ht
    refine gw 1 F rfl fun _ F => ⟨ss.drop.drop.f3.drop, ?_⟩
    refine ho2 1 4 rfl rfl (by kernel_rfl) ?_ ?_
    ·exact gld F ss m1 1 rfl fun _ F => ⟨ss.drop.drop.f3.drop, hto hD1 ⟨vf, F.sb, ss.f5.f2.f5.f5.f5⟩ (by kernel_rfl)⟩
    have hp := (fO ss m0)
    have sq : SL w [] _ (Dt (Ty.slice Ty.u8) x5 [vf] :: [Blk g2 26 [.string ⟨⟨a0.Name⟩⟩, v0, v1, vb], Blk g1 26 [.string ⟨⟨[]⟩⟩, .slice none 0 0, .slice none 0 0, .slice none 0 0], Sl Aef v0 x0, Sl AAt v1 o0, Sl (Ty.slice Ty.u8) vb sj.1]) := (SL.dsl ss)
    refine Bc F sq Bda rfl (by decide) rfl (Ag hp) rfl fun vd we _ F sr => ?_
    refine gw 1 F rfl fun _ F => ⟨sr.drop.drop.f3.drop, ?_⟩
    refine ho 1 rfl (by kernel_rfl) ?_
    exact gld F sr m1 1 rfl fun _ F => ⟨sr.drop.drop.f3.drop, hto hD0 ⟨vd, F.sb, sr.f5.f2.f5.f5.f5⟩ (by kernel_rfl)⟩
   cases H
   obtain rfl := hr _ rfl
   exact ⟨vb, F.sb, sk⟩
  intro _ wg hJ
  obtain ⟨va, F, st⟩ := hJ
  have H := R1
  clear R1 H1
  refine ge 3 F rfl fun _ F => gld F st m0 0 rfl fun _ F => Ah F st.f1 rfl rfl Bnk (Ab rfl (Ab (Aq (fO st.f1 m2)) (Ab (Aq (fO st.f1 m3)) (Ab (Aq (fO st.f1 m4)) Ap)))) (Ac rfl) fun wh _ F su => ?_
  cases H
  refine gw 3 F rfl fun _ F => ?_
  refine Aj (rs := [.cell 2 26]) (vs := [.agg ⟨[.string ⟨⟨a0.Name⟩⟩, v0, v1, va]⟩]) F (by rfl) ⟨_, _, rfl, Am su m0 rfl Bwi rfl, rfl⟩ ⟨_, rfl, ⟨v0, v1, va, rfl, su.drop.drop⟩⟩
 refine ANb [0, 1, 2, 3, 4, 6] (fun a w_ => ∃ g2 : Nat, ∃ v0 : Value, Fr a 45 [(1, jP g0), (2, jP g1), (3, jP g2), (9, .string ⟨⟨a0.Name⟩⟩), (12, v0)] ∧ SL w [] w_ [Blk g1 26 [.string ⟨⟨[]⟩⟩, .slice none 0 0, .slice none 0 0, .slice none 0 0], Blk g0 26 [.string ⟨⟨a0.Name⟩⟩, v0_1, v0_2, v0_3], Sl Aef v0 x0, Blk g2 26 [.string ⟨⟨[]⟩⟩, .slice none 0 0, .slice none 0 0, .slice none 0 0]]) ?_ fun hD1 => ?_
 ·rintro a w_ ⟨g2, v0, F, sv⟩
  refine ho 5 rfl (by kernel_rfl) ?_
  have hu := (fO sv m2)
  refine gx F (Al (vs := [.string ⟨⟨a0.Name⟩⟩, v0]) AYb Bse rfl (cs := [.string ⟨⟨a0.Name⟩⟩, v0, .slice none 0 0, .slice none 0 0]) (by obtain ⟨_, _, e_0⟩ := hu; rw [e_0] <;> rfl)) 1 rfl rfl fun _ F => ?_
  exact ⟨sv.f2.drop.f2.drop, hto hD0 ⟨g2, v0, F.sb, sv⟩ (by kernel_rfl)⟩
 refine ho2 4 6 rfl rfl (by kernel_rfl) ?_ ?_
 ·refine std F (AZj (hr0_1.Ajq s2.drew) h0) fun v0 wi _ hv F => ?_
  obtain ⟨_, rfl, hw⟩ := hv
  have sw := s2.drew.add hw
  refine gw 1 F rfl fun _ F => ⟨sw.drop, ?_⟩
  refine ho2 5 6 rfl rfl (by kernel_rfl) ?_ ?_
  ·have hu := (fO sw m0)
   refine gx F (Al (vs := [.string ⟨⟨a0.Name⟩⟩, v0]) AYb Bse rfl (cs := [.string ⟨⟨a0.Name⟩⟩, v0, .slice none 0 0, .slice none 0 0]) (by obtain ⟨_, _, e_0⟩ := hu; rw [e_0] <;> rfl)) 1 rfl rfl fun _ F => ?_
   refine ⟨sw.drop, ?_⟩
   refine ho 6 rfl (by kernel_rfl) ?_
   exact Af F sw AYb rfl rfl fun g2 wj _ F sx => gw 1 F rfl fun _ F => ⟨sx.drop.drop, hto hD0 ⟨g2, v0, F.sb, sx.f1.f3.f3⟩ (by kernel_rfl)⟩
  exact Af F sw AYb rfl rfl fun g2 wj _ F sx => gw 1 F rfl fun _ F => ⟨sx.drop.drop, hto hD1 ⟨g2, v0, F.sb, sx.f1.f3.f3⟩ (by kernel_rfl)⟩
 refine Af F s2.drew AYb rfl rfl fun g2 wj _ F sx => gw 1 F rfl fun _ F => ⟨sx.drop, ?_⟩
 refine ho 4 rfl (by kernel_rfl) ?_
 refine std F (AZj (hr0_1.Ajq sx) h0) fun v0 wi _ hv F => ?_
 obtain ⟨_, rfl, hw⟩ := hv
 have sw := sx.add hw
 exact gw 1 F rfl fun _ F => ⟨sw.drop.drop, hto hD1 ⟨g2, v0, F.sb, sw.f1.f1.f3.f3⟩ (by kernel_rfl)⟩
theorem Brv {w : World} {v0_1 v0_2 v0_3 : Value} {a0 : Aha} {a1 : Int} {r : Adb × Bool} (hr0_1 : Rd Aef w [] v0_1 a0.Classes) (hr0_2 : Rd AAt w [] v0_2 a0.Funcs) (hr0_3 : Rd (Ty.slice Ty.u8) w [] v0_3 a0.AF4) (H : Bb6 a0 a1 = some r) :
    Calls prog 46 #[.agg ⟨[.string ⟨⟨a0.Name⟩⟩, v0_1, v0_2, v0_3]⟩, jI a1] w (Ret fun u_ w_ => ∃ u0 u1 : Value, u_ = .tuple ⟨[.agg ⟨[u0, u1, jI r.1.Fn]⟩, .bool r.2]⟩ ∧ SL w [] w_ [Sl Aef u0 r.1.Classes, Sl Ate u1 r.1.Akq]) := by
 have s0 : SL w [] w [] := SL.Aq9 w
 refine cin func46 ntmps46 2 rfl rfl rfl fun _ F0 => ?_
 unfold Bb6 at H
 refine Ar F0 s0 rfl rfl rfl fun g0 w0 _ F s1 => Af F s1 AR5 rfl rfl fun g1 w1 _ F s2 => gw 9 F rfl fun _ F => bsp 13 F H (fun h0 H F => ?_) (fun h0 H F => ?_)
 ·refine gw 11 F rfl fun _ F => gx F (Al (vs := []) AR5 Bbi rfl (cs := [.slice none 0 0, .slice none 0 0, jI 0]) (rfl)) 0 rfl rfl fun _ F => Ah F s2 rfl rfl AV0 (Ab rfl (Ab rfl (Ab rfl Ap))) (Ac rfl) fun w2 _ F s3 => ?_
  cases H
  refine gw 5 F rfl fun _ F => ?_
  refine Aj (rs := [.cell 4 110, .tmp 5]) (vs := [.agg ⟨[.slice none 0 0, .slice none 0 0, jI 0]⟩, .bool false]) F (by rfl) ⟨_, _, rfl, Am s3 m0 rfl AX6 rfl, _, _, rfl, An rfl, rfl⟩ ⟨_, rfl, ⟨(.slice none 0 0), (.slice none 0 0), rfl, (SL.Axc (T := Ate) (SL.Axc (T := Aef) s3)).f2.drop.f2.drop.f1⟩⟩
 refine gw 2 F rfl fun _ F => Afv F rfl rfl <| gld F s2 m1 0 rfl fun _ F => Afv F rfl rfl <| gx F (Ak rfl underlying23 (fR hr0_2 s2)) 4 rfl rfl fun _ F => gif F H 2 5 rfl rfl rfl (fun h1 H _ F => ?_) (fun h1 H _ F => ?_)
 ·refine gx F (Al (vs := []) AR5 Bbi rfl (cs := [.slice none 0 0, .slice none 0 0, jI 0]) (rfl)) 0 rfl rfl fun _ F => Ah F s2 rfl rfl AV0 (Ab rfl (Ab rfl (Ab rfl Ap))) (Ac rfl) fun w3 _ F s4 => ?_
  cases H
  refine gw 5 F rfl fun _ F => ?_
  refine Aj (rs := [.cell 4 110, .tmp 5]) (vs := [.agg ⟨[.slice none 0 0, .slice none 0 0, jI 0]⟩, .bool false]) F (by rfl) ⟨_, _, rfl, Am s4 m0 rfl AX6 rfl, _, _, rfl, An rfl, rfl⟩ ⟨_, rfl, ⟨(.slice none 0 0), (.slice none 0 0), rfl, (SL.Axc (T := Ate) (SL.Axc (T := Aef) s4)).f2.drop.f2.drop.f1⟩⟩
 refine gx F (Al (vs := [jI a1]) AR5 Bbi rfl (cs := [.slice none 0 0, .slice none 0 0, jI a1]) (rfl)) 0 rfl rfl fun _ F => Af F s2 AR5 rfl rfl fun g2 w4 _ F s5 => Ah F s5 rfl rfl AV0 (Ab rfl (Ab rfl (Ab rfl Ap))) (Ac rfl) fun w5 _ F s6 => gw 6 F rfl fun _ F => gld F s6 m2 0 rfl fun _ F => ?_
 obtain ⟨o0, H0, R0⟩ := Aa H
 clear H
 refine gx F (Ak rfl underlying22 (fR hr0_1 s6)) 3 rfl rfl fun _ F => At9 (fun a w_ => ∃ v0 : Value, Fr a 63 [(2, jP g0), (4, jP g1), (6, jP g2)] ∧ SL w [] w_ [Blk g2 110 [v0, .slice none 0 0, jI a1], Blk g1 110 [.slice none 0 0, .slice none 0 0, jI 0], Blk g0 26 [.string ⟨⟨a0.Name⟩⟩, v0_1, v0_2, v0_3], Sl Aef v0 o0]) ?_ ?_
 ·have H := H0
  refine gc 1 F rfl fun _ F => lpk (AWf a0) (fun s7 a w_ => ∃ v1 : Value, Fr a 63 [(2, jP g0), (4, jP g1), (6, jP g2), (24, v0_1), (25, jI (a0.Classes.length : Int)), (26, jI s7.2)] ∧ SL w [] w_ [Blk g2 110 [v1, .slice none 0 0, jI a1], Blk g1 110 [.slice none 0 0, .slice none 0 0, jI 0], Blk g0 26 [.string ⟨⟨a0.Name⟩⟩, v0_1, v0_2, v0_3], Sl Aef v1 s7.1]) H ?_ ?_
  ·exact ⟨(.slice none 0 0), F.sb, (SL.Axc (T := Aef) s6).f3.f3.f3⟩
  intro s7 _ w6 h2 o1 H hr
  obtain ⟨v1, F, s8⟩ := h2
  replace H : AWf a0 s7 = some o1 := H
  unfold AWf at H
  refine gc 6 F rfl fun _ F => gif F H 6 4 rfl rfl rfl (fun h3 H _ F => ?_) (fun h3 H _ F => ?_)
  ·obtain ⟨x0, h4, H⟩ := Aa H
   obtain ⟨a2, c0, G0, h5, h6, h7, h8⟩ := Rd.idx hr0_1 AOf rfl h4
   obtain ⟨v2, rfl, h9⟩ := (ALt h7 h8)
   replace h6 := h6 _ _ s8
   refine gi F h5 0 rfl fun _ F => gx F (Aw Bcb rfl h6 rfl) 0 rfl rfl fun _ F => Af F s8 Bc2 rfl rfl fun g3 w7 _ F s9 => Ah F s9 rfl rfl Bfz (Ab rfl (Ab rfl (Ab (Aq (fR h9 s9)) Ap))) (Ac rfl) fun w8 _ F sa => ?_
   obtain ⟨x1, ha, H⟩ := Aa H
   refine gw 5 F rfl fun _ F => gld F sa m0 0 rfl fun _ F => std F (AUc (h9.Ajq sa) ha) fun v3 w9 _ hb F => ?_
   obtain ⟨_, rfl, hc⟩ := hb
   have sc := sa.add hc
   refine gw 1 F rfl fun _ F => Ay F sc.f1 rfl rfl Bpl (Ag (fO sc.f1 m1)) (Aq (fO sc.f1 m1)) rfl fun wa _ F sd => gw 4 F rfl fun _ F => gld F sd m2 0 rfl fun _ F => gld F sd m0 0 rfl fun _ F => ?_
   have se : SL w [] _ (Dt Aef (⟨x0.Name, x0.Ar1, x1⟩ : Abi) [.string ⟨⟨x0.Name⟩⟩, jI x0.Ar1, v3] :: [Blk g3 103 [.string ⟨⟨x0.Name⟩⟩, jI x0.Ar1, v3], Blk g2 110 [v1, .slice none 0 0, jI a1], Blk g1 110 [.slice none 0 0, .slice none 0 0, jI 0], Blk g0 26 [.string ⟨⟨a0.Name⟩⟩, v0_1, v0_2, v0_3], Sl Aef v1 s7.1]) := (SL.Bet (f := AV8) (x := (⟨x0.Name, x0.Ar1, x1⟩ : Abi)) (SL.AWe (SL.AXy (SL.AWe (SL.AXy (SL.dsl sd.f1) (Flat.int .i64) x0.Ar1)) Flat.str x0.Name)))
   refine Bc F se AOf rfl (by decide) rfl rfl rfl fun v4 wb _ F sf => ?_
   obtain ⟨x2, hd, H⟩ := Aa H
   refine Bd F sf.f5 AOf rfl rfl rfl rfl rfl rfl hd rfl fun v5 wc _ F sg => gw 1 F rfl fun _ F => Ay F sg.f2 rfl rfl Bz7 (Ag (fO sg.f2 m1)) (Aq (fO sg.f2 m1)) rfl fun wd _ F sh => ?_
   cases H
   exact gw 7 F rfl fun _ F => ⟨_, rfl, v5, F.sb, sh.f2.drop.f1.f3.f3.f3⟩
  cases H
  obtain rfl := hr _ rfl
  exact ⟨v1, F.sb, s8⟩
 intro _ we hJ
 obtain ⟨v0, F, si⟩ := hJ
 have H := R0
 clear R0 H0
 refine ge 5 F rfl fun _ F => gld F si m2 0 rfl fun _ F => ?_
 obtain ⟨o2, H1, R1⟩ := Aa H
 clear H
 refine gx F (Ak rfl underlying23 (fR hr0_2 si)) 3 rfl rfl fun _ F => At9 (fun a w_ => ∃ v6 : Value, Fr a 63 [(4, jP g1), (6, jP g2)] ∧ SL w [] w_ [Blk g2 110 [v0, v6, jI a1], Blk g1 110 [.slice none 0 0, .slice none 0 0, jI 0], Sl Aef v0 o0, Sl Ate v6 o2]) ?_ ?_
 ·have H := H1
  refine gc 1 F rfl fun _ F => lpk (AWq a0) (fun sj a w_ => ∃ v7 : Value, Fr a 63 [(4, jP g1), (6, jP g2), (42, v0_2), (43, jI (a0.Funcs.length : Int)), (44, jI sj.2)] ∧ SL w [] w_ [Blk g2 110 [v0, v7, jI a1], Blk g1 110 [.slice none 0 0, .slice none 0 0, jI 0], Sl Aef v0 o0, Sl Ate v7 sj.1]) H ?_ ?_
  ·exact ⟨(.slice none 0 0), F.sb, (SL.Axc (T := Ate) si).f3.drop.f3.f3.f3⟩
  intro sj _ wf he o3 H hr
  obtain ⟨v7, F, sk⟩ := he
  replace H : AWq a0 sj = some o3 := H
  unfold AWq at H
  refine gc 6 F rfl fun _ F => gif F H 6 4 rfl rfl rfl (fun hf H _ F => ?_) (fun hf H _ F => ?_)
  ·obtain ⟨x3, hg, H⟩ := Aa H
   obtain ⟨a3, c1, G1, hh, hi, hj, hk⟩ := Rd.idx hr0_2 AXp rfl hg
   obtain ⟨v8, v9, rfl, hl, hm⟩ := (AXc hj hk)
   replace hi := hi _ _ sk
   refine gi F hh 0 rfl fun _ F => gx F (Aw AZ3 rfl hi rfl) 0 rfl rfl fun _ F => Af F sk Bb8 rfl rfl fun g4 wg _ F sl => Ah F sl rfl rfl Bev (Ab rfl (Ab (Aq (fR hl sl)) (Ab rfl (Ab rfl (Ab (Aq (fR hm sl)) Ap))))) (Ac rfl) fun wh _ F sm => ?_
   obtain ⟨x4, hn, H⟩ := Aa H
   obtain ⟨x5, hp, H⟩ := Aa H
   refine gw 2 F rfl fun _ F => AJp Aq8 sm.f1.drop.f3.drop ?_
   have sn := sm.drew
   refine hq [0, 2, 3, 4, 6, 7, 8] F sn.f1.drop.f3.drop (QI.ev 3 rfl <| QI.ld m0 rfl <| QI.ev 2 rfl <| QI.ld m0 rfl <| QI.nil) (by kernel_rfl) fun _ F => ?_
   refine ANb [0, 1, 2, 3, 4, 5, 6, 7, 8, 9, 10] (fun a w_ => ∃ va : Value, Fr a 63 [(4, jP g1), (6, jP g2), (42, v0_2), (43, jI (a0.Funcs.length : Int)), (44, jI sj.2), (49, v7), (58, va)] ∧ SL w [] w_ [Blk g4 52 [.string ⟨⟨x3.Name⟩⟩, v8, jU (x3.Sig.Result.toNat : Int), jI x3.Locals, v9], Blk g1 110 [.slice none 0 0, .slice none 0 0, jI 0], Sl Aef v0 o0, Sl Ate va ([(⟨x4, x3.Sig.Result⟩ : Am7)] : List Am7), Sl Ate v7 sj.1, Blk g2 110 [v0, v7, jI a1]]) ?_ fun hD0 => ?_
   ·rintro a w_ ⟨va, F, so⟩
    refine ho 11 rfl (by kernel_rfl) ?_
    refine Bd F so.f3.f4 APh rfl rfl rfl rfl rfl rfl hp rfl fun vb wi _ F sp => gw 1 F rfl fun _ F => ⟨sp.drop.f3.drop, ?_⟩
    refine hq [12] F sp.drop.f3.drop (QI.ev 1 rfl <| QI.nil) (by kernel_rfl) fun _ F => ?_
    refine ho 13 rfl (by kernel_rfl) ?_
    refine Ay F sp.f4 rfl rfl Bpy (Ag (fO sp.f4 m1)) (Aq (fO sp.f4 m1)) rfl fun wj _ F sq => gw 1 F rfl fun _ F => ⟨sq.drop.drop, ?_⟩
    refine ANu (by kernel_rfl) ?_
    cases H
    exact ge 6 F rfl fun _ F => ⟨_, rfl, vb, F.sb, sq.f2.drop.f1.f3.f3.f3⟩
   refine ANb [0, 1, 2, 3, 4, 5, 6, 7, 8, 9] (fun a w_ => ∃ vc : Value, Fr a 63 [(4, jP g1), (6, jP g2), (42, v0_2), (43, jI (a0.Funcs.length : Int)), (44, jI sj.2), (49, v7), (57, .agg ⟨[vc, jU (x3.Sig.Result.toNat : Int)]⟩)] ∧ SL w [] w_ [Blk g4 52 [.string ⟨⟨x3.Name⟩⟩, v8, jU (x3.Sig.Result.toNat : Int), jI x3.Locals, v9], Blk g1 110 [.slice none 0 0, .slice none 0 0, jI 0], Sl Aef v0 o0, Sl Ty.u8 vc x4, Sl Ate v7 sj.1, Blk g2 110 [v0, v7, jI a1]]) ?_ fun hD1 => ?_
   ·rintro a w_ ⟨vc, F, sr⟩
    refine ho 10 rfl (by kernel_rfl) ?_
    have ss : SL w [] _ (Dt Ate (⟨x4, x3.Sig.Result⟩ : Am7) [vc, jU (x3.Sig.Result.toNat : Int)] :: [Blk g4 52 [.string ⟨⟨x3.Name⟩⟩, v8, jU (x3.Sig.Result.toNat : Int), jI x3.Locals, v9], Blk g1 110 [.slice none 0 0, .slice none 0 0, jI 0], Sl Aef v0 o0, Sl Ate v7 sj.1, Blk g2 110 [v0, v7, jI a1]]) := (SL.Bet (f := ARp) (x := (⟨x4, x3.Sig.Result⟩ : Am7)) (SL.AWe (SL.dsl (SL.AXy sr Flat.u8 x3.Sig.Result).f4)))
    refine Bc F ss APh rfl (by decide) rfl rfl rfl fun va wk _ F st => ?_
    exact gw 1 F rfl fun _ F => ⟨st.drop.f3.drop.f3.drop, hto hD0 ⟨va, F.sb, st.f5.f5.f2.f5.f5.f5⟩ (by kernel_rfl)⟩
   refine ANb [0, 1, 2, 3, 4, 5, 6, 7, 8] (fun a w_ => ∃ vc : Value, Fr a 63 [(4, jP g1), (6, jP g2), (42, v0_2), (43, jI (a0.Funcs.length : Int)), (44, jI sj.2), (49, v7), (53, vc), (56, jU (x3.Sig.Result.toNat : Int))] ∧ SL w [] w_ [Blk g4 52 [.string ⟨⟨x3.Name⟩⟩, v8, jU (x3.Sig.Result.toNat : Int), jI x3.Locals, v9], Blk g1 110 [.slice none 0 0, .slice none 0 0, jI 0], Sl Aef v0 o0, Sl Ty.u8 vc x4, Sl Ate v7 sj.1, Blk g2 110 [v0, v7, jI a1]]) ?_ fun hD2 => ?_
   ·rintro a w_ ⟨vc, F, su⟩
    refine ho 9 rfl (by kernel_rfl) ?_
    have hs := (fO su m3)
    refine gx F (Al (vs := [vc, jU (x3.Sig.Result.toNat : Int)]) AYi Bsn rfl (cs := [vc, jU (x3.Sig.Result.toNat : Int)]) (by obtain ⟨_, _, e_0⟩ := hs; rw [e_0] <;> rfl)) 1 rfl rfl fun _ F => ?_
    exact ⟨su.f3.drop.f3.drop.f3.drop, hto hD1 ⟨vc, F.sb, su⟩ (by kernel_rfl)⟩
   refine ho2 1 5 rfl rfl (by kernel_rfl) ?_ ?_
   ·refine gld F sn m1 1 rfl fun _ F => ⟨sn.f1.drop.f3.drop, ?_⟩
    refine ho 5 rfl (by kernel_rfl) ?_
    refine std F (AR6 (hl.Ajq sn) hn) fun vc wl _ ht F => ?_
    obtain ⟨_, rfl, hu⟩ := ht
    have sv := sn.add hu
    exact gw 1 F rfl fun _ F => ⟨sv.drop.f1.drop.f3.drop, hto hD2 ⟨vc, F.sb, sv.f2.f5.f2.f5.f5.f5⟩ (by kernel_rfl)⟩
   refine std F (AR6 (hl.Ajq sn) hn) fun vc wl _ ht F => ?_
   obtain ⟨_, rfl, hu⟩ := ht
   have sv := sn.add hu
   refine gw 1 F rfl fun _ F => ⟨sv.drop.f1.drop.f3.drop, ?_⟩
   refine ho2 1 9 rfl rfl (by kernel_rfl) ?_ ?_
   ·exact gld F sv m2 1 rfl fun _ F => ⟨sv.drop.f1.drop.f3.drop, hto hD2 ⟨vc, F.sb, sv.f2.f5.f2.f5.f5.f5⟩ (by kernel_rfl)⟩
   have hs := (fO sv m0)
   refine gx F (Al (vs := [vc, jU (x3.Sig.Result.toNat : Int)]) AYi Bsn rfl (cs := [vc, jU (x3.Sig.Result.toNat : Int)]) (by obtain ⟨_, _, e_0⟩ := hs; rw [e_0] <;> rfl)) 1 rfl rfl fun _ F => ?_
   refine ⟨sv.drop.f1.drop.f3.drop, ?_⟩
   refine ho2 1 10 rfl rfl (by kernel_rfl) ?_ ?_
   ·exact gld F sv m2 1 rfl fun _ F => ⟨sv.drop.f1.drop.f3.drop, hto hD1 ⟨vc, F.sb, sv.f2.f5.f2.f5.f5.f5⟩ (by kernel_rfl)⟩
   have ss : SL w [] _ (Dt Ate (⟨x4, x3.Sig.Result⟩ : Am7) [vc, jU (x3.Sig.Result.toNat : Int)] :: [Blk g4 52 [.string ⟨⟨x3.Name⟩⟩, v8, jU (x3.Sig.Result.toNat : Int), jI x3.Locals, v9], Blk g2 110 [v0, v7, jI a1], Blk g1 110 [.slice none 0 0, .slice none 0 0, jI 0], Sl Aef v0 o0, Sl Ate v7 sj.1]) := (SL.Bet (f := ARp) (x := (⟨x4, x3.Sig.Result⟩ : Am7)) (SL.AWe (SL.dsl (SL.AXy sv Flat.u8 x3.Sig.Result).f1)))
   refine Bc F ss APh rfl (by decide) rfl rfl rfl fun va wk _ F st => ?_
   refine gw 1 F rfl fun _ F => ⟨st.drop.f1.drop.f3.drop, ?_⟩
   refine ho 1 rfl (by kernel_rfl) ?_
   exact gld F st m2 1 rfl fun _ F => ⟨st.drop.f1.drop.f3.drop, hto hD0 ⟨va, F.sb, st.f2.f5.f2.f5.f5.f5⟩ (by kernel_rfl)⟩
  cases H
  obtain rfl := hr _ rfl
  exact ⟨v7, F.sb, sk⟩
 intro _ wm hJ
 obtain ⟨v6, F, sw⟩ := hJ
 have H := R1
 clear R1 H1
 refine ge 3 F rfl fun _ F => gld F sw m0 0 rfl fun _ F => Ah F sw.f1 rfl rfl AV0 (Ab (Aq (fO sw.f1 m2)) (Ab (Aq (fO sw.f1 m3)) (Ab rfl Ap))) (Ac rfl) fun wn _ F sx => ?_
 cases H
 refine gw 4 F rfl fun _ F => ?_
 refine Aj (rs := [.cell 4 110, .tmp 5]) (vs := [.agg ⟨[v0, v6, jI a1]⟩, .bool true]) F (by rfl) ⟨_, _, rfl, Am sx m0 rfl AX6 rfl, _, _, rfl, An rfl, rfl⟩ ⟨_, rfl, ⟨v0, v6, rfl, sx.drop.drop⟩⟩
theorem Bng {w : World} {a0 : Int} {r : Aas × Int} (H : Bay a0 = some r) :
    Calls prog 131 #[jI a0] w (Ret fun u_ w_ => u_ = .tuple ⟨[.agg ⟨(jI r.1.Locals :: jI r.1.Height :: ev8 r.1.Slots)⟩, jI r.2]⟩ ∧ SL w [] w_ []) := by
 have s0 : SL w [] w [] := SL.Aq9 w
 refine cin func131 ntmps131 2 rfl rfl rfl fun _ F0 => ?_
 unfold Bay at H
 refine Af F0 s0 Ajp rfl rfl fun g8 w9 _ F s1 => gw 9 F rfl fun _ F => bsp 6 F H (fun h0 H F => ?_) (fun h0 H F => ?_)
 ·refine gw 8 F rfl fun _ F => gx F (Al (vs := []) Ajp ACi rfl (cs := jZ) (Ayf)) 0 rfl rfl fun _ F => ?_
  refine Akj (ds := jZ) F s1 rfl rfl (by simpa using Amy) (Ab rfl (Ab rfl (Ape _))) (by simp) fun w0 _ F s2 => ?_
  cases H
  refine gw 5 F rfl fun _ F => ?_
  refine Aj (rs := [.cell 2 118, .tmp 3]) (vs := [.agg ⟨jZ⟩, jI 1]) F (by rfl) ⟨_, _, rfl, Am s2 m0 rfl Aoi (by simp), _, _, rfl, An rfl, rfl⟩ ⟨_, rfl, ⟨rfl, s2.drop⟩⟩
 refine gw 5 F rfl fun _ F => gif F H 2 5 rfl rfl rfl (fun h1 H _ F => ?_) (fun h1 H _ F => ?_)
 ·refine gx F (Al (vs := []) Ajp ACi rfl (cs := jZ) (Ayf)) 0 rfl rfl fun _ F => ?_
  refine Akj (ds := jZ) F s1 rfl rfl (by simpa using Amy) (Ab rfl (Ab rfl (Ape _))) (by simp) fun w1 _ F s3 => ?_
  cases H
  refine gw 5 F rfl fun _ F => ?_
  refine Aj (rs := [.cell 2 118, .tmp 3]) (vs := [.agg ⟨jZ⟩, jI 1]) F (by rfl) ⟨_, _, rfl, Am s3 m0 rfl Aoi (by simp), _, _, rfl, An rfl, rfl⟩ ⟨_, rfl, ⟨rfl, s3.drop⟩⟩
 refine gx F (Al (vs := [jI a0]) Ajp ACi rfl (cs := (jI a0 :: jI 0 :: ev8 (Vector.replicate 24 (0 : UInt8)))) (AN2 rfl rfl (by simp) <| Ayf)) 0 rfl rfl fun _ F => ?_
 refine Akj (ds := (jI a0 :: jI 0 :: ev8 (Vector.replicate 24 (0 : UInt8)))) F s1 rfl rfl (by simpa using Amy) (Ab rfl (Ab rfl (Ape _))) (by simp) fun w2 _ F s4 => ?_
 cases H
 refine gw 4 F rfl fun _ F => ?_
 refine Aj (rs := [.cell 2 118, .tmp 3]) (vs := [.agg ⟨(jI a0 :: jI 0 :: ev8 (Vector.replicate 24 (0 : UInt8)))⟩, jI 0]) F (by rfl) ⟨_, _, rfl, Am s4 m0 rfl Aoi (by simp), _, _, rfl, An rfl, rfl⟩ ⟨_, rfl, ⟨rfl, s4.drop⟩⟩
theorem ASy {w : World} {v0 : Value} {a0 : List Abi} {a1 : UInt8} {r : Int} (hr0 : Rd Aef w [] v0 a0) (H : ASi a0 a1 = some r) :
    Calls prog 158 #[v0, jU (a1.toNat : Int)] w (Ret fun u_ w_ => u_ = jI r ∧ SL w [] w_ []) := by
 have s0 : SL w [] w [] := SL.Aq9 w
 refine cin func158 ntmps158 11 rfl rfl rfl fun _ F => ?_
 unfold ASi at H
 refine bsp 7 F H (fun h0 H F => ?_) (fun h0 H F => ?_)
 ·cases H
  exact gw 17 F rfl fun _ F => rt F ⟨rfl, s0⟩
 refine gw 1 F rfl fun _ F => Afv F rfl rfl <| gx F (Beu rfl rfl) 0 rfl rfl fun _ F => Afv F rfl rfl <| gx F (AX0 rfl underlying48 underlying3) 1 rfl rfl fun _ F => Afv F rfl rfl <| gx F (Ak rfl underlying22 (fR hr0 s0)) 4 rfl rfl fun _ F => gif F H 7 5 rfl rfl rfl (fun h1 H _ F => ?_) (fun h1 H _ F => ?_)
 ·cases H
  exact rt F ⟨rfl, s0⟩
 refine gx F (Beu rfl rfl) 0 rfl rfl fun _ F => ?_
 cases H
 exact gx F (AX0 rfl underlying48 underlying3) 4 rfl rfl fun _ F => rt F ⟨rfl, s0⟩
theorem ASx {w : World} {v0 : Value} {a0 : List Abi} {a1 : UInt8} {r : Bool} (hr0 : Rd Aef w [] v0 a0) (H : ARa a0 a1 = some r) :
    Calls prog 132 #[v0, jU (a1.toNat : Int)] w (Ret fun u_ w_ => u_ = .bool r ∧ SL w [] w_ []) := by
 have s0 : SL w [] w [] := SL.Aq9 w
 refine cin func132 ntmps132 10 rfl rfl rfl fun _ F => ?_
 unfold ARa at H
 refine bsp 7 F H (fun h0 H F => ?_) (fun h0 H F => ?_)
 ·cases H
  exact gw 9 F rfl fun _ F => rt F ⟨rfl, s0⟩
 obtain ⟨x0, h1, H⟩ := Aa H
 refine gw 2 F rfl fun _ F => Afv F rfl rfl <| gca F s0 (ASy (hr0.Ajq s0) h1) 6 rfl rfl rfl rfl fun w0 _ F s1 => ?_
 cases H
 exact rt F ⟨rfl, s1⟩
theorem AY0 {w : World} {v0 v1 : Value} {a0 : List Abi} {a1 : List UInt8} {a2 : Int} {r : Aas × Int} (hr0 : Rd Aef w [] v0 a0) (hr1 : Rd Ty.u8 w [] v1 a1) (H : AWr a0 a1 a2 = some r) :
    Calls prog 104 #[v0, v1, jI a2] w (Ret fun u_ w_ => u_ = .tuple ⟨[.agg ⟨(jI r.1.Locals :: jI r.1.Height :: ev8 r.1.Slots)⟩, jI r.2]⟩ ∧ SL w [] w_ []) := by
 have s0 : SL w [] w [] := SL.Aq9 w
 refine cin func104 ntmps104 2 rfl rfl rfl fun _ F0 => ?_
 unfold AWr at H
 refine Af F0 s0 Ajp rfl rfl fun g8 w9 _ F s1 => ?_
 obtain ⟨x0, h0, H⟩ := Aa H
 refine gw 6 F rfl fun _ F => gca F s1 (Bng h0) 3 rfl rfl rfl rfl fun w0 _ F s2 => Af F s2 Ajp rfl rfl fun g0 w1 _ F s3 => ?_
 refine Akj (ds := (jI x0.1.Locals :: jI x0.1.Height :: ev8 x0.1.Slots)) F s3 rfl rfl (by simpa using Amy) (Ab rfl (Ab rfl (Ape _))) (by simp) fun w2 _ F s4 => ?_
 refine gw 9 F rfl fun _ F => bsp 19 F H (fun h1 H F => ?_) (fun h1 H F => ?_)
 ·refine gw 15 F rfl fun _ F => gx F (Al (vs := []) Ajp ACi rfl (cs := jZ) (Ayf)) 0 rfl rfl fun _ F => ?_
  refine Akj (ds := jZ) F s4.f1 rfl rfl (by simpa using Amy) (Ab rfl (Ab rfl (Ape _))) (by simp) fun w3 _ F s5 => ?_
  cases H
  refine gw 5 F rfl fun _ F => ?_
  refine Aj (rs := [.cell 6 118, .tmp 7]) (vs := [.agg ⟨jZ⟩, jI 1]) F (by rfl) ⟨_, _, rfl, Am s5 m0 rfl Aoi (by simp), _, _, rfl, An rfl, rfl⟩ ⟨_, rfl, ⟨rfl, s5.drop.drop⟩⟩
 refine gw 1 F rfl fun _ F => Afv F rfl rfl <| gx F (Ak rfl underlying47 (fR hr1 s4)) 3 rfl rfl fun _ F => bsp 24 F H (fun h2 H F => ?_) (fun h2 H F => ?_)
 ·refine gw 10 F rfl fun _ F => gx F (Al (vs := []) Ajp ACi rfl (cs := jZ) (Ayf)) 0 rfl rfl fun _ F => ?_
  refine Akj (ds := jZ) F s4.f1 rfl rfl (by simpa using Amy) (Ab rfl (Ab rfl (Ape _))) (by simp) fun w4 _ F s6 => ?_
  cases H
  refine gw 5 F rfl fun _ F => ?_
  refine Aj (rs := [.cell 6 118, .tmp 7]) (vs := [.agg ⟨jZ⟩, jI 1]) F (by rfl) ⟨_, _, rfl, Am s6 m0 rfl Aoi (by simp), _, _, rfl, An rfl, rfl⟩ ⟨_, rfl, ⟨rfl, s6.drop.drop⟩⟩
 refine gw 1 F rfl fun _ F => Afv F rfl rfl <| gx F (Ak rfl underlying47 (fR hr1 s4)) 5 rfl rfl fun _ F => gif F H 2 6 rfl rfl rfl (fun h3 H _ F => ?_) (fun h3 H _ F => ?_)
 ·refine gx F (Al (vs := []) Ajp ACi rfl (cs := jZ) (Ayf)) 0 rfl rfl fun _ F => ?_
  refine Akj (ds := jZ) F s4.f1 rfl rfl (by simpa using Amy) (Ab rfl (Ab rfl (Ape _))) (by simp) fun w5 _ F s7 => ?_
  cases H
  refine gw 5 F rfl fun _ F => ?_
  refine Aj (rs := [.cell 6 118, .tmp 7]) (vs := [.agg ⟨jZ⟩, jI 1]) F (by rfl) ⟨_, _, rfl, Am s7 m0 rfl Aoi (by simp), _, _, rfl, An rfl, rfl⟩ ⟨_, rfl, ⟨rfl, s7.drop.drop⟩⟩
 obtain ⟨o0, H0, R0⟩ := Aa H
 clear H
 refine gx F (Ak rfl underlying47 (fR hr1 s4)) 3 rfl rfl fun _ F => At9 (fun a w_ => ∃ p0 : (Vector UInt8 24), o0 = .inr (p0) ∧ Fr a 57 [(6, jP g8), (8, jP g0)] ∧ SL w [] w_ [Blk g0 118 (jI x0.1.Locals :: jI x0.1.Height :: ev8 p0), Blk g8 118 jZ]) ?_ ?_
 ·have H := H0
  refine gc 1 F rfl fun _ F => lpk (ATy a0 a1) (fun s8 a w_ => Fr a 57 [(0, v0), (6, jP g8), (8, jP g0), (31, v1), (32, jI (a1.length : Int)), (33, jI s8.2)] ∧ SL w [] w_ [Blk g0 118 (jI x0.1.Locals :: jI x0.1.Height :: ev8 s8.1), Blk g8 118 jZ]) H ?_ ?_
  ·exact ⟨F.sb, s4⟩
  intro s8 _ w6 h4 o1 H hr
  obtain ⟨F, s9⟩ := h4
  replace H : ATy a0 a1 s8 = some o1 := H
  unfold ATy at H
  refine gc 6 F rfl fun _ F => gif F H 7 4 rfl rfl rfl (fun h5 H _ F => ?_) (fun h5 H _ F => ?_)
  ·obtain ⟨x1, h6, H⟩ := Aa H
   obtain ⟨a3, h7, h8⟩ := AT7 Flat.u8 (Bl hr1 s9) Aqg rfl h6
   refine gi F h7 0 rfl fun _ F => ?_
   obtain ⟨x2, h9, H⟩ := Aa H
   refine gx F (Ao Aw9 rfl (Aqa.at_ h8 (o := 0) rfl)) 9 rfl rfl fun _ F => gca F s9 (ASx (hr0.Ajq s9) h9) 2 rfl rfl rfl rfl fun w7 _ F sa => bsp 42 F H (fun ha H F => ?_) (fun ha H F => ?_)
   ·refine gw 12 F rfl fun _ F => gx F (Al (vs := []) Ajp ACi rfl (cs := jZ) (Ayf)) 0 rfl rfl fun _ F => ?_
    refine Akj (ds := jZ) F sa.f1 rfl rfl (by simpa using Amy) (Ab rfl (Ab rfl (Ape _))) (by simp) fun w8 _ F sc => ?_
    cases H
    obtain rfl := hr _ rfl
    replace H := R0
    try dsimp only at H
    cases H
    refine gw 11 F rfl fun _ F => ?_
    refine Aj (rs := [.cell 6 118, .tmp 7]) (vs := [.agg ⟨jZ⟩, jI 1]) F (by rfl) ⟨_, _, rfl, Am sc m0 rfl Aoi (by simp), _, _, rfl, An rfl, rfl⟩ ⟨_, rfl, ⟨rfl, sc.drop.drop⟩⟩
   refine gw 4 F rfl fun _ F => bsp 46 F H (fun hb H F => ?_) (fun hb H F => ?_)
   ·refine gw 8 F rfl fun _ F => gx F (Al (vs := []) Ajp ACi rfl (cs := jZ) (Ayf)) 0 rfl rfl fun _ F => ?_
    refine Akj (ds := jZ) F sa.f1 rfl rfl (by simpa using Amy) (Ab rfl (Ab rfl (Ape _))) (by simp) fun wa _ F sd => ?_
    cases H
    obtain rfl := hr _ rfl
    replace H := R0
    try dsimp only at H
    cases H
    refine gw 11 F rfl fun _ F => ?_
    refine Aj (rs := [.cell 6 118, .tmp 7]) (vs := [.agg ⟨jZ⟩, jI 1]) F (by rfl) ⟨_, _, rfl, Am sd m0 rfl Aoi (by simp), _, _, rfl, An rfl, rfl⟩ ⟨_, rfl, ⟨rfl, sd.drop.drop⟩⟩
   refine gw 5 F rfl fun _ F => gif F H 2 6 rfl rfl rfl (fun hc H _ F => ?_) (fun hc H _ F => ?_)
   ·refine gx F (Al (vs := []) Ajp ACi rfl (cs := jZ) (Ayf)) 0 rfl rfl fun _ F => ?_
    refine Akj (ds := jZ) F sa.f1 rfl rfl (by simpa using Amy) (Ab rfl (Ab rfl (Ape _))) (by simp) fun wb _ F se => ?_
    cases H
    obtain rfl := hr _ rfl
    replace H := R0
    try dsimp only at H
    cases H
    refine gw 11 F rfl fun _ F => ?_
    refine Aj (rs := [.cell 6 118, .tmp 7]) (vs := [.agg ⟨jZ⟩, jI 1]) F (by rfl) ⟨_, _, rfl, Am se m0 rfl Aoi (by simp), _, _, rfl, An rfl, rfl⟩ ⟨_, rfl, ⟨rfl, se.drop.drop⟩⟩
   obtain ⟨x3, hd, H⟩ := Aa H
   refine gx F (AO6 ANo hd rfl rfl) 0 rfl rfl fun _ F => AVw (y' := x1) (pre := [jI x0.1.Locals, jI x0.1.Height]) F sa rfl hd rfl rfl AWk fun wc _ F sf => ?_
   cases H
   exact gw 7 F rfl fun _ F => ⟨_, rfl, F.sb, sf⟩
  cases H
  obtain rfl := hr _ rfl
  exact ⟨_, rfl, F.sb, s9⟩
 intro _ wd hJ
 obtain ⟨p0, rfl, F, sg⟩ := hJ
 have H := R0
 clear R0 H0
 try dsimp only at H
 refine ge 3 F rfl fun _ F => gla F sg m0 0 rfl fun _ F => ?_
 refine Akj (ds := (jI x0.1.Locals :: jI x0.1.Height :: ev8 p0)) F sg.f1 rfl rfl (by simpa using Amy) (Ab rfl (Ab rfl (Ape _))) (by simp) fun we _ F sh => ?_
 cases H
 refine gw 4 F rfl fun _ F => ?_
 refine Aj (rs := [.cell 6 118, .tmp 7]) (vs := [.agg ⟨(jI x0.1.Locals :: jI x0.1.Height :: ev8 p0)⟩, jI 0]) F (by rfl) ⟨_, _, rfl, Am sh m0 rfl Aoi (by simp), _, _, rfl, An rfl, rfl⟩ ⟨_, rfl, ⟨rfl, sh.drop.drop⟩⟩
theorem Bco {w : World} {a0 : List UInt8} {r : Bool} (H : AV6 a0 = some r) :
    Calls prog 151 #[.string ⟨⟨a0⟩⟩] w (Ret fun u_ w_ => u_ = .bool r ∧ SL w [] w_ []) := by
 have s0 : SL w [] w [] := SL.Aq9 w
 refine cin func151 ntmps151 9 rfl rfl rfl fun _ F => ?_
 unfold AV6 at H
 refine gx F (AY7 rfl underlying9) 2 rfl rfl fun _ F => bsp 8 F H (fun h0 H F => ?_) (fun h0 H F => ?_)
 ·cases H
  exact gw 14 F rfl fun _ F => rt F ⟨rfl, s0⟩
 refine gw 1 F rfl fun _ F => Afv F rfl rfl <| gx F (AY7 rfl underlying9) 4 rfl rfl fun _ F => gif F H 7 6 rfl rfl rfl (fun h1 H _ F => ?_) (fun h1 H _ F => ?_)
 ·cases H
  exact rt F ⟨rfl, s0⟩
 obtain ⟨o0, H0, R0⟩ := Aa H
 clear H
 refine gx F (AY7 rfl underlying9) 3 rfl rfl fun _ F => At9 (fun a w_ => ∃ p0 : Unit, o0 = .inr (p0) ∧ Fr a 50 [] ∧ SL w [] w_ []) ?_ ?_
 ·have H := H0
  refine gc 1 F rfl fun _ F => lpk (ARd a0) (fun s1 a w_ => Fr a 50 [(0, .string ⟨⟨a0⟩⟩), (14, jI (a0.length : Int)), (15, jI s1)] ∧ SL w [] w_ []) H ?_ ?_
  ·exact ⟨F.sb, s0⟩
  intro s1 _ w0 h2 o1 H hr
  obtain ⟨F, s2⟩ := h2
  replace H : ARd a0 s1 = some o1 := H
  unfold ARd at H
  refine gc 6 F rfl fun _ F => gif F H 14 4 rfl rfl rfl (fun h3 H _ F => ?_) (fun h3 H _ F => ?_)
  ·obtain ⟨x0, h4, H⟩ := Aa H
   obtain ⟨o2, H1, R1⟩ := Aa H
   clear H
   refine gx F (Bsp rfl rfl underlying9 h4) 5 rfl rfl fun _ F => At9 (fun a w_ => Fr a 50 [(0, .string ⟨⟨a0⟩⟩), (3, jI s1), (4, jU (x0.toNat : Int)), (14, jI (a0.length : Int)), (15, jI s1), (21, .bool o2)] ∧ SL w [] w_ []) ?_ ?_
   ·have H := H1
    refine gc 5 F rfl fun _ F => bsp 24 F H (fun h5 H F => ?_) (fun h5 H F => ?_)
    ·refine gw 6 F rfl fun _ F => gif F H 1 4 rfl rfl rfl (fun h6 H _ F => ?_) (fun h6 H _ F => ?_)
     ·cases H
      exact ⟨F.sb, s2⟩
     refine bsp 30 F H (fun h7 H F => ?_) (fun h7 H F => ?_)
     ·cases H
      exact gw 5 F rfl fun _ F => ⟨F.sb, s2⟩
     cases H
     exact gw 5 F rfl fun _ F => ⟨F.sb, s2⟩
    refine gw 11 F rfl fun _ F => bsp 30 F H (fun h8 H F => ?_) (fun h8 H F => ?_)
    ·cases H
     exact gw 5 F rfl fun _ F => ⟨F.sb, s2⟩
    cases H
    exact gw 5 F rfl fun _ F => ⟨F.sb, s2⟩
   intro _ w1 hJ
   obtain ⟨F, s3⟩ := hJ
   have H := R1
   clear R1 H1
   refine ge 1 F rfl fun _ F => gif F H 8 5 rfl rfl rfl (fun h9 H _ F => ?_) (fun h9 H _ F => ?_)
   ·cases H
    exact ⟨_, rfl, F.sb, s3⟩
   refine bsp 37 F H (fun ha H F => ?_) (fun ha H F => ?_)
   ·refine gw 3 F rfl fun _ F => bsp 40 F H (fun hb H F => ?_) (fun hb H F => ?_)
    ·refine gw 4 F rfl fun _ F => bsp 44 F H (fun hc H F => ?_) (fun hc H F => ?_)
     ·cases H
      exact gw 16 F rfl fun _ F => ⟨_, rfl, F.sb, s3⟩
     refine gw 7 F rfl fun _ F => gif F H 8 13 rfl rfl rfl (fun hd H _ F => ?_) (fun hd H _ F => ?_)
     ·cases H
      exact ⟨_, rfl, F.sb, s3⟩
     cases H
     obtain rfl := hr _ rfl
     replace H := R0
     try dsimp only at H
     cases H
     exact rt F ⟨rfl, s3⟩
    refine gw 11 F rfl fun _ F => gif F H 8 13 rfl rfl rfl (fun he H _ F => ?_) (fun he H _ F => ?_)
    ·cases H
     exact ⟨_, rfl, F.sb, s3⟩
    cases H
    obtain rfl := hr _ rfl
    replace H := R0
    try dsimp only at H
    cases H
    exact rt F ⟨rfl, s3⟩
   cases H
   obtain rfl := hr _ rfl
   replace H := R0
   try dsimp only at H
   cases H
   exact gw 28 F rfl fun _ F => rt F ⟨rfl, s3⟩
  cases H
  obtain rfl := hr _ rfl
  exact ⟨_, rfl, F.sb, s2⟩
 intro _ w2 hJ
 obtain ⟨p0, rfl, F, s4⟩ := hJ
 have H := R0
 clear R0 H0
 try dsimp only at H
 cases H
 exact ge 7 F rfl fun _ F => rt F ⟨rfl, s4⟩
theorem Bbj {w : World} {v0 : Value} {a0 : List (List UInt8)} {a1 : List UInt8} {r : Int} (hr0 : Rd Ty.str w [] v0 a0) (H : AQa a0 a1 = some r) :
    Calls prog 178 #[v0, .string ⟨⟨a1⟩⟩] w (Ret fun u_ w_ => u_ = jI r ∧ SL w [] w_ []) := by
 have s0 : SL w [] w [] := SL.Aq9 w
 refine cin func178 ntmps178 9 rfl rfl rfl fun _ F => ?_
 unfold AQa at H
 obtain ⟨o0, H0, R0⟩ := Aa H
 clear H
 refine gx F (Ak rfl underlying218 (fR hr0 s0)) 3 rfl rfl fun _ F => At9 (fun a w_ => ∃ p0 : Unit, o0 = .inr (p0) ∧ Fr a 19 [] ∧ SL w [] w_ []) ?_ ?_
 ·have H := H0
  refine gc 1 F rfl fun _ F => lpk (ACk a0 a1) (fun s1 a w_ => Fr a 19 [(0, v0), (1, .string ⟨⟨a1⟩⟩), (7, jI (a0.length : Int)), (8, jI s1)] ∧ SL w [] w_ []) H ?_ ?_
  ·exact ⟨F.sb, s0⟩
  intro s1 _ w0 h0 o1 H hr
  obtain ⟨F, s2⟩ := h0
  replace H : ACk a0 a1 s1 = some o1 := H
  unfold ACk at H
  refine gc 6 F rfl fun _ F => gif F H 15 4 rfl rfl rfl (fun h1 H _ F => ?_) (fun h1 H _ F => ?_)
  ·obtain ⟨x0, h2, H⟩ := Aa H
   obtain ⟨a2, h3, h4⟩ := AT7 Flat.str (Bl hr0 s2) Bbk rfl h2
   refine gi F h3 0 rfl fun _ F => gx F (Ao AUt rfl (Aqa.at_ h4 (o := 0) rfl)) 0 rfl rfl fun _ F => gx F (Be0 rfl rfl) 2 rfl rfl fun _ F => gif F H 13 7 rfl rfl rfl (fun h5 H _ F => ?_) (fun h5 H _ F => ?_)
   ·cases H
    obtain rfl := hr _ rfl
    replace H := R0
    try dsimp only at H
    cases H
    exact rt F ⟨rfl, s2⟩
   cases H
   exact ⟨_, rfl, F.sb, s2⟩
  cases H
  obtain rfl := hr _ rfl
  exact ⟨_, rfl, F.sb, s2⟩
 intro _ w1 hJ
 obtain ⟨p0, rfl, F, s3⟩ := hJ
 have H := R0
 clear R0 H0
 try dsimp only at H
 cases H
 exact ge 7 F rfl fun _ F => rt F ⟨rfl, s3⟩
theorem AVg {w : World} {v0 : Value} {a0 : List (List UInt8)} {a1 : List UInt8} {r : Bool} (hr0 : Rd Ty.str w [] v0 a0) (H : AJu a0 a1 = some r) :
    Calls prog 152 #[v0, .string ⟨⟨a1⟩⟩] w (Ret fun u_ w_ => u_ = .bool r ∧ SL w [] w_ []) := by
 have s0 : SL w [] w [] := SL.Aq9 w
 refine cin func152 ntmps152 9 rfl rfl rfl fun _ F => ?_
 unfold AJu at H
 obtain ⟨x0, h0, H⟩ := Aa H
 refine gca F s0 (Bbj (hr0.Ajq s0) h0) 5 rfl rfl rfl rfl fun w0 _ F s1 => ?_
 cases H
 exact rt F ⟨rfl, s1⟩
theorem Boy {w : World} {r : (List (List UInt8))} (H : Bbw = some r) :
    Calls prog 153 #[] w (Ret fun u_ w_ => ∃ u0 : Value, u_ = u0 ∧ SL w [] w_ [Sl Ty.str u0 r]) := by
 have s0 : SL w [] w [] := SL.Aq9 w
 refine cin func153 ntmps153 7 rfl rfl rfl fun _ F2 => ?_
 unfold Bbw at H
 refine Ae (parts := [(0, .const (.string ⟨⟨[116, 111, 112]⟩⟩)), (1, .const (.string ⟨⟨[105, 110, 116]⟩⟩)), (2, .const (.string ⟨⟨[98, 111, 111, 108]⟩⟩)), (3, .const (.string ⟨⟨[110, 117, 108, 108]⟩⟩)), (4, .const (.string ⟨⟨[105, 110, 116, 115]⟩⟩)), (5, .const (.string ⟨⟨[97, 110, 121]⟩⟩))]) Flat.str ([[116, 111, 112], [105, 110, 116], [98, 111, 111, 108], [110, 117, 108, 108], [105, 110, 116, 115], [97, 110, 121]] : List (List UInt8)) F2 s0 Bbk rfl (by decide) rfl rfl rfl (by simp [Value.cells]) rfl rfl rfl fun v0 w0 _ F s1 => ?_
 cases H
 exact gw 4 F rfl fun _ F => rt F ⟨v0, rfl, s1⟩
theorem Bjc {w : World} {FF : List Nat} {g1 : Nat} {v0_2 v1_2 : Value} {a0 : Abi} {a1 : Abi} {r : Bool} (hst : Aru [Blk g1 103 [.string ⟨⟨a1.Name⟩⟩, jI a1.Ar1, v1_2]] w FF) (hr0_2 : Rd AG5 w FF v0_2 a0.Fields) (hr1_2 : Rd AG5 w FF v1_2 a1.Fields) (H : AXt a0 a1 = some r) :
    Calls prog 155 #[.agg ⟨[.string ⟨⟨a0.Name⟩⟩, jI a0.Ar1, v0_2]⟩, jP g1] w (Ret fun u_ w_ => u_ = .bool r ∧ SL w FF w_ [Blk g1 103 [.string ⟨⟨a1.Name⟩⟩, jI a1.Ar1, v1_2]]) := by
 have s0 : SL w FF w [Blk g1 103 [.string ⟨⟨a1.Name⟩⟩, jI a1.Ar1, v1_2]] := SL.init w FF hst
 refine cin func155 ntmps155 2 rfl rfl rfl fun _ F0 => ?_
 unfold AXt at H
 refine Ar F0 s0 rfl rfl rfl fun g8 w9 _ F s1 => gw 6 F rfl fun _ F => gld F s1 m0 1 rfl fun _ F => gld F s1 m1 0 rfl fun _ F => ?_
 cases H
 exact gx F (Be0 rfl rfl) 4 rfl rfl fun _ F => rt F ⟨rfl, s1.drop⟩
theorem AUr {w : World} {FF : List Nat} {g0 : Nat} {v0 v200_2 : Value} {a0 : List Abi} {a200 : Abi} {r : Int} (hst : Aru [Blk g0 103 [.string ⟨⟨a200.Name⟩⟩, jI a200.Ar1, v200_2]] w FF) (hr0 : Rd Aef w FF v0 a0) (hr200_2 : Rd AG5 w FF v200_2 a200.Fields) (H : ANl a0 a200 = some r) :
    Calls prog 179 #[v0, clo 155 [jP g0]] w (Ret fun u_ w_ => u_ = jI r ∧ SL w FF w_ [Blk g0 103 [.string ⟨⟨a200.Name⟩⟩, jI a200.Ar1, v200_2]]) := by
 have s0 : SL w FF w [Blk g0 103 [.string ⟨⟨a200.Name⟩⟩, jI a200.Ar1, v200_2]] := SL.init w FF hst
 refine cin func179 ntmps179 9 rfl rfl rfl fun _ F => ?_
 unfold ANl at H
 obtain ⟨o0, H0, R0⟩ := Aa H
 clear H
 refine gx F (Ak rfl underlying22 (fR hr0 s0)) 3 rfl rfl fun _ F => At9 (fun a w_ => ∃ p0 : Unit, o0 = .inr (p0) ∧ Fr a 19 [] ∧ SL w FF w_ [Blk g0 103 [.string ⟨⟨a200.Name⟩⟩, jI a200.Ar1, v200_2]]) ?_ ?_
 ·have H := H0
  refine gc 1 F rfl fun _ F => lpk (A25 a0 a200) (fun s1 a w_ => Fr a 19 [(0, v0), (1, clo 155 [jP g0]), (7, jI (a0.length : Int)), (8, jI s1)] ∧ SL w FF w_ [Blk g0 103 [.string ⟨⟨a200.Name⟩⟩, jI a200.Ar1, v200_2]]) H ?_ ?_
  ·exact ⟨F.sb, s0⟩
  intro s1 _ w0 h0 o1 H hr
  obtain ⟨F, s2⟩ := h0
  replace H : A25 a0 a200 s1 = some o1 := H
  unfold A25 at H
  refine gc 6 F rfl fun _ F => gif F H 12 4 rfl rfl rfl (fun h1 H _ F => ?_) (fun h1 H _ F => ?_)
  ·obtain ⟨x0, h2, H⟩ := Aa H
   obtain ⟨a2, c0, G0, h3, h4, h5, h6⟩ := Rd.idx hr0 AOf rfl h2
   obtain ⟨v1, rfl, h7⟩ := (ALt h5 h6)
   replace h4 := h4 _ _ s2
   obtain ⟨x1, h8, H⟩ := Aa H
   refine gw 3 F rfl fun _ F => gi F h3 0 rfl fun _ F => gx F (Aw Bcb rfl h4 rfl) 0 rfl rfl fun _ F => ?_
   obtain ⟨G1, h9, ha, hb, hc⟩ := SL.open_ (ps := [Blk g0 103 [.string ⟨⟨a200.Name⟩⟩, jI a200.Ar1, v200_2]]) (rest := []) s2
   refine ATb (args := [.tmp 15]) F Bwe rfl rfl (Bjc (a0 := x0) (a1 := (⟨a200.Name, a200.Ar1, a200.Fields⟩ : Abi)) h9 (h7.pass s2 ha) (hr200_2.pass s2 ha) h8) rfl fun v2 w1 _ hd F => ?_
   obtain ⟨rfl, he⟩ := hd
   have s3 := hc _ _ he
   refine gw 2 F rfl fun _ F => gif F H 13 7 rfl rfl rfl (fun hf H _ F => ?_) (fun hf H _ F => ?_)
   ·cases H
    obtain rfl := hr _ rfl
    replace H := R0
    try dsimp only at H
    cases H
    exact rt F ⟨rfl, s3⟩
   cases H
   exact ⟨_, rfl, F.sb, s3⟩
  cases H
  obtain rfl := hr _ rfl
  exact ⟨_, rfl, F.sb, s2⟩
 intro _ w2 hJ
 obtain ⟨p0, rfl, F, s4⟩ := hJ
 have H := R0
 clear R0 H0
 try dsimp only at H
 cases H
 exact ge 7 F rfl fun _ F => rt F ⟨rfl, s4⟩
theorem AT2 {w : World} {FF : List Nat} {g0 : Nat} {v0 v200_2 : Value} {a0 : List Abi} {a200 : Abi} {r : Bool} (hst : Aru [Blk g0 103 [.string ⟨⟨a200.Name⟩⟩, jI a200.Ar1, v200_2]] w FF) (hr0 : Rd Aef w FF v0 a0) (hr200_2 : Rd AG5 w FF v200_2 a200.Fields) (H : AFj a0 a200 = some r) :
    Calls prog 154 #[v0, clo 155 [jP g0]] w (Ret fun u_ w_ => u_ = .bool r ∧ SL w FF w_ [Blk g0 103 [.string ⟨⟨a200.Name⟩⟩, jI a200.Ar1, v200_2]]) := by
 have s0 : SL w FF w [Blk g0 103 [.string ⟨⟨a200.Name⟩⟩, jI a200.Ar1, v200_2]] := SL.init w FF hst
 refine cin func154 ntmps154 9 rfl rfl rfl fun _ F => ?_
 unfold AFj at H
 obtain ⟨x0, h0, H⟩ := Aa H
 obtain ⟨G0, h1, h2, h3, h4⟩ := SL.open_ (ps := [Blk g0 103 [.string ⟨⟨a200.Name⟩⟩, jI a200.Ar1, v200_2]]) (rest := []) s0
 refine std F (AUr (a200 := (⟨a200.Name, a200.Ar1, a200.Fields⟩ : Abi)) h1 (hr0.pass s0 h2) (hr200_2.pass s0 h2) h0) fun v1 w0 _ h5 F => ?_
 obtain ⟨rfl, h6⟩ := h5
 have s1 := h4 _ _ h6
 cases H
 exact gw 5 F rfl fun _ F => rt F ⟨rfl, s1⟩
theorem Bm2 {w : World} {v0 : Value} {a0 : List Abi} {a1 : UInt8} {r : Bool} (hr0 : Rd Aef w [] v0 a0) (H : AYs a0 a1 = some r) :
    Calls prog 181 #[v0, jU (a1.toNat : Int)] w (Ret fun u_ w_ => u_ = .bool r ∧ SL w [] w_ []) := by
 have s0 : SL w [] w [] := SL.Aq9 w
 refine cin func181 ntmps181 10 rfl rfl rfl fun _ F => ?_
 unfold AYs at H
 refine bsp 7 F H (fun h0 H F => ?_) (fun h0 H F => ?_)
 ·cases H
  exact gw 21 F rfl fun _ F => rt F ⟨rfl, s0⟩
 refine gw 4 F rfl fun _ F => bsp 11 F H (fun h1 H F => ?_) (fun h1 H F => ?_)
 ·cases H
  exact gw 17 F rfl fun _ F => rt F ⟨rfl, s0⟩
 refine gw 4 F rfl fun _ F => bsp 15 F H (fun h2 H F => ?_) (fun h2 H F => ?_)
 ·cases H
  exact gw 13 F rfl fun _ F => rt F ⟨rfl, s0⟩
 refine gw 4 F rfl fun _ F => bsp 19 F H (fun h3 H F => ?_) (fun h3 H F => ?_)
 ·cases H
  exact gw 9 F rfl fun _ F => rt F ⟨rfl, s0⟩
 obtain ⟨x0, h4, H⟩ := Aa H
 refine gw 2 F rfl fun _ F => Afv F rfl rfl <| gca F s0 (ASy (hr0.Ajq s0) h4) 6 rfl rfl rfl rfl fun w0 _ F s1 => ?_
 cases H
 exact rt F ⟨rfl, s1⟩
theorem Bhf {w : World} {FF : List Nat} {g1 g2 : Nat} {v1_0 v2_0 : Value} {a0 : Int} {a1 : List Abi} {a2 : List (List UInt8)} {r : Bool × (List (List UInt8))} (hst : Aru [Blk g1 22 [v1_0], Blk g2 218 [v2_0], Sl Ty.str v2_0 a2] w FF) (hr1_0 : Rd Aef w FF v1_0 a1) (H : AUw a0 a1 a2 = some r) :
    Calls prog 180 #[jI a0, jP g1, jP g2] w (Ret fun u_ w_ => ∃ u0 : Value, u_ = .bool r.1 ∧ SL w FF w_ [Blk g1 22 [v1_0], Blk g2 218 [u0], Sl Ty.str u0 r.2]) := by
 have s0 : SL w FF w [Blk g1 22 [v1_0], Blk g2 218 [v2_0], Sl Ty.str v2_0 a2] := SL.init w FF hst
 refine cin func180 ntmps180 8 rfl rfl rfl fun _ F2 => ?_
 unfold AUw at H
 obtain ⟨x0, h0, H⟩ := Aa H
 obtain ⟨a3, c0, G0, h1, h2, h3, h4⟩ := Rd.idx hr1_0 AOf rfl h0
 obtain ⟨v0, rfl, h5⟩ := (ALt h3 h4)
 replace h2 := h2 _ _ s0
 refine gld F2 s0 m0 1 rfl fun _ F => gi F h1 0 rfl fun _ F => gx F (Ba AXb rfl) 0 rfl rfl fun _ F => gx F (Ao AYn rfl (Aqa.at_ h2 (o := 2) rfl)) 0 rfl rfl fun _ F => ?_
 obtain ⟨o0, H0, R0⟩ := Aa H
 clear H
 refine gx F (Ak rfl underlying101 (fR h5 s0)) 3 rfl rfl fun _ F => At9 (fun a w_ => ∃ v1 : Value, Fr a 23 [] ∧ SL w FF w_ [Blk g1 22 [v1_0], Blk g2 218 [v1], Sl Ty.str v1 o0]) ?_ ?_
 ·have H := H0
  refine gc 1 F rfl fun _ F => lpk (AQq x0) (fun s1 a w_ => ∃ v2 : Value, Fr a 23 [(2, jP g2), (11, v0), (12, jI (x0.Fields.length : Int)), (13, jI s1.2)] ∧ SL w FF w_ [Blk g1 22 [v1_0], Blk g2 218 [v2], Sl Ty.str v2 s1.1]) H ?_ ?_
  ·exact ⟨v2_0, F.sb, s0⟩
  intro s1 _ w0 h6 o1 H hr
  obtain ⟨v2, F, s2⟩ := h6
  replace H : AQq x0 s1 = some o1 := H
  unfold AQq at H
  refine gc 6 F rfl fun _ F => gif F H 6 4 rfl rfl rfl (fun h7 H _ F => ?_) (fun h7 H _ F => ?_)
  ·obtain ⟨x1, h8, H⟩ := Aa H
   obtain ⟨a4, h9, ha⟩ := AT7 AOt (Bl h5 s2) ASm rfl h8
   refine gi F h9 0 rfl fun _ F => gx F (Aw Bca rfl ha rfl) 0 rfl rfl fun _ F => Af F s2 Bfs rfl rfl fun g0 w1 _ F s3 => Ah F s3 rfl rfl Bk3 (Ab rfl (Ab rfl Ap)) (Ac rfl) fun w2 _ F s4 => gw 3 F rfl fun _ F => gld F s4 m2 1 rfl fun _ F => gld F s4 m0 0 rfl fun _ F => ?_
   refine Ae (parts := [(0, .tmp 19)]) Flat.str ([x1.Name] : List (List UInt8)) F s4 Bbk rfl (by decide) rfl rfl rfl (by simp [Value.cells]) rfl rfl rfl fun v3 w3 _ F s5 => ?_
   obtain ⟨x2, hb, H⟩ := Aa H
   obtain ⟨_, hr_⟩ := (s5.f4.A59 m1)
   refine Av Flat.str F s5.f4 Bbk rfl rfl rfl rfl hr_ rfl rfl hb rfl fun v4 w4 _ F s6 => ?_
   have s3135' := s6.f1.drop
   have s7 := s3135'.f3
   refine Ay F s7 rfl rfl Bpd (Ag (fO s7 m1)) (Aq (fO s7 m1)) rfl fun w5 _ F s8 => ?_
   cases H
   exact gw 7 F rfl fun _ F => ⟨_, rfl, v4, F.sb, s8.f2.drop.f1.f1.f2⟩
  cases H
  obtain rfl := hr _ rfl
  exact ⟨v2, F.sb, s2⟩
 intro _ w6 hJ
 obtain ⟨v1, F, s9⟩ := hJ
 have H := R0
 clear R0 H0
 cases H
 exact ge 7 F rfl fun _ F => rt F ⟨v1, rfl, s9⟩
theorem Bc4 {w : World} {FF : List Nat} {g0 g1 : Nat} {v0 v300_0 v301_0 : Value} {a0 : List Abi} {a1 : Int} {a300 : List Abi} {a301 : List (List UInt8)} {r : (List (List UInt8))} (hst : Aru [Blk g0 22 [v300_0], Blk g1 218 [v301_0], Sl Ty.str v301_0 a301] w FF) (hr0 : Rd Aef w FF v0 a0) (hr300_0 : Rd Aef w FF v300_0 a300) (H : ARi a0 a1 a300 a301 = some r) :
    Calls prog 99 #[v0, jI a1, clo 180 [jP g0, jP g1]] w (Ret fun u_ w_ => ∃ u0 : Value, u_ = .tuple ⟨[]⟩ ∧ SL w FF w_ [Blk g0 22 [v300_0], Blk g1 218 [u0], Sl Ty.str u0 r]) := by
 have s0 : SL w FF w [Blk g0 22 [v300_0], Blk g1 218 [v301_0], Sl Ty.str v301_0 a301] := SL.init w FF hst
 refine cin func99 ntmps99 0 rfl rfl rfl fun _ F0 => ?_
 unfold ARi at H
 obtain ⟨o0, H0, R0⟩ := Aa H
 clear H
 refine At9 (fun a w_ => ∃ p0 : (List (List UInt8)), o0 = .inr (p0) ∧ ∃ v1 : Value, Fr a 29 [] ∧ SL w FF w_ [Blk g0 22 [v300_0], Blk g1 218 [v1], Sl Ty.str v1 p0]) ?_ ?_
 ·have H := H0
  refine gc 1 F0 rfl fun _ F0 => lpk (AN6 a0 a300) (fun s1 a w_ => ∃ v2 : Value, Fr a 29 [(0, v0), (1, jI s1.2), (2, clo 180 [jP g0, jP g1])] ∧ SL w FF w_ [Blk g0 22 [v300_0], Blk g1 218 [v2], Sl Ty.str v2 s1.1]) H ?_ ?_
  ·exact ⟨v301_0, F0.sb, s0⟩
  intro s1 _ w0 h0 o1 H hr
  obtain ⟨v2, F, s2⟩ := h0
  replace H : AN6 a0 a300 s1 = some o1 := H
  unfold AN6 at H
  refine gc 6 F rfl fun _ F => bsp 9 F H (fun h1 H F => ?_) (fun h1 H F => ?_)
  ·refine gw 2 F rfl fun _ F => Afv F rfl rfl <| gx F (Ak rfl underlying22 (fR hr0 s2)) 3 rfl rfl fun _ F => bsp 15 F H (fun h2 H F => ?_) (fun h2 H F => ?_)
   ·obtain ⟨x0, h3, H⟩ := Aa H
    refine gw 2 F rfl fun _ F => Afv F rfl rfl ?_
    obtain ⟨G0, h4, h5, h6, h7⟩ := SL.open_ (ps := [Blk g0 22 [v300_0], Blk g1 218 [v2], Sl Ty.str v2 s1.1]) (rest := []) s2.f2.f2.f2
    refine ATb (args := [.tmp 17]) F Bx3 rfl rfl (Bhf (a0 := s1.2) (a1 := a300) (a2 := s1.1) h4 (hr300_0.pass s2.f2.f2.f2 h5) h3) rfl fun v3 w1 _ h8 F => ?_
    obtain ⟨v4, rfl, h9⟩ := h8
    have s3 := h7 _ _ h9
    refine gw 3 F rfl fun _ F => gif F H 5 4 rfl rfl rfl (fun ha H _ F => ?_) (fun ha H _ F => ?_)
    ·obtain ⟨x1, hb, H⟩ := Aa H
     obtain ⟨a3, c0, G1, hc, hd, he, hf⟩ := Rd.idx hr0 AOf rfl hb
     obtain ⟨v5, rfl, hg⟩ := (ALt he hf)
     replace hd := hd _ _ s3
     refine gw 2 F rfl fun _ F => gi F hc 0 rfl fun _ F => gx F (Ba ATe rfl) 0 rfl rfl fun _ F => gx F (Ao AAd rfl (Aqa.at_ hd (o := 1) rfl)) 11 rfl rfl fun _ F => gif F H 6 7 rfl rfl rfl (fun hh H _ F => ?_) (fun hh H _ F => ?_)
     ·cases H
      obtain rfl := hr _ rfl
      replace H := R0
      try dsimp only at H
      cases H
      exact rt F ⟨v4, rfl, s3⟩
     cases H
     exact ⟨_, rfl, v4, F.sb, s3⟩
    cases H
    obtain rfl := hr _ rfl
    exact ⟨_, rfl, v4, F.sb, s3⟩
   cases H
   obtain rfl := hr _ rfl
   exact gw 11 F rfl fun _ F => ⟨_, rfl, v2, F.sb, s2⟩
  cases H
  obtain rfl := hr _ rfl
  exact gw 17 F rfl fun _ F => ⟨_, rfl, v2, F.sb, s2⟩
 intro _ w2 hJ
 obtain ⟨p0, rfl, v1, F, s4⟩ := hJ
 have H := R0
 clear R0 H0
 try dsimp only at H
 cases H
 exact Bi2 F (by rfl) ⟨_, rfl, ⟨v1, rfl, s4⟩⟩
theorem Bmt {w : World} {v0 : Value} {a0 : List Abi} {a1 : Int} {r : Int} (hr0 : Rd Aef w [] v0 a0) (H : AX2 a0 a1 = some r) :
    Calls prog 156 #[v0, jI a1] w (Ret fun u_ w_ => u_ = jI r ∧ SL w [] w_ []) := by
 have s0 : SL w [] w [] := SL.Aq9 w
 refine cin func156 ntmps156 2 rfl rfl rfl fun _ F0 => ?_
 unfold AX2 at H
 refine Ar F0 s0 rfl (Ag (fR hr0 s0)) rfl fun g8 w9 _ F s1 => gw 5 F rfl fun _ F => Af F s1 Bs7 rfl rfl fun g0 w0 _ F s2 => ?_
 obtain ⟨x0, h0, H⟩ := Aa H
 obtain ⟨x1, h1, H⟩ := Aa H
 refine gw 3 F rfl fun _ F => AJp Aq8 s2.drop ?_
 obtain ⟨a2, c0, G0, h2, h3, h4, h5⟩ := Rd.idx hr0 AOf rfl h0
 obtain ⟨v1, rfl, h6⟩ := (ALt h4 h5)
 have hc144_ := h3; clear h3; have h3 := fun w_ (hC : SL w [] w_ [Blk g8 22 [v0]]) => hc144_ _ _ hC
 refine hq [0, 1, 2, 3, 4, 5, 6] F s2.drew.drop (QI.ld m0 rfl <| QI.ld m0 rfl <| QI.ev 1 rfl <| QI.ix h2 rfl <| QI.op rfl (fun _ hC => Ba ATe rfl) rfl <| QI.op rfl (fun _ hC => Ao AAd rfl (Aqa.at_ (h3 _ hC) (o := 1) rfl)) rfl <| QI.op rfl (fun _ hC => AR9 (cs := [.tmp 2, .tmp 5]) (vs := [jP g8, jP g0]) rfl) rfl <| QI.nil) (by kernel_rfl) fun _ F => ?_
 refine ho 7 rfl (by kernel_rfl) ?_
 have s3 := (SL.Axc (T := Ty.str) s2.drew).f1.f2
 obtain ⟨G1, h7, h8, h9, ha⟩ := SL.open_ (ps := [Blk g8 22 [v0], Blk g0 218 [.slice none 0 0], Sl Ty.str (.slice none 0 0) []]) (rest := []) s3
 refine std F (Bc4 (a300 := a0) (a301 := []) h7 (hr0.pass s3 h8) (hr0.pass s3 h8) h1) fun v2 w1 _ hb F => ?_
 obtain ⟨v3, rfl, hc⟩ := hb
 have s4 := ha _ _ hc
 refine gw 1 F rfl fun _ F => ⟨s4.f1.drop.f1.drop, ?_⟩
 refine ANu (by kernel_rfl) ?_
 obtain ⟨x2, hd, H⟩ := Aa H
 obtain ⟨a3, c1, G2, he, hf, hg, hh⟩ := Rd.idx hr0 AOf rfl hd
 refine ge 4 F rfl fun _ F => ?_
 obtain ⟨v4, rfl, hi⟩ := (ALt hg hh)
 replace hf := hf _ _ s4
 refine gld F s4 m0 1 rfl fun _ F => gi F he 0 rfl fun _ F => gx F (Ba AXb rfl) 0 rfl rfl fun _ F => gx F (Ao AYn rfl (Aqa.at_ hf (o := 2) rfl)) 0 rfl rfl fun _ F => ?_
 obtain ⟨o0, H0, R0⟩ := Aa H
 clear H
 refine gx F (Ak rfl underlying101 (fR hi s4)) 3 rfl rfl fun _ F => At9 (fun a w_ => ∃ p0 : (List (List UInt8)), o0 = .inr (p0) ∧ ∃ v5 : Value, Fr a 51 [(5, jP g0)] ∧ SL w [] w_ [Blk g0 218 [v5], Sl Ty.str v5 p0]) ?_ ?_
 ·have H := H0
  refine gc 1 F rfl fun _ F => lpk (ARq a0 x2) (fun s5 a w_ => ∃ v6 : Value, Fr a 51 [(2, jP g8), (5, jP g0), (20, v4), (21, jI (x2.Fields.length : Int)), (22, jI s5.2)] ∧ SL w [] w_ [Blk g8 22 [v0], Blk g0 218 [v6], Sl Ty.str v6 s5.1]) H ?_ ?_
  ·exact ⟨v3, F.sb, s4⟩
  intro s5 _ w2 hj o1 H hr
  obtain ⟨v6, F, s6⟩ := hj
  replace H : ARq a0 x2 s5 = some o1 := H
  unfold ARq at H
  refine gc 6 F rfl fun _ F => gif F H 6 4 rfl rfl rfl (fun hk H _ F => ?_) (fun hk H _ F => ?_)
  ·obtain ⟨x3, hl, H⟩ := Aa H
   obtain ⟨a4, hm, hn⟩ := AT7 AOt (Bl hi s6) ASm rfl hl
   refine gi F hm 0 rfl fun _ F => gx F (Aw Bca rfl hn rfl) 0 rfl rfl fun _ F => Af F s6 Bfs rfl rfl fun g1 w3 _ F s7 => Ah F s7 rfl rfl Bk3 (Ab rfl (Ab rfl Ap)) (Ac rfl) fun w4 _ F s8 => ?_
   obtain ⟨x4, hp, H⟩ := Aa H
   refine gw 7 F rfl fun _ F => gld F s8 m0 0 rfl fun _ F => gca F s8 (Bco hp) 4 rfl rfl rfl rfl fun w5 _ F s9 => gif F H 14 2 rfl rfl rfl (fun hs H _ F => ?_) (fun hs H _ F => ?_)
   ·cases H
    obtain rfl := hr _ rfl
    replace H := R0
    try dsimp only at H
    cases H
    exact rt F ⟨rfl, s9.drop.drop.drop.drop⟩
   obtain ⟨x5, ht, H⟩ := Aa H
   refine gld F s9 m2 1 rfl fun _ F => gld F s9 m0 0 rfl fun _ F => gca F s9 (AVg (s9.rd0 m3) ht) 3 rfl rfl rfl rfl fun w6 _ F sa => gif F H 14 2 rfl rfl rfl (fun hu H _ F => ?_) (fun hu H _ F => ?_)
   ·cases H
    obtain rfl := hr _ rfl
    replace H := R0
    try dsimp only at H
    cases H
    exact rt F ⟨rfl, sa.drop.drop.drop.drop⟩
   obtain ⟨x6, hv, H⟩ := Aa H
   refine gld F sa m1 1 rfl fun _ F => gld F sa m0 0 rfl fun _ F => gca F sa (Bm2 (hr0.Ajq sa) hv) 4 rfl rfl rfl rfl fun w7 _ F sc => gif F H 14 4 rfl rfl rfl (fun hw H _ F => ?_) (fun hw H _ F => ?_)
   ·cases H
    obtain rfl := hr _ rfl
    replace H := R0
    try dsimp only at H
    cases H
    exact rt F ⟨rfl, sc.drop.drop.drop.drop⟩
   refine gld F sc m2 1 rfl fun _ F => gld F sc m0 0 rfl fun _ F => ?_
   refine Ae (parts := [(0, .tmp 44)]) Flat.str ([x3.Name] : List (List UInt8)) F sc Bbk rfl (by decide) rfl rfl rfl (by simp [Value.cells]) rfl rfl rfl fun v7 w8 _ F sd => ?_
   obtain ⟨x7, hx, H⟩ := Aa H
   obtain ⟨_, hr_⟩ := (sd.f4.A59 m1)
   refine Av Flat.str F sd.f4 Bbk rfl rfl rfl rfl hr_ rfl rfl hx rfl fun v8 wa _ F se => ?_
   have s11752' := se.f1.drop
   have sf := s11752'.f3
   refine Ay F sf rfl rfl Bpd (Ag (fO sf m1)) (Aq (fO sf m1)) rfl fun wb _ F sg => ?_
   cases H
   exact gw 7 F rfl fun _ F => ⟨_, rfl, v8, F.sb, sg.f2.drop.f1.f1.f2⟩
  cases H
  obtain rfl := hr _ rfl
  exact ⟨_, rfl, v6, F.sb, s6.drop⟩
 intro _ wc hJ
 obtain ⟨p0, rfl, v5, F, sh⟩ := hJ
 have H := R0
 clear R0 H0
 try dsimp only at H
 refine ge 4 F rfl fun _ F => gld F sh m0 0 rfl fun _ F => gx F (Ak rfl underlying218 (fO sh m1)) 3 rfl rfl fun _ F => gif F H 7 8 rfl rfl rfl (fun hy H _ F => ?_) (fun hy H _ F => ?_)
 ·cases H
  exact rt F ⟨rfl, sh.drop.drop⟩
 cases H
 exact rt F ⟨rfl, sh.drop.drop⟩
theorem Bgo {w : World} {v0 : Value} {a0 : List Abi} {r : Int × Int} (hr0 : Rd Aef w [] v0 a0) (H : AXn a0 = some r) :
    Calls prog 127 #[v0] w (Ret fun u_ w_ => u_ = .tuple ⟨[jI r.1, jI r.2]⟩ ∧ SL w [] w_ []) := by
 have s0 : SL w [] w [] := SL.Aq9 w
 refine cin func127 ntmps127 10 rfl rfl rfl fun _ F => ?_
 unfold AXn at H
 obtain ⟨o0, H0, R0⟩ := Aa H
 clear H
 refine gx F (Ak rfl underlying22 (fR hr0 s0)) 3 rfl rfl fun _ F => At9 (fun a w_ => ∃ p0 : Unit, o0 = .inr (p0) ∧ Fr a 52 [] ∧ SL w [] w_ []) ?_ ?_
 ·have H := H0
  refine gc 1 F rfl fun _ F => lpk (ASe a0) (fun s1 a w_ => Fr a 52 [(0, v0), (7, v0), (8, jI (a0.length : Int)), (9, jI s1)] ∧ SL w [] w_ []) H ?_ ?_
  ·exact ⟨F.sb, s0⟩
  intro s1 _ w0 h0 o1 H hr
  obtain ⟨F, s2⟩ := h0
  replace H : ASe a0 s1 = some o1 := H
  unfold ASe at H
  refine gc 6 F rfl fun _ F => gif F H 6 4 rfl rfl rfl (fun h1 H _ F => ?_) (fun h1 H _ F => ?_)
  ·obtain ⟨x0, h2, H⟩ := Aa H
   obtain ⟨a1, c0, G0, h3, h4, h5, h6⟩ := Rd.idx hr0 AOf rfl h2
   obtain ⟨v1, rfl, h7⟩ := (ALt h5 h6)
   replace h4 := h4 _ _ s2
   refine gw 1 F rfl fun _ F => gi F h3 0 rfl fun _ F => gx F (Aw Bcb rfl h4 rfl) 0 rfl rfl fun _ F => Af F s2 Bc2 rfl rfl fun g0 w1 _ F s3 => gw 1 F rfl fun _ F => Ah F s3 rfl rfl Bfz (Ab rfl (Ab rfl (Ab (Aq (fR h7 s3)) Ap))) (Ac rfl) fun w2 _ F s4 => ?_
   obtain ⟨o2, H1, R1⟩ := Aa H
   clear H
   refine gw 8 F rfl fun _ F => At9 (fun a w_ => Fr a 52 [(0, v0), (4, jI s1), (6, jI o2), (7, v0), (8, jI (a0.length : Int)), (9, jI s1)] ∧ SL w [] w_ []) ?_ ?_
   ·have H := H1
    refine gc 8 F rfl fun _ F => gif F H 4 1 rfl rfl rfl (fun h8 H _ F => ?_) (fun h8 H _ F => ?_)
    ·cases H
     exact ⟨F.sb, s4.drop⟩
    obtain ⟨x1, h9, H⟩ := Aa H
    refine Be (!x1) (fun ha => ?_) (fun ha => ?_)
    ·replace H := AZv ha H
     refine AJp Aq8 s4 ?_
     refine hq [0, 1] F s4.drew (QI.ev 1 rfl <| QI.ld m0 rfl <| QI.nil) (by kernel_rfl) fun _ F => ?_
     refine ho 2 rfl (by kernel_rfl) ?_
     refine gca F s4.drew (Bco h9) 1 rfl rfl rfl rfl fun w3 _ F s5 => ⟨s5, ?_⟩
     refine hq [3, 4, 5, 6, 7, 8, 9, 10] F s5 (QI.ev 2 rfl <| QI.kn (dj := 25) rfl ha <| QI.ev 6 rfl <| QI.nil) (by kernel_rfl) fun _ F => ?_
     refine ANu (by kernel_rfl) ?_
     cases H
     exact ge 6 F rfl fun _ F => ⟨F.sb, s5.drop⟩
    replace H := AZy ha H
    obtain ⟨x2, hb, H⟩ := Aa H
    obtain ⟨x3, hc, H⟩ := Aa H
    refine AJp Aq8 s4 ?_
    refine hq [0, 1] F s4.drew (QI.ev 1 rfl <| QI.ld m0 rfl <| QI.nil) (by kernel_rfl) fun _ F => ?_
    refine ho 2 rfl (by kernel_rfl) ?_
    refine gca F s4.drew (Bco h9) 1 rfl rfl rfl rfl fun w4 _ F s6 => ⟨s6, ?_⟩
    refine hq [3, 4, 6, 7] F s6 (QI.ev 2 rfl <| QI.kn (dj := 25) rfl ha <| QI.ev 1 rfl <| QI.gop rfl (fun _ hC => Ao AUt rfl (hC.AQ9 m0 rfl)) rfl rfl rfl rfl rfl <| QI.nil) (by kernel_rfl) fun _ F => ?_
    refine ho 5 rfl (by kernel_rfl) ?_
    refine Afv F rfl rfl <| std F (Boy hb) fun v2 w5 _ hd F => ?_
    obtain ⟨_, rfl, he⟩ := hd
    have s7 := s6.add he
    refine gw 1 F rfl fun _ F => ⟨s7.drop, ?_⟩
    refine ho 8 rfl (by kernel_rfl) ?_
    refine Afv F rfl rfl <| gca F s7 (AVg (s7.rd0 m0) hc) 1 rfl rfl rfl rfl fun w6 _ F s8 => ⟨s8.drop, ?_⟩
    refine hq [9, 10] F s8.drop (QI.ev 2 rfl <| QI.nil) (by kernel_rfl) fun _ F => ?_
    refine ANu (by kernel_rfl) ?_
    refine ge 1 F rfl fun _ F => gif F H 4 4 rfl rfl rfl (fun hf H _ F => ?_) (fun hf H _ F => ?_)
    ·cases H
     exact ⟨F.sb, s8.drop.drop⟩
    obtain ⟨x4, hg, H⟩ := Aa H
    obtain ⟨v3, hh, hi⟩ := Rd.cut hr0 AOf rfl hg none (some s1) (.inr ⟨rfl, rfl⟩) (.inl rfl)
    obtain ⟨x5, hj, H⟩ := Aa H
    refine gx F (hh _ _ _ _ _ .i64 .i64 _ _ _ _ _ rfl trivial rfl) 0 rfl rfl fun _ F => gx F (AR9 (cs := [.tmp 5]) (vs := [jP g0]) rfl) 0 rfl rfl fun _ F => ?_
    obtain ⟨G1, hk, hl, hm, hn⟩ := SL.open_ (ps := [Blk g0 103 [.string ⟨⟨x0.Name⟩⟩, jI x0.Ar1, v1]]) (rest := [Sl Ty.str v2 x2]) s8.f1
    refine std F (AT2 (a200 := (⟨x0.Name, x0.Ar1, x0.Fields⟩ : Abi)) hk (hi.pass s8.f1 hl) (h7.pass s8.f1 hl) hj) fun v4 w7 _ hp F => ?_
    obtain ⟨rfl, hs⟩ := hp
    have s9 := hn _ _ hs
    refine gw 3 F rfl fun _ F => gif F H 4 3 rfl rfl rfl (fun ht H _ F => ?_) (fun ht H _ F => ?_)
    ·cases H
     exact ⟨F.sb, s9.drop.drop⟩
    refine gld F s9 m0 2 rfl fun _ F => bsp 41 F H (fun hu H F => ?_) (fun hu H F => ?_)
    ·cases H
     exact gw 13 F rfl fun _ F => ⟨F.sb, s9.drop.drop⟩
    refine gw 1 F rfl fun _ F => Afv F rfl rfl <| gld F s9 m0 6 rfl fun _ F => gif F H 4 3 rfl rfl rfl (fun hv H _ F => ?_) (fun hv H _ F => ?_)
    ·cases H
     exact ⟨F.sb, s9.drop.drop⟩
    obtain ⟨x6, hw, H⟩ := Aa H
    refine gca F s9 (Bmt (hr0.Ajq s9) hw) 3 rfl rfl rfl rfl fun w8 _ F sa => ?_
    cases H
    exact ⟨F.sb, sa.drop.drop⟩
   intro _ w9 hJ
   obtain ⟨F, sc⟩ := hJ
   have H := R1
   clear R1 H1
   refine ge 7 F rfl fun _ F => gif F H 15 7 rfl rfl rfl (fun hx H _ F => ?_) (fun hx H _ F => ?_)
   ·cases H
    obtain rfl := hr _ rfl
    replace H := R0
    try dsimp only at H
    cases H
    exact rt F ⟨rfl, sc⟩
   cases H
   exact ⟨_, rfl, F.sb, sc⟩
  cases H
  obtain rfl := hr _ rfl
  exact ⟨_, rfl, F.sb, s2⟩
 intro _ wa hJ
 obtain ⟨p0, rfl, F, sd⟩ := hJ
 have H := R0
 clear R0 H0
 try dsimp only at H
 cases H
 exact ge 8 F rfl fun _ F => rt F ⟨rfl, sd⟩
theorem Bna {w : World} {v0 : Value} {a0 : List Abi} {a1 : UInt8} {r : Bool} (hr0 : Rd Aef w [] v0 a0) (H : AYk a0 a1 = some r) :
    Calls prog 129 #[v0, jU (a1.toNat : Int)] w (Ret fun u_ w_ => u_ = .bool r ∧ SL w [] w_ []) := by
 have s0 : SL w [] w [] := SL.Aq9 w
 refine cin func129 ntmps129 9 rfl rfl rfl fun _ F => ?_
 unfold AYk at H
 obtain ⟨x0, h0, H⟩ := Aa H
 refine gca F s0 (ASx (hr0.Ajq s0) h0) 1 rfl rfl rfl rfl fun w0 _ F s1 => bsp 8 F H (fun h1 H F => ?_) (fun h1 H F => ?_)
 ·refine gw 4 F rfl fun _ F => bsp 12 F H (fun h2 H F => ?_) (fun h2 H F => ?_)
  ·cases H
   exact gw 7 F rfl fun _ F => rt F ⟨rfl, s1⟩
  cases H
  exact gw 7 F rfl fun _ F => rt F ⟨rfl, s1⟩
 cases H
 exact gw 11 F rfl fun _ F => rt F ⟨rfl, s1⟩
theorem Bd3 {w : World} {FF : List Nat} {g1 : Nat} {v1_0 v1_1 : Value} {a0 : UInt8} {a1 : Adb} {r : Bool} (hst : Aru [Blk g1 110 [v1_0, v1_1, jI a1.Fn]] w FF) (hr1_0 : Rd Aef w FF v1_0 a1.Classes) (hr1_1 : Rd Ate w FF v1_1 a1.Akq) (H : AVk a0 a1 = some r) :
    Calls prog 128 #[jU (a0.toNat : Int), jP g1] w (Ret fun u_ w_ => u_ = .bool r ∧ SL w FF w_ [Blk g1 110 [v1_0, v1_1, jI a1.Fn]]) := by
 have s0 : SL w FF w [Blk g1 110 [v1_0, v1_1, jI a1.Fn]] := SL.init w FF hst
 refine cin func128 ntmps128 8 rfl rfl rfl fun _ F => ?_
 unfold AVk at H
 obtain ⟨x0, h0, H⟩ := Aa H
 refine gld F s0 m0 1 rfl fun _ F => gca F s0 (Bna (hr1_0.Ajq s0) h0) 5 rfl rfl rfl rfl fun w0 _ F s1 => ?_
 cases H
 exact rt F ⟨rfl, s1⟩
theorem AVt {w : World} {FF : List Nat} {g0 : Nat} {v0 v200_0 v200_1 : Value} {a0 : List UInt8} {a200 : Adb} {r : Int} (hst : Aru [Blk g0 110 [v200_0, v200_1, jI a200.Fn]] w FF) (hr0 : Rd Ty.u8 w FF v0 a0) (hr200_0 : Rd Aef w FF v200_0 a200.Classes) (hr200_1 : Rd Ate w FF v200_1 a200.Akq) (H : ANy a0 a200 = some r) :
    Calls prog 157 #[v0, clo 128 [jP g0]] w (Ret fun u_ w_ => u_ = jI r ∧ SL w FF w_ [Blk g0 110 [v200_0, v200_1, jI a200.Fn]]) := by
 have s0 : SL w FF w [Blk g0 110 [v200_0, v200_1, jI a200.Fn]] := SL.init w FF hst
 refine cin func157 ntmps157 9 rfl rfl rfl fun _ F => ?_
 unfold ANy at H
 obtain ⟨o0, H0, R0⟩ := Aa H
 clear H
 refine gx F (Ak rfl underlying47 (fR hr0 s0)) 3 rfl rfl fun _ F => At9 (fun a w_ => ∃ p0 : Unit, o0 = .inr (p0) ∧ Fr a 19 [] ∧ SL w FF w_ [Blk g0 110 [v200_0, v200_1, jI a200.Fn]]) ?_ ?_
 ·have H := H0
  refine gc 1 F rfl fun _ F => lpk (A7p a0 a200) (fun s1 a w_ => Fr a 19 [(0, v0), (1, clo 128 [jP g0]), (7, jI (a0.length : Int)), (8, jI s1)] ∧ SL w FF w_ [Blk g0 110 [v200_0, v200_1, jI a200.Fn]]) H ?_ ?_
  ·exact ⟨F.sb, s0⟩
  intro s1 _ w0 h0 o1 H hr
  obtain ⟨F, s2⟩ := h0
  replace H : A7p a0 a200 s1 = some o1 := H
  unfold A7p at H
  refine gc 6 F rfl fun _ F => gif F H 15 4 rfl rfl rfl (fun h1 H _ F => ?_) (fun h1 H _ F => ?_)
  ·obtain ⟨x0, h2, H⟩ := Aa H
   obtain ⟨a2, h3, h4⟩ := AT7 Flat.u8 (Bl hr0 s2) Aqg rfl h2
   obtain ⟨x1, h5, H⟩ := Aa H
   refine gi F h3 0 rfl fun _ F => gx F (Ao Aw9 rfl (Aqa.at_ h4 (o := 0) rfl)) 0 rfl rfl fun _ F => ?_
   obtain ⟨G0, h6, h7, h8, h9⟩ := SL.open_ (ps := [Blk g0 110 [v200_0, v200_1, jI a200.Fn]]) (rest := []) s2
   refine ATb (args := [.tmp 15]) F Bp4 rfl rfl (Bd3 (a0 := x0) (a1 := (⟨a200.Classes, a200.Akq, a200.Fn⟩ : Adb)) h6 (hr200_0.pass s2 h7) (hr200_1.pass s2 h7) h5) rfl fun v1 w1 _ ha F => ?_
   obtain ⟨rfl, hb⟩ := ha
   have s3 := h9 _ _ hb
   refine gw 2 F rfl fun _ F => gif F H 13 7 rfl rfl rfl (fun hc H _ F => ?_) (fun hc H _ F => ?_)
   ·cases H
    obtain rfl := hr _ rfl
    replace H := R0
    try dsimp only at H
    cases H
    exact rt F ⟨rfl, s3⟩
   cases H
   exact ⟨_, rfl, F.sb, s3⟩
  cases H
  obtain rfl := hr _ rfl
  exact ⟨_, rfl, F.sb, s2⟩
 intro _ w2 hJ
 obtain ⟨p0, rfl, F, s4⟩ := hJ
 have H := R0
 clear R0 H0
 try dsimp only at H
 cases H
 exact ge 7 F rfl fun _ F => rt F ⟨rfl, s4⟩
theorem AU8 {w : World} {FF : List Nat} {g0 : Nat} {v0 v200_0 v200_1 : Value} {a0 : List UInt8} {a200 : Adb} {r : Bool} (hst : Aru [Blk g0 110 [v200_0, v200_1, jI a200.Fn]] w FF) (hr0 : Rd Ty.u8 w FF v0 a0) (hr200_0 : Rd Aef w FF v200_0 a200.Classes) (hr200_1 : Rd Ate w FF v200_1 a200.Akq) (H : AGx a0 a200 = some r) :
    Calls prog 130 #[v0, clo 128 [jP g0]] w (Ret fun u_ w_ => u_ = .bool r ∧ SL w FF w_ [Blk g0 110 [v200_0, v200_1, jI a200.Fn]]) := by
 have s0 : SL w FF w [Blk g0 110 [v200_0, v200_1, jI a200.Fn]] := SL.init w FF hst
 refine cin func130 ntmps130 9 rfl rfl rfl fun _ F => ?_
 unfold AGx at H
 obtain ⟨x0, h0, H⟩ := Aa H
 obtain ⟨G0, h1, h2, h3, h4⟩ := SL.open_ (ps := [Blk g0 110 [v200_0, v200_1, jI a200.Fn]]) (rest := []) s0
 refine std F (AVt (a200 := (⟨a200.Classes, a200.Akq, a200.Fn⟩ : Adb)) h1 (hr0.pass s0 h2) (hr200_0.pass s0 h2) (hr200_1.pass s0 h2) h0) fun v1 w0 _ h5 F => ?_
 obtain ⟨rfl, h6⟩ := h5
 have s1 := h4 _ _ h6
 cases H
 exact gw 5 F rfl fun _ F => rt F ⟨rfl, s1⟩
theorem Brl {w : World} {v0_0 v0_1 : Value} {a0 : Adb} {a1 : Int} {r : Int} (hr0_0 : Rd Aef w [] v0_0 a0.Classes) (hr0_1 : Rd Ate w [] v0_1 a0.Akq) (H : Baa a0 a1 = some r) :
    Calls prog 103 #[.agg ⟨[v0_0, v0_1, jI a0.Fn]⟩, jI a1] w (Ret fun u_ w_ => u_ = jI r ∧ SL w [] w_ []) := by
 have s0 : SL w [] w [] := SL.Aq9 w
 refine cin func103 ntmps103 2 rfl rfl rfl fun _ F0 => ?_
 unfold Baa at H
 refine Ar F0 s0 rfl rfl rfl fun g8 w9 _ F s1 => ?_
 obtain ⟨x0, h0, H⟩ := Aa H
 refine gw 7 F rfl fun _ F => gld F s1 m0 0 rfl fun _ F => gca F s1 (Bgo (hr0_0.Ajq s1) h0) 13 rfl rfl rfl rfl fun w0 _ F s2 => gif F H 8 6 rfl rfl rfl (fun h1 H _ F => ?_) (fun h1 H _ F => ?_)
 ·cases H
  exact rt F ⟨rfl, s2.drop⟩
 refine gld F s2 m0 0 rfl fun _ F => gx F (Ak rfl underlying108 (fR hr0_1 s2)) 3 rfl rfl fun _ F => gif F H 7 6 rfl rfl rfl (fun h2 H _ F => ?_) (fun h2 H _ F => ?_)
 ·cases H
  exact rt F ⟨rfl, s2.drop⟩
 refine gld F s2 m0 0 rfl fun _ F => ?_
 obtain ⟨o0, H0, R0⟩ := Aa H
 clear H
 refine gx F (Ak rfl underlying108 (fR hr0_1 s2)) 3 rfl rfl fun _ F => At9 (fun a w_ => ∃ p0 : Unit, o0 = .inr (p0) ∧ Fr a 79 [(1, jI a1), (2, jP g8)] ∧ SL w [] w_ [Blk g8 110 [v0_0, v0_1, jI a0.Fn]]) ?_ ?_
 ·have H := H0
  refine gc 1 F rfl fun _ F => lpk (AWp a0) (fun s3 a w_ => Fr a 79 [(1, jI a1), (2, jP g8), (26, v0_1), (27, jI (a0.Akq.length : Int)), (28, jI s3)] ∧ SL w [] w_ [Blk g8 110 [v0_0, v0_1, jI a0.Fn]]) H ?_ ?_
  ·exact ⟨F.sb, s2⟩
  intro s3 _ w1 h3 o1 H hr
  obtain ⟨F, s4⟩ := h3
  replace H : AWp a0 s3 = some o1 := H
  unfold AWp at H
  refine gc 6 F rfl fun _ F => gif F H 6 4 rfl rfl rfl (fun h4 H _ F => ?_) (fun h4 H _ F => ?_)
  ·obtain ⟨x1, h5, H⟩ := Aa H
   obtain ⟨a2, c0, G0, h6, h7, h8, h9⟩ := Rd.idx hr0_1 APh rfl h5
   obtain ⟨v0, rfl, ha⟩ := (ARn h8 h9)
   replace h7 := h7 _ _ s4
   refine gi F h6 0 rfl fun _ F => gx F (Aw AV1 rfl h7 rfl) 0 rfl rfl fun _ F => Af F s4 AYi rfl rfl fun g0 w2 _ F s5 => Ah F s5 rfl rfl Bc8 (Ab (Aq (fR ha s5)) (Ab rfl Ap)) (Ac rfl) fun w3 _ F s6 => gw 6 F rfl fun _ F => gld F s6 m0 0 rfl fun _ F => gx F (Ak rfl underlying47 (fR ha s6)) 3 rfl rfl fun _ F => gif F H 13 4 rfl rfl rfl (fun hb H _ F => ?_) (fun hb H _ F => ?_)
   ·cases H
    obtain rfl := hr _ rfl
    replace H := R0
    try dsimp only at H
    cases H
    exact rt F ⟨rfl, s6.drop.drop⟩
   obtain ⟨x2, hc, H⟩ := Aa H
   refine gx F (AR9 (cs := [.tmp 2]) (vs := [jP g8]) rfl) 6 rfl rfl fun _ F => ?_
   obtain ⟨G1, hd, he, hf, hg⟩ := SL.open_ (ps := [Blk g8 110 [v0_0, v0_1, jI a0.Fn]]) (rest := [Blk g0 50 [v0, jU (x1.Result.toNat : Int)]]) s6.f1
   refine gld F s6 m0 1 rfl fun _ F => std F (AU8 (a200 := (⟨a0.Classes, a0.Akq, a0.Fn⟩ : Adb)) hd (ha.pass s6.f1 he) (hr0_0.pass s6.f1 he) (hr0_1.pass s6.f1 he) hc) fun v1 w4 _ hh F => ?_
   obtain ⟨rfl, hi⟩ := hh
   have s7 := hg _ _ hi
   refine gw 1 F rfl fun _ F => bsp 41 F H (fun hj H F => ?_) (fun hj H F => ?_)
   ·cases H
    obtain rfl := hr _ rfl
    replace H := R0
    try dsimp only at H
    cases H
    exact gw 25 F rfl fun _ F => rt F ⟨rfl, s7.drop.drop⟩
   refine gw 1 F rfl fun _ F => Afv F rfl rfl <| gld F s7 m1 2 rfl fun _ F => bsp 45 F H (fun hk H F => ?_) (fun hk H F => ?_)
   ·refine gw 2 F rfl fun _ F => Afv F rfl rfl <| gld F s7 m1 0 rfl fun _ F => ?_
    obtain ⟨x3, hl, H⟩ := Aa H
    refine Afv F rfl rfl ?_
    obtain ⟨G2, hm, hn, hp, hs⟩ := SL.open_ (ps := [Blk g8 110 [v0_0, v0_1, jI a0.Fn]]) (rest := [Blk g0 50 [v0, jU (x1.Result.toNat : Int)]]) s7
    refine ATb (args := [.tmp 48]) F Bp4 rfl rfl (Bd3 (a0 := x1.Result) (a1 := (⟨a0.Classes, a0.Akq, a0.Fn⟩ : Adb)) hm (hr0_0.pass s7 hn) (hr0_1.pass s7 hn) hl) rfl fun v2 w5 _ ht F => ?_
    obtain ⟨rfl, hu⟩ := ht
    have s8 := hs _ _ hu
    refine gw 4 F rfl fun _ F => gif F H 12 7 rfl rfl rfl (fun hv H _ F => ?_) (fun hv H _ F => ?_)
    ·cases H
     obtain rfl := hr _ rfl
     replace H := R0
     try dsimp only at H
     cases H
     exact rt F ⟨rfl, s8.drop.drop⟩
    cases H
    exact ⟨_, rfl, F.sb, s8.f1.drop⟩
   cases H
   exact gw 16 F rfl fun _ F => ⟨_, rfl, F.sb, s7.f1.drop⟩
  cases H
  obtain rfl := hr _ rfl
  exact ⟨_, rfl, F.sb, s4⟩
 intro _ w6 hJ
 obtain ⟨p0, rfl, F, s9⟩ := hJ
 have H := R0
 clear R0 H0
 try dsimp only at H
 refine ge 5 F rfl fun _ F => gld F s9 m0 2 rfl fun _ F => bsp 56 F H (fun hw H F => ?_) (fun hw H F => ?_)
 ·cases H
  exact gw 17 F rfl fun _ F => rt F ⟨rfl, s9.drop⟩
 refine gw 1 F rfl fun _ F => Afv F rfl rfl <| gld F s9 m0 1 rfl fun _ F => Afv F rfl rfl <| gld F s9 m0 0 rfl fun _ F => Afv F rfl rfl <| gx F (Ak rfl underlying108 (fR hr0_1 s9)) 4 rfl rfl fun _ F => gif F H 7 3 rfl rfl rfl (fun hx H _ F => ?_) (fun hx H _ F => ?_)
 ·cases H
  exact rt F ⟨rfl, s9.drop⟩
 obtain ⟨x4, hy, H⟩ := Aa H
 obtain ⟨x5, hz, H⟩ := Aa H
 refine AJp Aq8 s9 ?_
 have sa := s9.drew
 obtain ⟨a3, c1, G3, h10, h11, h12, h13⟩ := Rd.idx hr0_1 APh rfl hy
 obtain ⟨v3, rfl, h14⟩ := (ARn h12 h13)
 have hc6746_ := h11; clear h11; have h11 := fun w_ (hC : SL w [] w_ [Blk g8 110 [v0_0, v0_1, jI a0.Fn]]) => hc6746_ _ _ hC
 refine hq [0, 1, 2, 3, 4, 5, 6, 7, 8, 9] F sa (QI.ev 1 rfl <| QI.ld m0 rfl <| QI.ev 1 rfl <| QI.ld m0 rfl <| QI.ev 1 rfl <| QI.ld m0 rfl <| QI.ix h10 rfl <| QI.op rfl (fun _ hC => Ba Bad rfl) rfl <| QI.op rfl (fun _ hC => Ao AZ0 rfl (Aqa.at_ (h11 _ hC) (o := 0) rfl)) rfl <| QI.ev 1 rfl <| QI.nil) (by kernel_rfl) fun _ F => ?_
 refine ANb [0, 1, 2, 3, 4, 5, 6, 7, 8, 9, 10, 11, 12, 13, 14, 15] (fun a w_ => ∃ g1 : Nat, Fr a 79 [(77, jI x5.2)] ∧ SL w [] w_ [Blk g8 110 [v0_0, v0_1, jI a0.Fn], Blk g1 118 (jI x5.1.Locals :: jI x5.1.Height :: ev8 x5.1.Slots)]) ?_ fun hD0 => ?_
 ·rintro a w_ ⟨g1, F, sc⟩
  refine hq [16] F sc.f1.drop (QI.ev 1 rfl <| QI.nil) (by kernel_rfl) fun _ F => ?_
  refine ANu (by kernel_rfl) ?_
  cases H
  exact ge 8 F rfl fun _ F => rt F ⟨rfl, sc.drop.drop⟩
 refine ho2 10 14 rfl rfl (by kernel_rfl) ?_ ?_
 ·refine gca F sa (AY0 (hr0_0.Ajq sa) (h14.Ajq sa) hz) 1 rfl rfl rfl rfl fun w7 _ F sd => ⟨sd, ?_⟩
  refine hq [11, 12, 13] F sd (QI.ev 3 rfl <| QI.nil) (by kernel_rfl) fun _ F => ?_
  refine ho 14 rfl (by kernel_rfl) ?_
  refine Af F sd Ajp rfl rfl fun g1 w8 _ F se => gw 1 F rfl fun _ F => ⟨se.drop, ?_⟩
  refine ho 15 rfl (by kernel_rfl) ?_
  refine Akj (ds := (jI x5.1.Locals :: jI x5.1.Height :: ev8 x5.1.Slots)) F se rfl rfl (by simpa using Amy) (Ab rfl (Ab rfl (Ape _))) (by simp) fun wa _ F sf => ?_
  exact gw 1 F rfl fun _ F => ⟨sf.drop, hto hD0 ⟨g1, F.sb, sf.f1⟩ (by kernel_rfl)⟩
 refine Af F sa Ajp rfl rfl fun g1 w8 _ F se => gw 1 F rfl fun _ F => ⟨se.drop, ?_⟩
 refine ho 10 rfl (by kernel_rfl) ?_
 refine gca F se (AY0 (hr0_0.Ajq se) (h14.Ajq se) hz) 1 rfl rfl rfl rfl fun w7 _ F sd => ⟨sd.drop, ?_⟩
 refine hq [11, 12, 13] F sd.drop (QI.ev 3 rfl <| QI.nil) (by kernel_rfl) fun _ F => ?_
 refine ho 15 rfl (by kernel_rfl) ?_
 refine Akj (ds := (jI x5.1.Locals :: jI x5.1.Height :: ev8 x5.1.Slots)) F sd rfl rfl (by simpa using Amy) (Ab rfl (Ab rfl (Ape _))) (by simp) fun wa _ F sf => ?_
 exact gw 1 F rfl fun _ F => ⟨sf.drop, hto hD0 ⟨g1, F.sb, sf.f1⟩ (by kernel_rfl)⟩
theorem Bgn {w : World} {a0 : UInt8} {r : Int × Int} (H : AXj a0 = some r) :
    Calls prog 76 #[jU (a0.toNat : Int)] w (Ret fun u_ w_ => u_ = .tuple ⟨[jI r.1, jI r.2]⟩ ∧ SL w [] w_ []) := by
 have s0 : SL w [] w [] := SL.Aq9 w
 refine cin func76 ntmps76 30 rfl rfl rfl fun _ F => ?_
 unfold AXj at H
 refine gif F H 23 4 rfl rfl rfl (fun h0 H _ F => ?_) (fun h0 H _ F => ?_)
 ·cases H
  exact rt F ⟨rfl, s0⟩
 obtain ⟨o0, H0, R0⟩ := Aa H
 clear H
 refine At9 (fun a w_ => Fr a 23 [(4, jU (a0.toNat : Int)), (7, .bool o0)] ∧ SL w [] w_ []) ?_ ?_
 ·have H := H0
  refine gc 6 F rfl fun _ F => gif F H 1 4 rfl rfl rfl (fun h1 H _ F => ?_) (fun h1 H _ F => ?_)
  ·cases H
   exact ⟨F.sb, s0⟩
  cases H
  exact ⟨F.sb, s0⟩
 intro _ w0 hJ
 obtain ⟨F, s1⟩ := hJ
 have H := R0
 clear R0 H0
 refine ge 1 F rfl fun _ F => gif F H 23 4 rfl rfl rfl (fun h2 H _ F => ?_) (fun h2 H _ F => ?_)
 ·cases H
  exact rt F ⟨rfl, s1⟩
 obtain ⟨o1, H1, R1⟩ := Aa H
 clear H
 refine At9 (fun a w_ => Fr a 23 [(4, jU (a0.toNat : Int)), (10, .bool o1)] ∧ SL w [] w_ []) ?_ ?_
 ·have H := H1
  refine gc 6 F rfl fun _ F => gif F H 1 4 rfl rfl rfl (fun h3 H _ F => ?_) (fun h3 H _ F => ?_)
  ·cases H
   exact ⟨F.sb, s1⟩
  cases H
  exact ⟨F.sb, s1⟩
 intro _ w1 hJ
 obtain ⟨F, s2⟩ := hJ
 have H := R1
 clear R1 H1
 refine ge 1 F rfl fun _ F => gif F H 23 4 rfl rfl rfl (fun h4 H _ F => ?_) (fun h4 H _ F => ?_)
 ·cases H
  exact rt F ⟨rfl, s2⟩
 obtain ⟨o2, H2, R2⟩ := Aa H
 clear H
 refine At9 (fun a w_ => Fr a 23 [(4, jU (a0.toNat : Int)), (13, .bool o2)] ∧ SL w [] w_ []) ?_ ?_
 ·have H := H2
  refine gc 6 F rfl fun _ F => gif F H 1 6 rfl rfl rfl (fun h5 H _ F => ?_) (fun h5 H _ F => ?_)
  ·cases H
   exact ⟨F.sb, s2⟩
  refine gif F H 1 4 rfl rfl rfl (fun h6 H _ F => ?_) (fun h6 H _ F => ?_)
  ·cases H
   exact ⟨F.sb, s2⟩
  cases H
  exact ⟨F.sb, s2⟩
 intro _ w2 hJ
 obtain ⟨F, s3⟩ := hJ
 have H := R2
 clear R2 H2
 refine ge 1 F rfl fun _ F => gif F H 23 3 rfl rfl rfl (fun h7 H _ F => ?_) (fun h7 H _ F => ?_)
 ·cases H
  exact rt F ⟨rfl, s3⟩
 obtain ⟨o3, H3, R3⟩ := Aa H
 clear H
 refine At9 (fun a w_ => Fr a 23 [(17, .bool o3)] ∧ SL w [] w_ []) ?_ ?_
 ·have H := H3
  refine gc 6 F rfl fun _ F => gif F H 1 6 rfl rfl rfl (fun h8 H _ F => ?_) (fun h8 H _ F => ?_)
  ·cases H
   exact ⟨F.sb, s3⟩
  refine gif F H 1 6 rfl rfl rfl (fun h9 H _ F => ?_) (fun h9 H _ F => ?_)
  ·cases H
   exact ⟨F.sb, s3⟩
  refine gif F H 1 6 rfl rfl rfl (fun ha H _ F => ?_) (fun ha H _ F => ?_)
  ·cases H
   exact ⟨F.sb, s3⟩
  refine gif F H 1 4 rfl rfl rfl (fun hb H _ F => ?_) (fun hb H _ F => ?_)
  ·cases H
   exact ⟨F.sb, s3⟩
  cases H
  exact ⟨F.sb, s3⟩
 intro _ w3 hJ
 obtain ⟨F, s4⟩ := hJ
 have H := R3
 clear R3 H3
 refine ge 1 F rfl fun _ F => gif F H 22 21 rfl rfl rfl (fun hc H _ F => ?_) (fun hc H _ F => ?_)
 ·cases H
  exact rt F ⟨rfl, s4⟩
 cases H
 exact rt F ⟨rfl, s4⟩
theorem AZk {w : World} {a0 : UInt8} {r : Int} (H : AVx a0 = some r) :
    Calls prog 74 #[jU (a0.toNat : Int)] w (Ret fun u_ w_ => u_ = jI r ∧ SL w [] w_ []) := by
 have s0 : SL w [] w [] := SL.Aq9 w
 refine cin func74 ntmps74 12 rfl rfl rfl fun _ F => ?_
 unfold AVx at H
 refine gif F H 7 5 rfl rfl rfl (fun h0 H _ F => ?_) (fun h0 H _ F => ?_)
 ·cases H
  exact rt F ⟨rfl, s0⟩
 obtain ⟨x0, h1, H⟩ := Aa H
 refine gca F s0 (Bgn h1) 17 rfl rfl rfl rfl fun w0 _ F s1 => ?_
 cases H
 exact rt F ⟨rfl, s1⟩
theorem Be6 {w : World} {FF : List Nat} {g0 g0_4 g0_5 g0_6 : Nat} {v0_0 v0_1 v0_3 : Value} {a0 : Ald} {a1 : Ads} {r : Bool × Ald} (hst : Aru [Blk g0 154 [v0_0, v0_1, jI a0.e.Fn, v0_3, .map (some g0_4), .map (some g0_5), .map (some g0_6), jI a0.A3i], Mp (Value.int .i64) (fun x : Aas => Value.agg ⟨(jI x.Locals :: jI x.Height :: ev8 x.Slots)⟩) g0_4 a0.frames, Mp (Value.int .i64) (fun _ : Unit => Value.agg ⟨[]⟩) g0_5 a0.fresh, Mp (Value.int .i64) (Value.int .i64) g0_6 a0.taken] w FF) (hr0_0 : Rd Aef w FF v0_0 a0.e.Classes) (hr0_1 : Rd Ate w FF v0_1 a0.e.Akq) (hr0_3 : Rd Ty.u8 w FF v0_3 a0.code) (H : AS7 a0 a1 = some r) :
    Calls prog 133 #[jP g0, .agg ⟨[jI a1.At, jU (a1.Op.toNat : Int), jI a1.A, jI a1.B]⟩] w (Ret fun u_ w_ => ∃ u0 u1 u2 : Value, u_ = .bool r.1 ∧ A3a Aef v0_0 a0.e.Classes u0 r.2.e.Classes ∧ A3a Ate v0_1 a0.e.Akq u1 r.2.e.Akq ∧ A3a Ty.u8 v0_3 a0.code u2 r.2.code ∧ SL w FF w_ [Blk g0 154 [u0, u1, jI r.2.e.Fn, u2, .map (some g0_4), .map (some g0_5), .map (some g0_6), jI r.2.A3i], Mp (Value.int .i64) (fun x : Aas => Value.agg ⟨(jI x.Locals :: jI x.Height :: ev8 x.Slots)⟩) g0_4 r.2.frames, Mp (Value.int .i64) (fun _ : Unit => Value.agg ⟨[]⟩) g0_5 r.2.fresh, Mp (Value.int .i64) (Value.int .i64) g0_6 r.2.taken]) := by
 have s0 : SL w FF w [Blk g0 154 [v0_0, v0_1, jI a0.e.Fn, v0_3, .map (some g0_4), .map (some g0_5), .map (some g0_6), jI a0.A3i], Mp (Value.int .i64) (fun x : Aas => Value.agg ⟨(jI x.Locals :: jI x.Height :: ev8 x.Slots)⟩) g0_4 a0.frames, Mp (Value.int .i64) (fun _ : Unit => Value.agg ⟨[]⟩) g0_5 a0.fresh, Mp (Value.int .i64) (Value.int .i64) g0_6 a0.taken] := SL.init w FF hst
 refine cin func133 ntmps133 2 rfl rfl rfl fun _ F0 => ?_
 unfold AS7 at H
 refine Ar F0 s0 rfl rfl rfl fun g8 w9 _ F s1 => gw 7 F rfl fun _ F => ?_
 obtain ⟨o0, H0, R0⟩ := Aa H
 clear H
 refine gld F s1 m0 3 rfl fun _ F => At9 (fun a w_ => ∃ p0 : (List (Int × Int)), o0 = .inr (p0) ∧ Fr a 43 [] ∧ SL w FF w_ [Blk g0 154 [v0_0, v0_1, jI a0.e.Fn, v0_3, .map (some g0_4), .map (some g0_5), .map (some g0_6), jI a0.A3i], Mp (Value.int .i64) (fun x : Aas => Value.agg ⟨(jI x.Locals :: jI x.Height :: ev8 x.Slots)⟩) g0_4 a0.frames, Mp (Value.int .i64) (fun _ : Unit => Value.agg ⟨[]⟩) g0_5 a0.fresh, Mp (Value.int .i64) (Value.int .i64) g0_6 p0]) ?_ ?_
 ·have H := H0
  refine gc 1 F rfl fun _ F => lpk (ANi a0 a1) (fun s2 a w_ => Fr a 43 [(0, jP g0), (3, jP g8), (5, jI s2.2)] ∧ SL w FF w_ [Blk g8 79 [jI a1.At, jU (a1.Op.toNat : Int), jI a1.A, jI a1.B], Blk g0 154 [v0_0, v0_1, jI a0.e.Fn, v0_3, .map (some g0_4), .map (some g0_5), .map (some g0_6), jI a0.A3i], Mp (Value.int .i64) (fun x : Aas => Value.agg ⟨(jI x.Locals :: jI x.Height :: ev8 x.Slots)⟩) g0_4 a0.frames, Mp (Value.int .i64) (fun _ : Unit => Value.agg ⟨[]⟩) g0_5 a0.fresh, Mp (Value.int .i64) (Value.int .i64) g0_6 s2.1]) H ?_ ?_
  ·exact ⟨F.sb, s1⟩
  intro s2 _ w0 h0 o1 H hr
  obtain ⟨F, s3⟩ := h0
  replace H : ANi a0 a1 s2 = some o1 := H
  unfold ANi at H
  obtain ⟨x0, h1, H⟩ := Aa H
  refine gc 2 F rfl fun _ F => ATo Aq8 s3 F (QR.ev 2 rfl <| QR.ld m0 rfl <| QR.ev 1 rfl <| QR.ld m0 rfl <| QR.call (args := [.tmp 14]) Bz0 rfl (fun _ hC => Bg (AZk (a0 := a1.Op) h1) hC) <| QR.ev 2 rfl <| Bb) fun w1 _ s4 F => ge 1 F rfl fun _ F => gif F H 10 4 rfl rfl rfl (fun h2 H _ F => ?_) (fun h2 H _ F => ?_)
  ·refine gld F s4 m1 1 rfl fun _ F => gx F (Blv (k := s2.2) (z0 := (0 : Int)) s4 m4 underlying152 AUo B06 rfl rfl) 11 rfl rfl fun _ F => bsp 30 F H (fun h3 H F => ?_) (fun h3 H F => ?_)
   ·refine gw 2 F rfl fun _ F => Afv F rfl rfl <| gld F s4 m0 4 rfl fun _ F => gif F H 13 2 rfl rfl rfl (fun h4 H _ F => ?_) (fun h4 H _ F => ?_)
    ·cases H
     obtain rfl := hr _ rfl
     replace H := R0
     try dsimp only at H
     cases H
     exact rt F ⟨v0_0, v0_1, v0_3, rfl, A3a.refl, A3a.refl, A3a.refl, s4.drop⟩
    refine AJp Aq8 s4.f4.drop ?_
    refine hq [0, 1, 2, 3, 4, 5, 6] F s4.drew.f4.drop (QI.ev 3 rfl <| QI.ld m1 rfl <| QI.ev 2 rfl <| QI.ld m0 rfl <| QI.nil) (by kernel_rfl) fun _ F => ?_
    refine ho 7 rfl (by kernel_rfl) ?_
    refine AZ8 (k := s2.2) (u := a1.At) F s4.drew.f4 underlying152 AUo rfl rfl rfl fun w2 _ F s5 => gw 1 F rfl fun _ F => ⟨s5.drop, ?_⟩
    refine ANu (by kernel_rfl) ?_
    cases H
    exact ge 7 F rfl fun _ F => ⟨_, rfl, F.sb, s5.f4.f4.f4.f4⟩
   refine gw 10 F rfl fun _ F => AJp Aq8 s4.f4.drop ?_
   refine hq [0, 1, 2, 3, 4, 5, 6] F s4.drew.f4.drop (QI.ev 3 rfl <| QI.ld m1 rfl <| QI.ev 2 rfl <| QI.ld m0 rfl <| QI.nil) (by kernel_rfl) fun _ F => ?_
   refine ho 7 rfl (by kernel_rfl) ?_
   refine AZ8 (k := s2.2) (u := a1.At) F s4.drew.f4 underlying152 AUo rfl rfl rfl fun w3 _ F s6 => gw 1 F rfl fun _ F => ⟨s6.drop, ?_⟩
   refine ANu (by kernel_rfl) ?_
   cases H
   exact ge 7 F rfl fun _ F => ⟨_, rfl, F.sb, s6.f4.f4.f4.f4⟩
  cases H
  obtain rfl := hr _ rfl
  exact ⟨_, rfl, F.sb, s4.drop⟩
 intro _ w4 hJ
 obtain ⟨p0, rfl, F, s7⟩ := hJ
 have H := R0
 clear R0 H0
 try dsimp only at H
 cases H
 exact ge 7 F rfl fun _ F => rt F ⟨v0_0, v0_1, v0_3, rfl, A3a.refl, A3a.refl, A3a.refl, s7⟩
theorem AZl {w : World} {FF : List Nat} {g1 : Nat} {v1_0 v1_1 : Value} {a0 : UInt8} {a1 : Adb} {r : Bool} (hst : Aru [Blk g1 110 [v1_0, v1_1, jI a1.Fn]] w FF) (hr1_0 : Rd Aef w FF v1_0 a1.Classes) (hr1_1 : Rd Ate w FF v1_1 a1.Akq) (H : ARb a0 a1 = some r) :
    Calls prog 182 #[jU (a0.toNat : Int), jP g1] w (Ret fun u_ w_ => u_ = .bool r ∧ SL w FF w_ [Blk g1 110 [v1_0, v1_1, jI a1.Fn]]) := by
 have s0 : SL w FF w [Blk g1 110 [v1_0, v1_1, jI a1.Fn]] := SL.init w FF hst
 refine cin func182 ntmps182 8 rfl rfl rfl fun _ F => ?_
 unfold ARb at H
 obtain ⟨x0, h0, H⟩ := Aa H
 refine gld F s0 m0 1 rfl fun _ F => gca F s0 (ASx (hr1_0.Ajq s0) h0) 1 rfl rfl rfl rfl fun w0 _ F s1 => bsp 8 F H (fun h1 H F => ?_) (fun h1 H F => ?_)
 ·refine gw 4 F rfl fun _ F => bsp 12 F H (fun h2 H F => ?_) (fun h2 H F => ?_)
  ·cases H
   exact gw 7 F rfl fun _ F => rt F ⟨rfl, s1⟩
  cases H
  exact gw 7 F rfl fun _ F => rt F ⟨rfl, s1⟩
 cases H
 exact gw 11 F rfl fun _ F => rt F ⟨rfl, s1⟩
theorem Bg6 {w : World} {v0_0 v0_1 : Value} {a0 : Adb} {r : Bool} (hr0_0 : Rd Aef w [] v0_0 a0.Classes) (hr0_1 : Rd Ate w [] v0_1 a0.Akq) (H : AVb a0 = some r) :
    Calls prog 159 #[.agg ⟨[v0_0, v0_1, jI a0.Fn]⟩] w (Ret fun u_ w_ => u_ = .bool r ∧ SL w [] w_ []) := by
 have s0 : SL w [] w [] := SL.Aq9 w
 refine cin func159 ntmps159 2 rfl rfl rfl fun _ F0 => ?_
 unfold AVb at H
 refine Ar F0 s0 rfl rfl rfl fun g8 w9 _ F s1 => ?_
 obtain ⟨x0, h0, H⟩ := Aa H
 refine gw 6 F rfl fun _ F => gld F s1 m0 0 rfl fun _ F => gca F s1 (Bgo (hr0_0.Ajq s1) h0) 13 rfl rfl rfl rfl fun w0 _ F s2 => bsp 18 F H (fun h1 H F => ?_) (fun h1 H F => ?_)
 ·cases H
  exact gw 28 F rfl fun _ F => rt F ⟨rfl, s2.drop⟩
 refine gw 1 F rfl fun _ F => Afv F rfl rfl <| gld F s2 m0 0 rfl fun _ F => Afv F rfl rfl <| gx F (Ak rfl underlying108 (fR hr0_1 s2)) 3 rfl rfl fun _ F => bsp 24 F H (fun h2 H F => ?_) (fun h2 H F => ?_)
 ·cases H
  exact gw 22 F rfl fun _ F => rt F ⟨rfl, s2.drop⟩
 refine gw 1 F rfl fun _ F => Afv F rfl rfl <| gld F s2 m0 3 rfl fun _ F => bsp 29 F H (fun h3 H F => ?_) (fun h3 H F => ?_)
 ·cases H
  exact gw 17 F rfl fun _ F => rt F ⟨rfl, s2.drop⟩
 refine gw 1 F rfl fun _ F => Afv F rfl rfl <| gld F s2 m0 1 rfl fun _ F => Afv F rfl rfl <| gld F s2 m0 0 rfl fun _ F => Afv F rfl rfl <| gx F (Ak rfl underlying108 (fR hr0_1 s2)) 4 rfl rfl fun _ F => gif F H 7 4 rfl rfl rfl (fun h4 H _ F => ?_) (fun h4 H _ F => ?_)
 ·cases H
  exact rt F ⟨rfl, s2.drop⟩
 refine gx F (AR9 (cs := [.tmp 1]) (vs := [jP g8]) rfl) 7 rfl rfl fun _ F => gld F s2 m0 0 rfl fun _ F => ?_
 obtain ⟨o0, H0, R0⟩ := Aa H
 clear H
 refine gx F (Ak rfl underlying108 (fR hr0_1 s2)) 3 rfl rfl fun _ F => At9 (fun a w_ => ∃ p0 : Unit, o0 = .inr (p0) ∧ Fr a 74 [] ∧ SL w [] w_ []) ?_ ?_
 ·have H := H0
  refine gc 1 F rfl fun _ F => lpk (ARv a0) (fun s3 a w_ => Fr a 74 [(5, clo 182 [jP g8]), (39, v0_1), (40, jI (a0.Akq.length : Int)), (41, jI s3)] ∧ SL w [] w_ [Blk g8 110 [v0_0, v0_1, jI a0.Fn]]) H ?_ ?_
  ·exact ⟨F.sb, s2⟩
  intro s3 _ w1 h5 o1 H hr
  obtain ⟨F, s4⟩ := h5
  replace H : ARv a0 s3 = some o1 := H
  unfold ARv at H
  refine gc 6 F rfl fun _ F => gif F H 6 4 rfl rfl rfl (fun h6 H _ F => ?_) (fun h6 H _ F => ?_)
  ·obtain ⟨x1, h7, H⟩ := Aa H
   obtain ⟨a2, c0, G0, h8, h9, ha, hb⟩ := Rd.idx hr0_1 APh rfl h7
   obtain ⟨v0, rfl, hc⟩ := (ARn ha hb)
   replace h9 := h9 _ _ s4
   refine gi F h8 0 rfl fun _ F => gx F (Aw AV1 rfl h9 rfl) 0 rfl rfl fun _ F => Af F s4 AYi rfl rfl fun g0 w2 _ F s5 => Ah F s5 rfl rfl Bc8 (Ab (Aq (fR hc s5)) (Ab rfl Ap)) (Ac rfl) fun w3 _ F s6 => ?_
   obtain ⟨o2, H1, R1⟩ := Aa H
   clear H
   refine gw 3 F rfl fun _ F => At9 (fun a w_ => ∃ p1 : Bool × Bool, o2 = .inr (p1) ∧ Fr a 74 [(5, clo 182 [jP g8]), (7, jP g0), (39, v0_1), (40, jI (a0.Akq.length : Int)), (41, jI s3), (50, .pointer (some ⟨g0, 1, none⟩)), (51, jU (x1.Result.toNat : Int)), (52, .bool ((x1.Result.toNat : Int) != 0)), (53, .bool p1.1), (59, .bool p1.2)] ∧ SL w [] w_ [Blk g8 110 [v0_0, v0_1, jI a0.Fn], Blk g0 50 [v0, jU (x1.Result.toNat : Int)]]) ?_ ?_
   ·have H := H1
    refine gc 3 F rfl fun _ F => gld F s6 m0 0 rfl fun _ F => gx F (Ak rfl underlying47 (fR hc s6)) 2 rfl rfl fun _ F => bsp 49 F H (fun hd H F => ?_) (fun hd H F => ?_)
    ·cases H
     replace H := R1
     try dsimp only at H
     cases H
     obtain rfl := hr _ rfl
     replace H := R0
     try dsimp only at H
     cases H
     exact gw 28 F rfl fun _ F => rt F ⟨rfl, s6.drop.drop⟩
    refine gw 1 F rfl fun _ F => Afv F rfl rfl <| gld F s6 m0 2 rfl fun _ F => bsp 53 F H (fun he H F => ?_) (fun he H F => ?_)
    ·refine gw 2 F rfl fun _ F => Afv F rfl rfl <| gld F s6 m0 0 rfl fun _ F => ?_
     obtain ⟨x2, hf, H⟩ := Aa H
     refine Afv F rfl rfl ?_
     obtain ⟨G1, hg, hh, hi, hj⟩ := SL.open_ (ps := [Blk g8 110 [v0_0, v0_1, jI a0.Fn]]) (rest := [Blk g0 50 [v0, jU (x1.Result.toNat : Int)]]) s6.f1
     refine ATb (args := [.tmp 56]) F Bq0 rfl rfl (AZl (a0 := x1.Result) (a1 := (⟨a0.Classes, a0.Akq, a0.Fn⟩ : Adb)) hg (hr0_0.pass s6.f1 hh) (hr0_1.pass s6.f1 hh) hf) rfl fun v1 w4 _ hk F => ?_
     obtain ⟨rfl, hl⟩ := hk
     have s7 := hj _ _ hl
     refine gw 5 F rfl fun _ F => gif F H 14 1 rfl rfl rfl (fun hm H _ F => ?_) (fun hm H _ F => ?_)
     ·cases H
      replace H := R1
      try dsimp only at H
      cases H
      obtain rfl := hr _ rfl
      replace H := R0
      try dsimp only at H
      cases H
      exact rt F ⟨rfl, s7.drop.drop⟩
     cases H
     exact ⟨_, rfl, F.sb, s7⟩
    cases H
    exact gw 11 F rfl fun _ F => ⟨_, rfl, F.sb, s6.f1⟩
   intro _ w5 hJ
   obtain ⟨p1, rfl, F, s8⟩ := hJ
   have H := R1
   clear R1 H1
   try dsimp only at H
   refine ge 4 F rfl fun _ F => gld F s8 m1 0 rfl fun _ F => ?_
   obtain ⟨o3, H2, R2⟩ := Aa H
   clear H
   refine gx F (Ak rfl underlying47 (fR hc s8)) 3 rfl rfl fun _ F => At9 (fun a w_ => ∃ p2 : Unit, o3 = .inr (p2) ∧ Fr a 74 [(5, clo 182 [jP g8]), (39, v0_1), (40, jI (a0.Akq.length : Int)), (41, jI s3), (50, .pointer (some ⟨g0, 1, none⟩)), (51, jU (x1.Result.toNat : Int)), (52, .bool ((x1.Result.toNat : Int) != 0)), (53, .bool p1.1), (59, .bool p1.2)] ∧ SL w [] w_ [Blk g8 110 [v0_0, v0_1, jI a0.Fn], Blk g0 50 [v0, jU (x1.Result.toNat : Int)]]) ?_ ?_
   ·have H := H2
    refine gc 1 F rfl fun _ F => lpk (ARr a0 x1) (fun s9 a w_ => Fr a 74 [(5, clo 182 [jP g8]), (39, v0_1), (40, jI (a0.Akq.length : Int)), (41, jI s3), (50, .pointer (some ⟨g0, 1, none⟩)), (51, jU (x1.Result.toNat : Int)), (52, .bool ((x1.Result.toNat : Int) != 0)), (53, .bool p1.1), (59, .bool p1.2), (62, v0), (63, jI (x1.Ars.length : Int)), (64, jI s9)] ∧ SL w [] w_ [Blk g8 110 [v0_0, v0_1, jI a0.Fn], Blk g0 50 [v0, jU (x1.Result.toNat : Int)]]) H ?_ ?_
    ·exact ⟨F.sb, s8⟩
    intro s9 _ w6 hn o4 H hr
    obtain ⟨F, sa⟩ := hn
    replace H : ARr a0 x1 s9 = some o4 := H
    unfold ARr at H
    refine gc 6 F rfl fun _ F => gif F H 6 4 rfl rfl rfl (fun ho H _ F => ?_) (fun ho H _ F => ?_)
    ·obtain ⟨x3, hp, H⟩ := Aa H
     obtain ⟨a3, hq, hs⟩ := AT7 Flat.u8 (Bl hc sa) Aqg rfl hp
     refine gi F hq 0 rfl fun _ F => ?_
     obtain ⟨x4, ht, H⟩ := Aa H
     obtain ⟨G2, hu, hv, hw, hx⟩ := SL.open_ (ps := [Blk g8 110 [v0_0, v0_1, jI a0.Fn]]) (rest := [Blk g0 50 [v0, jU (x1.Result.toNat : Int)]]) sa
     refine gx F (Ao Aw9 rfl (Aqa.at_ hs (o := 0) rfl)) 7 rfl rfl fun _ F => ?_
     refine ATb (args := [.tmp 69]) F Bq0 rfl rfl (AZl (a0 := x3) (a1 := (⟨a0.Classes, a0.Akq, a0.Fn⟩ : Adb)) hu (hr0_0.pass sa hv) (hr0_1.pass sa hv) ht) rfl fun v2 w7 _ hy F => ?_
     obtain ⟨rfl, hz⟩ := hy
     have sc := hx _ _ hz
     refine gw 3 F rfl fun _ F => gif F H 17 7 rfl rfl rfl (fun h10 H _ F => ?_) (fun h10 H _ F => ?_)
     ·cases H
      obtain rfl := hr _ rfl
      replace H := R2
      try dsimp only at H
      cases H
      obtain rfl := hr _ rfl
      replace H := R0
      try dsimp only at H
      cases H
      exact rt F ⟨rfl, sc.drop.drop⟩
     cases H
     exact ⟨_, rfl, F.sb, sc⟩
    cases H
    obtain rfl := hr _ rfl
    exact ⟨_, rfl, F.sb, sa⟩
   intro _ w8 hJ
   obtain ⟨p2, rfl, F, sd⟩ := hJ
   have H := R2
   clear R2 H2
   try dsimp only at H
   cases H
   exact ge 6 F rfl fun _ F => ⟨_, rfl, F.sb, sd.f1.drop⟩
  cases H
  obtain rfl := hr _ rfl
  exact ⟨_, rfl, F.sb, s4.drop⟩
 intro _ wa hJ
 obtain ⟨p0, rfl, F, se⟩ := hJ
 have H := R0
 clear R0 H0
 try dsimp only at H
 cases H
 exact ge 7 F rfl fun _ F => rt F ⟨rfl, se⟩
theorem AVm {w : World} {a0 : Aas} {r : Bool} (H : ASw a0 = some r) :
    Calls prog 183 #[.agg ⟨(jI a0.Locals :: jI a0.Height :: ev8 a0.Slots)⟩] w (Ret fun u_ w_ => u_ = .bool r ∧ SL w [] w_ []) := by
 have s0 : SL w [] w [] := SL.Aq9 w
 refine cin func183 ntmps183 2 rfl rfl rfl fun _ F0 => ?_
 unfold ASw at H
 refine Ar F0 s0 rfl rfl rfl fun g8 w9 _ F s1 => gw 6 F rfl fun _ F => gld F s1 m0 2 rfl fun _ F => bsp 6 F H (fun h0 H F => ?_) (fun h0 H F => ?_)
 ·refine gw 1 F rfl fun _ F => Afv F rfl rfl <| gld F s1 m0 3 rfl fun _ F => bsp 11 F H (fun h1 H F => ?_) (fun h1 H F => ?_)
  ·refine gw 1 F rfl fun _ F => Afv F rfl rfl <| gld F s1 m0 3 rfl fun _ F => bsp 16 F H (fun h2 H F => ?_) (fun h2 H F => ?_)
   ·refine gw 1 F rfl fun _ F => Afv F rfl rfl <| gld F s1 m0 1 rfl fun _ F => Afv F rfl rfl ?_
    cases H
    exact gld F s1 m0 7 rfl fun _ F => rt F ⟨rfl, s1.drop⟩
   cases H
   exact gw 11 F rfl fun _ F => rt F ⟨rfl, s1.drop⟩
  cases H
  exact gw 16 F rfl fun _ F => rt F ⟨rfl, s1.drop⟩
 cases H
 exact gw 21 F rfl fun _ F => rt F ⟨rfl, s1.drop⟩
theorem AZw {w : World} {a0 : Aas} {r : Aas} (H : AUj a0 = some r) :
    Calls prog 184 #[.agg ⟨(jI a0.Locals :: jI a0.Height :: ev8 a0.Slots)⟩] w (Ret fun u_ w_ => u_ = .agg ⟨(jI r.Locals :: jI r.Height :: ev8 r.Slots)⟩ ∧ SL w [] w_ []) := by
 have s0 : SL w [] w [] := SL.Aq9 w
 refine cin func184 ntmps184 2 rfl rfl rfl fun _ F0 => ?_
 unfold AUj at H
 refine Ar F0 s0 rfl rfl rfl fun g0 w0 _ F s1 => Af F s1 Ajp rfl rfl fun g1 w1 _ F s2 => gw 5 F rfl fun _ F => gld F s2 m1 1 rfl fun _ F => gld F s2 m1 0 rfl fun _ F => ?_
 refine gx F (Al (vs := [jI a0.Locals, jI a0.Height]) Ajp ACi rfl (cs := (jI a0.Locals :: jI a0.Height :: ev8 (Vector.replicate 24 (0 : UInt8)))) (AN2 rfl rfl (by simp) <| AN2 rfl rfl (by simp) <| Ayf)) 0 rfl rfl fun _ F => ?_
 refine Af F s2 Ajp rfl rfl fun g2 w2 _ F s3 => ?_
 refine Akj (ds := (jI a0.Locals :: jI a0.Height :: ev8 (Vector.replicate 24 (0 : UInt8)))) F s3 rfl rfl (by simpa using Amy) (Ab rfl (Ab rfl (Ape _))) (by simp) fun w3 _ F s4 => ?_
 obtain ⟨x0, h0, H⟩ := Aa H
 refine gw 3 F rfl fun _ F => AJp Aq8 s4.drop ?_
 refine hq [0, 1, 2, 3, 4, 5, 7, 8] F s4.drew.drop (QI.ev 2 rfl <| QI.ld m1 rfl <| QI.ev 1 rfl <| QI.ld m1 rfl <| QI.ev 2 rfl <| QI.op rfl (fun _ hC => Bu5 ANo rfl) rfl <| QI.nil) (by kernel_rfl) fun _ F => ?_
 refine ho 6 rfl (by kernel_rfl) ?_
 refine gx F (Bx2 ANo (Bqa h0).1 (Bqa h0).2 rfl rfl) 1 rfl rfl fun _ F => ⟨s4.drew.drop, ?_⟩
 refine ho 9 rfl (by kernel_rfl) ?_
 refine Btq (q := (wr (a0.Locals + a0.Height)).toNat) (pre := [jI a0.Locals, jI a0.Height]) (pre2 := [jI a0.Locals, jI a0.Height]) F s4.drew m1 rfl rfl (Bzs h0) Aqg rfl rfl rfl (cs' := (jI a0.Locals :: jI a0.Height :: ev8 (vcp (Vector.replicate 24 (0 : UInt8)) a0.Slots ((wr (a0.Locals + a0.Height)).toNat)))) (by simp only [List.cons_append, List.nil_append]) fun w4 _ F s5 => ?_
 refine gw 1 F rfl fun _ F => ⟨s5.drop, ?_⟩
 refine ANu (by kernel_rfl) ?_
 refine ge 3 F rfl fun _ F => gla F s5 m0 0 rfl fun _ F => ?_
 refine Akj (ds := (jI a0.Locals :: jI a0.Height :: ev8 (vcp (Vector.replicate 24 (0 : UInt8)) a0.Slots ((wr (a0.Locals + a0.Height)).toNat)))) F s5.f1 rfl rfl (by simpa using Amy) (Ab rfl (Ab rfl (Ape _))) (by simp) fun w5 _ F s6 => ?_
 cases H
 refine gw 3 F rfl fun _ F => ?_
 refine Aj (rs := [.cell 2 118]) (vs := [.agg ⟨(jI a0.Locals :: jI a0.Height :: ev8 (vcp (Vector.replicate 24 (0 : UInt8)) a0.Slots ((wr (a0.Locals + a0.Height)).toNat)))⟩]) F (by rfl) ⟨_, _, rfl, Am s6 m0 rfl Aoi (by simp), rfl⟩ ⟨_, rfl, ⟨rfl, s6.drop.drop.drop⟩⟩
theorem Bbt {w : World} {v0 : Value} {a0 : List Abi} {a1 : Aas} {r : Int} (hr0 : Rd Aef w [] v0 a0) (H : ATh a0 a1 = some r) :
    Calls prog 160 #[v0, .agg ⟨(jI a1.Locals :: jI a1.Height :: ev8 a1.Slots)⟩] w (Ret fun u_ w_ => u_ = jI r ∧ SL w [] w_ []) := by
 have s0 : SL w [] w [] := SL.Aq9 w
 refine cin func160 ntmps160 2 rfl rfl rfl fun _ F0 => ?_
 unfold ATh at H
 refine Ar F0 s0 rfl rfl rfl fun g8 w9 _ F s1 => ?_
 obtain ⟨x0, h0, H⟩ := Aa H
 refine gw 5 F rfl fun _ F => Be (!x0) (fun h1 => ?_) (fun h1 => ?_)
 ·replace H := AZv h1 H
  refine ATo Aq8 s1 F (QR.qo (fun _ hC => Aw Aoi rfl (hC.ANx m0 (o := 0) (ds := (jI a1.Locals :: jI a1.Height :: ev8 a1.Slots)) (ATv (pre := []) rfl rfl)) (by simp)) rfl <| QR.call (args := [.tmp 7]) Bo6 rfl (fun _ hC => Bg (AVm (a0 := (⟨a1.Locals, a1.Height, a1.Slots⟩ : Aas)) h0) hC) <| QR.ev 2 rfl <| QR.qs rfl rfl (Ai rfl h1) Ad rfl rfl <| QR.qs rfl rfl (Ai rfl h1) Ad rfl rfl <| QR.qs rfl rfl (Ai rfl h1) Ad rfl rfl <| QR.qs rfl rfl (Ai rfl h1) Ad rfl rfl <| QR.qo (fun _ hC => Bh (AXr rfl h1) rfl) rfl <| Bb) fun w0 _ s2 F => ?_
  cases H
  exact ge 9 F rfl fun _ F => rt F ⟨rfl, s2.drop⟩
 replace H := AZy h1 H
 obtain ⟨x1, h2, H⟩ := Aa H
 refine ATo Aq8 s1 F (QR.qo (fun _ hC => Aw Aoi rfl (hC.ANx m0 (o := 0) (ds := (jI a1.Locals :: jI a1.Height :: ev8 a1.Slots)) (ATv (pre := []) rfl rfl)) (by simp)) rfl <| QR.call (args := [.tmp 7]) Bo6 rfl (fun _ hC => Bg (AVm (a0 := (⟨a1.Locals, a1.Height, a1.Slots⟩ : Aas)) h0) hC) <| QR.ev 2 rfl <| QR.qg (fun _ hC => Aw Aoi rfl (hC.ANx m0 (o := 0) (ds := (jI a1.Locals :: jI a1.Height :: ev8 a1.Slots)) (ATv (pre := []) rfl rfl)) (by simp)) rfl rfl (Ai rfl h1) rfl rfl <| QR.Bt1 rfl (Ai rfl h1) (args := [.tmp 11]) Bxx rfl (fun _ hC => Bg (AZw (a0 := (⟨a1.Locals, a1.Height, a1.Slots⟩ : Aas)) h2) hC) <| QR.qg (fun _ hC => Aw Aoi rfl (hC.ANx m0 (o := 0) (ds := (jI a1.Locals :: jI a1.Height :: ev8 a1.Slots)) (ATv (pre := []) rfl rfl)) (by simp)) rfl rfl (Ai rfl h1) rfl rfl <| QR.qg (fun _ hC => Bit (xs := (jI x1.Locals :: jI x1.Height :: ev8 x1.Slots)) (ys := (jI a1.Locals :: jI a1.Height :: ev8 a1.Slots)) Bbr (by decide) rfl rfl (Bix Bbr Bki (Bi rfl (Bj AAd rfl) (Bj AAd rfl) (EqAt.up (j := 2) (Bbp underlying3) (by decide)) (Bi rfl (Bj AAd rfl) (Bj AAd rfl) (EqAt.up (j := 2) (Bbp underlying3) (by decide)) (Bi rfl (Bfa AX3 (Bdb (pre := [jI x1.Locals, jI x1.Height]) rfl rfl) (by simp)) (Bfa AX3 (Bdb (pre := [jI a1.Locals, jI a1.Height]) rfl rfl) (by simp)) (EqAt.up (j := 2) (Bkd ANo underlying48 Bm3) (by decide)) Bi8))))) rfl rfl (Ai rfl h1) rfl rfl <| QR.qo (fun _ hC => Bk (AXr rfl h1) rfl) rfl <| Bb) fun w1 _ s3 F => ?_
 refine ge 1 F rfl fun _ F => gif F H 7 6 rfl rfl rfl (fun h3 H _ F => ?_) (fun h3 H _ F => ?_)
 ·cases H
  exact rt F ⟨rfl, s3.drop⟩
 obtain ⟨o0, H0, R0⟩ := Aa H
 clear H
 refine gx F (Byj (pre := [jI a1.Locals, jI a1.Height]) s3 m0 rfl AX3 rfl) 3 rfl rfl fun _ F => At9 (fun a w_ => ∃ p0 : Unit, o0 = .inr (p0) ∧ Fr a 26 [] ∧ SL w [] w_ []) ?_ ?_
 ·have H := H0
  refine gc 1 F rfl fun _ F => lpk (ASl a0 a1) (fun s4 a w_ => Fr a 26 [(0, v0), (17, .agg ⟨ev8 a1.Slots⟩), (18, jI s4)] ∧ SL w [] w_ []) H ?_ ?_
  ·exact ⟨F.sb, s3.drop⟩
  intro s4 _ w2 h4 o1 H hr
  obtain ⟨F, s5⟩ := h4
  replace H : ASl a0 a1 s4 = some o1 := H
  unfold ASl at H
  refine gc 6 F rfl fun _ F => gif F H 6 4 rfl rfl rfl (fun h5 H _ F => ?_) (fun h5 H _ F => ?_)
  ·obtain ⟨x2, h6, H⟩ := Aa H
   obtain ⟨x3, h7, H⟩ := Aa H
   refine gx F (Buw ANo Aw9 rfl rfl h6) 7 rfl rfl fun _ F => gca F s5 (ASx (hr0.Ajq s5) h7) 3 rfl rfl rfl rfl fun w3 _ F s6 => gif F H 12 7 rfl rfl rfl (fun h8 H _ F => ?_) (fun h8 H _ F => ?_)
   ·cases H
    obtain rfl := hr _ rfl
    replace H := R0
    try dsimp only at H
    cases H
    exact rt F ⟨rfl, s6⟩
   cases H
   exact ⟨_, rfl, F.sb, s6⟩
  cases H
  obtain rfl := hr _ rfl
  exact ⟨_, rfl, F.sb, s5⟩
 intro _ w4 hJ
 obtain ⟨p0, rfl, F, s7⟩ := hJ
 have H := R0
 clear R0 H0
 try dsimp only at H
 cases H
 exact ge 7 F rfl fun _ F => rt F ⟨rfl, s7⟩
theorem AW1 {w : World} {a0 : UInt8} {r : Aaz} (H : AUq a0 = some r) :
    Calls prog 200 #[jU (a0.toNat : Int)] w (Ret fun u_ w_ => u_ = .agg ⟨[jI r.kind, jU (r.t.toNat : Int)]⟩ ∧ SL w [] w_ []) := by
 have s0 : SL w [] w [] := SL.Aq9 w
 refine cin func200 ntmps200 2 rfl rfl rfl fun _ F0 => ?_
 unfold AUq at H
 refine Af F0 s0 APd rfl rfl fun g7 w8 q9 F s1 => gw 5 F rfl fun _ F => gx F (Al (vs := [jI 4, jU (a0.toNat : Int)]) APd AT5 rfl (cs := [jI 4, jU (a0.toNat : Int)]) (rfl)) 0 rfl rfl fun _ F => Ah F s1 rfl rfl Bgi (Ab rfl (Ab rfl Ap)) (Ac rfl) fun w0 _ F s2 => ?_
 cases H
 refine gw 3 F rfl fun _ F => ?_
 refine Aj (rs := [.cell 2 253]) (vs := [.agg ⟨[jI 4, jU (a0.toNat : Int)]⟩]) F (by rfl) ⟨_, _, rfl, Am s2 m0 rfl Bnw rfl, rfl⟩ ⟨_, rfl, ⟨rfl, s2.drop⟩⟩
theorem A5e {w : World} {v0 : Value} (hc0 : v0.cells = #[v0]) :
    Calls prog 201 #[v0] w (Ret fun u_ w_ => ∃ g0 : Nat, u_ = clo 214 [jP g0] ∧ SL w [] w_ [Blk g0 47 [v0]]) := by
  have s0 : SL w [] w [] := SL.Aq9 w
  refine AY8 func201 rfl ntmps201 (Nat.le_of_ble_eq_true rfl) (args := [v0]) fun q0 F0 => ?_
  refine wp_seq ?_
  refine AXe ?_
  refine Ba8 F0 s0 rfl hc0 rfl fun g0 w1 q1 F1 s1 => ?_
  refine Ba9 F1 (PR.op (AYq rfl) <| PR.nil) fun q2 F2 => ?_
  refine AXf ?_
  refine AYc ?_
  refine wp_seq ?_
  refine AXe ?_
  refine Ba9 F2 (PR.op (AR9 (cs := [.tmp 1]) (vs := [jP g0]) rfl) <| PR.op (AYq rfl) <| PR.nil) fun q3 F3 => ?_
  refine AXf ?_
  refine AYc ?_
  refine wp_ret ?_
  refine AY4 (rs := [.tmp 2]) (vs := [clo 214 [jP g0]]) F3 (by rfl) ⟨_, _, rfl, RV.tmp rfl, rfl⟩ ⟨_, rfl, ⟨g0, rfl, s1⟩⟩
theorem AAl {w : World} {v0 v1 : Value} (hc0 : v0.cells = #[v0]) (hc1 : v1.cells = #[v1]) :
    Calls prog 202 #[v0, v1] w (Ret fun u_ w_ => ∃ g0 g1 : Nat, u_ = clo 215 [jP g0, jP g1] ∧ SL w [] w_ [Blk g1 142 [v1], Blk g0 224 [v0]]) := by
  have s0 : SL w [] w [] := SL.Aq9 w
  refine AY8 func202 rfl ntmps202 (Nat.le_of_ble_eq_true rfl) (args := [v0, v1]) fun q0 F0 => ?_
  refine wp_seq ?_
  refine AXe ?_
  refine Ba8 F0 s0 rfl hc0 rfl fun g0 w1 q1 F1 s1 => ?_
  refine Ba8 F1 s1 rfl hc1 rfl fun g1 w2 q2 F2 s2 => ?_
  refine Ba9 F2 (PR.op (AYq rfl) <| PR.nil) fun q3 F3 => ?_
  refine AXf ?_
  refine AYc ?_
  refine wp_seq ?_
  refine AXe ?_
  refine Ba9 F3 (PR.op (AR9 (cs := [.tmp 2, .tmp 3]) (vs := [jP g0, jP g1]) rfl) <| PR.op (AYq rfl) <| PR.nil) fun q4 F4 => ?_
  refine AXf ?_
  refine AYc ?_
  refine wp_ret ?_
  refine AY4 (rs := [.tmp 4]) (vs := [clo 215 [jP g0, jP g1]]) F4 (by rfl) ⟨_, _, rfl, RV.tmp rfl, rfl⟩ ⟨_, rfl, ⟨g0, g1, rfl, s2⟩⟩
theorem Bbq {w : World} {v0 v1 : Value} (hc0 : v0.cells = #[v0]) (hc1 : v1.cells = #[v1]) :
    Calls prog 208 #[v0, v1] w (Ret fun u_ w_ => ∃ g0 g1 : Nat, u_ = clo 216 [jP g1, jP g0] ∧ SL w [] w_ [Blk g1 4 [v1], Blk g0 224 [v0]]) := by
  have s0 : SL w [] w [] := SL.Aq9 w
  refine AY8 func208 rfl ntmps208 (Nat.le_of_ble_eq_true rfl) (args := [v0, v1]) fun q0 F0 => ?_
  refine wp_seq ?_
  refine AXe ?_
  refine Ba8 F0 s0 rfl hc0 rfl fun g0 w1 q1 F1 s1 => ?_
  refine Ba8 F1 s1 rfl hc1 rfl fun g1 w2 q2 F2 s2 => ?_
  refine Ba9 F2 (PR.op (AYq rfl) <| PR.nil) fun q3 F3 => ?_
  refine AXf ?_
  refine AYc ?_
  refine wp_seq ?_
  refine AXe ?_
  refine Ba9 F3 (PR.op (AR9 (cs := [.tmp 3, .tmp 2]) (vs := [jP g1, jP g0]) rfl) <| PR.op (AYq rfl) <| PR.nil) fun q4 F4 => ?_
  refine AXf ?_
  refine AYc ?_
  refine wp_ret ?_
  refine AY4 (rs := [.tmp 4]) (vs := [clo 216 [jP g1, jP g0]]) F4 (by rfl) ⟨_, _, rfl, RV.tmp rfl, rfl⟩ ⟨_, rfl, ⟨g0, g1, rfl, s2⟩⟩
theorem Bh5 {w : World} {v0 : Value} (hc0 : v0.cells = #[v0]) :
    Calls prog 209 #[v0] w (Ret fun u_ w_ => ∃ g0 : Nat, u_ = clo 218 [jP g0] ∧ SL w [] w_ [Blk g0 4 [v0]]) := by
  have s0 : SL w [] w [] := SL.Aq9 w
  refine AY8 func209 rfl ntmps209 (Nat.le_of_ble_eq_true rfl) (args := [v0]) fun q0 F0 => ?_
  refine wp_seq ?_
  refine AXe ?_
  refine Ba8 F0 s0 rfl hc0 rfl fun g0 w1 q1 F1 s1 => ?_
  refine Ba9 F1 (PR.op (AYq rfl) <| PR.nil) fun q2 F2 => ?_
  refine AXf ?_
  refine AYc ?_
  refine wp_seq ?_
  refine AXe ?_
  refine Ba9 F2 (PR.op (AR9 (cs := [.tmp 1]) (vs := [jP g0]) rfl) <| PR.op (AYq rfl) <| PR.nil) fun q3 F3 => ?_
  refine AXf ?_
  refine AYc ?_
  refine wp_ret ?_
  refine AY4 (rs := [.tmp 2]) (vs := [clo 218 [jP g0]]) F3 (by rfl) ⟨_, _, rfl, RV.tmp rfl, rfl⟩ ⟨_, rfl, ⟨g0, rfl, s1⟩⟩
set_option maxHeartbeats 4000000 in
theorem Bqr {w : World} {r : (List (AOe Aaz))} (H : step_table = some r) :
    Calls prog 185 #[] w (Ret fun u_ w_ => ∃ vs : List Value, u_ = .agg ⟨vs⟩ ∧ vs.length = 34 ∧ SL w [] w_ [] ∧ ∀ (k : Nat) (t : AOe Aaz), r[k]? = some t → ∃ tv, vs[k]? = some tv ∧ SL w [] w_ [Tlc Aoy Aeh tv t]) := by
 have s0 : SL w [] w [] := SL.Aq9 w
 refine cin func185 ntmps185 2 rfl rfl rfl fun _ F0 => ?_
 unfold step_table at H
 refine Af F0 s0 Bl3 rfl rfl fun g9 w0 _ F s1 => ?_
 have s2 : SL w [] _ [Blk g9 249 (List.replicate 34 .nilFunc)] := s1
 refine gw 1 F rfl fun _ F => ?_
 have F := F.sub (m' := [(0, jP g9)]) ⟨rfl, trivial⟩
 clear F
 obtain ⟨x0, h0, H⟩ := Aa H
 refine ge 3 F rfl fun _ F => gca F s2 (AW1 h0) 0 rfl rfl rfl rfl fun w1 _ F s3 => ?_
 obtain ⟨x1, h1, H⟩ := Aa H
 refine gca F s3 (AW1 h1) 0 rfl rfl rfl rfl fun w2 _ F s4 => ?_
 obtain ⟨x2, h2, H⟩ := Aa H
 refine gca F s4 (AW1 h2) 0 rfl rfl rfl rfl fun w3 _ F s5 => Af F s5 APd rfl rfl fun g0 w4 _ F s6 => Af F s6 APd rfl rfl fun g1 w5 _ F s7 => Af F s7 APd rfl rfl fun g2 w6 _ F s8 => Ah F s8.f2 rfl rfl Bgi (Ab rfl (Ab rfl Ap)) (Ac rfl) fun w7 _ F s9 => ?_
 replace s9 : SL w [] w7 [Blk g0 253 [jI x0.kind, jU (x0.t.toNat : Int)], Blk g2 253 [jI 0, jU 0], Blk g1 253 [jI 0, jU 0], Blk g9 249 (List.replicate 34 .nilFunc)] := s9
 refine Ah F s9.f2 rfl rfl Bgi (Ab rfl (Ab rfl Ap)) (Ac rfl) fun w8 _ F sa => ?_
 replace sa : SL w [] w8 [Blk g1 253 [jI x1.kind, jU (x1.t.toNat : Int)], Blk g0 253 [jI x0.kind, jU (x0.t.toNat : Int)], Blk g2 253 [jI 0, jU 0], Blk g9 249 (List.replicate 34 .nilFunc)] := sa
 refine Ah F sa.f2 rfl rfl Bgi (Ab rfl (Ab rfl Ap)) (Ac rfl) fun w9 _ F sc => ?_
 replace sc : SL w [] w9 [Blk g2 253 [jI x2.kind, jU (x2.t.toNat : Int)], Blk g1 253 [jI x1.kind, jU (x1.t.toNat : Int)], Blk g0 253 [jI x0.kind, jU (x0.t.toNat : Int)], Blk g9 249 (List.replicate 34 .nilFunc)] := sc
 refine gw 1 F rfl fun _ F => ?_
 have F := F.sub (m' := [(0, jP g9), (1, jP g0), (2, jP g1), (3, jP g2)]) ⟨rfl, rfl, rfl, rfl, trivial⟩
 clear F
 refine ge 3 F rfl fun _ F => gld F sc m2 0 rfl fun _ F => gld F sc m2 0 rfl fun _ F => ?_
 refine Ae (parts := [(0, .tmp 14), (1, .tmp 15)]) A7j ([(⟨x0.kind, x0.t⟩ : Aaz), (⟨x0.kind, x0.t⟩ : Aaz)] : List Aaz) F sc AG7 rfl (by decide) rfl rfl rfl (by simp [Value.cells]) rfl rfl rfl fun v0 wa _ F sd => ?_
 refine gw 2 F rfl fun _ F => ?_
 have F := F.sub (m' := [(0, jP g9), (1, jP g0), (2, jP g1), (3, jP g2), (4, v0)]) ⟨rfl, rfl, rfl, rfl, rfl, trivial⟩
 clear F
 refine ge 3 F rfl fun _ F => As (args := [.const (.slice none 0 0)]) F ANk rfl (A5e rfl) rfl fun v1 wb _ h3 F => ?_
 obtain ⟨g3, rfl, h4⟩ := h3
 have se := sd.add h4
 refine Af F se Btr rfl rfl fun g4 wc _ F sf => Ay F sf rfl rfl Bx5 rfl rfl rfl fun wd _ F sg => ?_
 replace sg : SL w [] wd [Blk g4 142 [clo 214 [jP g3]], Blk g3 47 [.slice none 0 0], Sl Aeh v0 ([(⟨x0.kind, x0.t⟩ : Aaz), (⟨x0.kind, x0.t⟩ : Aaz)] : List Aaz), Blk g2 253 [jI x2.kind, jU (x2.t.toNat : Int)], Blk g1 253 [jI x1.kind, jU (x1.t.toNat : Int)], Blk g0 253 [jI x0.kind, jU (x0.t.toNat : Int)], Blk g9 249 (List.replicate 34 .nilFunc)] := sg
 refine gw 1 F rfl fun _ F => ?_
 have F := F.sub (m' := [(0, jP g9), (1, jP g0), (2, jP g1), (3, jP g2), (4, v0), (5, jP g4)]) ⟨rfl, rfl, rfl, rfl, rfl, rfl, trivial⟩
 clear F
 refine ge 3 F rfl fun _ F => Af F sg Bl3 rfl rfl fun g5 we _ F sh => ?_
 have si : SL w [] _ [Blk g5 249 (List.replicate 34 .nilFunc), Blk g4 142 [clo 214 [jP g3]], Blk g3 47 [.slice none 0 0], Sl Aeh v0 ([(⟨x0.kind, x0.t⟩ : Aaz), (⟨x0.kind, x0.t⟩ : Aaz)] : List Aaz), Blk g2 253 [jI x2.kind, jU (x2.t.toNat : Int)], Blk g1 253 [jI x1.kind, jU (x1.t.toNat : Int)], Blk g0 253 [jI x0.kind, jU (x0.t.toNat : Int)], Blk g9 249 (List.replicate 34 .nilFunc)] := sh
 obtain ⟨v2, sj⟩ := SL.Bym (n := Aoy) (T := Aeh) (K := 34) si
 refine gw 1 F rfl fun _ F => ?_
 have F := F.sub (m' := [(0, jP g9), (1, jP g0), (2, jP g1), (3, jP g2), (4, v0), (5, jP g4), (6, jP g5)]) ⟨rfl, rfl, rfl, rfl, rfl, rfl, rfl, trivial⟩
 clear F
 refine ge 4 F rfl fun _ F => ?_
 refine Bly (parts := [(0, .const (jU 0)), (1, .const (jU 19)), (2, .const (jU 32))]) (vs := [jU 0, jU 19, jU 32]) F sj AO0 rfl (by decide) rfl rfl rfl (Bgu (AUl rfl (AUl rfl (AUl rfl Blq)))) rfl fun g6 wf _ F sk => ?_
 refine gx F (Ak rfl underlying42 ⟨_, _, rfl⟩) 2 rfl rfl fun _ F => ?_
 have F := F.sub (m' := [(0, jP g9), (1, jP g0), (2, jP g1), (3, jP g2), (4, v0), (5, jP g4), (6, jP g5), (18, .slice (some ⟨g6, 0, none⟩) 3 3), (19, jI ((3 : Nat) : Int)), (20, jI 0)]) ⟨rfl, rfl, rfl, rfl, rfl, rfl, rfl, rfl, rfl, rfl, trivial⟩
 clear F
 refine ge 2 F rfl fun _ F => rdk 3 <| gc 4 F rfl fun _ F => ?_
 have F := F.sub (m' := [(0, jP g9), (1, jP g0), (2, jP g1), (3, jP g2), (4, v0), (5, jP g4), (6, jP g5), (18, .slice (some ⟨g6, 0, none⟩) 3 3), (19, jI ((3 : Nat) : Int)), (20, jI 0), (21, .bool true)]) ⟨rfl, rfl, rfl, rfl, rfl, rfl, rfl, rfl, rfl, rfl, rfl, trivial⟩
 clear F
 refine ge 9 F rfl fun _ F => ?_
 refine gx F (AYr AO0 rfl rfl (by decide)) 0 rfl rfl fun _ F => ?_
 refine gld F sk m0 2 rfl fun _ F => ?_
 have F := F.sub (m' := [(0, jP g9), (1, jP g0), (2, jP g1), (3, jP g2), (4, v0), (5, jP g4), (6, jP g5), (8, jU 0), (18, .slice (some ⟨g6, 0, none⟩) 3 3), (19, jI ((3 : Nat) : Int)), (20, jI 0)]) ⟨rfl, rfl, rfl, rfl, rfl, rfl, rfl, rfl, rfl, rfl, rfl, trivial⟩
 clear F
 refine ge 3 F rfl fun _ F => gld F sk m3 0 rfl fun _ F => As (args := [.const (.slice none 0 0), .tmp 25]) F ANp rfl (AAl rfl rfl) rfl fun v3 wg _ h5 F => ?_
 obtain ⟨g7, g8, rfl, h6⟩ := h5
 have sl := sk.add h6
 refine gx F (AM8 (i := 0) AF3 rfl rfl (by decide)) 0 rfl rfl fun _ F => ?_
 have sm := SL.Bq7 (qs := [Blk g3 47 [.slice none 0 0]]) sl.f4.f6
 refine AEk (nn := Aoy) (T := Aeh) (qs := [Blk g7 224 [.slice none 0 0], Blk g8 142 [clo 214 [jP g3]]]) (q1 := [Blk g3 47 [.slice none 0 0]]) (t := .fixed [] (.const [])) F sm.f4.f2.f3 rfl rfl AGd rfl rfl rfl (.inr m0) (fun _ _ h => SL.ANr (n := Aoy) rfl (SL.Axc (T := Aeh) (SL.AJt (c := 214) (d := 203) (s := 204) (t := 47) rfl (SL.Axc (T := Ty.u8) h).f3).f2).f3) fun v4 wh _ F sn => gw 1 F rfl fun _ F => ?_
 have F := F.sub (m' := [(0, jP g9), (1, jP g0), (2, jP g1), (3, jP g2), (4, v0), (5, jP g4), (6, jP g5), (18, .slice (some ⟨g6, 0, none⟩) 3 3), (19, jI ((3 : Nat) : Int)), (20, jI 0)]) ⟨rfl, rfl, rfl, rfl, rfl, rfl, rfl, rfl, rfl, rfl, trivial⟩
 clear F
 refine ge 6 F rfl fun _ F => ?_
 have F := F.sub (m' := [(0, jP g9), (1, jP g0), (2, jP g1), (3, jP g2), (4, v0), (5, jP g4), (6, jP g5), (18, .slice (some ⟨g6, 0, none⟩) 3 3), (19, jI ((3 : Nat) : Int)), (20, jI 1)]) ⟨rfl, rfl, rfl, rfl, rfl, rfl, rfl, rfl, rfl, rfl, trivial⟩
 clear F
 refine ge 6 F rfl fun _ F => ?_
 have F := F.sub (m' := [(0, jP g9), (1, jP g0), (2, jP g1), (3, jP g2), (4, v0), (5, jP g4), (6, jP g5), (18, .slice (some ⟨g6, 0, none⟩) 3 3), (19, jI ((3 : Nat) : Int)), (20, jI 1), (21, .bool true)]) ⟨rfl, rfl, rfl, rfl, rfl, rfl, rfl, rfl, rfl, rfl, rfl, trivial⟩
 clear F
 refine ge 9 F rfl fun _ F => ?_
 refine gx F (AYr AO0 rfl rfl (by decide)) 0 rfl rfl fun _ F => ?_
 refine gld F sn m2 2 rfl fun _ F => ?_
 have F := F.sub (m' := [(0, jP g9), (1, jP g0), (2, jP g1), (3, jP g2), (4, v0), (5, jP g4), (6, jP g5), (8, jU 19), (18, .slice (some ⟨g6, 0, none⟩) 3 3), (19, jI ((3 : Nat) : Int)), (20, jI 1)]) ⟨rfl, rfl, rfl, rfl, rfl, rfl, rfl, rfl, rfl, rfl, rfl, trivial⟩
 clear F
 refine ge 3 F rfl fun _ F => gld F sn m3 0 rfl fun _ F => As (args := [.const (.slice none 0 0), .tmp 25]) F ANp rfl (AAl rfl rfl) rfl fun v5 wi _ h7 F => ?_
 obtain ⟨ga, gb, rfl, h8⟩ := h7
 have so := sn.add h8
 refine gx F (AM8 (i := 19) AF3 rfl rfl (by decide)) 0 rfl rfl fun _ F => ?_
 refine AEk (nn := Aoy) (T := Aeh) (qs := [Blk ga 224 [.slice none 0 0], Blk gb 142 [clo 214 [jP g3]]]) (q1 := [Blk g3 47 [.slice none 0 0]]) (t := .fixed [] (.const [])) F so.f3.f3.f2.f3 rfl rfl AGd rfl rfl rfl (.inr m0) (fun _ _ h => SL.ANr (n := Aoy) rfl (SL.Axc (T := Aeh) (SL.AJt (c := 214) (d := 203) (s := 204) (t := 47) rfl (SL.Axc (T := Ty.u8) h).f3).f2).f3) fun v6 wj _ F sp => gw 1 F rfl fun _ F => ?_
 have F := F.sub (m' := [(0, jP g9), (1, jP g0), (2, jP g1), (3, jP g2), (4, v0), (5, jP g4), (6, jP g5), (18, .slice (some ⟨g6, 0, none⟩) 3 3), (19, jI ((3 : Nat) : Int)), (20, jI 1)]) ⟨rfl, rfl, rfl, rfl, rfl, rfl, rfl, rfl, rfl, rfl, trivial⟩
 clear F
 refine ge 6 F rfl fun _ F => ?_
 have F := F.sub (m' := [(0, jP g9), (1, jP g0), (2, jP g1), (3, jP g2), (4, v0), (5, jP g4), (6, jP g5), (18, .slice (some ⟨g6, 0, none⟩) 3 3), (19, jI ((3 : Nat) : Int)), (20, jI 2)]) ⟨rfl, rfl, rfl, rfl, rfl, rfl, rfl, rfl, rfl, rfl, trivial⟩
 clear F
 refine ge 6 F rfl fun _ F => ?_
 have F := F.sub (m' := [(0, jP g9), (1, jP g0), (2, jP g1), (3, jP g2), (4, v0), (5, jP g4), (6, jP g5), (18, .slice (some ⟨g6, 0, none⟩) 3 3), (19, jI ((3 : Nat) : Int)), (20, jI 2), (21, .bool true)]) ⟨rfl, rfl, rfl, rfl, rfl, rfl, rfl, rfl, rfl, rfl, rfl, trivial⟩
 clear F
 refine ge 9 F rfl fun _ F => ?_
 refine gx F (AYr AO0 rfl rfl (by decide)) 0 rfl rfl fun _ F => ?_
 refine gld F sp m2 2 rfl fun _ F => ?_
 have F := F.sub (m' := [(0, jP g9), (1, jP g0), (2, jP g1), (3, jP g2), (4, v0), (5, jP g4), (6, jP g5), (8, jU 32), (18, .slice (some ⟨g6, 0, none⟩) 3 3), (19, jI ((3 : Nat) : Int)), (20, jI 2)]) ⟨rfl, rfl, rfl, rfl, rfl, rfl, rfl, rfl, rfl, rfl, rfl, trivial⟩
 clear F
 refine ge 3 F rfl fun _ F => gld F sp m3 0 rfl fun _ F => As (args := [.const (.slice none 0 0), .tmp 25]) F ANp rfl (AAl rfl rfl) rfl fun v7 wk _ h9 F => ?_
 obtain ⟨gd, gf, rfl, ha⟩ := h9
 have sq := sp.add ha
 refine gx F (AM8 (i := 32) AF3 rfl rfl (by decide)) 0 rfl rfl fun _ F => ?_
 refine AEk (nn := Aoy) (T := Aeh) (qs := [Blk gd 224 [.slice none 0 0], Blk gf 142 [clo 214 [jP g3]]]) (q1 := [Blk g3 47 [.slice none 0 0]]) (t := .fixed [] (.const [])) F sq.f3.f3.f2.f3 rfl rfl AGd rfl rfl rfl (.inr m0) (fun _ _ h => SL.ANr (n := Aoy) rfl (SL.Axc (T := Aeh) (SL.AJt (c := 214) (d := 203) (s := 204) (t := 47) rfl (SL.Axc (T := Ty.u8) h).f3).f2).f3) fun v8 wl _ F sr => gw 1 F rfl fun _ F => ?_
 have F := F.sub (m' := [(0, jP g9), (1, jP g0), (2, jP g1), (3, jP g2), (4, v0), (5, jP g4), (6, jP g5), (18, .slice (some ⟨g6, 0, none⟩) 3 3), (19, jI ((3 : Nat) : Int)), (20, jI 2)]) ⟨rfl, rfl, rfl, rfl, rfl, rfl, rfl, rfl, rfl, rfl, trivial⟩
 clear F
 refine ge 6 F rfl fun _ F => ?_
 have F := F.sub (m' := [(0, jP g9), (1, jP g0), (2, jP g1), (3, jP g2), (4, v0), (5, jP g4), (6, jP g5), (18, .slice (some ⟨g6, 0, none⟩) 3 3), (19, jI ((3 : Nat) : Int)), (20, jI 3)]) ⟨rfl, rfl, rfl, rfl, rfl, rfl, rfl, rfl, rfl, rfl, trivial⟩
 clear F
 refine ge 6 F rfl fun _ F => ?_
 have F := F.sub (m' := [(0, jP g9), (1, jP g0), (2, jP g1), (3, jP g2), (4, v0), (5, jP g4), (6, jP g5), (18, .slice (some ⟨g6, 0, none⟩) 3 3), (19, jI ((3 : Nat) : Int)), (20, jI 3), (21, .bool false)]) ⟨rfl, rfl, rfl, rfl, rfl, rfl, rfl, rfl, rfl, rfl, rfl, trivial⟩
 clear F
 refine ge 10 F rfl fun _ F => ?_
 refine Ae (parts := [(0, .const (jU 1))]) Flat.u8 ([(1 : UInt8)] : List UInt8) F sr Aqg rfl (by decide) rfl rfl rfl (by simp [Value.cells]) rfl rfl rfl fun v9 wm _ F ss => ?_
 refine As (args := [.tmp 29]) F ANk rfl (A5e (Ag (fO ss m0))) rfl fun va wn _ hb F => ?_
 obtain ⟨gg, rfl, hc⟩ := hb
 have st := ss.add hc
 refine As (args := [.const (.slice none 0 0), .tmp 30]) F ANp rfl (AAl rfl rfl) rfl fun vb wo _ hd F => ?_
 obtain ⟨gh, gi, rfl, he⟩ := hd
 have su := st.add he
 refine gx F (AM8 (i := 1) AF3 rfl rfl (by decide)) 0 rfl rfl fun _ F => ?_
 refine AEk (nn := Aoy) (T := Aeh) (qs := [Blk gh 224 [.slice none 0 0], Blk gi 142 [clo 214 [jP gg]], Blk gg 47 [v9], Sl Ty.u8 v9 ([(1 : UInt8)] : List UInt8)]) (q1 := []) (t := .fixed [] (.const ([(1 : UInt8)] : List UInt8))) F su.f5.f5.f5.f5.f4.f5 rfl rfl AGd rfl rfl rfl (.inl rfl) (fun _ _ h => SL.ANr (n := Aoy) rfl (SL.Axc (T := Aeh) (SL.AJt (c := 214) (d := 203) (s := 204) (t := 47) rfl h.f3.f3).f2).f3) fun vc wp _ F sv => gw 1 F rfl fun _ F => ?_
 have F := F.sub (m' := [(0, jP g9), (1, jP g0), (2, jP g1), (3, jP g2), (4, v0), (5, jP g4), (6, jP g5)]) ⟨rfl, rfl, rfl, rfl, rfl, rfl, rfl, trivial⟩
 clear F
 refine ge 3 F rfl fun _ F => ?_
 refine Ae (parts := [(0, .const (jU 2))]) Flat.u8 ([(2 : UInt8)] : List UInt8) F sv.f2.drop Aqg rfl (by decide) rfl rfl rfl (by simp [Value.cells]) rfl rfl rfl fun vd wq _ F sw => ?_
 refine As (args := [.tmp 33]) F ANk rfl (A5e (Ag (fO sw m0))) rfl fun ve wr _ hf F => ?_
 obtain ⟨gj, rfl, hg⟩ := hf
 have sx := sw.add hg
 refine As (args := [.const (.slice none 0 0), .tmp 34]) F ANp rfl (AAl rfl rfl) rfl fun vf ws _ hh F => ?_
 obtain ⟨gk, gl, rfl, hi⟩ := hh
 have sy := sx.add hi
 refine gx F (AM8 (i := 2) AF3 rfl rfl (by decide)) 0 rfl rfl fun _ F => ?_
 refine AEk (nn := Aoy) (T := Aeh) (qs := [Blk gk 224 [.slice none 0 0], Blk gl 142 [clo 214 [jP gj]], Blk gj 47 [vd], Sl Ty.u8 vd ([(2 : UInt8)] : List UInt8)]) (q1 := []) (t := .fixed [] (.const ([(2 : UInt8)] : List UInt8))) F sy.f5.f5.f5.f5.f4.f5 rfl rfl AGd rfl rfl rfl (.inl rfl) (fun _ _ h => SL.ANr (n := Aoy) rfl (SL.Axc (T := Aeh) (SL.AJt (c := 214) (d := 203) (s := 204) (t := 47) rfl h.f3.f3).f2).f3) fun vg wt _ F sz => gw 1 F rfl fun _ F => ?_
 have F := F.sub (m' := [(0, jP g9), (1, jP g0), (2, jP g1), (3, jP g2), (4, v0), (5, jP g4), (6, jP g5)]) ⟨rfl, rfl, rfl, rfl, rfl, rfl, rfl, trivial⟩
 clear F
 refine ge 3 F rfl fun _ F => ?_
 refine Ae (parts := [(0, .const (jU 3))]) Flat.u8 ([(3 : UInt8)] : List UInt8) F sz Aqg rfl (by decide) rfl rfl rfl (by simp [Value.cells]) rfl rfl rfl fun vh wu _ F s10 => ?_
 refine As (args := [.tmp 37]) F ANk rfl (A5e (Ag (fO s10 m0))) rfl fun vi wv _ hj F => ?_
 obtain ⟨gm, rfl, hk⟩ := hj
 have s11 := s10.add hk
 refine As (args := [.const (.slice none 0 0), .tmp 38]) F ANp rfl (AAl rfl rfl) rfl fun vj ww _ hl F => ?_
 obtain ⟨gn, go, rfl, hm⟩ := hl
 have s12 := s11.add hm
 refine gx F (AM8 (i := 3) AF3 rfl rfl (by decide)) 0 rfl rfl fun _ F => ?_
 refine AEk (nn := Aoy) (T := Aeh) (qs := [Blk gn 224 [.slice none 0 0], Blk go 142 [clo 214 [jP gm]], Blk gm 47 [vh], Sl Ty.u8 vh ([(3 : UInt8)] : List UInt8)]) (q1 := []) (t := .fixed [] (.const ([(3 : UInt8)] : List UInt8))) F s12.f5.f5.f5.f5.f4.f5 rfl rfl AGd rfl rfl rfl (.inl rfl) (fun _ _ h => SL.ANr (n := Aoy) rfl (SL.Axc (T := Aeh) (SL.AJt (c := 214) (d := 203) (s := 204) (t := 47) rfl h.f3.f3).f2).f3) fun vk wx _ F s14 => gw 1 F rfl fun _ F => ?_
 have F := F.sub (m' := [(0, jP g9), (1, jP g0), (2, jP g1), (3, jP g2), (4, v0), (5, jP g4), (6, jP g5)]) ⟨rfl, rfl, rfl, rfl, rfl, rfl, rfl, trivial⟩
 clear F
 refine ge 3 F rfl fun _ F => ?_
 refine Ae (parts := [(0, .const (jU 0))]) Flat.u8 ([(0 : UInt8)] : List UInt8) F s14 Aqg rfl (by decide) rfl rfl rfl (by simp [Value.cells]) rfl rfl rfl fun vl wy _ F s16 => ?_
 refine As (args := [.tmp 41]) F ANk rfl (A5e (Ag (fO s16 m0))) rfl fun vm wz _ hn F => ?_
 obtain ⟨gp, rfl, hp⟩ := hn
 have s17 := s16.add hp
 refine As (args := [.const (.slice none 0 0), .tmp 42]) F ANp rfl (AAl rfl rfl) rfl fun vn w11 _ hr F => ?_
 obtain ⟨gq, gr, rfl, hs⟩ := hr
 have s18 := s17.add hs
 refine gx F (AM8 (i := 4) AF3 rfl rfl (by decide)) 0 rfl rfl fun _ F => ?_
 refine AEk (nn := Aoy) (T := Aeh) (qs := [Blk gq 224 [.slice none 0 0], Blk gr 142 [clo 214 [jP gp]], Blk gp 47 [vl], Sl Ty.u8 vl ([(0 : UInt8)] : List UInt8)]) (q1 := []) (t := .fixed [] (.const ([(0 : UInt8)] : List UInt8))) F s18.f5.f5.f5.f5.f4.f5 rfl rfl AGd rfl rfl rfl (.inl rfl) (fun _ _ h => SL.ANr (n := Aoy) rfl (SL.Axc (T := Aeh) (SL.AJt (c := 214) (d := 203) (s := 204) (t := 47) rfl h.f3.f3).f2).f3) fun vo w12 _ F s19 => gw 1 F rfl fun _ F => ?_
 have F := F.sub (m' := [(0, jP g9), (1, jP g0), (2, jP g1), (3, jP g2), (4, v0), (5, jP g4), (6, jP g5)]) ⟨rfl, rfl, rfl, rfl, rfl, rfl, rfl, trivial⟩
 clear F
 refine ge 3 F rfl fun _ F => gx F (Al (vs := [jI 1]) APd AT5 rfl (cs := [jI 1, jU 0]) (rfl)) 0 rfl rfl fun _ F => ?_
 refine Ae (parts := [(0, .tmp 45)]) A7j ([(⟨1, 0⟩ : Aaz)] : List Aaz) F s19 AG7 rfl (by decide) rfl rfl rfl (by simp [Value.cells]) rfl rfl rfl fun vp w13 _ F s1a => ?_
 refine gld F s1a m3 0 rfl fun _ F => As (args := [.tmp 46, .tmp 47]) F ANp rfl (AAl (Ag (fO s1a m0)) rfl) rfl fun vq w14 _ hv F => ?_
 obtain ⟨gs, gt, rfl, hw⟩ := hv
 have s1b := s1a.add hw
 refine gx F (AM8 (i := 5) AF3 rfl rfl (by decide)) 0 rfl rfl fun _ F => ?_
 refine AEk (nn := Aoy) (T := Aeh) (qs := [Blk gs 224 [vp], Sl Aeh vp ([(⟨1, 0⟩ : Aaz)] : List Aaz), Blk gt 142 [clo 214 [jP g3]]]) (q1 := [Blk g3 47 [.slice none 0 0]]) (t := .fixed ([(⟨1, 0⟩ : Aaz)] : List Aaz) (.const [])) F s1b.f4.f4.f2.f4.f4 rfl rfl AGd rfl rfl rfl (.inr m0) (fun _ _ h => SL.ANr (n := Aoy) rfl (SL.AJt (c := 214) (d := 203) (s := 204) (t := 47) rfl (SL.Axc (T := Ty.u8) h).f4).f3.f3.f3) fun vr w15 _ F s1c => gw 1 F rfl fun _ F => ?_
 have F := F.sub (m' := [(0, jP g9), (1, jP g0), (2, jP g1), (3, jP g2), (4, v0), (5, jP g4), (6, jP g5)]) ⟨rfl, rfl, rfl, rfl, rfl, rfl, rfl, trivial⟩
 clear F
 refine ge 3 F rfl fun _ F => gx F (Al (vs := [jI 0]) APd AT5 rfl (cs := [jI 0, jU 0]) (rfl)) 0 rfl rfl fun _ F => ?_
 refine Ae (parts := [(0, .tmp 50)]) A7j ([(⟨0, 0⟩ : Aaz)] : List Aaz) F s1c AG7 rfl (by decide) rfl rfl rfl (by simp [Value.cells]) rfl rfl rfl fun vt w16 _ F s1d => ?_
 refine gld F s1d m3 0 rfl fun _ F => As (args := [.tmp 51, .tmp 52]) F ANp rfl (AAl (Ag (fO s1d m0)) rfl) rfl fun vu w17 _ hx F => ?_
 obtain ⟨gu, gv, rfl, hy⟩ := hx
 have s1e := s1d.add hy
 refine gx F (AM8 (i := 6) AF3 rfl rfl (by decide)) 0 rfl rfl fun _ F => ?_
 refine AEk (nn := Aoy) (T := Aeh) (qs := [Blk gu 224 [vt], Sl Aeh vt ([(⟨0, 0⟩ : Aaz)] : List Aaz), Blk gv 142 [clo 214 [jP g3]]]) (q1 := [Blk g3 47 [.slice none 0 0]]) (t := .fixed ([(⟨0, 0⟩ : Aaz)] : List Aaz) (.const [])) F s1e.f4.f4.f2.f4.f4 rfl rfl AGd rfl rfl rfl (.inr m0) (fun _ _ h => SL.ANr (n := Aoy) rfl (SL.AJt (c := 214) (d := 203) (s := 204) (t := 47) rfl (SL.Axc (T := Ty.u8) h).f4).f3.f3.f3) fun vv w18 _ F s1f => gw 1 F rfl fun _ F => ?_
 have F := F.sub (m' := [(0, jP g9), (1, jP g0), (2, jP g1), (3, jP g2), (4, v0), (5, jP g4), (6, jP g5)]) ⟨rfl, rfl, rfl, rfl, rfl, rfl, rfl, trivial⟩
 clear F
 refine ge 3 F rfl fun _ F => gx F (Al (vs := [jI 0]) APd AT5 rfl (cs := [jI 0, jU 0]) (rfl)) 0 rfl rfl fun _ F => ?_
 refine Ae (parts := [(0, .tmp 55)]) A7j ([(⟨0, 0⟩ : Aaz)] : List Aaz) F s1f AG7 rfl (by decide) rfl rfl rfl (by simp [Value.cells]) rfl rfl rfl fun vw w19 _ F s1g => ?_
 refine As (args := [.tmp 56, .func 203]) F ANp rfl (AAl (Ag (fO s1g m0)) rfl) rfl fun vx w1a _ hz F => ?_
 obtain ⟨gy, gz, rfl, h10⟩ := hz
 have s1h := s1g.add h10
 refine gx F (AM8 (i := 7) AF3 rfl rfl (by decide)) 0 rfl rfl fun _ F => ?_
 refine AEk (nn := Aoy) (T := Aeh) (qs := [Blk gy 224 [vw], Sl Aeh vw ([(⟨0, 0⟩ : Aaz)] : List Aaz), Blk gz 142 [clo 203 []]]) (q1 := []) (t := .fixed ([(⟨0, 0⟩ : Aaz)] : List Aaz) (.dup)) F s1h.f4.f4.f2.f4.f4 rfl rfl AGd rfl rfl rfl (.inl rfl) (fun _ _ h => SL.ANr (n := Aoy) rfl (SL.B1a (c := 214) (d := 203) (s := 204) (t := 47) h).f3.f3.f3) fun vy w1b _ F s1i => gw 1 F rfl fun _ F => ?_
 have F := F.sub (m' := [(0, jP g9), (1, jP g0), (2, jP g1), (3, jP g2), (4, v0), (5, jP g4), (6, jP g5)]) ⟨rfl, rfl, rfl, rfl, rfl, rfl, rfl, trivial⟩
 clear F
 refine ge 3 F rfl fun _ F => gx F (Al (vs := [jI 0]) APd AT5 rfl (cs := [jI 0, jU 0]) (rfl)) 0 rfl rfl fun _ F => gx F (Al (vs := [jI 0]) APd AT5 rfl (cs := [jI 0, jU 0]) (rfl)) 0 rfl rfl fun _ F => ?_
 refine Ae (parts := [(0, .tmp 59), (1, .tmp 60)]) A7j ([(⟨0, 0⟩ : Aaz), (⟨0, 0⟩ : Aaz)] : List Aaz) F s1i AG7 rfl (by decide) rfl rfl rfl (by simp [Value.cells]) rfl rfl rfl fun vz w1c _ F s1j => ?_
 refine As (args := [.tmp 61, .func 204]) F ANp rfl (AAl (Ag (fO s1j m0)) rfl) rfl fun v10 w1d _ h11 F => ?_
 obtain ⟨g10, g11, rfl, h12⟩ := h11
 have s1k := s1j.add h12
 refine gx F (AM8 (i := 8) AF3 rfl rfl (by decide)) 0 rfl rfl fun _ F => ?_
 refine AEk (nn := Aoy) (T := Aeh) (qs := [Blk g10 224 [vz], Sl Aeh vz ([(⟨0, 0⟩ : Aaz), (⟨0, 0⟩ : Aaz)] : List Aaz), Blk g11 142 [clo 204 []]]) (q1 := []) (t := .fixed ([(⟨0, 0⟩ : Aaz), (⟨0, 0⟩ : Aaz)] : List Aaz) (.swap)) F s1k.f4.f4.f2.f4.f4 rfl rfl AGd rfl rfl rfl (.inl rfl) (fun _ _ h => SL.ANr (n := Aoy) rfl (SL.B0j (c := 214) (d := 203) (s := 204) (t := 47) h).f3.f3.f3) fun v11 w1e _ F s1l => gw 1 F rfl fun _ F => ?_
 have F := F.sub (m' := [(0, jP g9), (1, jP g0), (2, jP g1), (3, jP g2), (4, v0), (5, jP g4), (6, jP g5)]) ⟨rfl, rfl, rfl, rfl, rfl, rfl, rfl, trivial⟩
 clear F
 refine ge 4 F rfl fun _ F => ?_
 refine Bly (parts := [(0, .const (jU 9)), (1, .const (jU 10)), (2, .const (jU 11)), (3, .const (jU 12)), (4, .const (jU 13))]) (vs := [jU 9, jU 10, jU 11, jU 12, jU 13]) F s1l AO0 rfl (by decide) rfl rfl rfl (Bgu (AUl rfl (AUl rfl (AUl rfl (AUl rfl (AUl rfl Blq)))))) rfl fun g12 w1f _ F s1m => ?_
 refine gx F (Ak rfl underlying42 ⟨_, _, rfl⟩) 2 rfl rfl fun _ F => ?_
 have F := F.sub (m' := [(0, jP g9), (1, jP g0), (2, jP g1), (3, jP g2), (4, v0), (5, jP g4), (6, jP g5), (64, .slice (some ⟨g12, 0, none⟩) 5 5), (65, jI ((5 : Nat) : Int)), (66, jI 0)]) ⟨rfl, rfl, rfl, rfl, rfl, rfl, rfl, rfl, rfl, rfl, trivial⟩
 clear F
 refine ge 2 F rfl fun _ F => rdk 5 <| gc 4 F rfl fun _ F => ?_
 have F := F.sub (m' := [(0, jP g9), (1, jP g0), (2, jP g1), (3, jP g2), (4, v0), (5, jP g4), (6, jP g5), (64, .slice (some ⟨g12, 0, none⟩) 5 5), (65, jI ((5 : Nat) : Int)), (66, jI 0), (67, .bool true)]) ⟨rfl, rfl, rfl, rfl, rfl, rfl, rfl, rfl, rfl, rfl, rfl, trivial⟩
 clear F
 refine ge 9 F rfl fun _ F => ?_
 refine gx F (AYr AO0 rfl rfl (by decide)) 0 rfl rfl fun _ F => ?_
 refine gld F s1m m0 2 rfl fun _ F => ?_
 have F := F.sub (m' := [(0, jP g9), (1, jP g0), (2, jP g1), (3, jP g2), (4, v0), (5, jP g4), (6, jP g5), (10, jU 9), (64, .slice (some ⟨g12, 0, none⟩) 5 5), (65, jI ((5 : Nat) : Int)), (66, jI 0)]) ⟨rfl, rfl, rfl, rfl, rfl, rfl, rfl, rfl, rfl, rfl, rfl, trivial⟩
 clear F
 refine ge 4 F rfl fun _ F => ?_
 refine Ae (parts := [(0, .const (jU 1))]) Flat.u8 ([(1 : UInt8)] : List UInt8) F s1m Aqg rfl (by decide) rfl rfl rfl (by simp [Value.cells]) rfl rfl rfl fun v12 w1g _ F s1n => ?_
 refine As (args := [.tmp 72]) F ANk rfl (A5e (Ag (fO s1n m0))) rfl fun v13 w1h _ h13 F => ?_
 obtain ⟨g13, rfl, h14⟩ := h13
 have s1o := s1n.add h14
 refine As (args := [.tmp 71, .tmp 73]) F ANp rfl (AAl (Ag (fO s1o m6)) rfl) rfl fun v14 w1i _ h15 F => ?_
 obtain ⟨g14, g15, rfl, h16⟩ := h15
 have s1p := s1o.add h16
 refine gx F (AM8 (i := 9) AF3 rfl rfl (by decide)) 0 rfl rfl fun _ F => ?_
 have h17 := AVo (s1p.A59 m8)
 have s1q := SL.Bq7 (qs := [Sl Aeh v0 ([(⟨x0.kind, x0.t⟩ : Aaz), (⟨x0.kind, x0.t⟩ : Aaz)] : List Aaz)]) s1p.f6.f8
 refine AEk (nn := Aoy) (T := Aeh) (qs := [Blk g14 224 [v0], Blk g15 142 [clo 214 [jP g13]], Blk g13 47 [v12], Sl Ty.u8 v12 ([(1 : UInt8)] : List UInt8)]) (q1 := [Sl Aeh v0 ([(⟨x0.kind, x0.t⟩ : Aaz), (⟨x0.kind, x0.t⟩ : Aaz)] : List Aaz)]) (t := .fixed ([(⟨x0.kind, x0.t⟩ : Aaz), (⟨x0.kind, x0.t⟩ : Aaz)] : List Aaz) (.const ([(1 : UInt8)] : List UInt8))) F s1q.f6.f5.f5.f4.f5 rfl rfl AGd rfl rfl rfl (.inr m0) (fun _ _ h => SL.ANr (n := Aoy) rfl (SL.AJt (c := 214) (d := 203) (s := 204) (t := 47) rfl h.f3.f3).f2.f3.f3) fun v15 w1j _ F s1r => gw 1 F rfl fun _ F => ?_
 have F := F.sub (m' := [(0, jP g9), (1, jP g0), (2, jP g1), (3, jP g2), (4, v0), (5, jP g4), (6, jP g5), (64, .slice (some ⟨g12, 0, none⟩) 5 5), (65, jI ((5 : Nat) : Int)), (66, jI 0)]) ⟨rfl, rfl, rfl, rfl, rfl, rfl, rfl, rfl, rfl, rfl, trivial⟩
 clear F
 refine ge 6 F rfl fun _ F => ?_
 have F := F.sub (m' := [(0, jP g9), (1, jP g0), (2, jP g1), (3, jP g2), (4, v0), (5, jP g4), (6, jP g5), (64, .slice (some ⟨g12, 0, none⟩) 5 5), (65, jI ((5 : Nat) : Int)), (66, jI 1)]) ⟨rfl, rfl, rfl, rfl, rfl, rfl, rfl, rfl, rfl, rfl, trivial⟩
 clear F
 refine ge 6 F rfl fun _ F => ?_
 have F := F.sub (m' := [(0, jP g9), (1, jP g0), (2, jP g1), (3, jP g2), (4, v0), (5, jP g4), (6, jP g5), (64, .slice (some ⟨g12, 0, none⟩) 5 5), (65, jI ((5 : Nat) : Int)), (66, jI 1), (67, .bool true)]) ⟨rfl, rfl, rfl, rfl, rfl, rfl, rfl, rfl, rfl, rfl, rfl, trivial⟩
 clear F
 refine ge 9 F rfl fun _ F => ?_
 refine gx F (AYr AO0 rfl rfl (by decide)) 0 rfl rfl fun _ F => ?_
 refine gld F s1r m2 2 rfl fun _ F => ?_
 have F := F.sub (m' := [(0, jP g9), (1, jP g0), (2, jP g1), (3, jP g2), (4, v0), (5, jP g4), (6, jP g5), (10, jU 10), (64, .slice (some ⟨g12, 0, none⟩) 5 5), (65, jI ((5 : Nat) : Int)), (66, jI 1)]) ⟨rfl, rfl, rfl, rfl, rfl, rfl, rfl, rfl, rfl, rfl, rfl, trivial⟩
 clear F
 refine ge 4 F rfl fun _ F => ?_
 refine Ae (parts := [(0, .const (jU 1))]) Flat.u8 ([(1 : UInt8)] : List UInt8) F s1r Aqg rfl (by decide) rfl rfl rfl (by simp [Value.cells]) rfl rfl rfl fun v16 w1k _ F s1s => ?_
 refine As (args := [.tmp 72]) F ANk rfl (A5e (Ag (fO s1s m0))) rfl fun v17 w1l _ h18 F => ?_
 obtain ⟨g16, rfl, h19⟩ := h18
 have s1t := s1s.add h19
 refine As (args := [.tmp 71, .tmp 73]) F ANp rfl (AAl (Ag h17) rfl) rfl fun v18 w1m _ h1a F => ?_
 obtain ⟨g17, g18, rfl, h1b⟩ := h1a
 have s1u := s1t.add h1b
 refine gx F (AM8 (i := 10) AF3 rfl rfl (by decide)) 0 rfl rfl fun _ F => ?_
 refine AEk (nn := Aoy) (T := Aeh) (qs := [Blk g17 224 [v0], Blk g18 142 [clo 214 [jP g16]], Blk g16 47 [v16], Sl Ty.u8 v16 ([(1 : UInt8)] : List UInt8)]) (q1 := [Sl Aeh v0 ([(⟨x0.kind, x0.t⟩ : Aaz), (⟨x0.kind, x0.t⟩ : Aaz)] : List Aaz)]) (t := .fixed ([(⟨x0.kind, x0.t⟩ : Aaz), (⟨x0.kind, x0.t⟩ : Aaz)] : List Aaz) (.const ([(1 : UInt8)] : List UInt8))) F s1u.f5.f5.f5.f5.f4.f5 rfl rfl AGd rfl rfl rfl (.inr m0) (fun _ _ h => SL.ANr (n := Aoy) rfl (SL.AJt (c := 214) (d := 203) (s := 204) (t := 47) rfl h.f3.f3).f2.f3.f3) fun v19 w1n _ F s1v => gw 1 F rfl fun _ F => ?_
 have F := F.sub (m' := [(0, jP g9), (1, jP g0), (2, jP g1), (3, jP g2), (4, v0), (5, jP g4), (6, jP g5), (64, .slice (some ⟨g12, 0, none⟩) 5 5), (65, jI ((5 : Nat) : Int)), (66, jI 1)]) ⟨rfl, rfl, rfl, rfl, rfl, rfl, rfl, rfl, rfl, rfl, trivial⟩
 clear F
 refine ge 6 F rfl fun _ F => ?_
 have F := F.sub (m' := [(0, jP g9), (1, jP g0), (2, jP g1), (3, jP g2), (4, v0), (5, jP g4), (6, jP g5), (64, .slice (some ⟨g12, 0, none⟩) 5 5), (65, jI ((5 : Nat) : Int)), (66, jI 2)]) ⟨rfl, rfl, rfl, rfl, rfl, rfl, rfl, rfl, rfl, rfl, trivial⟩
 clear F
 refine ge 6 F rfl fun _ F => ?_
 have F := F.sub (m' := [(0, jP g9), (1, jP g0), (2, jP g1), (3, jP g2), (4, v0), (5, jP g4), (6, jP g5), (64, .slice (some ⟨g12, 0, none⟩) 5 5), (65, jI ((5 : Nat) : Int)), (66, jI 2), (67, .bool true)]) ⟨rfl, rfl, rfl, rfl, rfl, rfl, rfl, rfl, rfl, rfl, rfl, trivial⟩
 clear F
 refine ge 9 F rfl fun _ F => ?_
 refine gx F (AYr AO0 rfl rfl (by decide)) 0 rfl rfl fun _ F => ?_
 refine gld F s1v m2 2 rfl fun _ F => ?_
 have F := F.sub (m' := [(0, jP g9), (1, jP g0), (2, jP g1), (3, jP g2), (4, v0), (5, jP g4), (6, jP g5), (10, jU 11), (64, .slice (some ⟨g12, 0, none⟩) 5 5), (65, jI ((5 : Nat) : Int)), (66, jI 2)]) ⟨rfl, rfl, rfl, rfl, rfl, rfl, rfl, rfl, rfl, rfl, rfl, trivial⟩
 clear F
 refine ge 4 F rfl fun _ F => ?_
 refine Ae (parts := [(0, .const (jU 1))]) Flat.u8 ([(1 : UInt8)] : List UInt8) F s1v Aqg rfl (by decide) rfl rfl rfl (by simp [Value.cells]) rfl rfl rfl fun v1a w1o _ F s1w => ?_
 refine As (args := [.tmp 72]) F ANk rfl (A5e (Ag (fO s1w m0))) rfl fun v1b w1p _ h1c F => ?_
 obtain ⟨g19, rfl, h1d⟩ := h1c
 have s1x := s1w.add h1d
 refine As (args := [.tmp 71, .tmp 73]) F ANp rfl (AAl (Ag h17) rfl) rfl fun v1c w1q _ h1e F => ?_
 obtain ⟨g1a, g1b, rfl, h1f⟩ := h1e
 have s1y := s1x.add h1f
 refine gx F (AM8 (i := 11) AF3 rfl rfl (by decide)) 0 rfl rfl fun _ F => ?_
 refine AEk (nn := Aoy) (T := Aeh) (qs := [Blk g1a 224 [v0], Blk g1b 142 [clo 214 [jP g19]], Blk g19 47 [v1a], Sl Ty.u8 v1a ([(1 : UInt8)] : List UInt8)]) (q1 := [Sl Aeh v0 ([(⟨x0.kind, x0.t⟩ : Aaz), (⟨x0.kind, x0.t⟩ : Aaz)] : List Aaz)]) (t := .fixed ([(⟨x0.kind, x0.t⟩ : Aaz), (⟨x0.kind, x0.t⟩ : Aaz)] : List Aaz) (.const ([(1 : UInt8)] : List UInt8))) F s1y.f5.f5.f5.f5.f4.f5 rfl rfl AGd rfl rfl rfl (.inr m0) (fun _ _ h => SL.ANr (n := Aoy) rfl (SL.AJt (c := 214) (d := 203) (s := 204) (t := 47) rfl h.f3.f3).f2.f3.f3) fun v1d w1r _ F s1z => gw 1 F rfl fun _ F => ?_
 have F := F.sub (m' := [(0, jP g9), (1, jP g0), (2, jP g1), (3, jP g2), (4, v0), (5, jP g4), (6, jP g5), (64, .slice (some ⟨g12, 0, none⟩) 5 5), (65, jI ((5 : Nat) : Int)), (66, jI 2)]) ⟨rfl, rfl, rfl, rfl, rfl, rfl, rfl, rfl, rfl, rfl, trivial⟩
 clear F
 refine ge 6 F rfl fun _ F => ?_
 have F := F.sub (m' := [(0, jP g9), (1, jP g0), (2, jP g1), (3, jP g2), (4, v0), (5, jP g4), (6, jP g5), (64, .slice (some ⟨g12, 0, none⟩) 5 5), (65, jI ((5 : Nat) : Int)), (66, jI 3)]) ⟨rfl, rfl, rfl, rfl, rfl, rfl, rfl, rfl, rfl, rfl, trivial⟩
 clear F
 refine ge 6 F rfl fun _ F => ?_
 have F := F.sub (m' := [(0, jP g9), (1, jP g0), (2, jP g1), (3, jP g2), (4, v0), (5, jP g4), (6, jP g5), (64, .slice (some ⟨g12, 0, none⟩) 5 5), (65, jI ((5 : Nat) : Int)), (66, jI 3), (67, .bool true)]) ⟨rfl, rfl, rfl, rfl, rfl, rfl, rfl, rfl, rfl, rfl, rfl, trivial⟩
 clear F
 refine ge 9 F rfl fun _ F => ?_
 refine gx F (AYr AO0 rfl rfl (by decide)) 0 rfl rfl fun _ F => ?_
 refine gld F s1z m2 2 rfl fun _ F => ?_
 have F := F.sub (m' := [(0, jP g9), (1, jP g0), (2, jP g1), (3, jP g2), (4, v0), (5, jP g4), (6, jP g5), (10, jU 12), (64, .slice (some ⟨g12, 0, none⟩) 5 5), (65, jI ((5 : Nat) : Int)), (66, jI 3)]) ⟨rfl, rfl, rfl, rfl, rfl, rfl, rfl, rfl, rfl, rfl, rfl, trivial⟩
 clear F
 refine ge 4 F rfl fun _ F => ?_
 refine Ae (parts := [(0, .const (jU 1))]) Flat.u8 ([(1 : UInt8)] : List UInt8) F s1z Aqg rfl (by decide) rfl rfl rfl (by simp [Value.cells]) rfl rfl rfl fun v1e w1s _ F s20 => ?_
 refine As (args := [.tmp 72]) F ANk rfl (A5e (Ag (fO s20 m0))) rfl fun v1f w1t _ h1g F => ?_
 obtain ⟨g1c, rfl, h1h⟩ := h1g
 have s21 := s20.add h1h
 refine As (args := [.tmp 71, .tmp 73]) F ANp rfl (AAl (Ag h17) rfl) rfl fun v1g w1u _ h1i F => ?_
 obtain ⟨g1d, g1e, rfl, h1j⟩ := h1i
 have s22 := s21.add h1j
 refine gx F (AM8 (i := 12) AF3 rfl rfl (by decide)) 0 rfl rfl fun _ F => ?_
 refine AEk (nn := Aoy) (T := Aeh) (qs := [Blk g1d 224 [v0], Blk g1e 142 [clo 214 [jP g1c]], Blk g1c 47 [v1e], Sl Ty.u8 v1e ([(1 : UInt8)] : List UInt8)]) (q1 := [Sl Aeh v0 ([(⟨x0.kind, x0.t⟩ : Aaz), (⟨x0.kind, x0.t⟩ : Aaz)] : List Aaz)]) (t := .fixed ([(⟨x0.kind, x0.t⟩ : Aaz), (⟨x0.kind, x0.t⟩ : Aaz)] : List Aaz) (.const ([(1 : UInt8)] : List UInt8))) F s22.f5.f5.f5.f5.f4.f5 rfl rfl AGd rfl rfl rfl (.inr m0) (fun _ _ h => SL.ANr (n := Aoy) rfl (SL.AJt (c := 214) (d := 203) (s := 204) (t := 47) rfl h.f3.f3).f2.f3.f3) fun v1h w1v _ F s23 => gw 1 F rfl fun _ F => ?_
 have F := F.sub (m' := [(0, jP g9), (1, jP g0), (2, jP g1), (3, jP g2), (4, v0), (5, jP g4), (6, jP g5), (64, .slice (some ⟨g12, 0, none⟩) 5 5), (65, jI ((5 : Nat) : Int)), (66, jI 3)]) ⟨rfl, rfl, rfl, rfl, rfl, rfl, rfl, rfl, rfl, rfl, trivial⟩
 clear F
 refine ge 6 F rfl fun _ F => ?_
 have F := F.sub (m' := [(0, jP g9), (1, jP g0), (2, jP g1), (3, jP g2), (4, v0), (5, jP g4), (6, jP g5), (64, .slice (some ⟨g12, 0, none⟩) 5 5), (65, jI ((5 : Nat) : Int)), (66, jI 4)]) ⟨rfl, rfl, rfl, rfl, rfl, rfl, rfl, rfl, rfl, rfl, trivial⟩
 clear F
 refine ge 6 F rfl fun _ F => ?_
 have F := F.sub (m' := [(0, jP g9), (1, jP g0), (2, jP g1), (3, jP g2), (4, v0), (5, jP g4), (6, jP g5), (64, .slice (some ⟨g12, 0, none⟩) 5 5), (65, jI ((5 : Nat) : Int)), (66, jI 4), (67, .bool true)]) ⟨rfl, rfl, rfl, rfl, rfl, rfl, rfl, rfl, rfl, rfl, rfl, trivial⟩
 clear F
 refine ge 9 F rfl fun _ F => ?_
 refine gx F (AYr AO0 rfl rfl (by decide)) 0 rfl rfl fun _ F => ?_
 refine gld F s23 m2 2 rfl fun _ F => ?_
 have F := F.sub (m' := [(0, jP g9), (1, jP g0), (2, jP g1), (3, jP g2), (4, v0), (5, jP g4), (6, jP g5), (10, jU 13), (64, .slice (some ⟨g12, 0, none⟩) 5 5), (65, jI ((5 : Nat) : Int)), (66, jI 4)]) ⟨rfl, rfl, rfl, rfl, rfl, rfl, rfl, rfl, rfl, rfl, rfl, trivial⟩
 clear F
 refine ge 4 F rfl fun _ F => ?_
 refine Ae (parts := [(0, .const (jU 1))]) Flat.u8 ([(1 : UInt8)] : List UInt8) F s23 Aqg rfl (by decide) rfl rfl rfl (by simp [Value.cells]) rfl rfl rfl fun v1i w1w _ F s24 => ?_
 refine As (args := [.tmp 72]) F ANk rfl (A5e (Ag (fO s24 m0))) rfl fun v1j w1x _ h1k F => ?_
 obtain ⟨g1f, rfl, h1l⟩ := h1k
 have s25 := s24.add h1l
 refine As (args := [.tmp 71, .tmp 73]) F ANp rfl (AAl (Ag h17) rfl) rfl fun v1k w1y _ h1m F => ?_
 obtain ⟨g1g, g1h, rfl, h1n⟩ := h1m
 have s26 := s25.add h1n
 refine gx F (AM8 (i := 13) AF3 rfl rfl (by decide)) 0 rfl rfl fun _ F => ?_
 refine AEk (nn := Aoy) (T := Aeh) (qs := [Blk g1g 224 [v0], Blk g1h 142 [clo 214 [jP g1f]], Blk g1f 47 [v1i], Sl Ty.u8 v1i ([(1 : UInt8)] : List UInt8)]) (q1 := [Sl Aeh v0 ([(⟨x0.kind, x0.t⟩ : Aaz), (⟨x0.kind, x0.t⟩ : Aaz)] : List Aaz)]) (t := .fixed ([(⟨x0.kind, x0.t⟩ : Aaz), (⟨x0.kind, x0.t⟩ : Aaz)] : List Aaz) (.const ([(1 : UInt8)] : List UInt8))) F s26.f5.f5.f5.f5.f4.f5 rfl rfl AGd rfl rfl rfl (.inr m0) (fun _ _ h => SL.ANr (n := Aoy) rfl (SL.AJt (c := 214) (d := 203) (s := 204) (t := 47) rfl h.f3.f3).f2.f3.f3) fun v1l w1z _ F s27 => gw 1 F rfl fun _ F => ?_
 have F := F.sub (m' := [(0, jP g9), (1, jP g0), (2, jP g1), (3, jP g2), (4, v0), (5, jP g4), (6, jP g5), (64, .slice (some ⟨g12, 0, none⟩) 5 5), (65, jI ((5 : Nat) : Int)), (66, jI 4)]) ⟨rfl, rfl, rfl, rfl, rfl, rfl, rfl, rfl, rfl, rfl, trivial⟩
 clear F
 refine ge 6 F rfl fun _ F => ?_
 have F := F.sub (m' := [(0, jP g9), (1, jP g0), (2, jP g1), (3, jP g2), (4, v0), (5, jP g4), (6, jP g5), (64, .slice (some ⟨g12, 0, none⟩) 5 5), (65, jI ((5 : Nat) : Int)), (66, jI 5)]) ⟨rfl, rfl, rfl, rfl, rfl, rfl, rfl, rfl, rfl, rfl, trivial⟩
 clear F
 refine ge 6 F rfl fun _ F => ?_
 have F := F.sub (m' := [(0, jP g9), (1, jP g0), (2, jP g1), (3, jP g2), (4, v0), (5, jP g4), (6, jP g5), (64, .slice (some ⟨g12, 0, none⟩) 5 5), (65, jI ((5 : Nat) : Int)), (66, jI 5), (67, .bool false)]) ⟨rfl, rfl, rfl, rfl, rfl, rfl, rfl, rfl, rfl, rfl, rfl, trivial⟩
 clear F
 refine ge 9 F rfl fun _ F => AJp Aq8 s27.drop.drop ?_
 refine hq [0] F s27.drew.drop.drop (QI.ld m4 rfl <| QI.nil) (by kernel_rfl) fun _ F => ?_
 refine ANb [0, 1, 2, 3] (fun a w_ => ∃ v1m : Value, ∃ g1i : Nat, ∃ v1n : Value, Fr a 162 [(0, jP g9), (1, jP g0), (2, jP g1), (3, jP g2), (4, v0), (5, jP g4), (6, jP g5), (78, v1m), (80, clo 214 [jP g1i])] ∧ SL w [] w_ [Blk g12 5 [jU 9, jU 10, jU 11, jU 12, jU 13], Blk g4 142 [clo 214 [jP g3]], Blk g2 253 [jI x2.kind, jU (x2.t.toNat : Int)], Blk g1 253 [jI x1.kind, jU (x1.t.toNat : Int)], Blk g0 253 [jI x0.kind, jU (x0.t.toNat : Int)], Blk g9 249 (List.replicate 34 .nilFunc), Sl Aeh v1m ([(⟨x0.kind, x0.t⟩ : Aaz)] : List Aaz), Sl Ty.u8 v1n ([(1 : UInt8)] : List UInt8), Blk g1i 47 [v1n], Blk g5 249 v1l, AUf Aoy Aeh 34 v1l (Bcd x0 x1 x2) [[Sl Aeh v0 ([(⟨x0.kind, x0.t⟩ : Aaz), (⟨x0.kind, x0.t⟩ : Aaz)] : List Aaz)], [Blk g3 47 [.slice none 0 0]]]]) ?_ fun hD0 => ?_
 ·rintro a w_ ⟨v1m, g1i, v1n, F, s28⟩
  refine ho 4 rfl (by kernel_rfl) ?_
  refine As (args := [.tmp 78, .tmp 80]) F ANp rfl (AAl (Ag (fO s28 m6)) rfl) rfl fun v1o w20 _ h1o F => ?_
  obtain ⟨g1j, g1k, rfl, h1p⟩ := h1o
  have s29 := s28.add h1p
  refine gw 1 F rfl fun _ F => ⟨s29.drop.drop.f6.drop.f6.drop.f6.drop.f6.drop.f6.drop, ?_⟩
  refine hq [5] F s29.drop.drop.f6.drop.f6.drop.f6.drop.f6.drop.f6.drop (QI.op rfl (fun _ hC => AM8 (i := 14) AF3 rfl rfl (by decide)) rfl <| QI.nil) (by kernel_rfl) fun _ F => ?_
  refine ho 6 rfl (by kernel_rfl) ?_
  refine AEk (nn := Aoy) (T := Aeh) (qs := [Blk g1j 224 [v1m], Sl Aeh v1m ([(⟨x0.kind, x0.t⟩ : Aaz)] : List Aaz), Blk g1k 142 [clo 214 [jP g1i]], Blk g1i 47 [v1n], Sl Ty.u8 v1n ([(1 : UInt8)] : List UInt8)]) (q1 := []) (t := .fixed ([(⟨x0.kind, x0.t⟩ : Aaz)] : List Aaz) (.const ([(1 : UInt8)] : List UInt8))) F s29.f12.f12.f11.f12.f4.f12.f6 rfl rfl AGd rfl rfl rfl (.inl rfl) (fun _ _ h => SL.ANr (n := Aoy) rfl (SL.AJt (c := 214) (d := 203) (s := 204) (t := 47) rfl h.f4.f4).f3.f3.f3) fun v1p w21 _ F s2a => gw 1 F rfl fun _ F => ⟨s2a.drop.drop, ?_⟩
  refine ANu (by kernel_rfl) ?_
  refine ge 4 F rfl fun _ F => ?_
  refine Ae (parts := [(0, .const (jU 2))]) Flat.u8 ([(2 : UInt8)] : List UInt8) F s2a Aqg rfl (by decide) rfl rfl rfl (by simp [Value.cells]) rfl rfl rfl fun v1q w22 _ F s2b => ?_
  refine As (args := [.tmp 84]) F ANk rfl (A5e (Ag (fO s2b m0))) rfl fun v1r w23 _ h1q F => ?_
  obtain ⟨g1l, rfl, h1r⟩ := h1q
  have s2c := s2b.add h1r
  refine As (args := [.tmp 83, .tmp 85]) F ANp rfl (AAl (Ag h17) rfl) rfl fun v1s w24 _ h1s F => ?_
  obtain ⟨g1m, g1n, rfl, h1t⟩ := h1s
  have s2d := s2c.add h1t
  refine gx F (AM8 (i := 15) AF3 rfl rfl (by decide)) 0 rfl rfl fun _ F => ?_
  refine AEk (nn := Aoy) (T := Aeh) (qs := [Blk g1m 224 [v0], Blk g1n 142 [clo 214 [jP g1l]], Blk g1l 47 [v1q], Sl Ty.u8 v1q ([(2 : UInt8)] : List UInt8)]) (q1 := [Sl Aeh v0 ([(⟨x0.kind, x0.t⟩ : Aaz), (⟨x0.kind, x0.t⟩ : Aaz)] : List Aaz)]) (t := .fixed ([(⟨x0.kind, x0.t⟩ : Aaz), (⟨x0.kind, x0.t⟩ : Aaz)] : List Aaz) (.const ([(2 : UInt8)] : List UInt8))) F s2d.f5.f5.f5.f5.f4.f5 rfl rfl AGd rfl rfl rfl (.inr m0) (fun _ _ h => SL.ANr (n := Aoy) rfl (SL.AJt (c := 214) (d := 203) (s := 204) (t := 47) rfl h.f3.f3).f2.f3.f3) fun v1t w25 _ F s2e => gw 1 F rfl fun _ F => ?_
  have F := F.sub (m' := [(0, jP g9), (1, jP g0), (2, jP g1), (3, jP g2), (5, jP g4), (6, jP g5)]) ⟨rfl, rfl, rfl, rfl, rfl, rfl, trivial⟩
  clear F
  refine ge 3 F rfl fun _ F => gx F (Al (vs := [jI 3]) APd AT5 rfl (cs := [jI 3, jU 0]) (rfl)) 0 rfl rfl fun _ F => gx F (Al (vs := [jI 3]) APd AT5 rfl (cs := [jI 3, jU 0]) (rfl)) 0 rfl rfl fun _ F => ?_
  refine Ae (parts := [(0, .tmp 88), (1, .tmp 89)]) A7j ([(⟨3, 0⟩ : Aaz), (⟨3, 0⟩ : Aaz)] : List Aaz) F s2e.f2.drop AG7 rfl (by decide) rfl rfl rfl (by simp [Value.cells]) rfl rfl rfl fun v1u w26 _ F s2f => ?_
  refine Ae (parts := [(0, .const (jU 2))]) Flat.u8 ([(2 : UInt8)] : List UInt8) F s2f Aqg rfl (by decide) rfl rfl rfl (by simp [Value.cells]) rfl rfl rfl fun v1v w27 _ F s2g => ?_
  refine As (args := [.tmp 91]) F ANk rfl (A5e (Ag (fO s2g m0))) rfl fun v1w w28 _ h1u F => ?_
  obtain ⟨g1o, rfl, h1v⟩ := h1u
  have s2h := s2g.add h1v
  refine As (args := [.tmp 90, .tmp 92]) F ANp rfl (AAl (Ag (fO s2h m2)) rfl) rfl fun v1x w29 _ h1w F => ?_
  obtain ⟨g1p, g1q, rfl, h1x⟩ := h1w
  have s2i := s2h.add h1x
  refine gx F (AM8 (i := 16) AF3 rfl rfl (by decide)) 0 rfl rfl fun _ F => ?_
  refine AEk (nn := Aoy) (T := Aeh) (qs := [Blk g1p 224 [v1u], Sl Aeh v1u ([(⟨3, 0⟩ : Aaz), (⟨3, 0⟩ : Aaz)] : List Aaz), Blk g1q 142 [clo 214 [jP g1o]], Blk g1o 47 [v1v], Sl Ty.u8 v1v ([(2 : UInt8)] : List UInt8)]) (q1 := []) (t := .fixed ([(⟨3, 0⟩ : Aaz), (⟨3, 0⟩ : Aaz)] : List Aaz) (.const ([(2 : UInt8)] : List UInt8))) F s2i.f6.f6.f5.f5.f4.f6.f6 rfl rfl AGd rfl rfl rfl (.inl rfl) (fun _ _ h => SL.ANr (n := Aoy) rfl (SL.AJt (c := 214) (d := 203) (s := 204) (t := 47) rfl h.f4.f4).f3.f3.f3) fun v1y w2a _ F s2j => gw 1 F rfl fun _ F => ?_
  have F := F.sub (m' := [(0, jP g9), (1, jP g0), (2, jP g1), (3, jP g2), (5, jP g4), (6, jP g5)]) ⟨rfl, rfl, rfl, rfl, rfl, rfl, trivial⟩
  clear F
  refine ge 2 F rfl fun _ F => AJp Aq8 s2j.drop.drop ?_
  refine hq [0] F s2j.drew.drop.drop (QI.ld m2 rfl <| QI.nil) (by kernel_rfl) fun _ F => ?_
  refine ANb [0, 1, 2, 3] (fun a w_ => ∃ v1z : Value, ∃ g1r : Nat, ∃ v20 : Value, Fr a 162 [(0, jP g9), (1, jP g0), (2, jP g1), (3, jP g2), (5, jP g4), (6, jP g5), (96, v1z), (98, clo 214 [jP g1r])] ∧ SL w [] w_ [Blk g4 142 [clo 214 [jP g3]], Blk g2 253 [jI x2.kind, jU (x2.t.toNat : Int)], Blk g1 253 [jI x1.kind, jU (x1.t.toNat : Int)], Blk g0 253 [jI x0.kind, jU (x0.t.toNat : Int)], Blk g9 249 (List.replicate 34 .nilFunc), Sl Aeh v1z ([(⟨x1.kind, x1.t⟩ : Aaz)] : List Aaz), Sl Ty.u8 v20 ([(2 : UInt8)] : List UInt8), Blk g1r 47 [v20], Blk g5 249 v1y, AUf Aoy Aeh 34 v1y (Bb0 x0 x1 x2) [[Sl Aeh v0 ([(⟨x0.kind, x0.t⟩ : Aaz), (⟨x0.kind, x0.t⟩ : Aaz)] : List Aaz)], [Blk g3 47 [.slice none 0 0]]]]) ?_ fun hD0 => ?_
  ·rintro a w_ ⟨v1z, g1r, v20, F, s2k⟩
   refine ho 4 rfl (by kernel_rfl) ?_
   refine As (args := [.tmp 96, .tmp 98]) F ANp rfl (AAl (Ag (fO s2k m5)) rfl) rfl fun v21 w2b _ h1y F => ?_
   obtain ⟨g1s, g1t, rfl, h1z⟩ := h1y
   have s2l := s2k.add h1z
   refine gw 1 F rfl fun _ F => ⟨s2l.drop.drop.f5.drop.f5.drop.f5.drop.f5.drop.f5.drop, ?_⟩
   refine hq [5] F s2l.drop.drop.f5.drop.f5.drop.f5.drop.f5.drop.f5.drop (QI.op rfl (fun _ hC => AM8 (i := 17) AF3 rfl rfl (by decide)) rfl <| QI.nil) (by kernel_rfl) fun _ F => ?_
   refine ho 6 rfl (by kernel_rfl) ?_
   refine AEk (nn := Aoy) (T := Aeh) (qs := [Blk g1s 224 [v1z], Sl Aeh v1z ([(⟨x1.kind, x1.t⟩ : Aaz)] : List Aaz), Blk g1t 142 [clo 214 [jP g1r]], Blk g1r 47 [v20], Sl Ty.u8 v20 ([(2 : UInt8)] : List UInt8)]) (q1 := []) (t := .fixed ([(⟨x1.kind, x1.t⟩ : Aaz)] : List Aaz) (.const ([(2 : UInt8)] : List UInt8))) F s2l.f11.f11.f10.f11.f4.f11.f6 rfl rfl AGd rfl rfl rfl (.inl rfl) (fun _ _ h => SL.ANr (n := Aoy) rfl (SL.AJt (c := 214) (d := 203) (s := 204) (t := 47) rfl h.f4.f4).f3.f3.f3) fun v22 w2c _ F s2m => gw 1 F rfl fun _ F => ⟨s2m.drop.drop, ?_⟩
   refine ANu (by kernel_rfl) ?_
   refine ge 3 F rfl fun _ F => gx F (Al (vs := [jI 2]) APd AT5 rfl (cs := [jI 2, jU 0]) (rfl)) 0 rfl rfl fun _ F => gx F (Al (vs := [jI 2]) APd AT5 rfl (cs := [jI 2, jU 0]) (rfl)) 0 rfl rfl fun _ F => ?_
   refine Ae (parts := [(0, .tmp 101), (1, .tmp 102)]) A7j ([(⟨2, 0⟩ : Aaz), (⟨2, 0⟩ : Aaz)] : List Aaz) F s2m AG7 rfl (by decide) rfl rfl rfl (by simp [Value.cells]) rfl rfl rfl fun v23 w2d _ F s2n => ?_
   refine Ae (parts := [(0, .const (jU 2))]) Flat.u8 ([(2 : UInt8)] : List UInt8) F s2n Aqg rfl (by decide) rfl rfl rfl (by simp [Value.cells]) rfl rfl rfl fun v24 w2e _ F s2o => ?_
   refine As (args := [.tmp 104]) F ANk rfl (A5e (Ag (fO s2o m0))) rfl fun v25 w2f _ h20 F => ?_
   obtain ⟨g1u, rfl, h21⟩ := h20
   have s2p := s2o.add h21
   refine As (args := [.tmp 103, .tmp 105]) F ANp rfl (AAl (Ag (fO s2p m2)) rfl) rfl fun v26 w2g _ h22 F => ?_
   obtain ⟨g1v, g1w, rfl, h23⟩ := h22
   have s2q := s2p.add h23
   refine gx F (AM8 (i := 18) AF3 rfl rfl (by decide)) 0 rfl rfl fun _ F => ?_
   refine AEk (nn := Aoy) (T := Aeh) (qs := [Blk g1v 224 [v23], Sl Aeh v23 ([(⟨2, 0⟩ : Aaz), (⟨2, 0⟩ : Aaz)] : List Aaz), Blk g1w 142 [clo 214 [jP g1u]], Blk g1u 47 [v24], Sl Ty.u8 v24 ([(2 : UInt8)] : List UInt8)]) (q1 := []) (t := .fixed ([(⟨2, 0⟩ : Aaz), (⟨2, 0⟩ : Aaz)] : List Aaz) (.const ([(2 : UInt8)] : List UInt8))) F s2q.f6.f6.f5.f5.f4.f6.f6 rfl rfl AGd rfl rfl rfl (.inl rfl) (fun _ _ h => SL.ANr (n := Aoy) rfl (SL.AJt (c := 214) (d := 203) (s := 204) (t := 47) rfl h.f4.f4).f3.f3.f3) fun v27 w2h _ F s2r => gw 1 F rfl fun _ F => ?_
   have F := F.sub (m' := [(0, jP g9), (1, jP g0), (2, jP g1), (3, jP g2), (5, jP g4), (6, jP g5)]) ⟨rfl, rfl, rfl, rfl, rfl, rfl, trivial⟩
   clear F
   refine ge 3 F rfl fun _ F => gld F s2r m4 0 rfl fun _ F => ?_
   refine Ae (parts := [(0, .tmp 108)]) A7j ([(⟨x1.kind, x1.t⟩ : Aaz)] : List Aaz) F s2r AG7 rfl (by decide) rfl rfl rfl (by simp [Value.cells]) rfl rfl rfl fun v28 w2i _ F s2s => ?_
   refine gld F s2s m3 0 rfl fun _ F => As (args := [.tmp 109, .tmp 110]) F ANp rfl (AAl (Ag (fO s2s m0)) rfl) rfl fun v29 w2j _ h24 F => ?_
   obtain ⟨g1x, g1y, rfl, h25⟩ := h24
   have s2t := s2s.add h25
   refine gx F (AM8 (i := 20) AF3 rfl rfl (by decide)) 0 rfl rfl fun _ F => ?_
   refine AEk (nn := Aoy) (T := Aeh) (qs := [Blk g1x 224 [v28], Sl Aeh v28 ([(⟨x1.kind, x1.t⟩ : Aaz)] : List Aaz), Blk g1y 142 [clo 214 [jP g3]]]) (q1 := [Blk g3 47 [.slice none 0 0]]) (t := .fixed ([(⟨x1.kind, x1.t⟩ : Aaz)] : List Aaz) (.const [])) F s2t.f4.f4.f2.f4.f4 rfl rfl AGd rfl rfl rfl (.inr m1) (fun _ _ h => SL.ANr (n := Aoy) rfl (SL.AJt (c := 214) (d := 203) (s := 204) (t := 47) rfl (SL.Axc (T := Ty.u8) h).f4).f3.f3.f3) fun v2a w2k _ F s2u => gw 1 F rfl fun _ F => ?_
   have F := F.sub (m' := [(0, jP g9), (1, jP g0), (3, jP g2), (5, jP g4), (6, jP g5)]) ⟨rfl, rfl, rfl, rfl, rfl, trivial⟩
   clear F
   refine ge 3 F rfl fun _ F => ?_
   refine gx F (AM8 (i := 21) AF3 rfl rfl (by decide)) 0 rfl rfl fun _ F => ?_
   refine AEk (nn := Aoy) (T := Aeh) (qs := []) (q1 := []) (t := .call) F s2u.f1.f1 rfl rfl AGd rfl rfl rfl (.inl rfl) (fun _ _ h => SL.B0f (n := Aoy) rfl h) fun v2b w2l _ F s2v => gw 1 F rfl fun _ F => ?_
   have F := F.sub (m' := [(0, jP g9), (1, jP g0), (3, jP g2), (5, jP g4), (6, jP g5)]) ⟨rfl, rfl, rfl, rfl, rfl, trivial⟩
   clear F
   refine ge 3 F rfl fun _ F => gx F (AR9 (cs := [.tmp 5]) (vs := [jP g4]) rfl) 0 rfl rfl fun _ F => ?_
   refine gx F (AM8 (i := 22) AF3 rfl rfl (by decide)) 0 rfl rfl fun _ F => ?_
   have s2w := SL.B0h (qs := [Blk g4 142 [clo 214 [jP g3]]]) m1 s2v.f1.f2
   refine AEk (nn := Aoy) (T := Aeh) (qs := []) (q1 := [Blk g4 142 [clo 214 [jP g3]], Blk g3 47 [.slice none 0 0]]) (t := .ret (.const [])) F s2w.f1 rfl rfl AGd rfl rfl rfl (.inr m0) (fun _ _ h => SL.B1d (n := Aoy) rfl (SL.AJt (c := 214) (d := 203) (s := 204) (t := 47) rfl (SL.Axc (T := Ty.u8) h).f2).f1) fun v2c w2m _ F s2x => gw 1 F rfl fun _ F => ?_
   have F := F.sub (m' := [(0, jP g9), (1, jP g0), (3, jP g2), (5, jP g4), (6, jP g5)]) ⟨rfl, rfl, rfl, rfl, rfl, trivial⟩
   clear F
   refine ge 3 F rfl fun _ F => As (args := [.const (.slice none 0 0), .const (.bool true)]) F Bko rfl (Bbq rfl rfl) rfl fun v2d w2n _ h26 F => ?_
   obtain ⟨g1z, g20, rfl, h27⟩ := h26
   have s2y := s2x.add h27
   refine gx F (AM8 (i := 23) AF3 rfl rfl (by decide)) 0 rfl rfl fun _ F => ?_
   refine AEk (nn := Aoy) (T := Aeh) (qs := [Blk g20 4 [.bool true], Blk g1z 224 [.slice none 0 0]]) (q1 := []) (t := .classed [] true) F s2y.f3.f3.f3.f3 rfl rfl AGd rfl rfl rfl (.inl rfl) (fun _ _ h => SL.Bgm (n := Aoy) rfl (SL.Axc (T := Aeh) h).f2.f2) fun v2e w2o _ F s2z => gw 1 F rfl fun _ F => ?_
   have F := F.sub (m' := [(0, jP g9), (1, jP g0), (3, jP g2), (5, jP g4), (6, jP g5)]) ⟨rfl, rfl, rfl, rfl, rfl, trivial⟩
   clear F
   refine ge 3 F rfl fun _ F => As (args := [.const (.bool false)]) F Bq1 rfl (Bh5 rfl) rfl fun v2f w2p _ h28 F => ?_
   obtain ⟨g21, rfl, h29⟩ := h28
   have s30 := s2z.add h29
   refine gx F (AM8 (i := 24) AF3 rfl rfl (by decide)) 0 rfl rfl fun _ F => ?_
   refine AEk (nn := Aoy) (T := Aeh) (qs := [Blk g21 4 [.bool false]]) (q1 := []) (t := .field false) F s30.f2.f2.f2 rfl rfl AGd rfl rfl rfl (.inl rfl) (fun _ _ h => SL.Bra (n := Aoy) rfl h) fun v2g w2q _ F s31 => gw 1 F rfl fun _ F => ?_
   have F := F.sub (m' := [(0, jP g9), (1, jP g0), (3, jP g2), (5, jP g4), (6, jP g5)]) ⟨rfl, rfl, rfl, rfl, rfl, trivial⟩
   clear F
   refine ge 3 F rfl fun _ F => As (args := [.const (.bool true)]) F Bq1 rfl (Bh5 rfl) rfl fun v2h w2r _ h2a F => ?_
   obtain ⟨g22, rfl, h2b⟩ := h2a
   have s32 := s31.add h2b
   refine gx F (AM8 (i := 25) AF3 rfl rfl (by decide)) 0 rfl rfl fun _ F => ?_
   refine AEk (nn := Aoy) (T := Aeh) (qs := [Blk g22 4 [.bool true]]) (q1 := []) (t := .field true) F s32.f2.f2.f2 rfl rfl AGd rfl rfl rfl (.inl rfl) (fun _ _ h => SL.Bra (n := Aoy) rfl h) fun v2i w2s _ F s33 => gw 1 F rfl fun _ F => ?_
   have F := F.sub (m' := [(0, jP g9), (1, jP g0), (3, jP g2), (5, jP g4), (6, jP g5)]) ⟨rfl, rfl, rfl, rfl, rfl, trivial⟩
   clear F
   refine ge 2 F rfl fun _ F => AJp Aq8 s33.drop.drop ?_
   refine hq [0] F s33.drew.drop.drop (QI.ld m2 rfl <| QI.nil) (by kernel_rfl) fun _ F => ?_
   refine ANb [0, 1, 2, 3] (fun a w_ => ∃ v2j : Value, ∃ g23 : Nat, ∃ v2k : Value, Fr a 162 [(0, jP g9), (1, jP g0), (3, jP g2), (5, jP g4), (6, jP g5), (123, v2j), (125, clo 214 [jP g23])] ∧ SL w [] w_ [Blk g2 253 [jI x2.kind, jU (x2.t.toNat : Int)], Blk g1 253 [jI x1.kind, jU (x1.t.toNat : Int)], Blk g0 253 [jI x0.kind, jU (x0.t.toNat : Int)], Blk g9 249 (List.replicate 34 .nilFunc), Blk g5 249 v2i, Sl Aeh v2j ([(⟨x0.kind, x0.t⟩ : Aaz)] : List Aaz), Sl Ty.u8 v2k ([(4 : UInt8)] : List UInt8), Blk g23 47 [v2k], AUf Aoy Aeh 34 v2i (Bb3 x0 x1 x2) [[Blk g4 142 [clo 214 [jP g3]], Blk g3 47 [.slice none 0 0]], [Sl Aeh v0 ([(⟨x0.kind, x0.t⟩ : Aaz), (⟨x0.kind, x0.t⟩ : Aaz)] : List Aaz)], [Blk g3 47 [.slice none 0 0]]]]) ?_ fun hD0 => ?_
   ·rintro a w_ ⟨v2j, g23, v2k, F, s34⟩
    refine ho 4 rfl (by kernel_rfl) ?_
    refine As (args := [.tmp 123, .tmp 125]) F ANp rfl (AAl (Ag (fO s34 m5)) rfl) rfl fun v2l w2t _ h2c F => ?_
    obtain ⟨g24, g25, rfl, h2d⟩ := h2c
    have s35 := s34.add h2d
    refine gw 1 F rfl fun _ F => ⟨s35.drop.drop.f4.drop.f4.drop.f4.drop.f4.drop.f4.drop, ?_⟩
    refine hq [5] F s35.drop.drop.f4.drop.f4.drop.f4.drop.f4.drop.f4.drop (QI.op rfl (fun _ hC => AM8 (i := 26) AF3 rfl rfl (by decide)) rfl <| QI.nil) (by kernel_rfl) fun _ F => ?_
    refine ho 6 rfl (by kernel_rfl) ?_
    refine AEk (nn := Aoy) (T := Aeh) (qs := [Blk g24 224 [v2j], Sl Aeh v2j ([(⟨x0.kind, x0.t⟩ : Aaz)] : List Aaz), Blk g25 142 [clo 214 [jP g23]], Blk g23 47 [v2k], Sl Ty.u8 v2k ([(4 : UInt8)] : List UInt8)]) (q1 := []) (t := .fixed ([(⟨x0.kind, x0.t⟩ : Aaz)] : List Aaz) (.const ([(4 : UInt8)] : List UInt8))) F s35.f10.f7.f9.f10.f4.f10.f6 rfl rfl AGd rfl rfl rfl (.inl rfl) (fun _ _ h => SL.ANr (n := Aoy) rfl (SL.AJt (c := 214) (d := 203) (s := 204) (t := 47) rfl h.f4.f4).f3.f3.f3) fun v2m w2u _ F s36 => gw 1 F rfl fun _ F => ⟨s36.drop.drop, ?_⟩
    refine ANu (by kernel_rfl) ?_
    refine ge 2 F rfl fun _ F => AJp Aq8 s36.drop.drop ?_
    refine hq [0] F s36.drew.drop.drop (QI.ld m0 rfl <| QI.nil) (by kernel_rfl) fun _ F => ?_
    refine ANb [0, 1, 2, 3] (fun a w_ => ∃ v2n : Value, ∃ g26 : Nat, ∃ v2o : Value, Fr a 162 [(0, jP g9), (1, jP g0), (3, jP g2), (5, jP g4), (6, jP g5), (129, v2n), (131, clo 214 [jP g26])] ∧ SL w [] w_ [Blk g2 253 [jI x2.kind, jU (x2.t.toNat : Int)], Blk g1 253 [jI x1.kind, jU (x1.t.toNat : Int)], Blk g0 253 [jI x0.kind, jU (x0.t.toNat : Int)], Blk g9 249 (List.replicate 34 .nilFunc), Blk g5 249 v2m, Sl Aeh v2n ([(⟨x2.kind, x2.t⟩ : Aaz)] : List Aaz), Sl Ty.u8 v2o ([(1 : UInt8)] : List UInt8), Blk g26 47 [v2o], AUf Aoy Aeh 34 v2m (Bb2 x0 x1 x2) [[Blk g4 142 [clo 214 [jP g3]], Blk g3 47 [.slice none 0 0]], [Sl Aeh v0 ([(⟨x0.kind, x0.t⟩ : Aaz), (⟨x0.kind, x0.t⟩ : Aaz)] : List Aaz)], [Blk g3 47 [.slice none 0 0]]]]) ?_ fun hD0 => ?_
    ·rintro a w_ ⟨v2n, g26, v2o, F, s37⟩
     refine ho 4 rfl (by kernel_rfl) ?_
     refine As (args := [.tmp 129, .tmp 131]) F ANp rfl (AAl (Ag (fO s37 m5)) rfl) rfl fun v2p w2v _ h2e F => ?_
     obtain ⟨g27, g28, rfl, h2f⟩ := h2e
     have s38 := s37.add h2f
     refine gw 1 F rfl fun _ F => ⟨s38.drop.drop.f4.drop.f4.drop.f4.drop.f4.drop.f4.drop, ?_⟩
     refine hq [5] F s38.drop.drop.f4.drop.f4.drop.f4.drop.f4.drop.f4.drop (QI.op rfl (fun _ hC => AM8 (i := 27) AF3 rfl rfl (by decide)) rfl <| QI.nil) (by kernel_rfl) fun _ F => ?_
     refine ho 6 rfl (by kernel_rfl) ?_
     refine AEk (nn := Aoy) (T := Aeh) (qs := [Blk g27 224 [v2n], Sl Aeh v2n ([(⟨x2.kind, x2.t⟩ : Aaz)] : List Aaz), Blk g28 142 [clo 214 [jP g26]], Blk g26 47 [v2o], Sl Ty.u8 v2o ([(1 : UInt8)] : List UInt8)]) (q1 := []) (t := .fixed ([(⟨x2.kind, x2.t⟩ : Aaz)] : List Aaz) (.const ([(1 : UInt8)] : List UInt8))) F s38.f10.f7.f9.f10.f4.f10.f6 rfl rfl AGd rfl rfl rfl (.inl rfl) (fun _ _ h => SL.ANr (n := Aoy) rfl (SL.AJt (c := 214) (d := 203) (s := 204) (t := 47) rfl h.f4.f4).f3.f3.f3) fun v2q w2w _ F s39 => gw 1 F rfl fun _ F => ⟨s39.drop.drop, ?_⟩
     refine ANu (by kernel_rfl) ?_
     refine ge 2 F rfl fun _ F => AJp Aq8 s39.drop.drop ?_
     refine hq [0, 1] F s39.drew.drop.drop (QI.ld m0 rfl <| QI.ld m2 rfl <| QI.nil) (by kernel_rfl) fun _ F => ?_
     refine ANb [0, 1, 2, 3, 4] (fun a w_ => ∃ v2r : Value, ∃ g29 : Nat, ∃ v2s : Value, Fr a 162 [(0, jP g9), (1, jP g0), (3, jP g2), (5, jP g4), (6, jP g5), (136, v2r), (138, clo 214 [jP g29])] ∧ SL w [] w_ [Blk g2 253 [jI x2.kind, jU (x2.t.toNat : Int)], Blk g1 253 [jI x1.kind, jU (x1.t.toNat : Int)], Blk g0 253 [jI x0.kind, jU (x0.t.toNat : Int)], Blk g9 249 (List.replicate 34 .nilFunc), Blk g5 249 v2q, Sl Aeh v2r ([(⟨x2.kind, x2.t⟩ : Aaz), (⟨x0.kind, x0.t⟩ : Aaz)] : List Aaz), Sl Ty.u8 v2s ([(1 : UInt8)] : List UInt8), Blk g29 47 [v2s], AUf Aoy Aeh 34 v2q (Bb5 x0 x1 x2) [[Blk g4 142 [clo 214 [jP g3]], Blk g3 47 [.slice none 0 0]], [Sl Aeh v0 ([(⟨x0.kind, x0.t⟩ : Aaz), (⟨x0.kind, x0.t⟩ : Aaz)] : List Aaz)], [Blk g3 47 [.slice none 0 0]]]]) ?_ fun hD0 => ?_
     ·rintro a w_ ⟨v2r, g29, v2s, F, s3a⟩
      refine ho 5 rfl (by kernel_rfl) ?_
      refine As (args := [.tmp 136, .tmp 138]) F ANp rfl (AAl (Ag (fO s3a m5)) rfl) rfl fun v2t w2x _ h2g F => ?_
      obtain ⟨g2a, g2b, rfl, h2h⟩ := h2g
      have s3b := s3a.add h2h
      refine gw 1 F rfl fun _ F => ⟨s3b.drop.drop.f4.drop.f4.drop.f4.drop.f4.drop.f4.drop, ?_⟩
      refine hq [6] F s3b.drop.drop.f4.drop.f4.drop.f4.drop.f4.drop.f4.drop (QI.op rfl (fun _ hC => AM8 (i := 28) AF3 rfl rfl (by decide)) rfl <| QI.nil) (by kernel_rfl) fun _ F => ?_
      refine ho 7 rfl (by kernel_rfl) ?_
      refine AEk (nn := Aoy) (T := Aeh) (qs := [Blk g2a 224 [v2r], Sl Aeh v2r ([(⟨x2.kind, x2.t⟩ : Aaz), (⟨x0.kind, x0.t⟩ : Aaz)] : List Aaz), Blk g2b 142 [clo 214 [jP g29]], Blk g29 47 [v2s], Sl Ty.u8 v2s ([(1 : UInt8)] : List UInt8)]) (q1 := []) (t := .fixed ([(⟨x2.kind, x2.t⟩ : Aaz), (⟨x0.kind, x0.t⟩ : Aaz)] : List Aaz) (.const ([(1 : UInt8)] : List UInt8))) F s3b.f10.f7.f9.f10.f4.f10.f6 rfl rfl AGd rfl rfl rfl (.inl rfl) (fun _ _ h => SL.ANr (n := Aoy) rfl (SL.AJt (c := 214) (d := 203) (s := 204) (t := 47) rfl h.f4.f4).f3.f3.f3) fun v2u w2y _ F s3c => gw 1 F rfl fun _ F => ⟨s3c.drop.drop, ?_⟩
      refine ANu (by kernel_rfl) ?_
      refine ge 3 F rfl fun _ F => gld F s3c m2 0 rfl fun _ F => gld F s3c m4 0 rfl fun _ F => gld F s3c m4 0 rfl fun _ F => ?_
      refine Ae (parts := [(0, .tmp 141), (1, .tmp 142), (2, .tmp 143)]) A7j ([(⟨x2.kind, x2.t⟩ : Aaz), (⟨x0.kind, x0.t⟩ : Aaz), (⟨x0.kind, x0.t⟩ : Aaz)] : List Aaz) F s3c AG7 rfl (by decide) rfl rfl rfl (by simp [Value.cells]) rfl rfl rfl fun v2v w2z _ F s3d => ?_
      refine gx F (Ao Bn4 rfl (SL.Brc s3d m2 m0 m0 rfl)) 0 rfl rfl fun _ F => As (args := [.tmp 144, .tmp 145]) F ANp rfl (AAl (Ag (fO s3d m0)) rfl) rfl fun v2w w30 _ h2i F => ?_
      obtain ⟨g2c, g2d, rfl, h2j⟩ := h2i
      have s3e := s3d.add h2j
      refine gx F (AM8 (i := 29) AF3 rfl rfl (by decide)) 0 rfl rfl fun _ F => ?_
      refine AEk (nn := Aoy) (T := Aeh) (qs := [Blk g2c 224 [v2v], Sl Aeh v2v ([(⟨x2.kind, x2.t⟩ : Aaz), (⟨x0.kind, x0.t⟩ : Aaz), (⟨x0.kind, x0.t⟩ : Aaz)] : List Aaz), Blk g2d 142 [clo 214 [jP g3]]]) (q1 := [Blk g3 47 [.slice none 0 0]]) (t := .fixed ([(⟨x2.kind, x2.t⟩ : Aaz), (⟨x0.kind, x0.t⟩ : Aaz), (⟨x0.kind, x0.t⟩ : Aaz)] : List Aaz) (.const [])) F s3e.f4.f4.f2.f4.f4 rfl rfl AGd rfl rfl rfl (.inr m2) (fun _ _ h => SL.ANr (n := Aoy) rfl (SL.AJt (c := 214) (d := 203) (s := 204) (t := 47) rfl (SL.Axc (T := Ty.u8) h).f4).f3.f3.f3) fun v2x w31 _ F s3f => gw 1 F rfl fun _ F => ?_
      have F := F.sub (m' := [(0, jP g9), (1, jP g0), (5, jP g4), (6, jP g5)]) ⟨rfl, rfl, rfl, rfl, trivial⟩
      clear F
      refine ge 3 F rfl fun _ F => gx F (Al (vs := [jI 2]) APd AT5 rfl (cs := [jI 2, jU 0]) (rfl)) 0 rfl rfl fun _ F => ?_
      refine Ae (parts := [(0, .tmp 148)]) A7j ([(⟨2, 0⟩ : Aaz)] : List Aaz) F s3f AG7 rfl (by decide) rfl rfl rfl (by simp [Value.cells]) rfl rfl rfl fun v2y w32 _ F s3g => ?_
      refine As (args := [.tmp 149, .const (.bool true)]) F Bko rfl (Bbq (Ag (fO s3g m0)) rfl) rfl fun v2z w33 _ h2k F => ?_
      obtain ⟨g2e, g2f, rfl, h2l⟩ := h2k
      have s3h := s3g.add h2l
      refine gx F (AM8 (i := 30) AF3 rfl rfl (by decide)) 0 rfl rfl fun _ F => ?_
      refine AEk (nn := Aoy) (T := Aeh) (qs := [Blk g2f 4 [.bool true], Blk g2e 224 [v2y], Sl Aeh v2y ([(⟨2, 0⟩ : Aaz)] : List Aaz)]) (q1 := []) (t := .classed ([(⟨2, 0⟩ : Aaz)] : List Aaz) true) F s3h.f4.f4.f4.f4.f4 rfl rfl AGd rfl rfl rfl (.inl rfl) (fun _ _ h => SL.Bgm (n := Aoy) rfl h.f2.f2.f2) fun v30 w34 _ F s3i => gw 1 F rfl fun _ F => ?_
      have F := F.sub (m' := [(0, jP g9), (1, jP g0), (5, jP g4), (6, jP g5)]) ⟨rfl, rfl, rfl, rfl, trivial⟩
      clear F
      refine ge 3 F rfl fun _ F => gx F (Al (vs := [jI 2]) APd AT5 rfl (cs := [jI 2, jU 0]) (rfl)) 0 rfl rfl fun _ F => ?_
      refine Ae (parts := [(0, .tmp 152)]) A7j ([(⟨2, 0⟩ : Aaz)] : List Aaz) F s3i AG7 rfl (by decide) rfl rfl rfl (by simp [Value.cells]) rfl rfl rfl fun v31 w35 _ F s3j => ?_
      refine As (args := [.tmp 153, .const (.bool false)]) F Bko rfl (Bbq (Ag (fO s3j m0)) rfl) rfl fun v32 w36 _ h2m F => ?_
      obtain ⟨g2g, g2h, rfl, h2n⟩ := h2m
      have s3k := s3j.add h2n
      refine gx F (AM8 (i := 31) AF3 rfl rfl (by decide)) 0 rfl rfl fun _ F => ?_
      refine AEk (nn := Aoy) (T := Aeh) (qs := [Blk g2h 4 [.bool false], Blk g2g 224 [v31], Sl Aeh v31 ([(⟨2, 0⟩ : Aaz)] : List Aaz)]) (q1 := []) (t := .classed ([(⟨2, 0⟩ : Aaz)] : List Aaz) false) F s3k.f4.f4.f4.f4.f4 rfl rfl AGd rfl rfl rfl (.inl rfl) (fun _ _ h => SL.Bgm (n := Aoy) rfl h.f2.f2.f2) fun v33 w37 _ F s3l => gw 1 F rfl fun _ F => ?_
      have F := F.sub (m' := [(0, jP g9), (1, jP g0), (5, jP g4), (6, jP g5)]) ⟨rfl, rfl, rfl, rfl, trivial⟩
      clear F
      refine ge 3 F rfl fun _ F => gld F s3l m4 0 rfl fun _ F => ?_
      refine Ae (parts := [(0, .tmp 156)]) A7j ([(⟨x0.kind, x0.t⟩ : Aaz)] : List Aaz) F s3l AG7 rfl (by decide) rfl rfl rfl (by simp [Value.cells]) rfl rfl rfl fun v34 w38 _ F s3m => ?_
      refine gx F (Ao Bn4 rfl (SL.Brc s3m m2 m0 m0 rfl)) 0 rfl rfl fun _ F => As (args := [.tmp 157, .tmp 158]) F ANp rfl (AAl (Ag (fO s3m m0)) rfl) rfl fun v35 w39 _ h2o F => ?_
      obtain ⟨g2i, g2j, rfl, h2p⟩ := h2o
      have s3n := s3m.add h2p
      refine gx F (AM8 (i := 33) AF3 rfl rfl (by decide)) 0 rfl rfl fun _ F => ?_
      refine AEk (nn := Aoy) (T := Aeh) (qs := [Blk g2i 224 [v34], Sl Aeh v34 ([(⟨x0.kind, x0.t⟩ : Aaz)] : List Aaz), Blk g2j 142 [clo 214 [jP g3]]]) (q1 := [Blk g3 47 [.slice none 0 0]]) (t := .fixed ([(⟨x0.kind, x0.t⟩ : Aaz)] : List Aaz) (.const [])) F s3n.f4.f4.f2.f4.f4 rfl rfl AGd rfl rfl rfl (.inr m2) (fun _ _ h => SL.ANr (n := Aoy) rfl (SL.AJt (c := 214) (d := 203) (s := 204) (t := 47) rfl (SL.Axc (T := Ty.u8) h).f4).f3.f3.f3) fun v36 w3a _ F s3o => gw 1 F rfl fun _ F => ?_
      have F := F.sub (m' := [(0, jP g9), (6, jP g5)]) ⟨rfl, rfl, trivial⟩
      clear F
      refine ge 3 F rfl fun _ F => gx F (Aw Bn8 rfl (s3o.ANx m0 (o := 0) (ds := v36) (fun j u hu => by rw [Nat.zero_add]; exact hu)) (SL.Bfj s3o m1).1.1) 0 rfl rfl fun _ F => ?_
      have h2q := SL.Bfj s3o m1
      refine Akj (ds := v36) F s3o.f5 rfl rfl (by rw [h2q.1.1]; exact Bye) h2q.1.2 (by rw [h2q.1.1]; rfl) fun w3b _ F s3p => ?_
      refine gw 1 F rfl fun _ F => ?_
      have F := F.sub (m' := [(0, jP g9)]) ⟨rfl, trivial⟩
      clear F
      obtain rfl := By0 H
      refine ge 2 F rfl fun _ F => ?_
      refine Aj (rs := [.cell 0 249]) (vs := [.agg ⟨v36⟩]) F (by rfl) ⟨_, _, rfl, Am s3p m0 rfl Bn8 (SL.Bfj s3p m2).1.1, rfl⟩ ⟨_, rfl, ⟨_, rfl, (SL.Bfj s3p m2).1.1, s3p.tk 0 rfl, fun k t ht => (SL.Bfj s3p m2).2 k t ht⟩⟩
     refine ANb [0, 1, 2, 3] (fun a w_ => ∃ v2r : Value, ∃ v2s : Value, Fr a 162 [(0, jP g9), (1, jP g0), (3, jP g2), (5, jP g4), (6, jP g5), (136, v2r), (137, v2s)] ∧ SL w [] w_ [Blk g2 253 [jI x2.kind, jU (x2.t.toNat : Int)], Blk g1 253 [jI x1.kind, jU (x1.t.toNat : Int)], Blk g0 253 [jI x0.kind, jU (x0.t.toNat : Int)], Blk g9 249 (List.replicate 34 .nilFunc), Blk g5 249 v2q, Sl Aeh v2r ([(⟨x2.kind, x2.t⟩ : Aaz), (⟨x0.kind, x0.t⟩ : Aaz)] : List Aaz), Sl Ty.u8 v2s ([(1 : UInt8)] : List UInt8), AUf Aoy Aeh 34 v2q (Bb5 x0 x1 x2) [[Blk g4 142 [clo 214 [jP g3]], Blk g3 47 [.slice none 0 0]], [Sl Aeh v0 ([(⟨x0.kind, x0.t⟩ : Aaz), (⟨x0.kind, x0.t⟩ : Aaz)] : List Aaz)], [Blk g3 47 [.slice none 0 0]]]]) ?_ fun hD1 => ?_
     ·rintro a w_ ⟨v2r, v2s, F, s3q⟩
      refine ho 4 rfl (by kernel_rfl) ?_
      refine As (args := [.tmp 137]) F ANk rfl (A5e (Ag (fO s3q m6))) rfl fun v37 w3c _ h2r F => ?_
      obtain ⟨g29, rfl, h2s⟩ := h2r
      have s3r := s3q.add h2s
      exact gw 1 F rfl fun _ F => ⟨s3r.drop.f4.drop.f4.drop.f4.drop.f4.drop, hto hD0 ⟨v2r, g29, v2s, F.sb, s3r.f8.f1.f8.f8.f8.f8.f8.f8.f8⟩ (by kernel_rfl)⟩
     refine ho2 2 3 rfl rfl (by kernel_rfl) ?_ ?_
     ·refine Ae (parts := [(0, .tmp 134), (1, .tmp 135)]) A7j ([(⟨x2.kind, x2.t⟩ : Aaz), (⟨x0.kind, x0.t⟩ : Aaz)] : List Aaz) F s39.drew AG7 rfl (by decide) rfl rfl rfl (by simp [Value.cells]) rfl rfl rfl fun v2r w3d _ F s3s => ?_
      refine gw 1 F rfl fun _ F => ⟨s3s.drop.drop.drop, ?_⟩
      refine ho 3 rfl (by kernel_rfl) ?_
      refine Ae (parts := [(0, .const (jU 1))]) Flat.u8 ([(1 : UInt8)] : List UInt8) F s3s Aqg rfl (by decide) rfl rfl rfl (by simp [Value.cells]) rfl rfl rfl fun v2s w3e _ F s3t => ?_
      exact gw 1 F rfl fun _ F => ⟨s3t.drop.drop.drop.drop, hto hD1 ⟨v2r, v2s, F.sb, s3t.f3.f1.f2.f3.f7.f7.f7.f7⟩ (by kernel_rfl)⟩
     refine Ae (parts := [(0, .const (jU 1))]) Flat.u8 ([(1 : UInt8)] : List UInt8) F s39.drew Aqg rfl (by decide) rfl rfl rfl (by simp [Value.cells]) rfl rfl rfl fun v2s w3e _ F s3t => ?_
     refine gw 1 F rfl fun _ F => ⟨s3t.drop.drop.drop, ?_⟩
     refine ho2 2 4 rfl rfl (by kernel_rfl) ?_ ?_
     ·refine Ae (parts := [(0, .tmp 134), (1, .tmp 135)]) A7j ([(⟨x2.kind, x2.t⟩ : Aaz), (⟨x0.kind, x0.t⟩ : Aaz)] : List Aaz) F s3t AG7 rfl (by decide) rfl rfl rfl (by simp [Value.cells]) rfl rfl rfl fun v2r w3d _ F s3s => ?_
      exact gw 1 F rfl fun _ F => ⟨s3s.drop.drop.drop.drop, hto hD1 ⟨v2r, v2s, F.sb, s3s.f3.f2.f2.f3.f7.f7.f7.f7⟩ (by kernel_rfl)⟩
     refine As (args := [.tmp 137]) F ANk rfl (A5e (Ag (fO s3t m0))) rfl fun v37 w3c _ h2r F => ?_
     obtain ⟨g29, rfl, h2s⟩ := h2r
     have s3r := s3t.add h2s
     refine gw 1 F rfl fun _ F => ⟨s3r.drop.drop.drop.drop, ?_⟩
     refine ho 2 rfl (by kernel_rfl) ?_
     refine Ae (parts := [(0, .tmp 134), (1, .tmp 135)]) A7j ([(⟨x2.kind, x2.t⟩ : Aaz), (⟨x0.kind, x0.t⟩ : Aaz)] : List Aaz) F s3r AG7 rfl (by decide) rfl rfl rfl (by simp [Value.cells]) rfl rfl rfl fun v2r w3d _ F s3s => ?_
     exact gw 1 F rfl fun _ F => ⟨s3s.drop.drop.drop.drop.drop, hto hD0 ⟨v2r, g29, v2s, F.sb, s3s.f4.f2.f3.f3.f4.f8.f8.f8.f8⟩ (by kernel_rfl)⟩
    refine ANb [0, 1, 2] (fun a w_ => ∃ v2n : Value, ∃ v2o : Value, Fr a 162 [(0, jP g9), (1, jP g0), (3, jP g2), (5, jP g4), (6, jP g5), (129, v2n), (130, v2o)] ∧ SL w [] w_ [Blk g2 253 [jI x2.kind, jU (x2.t.toNat : Int)], Blk g1 253 [jI x1.kind, jU (x1.t.toNat : Int)], Blk g0 253 [jI x0.kind, jU (x0.t.toNat : Int)], Blk g9 249 (List.replicate 34 .nilFunc), Blk g5 249 v2m, Sl Aeh v2n ([(⟨x2.kind, x2.t⟩ : Aaz)] : List Aaz), Sl Ty.u8 v2o ([(1 : UInt8)] : List UInt8), AUf Aoy Aeh 34 v2m (Bb2 x0 x1 x2) [[Blk g4 142 [clo 214 [jP g3]], Blk g3 47 [.slice none 0 0]], [Sl Aeh v0 ([(⟨x0.kind, x0.t⟩ : Aaz), (⟨x0.kind, x0.t⟩ : Aaz)] : List Aaz)], [Blk g3 47 [.slice none 0 0]]]]) ?_ fun hD1 => ?_
    ·rintro a w_ ⟨v2n, v2o, F, s3u⟩
     refine ho 3 rfl (by kernel_rfl) ?_
     refine As (args := [.tmp 130]) F ANk rfl (A5e (Ag (fO s3u m6))) rfl fun v38 w3f _ h2t F => ?_
     obtain ⟨g26, rfl, h2u⟩ := h2t
     have s3v := s3u.add h2u
     exact gw 1 F rfl fun _ F => ⟨s3v.drop.f4.drop.f4.drop.f4.drop.f4.drop, hto hD0 ⟨v2n, g26, v2o, F.sb, s3v.f8.f1.f8.f8.f8.f8.f8.f8.f8⟩ (by kernel_rfl)⟩
    refine ho2 1 2 rfl rfl (by kernel_rfl) ?_ ?_
    ·refine Ae (parts := [(0, .tmp 128)]) A7j ([(⟨x2.kind, x2.t⟩ : Aaz)] : List Aaz) F s36.drew AG7 rfl (by decide) rfl rfl rfl (by simp [Value.cells]) rfl rfl rfl fun v2n w3g _ F s3w => ?_
     refine gw 1 F rfl fun _ F => ⟨s3w.drop.drop.drop, ?_⟩
     refine ho 2 rfl (by kernel_rfl) ?_
     refine Ae (parts := [(0, .const (jU 1))]) Flat.u8 ([(1 : UInt8)] : List UInt8) F s3w Aqg rfl (by decide) rfl rfl rfl (by simp [Value.cells]) rfl rfl rfl fun v2o w3h _ F s3x => ?_
     exact gw 1 F rfl fun _ F => ⟨s3x.drop.drop.drop.drop, hto hD1 ⟨v2n, v2o, F.sb, s3x.f3.f1.f2.f3.f7.f7.f7.f7⟩ (by kernel_rfl)⟩
    refine Ae (parts := [(0, .const (jU 1))]) Flat.u8 ([(1 : UInt8)] : List UInt8) F s36.drew Aqg rfl (by decide) rfl rfl rfl (by simp [Value.cells]) rfl rfl rfl fun v2o w3h _ F s3x => ?_
    refine gw 1 F rfl fun _ F => ⟨s3x.drop.drop.drop, ?_⟩
    refine ho2 1 3 rfl rfl (by kernel_rfl) ?_ ?_
    ·refine Ae (parts := [(0, .tmp 128)]) A7j ([(⟨x2.kind, x2.t⟩ : Aaz)] : List Aaz) F s3x AG7 rfl (by decide) rfl rfl rfl (by simp [Value.cells]) rfl rfl rfl fun v2n w3g _ F s3w => ?_
     exact gw 1 F rfl fun _ F => ⟨s3w.drop.drop.drop.drop, hto hD1 ⟨v2n, v2o, F.sb, s3w.f3.f2.f2.f3.f7.f7.f7.f7⟩ (by kernel_rfl)⟩
    refine As (args := [.tmp 130]) F ANk rfl (A5e (Ag (fO s3x m0))) rfl fun v38 w3f _ h2t F => ?_
    obtain ⟨g26, rfl, h2u⟩ := h2t
    have s3v := s3x.add h2u
    refine gw 1 F rfl fun _ F => ⟨s3v.drop.drop.drop.drop, ?_⟩
    refine ho 1 rfl (by kernel_rfl) ?_
    refine Ae (parts := [(0, .tmp 128)]) A7j ([(⟨x2.kind, x2.t⟩ : Aaz)] : List Aaz) F s3v AG7 rfl (by decide) rfl rfl rfl (by simp [Value.cells]) rfl rfl rfl fun v2n w3g _ F s3w => ?_
    exact gw 1 F rfl fun _ F => ⟨s3w.drop.drop.drop.drop.drop, hto hD0 ⟨v2n, g26, v2o, F.sb, s3w.f4.f2.f3.f3.f4.f8.f8.f8.f8⟩ (by kernel_rfl)⟩
   refine ANb [0, 1, 2] (fun a w_ => ∃ v2j : Value, ∃ v2k : Value, Fr a 162 [(0, jP g9), (1, jP g0), (3, jP g2), (5, jP g4), (6, jP g5), (123, v2j), (124, v2k)] ∧ SL w [] w_ [Blk g2 253 [jI x2.kind, jU (x2.t.toNat : Int)], Blk g1 253 [jI x1.kind, jU (x1.t.toNat : Int)], Blk g0 253 [jI x0.kind, jU (x0.t.toNat : Int)], Blk g9 249 (List.replicate 34 .nilFunc), Blk g5 249 v2i, Sl Aeh v2j ([(⟨x0.kind, x0.t⟩ : Aaz)] : List Aaz), Sl Ty.u8 v2k ([(4 : UInt8)] : List UInt8), AUf Aoy Aeh 34 v2i (Bb3 x0 x1 x2) [[Blk g4 142 [clo 214 [jP g3]], Blk g3 47 [.slice none 0 0]], [Sl Aeh v0 ([(⟨x0.kind, x0.t⟩ : Aaz), (⟨x0.kind, x0.t⟩ : Aaz)] : List Aaz)], [Blk g3 47 [.slice none 0 0]]]]) ?_ fun hD1 => ?_
   ·rintro a w_ ⟨v2j, v2k, F, s3y⟩
    refine ho 3 rfl (by kernel_rfl) ?_
    refine As (args := [.tmp 124]) F ANk rfl (A5e (Ag (fO s3y m6))) rfl fun v39 w3i _ h2v F => ?_
    obtain ⟨g23, rfl, h2w⟩ := h2v
    have s3z := s3y.add h2w
    exact gw 1 F rfl fun _ F => ⟨s3z.drop.f4.drop.f4.drop.f4.drop.f4.drop, hto hD0 ⟨v2j, g23, v2k, F.sb, s3z.f8.f1.f8.f8.f8.f8.f8.f8.f8⟩ (by kernel_rfl)⟩
   refine ho2 1 2 rfl rfl (by kernel_rfl) ?_ ?_
   ·refine Ae (parts := [(0, .tmp 122)]) A7j ([(⟨x0.kind, x0.t⟩ : Aaz)] : List Aaz) F s33.drew AG7 rfl (by decide) rfl rfl rfl (by simp [Value.cells]) rfl rfl rfl fun v2j w3j _ F s40 => ?_
    refine gw 1 F rfl fun _ F => ⟨s40.drop.drop.drop, ?_⟩
    refine ho 2 rfl (by kernel_rfl) ?_
    refine Ae (parts := [(0, .const (jU 4))]) Flat.u8 ([(4 : UInt8)] : List UInt8) F s40 Aqg rfl (by decide) rfl rfl rfl (by simp [Value.cells]) rfl rfl rfl fun v2k w3k _ F s41 => ?_
    exact gw 1 F rfl fun _ F => ⟨s41.drop.drop.drop.drop, hto hD1 ⟨v2j, v2k, F.sb, s41.f3.f1.f2.f3.f7.f7.f7.f7⟩ (by kernel_rfl)⟩
   refine Ae (parts := [(0, .const (jU 4))]) Flat.u8 ([(4 : UInt8)] : List UInt8) F s33.drew Aqg rfl (by decide) rfl rfl rfl (by simp [Value.cells]) rfl rfl rfl fun v2k w3k _ F s41 => ?_
   refine gw 1 F rfl fun _ F => ⟨s41.drop.drop.drop, ?_⟩
   refine ho2 1 3 rfl rfl (by kernel_rfl) ?_ ?_
   ·refine Ae (parts := [(0, .tmp 122)]) A7j ([(⟨x0.kind, x0.t⟩ : Aaz)] : List Aaz) F s41 AG7 rfl (by decide) rfl rfl rfl (by simp [Value.cells]) rfl rfl rfl fun v2j w3j _ F s40 => ?_
    exact gw 1 F rfl fun _ F => ⟨s40.drop.drop.drop.drop, hto hD1 ⟨v2j, v2k, F.sb, s40.f3.f2.f2.f3.f7.f7.f7.f7⟩ (by kernel_rfl)⟩
   refine As (args := [.tmp 124]) F ANk rfl (A5e (Ag (fO s41 m0))) rfl fun v39 w3i _ h2v F => ?_
   obtain ⟨g23, rfl, h2w⟩ := h2v
   have s3z := s41.add h2w
   refine gw 1 F rfl fun _ F => ⟨s3z.drop.drop.drop.drop, ?_⟩
   refine ho 1 rfl (by kernel_rfl) ?_
   refine Ae (parts := [(0, .tmp 122)]) A7j ([(⟨x0.kind, x0.t⟩ : Aaz)] : List Aaz) F s3z AG7 rfl (by decide) rfl rfl rfl (by simp [Value.cells]) rfl rfl rfl fun v2j w3j _ F s40 => ?_
   exact gw 1 F rfl fun _ F => ⟨s40.drop.drop.drop.drop.drop, hto hD0 ⟨v2j, g23, v2k, F.sb, s40.f4.f2.f3.f3.f4.f8.f8.f8.f8⟩ (by kernel_rfl)⟩
  refine ANb [0, 1, 2] (fun a w_ => ∃ v1z : Value, ∃ v20 : Value, Fr a 162 [(0, jP g9), (1, jP g0), (2, jP g1), (3, jP g2), (5, jP g4), (6, jP g5), (96, v1z), (97, v20)] ∧ SL w [] w_ [Blk g4 142 [clo 214 [jP g3]], Blk g2 253 [jI x2.kind, jU (x2.t.toNat : Int)], Blk g1 253 [jI x1.kind, jU (x1.t.toNat : Int)], Blk g0 253 [jI x0.kind, jU (x0.t.toNat : Int)], Blk g9 249 (List.replicate 34 .nilFunc), Sl Aeh v1z ([(⟨x1.kind, x1.t⟩ : Aaz)] : List Aaz), Sl Ty.u8 v20 ([(2 : UInt8)] : List UInt8), Blk g5 249 v1y, AUf Aoy Aeh 34 v1y (Bb0 x0 x1 x2) [[Sl Aeh v0 ([(⟨x0.kind, x0.t⟩ : Aaz), (⟨x0.kind, x0.t⟩ : Aaz)] : List Aaz)], [Blk g3 47 [.slice none 0 0]]]]) ?_ fun hD1 => ?_
  ·rintro a w_ ⟨v1z, v20, F, s42⟩
   refine ho 3 rfl (by kernel_rfl) ?_
   refine As (args := [.tmp 97]) F ANk rfl (A5e (Ag (fO s42 m6))) rfl fun v3a w3l _ h2x F => ?_
   obtain ⟨g1r, rfl, h2y⟩ := h2x
   have s43 := s42.add h2y
   exact gw 1 F rfl fun _ F => ⟨s43.drop.f5.drop.f5.drop.f5.drop.f5.drop, hto hD0 ⟨v1z, g1r, v20, F.sb, s43.f9.f9.f2.f9.f9.f9.f9.f9.f9.f9⟩ (by kernel_rfl)⟩
  refine ho2 1 2 rfl rfl (by kernel_rfl) ?_ ?_
  ·refine Ae (parts := [(0, .tmp 95)]) A7j ([(⟨x1.kind, x1.t⟩ : Aaz)] : List Aaz) F s2j.drew AG7 rfl (by decide) rfl rfl rfl (by simp [Value.cells]) rfl rfl rfl fun v1z w3m _ F s44 => ?_
   refine gw 1 F rfl fun _ F => ⟨s44.drop.drop.drop, ?_⟩
   refine ho 2 rfl (by kernel_rfl) ?_
   refine Ae (parts := [(0, .const (jU 2))]) Flat.u8 ([(2 : UInt8)] : List UInt8) F s44 Aqg rfl (by decide) rfl rfl rfl (by simp [Value.cells]) rfl rfl rfl fun v20 w3n _ F s45 => ?_
   exact gw 1 F rfl fun _ F => ⟨s45.drop.drop.drop.drop, hto hD1 ⟨v1z, v20, F.sb, s45.f3.f3.f2.f3.f8.f8.f8.f8.f8⟩ (by kernel_rfl)⟩
  refine Ae (parts := [(0, .const (jU 2))]) Flat.u8 ([(2 : UInt8)] : List UInt8) F s2j.drew Aqg rfl (by decide) rfl rfl rfl (by simp [Value.cells]) rfl rfl rfl fun v20 w3n _ F s45 => ?_
  refine gw 1 F rfl fun _ F => ⟨s45.drop.drop.drop, ?_⟩
  refine ho2 1 3 rfl rfl (by kernel_rfl) ?_ ?_
  ·refine Ae (parts := [(0, .tmp 95)]) A7j ([(⟨x1.kind, x1.t⟩ : Aaz)] : List Aaz) F s45 AG7 rfl (by decide) rfl rfl rfl (by simp [Value.cells]) rfl rfl rfl fun v1z w3m _ F s44 => ?_
   exact gw 1 F rfl fun _ F => ⟨s44.drop.drop.drop.drop, hto hD1 ⟨v1z, v20, F.sb, s44.f3.f3.f3.f3.f8.f8.f8.f8.f8⟩ (by kernel_rfl)⟩
  refine As (args := [.tmp 97]) F ANk rfl (A5e (Ag (fO s45 m0))) rfl fun v3a w3l _ h2x F => ?_
  obtain ⟨g1r, rfl, h2y⟩ := h2x
  have s43 := s45.add h2y
  refine gw 1 F rfl fun _ F => ⟨s43.drop.drop.drop.drop, ?_⟩
  refine ho 1 rfl (by kernel_rfl) ?_
  refine Ae (parts := [(0, .tmp 95)]) A7j ([(⟨x1.kind, x1.t⟩ : Aaz)] : List Aaz) F s43 AG7 rfl (by decide) rfl rfl rfl (by simp [Value.cells]) rfl rfl rfl fun v1z w3m _ F s44 => ?_
  exact gw 1 F rfl fun _ F => ⟨s44.drop.drop.drop.drop.drop, hto hD0 ⟨v1z, g1r, v20, F.sb, s44.f4.f4.f3.f4.f4.f9.f9.f9.f9.f9⟩ (by kernel_rfl)⟩
 refine ANb [0, 1, 2] (fun a w_ => ∃ v1m : Value, ∃ v1n : Value, Fr a 162 [(0, jP g9), (1, jP g0), (2, jP g1), (3, jP g2), (4, v0), (5, jP g4), (6, jP g5), (78, v1m), (79, v1n)] ∧ SL w [] w_ [Blk g12 5 [jU 9, jU 10, jU 11, jU 12, jU 13], Blk g4 142 [clo 214 [jP g3]], Blk g2 253 [jI x2.kind, jU (x2.t.toNat : Int)], Blk g1 253 [jI x1.kind, jU (x1.t.toNat : Int)], Blk g0 253 [jI x0.kind, jU (x0.t.toNat : Int)], Blk g9 249 (List.replicate 34 .nilFunc), Sl Aeh v1m ([(⟨x0.kind, x0.t⟩ : Aaz)] : List Aaz), Sl Ty.u8 v1n ([(1 : UInt8)] : List UInt8), Blk g5 249 v1l, AUf Aoy Aeh 34 v1l (Bcd x0 x1 x2) [[Sl Aeh v0 ([(⟨x0.kind, x0.t⟩ : Aaz), (⟨x0.kind, x0.t⟩ : Aaz)] : List Aaz)], [Blk g3 47 [.slice none 0 0]]]]) ?_ fun hD1 => ?_
 ·rintro a w_ ⟨v1m, v1n, F, s46⟩
  refine ho 3 rfl (by kernel_rfl) ?_
  refine As (args := [.tmp 79]) F ANk rfl (A5e (Ag (fO s46 m7))) rfl fun v3b w3o _ h2z F => ?_
  obtain ⟨g1i, rfl, h30⟩ := h2z
  have s47 := s46.add h30
  exact gw 1 F rfl fun _ F => ⟨s47.drop.f6.drop.f6.drop.f6.drop.f6.drop, hto hD0 ⟨v1m, g1i, v1n, F.sb, s47.f10.f10.f2.f10.f10.f10.f10.f10.f10.f10.f10⟩ (by kernel_rfl)⟩
 refine ho2 1 2 rfl rfl (by kernel_rfl) ?_ ?_
 ·refine Ae (parts := [(0, .tmp 77)]) A7j ([(⟨x0.kind, x0.t⟩ : Aaz)] : List Aaz) F s27.drew AG7 rfl (by decide) rfl rfl rfl (by simp [Value.cells]) rfl rfl rfl fun v1m w3p _ F s48 => ?_
  refine gw 1 F rfl fun _ F => ⟨s48.drop.drop.drop, ?_⟩
  refine ho 2 rfl (by kernel_rfl) ?_
  refine Ae (parts := [(0, .const (jU 1))]) Flat.u8 ([(1 : UInt8)] : List UInt8) F s48 Aqg rfl (by decide) rfl rfl rfl (by simp [Value.cells]) rfl rfl rfl fun v1n w3q _ F s49 => ?_
  exact gw 1 F rfl fun _ F => ⟨s49.drop.drop.drop.drop, hto hD1 ⟨v1m, v1n, F.sb, s49.f3.f3.f2.f3.f9.f9.f9.f9.f9.f9⟩ (by kernel_rfl)⟩
 refine Ae (parts := [(0, .const (jU 1))]) Flat.u8 ([(1 : UInt8)] : List UInt8) F s27.drew Aqg rfl (by decide) rfl rfl rfl (by simp [Value.cells]) rfl rfl rfl fun v1n w3q _ F s49 => ?_
 refine gw 1 F rfl fun _ F => ⟨s49.drop.drop.drop, ?_⟩
 refine ho2 1 3 rfl rfl (by kernel_rfl) ?_ ?_
 ·refine Ae (parts := [(0, .tmp 77)]) A7j ([(⟨x0.kind, x0.t⟩ : Aaz)] : List Aaz) F s49 AG7 rfl (by decide) rfl rfl rfl (by simp [Value.cells]) rfl rfl rfl fun v1m w3p _ F s48 => ?_
  exact gw 1 F rfl fun _ F => ⟨s48.drop.drop.drop.drop, hto hD1 ⟨v1m, v1n, F.sb, s48.f3.f3.f3.f3.f9.f9.f9.f9.f9.f9⟩ (by kernel_rfl)⟩
 refine As (args := [.tmp 79]) F ANk rfl (A5e (Ag (fO s49 m0))) rfl fun v3b w3o _ h2z F => ?_
 obtain ⟨g1i, rfl, h30⟩ := h2z
 have s47 := s49.add h30
 refine gw 1 F rfl fun _ F => ⟨s47.drop.drop.drop.drop, ?_⟩
 refine ho 1 rfl (by kernel_rfl) ?_
 refine Ae (parts := [(0, .tmp 77)]) A7j ([(⟨x0.kind, x0.t⟩ : Aaz)] : List Aaz) F s47 AG7 rfl (by decide) rfl rfl rfl (by simp [Value.cells]) rfl rfl rfl fun v1m w3p _ F s48 => ?_
 exact gw 1 F rfl fun _ F => ⟨s48.drop.drop.drop.drop.drop, hto hD0 ⟨v1m, g1i, v1n, F.sb, s48.f4.f4.f3.f4.f4.f10.f10.f10.f10.f10.f10⟩ (by kernel_rfl)⟩
end Go.Proofs.YtfcpkcehecmcpaaGreat
