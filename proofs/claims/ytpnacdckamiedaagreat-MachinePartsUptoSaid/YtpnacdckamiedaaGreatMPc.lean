/- Lemmas, walks and laws that the row of this claim rests on, merged into few texts: part 3. -/
import Derived.Recover
import Derived.Test.YtpnacdckamiedaaGreatMPb
set_option linter.unusedVariables false
set_option linter.unusedSimpArgs false
open List renaming append_nil → YD
namespace Go.Proofs.YtpnacdckamiedaaGreat
open Go Go.RowKit Go.Pv Go.Proofs.Tryz
noncomputable def Ks (op : UInt8) : Mm Unit := fun s =>
 if ((op.toNat : Int) == 26) = true then Mb (DD 1 s) fun n s => if decide (n.n < 0) = true then GL 4 s else (hrow s n.n).bind fun q => J5 q.1 q.2
 else if ((op.toNat : Int) == 27) = true then Mb (DD 4 s) fun v s => Mb (Gu v s) fun ref s => (BU s ref).bind fun q => Cb 1 q.1 s
 else if ((op.toNat : Int) == 28) = true then Mb (DD 1 s) fun i s => Mb (DD 4 s) fun v s => Mb (Gu v s) fun ref s => Mb (IH ref i.n s) fun n s => Cb 1 n s
 else Mb (DD 1 s) fun v s => Mb (DD 1 s) fun i s => Mb (DD 4 s) fun r s => Mb (Gu r s) fun ref s => Mb (IH ref i.n s) fun _ s => (FU s ref i.n v.n).bind fun q => some (.ok (), q.2)
section
variable {w : World} {K : MK} {vc vt : Value} {cs : Lay} {S : MS} {w0 : World} {F0 : List Nat} {loc : List Ck}
theorem W6 {n : Int} {p : (Int × Int) × MS} (s0 : SL w0 F0 w (loc ++ mS K vc vt cs S)) (H : hrow S n = some p) : Calls prog 115 #[jP K.gh, .int .i64 n] w (AN fun u w_ => u = .tuple ⟨[.int .i64 p.1.1, .int .i64 p.1.2]⟩ ∧ SL w0 F0 w_ (loc ++ mS K vc vt cs p.2)) := by
 obtain ⟨os, hl, s1⟩ := SL.hop s0
 refine (WY s1 hl H).mono ?_
 rintro e w' ⟨v, rfl, os', hl', hv, hq⟩
 refine ⟨v, rfl, hv, ?_⟩
 have hS : p.2.calls = S.calls ∧ p.2.told = S.told ∧ IE K vc vt p.2 = IE K vc vt S := by
  unfold hrow Ie at H
  repeat' split at H
  all_goals first
   | (cases H; exact ⟨rfl, rfl, rfl⟩)
   | (obtain ⟨z, hz, H2⟩ := bind_ok H; cases H2 <;> exact ⟨rfl, rfl, rfl⟩)
 refine SL.hsh (os := os') hl' ?_
 unfold Nw
 rw [hS.1, hS.2.1, hS.2.2]
 exact hq
theorem Wn {ref : Int} {p : Int × Int} (s0 : SL w0 F0 w (loc ++ mS K vc vt cs S)) (H : BU S ref = some p) : Calls prog 116 #[jP K.gh, .int .i64 ref] w (AN fun u w_ => u = .tuple ⟨[.int .i64 p.1, .int .i64 p.2]⟩ ∧ SL w0 F0 w_ (loc ++ mS K vc vt cs S)) := by
 obtain ⟨os, hl, s1⟩ := SL.hop s0
 refine (Ww s1 hl H).mono ?_
 rintro e w' ⟨v, rfl, hv, hq⟩
 exact ⟨v, rfl, hv, SL.hsh hl hq⟩
theorem Wp {i : Bs} {p : Re Unit × MS} (s0 : SL w0 F0 w (loc ++ mS K vc vt cs S)) (hL : B1 S cs) (hI : K.In w0 F0 S.m) (H : Ks i.Op S = some p) :
  Calls prog 76 #[jP K.g, .agg ⟨Au i⟩] w (C0 p.1 (fun _ v => v = .tuple #[]) (B1 p.2) (fun cs => loc ++ mS K vc vt cs p.2) w0 F0) := by
 letI := Co
 unfold Ks at H
 refine C9 func76 ntmps76 fun _ F1 => ?_
 refine Bz F1 s0 rfl rfl rfl fun g1 w1 _ F2 s1 => ?_
 refine zw F2 fun _ F2 => ?_
 refine AE F2 s1 m0 fun _ F3 => ?_
 split at H <;> rename_i h1
 ·refine zt F3 h1 fun _ F4 => ?_
  rcases AQ H with ⟨e, t, q, S1, hr, rfl⟩ | ⟨x, S1, hr, H2⟩ <;> have hc := EF (t := 1) (loc := Ae g1 130 (Au i) :: loc) s1 hL hI hr
  ·exact kn F4 hc fun w3 y hC s4 => rP rfl hC (SL.drop s4)
  clear H
  refine kc F4 hc fun v3 w3 _ y hv hC s4 F5 => ?_
  obtain rfl := hv
  refine zx F5 (EC FG rfl rfl) fun _ F6 => ?_
  split at H2 <;> rename_i h2
  ·cases H2
   refine zt F6 h2 fun _ F7 => ?_
   exact Hn F7 (Ex s4) fun w2 s6 => Br rfl F7 (rP (y := y) rfl hC (SL.drop s6))
  refine zf F6 (Bool.eq_false_iff.2 h2) fun _ F7 => ?_
  obtain ⟨⟨⟨rf, er⟩, S2⟩, hq, H3⟩ := bind_ok H2
  refine AE F7 (SL.mb (loc := Ae g1 130 (Au i) :: loc) s4) m0 fun _ F8 => ?_
  refine AU F8 (W6 (loc := Ae g1 130 (Au i) :: loc) s4 hq) fun v5 w5 _ hS F9 => ?_
  obtain ⟨rfl, s5⟩ := hS
  refine zw F9 fun _ F10 => ?_
  have hC2 : B1 S2 y := by
   unfold hrow Ie at hq
   repeat' split at hq
   all_goals first
    | (cases hq; exact hC)
    | (obtain ⟨z, hz, H5⟩ := bind_ok hq; cases H5 <;> exact hC)
  refine DG (extra := [Ae g1 130 (Au i)]) F10 (Sr (loc := Ae g1 130 (Au i) :: loc) s5 hC2 H3) fun w y a hC2 hs F15 he => ?_
  refine zw F15 fun _ F16 => ?_
  exact rN F16 he rfl hC2 hs
 refine zf F3 (Bool.eq_false_iff.2 h1) fun _ F4 => ?_
 split at H <;> rename_i h2
 ·refine zt F4 h2 fun _ F5 => ?_
  refine BH (fun w_ => w_.cell? ⟨K.g, 5, none⟩ = some (jP K.gh)) [] Cn (Ce [0, 1, 2, 3, 4] F5 (Bl rfl) ((SL.mb (loc := Ae g1 130 (Au i) :: loc) s1.drew).Aq m0 (o := 5) rfl) (QI.ev 3 rfl <| QI.op rfl (fun w hw => Ar NP rfl hw) rfl <| QI.ev 1 rfl <| QI.nil) fun _ F6 => ?_)
  rcases AQ H with ⟨e, t, q, S1, hr, rfl⟩ | ⟨x, S1, hr, H2⟩ <;> have hc := EF (t := 4) (loc := Ae g1 130 (Au i) :: loc) s1.drew hL hI hr
  ·exact IP 5 F6 hc fun w3 y hC s4 => Br rfl F6 (rP rfl hC (SL.drop s4))
  clear H
  refine IM 5 F6 hc fun v3 w3 _ y hv hC s4 F7 => ⟨fun _ => (SL.mb (loc := Ae g1 130 (Au i) :: loc) s4).Aq m0 (o := 5) rfl, ?_⟩
  obtain rfl := hv
  rcases AQ H2 with ⟨e, t, q, S2, hr2, rfl⟩ | ⟨rf, S2, hr2, H3⟩ <;> have hc2 := JY (loc := Ae g1 130 (Au i) :: loc) s4 hr2
  ·exact IP 6 F7 hc2 fun w3 _ e s5 => Br rfl F7 (rP (y := y) rfl (by have e2 : S2 = S1 := e; rw [e2]; exact hC) (by have e2 : S2 = S1 := e; rw [e2]; exact SL.drop s5))
  clear H2
  refine IM 6 F7 hc2 fun v4 w4 _ _ hv e s5 F8 => ⟨fun _ => (SL.mb (loc := Ae g1 130 (Au i) :: loc) s5).Aq m0 (o := 5) rfl, ?_⟩
  obtain rfl := hv
  obtain rfl : S2 = S1 := e
  obtain ⟨q, hq, H4⟩ := bind_ok H3
  refine BN 7 rfl (AU F8 (Wn (loc := Ae g1 130 (Au i) :: loc) s5 hq) fun v5 w5 _ hS F9 => A8 ⟨fun _ => (SL.mb (loc := Ae g1 130 (Au i) :: loc) hS.2).Aq m0 (o := 5) rfl, ?_⟩)
  obtain ⟨rfl, s6⟩ := hS
  refine Ce [8, 9, 10, 11, 12] F9 (Bl rfl) ((SL.mb (loc := Ae g1 130 (Au i) :: loc) s6).Aq m0 (o := 5) rfl) (QI.ev 5 rfl <| QI.nil) fun _ F10 => ?_
  refine BE ?_
  refine ze F10 fun _ F11 => ?_
  refine DG (extra := [Ae g1 130 (Au i)]) F11 (C5 (loc := Ae g1 130 (Au i) :: loc) s6 hC H4) fun w y a hC2 hs F15 he => ?_
  refine zw F15 fun _ F16 => ?_
  exact rN F16 he rfl hC2 hs
 refine zf F4 (Bool.eq_false_iff.2 h2) fun _ F5 => ?_
 split at H <;> rename_i h3
 ·refine zt F5 h3 fun _ F6 => ?_
  rcases AQ H with ⟨e, t, q, T1, hrT1, rfl⟩ | ⟨ix, T1, hrT1, Ha⟩ <;> have hcT1 := EF (t := 1) (loc := Ae g1 130 (Au i) :: loc) s1 hL hI hrT1
  ·exact kn F6 hcT1 fun w3 y hC s4 => rP rfl hC (SL.drop s4)
  clear H
  have hmT1 := G0 hrT1
  dsimp only at hmT1
  refine kc F6 hcT1 fun _ _ _ y1 hv hCT1 s2 F7 => ?_
  obtain rfl := hv
  refine zx F7 (EC FG rfl rfl) fun _ F8 => ?_
  rcases AQ Ha with ⟨e, t, q, T2, hrT2, rfl⟩ | ⟨rx, T2, hrT2, Hb⟩ <;> have hcT2 := EF (t := 4) (loc := Ae g1 130 (Au i) :: loc) s2 hCT1 (hmT1 ▸ hI) hrT2
  ·exact kn F8 hcT2 fun w3 y hC s4 => rP rfl hC (SL.drop s4)
  clear Ha
  have hmT2 := G0 hrT2
  dsimp only at hmT2
  refine kc F8 hcT2 fun _ _ _ y2 hv hCT2 s3 F9 => ?_
  obtain rfl := hv
  rcases AQ Hb with ⟨e, t, q, T3, hrT3, rfl⟩ | ⟨rf, T3, hrT3, Hd⟩ <;> have hcT3 := JY (loc := Ae g1 130 (Au i) :: loc) s3 hrT3
  ·exact kn F9 hcT3 fun w3 _ e s5 => rP (y := y2) rfl (by have e2 : T3 = T2 := e; rw [e2]; exact hCT2) (by have e2 : T3 = T2 := e; rw [e2]; exact SL.drop s5)
  clear Hb
  refine kc F9 hcT3 fun _ _ _ _ hv e s4 F10 => ?_
  obtain rfl := hv
  obtain rfl : T3 = T2 := e
  refine zw F10 fun _ F11 => ?_
  rcases AQ Hd with ⟨e, t, q, T4, hrT4, rfl⟩ | ⟨nx, T4, hrT4, He⟩ <;> have hcT4 := Pe (loc := Ae g1 130 (Au i) :: loc) s4 hrT4
  ·exact kn F11 hcT4 fun w3 _ e s5 => rP (y := y2) rfl (by have e2 : T4 = T3 := e; rw [e2]; exact hCT2) (by have e2 : T4 = T3 := e; rw [e2]; exact SL.drop s5)
  clear Hd
  refine kc F11 hcT4 fun _ _ _ _ hv e s5 F12 => ?_
  obtain rfl := hv
  obtain rfl : T4 = T3 := e
  refine DG (extra := [Ae g1 130 (Au i)]) F12 (C5 (loc := Ae g1 130 (Au i) :: loc) s5 hCT2 He) fun w y a hC2 hs F15 he => ?_
  refine zw F15 fun _ F16 => ?_
  exact rN F16 he rfl hC2 hs
 refine zf F5 (Bool.eq_false_iff.2 h3) fun _ F6 => ?_
 rcases AQ H with ⟨e, t, q, T1, hrT1, rfl⟩ | ⟨vx, T1, hrT1, Ha⟩ <;> have hcT1 := EF (t := 1) (loc := Ae g1 130 (Au i) :: loc) s1 hL hI hrT1
 ·exact kn F6 hcT1 fun w3 y hC s4 => rP rfl hC (SL.drop s4)
 clear H
 have hmT1 := G0 hrT1
 dsimp only at hmT1
 refine kc F6 hcT1 fun _ _ _ y1 hv hCT1 s2 F7 => ?_
 obtain rfl := hv
 refine zx F7 (EC FG rfl rfl) fun _ F8 => ?_
 rcases AQ Ha with ⟨e, t, q, T2, hrT2, rfl⟩ | ⟨ix, T2, hrT2, Hb⟩ <;> have hcT2 := EF (t := 1) (loc := Ae g1 130 (Au i) :: loc) s2 hCT1 (hmT1 ▸ hI) hrT2
 ·exact kn F8 hcT2 fun w3 y hC s4 => rP rfl hC (SL.drop s4)
 clear Ha
 have hmT2 := G0 hrT2
 dsimp only at hmT2
 refine kc F8 hcT2 fun _ _ _ y2 hv hCT2 s3 F9 => ?_
 obtain rfl := hv
 refine zx F9 (EC FG rfl rfl) fun _ F10 => ?_
 rcases AQ Hb with ⟨e, t, q, T3, hrT3, rfl⟩ | ⟨rx, T3, hrT3, Hd⟩ <;> have hcT3 := EF (t := 4) (loc := Ae g1 130 (Au i) :: loc) s3 hCT2 ((hmT2.trans hmT1) ▸ hI) hrT3
 ·exact kn F10 hcT3 fun w3 y hC s4 => rP rfl hC (SL.drop s4)
 clear Hb
 have hmT3 := G0 hrT3
 dsimp only at hmT3
 refine kc F10 hcT3 fun _ _ _ y3 hv hCT3 s4 F11 => ?_
 obtain rfl := hv
 rcases AQ Hd with ⟨e, t, q, T4, hrT4, rfl⟩ | ⟨rf, T4, hrT4, He⟩ <;> have hcT4 := JY (loc := Ae g1 130 (Au i) :: loc) s4 hrT4
 ·exact kn F11 hcT4 fun w3 _ e s5 => rP (y := y3) rfl (by have e2 : T4 = T3 := e; rw [e2]; exact hCT3) (by have e2 : T4 = T3 := e; rw [e2]; exact SL.drop s5)
 clear Hd
 refine kc F11 hcT4 fun _ _ _ _ hv e s5 F12 => ?_
 obtain rfl := hv
 obtain rfl : T4 = T3 := e
 refine zw F12 fun _ F13 => ?_
 rcases AQ He with ⟨e, t, q, T5, hrT5, rfl⟩ | ⟨nx, T5, hrT5, Hf⟩ <;> have hcT5 := Pe (loc := Ae g1 130 (Au i) :: loc) s5 hrT5
 ·exact kn F13 hcT5 fun w3 _ e s5 => rP (y := y3) rfl (by have e2 : T5 = T4 := e; rw [e2]; exact hCT3) (by have e2 : T5 = T4 := e; rw [e2]; exact SL.drop s5)
 clear He
 refine kc F13 hcT5 fun _ _ _ _ hv e s6 F14 => ?_
 obtain rfl := hv
 obtain rfl : T5 = T4 := e
 obtain ⟨⟨er, T6⟩, hq, Hg⟩ := bind_ok Hf
 cases Hg
 refine zw F14 fun _ F15 => ?_
 refine AE F15 (SL.mb (loc := Ae g1 130 (Au i) :: loc) s6) m0 fun _ F16 => ?_
 refine AU F16 (SG (loc := Ae g1 130 (Au i) :: loc) s6 hq) fun v5 w5 _ hS F17 => ?_
 obtain ⟨rfl, s7⟩ := hS
 refine zw F17 fun _ F18 => ?_
 have hC6 : B1 T6 y3 := by
  unfold FU at hq
  obtain ⟨o, hx, H1⟩ := bind_ok hq
  repeat' split at H1
  all_goals first
   | (cases H1; exact hCT3)
   | (obtain ⟨z, hz, H2⟩ := bind_ok H1; cases H2; exact hCT3)
 exact rN (y := y3) F18 rfl rfl hC6 (SL.drop s7)
end
end Go.Proofs.YtpnacdckamiedaaGreat
namespace Go.Proofs.YtpnacdckamiedaaGreat
open Go Go.RowKit Go.Pv Go.Proofs.Tryz
theorem Ju {w : World} {a0 : UInt8} {r : Int}  (H : Ds a0 = some r) :
  Calls prog 43 #[.int .u8 (a0.toNat : Int)] w (AN fun u_ w_ => u_ = .int .i64 r ∧ SL w [] w_ []) := by
 have s0 : SL w [] w [] := SL.Bf w
 refine BV func43 ntmps43 18 rfl rfl rfl fun _ F20 => ?_
 unfold Ds at H
 refine AK F20 H 8 6 rfl rfl rfl (fun hb21 H _ F24 => ?_) (fun hb21 H _ F26 => ?_)
 ·cases H
  exact rt F24 ⟨rfl, s0⟩
 ·refine AK F26 H 8 9 rfl rfl rfl (fun hb27 H _ F30 => ?_) (fun hb27 H _ F32 => ?_)
  ·cases H
   exact rt F30 ⟨rfl, s0⟩
  ·cases H
   exact rt F32 ⟨rfl, s0⟩
end Go.Proofs.YtpnacdckamiedaaGreat
namespace Go.Proofs.YtpnacdckamiedaaGreat
open Go Go.RowKit Go.Pv Go.Proofs.Tryz
theorem Oc {P : Program} [h0 : BO P] {ops : Array Oper} {Q : Exit → Act → World → Prop} {n d f j dj : Nat} {b : Bool} {m : CL} {a : Act} {w : World} {ty : TypeId} {pos : String} {aft : Array Edge} {args : List Operand} {ats : Array TypeId} {vs : List Value} {l : List Oper} {S : Value → World → Prop}
  (hF : Fr a n m) (hc : Calls P f vs.toArray w (AN S)) (k : ∀ v w a, S v w → Fr a n ((d, v) :: m) → wpList P ops Q l a w) (hj : (ops[j]?).bind (·.dst) = some dj := by rfl) (hb : Pv.look m dj = some (.bool b) := by rfl) (hargs : Fp m args = some vs := by rfl) (hf : Et h0.T.fn f = true := by rfl) (hlt : Nat.blt d n = true := by rfl) :
  wpList P ops Q (⟨some d, .call { callee := .value (.func f), args := args.toArray, argTypes := ats }, ty, pos, aft, some (j, b)⟩ :: l) a w :=
 wpList_step fun K hK => by
  rw [Ab (by simp [Region.wanted, D7 hF hj hb])]
  unfold Oper.wp
  have h2 := hF.Ik hargs
  have h1 : (execOp a.eval ⟨some d, .call { callee := .value (.func f), args := args.toArray, argTypes := ats }, ty, pos, aft, some (j, b)⟩).run P w = .ok (.enter f vs.toArray) w := by
   simp [execOp, resolve, Deferred.ofValue, Act.eval, invoke, h2, Eb (PO hf)]
  rw [h1, Oper.upon_enter]
  refine hc.mono ?_
  rintro e w' ⟨v, rfl, hS⟩
  exact hK _ _ (k v w' _ hS (hF.put d v hlt))
noncomputable def Kv (op : UInt8) (A B : Int) : Mm Unit := fun s =>
 if ((op.toNat : Int) == 18) = true then Mb (Ic s) fun y s => Mb (Ic s) fun x s => Lc (x.n == y.n) s
 else if ((op.toNat : Int) == 24) = true then Mb (I3 A B s) fun t s => Mb (DD (Ew (16 + ((Ew A).toNat : Int))) s) fun v s => Mb (Gu v s) fun ref s => (M5 s ref B).bind fun q => (Ds t).bind fun k => Cb k q.1 s
 else if ((op.toNat : Int) == 25) = true then Mb (I3 A B s) fun t s => Mb (DD t s) fun v s => Mb (DD (Ew (16 + ((Ew A).toNat : Int))) s) fun r s => Mb (Gu r s) fun ref s => (FU s ref B v.n).bind fun q => some (.ok (), q.2)
 else Mb (Bc (decide (A < (s.m.Classes.length : Int))) s) fun _ s =>
  if ((op.toNat : Int) == 23) = true then Mb (Ia s) fun _ s => (Iz s A).bind fun q => J5 q.1 q.2
  else if ((op.toNat : Int) == 30) = true then Mb (Ic s) fun v s => (if (v.n != 0) = true then Jm s v.n A else some true).bind fun b => if b = true then Cb 3 v.n s else GL 5 s
  else Mb (Ic s) fun v s => (Jm s v.n A).bind fun b => Lc b s
section
variable {w : World} {K : MK} {vc vt : Value} {cs : Lay} {S : MS} {w0 : World} {F0 : List Nat} {loc : List Ck}
theorem VT {c : Int} {p : (Int × Int) × MS} (s0 : SL w0 F0 w (loc ++ mS K vc vt cs S)) (hI : K.In w0 F0 S.m) (H : Iz S c = some p) : Calls prog 113 #[jP K.gh, .int .i64 c] w (AN fun u w_ => (p.2.calls = S.calls ∧ p.2.m = S.m) ∧ u = .tuple ⟨[.int .i64 p.1.1, .int .i64 p.1.2]⟩ ∧ SL w0 F0 w_ (loc ++ mS K vc vt cs p.2)) := by
 obtain ⟨os, hl, s1⟩ := SL.hop s0
 refine (VX s1 hl hI.h H).mono ?_
 rintro e w' ⟨v, rfl, os', hl', hv, hq⟩
 have hS : p.2.calls = S.calls ∧ p.2.m = S.m ∧ p.2.told = S.told ∧ IE K vc vt p.2 = IE K vc vt S := by
  unfold Iz at H
  split at H
  ·cases H; exact ⟨rfl, rfl, rfl, rfl⟩
  split at H
  ·cases H; exact ⟨rfl, rfl, rfl, rfl⟩
  obtain ⟨l, hfl, H1⟩ := bind_ok H
  unfold Ie at H1
  split at H1
  ·cases H1; exact ⟨rfl, rfl, rfl, rfl⟩
  obtain ⟨z, hz, H2⟩ := bind_ok H1
  split at H2
  ·cases H2; exact ⟨rfl, rfl, rfl, rfl⟩
  ·cases H2
 refine ⟨v, rfl, ⟨hS.1, hS.2.1⟩, hv, SL.hsh (os := os') hl' ?_⟩
 unfold Nw
 rw [hS.1, hS.2.2.1, hS.2.2.2]
 exact hq
theorem NJ {S : MS} {p : Re MV × MS} (H : Ic S = some p) : p.2.m = S.m := by
 unfold Ic at H
 rcases AQ H with ⟨e, t, q, S1, hr, rfl⟩ | ⟨x, S1, hr, H2⟩
 ·exact JU hr
 ·have h := JU hr
  rcases AQ H2 with ⟨e, t, q, S2, hr2, rfl⟩ | ⟨_, S2, hr2, H3⟩ <;> unfold Bc at hr2 <;> split at hr2 <;> cases hr2
  ·exact h
  ·cases H3; exact h
theorem TO {ref i v : Int} {S : MS} {q : Int × MS} {y : Lay} (hC : B1 S y) (hq : FU S ref i v = some q) : B1 q.2 y := by
 unfold FU at hq
 obtain ⟨o, hx, H1⟩ := bind_ok hq
 repeat' split at H1
 all_goals first
  | (cases H1; exact hC)
  | (obtain ⟨z, hz, H2⟩ := bind_ok H1; cases H2; exact hC)
theorem W0 {i : Bs} {p : Re Unit × MS} (s0 : SL w0 F0 w (loc ++ mS K vc vt cs S)) (hL : B1 S cs) (hI : K.In w0 F0 S.m) (H : Kv i.Op i.A i.B S = some p) :
  Calls prog 75 #[jP K.g, .agg ⟨Au i⟩] w (C0 p.1 (fun _ v => v = .tuple #[]) (B1 p.2) (fun cs => loc ++ mS K vc vt cs p.2) w0 F0) := by
 letI := Co
 unfold Kv at H
 refine C9 func75 ntmps75 fun _ F1 => ?_
 refine Bz F1 s0 rfl rfl rfl fun g1 w1 _ F2 s1 => ?_
 refine zw F2 fun _ F2 => ?_
 refine AE F2 s1 m0 fun _ F3 => ?_
 split at H <;> rename_i h1
 ·refine zt F3 h1 fun _ F4 => ?_
  rcases AQ H with ⟨e, t, q, S1, hr, rfl⟩ | ⟨y, S1, hr, H2⟩ <;> have hc := Nn (loc := Ae g1 130 (Au i) :: loc) s1 hL hr
  ·exact kn F4 hc fun w3 y hC s4 => rP rfl hC (SL.drop s4)
  clear H
  refine kc F4 hc fun v3 w3 _ y1 hv hC s4 F5 => ?_
  obtain rfl := hv
  refine An F5 s4 Cm rfl rfl fun g2 w4 _ F6 s5 => ?_
  refine A9 (ds := [.int .i64 y.kind, .int .i64 y.n]) F6 s5 rfl rfl Eg (List.all_eq_true.1 rfl) rfl fun w5 _ F7 s6 => ?_
  refine zw F7 fun _ F8 => ?_
  rcases AQ H2 with ⟨e, t, q, S2, hr2, rfl⟩ | ⟨x, S2, hr2, H3⟩ <;> have hc2 := Nn (loc := Ae g2 122 [.int .i64 y.kind, .int .i64 y.n] :: Ae g1 130 (Au i) :: loc) s6 hC hr2
  ·exact kn F8 hc2 fun w3 y hC s4 => rP rfl hC (SL.drop (SL.drop s4))
  clear H2
  refine kc F8 hc2 fun v4 w6 _ y2 hv hC2 s7 F9 => ?_
  obtain rfl := hv
  refine An F9 s7 Cm rfl rfl fun g3 w7 _ F10 s8 => ?_
  refine A9 (ds := [.int .i64 x.kind, .int .i64 x.n]) F10 s8 rfl rfl Eg (List.all_eq_true.1 rfl) rfl fun w8 _ F11 s9 => ?_
  refine zw F11 fun _ F12 => ?_
  refine AE F12 s9 m0 fun _ F13 => ?_
  refine AE F13 s9 m1 fun _ F14 => ?_
  refine DG (extra := [Ae g3 122 [.int .i64 x.kind, .int .i64 x.n], Ae g2 122 [.int .i64 y.kind, .int .i64 y.n], Ae g1 130 (Au i)]) F14 (LH (loc := Ae g3 122 [.int .i64 x.kind, .int .i64 x.n] :: Ae g2 122 [.int .i64 y.kind, .int .i64 y.n] :: Ae g1 130 (Au i) :: loc) s9 hC2 H3) fun w y a hC2 hs F15 he => ?_
  refine zw F15 fun _ F16 => ?_
  exact rE (vs := []) F16 he rfl hC2 hs
 refine zf F3 (Bool.eq_false_iff.2 h1) fun _ F4 => ?_
 split at H <;> rename_i h2
 ·refine zt F4 h2 fun _ F5 => ?_
  refine AE F5 s1 m0 fun _ F6 => ?_
  rcases AQ H with ⟨e, t, q, S1, hr, rfl⟩ | ⟨t, S1, hr, H2⟩ <;> have hc := Rp (loc := Ae g1 130 (Au i) :: loc) s1 hI hr
  ·exact kn F6 hc fun w3 _ e s4 => rP (y := cs) rfl (by have e2 : S1 = S := e; rw [e2]; exact hL) (by have e2 : S1 = S := e; rw [e2]; exact SL.drop s4)
  clear H
  refine kc F6 hc fun v3 w3 _ y1 hv e s4 F7 => ?_
  obtain rfl := hv
  obtain rfl : S1 = S := e
  refine zw F7 fun _ F8 => ?_
  refine BH (fun w_ => w_.cell? ⟨K.g, 5, none⟩ = some (jP K.gh) ∧ w_.cell? ⟨g1, 2, none⟩ = some (.int .i64 i.A) ∧ w_.cell? ⟨g1, 3, none⟩ = some (.int .i64 i.B)) [] Cn (Ce [0, 1, 2, 3, 4, 5, 6, 10, 11] F8 (Bl rfl) ⟨(SL.mb (loc := Ae g1 130 (Au i) :: loc) s4.drew).Aq m0 (o := 5) rfl, s4.drew.Aq m0 rfl, s4.drew.Aq m0 rfl⟩ (QI.ev 3 rfl <| QI.op rfl (fun w hw => Ar NP rfl hw.1) rfl <| QI.ev 2 rfl <| QI.op rfl (fun w hw => Ar D1 rfl hw.2.1) rfl <| QI.ev 1 rfl <| QI.op rfl (fun w hw => Ar D1 rfl hw.2.2) rfl <| QI.nil) fun _ F9 => ?_)
  obtain rfl : y1 = () := rfl
  have hc3 : ∀ {w : World} {y : Lay} {T : MS}, SL w0 F0 w (Ae g1 130 (Au i) :: loc ++ mS K vc vt y T) → w.cell? ⟨K.g, 5, none⟩ = some (jP K.gh) ∧ w.cell? ⟨g1, 2, none⟩ = some (.int .i64 i.A) ∧ w.cell? ⟨g1, 3, none⟩ = some (.int .i64 i.B) := fun h => ⟨(SL.mb (loc := Ae g1 130 (Au i) :: loc) h).Aq m0 (o := 5) rfl, h.Aq m0 rfl, h.Aq m0 rfl⟩
  refine BN 7 rfl (AU F9 (JF (a0 := i.A) rfl) fun v5 w5 _ hS F10 => A8 ⟨fun _ => hc3 (s4.drew.add hS.2), ?_⟩)
  obtain ⟨rfl, hq⟩ := hS
  have s5 : SL w0 F0 w5 (Ae g1 130 (Au i) :: loc ++ mS K vc vt cs S1) := s4.drew.add hq
  rcases AQ H2 with ⟨e, u, v, S2, hr2, rfl⟩ | ⟨v, S2, hr2, H3⟩ <;> have hc2 := EF (loc := Ae g1 130 (Au i) :: loc) s5 hL hI hr2
  ·exact IP 8 F10 hc2 fun w3 y hC s4 => Br rfl F10 (rP rfl hC (SL.drop s4))
  clear H2
  refine IM 8 F10 hc2 fun v4 w6 _ y2 hv hC2 s6 F11 => ⟨fun _ => hc3 s6, ?_⟩
  obtain rfl := hv
  rcases AQ H3 with ⟨e, u, x, S3, hr3, rfl⟩ | ⟨rf, S3, hr3, H4⟩ <;> have hc4 := JY (loc := Ae g1 130 (Au i) :: loc) s6 hr3
  ·exact IP 9 F11 hc4 fun w3 _ e s7 => Br rfl F11 (rP (y := y2) rfl (by have e2 : S3 = S2 := e; rw [e2]; exact hC2) (by have e2 : S3 = S2 := e; rw [e2]; exact SL.drop s7))
  clear H3
  refine IM 9 F11 hc4 fun v6 w7 _ _ hv e s7 F12 => ⟨fun _ => hc3 s7, ?_⟩
  obtain rfl := hv
  obtain rfl : S3 = S2 := e
  obtain ⟨q, hq, H5⟩ := bind_ok H4
  obtain ⟨k, hk, H6⟩ := bind_ok H5
  clear H4 H5
  refine BN 12 rfl (AU F12 (get_at (loc := Ae g1 130 (Au i) :: loc) s7 hq) fun v8 w8 _ hS F13 => A8 ⟨fun _ => hc3 hS.2, ?_⟩)
  obtain ⟨rfl, s8⟩ := hS
  refine Ce [13, 14, 15, 16, 17] F13 (Bl rfl) (hc3 s8) (QI.ev 5 rfl <| QI.nil) fun _ F14 => ?_
  refine BE ?_
  refine ze F14 fun _ F15 => ?_
  refine AU F15 (Ju hk) fun v9 w9 _ hS F16 => ?_
  obtain ⟨rfl, hq9⟩ := hS
  have s9 : SL w0 F0 w9 (Ae g1 130 (Au i) :: loc ++ mS K vc vt y2 S3) := s8.add hq9
  refine zw F16 fun _ F17 => ?_
  refine DG (extra := [Ae g1 130 (Au i)]) F17 (C5 (loc := Ae g1 130 (Au i) :: loc) s9 hC2 H6) fun w y a hC2 hs F18 he => ?_
  refine zw F18 fun _ F19 => ?_
  exact rE (vs := []) F19 he rfl hC2 hs
 refine zf F4 (Bool.eq_false_iff.2 h2) fun _ F5 => ?_
 split at H <;> rename_i h3
 ·refine zt F5 h3 fun _ F6 => ?_
  refine AE F6 s1 m0 fun _ F7 => ?_
  rcases AQ H with ⟨e, t, q, S1, hr, rfl⟩ | ⟨t, S1, hr, H2⟩ <;> have hc := Rp (loc := Ae g1 130 (Au i) :: loc) s1 hI hr
  ·exact kn F7 hc fun w3 _ e s4 => rP (y := cs) rfl (by have e2 : S1 = S := e; rw [e2]; exact hL) (by have e2 : S1 = S := e; rw [e2]; exact SL.drop s4)
  clear H
  refine kc F7 hc fun v3 w3 _ y1 hv e s4 F8 => ?_
  obtain rfl := hv
  obtain rfl : S1 = S := e
  refine zw F8 fun _ F9 => ?_
  rcases AQ H2 with ⟨e, u, v, S2, hr2, rfl⟩ | ⟨v, S2, hr2, H3⟩ <;> have hc2 := EF (loc := Ae g1 130 (Au i) :: loc) s4 hL hI hr2
  ·exact kn F9 hc2 fun w3 y hC s5 => rP rfl hC (SL.drop s5)
  clear H2
  have hm2 := G0 hr2
  dsimp only at hm2
  refine kc F9 hc2 fun v4 w4 _ y2 hv hC2 s5 F10 => ?_
  obtain rfl := hv
  refine An F10 s5 Cm rfl rfl fun g2 w5 _ F11 s6 => ?_
  refine A9 (ds := [.int .i64 v.kind, .int .i64 v.n]) F11 s6 rfl rfl Eg (List.all_eq_true.1 rfl) rfl fun w6 _ F12 s7 => ?_
  refine zw F12 fun _ F13 => ?_
  have hc3 : ∀ {w : World} {y : Lay} {T : MS}, SL w0 F0 w (Ae g2 122 [.int .i64 v.kind, .int .i64 v.n] :: Ae g1 130 (Au i) :: loc ++ mS K vc vt y T) → w.cell? ⟨K.g, 5, none⟩ = some (jP K.gh) ∧ w.cell? ⟨g1, 2, none⟩ = some (.int .i64 i.A) ∧ w.cell? ⟨g1, 3, none⟩ = some (.int .i64 i.B) ∧ w.cell? ⟨g2, 1, none⟩ = some (.int .i64 v.n) := fun h => ⟨(SL.mb (loc := Ae g2 122 [.int .i64 v.kind, .int .i64 v.n] :: Ae g1 130 (Au i) :: loc) h).Aq m0 (o := 5) rfl, h.Aq m1 rfl, h.Aq m1 rfl, h.Aq m0 rfl⟩
  refine BH (fun w_ => w_.cell? ⟨K.g, 5, none⟩ = some (jP K.gh) ∧ w_.cell? ⟨g1, 2, none⟩ = some (.int .i64 i.A) ∧ w_.cell? ⟨g1, 3, none⟩ = some (.int .i64 i.B) ∧ w_.cell? ⟨g2, 1, none⟩ = some (.int .i64 v.n)) [] Cn (Ce [0, 1, 2, 3, 4, 5, 6, 10, 11, 12, 13] F13 (Bl rfl) (hc3 s7.drew) (QI.ev 3 rfl <| QI.op rfl (fun w hw => Ar NP rfl hw.1) rfl <| QI.ev 2 rfl <| QI.op rfl (fun w hw => Ar D1 rfl hw.2.1) rfl <| QI.ev 1 rfl <| QI.op rfl (fun w hw => Ar D1 rfl hw.2.2.1) rfl <| QI.ev 1 rfl <| QI.op rfl (fun w hw => Ar D1 rfl hw.2.2.2) rfl <| QI.nil) fun _ F14 => ?_)
  refine BN 7 rfl (AU F14 (JF (a0 := i.A) rfl) fun v5 w7 _ hS F15 => A8 ⟨fun _ => hc3 (s7.drew.add hS.2), ?_⟩)
  obtain ⟨rfl, hq⟩ := hS
  have s8 : SL w0 F0 w7 (Ae g2 122 [.int .i64 v.kind, .int .i64 v.n] :: Ae g1 130 (Au i) :: loc ++ mS K vc vt y2 S2) := s7.drew.add hq
  rcases AQ H3 with ⟨e, u, q, S3, hr3, rfl⟩ | ⟨r, S3, hr3, H4⟩ <;> have hc4 := EF (loc := Ae g2 122 [.int .i64 v.kind, .int .i64 v.n] :: Ae g1 130 (Au i) :: loc) s8 hC2 (hm2 ▸ hI) hr3
  ·exact IP 8 F15 hc4 fun w3 y hC s4 => Br rfl F15 (rP rfl hC (SL.drop (SL.drop s4)))
  clear H3
  refine IM 8 F15 hc4 fun v6 w8 _ y3 hv hC3 s9 F16 => ⟨fun _ => hc3 s9, ?_⟩
  obtain rfl := hv
  rcases AQ H4 with ⟨e, u, x, S4, hr4, rfl⟩ | ⟨rf, S4, hr4, H5⟩ <;> have hc5 := JY (loc := Ae g2 122 [.int .i64 v.kind, .int .i64 v.n] :: Ae g1 130 (Au i) :: loc) s9 hr4
  ·exact IP 9 F16 hc5 fun w3 _ e s7 => Br rfl F16 (rP (y := y3) rfl (by have e2 : S4 = S3 := e; rw [e2]; exact hC3) (by have e2 : S4 = S3 := e; rw [e2]; exact SL.drop (SL.drop s7)))
  clear H4
  refine IM 9 F16 hc5 fun v7 w9 _ _ hv e s10 F17 => ⟨fun _ => hc3 s10, ?_⟩
  obtain rfl := hv
  obtain rfl : S4 = S3 := e
  obtain ⟨⟨er, S5⟩, hq5, H6⟩ := bind_ok H5
  cases H6
  refine BN 14 rfl (AU F17 (SG (loc := Ae g2 122 [.int .i64 v.kind, .int .i64 v.n] :: Ae g1 130 (Au i) :: loc) s10 hq5) fun v8 w10 _ hS F18 => A8 ⟨fun _ => hc3 hS.2, ?_⟩)
  obtain ⟨rfl, s11⟩ := hS
  refine BE ?_
  refine ze F18 fun _ F19 => ?_
  exact rE (vs := []) (y := y3) F19 rfl rfl (TO hC3 hq5) (SL.drop (SL.drop s11))
 refine zf F5 (Bool.eq_false_iff.2 h3) fun _ F6 => ?_
 obtain ⟨A0, k0, e0⟩ := fR hI.c s1
 refine BH (fun w_ => SL w0 F0 w_ (Ae g1 130 (Au i) :: loc ++ mS K vc vt cs S)) [] Cn (Ce [0, 1, 2, 3, 4, 5, 6, 7, 8, 9] F6 (Bl rfl) s1.drew (QI.ev 2 rfl <| QI.ld m0 rfl <| QI.ev 4 rfl <| QI.op rfl (fun w hw => Ar RH rfl ((SL.mb (loc := Ae g1 130 (Au i) :: loc) hw).Aq m0 (o := 2) rfl)) rfl <| QI.op rfl (fun w hw => Ao rfl underlying22 ⟨A0, k0, e0⟩) rfl <| QI.ev 1 rfl <| QI.nil) fun _ F7 => ?_)
 have hst := Dm (loc := Ae g1 130 (Au i) :: loc) (decide (i.A < (S.m.Classes.length : Int))) s1.drew
 rcases AQ H with ⟨e, u, v, S1, hr, rfl⟩ | ⟨_, S1, hr, H2⟩ <;> unfold Bc at hr <;> split at hr <;> rename_i hb <;> cases hr
 ·rw [Ac hb] at hst
  exact IP 10 F7 hst fun w3 _ _ s4 => Br rfl F7 (rP (y := cs) rfl hL (SL.drop s4))
 rw [Ab hb] at hst
 clear H
 refine IM 10 F7 hst fun v3 w3 _ y hV _ s3 F8 => ⟨fun _ => s3, BE ?_⟩
 refine ze F8 fun _ F9 => ?_
 refine AE F9 s3 m0 fun _ F10 => ?_
 split at H2 <;> rename_i h4
 ·refine zt F10 h4 fun _ F11 => ?_
  rcases AQ H2 with ⟨e, u, v, S2, hr2, rfl⟩ | ⟨_, S2, hr2, H3⟩ <;> have hc2 := N2 (loc := Ae g1 130 (Au i) :: loc) s3 hL.1 hL.2 hr2
  ·exact kn F11 hc2 fun w4 _ e s5 => rP (y := cs) rfl (by have e2 : S2 = S := e; rw [e2]; exact hL) (SL.drop (by have e2 : S2 = S := e; rw [e2]; exact s5))
  clear H2
  refine kc F11 hc2 fun v4 w4 _ _ hv e s4 F12 => ?_
  obtain rfl : S2 = S := e
  obtain ⟨⟨⟨rf, er⟩, S3⟩, hq, H4⟩ := bind_ok H3
  refine zw F12 fun _ F13 => ?_
  have hc3 : ∀ {w : World} {y : Lay} {T : MS}, SL w0 F0 w (Ae g1 130 (Au i) :: loc ++ mS K vc vt y T) → w.cell? ⟨K.g, 5, none⟩ = some (jP K.gh) ∧ w.cell? ⟨g1, 2, none⟩ = some (.int .i64 i.A) := fun h => ⟨(SL.mb (loc := Ae g1 130 (Au i) :: loc) h).Aq m0 (o := 5) rfl, h.Aq m0 rfl⟩
  refine BH (fun w_ => w_.cell? ⟨K.g, 5, none⟩ = some (jP K.gh) ∧ w_.cell? ⟨g1, 2, none⟩ = some (.int .i64 i.A)) [] Cn (Ce [0, 1, 2, 3, 4, 5, 6] F13 (Bl rfl) (hc3 s4.drew) (QI.ev 4 rfl <| QI.op rfl (fun w hw => Ar NP rfl hw.1) rfl <| QI.ev 1 rfl <| QI.op rfl (fun w hw => Ar D1 rfl hw.2) rfl <| QI.nil) fun _ F14 => ?_)
  refine BN 7 rfl (AU F14 (VT (loc := Ae g1 130 (Au i) :: loc) s4.drew hI hq) fun v5 w5 _ hS F15 => A8 ⟨fun _ => hc3 hS.2.2, ?_⟩)
  obtain ⟨⟨hcl, hm⟩, rfl, s5⟩ := hS
  refine Ce [8, 9] F15 (Bl rfl) (hc3 s5) (QI.ev 2 rfl <| QI.nil) fun _ F16 => ?_
  have hC3 : B1 S3 cs := ⟨by rw [hcl]; exact hL.1, J0 hL.2 (by rw [hcl])⟩
  have hmd := Sr (loc := Ae g1 130 (Au i) :: loc) s5 hC3 H4
  obtain ⟨r, S6⟩ := p
  cases r with
  | no e u v => exact IP 10 F16 hmd fun w7 y9 hC9 s29 => Br rfl F16 (rP (y := y9) rfl hC9 (SL.drop s29))
  | ok z =>
   refine IM 10 F16 hmd fun v6 w7 _ y9 hv9 hC9 s29 F17 => ⟨fun _ => hc3 s29, BE ?_⟩
   refine ze F17 fun _ F18 => ?_
   exact rN (y := y9) F18 rfl rfl hC9 (SL.drop s29)
 refine zf F10 (Bool.eq_false_iff.2 h4) fun _ F11 => ?_
 split at H2 <;> rename_i h5
 ·refine zt F11 h5 fun _ F12 => ?_
  rcases AQ H2 with ⟨e, u, v, S2, hr2, rfl⟩ | ⟨v, S2, hr2, H3⟩ <;> have hc2 := Nn (loc := Ae g1 130 (Au i) :: loc) s3 hL hr2
  ·exact kn F12 hc2 fun w4 y hC s5 => rP rfl hC (SL.drop s5)
  clear H2
  have hm2 : S2.m = S.m := NJ hr2
  refine kc F12 hc2 fun v4 w4 _ y2 hv hC2 s5 F13 => ?_
  obtain rfl := hv
  obtain ⟨b, hb2, H4⟩ := bind_ok H3
  refine An F13 s5 Cm rfl rfl fun g2 w5 _ F14 s6 => ?_
  refine A9 (ds := [.int .i64 v.kind, .int .i64 v.n]) F14 s6 rfl rfl Eg (List.all_eq_true.1 rfl) rfl fun w6 _ F15 s7 => ?_
  refine zw F15 fun _ F16 => ?_
  refine Sc 2 F16 s7 m0 fun _ F17 => ?_
  split at hb2 <;> rename_i h6
  ·refine zw (F17.kt (d := 120) h6) fun _ F18 => ?_
   refine Bu F18 rfl rfl rfl (Ar D1 rfl (s7.Aq m0 (o := 1) rfl)) rfl rfl fun _ F19 => ?_
   refine zw F19 fun _ F20 => ?_
   refine Bu F20 rfl rfl rfl (Ar D1 rfl (s7.Aq m1 (o := 2) rfl)) rfl rfl fun _ F21 => ?_
   refine Oc F21 (N7 (loc := Ae g2 122 [.int .i64 v.kind, .int .i64 v.n] :: Ae g1 130 (Au i) :: loc) s7 (hm2 ▸ hI) hb2) fun v8 w8 _ hS F22 => ?_
   obtain ⟨rfl, s8⟩ := hS
   cases b with
   | false =>
    cases H4
    refine zw F22 fun _ F23 => ?_
    refine zt F23 rfl fun _ F24 => ?_
    exact Hn F24 (Ex s8) fun w2 s9 => Br rfl F24 (rP (y := y2) rfl hC2 (SL.drop (SL.drop s9)))
   | true =>
    refine zw F22 fun _ F23 => ?_
    refine zf F23 rfl fun _ F24 => ?_
    refine AE F24 s8 m0 fun _ F25 => ?_
    refine DG (extra := [Ae g2 122 [.int .i64 v.kind, .int .i64 v.n], Ae g1 130 (Au i)]) F25 (C5 (loc := Ae g2 122 [.int .i64 v.kind, .int .i64 v.n] :: Ae g1 130 (Au i) :: loc) s8 hC2 H4) fun w y a hC2 hs F18 he => ?_
    refine zw F18 fun _ F19 => ?_
    exact rN F19 he rfl hC2 hs
  ·cases hb2
   refine zw (F17.kf (d := 120) (Bool.eq_false_iff.2 h6)) fun _ F23 => ?_
   refine zf F23 rfl fun _ F24 => ?_
   refine AE F24 s7 m0 fun _ F25 => ?_
   refine DG (extra := [Ae g2 122 [.int .i64 v.kind, .int .i64 v.n], Ae g1 130 (Au i)]) F25 (C5 (loc := Ae g2 122 [.int .i64 v.kind, .int .i64 v.n] :: Ae g1 130 (Au i) :: loc) s7 hC2 H4) fun w y a hC2 hs F18 he => ?_
   refine zw F18 fun _ F19 => ?_
   exact rN F19 he rfl hC2 hs
 refine zf F11 (Bool.eq_false_iff.2 h5) fun _ F12 => ?_
 have hc3 : ∀ {w : World} {y : Lay} {T : MS}, SL w0 F0 w (Ae g1 130 (Au i) :: loc ++ mS K vc vt y T) → w.cell? ⟨g1, 2, none⟩ = some (.int .i64 i.A) := fun h => h.Aq m0 rfl
 refine BH (fun w_ => w_.cell? ⟨g1, 2, none⟩ = some (.int .i64 i.A)) [] Cn (Ce [0, 1, 2, 5, 6] F12 (Bl rfl) (hc3 s3.drew) (QI.ev 4 rfl <| QI.op rfl (fun w hw => Ar D1 rfl hw) rfl <| QI.nil) fun _ F13 => ?_)
 rcases AQ H2 with ⟨e, u, v, S2, hr2, rfl⟩ | ⟨v, S2, hr2, H3⟩ <;> have hc2 := Nn (loc := Ae g1 130 (Au i) :: loc) s3.drew hL hr2
 ·exact IP 3 F13 hc2 fun w4 y hC s5 => Br rfl F13 (rP rfl hC (SL.drop s5))
 clear H2
 have hm2 : S2.m = S.m := NJ hr2
 refine IM 3 F13 hc2 fun v4 w4 _ y2 hv hC2 s5 F14 => ⟨fun _ => hc3 s5, ?_⟩
 obtain rfl := hv
 obtain ⟨b, hb2, H4⟩ := bind_ok H3
 refine QW 4 rfl F14 (hc3 s5) (EC FG rfl rfl) fun _ F15 => ?_
 refine BN 7 rfl (AU F15 (N7 (loc := Ae g1 130 (Au i) :: loc) s5 (hm2 ▸ hI) hb2) fun v8 w8 _ hS F16 => A8 ⟨fun _ => hc3 hS.2, ?_⟩)
 obtain ⟨rfl, s8⟩ := hS
 have hbt := LH (loc := Ae g1 130 (Au i) :: loc) s8 hC2 H4
 obtain ⟨r, S6⟩ := p
 cases r with
 | no e u v => exact IP 8 F16 hbt fun w7 y9 hC9 s29 => Br rfl F16 (rP (y := y9) rfl hC9 (SL.drop s29))
 | ok z =>
  refine IM 8 F16 hbt fun v6 w7 _ y9 hv9 hC9 s29 F17 => ⟨fun _ => hc3 s29, BE ?_⟩
  refine ze F17 fun _ F18 => ?_
  exact rN (y := y9) F18 rfl rfl hC9 (SL.drop s29)
end
end Go.Proofs.YtpnacdckamiedaaGreat
namespace Go.Proofs.YtpnacdckamiedaaGreat
open Go Go.RowKit Go.Pv Go.Proofs.Tryz
theorem IR {w : World} {FF : List Nat} {g1 : Nat} {v1_0 : Value} {a0 : Int} {a1 : List UInt8} {r : Int × (List UInt8)} (hst : Aw [Ae g1 67 [v1_0]] w FF) (hr1_0 : Rd Ty.u8 w FF v1_0 a1) (H : Ee a0 a1 = some r) :
  Calls prog 101 #[.int .i64 a0, .pointer (some ⟨g1, 0, none⟩)] w (AN fun u_ w_ => ∃ u0 : Value, u_ = .int .i64 r.1 ∧ Fc Ty.u8 v1_0 a1 u0 r.2 ∧ SL w FF w_ [Ae g1 67 [u0]]) := by
 have s0 : SL w FF w [Ae g1 67 [v1_0]] := SL.init w FF hst
 refine BV func101 ntmps101 13 rfl rfl rfl fun _ F4 => ?_
 unfold Ee at H
 obtain ⟨x699, hx700, H⟩ := bind_ok H
 obtain ⟨v701, hsc702, hv703⟩ := PM (CU hr1_0 s0) Gn rfl hx700 none (some a0) (.inr ⟨rfl, rfl⟩) (.inl rfl)
 have hv704 := Fc.refl.trans hv703
 have hr705 := Fc.rd hv703 hr1_0
 refine AA F4 s0 m0 1 rfl fun _ F707 => ?_
 refine gx F707 (hsc702 _ _ _ _ _ .i64 .i64 _ _ _ _ _ rfl trivial rfl) 0 rfl rfl fun _ F708 => ?_
 obtain ⟨o1145, H1146, R1147⟩ := bind_ok H
 clear H
 refine gx F708 (Ao rfl underlying67 (fR hr705 s0)) 3 rfl rfl fun _ F710 => ?_
 refine BB (fun a w_ => Fr a 30 [(0, .int .i64 a0), (1, .pointer (some ⟨g1, 0, none⟩)), (4, .int .i64 o1145)] ∧ SL w FF w_ [Ae g1 67 [v1_0]]) ?_ ?_
 ·have H := H1146
  refine gc 1 F710 rfl fun _ F710 => ?_
  refine Dk (CH x699) (fun s1148 a w_ => Fr a 30 [(0, .int .i64 a0), (1, .pointer (some ⟨g1, 0, none⟩)), (4, .int .i64 s1148.1), (9, v701), (10, .int .i64 (x699.length : Int)), (11, .int .i64 s1148.2)] ∧ SL w FF w_ [Ae g1 67 [v1_0]]) H ?_ ?_
  ·exact ⟨F710.sb, s0⟩
  ·intro s1148 q1311 w1312 hI1313 o1310 H hr
   obtain ⟨F1308, s1309⟩ := hI1313
   replace H : CH x699 s1148 = some o1310 := H
   unfold CH at H
   refine gc 6 F1308 rfl fun _ F1315 => ?_
   refine AK F1315 H 6 4 rfl rfl rfl (fun hb1318 H _ F1319 => ?_) (fun hb1318 H _ F1319 => ?_)
   ·obtain ⟨x1350, hx1351, H⟩ := bind_ok H
    obtain ⟨ad1352, hi1353, hc1354⟩ := GG Flat.u8 (CU hr705 s1309) Gn rfl hx1351
    refine gi F1319 hi1353 0 rfl fun _ F1355 => ?_
    refine gx F1355 (Ar LO rfl (Cells.at_ hc1354 (o := 0) rfl)) 5 rfl rfl fun _ F1358 => ?_
    refine gx F1358 (Wk rfl rfl rfl) 1 rfl rfl fun _ F1360 => ?_
    refine gx F1360 (Jw rfl underlying5 underlying3) 0 rfl rfl fun _ F1361 => ?_
    cases H
    refine gx F1361 (Xj rfl rfl) 8 rfl rfl fun _ F1364 => ?_
    exact ⟨_, rfl, F1364.sb, s1309⟩
   ·cases H
    obtain rfl := hr _ rfl
    exact ⟨F1319.sb, s1309⟩
 ·intro q1367 w1368 hJ
  obtain ⟨F1365, s1366⟩ := hJ
  have H := R1147
  clear R1147 H1146
  obtain ⟨x1384, hx1385, H⟩ := bind_ok H
  obtain ⟨v1386, hsc1387, hv1388⟩ := PM (CU hr1_0 s1366) Gn rfl hx1385 (some a0) none (.inl rfl) (.inr ⟨rfl, rfl⟩)
  have hv1389 := Fc.refl.trans hv1388
  have hr1390 := Fc.rd hv1388 hr1_0
  refine ge 3 F1365 rfl fun _ F1365 => ?_
  refine AA F1365 s1366 m0 1 rfl fun _ F1392 => ?_
  refine gx F1392 (hsc1387 _ _ _ _ _ .i64 .i64 _ _ _ _ _ rfl rfl trivial) 0 rfl rfl fun _ F1393 => ?_
  refine AZ F1393 s1366 rfl rfl Mf (AG (fR hr1390 s1366)) (Aj (fR hr1390 s1366)) rfl fun w1394 q1395 F1396 s1397 => ?_
  refine gw 9 F1396 rfl fun _ F1412 => ?_
  refine AK F1412 H 3 9 rfl rfl rfl (fun hb1413 H _ F1419 => ?_) (fun hb1413 H _ F1424 => ?_)
  ·refine gx F1419 (C7 rfl underlying3 underlying21) 0 rfl rfl fun _ F1420 => ?_
   cases H
   refine gx F1420 (C7 rfl underlying21 underlying3) 5 rfl rfl fun _ F1422 => ?_
   exact rt F1422 ⟨v1386, rfl, hv1389, s1397⟩
  ·cases H
   exact rt F1424 ⟨v1386, rfl, hv1389, s1397⟩
end Go.Proofs.YtpnacdckamiedaaGreat
namespace Go.Proofs.YtpnacdckamiedaaGreat
open Go Go.RowKit Go.Pv Go.Proofs.Tryz
theorem KL {w : World} {a0 : UInt8} {r : Int × Int}  (H : Gd a0 = some r) :
  Calls prog 102 #[.int .u8 (a0.toNat : Int)] w (AN fun u_ w_ => u_ = .tuple ⟨[.int .i64 r.1, .int .i64 r.2]⟩ ∧ SL w [] w_ []) := by
 have s0 : SL w [] w [] := SL.Bf w
 refine BV func102 ntmps102 30 rfl rfl rfl fun _ F12768 => ?_
 unfold Gd at H
 refine AK F12768 H 23 4 rfl rfl rfl (fun hb12769 H _ F12774 => ?_) (fun hb12769 H _ F12770 => ?_)
 ·cases H
  exact rt F12774 ⟨rfl, s0⟩
 ·obtain ⟨o12802, H12803, R12804⟩ := bind_ok H
  clear H
  refine BB (fun a w_ => Fr a 23 [(4, .int .u8 (a0.toNat : Int)), (7, .bool o12802)] ∧ SL w [] w_ []) ?_ ?_
  ·have H := H12803
   refine gc 6 F12770 rfl fun _ F12806 => ?_
   refine AK F12806 H 1 4 rfl rfl rfl (fun hb12807 H _ F12808 => ?_) (fun hb12807 H _ F12809 => ?_)
   ·cases H
    exact ⟨F12808.sb, s0⟩
   ·cases H
    exact ⟨F12809.sb, s0⟩
  ·intro q12812 w12813 hJ
   obtain ⟨F12810, s12811⟩ := hJ
   have H := R12804
   clear R12804 H12803
   refine ge 1 F12810 rfl fun _ F12810 => ?_
   refine AK F12810 H 23 4 rfl rfl rfl (fun hb12814 H _ F12819 => ?_) (fun hb12814 H _ F12815 => ?_)
   ·cases H
    exact rt F12819 ⟨rfl, s12811⟩
   ·obtain ⟨o12847, H12848, R12849⟩ := bind_ok H
    clear H
    refine BB (fun a w_ => Fr a 23 [(4, .int .u8 (a0.toNat : Int)), (10, .bool o12847)] ∧ SL w [] w_ []) ?_ ?_
    ·have H := H12848
     refine gc 6 F12815 rfl fun _ F12851 => ?_
     refine AK F12851 H 1 4 rfl rfl rfl (fun hb12852 H _ F12853 => ?_) (fun hb12852 H _ F12854 => ?_)
     ·cases H
      exact ⟨F12853.sb, s12811⟩
     ·cases H
      exact ⟨F12854.sb, s12811⟩
    ·intro q12857 w12858 hJ
     obtain ⟨F12855, s12856⟩ := hJ
     have H := R12849
     clear R12849 H12848
     refine ge 1 F12855 rfl fun _ F12855 => ?_
     refine AK F12855 H 23 4 rfl rfl rfl (fun hb12859 H _ F12864 => ?_) (fun hb12859 H _ F12860 => ?_)
     ·cases H
      exact rt F12864 ⟨rfl, s12856⟩
     ·obtain ⟨o12912, H12913, R12914⟩ := bind_ok H
      clear H
      refine BB (fun a w_ => Fr a 23 [(4, .int .u8 (a0.toNat : Int)), (13, .bool o12912)] ∧ SL w [] w_ []) ?_ ?_
      ·have H := H12913
       refine gc 6 F12860 rfl fun _ F12916 => ?_
       refine AK F12916 H 1 6 rfl rfl rfl (fun hb12917 H _ F12918 => ?_) (fun hb12917 H _ F12920 => ?_)
       ·cases H
        exact ⟨F12918.sb, s12856⟩
       ·refine AK F12920 H 1 4 rfl rfl rfl (fun hb12921 H _ F12922 => ?_) (fun hb12921 H _ F12923 => ?_)
        ·cases H
         exact ⟨F12922.sb, s12856⟩
        ·cases H
         exact ⟨F12923.sb, s12856⟩
      ·intro q12926 w12927 hJ
       obtain ⟨F12924, s12925⟩ := hJ
       have H := R12914
       clear R12914 H12913
       refine ge 1 F12924 rfl fun _ F12924 => ?_
       refine AK F12924 H 23 3 rfl rfl rfl (fun hb12928 H _ F12933 => ?_) (fun hb12928 H _ F12929 => ?_)
       ·cases H
        exact rt F12933 ⟨rfl, s12925⟩
       ·obtain ⟨o12985, H12986, R12987⟩ := bind_ok H
        clear H
        refine BB (fun a w_ => Fr a 23 [(17, .bool o12985)] ∧ SL w [] w_ []) ?_ ?_
        ·have H := H12986
         refine gc 6 F12929 rfl fun _ F12989 => ?_
         refine AK F12989 H 1 6 rfl rfl rfl (fun hb12990 H _ F12991 => ?_) (fun hb12990 H _ F12993 => ?_)
         ·cases H
          exact ⟨F12991.sb, s12925⟩
         ·refine AK F12993 H 1 6 rfl rfl rfl (fun hb12994 H _ F12995 => ?_) (fun hb12994 H _ F12997 => ?_)
          ·cases H
           exact ⟨F12995.sb, s12925⟩
          ·refine AK F12997 H 1 6 rfl rfl rfl (fun hb12998 H _ F12999 => ?_) (fun hb12998 H _ F13001 => ?_)
           ·cases H
            exact ⟨F12999.sb, s12925⟩
           ·refine AK F13001 H 1 4 rfl rfl rfl (fun hb13002 H _ F13003 => ?_) (fun hb13002 H _ F13004 => ?_)
            ·cases H
             exact ⟨F13003.sb, s12925⟩
            ·cases H
             exact ⟨F13004.sb, s12925⟩
        ·intro q13007 w13008 hJ
         obtain ⟨F13005, s13006⟩ := hJ
         have H := R12987
         clear R12987 H12986
         refine ge 1 F13005 rfl fun _ F13005 => ?_
         refine AK F13005 H 22 21 rfl rfl rfl (fun hb13009 H _ F13014 => ?_) (fun hb13009 H _ F13016 => ?_)
         ·cases H
          exact rt F13014 ⟨rfl, s13006⟩
         ·cases H
          exact rt F13016 ⟨rfl, s13006⟩
end Go.Proofs.YtpnacdckamiedaaGreat
namespace Go.Proofs.YtpnacdckamiedaaGreat
open Go Go.RowKit Go.Pv Go.Proofs.Tryz
theorem JL {w : World} {a0 : UInt8} {r : Int}  (H : ER a0 = some r) :
  Calls prog 68 #[.int .u8 (a0.toNat : Int)] w (AN fun u_ w_ => u_ = .int .i64 r ∧ SL w [] w_ []) := by
 have s0 : SL w [] w [] := SL.Bf w
 refine BV func68 ntmps68 12 rfl rfl rfl fun _ F10 => ?_
 unfold ER at H
 refine AK F10 H 7 5 rfl rfl rfl (fun hb11 H _ F14 => ?_) (fun hb11 H _ F28 => ?_)
 ·cases H
  exact rt F14 ⟨rfl, s0⟩
 ·obtain ⟨x26, hx27, H⟩ := bind_ok H
  refine DW F28 s0 (KL    hx27) 17 rfl rfl rfl rfl fun w30 _ F38 s34 => ?_
  cases H
  exact rt F38 ⟨rfl, s34⟩
end Go.Proofs.YtpnacdckamiedaaGreat
namespace Go.Proofs.YtpnacdckamiedaaGreat
open Go Go.RowKit Go.Pv Go.Proofs.Tryz
theorem KN {w : World} {v0 : Value} {a0 : List UInt8} {a1 : Int} {r : Bs × Int} (hr0 : Rd Ty.u8 w [] v0 a0) (H : Gf a0 a1 = some r) :
  Calls prog 67 #[v0, .int .i64 a1] w (AN fun u_ w_ => u_ = .tuple ⟨[.agg ⟨[.int .i64 r.1.At, .int .u8 (r.1.Op.toNat : Int), .int .i64 r.1.A, .int .i64 r.1.B]⟩, .int .i64 r.2]⟩ ∧ SL w [] w_ []) := by
 have s0 : SL w [] w [] := SL.Bf w
 refine BV func67 ntmps67 2 rfl rfl rfl fun _ F0 => ?_
 unfold Gf at H
 refine An F0 s0 HJ rfl rfl fun g8 w9 q10 F11 s12 => ?_
 refine gw 5 F11 rfl fun _ F14 => ?_
 refine gx F14 (AP (vs := []) HJ Pd rfl (cs := [.int .i64 0, .int .u8 0, .int .i64 0, .int .i64 0]) (rfl)) 0 rfl rfl fun _ F27 => ?_
 refine An F27 s12 HJ rfl rfl fun g28 w29 q30 F31 s32 => ?_
 refine AH F31 s32 rfl rfl Fl (Af rfl (Af rfl (Af rfl (Af rfl AM)))) (Nat.le_of_ble_eq_true rfl) fun w34 q35 F36 s37 => ?_
 refine gw 9 F36 rfl fun _ F207 => ?_
 refine B2 16 F207 H (fun hb208 H F209 => ?_) (fun hb208 H F209 => ?_)
 ·refine gw 11 F209 rfl fun _ F210 => ?_
  refine AA F210 s37 m0 0 rfl fun _ F218 => ?_
  refine AH F218 s37.f1 rfl rfl Fl (Af rfl (Af rfl (Af rfl (Af rfl AM)))) (Nat.le_of_ble_eq_true rfl) fun w219 q220 F221 s222 => ?_
  cases H
  refine gw 6 F221 rfl fun _ F224 => ?_
  refine B5 (rs := [.cell 4 130, .tmp 5]) (vs := [.agg ⟨[.int .i64 0, .int .u8 0, .int .i64 0, .int .i64 0]⟩, .int .i64 1]) F224 (by rfl) ⟨_, _, rfl, RV.blk s222 m0 rfl FN rfl, _, _, rfl, RV.tmp rfl, rfl⟩ ⟨_, rfl, ⟨rfl, s222.drop.drop⟩⟩
 ·refine gw 2 F209 rfl fun _ F225 => ?_
  refine Ax F225 rfl rfl ?_
  refine gx F225 (Ao rfl underlying67 (fR hr0 s37)) 5 rfl rfl fun _ F228 => ?_
  refine AK F228 H 2 4 rfl rfl rfl (fun hb229 H _ F230 => ?_) (fun hb229 H _ F248 => ?_)
  ·refine AA F230 s37 m0 0 rfl fun _ F238 => ?_
   refine AH F238 s37.f1 rfl rfl Fl (Af rfl (Af rfl (Af rfl (Af rfl AM)))) (Nat.le_of_ble_eq_true rfl) fun w239 q240 F241 s242 => ?_
   cases H
   refine gw 6 F241 rfl fun _ F244 => ?_
   refine B5 (rs := [.cell 4 130, .tmp 5]) (vs := [.agg ⟨[.int .i64 0, .int .u8 0, .int .i64 0, .int .i64 0]⟩, .int .i64 1]) F244 (by rfl) ⟨_, _, rfl, RV.blk s242 m0 rfl FN rfl, _, _, rfl, RV.tmp rfl, rfl⟩ ⟨_, rfl, ⟨rfl, s242.drop.drop⟩⟩
  ·refine gx F248 (Ao rfl underlying67 (fR hr0 s37)) 4 rfl rfl fun _ F250 => ?_
   refine AK F250 H 2 4 rfl rfl rfl (fun hb251 H _ F252 => ?_) (fun hb251 H _ F292 => ?_)
   ·refine AA F252 s37 m0 0 rfl fun _ F260 => ?_
    refine AH F260 s37.f1 rfl rfl Fl (Af rfl (Af rfl (Af rfl (Af rfl AM)))) (Nat.le_of_ble_eq_true rfl) fun w261 q262 F263 s264 => ?_
    cases H
    refine gw 6 F263 rfl fun _ F266 => ?_
    refine B5 (rs := [.cell 4 130, .tmp 5]) (vs := [.agg ⟨[.int .i64 0, .int .u8 0, .int .i64 0, .int .i64 0]⟩, .int .i64 2]) F266 (by rfl) ⟨_, _, rfl, RV.blk s264 m0 rfl FN rfl, _, _, rfl, RV.tmp rfl, rfl⟩ ⟨_, rfl, ⟨rfl, s264.drop.drop⟩⟩
   ·obtain ⟨x285, hx286, H⟩ := bind_ok H
    obtain ⟨ad287, hi288, hc289⟩ := GG Flat.u8 (CU hr0 s37) Gn rfl hx286
    obtain ⟨x290, hx291, H⟩ := bind_ok H
    refine gi F292 hi288 0 rfl fun _ F293 => ?_
    refine gx F293 (Ar LO rfl (Cells.at_ hc289 (o := 0) rfl)) 0 rfl rfl fun _ F294 => ?_
    refine DW F294 s37 (JL    hx291) 4 rfl rfl rfl rfl fun w296 _ F302 s300 => ?_
    refine AK F302 H 2 3 rfl rfl rfl (fun hb303 H _ F304 => ?_) (fun hb303 H _ F346 => ?_)
    ·refine AA F304 s300 m0 0 rfl fun _ F312 => ?_
     refine AH F312 s300.f1 rfl rfl Fl (Af rfl (Af rfl (Af rfl (Af rfl AM)))) (Nat.le_of_ble_eq_true rfl) fun w313 q314 F315 s316 => ?_
     cases H
     refine gw 6 F315 rfl fun _ F318 => ?_
     refine B5 (rs := [.cell 4 130, .tmp 5]) (vs := [.agg ⟨[.int .i64 0, .int .u8 0, .int .i64 0, .int .i64 0]⟩, .int .i64 40]) F318 (by rfl) ⟨_, _, rfl, RV.blk s316 m0 rfl FN rfl, _, _, rfl, RV.tmp rfl, rfl⟩ ⟨_, rfl, ⟨rfl, s316.drop.drop⟩⟩
    ·obtain ⟨x339, hx340, H⟩ := bind_ok H
     obtain ⟨ad341, hi342, hc343⟩ := GG Flat.u8 (CU hr0 s300) Gn rfl hx340
     obtain ⟨x344, hx345, H⟩ := bind_ok H
     refine gx F346 (Ao rfl underlying67 (fR hr0 s300)) 4 rfl rfl fun _ F348 => ?_
     refine gi F348 hi342 0 rfl fun _ F349 => ?_
     refine gx F349 (Ar LO rfl (Cells.at_ hc343 (o := 0) rfl)) 0 rfl rfl fun _ F350 => ?_
     refine DW F350 s300 (JL    hx345) 4 rfl rfl rfl rfl fun w352 _ F358 s356 => ?_
     refine AK F358 H 2 8 rfl rfl rfl (fun hb359 H _ F360 => ?_) (fun hb359 H _ F400 => ?_)
     ·refine AA F360 s356 m0 0 rfl fun _ F368 => ?_
      refine AH F368 s356.f1 rfl rfl Fl (Af rfl (Af rfl (Af rfl (Af rfl AM)))) (Nat.le_of_ble_eq_true rfl) fun w369 q370 F371 s372 => ?_
      cases H
      refine gw 6 F371 rfl fun _ F374 => ?_
      refine B5 (rs := [.cell 4 130, .tmp 5]) (vs := [.agg ⟨[.int .i64 0, .int .u8 0, .int .i64 0, .int .i64 0]⟩, .int .i64 2]) F374 (by rfl) ⟨_, _, rfl, RV.blk s372 m0 rfl FN rfl, _, _, rfl, RV.tmp rfl, rfl⟩ ⟨_, rfl, ⟨rfl, s372.drop.drop⟩⟩
     ·obtain ⟨x395, hx396, H⟩ := bind_ok H
      obtain ⟨ad397, hi398, hc399⟩ := GG Flat.u8 (CU hr0 s356) Gn rfl hx396
      refine gi F400 hi398 0 rfl fun _ F401 => ?_
      refine gx F401 (Ar LO rfl (Cells.at_ hc399 (o := 0) rfl)) 0 rfl rfl fun _ F402 => ?_
      refine gx F402 (AP (vs := [.int .i64 a1, .int .u8 (x395.toNat : Int)]) HJ Pd rfl (cs := [.int .i64 a1, .int .u8 (x395.toNat : Int), .int .i64 0, .int .i64 0]) (rfl)) 0 rfl rfl fun _ F403 => ?_
      refine An F403 s356 HJ rfl rfl fun g404 w405 q406 F407 s408 => ?_
      refine AH F407 s408 rfl rfl Fl (Af rfl (Af rfl (Af rfl (Af rfl AM)))) (Nat.le_of_ble_eq_true rfl) fun w410 q411 F412 s413 => ?_
      obtain ⟨x433, hx434, H⟩ := bind_ok H
      obtain ⟨v435, hsc436, hv437⟩ := Rd.cut hr0 Gn rfl hx434 (some (wr (a1 + 1))) none (.inl rfl) (.inr ⟨rfl, rfl⟩)
      refine gw 7 F412 rfl fun _ F438 => ?_
      refine gx F438 (hsc436 _ _ _ _ _ .i64 .i64 _ _ _ _ _ rfl rfl trivial) 0 rfl rfl fun _ F439 => ?_
      refine An F439 s413 TF rfl rfl fun g440 w441 q442 F443 s444 => ?_
      refine AZ F443 s444 rfl rfl Mf (AG (fR hv437 s444)) (Aj (fR hv437 s444)) rfl fun w446 q447 F448 s449 => ?_
      refine gw 4 F448 rfl fun _ F448 => ?_
      obtain ⟨x467, hx468, H⟩ := bind_ok H
      refine gx F448 (HA (cs := [.tmp 8]) (vs := [.pointer (some ⟨g440, 0, none⟩)]) rfl) 6 rfl rfl fun _ F469 => ?_
      refine AA F469 s449 m1 0 rfl fun _ F470 => ?_
      refine DW F470 s449 (KL    hx468) 11 rfl rfl rfl rfl fun w472 _ F506 s476 => ?_
      obtain ⟨x504, hx505, H⟩ := bind_ok H
      obtain ⟨G519, hst515, hF516, hG517, hcl518⟩ := SL.open_ (ps := [Ae g440 67 [v435]]) (rest := [Ae g404 130 [.int .i64 a1, .int .u8 (x395.toNat : Int), .int .i64 0, .int .i64 0], Ae g28 130 [.int .i64 0, .int .u8 0, .int .i64 0, .int .i64 0], Ae g8 130 [.int .i64 0, .int .u8 0, .int .i64 0, .int .i64 0]]) s476
      refine Hw (args := [.tmp 67]) F506 P3 rfl rfl (IR (a0 := x467.1) (a1 := x433) hst515  (hv437.pass s476 hF516) hx505) rfl fun v507 w508 q509 hS511 F510 => ?_
      obtain ⟨v520, rfl, hv521, hq513⟩ := hS511
      have s512 := hcl518 _ _ hq513
      have hr522 := Fc.rd hv521 hv437
      refine gw 1 F510 rfl fun _ F523 => ?_
      refine AZ F523 s512.f1 rfl rfl SA rfl rfl rfl fun w524 q525 F526 s527 => ?_
      obtain ⟨x554, hx555, H⟩ := bind_ok H
      obtain ⟨G569, hst565, hF566, hG567, hcl568⟩ := SL.open_ (ps := [Ae g440 67 [v520]]) (rest := [Ae g404 130 [.int .i64 a1, .int .u8 (x395.toNat : Int), .int .i64 x504.1, .int .i64 0], Ae g28 130 [.int .i64 0, .int .u8 0, .int .i64 0, .int .i64 0], Ae g8 130 [.int .i64 0, .int .u8 0, .int .i64 0, .int .i64 0]]) s527.f1
      refine gw 6 F526 rfl fun _ F556 => ?_
      refine Hw (args := [.tmp 71]) F556 P3 rfl rfl (IR (a0 := x467.2) (a1 := x504.2) hst565  (hr522.pass s527.f1 hF566) hx555) rfl fun v557 w558 q559 hS561 F560 => ?_
      obtain ⟨v570, rfl, hv571, hq563⟩ := hS561
      have s562 := hcl568 _ _ hq563
      have hr572 := Fc.rd hv571 hr522
      refine gw 1 F560 rfl fun _ F573 => ?_
      refine AZ F573 s562.f1 rfl rfl SA rfl rfl rfl fun w574 q575 F576 s577 => ?_
      refine gw 6 F576 rfl fun _ F605 => ?_
      refine AA F605 s577 m0 2 rfl fun _ F607 => ?_
      refine B2 77 F607 H (fun hb608 H F609 => ?_) (fun hb608 H F609 => ?_)
      ·refine gw 1 F609 rfl fun _ F610 => ?_
       refine Ax F610 rfl rfl ?_
       refine AA F610 s577 m0 4 rfl fun _ F613 => ?_
       refine AK F613 H 2 4 rfl rfl rfl (fun hb614 H _ F615 => ?_) (fun hb614 H _ F615 => ?_)
       ·refine AA F615 s577 m2 0 rfl fun _ F623 => ?_
        refine AH F623 s577.f3 rfl rfl Fl (Af rfl (Af rfl (Af rfl (Af rfl AM)))) (Nat.le_of_ble_eq_true rfl) fun w624 q625 F626 s627 => ?_
        cases H
        refine gw 5 F626 rfl fun _ F629 => ?_
        refine B5 (rs := [.cell 4 130, .tmp 5]) (vs := [.agg ⟨[.int .i64 0, .int .u8 0, .int .i64 0, .int .i64 0]⟩, .int .i64 5]) F629 (by rfl) ⟨_, _, rfl, RV.blk s627 m0 rfl FN rfl, _, _, rfl, RV.tmp rfl, rfl⟩ ⟨_, rfl, ⟨rfl, s627.drop.drop.drop.drop⟩⟩
       ·refine AA F615 s577 m0 0 rfl fun _ F637 => ?_
        refine AH F637 s577.f3 rfl rfl Fl (Af rfl (Af rfl (Af rfl (Af rfl AM)))) (Nat.le_of_ble_eq_true rfl) fun w638 q639 F640 s641 => ?_
        cases H
        refine gw 4 F640 rfl fun _ F643 => ?_
        refine B5 (rs := [.cell 4 130, .tmp 5]) (vs := [.agg ⟨[.int .i64 a1, .int .u8 (x395.toNat : Int), .int .i64 x504.1, .int .i64 x554.1]⟩, .int .i64 0]) F643 (by rfl) ⟨_, _, rfl, RV.blk s641 m0 rfl FN rfl, _, _, rfl, RV.tmp rfl, rfl⟩ ⟨_, rfl, ⟨rfl, s641.drop.drop.drop.drop⟩⟩
      ·refine gw 11 F609 rfl fun _ F644 => ?_
       refine AA F644 s577 m0 0 rfl fun _ F652 => ?_
       refine AH F652 s577.f3 rfl rfl Fl (Af rfl (Af rfl (Af rfl (Af rfl AM)))) (Nat.le_of_ble_eq_true rfl) fun w653 q654 F655 s656 => ?_
       cases H
       refine gw 4 F655 rfl fun _ F658 => ?_
       refine B5 (rs := [.cell 4 130, .tmp 5]) (vs := [.agg ⟨[.int .i64 a1, .int .u8 (x395.toNat : Int), .int .i64 x504.1, .int .i64 x554.1]⟩, .int .i64 0]) F658 (by rfl) ⟨_, _, rfl, RV.blk s656 m0 rfl FN rfl, _, _, rfl, RV.tmp rfl, rfl⟩ ⟨_, rfl, ⟨rfl, s656.drop.drop.drop.drop⟩⟩
end Go.Proofs.YtpnacdckamiedaaGreat
namespace Go.Proofs.YtpnacdckamiedaaGreat
open Go Go.RowKit Go.Pv Go.Proofs.Tryz
def Hq (op : UInt8) : Bool := if ((op.toNat : Int) == 4) = true then true else if ((op.toNat : Int) == 5) = true then true else if ((op.toNat : Int) == 6) = true then true else if ((op.toNat : Int) == 7) = true then true else ((op.toNat : Int) == 8)
def Ht (op : UInt8) : Bool := if ((op.toNat : Int) == 23) = true then true else if ((op.toNat : Int) == 24) = true then true else if ((op.toNat : Int) == 25) = true then true else if ((op.toNat : Int) == 30) = true then true else if ((op.toNat : Int) == 31) = true then true else ((op.toNat : Int) == 18)
def Jl (op : UInt8) : Bool := if ((op.toNat : Int) == 26) = true then true else if ((op.toNat : Int) == 27) = true then true else if ((op.toNat : Int) == 28) = true then true else ((op.toNat : Int) == 29)
def J6 (A : Int) : Mm Unit := fun s => match s.calls with
 | [] => none
 | c :: r => some (.ok (), { s with calls := { c with at_ := A } :: r })
def LI (n : Int) : Mm Unit := fun s => if ((s.told.length : Int) == 1024) = true then GL 8 s else (app 17592186044416 s.told [n]).bind fun l => some (.ok (), { s with told := l })
noncomputable def QL (i : Bs) : Mm Unit := fun s =>
 if Hq i.Op = true then I9 i.Op i.A s
 else if ((i.Op.toNat : Int) == 1) = true then Cb 1 i.A s
 else if ((i.Op.toNat : Int) == 2) = true then Cb 2 i.A s
 else if ((i.Op.toNat : Int) == 3) = true then Cb 3 0 s
 else if ((i.Op.toNat : Int) == 19) = true then J6 i.A s
 else if ((i.Op.toNat : Int) == 20) = true then Mb (DD 2 s) fun v s => if (v.n == 0) = true then J6 i.A s else some (.ok (), s)
 else if ((i.Op.toNat : Int) == 21) = true then Kq i.A s
 else if ((i.Op.toNat : Int) == 22) = true then KF s
 else if ((i.Op.toNat : Int) == 32) = true then GL (wr (16 + i.A)) s
 else if ((i.Op.toNat : Int) == 33) = true then Mb (DD 1 s) fun v s => LI v.n s
 else if ((i.Op.toNat : Int) == 0) = true then some (.ok (), s)
 else if Ht i.Op = true then Kv i.Op i.A i.B s
 else if Jl i.Op = true then Ks i.Op s
 else Io i.Op s
noncomputable def Kz : Mm Unit := fun s => match s.calls with
 | [] => none
 | c :: r => (idx s.m.Funcs c.fn).bind fun f => Mb (Bc (decide (c.at_ < (f.Code.length : Int))) s) fun _ s => (Gf f.Code c.at_).bind fun d => Mb (Bc (d.2 == 0) s) fun _ s => (ER d.1.Op).bind fun n => QL d.1 { s with calls := { c with at_ := wr (c.at_ + n) } :: r }
theorem QD : (prog.info? 130).bind (·.zero) = some (.agg ⟨[.int .i64 0, .int .u8 0, .int .i64 0, .int .i64 0]⟩) := by kernel_rfl
theorem Xt : (prog.info? 130).map (·.size) = some 4 := by kernel_rfl
theorem XK : (prog.info? 27).map (·.size) = some 1 := by kernel_rfl
theorem XU : Do prog 67 = true := by kernel_rfl
section
variable {P : Program} {w : World} {m : CL} {ops : Array Oper} {Q : Exit → Act → World → Prop} {a : Act} {n : Nat} {S : World → Prop} {fin D : List Nat}
theorem TS (i j : Nat) {oi oj : Oper} (hi : ops[i]? = some oi) (hj : ops[j]? = some oj) (h1 : wpList P ops (Bg P Q [.kq (KP P ops Q S fin i D)]) [oi] a w) (h2 : wpList P ops (Bg P Q [.kq (KP P ops Q S fin j D)]) [oj] a w) (hr : Jt ops D [i, j] = true := by kernel_rfl) : HP P ops Q S fin D a w := by
 unfold Jt at hr
 rw [Bool.and_eq_true, Ap] at hr
 have h1' := hr.1
 rw [Nat.blt_eq] at h1'
 unfold HP
 rw [show ops.size - D.length = (ops.size - (D.length + 1)) + 1 by omega]
 have h3 : Region.ready .any ops (Pv.mark ops.size D) = [i, j] := hr.2
 refine ⟨fun h0 => (by rw [h3] at h0; cases h0), fun k hk => ?_⟩
 rw [h3] at hk
 rcases List.mem_cons.1 hk with rfl | hk
 ·exact Ge hi h1
 ·rw [List.mem_singleton] at hk
  subst hk
  exact Ge hj h2
theorem Tv (C : Act → World → Prop) (D' : List Nat) (tl : ∀ a w, C a w → HP P ops Q S fin D' a w) (h : (∀ a w, C a w → HP P ops Q S fin D' a w) → HP P ops Q S fin D a w) : HP P ops Q S fin D a w := h tl
theorem ON (D' : List Nat) (h : HP P ops Q S fin D' a w) (hm : (Nat.beq D.length D'.length && (Pv.mark ops.size D == Pv.mark ops.size D')) = true := by kernel_rfl) : HP P ops Q S fin D a w := by
 rw [Bool.and_eq_true, Ap] at hm
 unfold HP at h ⊢
 rw [hm.2, Nat.eq_of_beq_eq_true hm.1]
 exact h
end
section
variable {w : World} {K : MK} {vc vt : Value} {cs : Lay} {S : MS} {w0 : World} {F0 : List Nat} {loc : List Ck}
theorem Jb {P : Program} [h0 : BO P] {ops : Array Oper} {n d f : Nat} {m : CL} {a : Act} {fn : Func} {ty : TypeId} {pos : String} {aft : Array Edge} {args : List Operand} {ats : Array TypeId} {vs : List Value} {α Y Y' : Type} {r : Re α} {V : α → Value → Prop} {C : Y → Prop} {q : Y → List Ck} {C' : Y' → Prop} {q' : Y' → List Ck} {l : List Oper} {Kk : List Kf}
  (hF : Fr a n m) (hc : Calls P f vs.toArray w (C0 r V C q w0 F0)) (hd : ∀ w y, C y → SL w0 F0 w (q y) → ∃ y', C' y' ∧ SL w0 F0 w (q' y'))
  (k : ∀ v w y a x, r = .ok x → V x v → C' y → SL w0 F0 w (q' y) → Fr a n ((d, v) :: m) → wpList P ops (Bg P (bodyPost P fn (C0 r V C' q' w0 F0)) Kk) l a w)
  (hargs : Fp m args = some vs := by rfl) (hf : Et h0.T.fn f = true := by rfl) (hlt : Nat.blt d n = true := by rfl) (hK : NE Kk = true := by rfl) :
  wpList P ops (Bg P (bodyPost P fn (C0 r V C' q' w0 F0)) Kk) (⟨some d, .call { callee := .value (.func f), args := args.toArray, argTypes := ats }, ty, pos, aft, none⟩ :: l) a w := by
 cases r with
 | ok x => exact kc hF hc (fun v w a y hv hC hs hF => have ⟨y', h1, h2⟩ := hd w y hC hs; k v w y' a x rfl hv h1 h2 hF) hargs hf hlt
 | no e t q => exact kn hF hc (fun w y hC hs => have ⟨y', h1, h2⟩ := hd w y hC hs; rP rfl h1 h2) hargs hf hK
theorem QG {ops : Array Oper} {Q : Exit → Act → World → Prop} {n : Nat} {m : CL} {act : Act} {x y : Operand} {ty : TypeId} {pos : String} {aft : Array Edge} {l : List Oper} {A : Int} {p : Re Unit × MS} {ad : Addr} {r0 : List MC}
  (hF : Fr act n m) (hs : SL w0 F0 w (loc ++ mS K vc vt cs S)) (hL : B1 S cs) (hT : LJ vc r0 ad) (BU : r0.length + 1 = S.calls.length) (H : J6 A S = some p)
  (k : ∀ w act y, p.1 = .ok () → B1 p.2 y → Fr act n m → SL w0 F0 w (loc ++ mS K vc vt y p.2) → wpList prog ops Q l act w) (hx : ev m x = some (.pointer (some (ad.add 1))) := by rfl) (hy : ev m y = some (.int .i64 A) := by rfl) :
  wpList prog ops Q (⟨none, .store 3 x y, ty, pos, aft, none⟩ :: l) act w := by
 unfold J6 at H
 split at H
 ·cases H
 rename_i c r hc
 cases H
 obtain ⟨a, b, cs', rfl, hl', _⟩ := En (hc ▸ hL.1)
 have hT' : LJ vc r ad := by
  unfold LJ at hT ⊢
  have : r0.length = r.length := by rw [hc] at BU; simpa using BU
  rw [← this]; exact hT
 refine J8 G4 (y' := ⟨c.fn, A, a, b⟩) hF (SL.mop (SL.comm hs) hc).f4 hT' (Hv hl' _) hx hy rfl ML rfl (List.all_eq_true.1 rfl) rfl fun w10 _ F24 s10 => ?_
 rw [KD hl'] at s10
 exact k _ _ ((a, b) :: cs') rfl ⟨by simp [hl'], J0 hL.2 (by simp [hc])⟩ F24 (SL.comm (SL.Mh (c := { c with at_ := A }) (r := r) s10.f4.f4.f4.f4 rfl))
theorem RP {t : UInt8} {S1 : MS} {x : MV} (H : DD t S = some (.ok x, S1)) : S1.calls.length = S.calls.length := by
 unfold DD at H
 rcases AQ H with ⟨e, u, q, S2, hr, h⟩ | ⟨x, S2, hr, H2⟩
 ·cases h
 obtain ⟨ok, hok, H3⟩ := bind_ok H2
 split at H3 <;> cases H3
 rcases hc : S.calls with _ | ⟨c, r⟩
 ·unfold many at hr; rw [hc] at hr; cases hr
 ·obtain ⟨l, rfl⟩ := Nq hr hc
  rfl
set_option maxHeartbeats 4000000 in
theorem W3 {p : Re Unit × MS} (s0 : SL w0 F0 w (loc ++ mS K vc vt cs S)) (hL : B1 S cs) (hI : K.In w0 F0 S.m) (H : Kz S = some p) :
  Calls prog 48 #[jP K.g] w (P9 K loc p w0 F0) := by
 letI := Co
 unfold Kz at H
 unfold P9
 split at H
 ·cases H
 rename_i c r hc
 obtain ⟨f, hf, H1⟩ := bind_ok H
 clear H
 refine C9 func48 ntmps48 fun _ F1 => ?_
 refine AU F1 (HN s0 hL.1 hc (GQ hL.2 hc)) fun v1 w1 _ hS F2 => ?_
 obtain ⟨⟨ad, rfl, hT⟩, s1⟩ := hS
 obtain ⟨a, b, cs', rfl, hl', _⟩ := En (hc ▸ hL.1)
 refine zw F2 fun _ F3 => ?_
 have hC := fun w (hw : SL w0 F0 w (loc ++ mS K vc vt ((a, b) :: cs') S)) => SL.GR hw hc hl' hT
 obtain ⟨ad3, ccs, G, hI2, hC3, hR, hG⟩ := hI.f.idx J9 rfl hf
 obtain ⟨fv1, fv2, rfl, hR1, hR2⟩ := C2 hR hG
 refine BH (fun w_ => SL w0 F0 w_ (loc ++ mS K vc vt ((a, b) :: cs') S)) [] Cn (Ce [0, 1, 2, 3, 4, 5, 6, 7, 8, 9, 10] F3 (Bl rfl) s1.drew (QI.ev 4 rfl <| QI.op rfl (fun w hw => Ar (by kernel_rfl) rfl ((SL.mb hw).Aq m0 (o := 3) rfl)) rfl <| QI.ev 2 rfl <| QI.fl NH D1 hC rfl rfl rfl rfl rfl rfl <| QI.ix hI2 rfl <| QI.op rfl (fun w hw => Be PP rfl (hC3 _ _ hw) rfl) rfl <| QI.nil) fun _ F4 => ?_)
 refine BN 11 rfl (An F4 s1.drew NU rfl rfl fun g3 w2 _ F5 s2 => A8 ⟨fun _ => SL.drop s2, ?_⟩)
 refine BN 12 rfl (A9 (ds := [.string ⟨⟨f.Name⟩⟩, fv1, .int .u8 (f.Sig.Result.toNat : Int), .int .i64 f.Ak, fv2]) F5 s2 rfl rfl Sg (Af rfl (Af (Aj (fR hR1 s2)) (Af rfl (Af rfl (Af (Aj (fR hR2 s2)) AM))))) rfl fun w3 _ F6 s3 => A8 ⟨fun _ => SL.drop s3, BE ?_⟩)
 refine ze F6 fun _ F7 => ?_
 have hC := fun w (hw : SL w0 F0 w (Ae g3 69 [.string ⟨⟨f.Name⟩⟩, fv1, .int .u8 (f.Sig.Result.toNat : Int), .int .i64 f.Ak, fv2] :: loc ++ mS K vc vt ((a, b) :: cs') S)) => SL.GR (ps := Ae g3 69 [.string ⟨⟨f.Name⟩⟩, fv1, .int .u8 (f.Sig.Result.toNat : Int), .int .i64 f.Ak, fv2] :: loc) hw hc hl' hT
 obtain ⟨A2, k2, e2⟩ := fR hR2 s3
 refine BH (fun w_ => SL w0 F0 w_ (Ae g3 69 [.string ⟨⟨f.Name⟩⟩, fv1, .int .u8 (f.Sig.Result.toNat : Int), .int .i64 f.Ak, fv2] :: loc ++ mS K vc vt ((a, b) :: cs') S)) [] Cn (Ce [0, 1, 2, 3, 4, 5, 6, 7, 8] F7 (Bl rfl) s3.drew (QI.ev 3 rfl <| QI.fl Ip D1 hC rfl rfl rfl rfl rfl rfl <| QI.ev 1 rfl <| QI.ld m0 rfl <| QI.op rfl (fun w hw => Ao rfl underlying67 ⟨A2, k2, e2⟩) rfl <| QI.ev 1 rfl <| QI.nil) fun _ F8 => ?_)
 have hst := Dm (loc := Ae g3 69 [.string ⟨⟨f.Name⟩⟩, fv1, .int .u8 (f.Sig.Result.toNat : Int), .int .i64 f.Ak, fv2] :: loc) (decide (c.at_ < (f.Code.length : Int))) s3.drew
 rcases AQ H1 with ⟨e, u, v, S1, hr, rfl⟩ | ⟨_, S1, hr, H2⟩ <;> unfold Bc at hr <;> split at hr <;> rename_i hb <;> cases hr
 ·rw [Ac hb] at hst
  exact IP 9 F8 hst fun w4 _ _ s4 => Br rfl F8 (rP (y := (vc, vt, (a, b) :: cs')) rfl hL.1 (SL.drop s4))
 rw [Ab hb] at hst
 clear H1
 refine IM 9 F8 hst fun v3 w4 _ _ hv _ s4 F9 => ⟨fun _ => s4, BE ?_⟩
 refine ze F9 fun _ F10 => ?_
 obtain ⟨⟨i, er⟩, hd, H3⟩ := bind_ok H2
 refine BH (fun w_ => SL w0 F0 w_ (Ae g3 69 [.string ⟨⟨f.Name⟩⟩, fv1, .int .u8 (f.Sig.Result.toNat : Int), .int .i64 f.Ak, fv2] :: loc ++ mS K vc vt ((a, b) :: cs') S)) [] Cn (Ce [0, 1, 2, 3, 4, 5] F10 (Bl rfl) s4.drew (QI.ev 1 rfl <| QI.ld m0 rfl <| QI.ev 2 rfl <| QI.fl Ip D1 hC rfl rfl rfl rfl rfl rfl <| QI.nil) fun _ F11 => ?_)
 refine Tv (fun a' w' => ∃ g4, Fr a' 160 [(39, .int .i64 er), (38, .agg ⟨Au i⟩), (4, .pointer (some ⟨g4, 0, none⟩)), (3, .pointer (some ⟨g3, 0, none⟩)), (2, .pointer (some ad)), (0, jP K.g)] ∧ SL w0 F0 w' (Ae g4 130 [.int .i64 0, .int .u8 0, .int .i64 0, .int .i64 0] :: Ae g3 69 [.string ⟨⟨f.Name⟩⟩, fv1, .int .u8 (f.Sig.Result.toNat : Int), .int .i64 f.Ak, fv2] :: loc ++ mS K vc vt ((a, b) :: cs') S)) [10, 9, 8, 7, 6, 5, 4, 3, 2, 1, 0] (fun a5 w5 ⟨g4, F14, s6⟩ => ?_) fun tl => TS 6 10 rfl rfl ?_ ?_
 rotate_left
 ·refine AU F11 (KN (hR2.Az s4.drew) hd) fun v4 w5 _ hS F12 => A8 ⟨fun _ => s4.drew.add hS.2, ?_⟩
  obtain ⟨rfl, hq⟩ := hS
  have s5 : SL w0 F0 w5 (Ae g3 69 [.string ⟨⟨f.Name⟩⟩, fv1, .int .u8 (f.Sig.Result.toNat : Int), .int .i64 f.Ak, fv2] :: loc ++ mS K vc vt ((a, b) :: cs') S) := s4.drew.add hq
  refine Ce [7, 8, 9] F12 (Bl rfl) s5 (QI.ev 3 rfl <| QI.nil) fun _ F13 => ?_
  exact BN 10 rfl (An F13 s5 QD rfl rfl fun g4 w6 _ F14 s6 => A8 ⟨fun _ => SL.drop s6, tl _ _ ⟨g4, F14.sb, s6⟩⟩)
 ·refine An F11 s4.drew QD rfl rfl fun g4 w6 _ F12 s6 => A8 ⟨fun _ => SL.drop s6, ?_⟩
  refine BN 6 rfl (AU F12 (KN (hR2.Az s6) hd) fun v4 w5 _ hS F13 => A8 ⟨fun _ => SL.drop (s6.add hS.2), ?_⟩)
  obtain ⟨rfl, hq⟩ := hS
  have s7 : SL w0 F0 w5 (Ae g4 130 [.int .i64 0, .int .u8 0, .int .i64 0, .int .i64 0] :: Ae g3 69 [.string ⟨⟨f.Name⟩⟩, fv1, .int .u8 (f.Sig.Result.toNat : Int), .int .i64 f.Ak, fv2] :: loc ++ mS K vc vt ((a, b) :: cs') S) := s6.add hq
  refine Ce [7, 8, 9] F13 (Bl rfl) (SL.drop s7) (QI.ev 3 rfl <| QI.nil) fun _ F14 => ?_
  exact ON _ (tl _ _ ⟨g4, F14.sb, s7⟩)
 refine BN 11 rfl (A9 (ds := Au i) F14 s6 rfl rfl Xt (List.all_eq_true.1 rfl) rfl fun w7 _ F15 s7 => A8 ⟨fun _ => SL.drop s7, ?_⟩)
 refine Fw 12 rfl F15 (SL.drop s7) fun _ F16 => BE ?_
 refine ze F16 fun _ F17 => ?_
 have hst := Dm (loc := Ae g4 130 (Au i) :: Ae g3 69 [.string ⟨⟨f.Name⟩⟩, fv1, .int .u8 (f.Sig.Result.toNat : Int), .int .i64 f.Ak, fv2] :: loc) (er == 0) s7
 rcases AQ H3 with ⟨e, u, v, S1, hr, rfl⟩ | ⟨_, S1, hr, H4⟩ <;> unfold Bc at hr <;> split at hr <;> rename_i hb2 <;> cases hr
 ·rw [Ac hb2] at hst
  exact kn F17 hst fun w4 _ _ s8 => rP (y := (vc, vt, (a, b) :: cs')) rfl hL.1 (SL.drop (SL.drop s8))
 rw [Ab hb2] at hst
 clear H3 H2
 refine kc F17 hst fun v5 w8 _ _ hv _ s8 F18 => ?_
 obtain rfl := hv
 obtain ⟨n, hn, H5⟩ := bind_ok H4
 clear H4
 dsimp only at H5 hn
 refine zw F18 fun _ F19 => ?_
 have hC := fun w (hw : SL w0 F0 w (Ae g4 130 (Au i) :: Ae g3 69 [.string ⟨⟨f.Name⟩⟩, fv1, .int .u8 (f.Sig.Result.toNat : Int), .int .i64 f.Ak, fv2] :: loc ++ mS K vc vt ((a, b) :: cs') S)) => SL.GR (ps := Ae g4 130 (Au i) :: Ae g3 69 [.string ⟨⟨f.Name⟩⟩, fv1, .int .u8 (f.Sig.Result.toNat : Int), .int .i64 f.Ak, fv2] :: loc) hw hc hl' hT
 refine BH (fun w_ => SL w0 F0 w_ (Ae g4 130 (Au i) :: Ae g3 69 [.string ⟨⟨f.Name⟩⟩, fv1, .int .u8 (f.Sig.Result.toNat : Int), .int .i64 f.Ak, fv2] :: loc ++ mS K vc vt ((a, b) :: cs') S)) [10] Cn (Ce [0, 1, 2, 3, 4, 5] F19 (Bl rfl) s8.drew (QI.ev 2 rfl <| QI.fl Ip D1 hC rfl rfl rfl rfl rfl rfl <| QI.ev 1 rfl <| QI.ld m0 rfl <| QI.nil) fun _ F20 => ?_)
 refine BN 6 rfl (AU F20 (JL hn) fun v6 w9 _ hS F21 => A8 ⟨fun _ => s8.drew.add hS.2, ?_⟩)
 obtain ⟨rfl, hq⟩ := hS
 have s9 : SL w0 F0 w9 (Ae g4 130 (Au i) :: Ae g3 69 [.string ⟨⟨f.Name⟩⟩, fv1, .int .u8 (f.Sig.Result.toNat : Int), .int .i64 f.Ak, fv2] :: loc ++ mS K vc vt ((a, b) :: cs') S) := s8.drew.add hq
 refine Ce [7] F21 (Bl rfl) s9 (QI.ev 1 rfl <| QI.nil) fun _ F22 => ?_
 refine Fw 8 rfl F22 s9 fun _ F22 => ?_
 refine QW 9 rfl F22 s9 (Di Ip rfl) fun _ F23 => ?_
 refine BN 10 rfl (J8 G4 (y' := ⟨c.fn, wr (c.at_ + n), a, b⟩) F23 (SL.mop (SL.comm s9) hc).f4 hT (Hv hl' _) rfl rfl rfl ML rfl (List.all_eq_true.1 rfl) rfl fun w10 _ F24 s10 => A8 ⟨fun h => by simp [Et] at h, BE ?_⟩)
 rw [KD hl'] at s10
 have s11 : SL w0 F0 w10 (Ae g4 130 (Au i) :: Ae g3 69 [.string ⟨⟨f.Name⟩⟩, fv1, .int .u8 (f.Sig.Result.toNat : Int), .int .i64 f.Ak, fv2] :: loc ++ mS K vc vt ((a, b) :: cs') { S with calls := { c with at_ := wr (c.at_ + n) } :: r }) := SL.comm (SL.Mh (c := { c with at_ := wr (c.at_ + n) }) (r := r) s10.f4.f4.f4.f4 rfl)
 have hL1 : B1 { S with calls := { c with at_ := wr (c.at_ + n) } :: r } ((a, b) :: cs') := ⟨by simp [hl'], J0 hL.2 (by simp [hc])⟩
 have hI1 : K.In w0 F0 { S with calls := { c with at_ := wr (c.at_ + n) } :: r }.m := hI
 revert s11 hL1 hI1 H5
 generalize { S with calls := { c with at_ := wr (c.at_ + n) } :: r } = S1
 intro H5 s11 hL1 hI1
 refine ze F24 fun _ F25 => ?_
 refine AE F25 s11 m0 fun _ F26 => ?_
 unfold QL at H5
 refine BB (fun a' w' => Fr a' 160 [(59, .bool (Hq i.Op)), (55, .int .u8 (i.Op.toNat : Int)), (4, .pointer (some ⟨g4, 0, none⟩)), (2, .pointer (some ad)), (0, jP K.g)] ∧ w' = w10) ?_ ?_
 ·rcases e0 : ((i.Op.toNat : Int) == 4) with _ | _
  rotate_left
  ·refine zt F26 e0 fun _ F => ?_; exact ⟨by rw [show Hq i.Op = ((i.Op.toNat : Int) == 4) by simp only [Hq, e0, if_true, if_false, Bool.false_eq_true]]; exact F.sb, rfl⟩
  refine zf F26 e0 fun _ F26 => ?_
  rcases e1 : ((i.Op.toNat : Int) == 5) with _ | _
  rotate_left
  ·refine zt F26 e1 fun _ F => ?_; exact ⟨by rw [show Hq i.Op = ((i.Op.toNat : Int) == 5) by simp only [Hq, e0, e1, if_true, if_false, Bool.false_eq_true]]; exact F.sb, rfl⟩
  refine zf F26 e1 fun _ F26 => ?_
  rcases e2 : ((i.Op.toNat : Int) == 6) with _ | _
  rotate_left
  ·refine zt F26 e2 fun _ F => ?_; exact ⟨by rw [show Hq i.Op = ((i.Op.toNat : Int) == 6) by simp only [Hq, e0, e1, e2, if_true, if_false, Bool.false_eq_true]]; exact F.sb, rfl⟩
  refine zf F26 e2 fun _ F26 => ?_
  rcases e3 : ((i.Op.toNat : Int) == 7) with _ | _
  rotate_left
  ·refine zt F26 e3 fun _ F => ?_; exact ⟨by rw [show Hq i.Op = ((i.Op.toNat : Int) == 7) by simp only [Hq, e0, e1, e2, e3, if_true, if_false, Bool.false_eq_true]]; exact F.sb, rfl⟩
  refine zf F26 e3 fun _ F => ?_; exact ⟨by rw [show Hq i.Op = ((i.Op.toNat : Int) == 8) by simp only [Hq, e0, e1, e2, e3, if_true, if_false, Bool.false_eq_true]]; exact F.sb, rfl⟩
 rintro a5 w5 ⟨F30, rfl⟩
 refine ze F30 fun _ F31 => ?_
 by_cases h1 : Hq i.Op = true
 ·rw [Ab h1] at H5
  refine zt F31 h1 fun _ F32 => ?_
  refine AE F32 s11 m0 fun _ F33 => ?_
  refine Jb F33 (Ve (loc := Ae g4 130 (Au i) :: Ae g3 69 [.string ⟨⟨f.Name⟩⟩, fv1, .int .u8 (f.Sig.Result.toNat : Int), .int .i64 f.Ak, fv2] :: loc) s11 hL1 H5) (fun w y hC hs => ⟨(vc, vt, y), hC.1, SL.drop (SL.drop hs)⟩) fun v w y a x he _ hC hs F => ?_
  refine zw F fun _ F => ?_
  exact rN F he rfl hC hs
 rw [Ac h1] at H5
 refine zf F31 (Bool.eq_false_iff.2 h1) fun _ F42 => ?_
 by_cases h2 : ((i.Op.toNat : Int) == 1) = true
 ·rw [Ab h2] at H5
  refine zt F42 h2 fun _ F32 => ?_
  refine AE F32 s11 m0 fun _ F33 => ?_
  refine Jb F33 (C5 (loc := Ae g4 130 (Au i) :: Ae g3 69 [.string ⟨⟨f.Name⟩⟩, fv1, .int .u8 (f.Sig.Result.toNat : Int), .int .i64 f.Ak, fv2] :: loc) s11 hL1 H5) (fun w y hC hs => ⟨(vc, vt, y), hC.1, SL.drop (SL.drop hs)⟩) fun v w y a x he _ hC hs F => ?_
  refine zw F fun _ F => ?_
  exact rN F he rfl hC hs
 rw [Ac h2] at H5
 refine zf F42 (Bool.eq_false_iff.2 h2) fun _ F43 => ?_
 by_cases h3 : ((i.Op.toNat : Int) == 2) = true
 ·rw [Ab h3] at H5
  refine zt F43 h3 fun _ F32 => ?_
  refine AE F32 s11 m0 fun _ F33 => ?_
  refine Jb F33 (C5 (loc := Ae g4 130 (Au i) :: Ae g3 69 [.string ⟨⟨f.Name⟩⟩, fv1, .int .u8 (f.Sig.Result.toNat : Int), .int .i64 f.Ak, fv2] :: loc) s11 hL1 H5) (fun w y hC hs => ⟨(vc, vt, y), hC.1, SL.drop (SL.drop hs)⟩) fun v w y a x he _ hC hs F => ?_
  refine zw F fun _ F => ?_
  exact rN F he rfl hC hs
 rw [Ac h3] at H5
 refine zf F43 (Bool.eq_false_iff.2 h3) fun _ F44 => ?_
 by_cases h4 : ((i.Op.toNat : Int) == 3) = true
 ·rw [Ab h4] at H5
  refine zt F44 h4 fun _ F33 => ?_
  refine Jb F33 (C5 (loc := Ae g4 130 (Au i) :: Ae g3 69 [.string ⟨⟨f.Name⟩⟩, fv1, .int .u8 (f.Sig.Result.toNat : Int), .int .i64 f.Ak, fv2] :: loc) s11 hL1 H5) (fun w y hC hs => ⟨(vc, vt, y), hC.1, SL.drop (SL.drop hs)⟩) fun v w y a x he _ hC hs F => ?_
  refine zw F fun _ F => ?_
  exact rN F he rfl hC hs
 rw [Ac h4] at H5
 refine zf F44 (Bool.eq_false_iff.2 h4) fun _ F45 => ?_
 by_cases h5 : ((i.Op.toNat : Int) == 19) = true
 ·rw [Ab h5] at H5
  refine zt F45 h5 fun _ F32 => ?_
  refine AE F32 s11 m0 fun _ F33 => ?_
  refine zx F33 (Di Ip rfl) fun _ F34 => ?_
  refine QG (loc := Ae g4 130 (Au i) :: Ae g3 69 [.string ⟨⟨f.Name⟩⟩, fv1, .int .u8 (f.Sig.Result.toNat : Int), .int .i64 f.Ak, fv2] :: loc) F34 s11 hL1 hT (by rw [← hL1.1]; simp [hl']) H5 fun w a y he hC F hs => ?_
  refine zw F fun _ F => ?_
  exact rN (y := (vc, vt, y)) F he rfl hC.1 (SL.drop (SL.drop hs))
 rw [Ac h5] at H5
 refine zf F45 (Bool.eq_false_iff.2 h5) fun _ F46 => ?_
 by_cases h6 : ((i.Op.toNat : Int) == 20) = true
 ·rw [Ab h6] at H5
  refine zt F46 h6 fun _ F32 => ?_
  rcases AQ H5 with ⟨e, u, v, S2, hr2, rfl⟩ | ⟨v, S2, hr2, H6⟩ <;> have hc2 := EF (t := 2) (loc := Ae g4 130 (Au i) :: Ae g3 69 [.string ⟨⟨f.Name⟩⟩, fv1, .int .u8 (f.Sig.Result.toNat : Int), .int .i64 f.Ak, fv2] :: loc) s11 hL1 hI1 hr2
  ·exact kn F32 hc2 fun w4 y hC s5 => rP (y := (vc, vt, y)) rfl hC.1 (SL.drop (SL.drop s5))
  have BU := RP hr2
  refine kc F32 hc2 fun v4 w4 _ y2 hv hC2 s12 F33 => ?_
  obtain rfl := hv
  refine zx F33 (EC FG rfl rfl) fun _ F34 => ?_
  split at H6 <;> rename_i h20
  ·refine zt F34 h20 fun _ F35 => ?_
   refine AE F35 s12 m0 fun _ F36 => ?_
   refine zx F36 (Di Ip rfl) fun _ F37 => ?_
   refine QG (loc := Ae g4 130 (Au i) :: Ae g3 69 [.string ⟨⟨f.Name⟩⟩, fv1, .int .u8 (f.Sig.Result.toNat : Int), .int .i64 f.Ak, fv2] :: loc) F37 s12 hC2 hT (by rw [BU, ← hL1.1]; simp [hl']) H6 fun w a y he hC F hs => ?_
   refine zw F fun _ F => ?_
   exact rN (y := (vc, vt, y)) F he rfl hC.1 (SL.drop (SL.drop hs))
  ·cases H6
   refine zf F34 (Bool.eq_false_iff.2 h20) fun _ F35 => ?_
   exact rN (y := (vc, vt, y2)) F35 rfl rfl hC2.1 (SL.drop (SL.drop s12))
 rw [Ac h6] at H5
 refine zf F46 (Bool.eq_false_iff.2 h6) fun _ F47 => ?_
 by_cases h7 : ((i.Op.toNat : Int) == 21) = true
 ·rw [Ab h7] at H5
  refine zt F47 h7 fun _ F32 => ?_
  refine AE F32 s11 m0 fun _ F33 => ?_
  refine Jb F33 (W1 (loc := Ae g4 130 (Au i) :: Ae g3 69 [.string ⟨⟨f.Name⟩⟩, fv1, .int .u8 (f.Sig.Result.toNat : Int), .int .i64 f.Ak, fv2] :: loc) s11 hL1 hI1 H5) (fun w y hC hs => ⟨y, hC, SL.drop (SL.drop hs)⟩) fun v w y a x he _ hC hs F => ?_
  refine zw F fun _ F => ?_
  exact rN F he rfl hC hs
 rw [Ac h7] at H5
 refine zf F47 (Bool.eq_false_iff.2 h7) fun _ F48 => ?_
 by_cases h8 : ((i.Op.toNat : Int) == 22) = true
 ·rw [Ab h8] at H5
  refine zt F48 h8 fun _ F33 => ?_
  refine Jb F33 (W5 (loc := Ae g4 130 (Au i) :: Ae g3 69 [.string ⟨⟨f.Name⟩⟩, fv1, .int .u8 (f.Sig.Result.toNat : Int), .int .i64 f.Ak, fv2] :: loc) s11 hL1 hI1 H5) (fun w y hC hs => ⟨y, hC, SL.drop (SL.drop hs)⟩) fun v w y a x he _ hC hs F => ?_
  refine zw F fun _ F => ?_
  exact rN F he rfl hC hs
 rw [Ac h8] at H5
 refine zf F48 (Bool.eq_false_iff.2 h8) fun _ F49 => ?_
 by_cases h9 : ((i.Op.toNat : Int) == 32) = true
 ·rw [Ab h9] at H5
  refine zt F49 h9 fun _ F32 => ?_
  cases H5
  refine AE F32 s11 m0 fun _ F33 => ?_
  exact Hn F33 (Ex s11) fun w2 s9 => Br rfl F33 (rP (y := (vc, vt, (a, b) :: cs')) rfl hL1.1 (SL.drop (SL.drop s9)))
 rw [Ac h9] at H5
 refine zf F49 (Bool.eq_false_iff.2 h9) fun _ F50 => ?_
 by_cases h10 : ((i.Op.toNat : Int) == 33) = true
 ·rw [Ab h10] at H5
  refine zt F50 h10 fun _ F32 => ?_
  rcases AQ H5 with ⟨e, u, v, S2, hr2, rfl⟩ | ⟨v, S2, hr2, H6⟩ <;> have hc2 := EF (t := 1) (loc := Ae g4 130 (Au i) :: Ae g3 69 [.string ⟨⟨f.Name⟩⟩, fv1, .int .u8 (f.Sig.Result.toNat : Int), .int .i64 f.Ak, fv2] :: loc) s11 hL1 hI1 hr2
  ·exact kn F32 hc2 fun w4 y hC s5 => rP (y := (vc, vt, y)) rfl hC.1 (SL.drop (SL.drop s5))
  refine kc F32 hc2 fun v4 w4 _ y2 hv hC2 s12 F33 => ?_
  obtain rfl := hv
  refine zx F33 (EC FG rfl rfl) fun _ F34 => ?_
  refine AE F34 (SL.mb (loc := Ae g4 130 (Au i) :: Ae g3 69 [.string ⟨⟨f.Name⟩⟩, fv1, .int .u8 (f.Sig.Result.toNat : Int), .int .i64 f.Ak, fv2] :: loc) s12) m0 fun _ F35 => ?_
  obtain ⟨A5, k5, e5⟩ := (SL.mb (loc := Ae g4 130 (Au i) :: Ae g3 69 [.string ⟨⟨f.Name⟩⟩, fv1, .int .u8 (f.Sig.Result.toNat : Int), .int .i64 f.Ak, fv2] :: loc) s12).form m3
  refine zx F35 (Ao rfl underlying27 ⟨A5, k5, e5⟩) fun _ F36 => ?_
  unfold LI at H6
  split at H6 <;> rename_i h20
  ·cases H6
   refine zt F36 h20 fun _ F37 => ?_
   exact Hn F37 (Ex s12) fun w2 s9 => Br rfl F37 (rP (y := (vc, vt, y2)) rfl hC2.1 (SL.drop (SL.drop s9)))
  obtain ⟨l2, hap, H7⟩ := bind_ok H6
  cases H7
  refine zf F36 (Bool.eq_false_iff.2 h20) fun _ F37 => ?_
  have s13 := SL.mb (loc := Ae g4 130 (Au i) :: Ae g3 69 [.string ⟨⟨f.Name⟩⟩, fv1, .int .u8 (f.Sig.Result.toNat : Int), .int .i64 f.Ak, fv2] :: loc) s12
  refine AE F37 s13 m0 fun _ F38 => ?_
  refine B7 F38 (s13.C6 (Flat.int .i64) v.n) Kt rfl rfl rfl rfl rfl fun u w5 _ F39 s14 => ?_
  obtain ⟨G9, hG9⟩ := s14.Bm m0
  refine Ba (Flat.int .i64) F39 s14.f4 Kt rfl rfl rfl rfl hG9 rfl rfl hap rfl fun v5 w6 _ F40 s15 => ?_
  refine zw F40 fun _ F41 => ?_
  refine AZ F41 s15.f2 rfl rfl XK (AG (s15.form m0)) (Aj (s15.form m0)) rfl fun w7 _ F42 s16 => ?_
  refine zw F42 fun _ F43 => ?_
  have s17 : SL w0 F0 w7 (mS K vc v5 y2 { S2 with told := l2 } ++ (Ae g4 130 (Au i) :: Ae g3 69 [.string ⟨⟨f.Name⟩⟩, fv1, .int .u8 (f.Sig.Result.toNat : Int), .int .i64 f.Ak, fv2] :: loc)) := s16.f2.drop.f1.f3.f3.f3
  exact rN (y := (vc, v5, y2)) F43 rfl rfl hC2.1 (SL.drop (SL.drop (SL.comm s17)))
 rw [Ac h10] at H5
 refine zf F50 (Bool.eq_false_iff.2 h10) fun _ F51 => ?_
 by_cases h11 : ((i.Op.toNat : Int) == 0) = true
 ·rw [Ab h11] at H5
  refine zt F51 h11 fun _ F32 => ?_
  cases H5
  exact rN (y := (vc, vt, (a, b) :: cs')) F32 rfl rfl hL1.1 (SL.drop (SL.drop s11))
 rw [Ac h11] at H5
 refine zf F51 (Bool.eq_false_iff.2 h11) fun _ F60 => ?_
 refine BB (fun a' w' => Fr a' 160 [(142, .bool (Ht i.Op)), (55, .int .u8 (i.Op.toNat : Int)), (4, .pointer (some ⟨g4, 0, none⟩)), (2, .pointer (some ad)), (0, jP K.g)] ∧ w' = w5) ?_ ?_
 ·rcases e0 : ((i.Op.toNat : Int) == 23) with _ | _
  rotate_left
  ·refine zt F60 e0 fun _ F => ?_; exact ⟨by rw [show Ht i.Op = ((i.Op.toNat : Int) == 23) by simp only [Ht, e0, if_true, if_false, Bool.false_eq_true]]; exact F.sb, rfl⟩
  refine zf F60 e0 fun _ F60 => ?_
  rcases e1 : ((i.Op.toNat : Int) == 24) with _ | _
  rotate_left
  ·refine zt F60 e1 fun _ F => ?_; exact ⟨by rw [show Ht i.Op = ((i.Op.toNat : Int) == 24) by simp only [Ht, e0, e1, if_true, if_false, Bool.false_eq_true]]; exact F.sb, rfl⟩
  refine zf F60 e1 fun _ F60 => ?_
  rcases e2 : ((i.Op.toNat : Int) == 25) with _ | _
  rotate_left
  ·refine zt F60 e2 fun _ F => ?_; exact ⟨by rw [show Ht i.Op = ((i.Op.toNat : Int) == 25) by simp only [Ht, e0, e1, e2, if_true, if_false, Bool.false_eq_true]]; exact F.sb, rfl⟩
  refine zf F60 e2 fun _ F60 => ?_
  rcases e3 : ((i.Op.toNat : Int) == 30) with _ | _
  rotate_left
  ·refine zt F60 e3 fun _ F => ?_; exact ⟨by rw [show Ht i.Op = ((i.Op.toNat : Int) == 30) by simp only [Ht, e0, e1, e2, e3, if_true, if_false, Bool.false_eq_true]]; exact F.sb, rfl⟩
  refine zf F60 e3 fun _ F60 => ?_
  rcases e4 : ((i.Op.toNat : Int) == 31) with _ | _
  rotate_left
  ·refine zt F60 e4 fun _ F => ?_; exact ⟨by rw [show Ht i.Op = ((i.Op.toNat : Int) == 31) by simp only [Ht, e0, e1, e2, e3, e4, if_true, if_false, Bool.false_eq_true]]; exact F.sb, rfl⟩
  refine zf F60 e4 fun _ F => ?_; exact ⟨by rw [show Ht i.Op = ((i.Op.toNat : Int) == 18) by simp only [Ht, e0, e1, e2, e3, e4, if_true, if_false, Bool.false_eq_true]]; exact F.sb, rfl⟩
 rintro a6 w6 ⟨F61, rfl⟩
 refine ze F61 fun _ F62 => ?_
 by_cases h12 : Ht i.Op = true
 ·rw [Ab h12] at H5
  refine zt F62 h12 fun _ F63 => ?_
  refine AE F63 s11 m0 fun _ F64 => ?_
  refine Jb F64 (W0 (loc := Ae g4 130 (Au i) :: Ae g3 69 [.string ⟨⟨f.Name⟩⟩, fv1, .int .u8 (f.Sig.Result.toNat : Int), .int .i64 f.Ak, fv2] :: loc) s11 hL1 hI1 H5) (fun w y hC hs => ⟨(vc, vt, y), hC.1, SL.drop (SL.drop hs)⟩) fun v w y a x he _ hC hs F => ?_
  refine zw F fun _ F => ?_
  exact rN F he rfl hC hs
 rw [Ac h12] at H5
 refine zf F62 (Bool.eq_false_iff.2 h12) fun _ F65 => ?_
 refine BB (fun a' w' => Fr a' 160 [(152, .bool (Jl i.Op)), (55, .int .u8 (i.Op.toNat : Int)), (4, .pointer (some ⟨g4, 0, none⟩)), (2, .pointer (some ad)), (0, jP K.g)] ∧ w' = w6) ?_ ?_
 ·rcases e0 : ((i.Op.toNat : Int) == 26) with _ | _
  rotate_left
  ·refine zt F65 e0 fun _ F => ?_; exact ⟨by rw [show Jl i.Op = ((i.Op.toNat : Int) == 26) by simp only [Jl, e0, if_true, if_false, Bool.false_eq_true]]; exact F.sb, rfl⟩
  refine zf F65 e0 fun _ F65 => ?_
  rcases e1 : ((i.Op.toNat : Int) == 27) with _ | _
  rotate_left
  ·refine zt F65 e1 fun _ F => ?_; exact ⟨by rw [show Jl i.Op = ((i.Op.toNat : Int) == 27) by simp only [Jl, e0, e1, if_true, if_false, Bool.false_eq_true]]; exact F.sb, rfl⟩
  refine zf F65 e1 fun _ F65 => ?_
  rcases e2 : ((i.Op.toNat : Int) == 28) with _ | _
  rotate_left
  ·refine zt F65 e2 fun _ F => ?_; exact ⟨by rw [show Jl i.Op = ((i.Op.toNat : Int) == 28) by simp only [Jl, e0, e1, e2, if_true, if_false, Bool.false_eq_true]]; exact F.sb, rfl⟩
  refine zf F65 e2 fun _ F => ?_; exact ⟨by rw [show Jl i.Op = ((i.Op.toNat : Int) == 29) by simp only [Jl, e0, e1, e2, if_true, if_false, Bool.false_eq_true]]; exact F.sb, rfl⟩
 rintro a7 w7 ⟨F71, rfl⟩
 refine ze F71 fun _ F72 => ?_
 by_cases h13 : Jl i.Op = true
 ·rw [Ab h13] at H5
  refine zt F72 h13 fun _ F73 => ?_
  refine AE F73 s11 m0 fun _ F74 => ?_
  refine Jb F74 (Wp (loc := Ae g4 130 (Au i) :: Ae g3 69 [.string ⟨⟨f.Name⟩⟩, fv1, .int .u8 (f.Sig.Result.toNat : Int), .int .i64 f.Ak, fv2] :: loc) s11 hL1 hI1 H5) (fun w y hC hs => ⟨(vc, vt, y), hC.1, SL.drop (SL.drop hs)⟩) fun v w y a x he _ hC hs F => ?_
  refine zw F fun _ F => ?_
  exact rN F he rfl hC hs
 ·rw [Ac h13] at H5
  refine zf F72 (Bool.eq_false_iff.2 h13) fun _ F73 => ?_
  refine AE F73 s11 m0 fun _ F74 => ?_
  refine Jb F74 (Uf (loc := Ae g4 130 (Au i) :: Ae g3 69 [.string ⟨⟨f.Name⟩⟩, fv1, .int .u8 (f.Sig.Result.toNat : Int), .int .i64 f.Ak, fv2] :: loc) s11 hL1 hI1 H5) (fun w y hC hs => ⟨(vc, vt, y), hC.1, SL.drop (SL.drop hs)⟩) fun v w y a x he _ hC hs F => ?_
  refine zw F fun _ F => ?_
  exact rN F he rfl hC hs
end
end Go.Proofs.YtpnacdckamiedaaGreat
namespace Go.Proofs.YtpnacdckamiedaaGreat
open Go Go.RowKit Go.Pv Go.Proofs.Tryz
noncomputable def JD (s : MS) : Option MS := (Kz { s with steps := wr (s.steps + 1) }).bind fun q => match q.1 with
 | .ok _ => some q.2
 | .no e t r => some { q.2 with over := true, h1 := e, h2 := t, h3 := r }
section
variable {P : Program} {w w' : World} {m m' : CL} {ops : Array Oper} {Q Q0 : Exit → Act → World → Prop} {a : Act} {n d : Nat} {l : List Oper} {v : Value} {X : Act → World → Prop} {ty : TypeId} {pos : String} {aft : Array Edge} {gd : Option (Nat × Bool)} {dd : Option Tmp} {x : Operand}
def waits (ds : List Deferred) (a : Act) : Act := { a with defers := a.defers ++ ds }
theorem Hp (ds : List Deferred) : ∀ (l : List Oper) {a : Act} {w : World}, wpList P ops (fun e a' w' => Q e (waits ds a') w') l a w → wpList P ops Q l (waits ds a) w
 | [], a, w, h => h
 | o :: l, a, w, h => by
  have FU : ∀ (a : Act) v, (waits ds a).put o.dst v = waits ds (a.put o.dst v) := fun a v => by cases o.dst <;> rfl
  unfold wpList at h ⊢
  have hy : yielded ops (waits ds a).tmps = yielded ops a.tmps := rfl
  rw [hy]
  split at h <;> rename_i hw
  ·rw [Ab hw]
   rcases h with h | ⟨h1, a0, w0, h2⟩
   ·left
    unfold Oper.wp at h ⊢
    have he : (waits ds a).eval = a.eval := rfl
    rw [he]
    revert h
    generalize (execOp a.eval o).run P w = r
    intro h
    unfold Oper.upon at h ⊢
    split at h
    ·rw [FU]; exact Hp ds l h
    ·rw [FU]; exact Hp ds l h
    ·rename_i dv w'
     have e : ({ waits ds a with defers := dv :: (waits ds a).defers } : Act).put o.dst undef = waits ds (({ a with defers := dv :: a.defers } : Act).put o.dst undef) := by cases o.dst <;> rfl
     rw [e]
     exact Hp ds l h
    ·refine h.mono ?_
     intro e w' h
     cases e with
     | returned v => show wpList P ops Q l ((waits ds a).put o.dst v) w'; rw [FU]; exact Hp ds l h
     | panicked ch => exact h
     | outgrown => obtain ⟨a0, w0, h2⟩ := h; exact ⟨_, _, h2⟩
    ·refine Rows.mono h ?_
     intro v w' h
     show wpList P ops Q l ((waits ds a).put o.dst v) w'
     rw [FU]; exact Hp ds l h
    ·exact h
    ·exact h.elim
   ·right
    exact ⟨h1, _, _, h2⟩
  ·rw [Ac hw, FU]
   exact Hp ds l h
theorem wD {ds : List Deferred} (h : wpList P ops (Bg P (fun e a' w' => Q e (waits ds a') w') []) l a w) : wpList P ops Q l (waits ds a) w := Hp ds l h
theorem OS {ds : List Deferred} (hF : Fr a n m) : (waits ds a).defers = ds := by show a.defers ++ ds = ds; rw [hF.defers]; rfl
theorem Sy {f : Nat} {caps : List Value} (hF : Fr a n m) (hx : ev m x = some (J2 f caps)) (k : ∀ a', Fr a' n m → wpList P ops Q l (waits [{ target := .fn (.func f) ⟨caps⟩, args := #[] }] a') w) : wpList P ops Q (⟨none, .defer { callee := .value x, args := #[], argTypes := #[] }, ty, pos, aft, none⟩ :: l) a w :=
 wpList_plain rfl fun K hK => by
  unfold Oper.wp
  have h1 : (execOp a.eval ⟨none, .defer { callee := .value x, args := #[], argTypes := #[] }, ty, pos, aft, none⟩).run P w = .ok (.defer { target := .fn (.func f) ⟨caps⟩, args := #[] }) w := by
   simp [execOp, resolve, Deferred.ofValue, hF.eval hx]
  rw [h1, Oper.upon_defer]
  have h2 := k a hF
  unfold waits at h2
  rw [hF.defers] at h2
  refine hK _ _ ?_
  show wpList P ops Q l { a with defers := _ :: a.defers } w
  rw [hF.defers]
  exact h2
theorem XQ [h0 : BO P] {f : FuncId} {fn : Func} {c : Code} {args : List Value} {R : Ending → World → Prop} (hf : P.funcs[f]? = some fn) (hn : fn.ntmps = n) (k : ∀ a, Fr a n m' → X a w) (hb : fn.body = some c := by rfl) (hl : Nat.ble args.length n = true := by rfl)
  (h : FR P (bodyPostD P fn R) h0.T n 900 (.co c) [] (JK 0 args) = some (m', X) := by rfl) : Calls P f args.toArray w R := by
 subst hn
 refine calls_of_wp_defers hf hb (zc (Q0 := bodyPostD P fn R) (K := []) (NV (by simpa using Nat.le_of_ble_eq_true hl) fun t v hv => ?_) k h)
 obtain ⟨j, rfl, hj⟩ := JC args 0 t v hv
 simpa using hj
theorem W8 {id d1 d2 : Nat} {y : Code} {cs cs' : List Frame} {Q : Exit → Act → List Frame → World → Prop} {ty' : TypeId} {pos' : String} {aft' : Array Edge} (hF : Fr a n m) (Iz : recoverD cs = some (v, cs')) (k : ∀ a, Fr a n ((d2, v) :: (d1, v) :: m) → y.wpS P Q a cs' w) (h1 : Nat.blt d1 n = true := by rfl) (h2 : Nat.blt d2 n = true := by rfl) :
  (Code.seq (Code.region id #[⟨some d1, .call { callee := .builtin .recover, args := #[], argTypes := #[] }, ty, pos, aft, none⟩, ⟨some d2, .assign (.tmp d1), ty', pos', aft', none⟩] false) y).wpS P Q a cs w := by
 apply wpS_seq
 apply wpS_region
 have e1 := (hF.put d1 v h1).eval (show ev ((d1, v) :: m) (.tmp d1) = some v from Dv _ _ _)
 have hk := k _ ((hF.put d1 v h1).put d2 v h2)
 have hr : ∀ (a : Act) (w : World), (execOp a.eval ⟨some d1, .call { callee := .builtin .recover, args := #[], argTypes := #[] }, ty, pos, aft, none⟩).run P w = .ok .recover w := fun a w => by simp [execOp, resolve, invoke, builtin]
 have hr2 : (execOp (a.put (some d1) v).eval ⟨some d2, .assign (.tmp d1), ty', pos', aft', none⟩).run P w = .ok (.value v) w := by simp [execOp, e1]
 show wpOpsS P _ _ [0, 1] a cs w
 simpa [wpOpsS, Region.wanted, hr, Iz, hr2, Oper.upon, Exit.thenS] using hk
theorem V6 {id d1 d2 : Nat} {y : Code} {cs : List Frame} {Q : Exit → Act → List Frame → World → Prop} {ty' : TypeId} {pos' : String} {aft' : Array Edge} (hF : Fr a n m) (Iz : recoverD cs = none) (k : ∀ a, Fr a n ((d2, .nilIface) :: (d1, .nilIface) :: m) → y.wpS P Q a cs w) (h1 : Nat.blt d1 n = true := by rfl) (h2 : Nat.blt d2 n = true := by rfl) :
  (Code.seq (Code.region id #[⟨some d1, .call { callee := .builtin .recover, args := #[], argTypes := #[] }, ty, pos, aft, none⟩, ⟨some d2, .assign (.tmp d1), ty', pos', aft', none⟩] false) y).wpS P Q a cs w := by
 apply wpS_seq
 apply wpS_region
 have e1 := (hF.put d1 .nilIface h1).eval (show ev ((d1, .nilIface) :: m) (.tmp d1) = some .nilIface from Dv _ _ _)
 have hk := k _ ((hF.put d1 .nilIface h1).put d2 .nilIface h2)
 have hr : ∀ (a : Act) (w : World), (execOp a.eval ⟨some d1, .call { callee := .builtin .recover, args := #[], argTypes := #[] }, ty, pos, aft, none⟩).run P w = .ok .recover w := fun a w => by simp [execOp, resolve, invoke, builtin]
 have hr2 : (execOp (a.put (some d1) .nilIface).eval ⟨some d2, .assign (.tmp d1), ty', pos', aft', none⟩).run P w = .ok (.value .nilIface) w := by simp [execOp, e1]
 show wpOpsS P _ _ [0, 1] a cs w
 simpa [wpOpsS, Region.wanted, hr, Iz, hr2, Oper.upon, Exit.thenS] using hk
theorem Sx {t u tv : TypeId} {v : Value} {ms : Array (String × TypeId)} (hx : ev m x = some (.iface tv v)) (hp : P.underlying t = some (.interface ms)) : EX P w m ⟨dd, .binOp .eql t x (.const .nilIface) u, ty, pos, aft, gd⟩ (.bool false) w := fun a n hF => by
 have h := hF.eval hx
 simp only [execOp, h]
 have : (Op.equal t (.iface tv v) .nilIface).run P w = .ok false w := G6 fun d => by simp [Op.equalIn, run_underlying hp]
 simp [eqGuard, Act.eval, binOp, this]
theorem XI (v : Value) (w : World) : (Instr.typeAssert (.iface 97 v) 20 97 true).run prog w = .ok (.tuple #[v, .bool true]) w := by kernel_rfl
theorem VF {v : Value} (hx : ev m x = some (.iface 97 v)) : EX prog w m ⟨dd, .typeAssert x 20 97 true, ty, pos, aft, gd⟩ (.tuple ⟨[v, .bool true]⟩) w := fun a n hF => by
 simp [execOp, hF.eval hx, XI]
theorem XA [h0 : BO P] {c : Code} (hF : Fr a n m) (k : ∀ a, Fr a n m' → X a w) (h : FR P Q h0.T n 900 (.co c) [] m = some (m', X) := by rfl) : c.wp P Q a w := zc (Q0 := Q) (K := []) hF k h
theorem WS [h0 : BO P] {f : FuncId} {fn : Func} {c : Code} {args : List Value} {u : FrameMode} {R : Ending → FrameMode → World → Prop} (hf : P.funcs[f]? = some fn) (hn : fn.ntmps = n) (k : ∀ (c₀ : Frame) (cs : List Frame) (a : Act), c₀.mode = u → Fr a n (JK 0 args) → c.wpS P (bodyPostS P fn c₀ cs R) a (c₀ :: cs) w) (hb : fn.body = some c := by rfl) (hl : Nat.ble args.length n = true := by rfl) : CallsD P f args.toArray u w R := by
 subst hn
 refine callsD_of_wpS hf hb fun c₀ cs hu => k c₀ cs _ hu (NV (by simpa using Nat.le_of_ble_eq_true hl) fun t v hv => ?_)
 obtain ⟨j, rfl, hj⟩ := JC args 0 t v hv
 simpa using hj
end
abbrev Sf : BO prog := ⟨⟨[(99, 4, 7, 1), (99, 6, 9, 1), (99, 7, 10, 3)], [48], [3, 4, 72], [(97, 3)]⟩, by kernel_rfl⟩
theorem Yg : (prog.info? 4).map (·.size) = some 1 := by kernel_rfl
theorem WV : (prog.info? 97).map (·.size) = some 3 := by kernel_rfl
section
variable {w : World} {K : MK} {vc vt : Value} {cs : Lay} {S : MS} {w0 : World} {F0 : List Nat} {loc : List Ck}
theorem VA {e t r : Int} {gb : Nat} (s0 : SL w0 F0 w (Ae gb 72 [jP K.g] :: loc ++ mS K vc vt cs S)) :
  CallsD prog 47 #[jP gb] (.panicking (L9 (Kw e t r))) w fun en u' w' => (∃ v, en = .returned v) ∧ settle u' = .returning ∧ SL w0 F0 w' (loc ++ mS K vc vt cs { S with over := true, h1 := e, h2 := t, h3 := r }) := by
 letI := Sf
 refine WS func47 ntmps47 fun c₀ cs1 a1 hu F1 => ?_
 refine W8 (v := Kw e t r) (cs' := { c₀ with mode := .panicking [{ v := Kw e t r, recovered := true }] } :: cs1) F1 (by simp [recoverD, hu]) fun a2 F2 => ?_
 refine wpS_of_wp ?_
 refine XA F2 fun _ F3 => ?_
 refine zx F3 (Sx rfl underlying20) fun _ F4 => ?_
 refine zf F4 rfl fun _ F5 => ?_
 refine AE F5 s0 m0 fun _ F6 => ?_
 refine AZ F6 (SL.comm (qs := Ae gb 72 [jP K.g] :: loc) s0) rfl rfl Yg rfl rfl rfl fun w1 _ F7 s1 => ?_
 refine zw F7 fun _ F8 => ?_
 refine zx F8 (VF rfl) fun _ F9 => ?_
 refine An F9 s1 JZ rfl rfl fun g2 w2 _ F10 s2 => ?_
 refine A9 (ds := [.int .i64 e, .int .i64 t, .int .i64 r]) F10 s2 rfl rfl WV (List.all_eq_true.1 rfl) rfl fun w3 _ F11 s3 => ?_
 refine zw F11 fun _ F12 => ?_
 refine zf F12 rfl fun _ F13 => ?_
 refine AE F13 s3 m6 fun _ F14 => ?_
 refine AE F14 s3 m0 fun _ F15 => ?_
 refine AH (ds := [.int .i64 e, .int .i64 t, .int .i64 r]) F15 s3.f1 rfl rfl WV (List.all_eq_true.1 rfl) (by simp [IE]) fun w4 _ F16 s4 => ?_
 refine zw F16 fun _ F17 => ?_
 refine ⟨F17.defers, _, rfl, .tuple #[], ?_, ⟨_, rfl⟩, rfl, ?_⟩
 ·exact results_none rfl _ _ _
 have s5 : SL w0 F0 w4 (mS K vc vt cs { S with over := true, h1 := e, h2 := t, h3 := r } ++ (Ae gb 72 [jP K.g] :: loc)) := SL.drop s4.f1
 exact SL.drop (SL.comm s5)
theorem idle_c {gb : Nat} : CallsD prog 47 #[jP gb] .returning w fun en u' w' => (∃ v, en = .returned v) ∧ settle u' = .returning ∧ w' = w := by
 letI := Sf
 refine WS func47 ntmps47 fun c₀ cs1 a1 hu F1 => ?_
 refine V6 F1 (by simp [recoverD, hu]) fun a2 F2 => ?_
 refine wpS_of_wp ?_
 refine XA F2 fun _ F3 => ?_
 refine zx F3 (Tx rfl underlying20) fun _ F4 => ?_
 refine zt F4 rfl fun _ F5 => ?_
 exact ⟨F5.defers, c₀.mode, rfl, .tuple #[], results_none rfl _ _ _, ⟨_, rfl⟩, by rw [hu]; rfl, rfl⟩
theorem W2 {S' : MS} (s0 : SL w0 F0 w (loc ++ mS K vc vt cs S)) (hL : B1 S cs) (hI : K.In w0 F0 S.m) (H : JD S = some S') :
  Calls prog 30 #[jP K.g] w (AN fun u w_ => u = .tuple #[] ∧ ∃ y : Value × Value × Lay, y.2.2.length = S'.calls.length ∧ SL w0 F0 w_ (loc ++ mS K y.1 y.2.1 y.2.2 S')) := by
 letI := Sf
 unfold JD at H
 obtain ⟨⟨r, S1⟩, hs, H1⟩ := bind_ok H
 refine XQ func30 ntmps30 fun _ F1 => ?_
 refine Bz F1 s0 rfl rfl rfl fun gb w1 _ F2 s1 => ?_
 refine zw F2 fun _ F3 => ?_
 refine sx F3 (HA rfl) fun _ F4 => ?_
 refine Sy F4 rfl fun a1 F5 => ?_
 refine Pq ?_
 refine W4 ?_
 refine wp_seq ?_
 refine Np ?_
 refine wD ?_
 refine AE F5 s1 m0 fun _ F6 => ?_
 have s2 : SL w0 F0 w1 (mS K vc vt cs S ++ (Ae gb 72 [jP K.g] :: loc)) := SL.comm (qs := Ae gb 72 [jP K.g] :: loc) s1
 refine AE F6 s2 m0 fun _ F7 => ?_
 refine AZ F7 s2 rfl rfl ML rfl rfl rfl fun w2 _ F8 s3 => ?_
 refine zw F8 fun a9 F9 => ?_
 change Code.wp _ _ _ _ _
 refine Np ?_
 refine wD ?_
 have s4 : SL w0 F0 w2 (Ae gb 72 [jP K.g] :: loc ++ mS K vc vt cs { S with steps := wr (S.steps + 1) }) := SL.comm (qs := mS K vc vt cs { S with steps := wr (S.steps + 1) }) s3
 refine AE F9 s4 m0 fun _ F10 => ?_
 have hst := W3 (loc := Ae gb 72 [jP K.g] :: loc) s4 ⟨hL.1, J0 hL.2 rfl⟩ hI hs
 unfold P9 at hst
 cases r with
 | ok x =>
  cases H1
  refine kc F10 hst fun v3 w3 _ y hv hC s5 F11 => ?_
  refine zw F11 fun a12 F12 => ?_
  show Leaves _ _ _ _ (waits _ a12).defers .returning w3
  rw [OS F12]
  refine leaves_cons (f := 47) (args := #[jP gb]) (by simp) (by simp [invoke, Eb (PO (h := Co) (f := 47) (by rfl))]) ?_
  refine idle_c.mono ?_
  rintro en u' w' ⟨⟨v, rfl⟩, hu, rfl⟩
  show Leaves _ _ _ _ [] (settle u') _
  rw [hu]
  exact ⟨_, results_none rfl _ _ _, _, rfl, rfl, y, hC, SL.drop s5⟩
 | no e t q =>
  cases H1
  refine Hn F10 (hst.mono fun _ _ h => h.no) fun w3 ⟨y, hC, s5⟩ => ?_
  show Leaves _ _ _ _ (waits _ _).defers (.panicking _) w3
  rw [OS F10]
  refine leaves_cons (f := 47) (args := #[jP gb]) (by simp) (by simp [invoke, Eb (PO (h := Co) (f := 47) (by rfl))]) ?_
  refine (VA s5).mono ?_
  rintro en u' w' ⟨⟨v, rfl⟩, hu, s6⟩
  show Leaves _ _ _ _ [] (settle u') w'
  rw [hu]
  exact ⟨_, results_none rfl _ _ _, _, rfl, rfl, y, hC, s6⟩
end
end Go.Proofs.YtpnacdckamiedaaGreat
namespace Go.Proofs.YtpnacdckamiedaaGreat
open Go Go.RowKit Go.Pv Go.Proofs.Tryz
theorem O3 {S R : Type} {body : S → Option (S ⊕ R)} {I : S → Prop} {P : R → Prop} (h1 : ∀ s s', I s → body s = some (.inl s') → I s') (h2 : ∀ s r, I s → body s = some (.inr r) → P r) : ∀ (n : Nat) {s : S} {r : R}, ED body n s = some r → I s → P r
 | 0, s, r, h, hi => by cases h
 | n + 1, s, r, h, hi => by
  unfold ED at h
  split at h
  ·cases h
  ·rename_i s' hb; exact O3 h1 h2 n h (h1 _ _ hi hb)
  ·rename_i r' hb; cases h; exact h2 _ _ hi hb
theorem O5 {S R : Type} {body : S → Option (S ⊕ R)} {I : S → Prop} {P : R → Prop} {s : S} {r : R} (H : Ay body s = some r) (h0 : I s) (h1 : ∀ s s', I s → body s = some (.inl s') → I s') (h2 : ∀ s r, I s → body s = some (.inr r) → P r) : P r := by
 obtain ⟨n, hn⟩ := IG.1 H
 exact O3 h1 h2 n hn h0
def Mk {α : Type} (M : Ah) (o : Option (Re α × MS)) : Prop := ∀ p, o = some p → p.2.m = M
section
variable {M : Ah} {α β : Type} {s : MS}
theorem Mk.some {r : Re α} (h : s.m = M) : Mk M (some (r, s)) := fun p e => by cases e; exact h
theorem Mk.none : Mk (α := α) M none := fun p e => by cases e
theorem Mk.ite {c : Prop} [Decidable c] {a b : Option (Re α × MS)} (h1 : Mk M a) (h2 : Mk M b) : Mk M (if c then a else b) := by split <;> assumption
theorem Mk.mb {m : Option (Re α × MS)} {f : α → MS → Option (Re β × MS)} (h1 : Mk M m) (h2 : ∀ a s, s.m = M → Mk M (f a s)) : Mk M (Mb m f) := fun p e => by
 rcases AQ e with ⟨e1, t, r, s1, hm, rfl⟩ | ⟨a, s1, hm, hf⟩
 ·exact h1 _ hm
 ·exact h2 a s1 (h1 _ hm) _ hf
theorem Mk.bind {γ : Type} {o : Option γ} {f : γ → Option (Re β × MS)} (h : ∀ x, o = Option.some x → Mk M (f x)) : Mk M (o.bind f) := fun p e => by
 obtain ⟨x, h1, h2⟩ := bind_ok e
 exact h x h1 p h2
theorem Ek {b : Bool} (h : s.m = M) : Mk M (Bc b s) := by unfold Bc; exact .ite (.some h) (.some h)
theorem GN {n : Int} (h : s.m = M) : Mk (α := α) M (GL n s) := .some h
theorem N6 (h : s.m = M) : Mk M (Ia s) := by
 unfold Ia; split
 ·exact .none
 ·exact Ek h
theorem Cl {k n : Int} (h : s.m = M) : Mk M (Cb k n s) := by
 unfold Cb
 refine .mb (N6 h) fun _ s h => ?_
 split
 ·exact .none
 ·exact .bind fun _ _ => .some h
theorem Jy (h : s.m = M) : Mk M (many s) := fun p e => (JU e).trans h
theorem LQ (h : s.m = M) : Mk M (Ic s) := fun p e => (NJ e).trans h
theorem Ea {t : UInt8} (h : s.m = M) : Mk M (DD t s) := fun p e => (G0 e).trans h
theorem Ns {b : Bool} (h : s.m = M) : Mk M (Lc b s) := Cl h
theorem Jo {v : MV} (h : s.m = M) : Mk M (Gu v s) := by unfold Gu; exact .ite (GN h) (.some h)
theorem UW {i : Int} {v : MV} (h : s.m = M) : Mk M (KE i v s) := by
 unfold KE; split
 ·exact .none
 ·exact .bind fun _ _ => .some h
theorem Wv {i : Int} (h : s.m = M) : Mk M (Ly i s) := by
 unfold Ly; split
 ·exact .none
 ·exact .mb (Ek h) fun _ s h => .bind fun _ _ => .some h
theorem Up {i : Int} (h : s.m = M) : Mk M (I6 i s) := by
 unfold I6; split
 ·exact .none
 ·exact Ek h
theorem Uz {op : UInt8} {A : Int} (h : s.m = M) : Mk M (I9 op A s) := by
 unfold I9
 refine .ite (.mb (Wv h) fun _ s h => .mb (Ek h) fun _ s h => Cl h) (.ite (.mb (Up h) fun _ s h => .mb (Jy h) fun _ s h => .mb (Ek h) fun _ s h => UW h) (.ite (.mb (Jy h) fun _ s h => .some h) (.ite (.mb (Jy h) fun _ s h => .mb (Cl h) fun _ s h => Cl h) ?_)))
 exact .mb (Jy h) fun _ s h => .mb (Jy h) fun _ s h => .mb (Cl h) fun _ s h => Cl h
theorem S7 {op : UInt8} (h : s.m = M) : Mk M (Io op s) := by
 unfold Io
 refine .ite (.mb (Ea h) fun _ s h => Cl h) (.ite (.mb (Ea h) fun _ s h => Cl h) (.ite (.mb (Jy h) fun _ s h => .mb (Jy h) fun _ s h => .mb (Ek h) fun _ s h => Ns h) ?_))
 refine .mb (Ea h) fun _ s h => .mb (Ea h) fun _ s h => ?_
 exact .ite (Cl h) (.ite (Cl h) (.ite (Cl h) (.ite (Ns h) (.ite (GN h) (.ite (Cl h) (Cl h))))))
theorem QU {p : Int × Int} (h : s.m = M) : Mk M (J5 p s) := by unfold J5; exact .ite (GN h) (Cl h)
theorem Pz {r i : Int} (h : s.m = M) : Mk M (IH r i s) := by unfold IH; exact .bind fun _ _ => .ite (GN h) (.some h)
theorem TE {ref i v : Int} {q : Int × MS} (H : FU s ref i v = some q) : q.2.m = s.m := by
 unfold FU at H
 obtain ⟨o, hx, H1⟩ := bind_ok H
 repeat' split at H1
 all_goals first
  | (cases H1; rfl)
  | (obtain ⟨z, hz, H2⟩ := bind_ok H1; cases H2; rfl)
theorem Sz {c n : Int} {q : (Int × Int) × MS} (H : Ie s c n = some q) : q.2.m = s.m := by
 unfold Ie at H
 split at H
 ·cases H; rfl
 ·obtain ⟨z, hz, H2⟩ := bind_ok H
  split at H2 <;> cases H2; rfl
theorem Wy {n : Int} {q : (Int × Int) × MS} (H : hrow s n = some q) : q.2.m = s.m := by
 unfold hrow at H
 split at H
 ·cases H; rfl
 ·exact Sz H
theorem Wb {n : Int} {q : (Int × Int) × MS} (H : Iz s n = some q) : q.2.m = s.m := by
 unfold Iz at H
 split at H
 ·cases H; rfl
 split at H
 ·cases H; rfl
 obtain ⟨l, hl, H2⟩ := bind_ok H
 exact Sz H2
theorem Pp {fn : Int} {args : List MV} {s' : MS} (H : Ep fn args s = some s') : s'.m = s.m := by
 unfold Ep at H
 obtain ⟨f, hf, H1⟩ := bind_ok H
 obtain ⟨l, hl, H2⟩ := bind_ok H1
 split at H2 <;> cases H2; rfl
theorem Vl {fn : Int} (h : s.m = M) : Mk M (Kq fn s) := by
 unfold Kq
 refine .mb (Ek h) fun _ s h => .bind fun f _ => .bind fun l _ => .bind fun q hq => ?_
 have hq2 : q.2.m = M := O5 (I := fun st : Int × List MV × MS => st.2.2.m = M) (P := fun r : Re (List MV) × MS => r.2.m = M) hq h (fun st st' hi hb => by
  unfold IZ at hb
  split at hb
  ·obtain ⟨t, _, hb⟩ := bind_ok hb
   obtain ⟨q, hp, hb⟩ := bind_ok hb
   have h2 := (G0 hp).trans hi
   split at hb
   ·cases hb
   ·obtain ⟨_, _, hb⟩ := bind_ok hb
    cases hb; exact h2
  ·cases hb) (fun st r hi hb => by
  unfold IZ at hb
  split at hb
  ·obtain ⟨t, _, hb⟩ := bind_ok hb
   obtain ⟨q, hp, hb⟩ := bind_ok hb
   have h2 := (G0 hp).trans hi
   split at hb
   ·cases hb; exact h2
   ·obtain ⟨_, _, hb⟩ := bind_ok hb
    cases hb
  ·cases hb; exact hi)
 refine .mb (fun p e => by cases e; exact hq2) fun _ s h => .mb (.ite (N6 h) (.some h)) fun _ s h => .ite (GN h) (.bind fun s' he => .some ((Pp he).trans h))
theorem VE (h : s.m = M) : Mk M (KF s) := by
 unfold KF; split
 ·exact .none
 refine .bind fun f _ => .mb (.ite (Ea h) (.some h)) fun _ s h => .mb ?_ fun _ s h => .ite (.some h) (.mb ?_ fun _ s h => .ite (.ite (Cl h) .none) (.some h))
 ·unfold GE; split
  ·exact .none
  ·exact Ek h
 ·unfold IW; split
  ·exact .none
  ·exact .some h
theorem OX {A B : Int} (h : s.m = M) : Mk M (I3 A B s) := by
 unfold I3; exact .bind fun _ _ => .mb (Ek h) fun _ s h => .bind fun _ _ => .some h
theorem UZ {op : UInt8} (h : s.m = M) : Mk M (Ks op s) := by
 unfold Ks
 refine .ite (.mb (Ea h) fun _ s h => .ite (GN h) (.bind fun q hq => QU ((Wy hq).trans h))) (.ite (.mb (Ea h) fun _ s h => .mb (Jo h) fun _ s h => .bind fun _ _ => Cl h) (.ite (.mb (Ea h) fun _ s h => .mb (Ea h) fun _ s h => .mb (Jo h) fun _ s h => .mb (Pz h) fun _ s h => Cl h) ?_))
 exact .mb (Ea h) fun _ s h => .mb (Ea h) fun _ s h => .mb (Ea h) fun _ s h => .mb (Jo h) fun _ s h => .mb (Pz h) fun _ s h => .bind fun q hq => .some ((TE hq).trans h)
theorem VL {op : UInt8} {A B : Int} (h : s.m = M) : Mk M (Kv op A B s) := by
 unfold Kv
 refine .ite (.mb (LQ h) fun _ s h => .mb (LQ h) fun _ s h => Ns h) (.ite (.mb (OX h) fun _ s h => .mb (Ea h) fun _ s h => .mb (Jo h) fun _ s h => .bind fun _ _ => .bind fun _ _ => Cl h) (.ite ?_ ?_))
 ·exact .mb (OX h) fun _ s h => .mb (Ea h) fun _ s h => .mb (Ea h) fun _ s h => .mb (Jo h) fun _ s h => .bind fun q hq => .some ((TE hq).trans h)
 refine .mb (Ek h) fun _ s h => .ite (.mb (N6 h) fun _ s h => .bind fun q hq => QU ((Wb hq).trans h)) (.ite ?_ ?_)
 ·exact .mb (LQ h) fun _ s h => .bind fun _ _ => .ite (Cl h) (GN h)
 ·exact .mb (LQ h) fun _ s h => .bind fun _ _ => Ns h
theorem Rc {A : Int} (h : s.m = M) : Mk M (J6 A s) := by
 unfold J6; split
 ·exact .none
 ·exact .some h
theorem V5 {n : Int} (h : s.m = M) : Mk M (LI n s) := by unfold LI; exact .ite (GN h) (.bind fun _ _ => .some h)
theorem X2 {i : Bs} (h : s.m = M) : Mk M (QL i s) := by
 unfold QL
 exact .ite (Uz h) (.ite (Cl h) (.ite (Cl h) (.ite (Cl h) (.ite (Rc h) (.ite (.mb (Ea h) fun _ s h => .ite (Rc h) (.some h)) (.ite (Vl h) (.ite (VE h) (.ite (GN h) (.ite (.mb (Ea h) fun _ s h => V5 h) (.ite (.some h) (.ite (VL h) (.ite (UZ h) (S7 h)))))))))))))
theorem Vq (h : s.m = M) : Mk M (Kz s) := by
 unfold Kz; split
 ·exact .none
 ·exact .bind fun _ _ => .mb (Ek h) fun _ s h => .bind fun _ _ => .mb (Ek h) fun _ s h => .bind fun _ _ => X2 h
theorem VJ {s' : MS} (H : JD s = some s') : s'.m = s.m := by
 unfold JD at H
 obtain ⟨q, hq, H1⟩ := bind_ok H
 have h := Vq (M := s.m) (s := { s with steps := wr (s.steps + 1) }) rfl _ hq
 split at H1 <;> cases H1 <;> exact h
end
end Go.Proofs.YtpnacdckamiedaaGreat
namespace Go.Proofs.YtpnacdckamiedaaGreat
open Go Go.RowKit Go.Pv Go.Proofs.Tryz
def MX (K : MK) (gx : Nat) (S : MS) : Ck := Any fun qs => ∃ vc vt cs, B1 S cs ∧ qs = Ae gx 76 [jP K.g] :: mS K vc vt cs S
noncomputable def Rt (st : Int × MS) : Option ((Int × MS) ⊕ MS) :=
 if (if decide (st.1 > 0) = true then (if (!st.2.over) = true then decide (st.2.steps < 1048576) else false) else false) = true then (JD st.2).bind fun S' => if FH S' = true then some (.inl (wr (st.1 - 1), S')) else none else some (.inr st.2)
noncomputable def Nb (n : Int) (S : MS) : Option MS := Ay Rt (n, S)
abbrev Nu : BO prog := ⟨⟨[(76, 0, 0, 1), (99, 3, 6, 1), (99, 4, 7, 1), (99, 5, 8, 1), (99, 2, 5, 1), (99, 6, 9, 1), (99, 7, 10, 3), (97, 0, 0, 1), (97, 1, 1, 1), (97, 2, 2, 1), (32, 0, 0, 1), (32, 1, 1, 1), (32, 2, 2, 1), (32, 3, 3, 1), (32, 4, 4, 1), (32, 5, 5, 1)], [29, 30, 32, 35, 57], [3, 4, 72, 94, 27, 95, 30], [(32, 6)]⟩, by kernel_rfl⟩
theorem OY : Do prog 72 = true := by kernel_rfl
theorem WB : Do prog 4 = true := by kernel_rfl
section
variable {w : World} {K : MK} {vc vt : Value} {cs : Lay} {S : MS} {w0 : World} {F0 FF : List Nat} {loc ps : List Ck} {gx : Nat}
theorem PY (hs : SL w0 F0 w (MX K gx S :: ps)) : ∃ vc vt cs, B1 S cs ∧ SL w0 F0 w (Ae gx 76 [jP K.g] :: mS K vc vt cs S ++ ps) := by
 obtain ⟨qs, ⟨vc, vt, cs, h, rfl⟩, h2⟩ := SL.Mj hs
 exact ⟨vc, vt, cs, h, h2⟩
theorem K1 (h : B1 S cs) (hs : SL w0 F0 w (Ae gx 76 [jP K.g] :: mS K vc vt cs S ++ ps)) : SL w0 F0 w (MX K gx S :: ps) := SL.Kn (qs := Ae gx 76 [jP K.g] :: mS K vc vt cs S) ⟨vc, vt, cs, h, rfl⟩ hs
theorem Oa (s0 : SL w0 F0 w (Ae gx 76 [jP K.g] :: ps)) : Calls prog 29 #[jP gx] w (AN fun u w_ => u = .bool true ∧ SL w0 F0 w_ (Ae gx 76 [jP K.g] :: ps)) := by
 letI := Nu
 refine C9 func29 ntmps29 fun _ F1 => ?_
 refine zx F1 (L0 rfl rfl underlying39) fun _ F2 => ?_
 refine Bu F2 rfl rfl rfl (Ar OY rfl (s0.Aq m0 rfl)) rfl rfl fun _ F3 => ?_
 refine Bu F3 rfl rfl rfl (L0 rfl rfl underlying72) rfl rfl fun _ F4 => ?_
 refine zw F4 fun _ F5 => ?_
 exact rt F5 ⟨rfl, s0⟩
theorem Go_c {n : Int} {S' : MS} (hst : Aw [MX K gx S] w FF) (hI : K.In w FF S.m) (h0 : decide (n < 0) = false) (H : Nb n S = some S') :
  Calls prog 14 #[jP gx, .int .i64 n] w (AN fun u w_ => (S'.m = S.m ∧ u = .tuple ⟨[.bool S'.over, .int .i64 0]⟩) ∧ SL w FF w_ [MX K gx S']) := by
 letI := Nu
 have s0 : SL w FF w [MX K gx S] := SL.init w FF hst
 obtain ⟨vc, vt, cs, hL, s1⟩ := PY s0
 rw [YD] at s1
 refine C9 func14 ntmps14 fun _ F1 => ?_
 refine AU F1 (Oa s1) fun v1 w1 _ hS F2 => ?_
 obtain ⟨rfl, s2⟩ := hS
 refine zw F2 fun _ F3 => ?_
 refine zf F3 rfl fun _ F4 => ?_
 refine zf F4 h0 fun _ F5 => ?_
 refine Dk Rt (fun st a w_ => Fr a 49 [(0, jP gx), (1, .int .i64 st.1)] ∧ st.2.m = S.m ∧ ∃ vc vt cs, B1 st.2 cs ∧ SL w FF w_ (Ae gx 76 [jP K.g] :: mS K vc vt cs st.2)) H ⟨F5.sb, rfl, vc, vt, cs, hL, s2⟩ ?_
 clear hL s1 s2
 rintro ⟨n, T⟩ a2 w2 ⟨F6, hm, vc, vt, cs, hL, s3⟩ o Hb hr
 dsimp only at hm hL s3
 unfold Rt at Hb
 dsimp only at Hb
 refine SE 6 F6 fun _ F7 => ?_
 have hm1 : Ae K.g 99 (IE K vc vt T) ∈ Ae gx 76 [jP K.g] :: mS K vc vt cs T := m1
 rcases hn : decide (n > 0) with _ | _
 ·rw [hn] at Hb
  cases Hb
  obtain rfl := hr _ rfl
  refine zw (F7.kf (d := 15) hn) fun _ F8 => ?_
  refine zf F8 rfl fun _ F9 => ?_
  refine AE F9 s3 m0 fun _ G1 => ?_
  refine AE G1 s3 m1 fun _ G2 => ?_
  exact rt G2 ⟨⟨hm, rfl⟩, K1 hL (by rw [YD]; exact s3)⟩
 rw [hn, Ab rfl] at Hb
 refine zw (F7.kt (d := 15) hn) fun _ F8 => ?_
 refine Bu F8 rfl rfl rfl (Ar OY rfl (s3.Aq m0 rfl)) rfl rfl fun _ F9 => ?_
 refine zw F9 fun _ F10 => ?_
 refine Bu F10 rfl rfl rfl (Ar WB rfl (s3.Aq m1 (o := 9) rfl)) rfl rfl fun _ F11 => ?_
 refine IQ 3 F11 fun _ F12 => ?_
 rcases ho : (!T.over) with _ | _
 ·rw [ho] at Hb
  cases Hb
  obtain rfl := hr _ rfl
  refine zw (F12.kf (d := 25) ho) fun _ F13 => ?_
  refine zf F13 rfl fun _ F14 => ?_
  refine AE F14 s3 m0 fun _ G1 => ?_
  refine AE G1 s3 m1 fun _ G2 => ?_
  exact rt G2 ⟨⟨hm, rfl⟩, K1 hL (by rw [YD]; exact s3)⟩
 rw [ho, Ab rfl] at Hb
 refine zw (F12.kt (d := 25) ho) fun _ F13 => ?_
 refine Bu F13 rfl rfl rfl (Ar OY rfl (s3.Aq m0 rfl)) rfl rfl fun _ F14 => ?_
 refine zw F14 fun _ F15 => ?_
 refine Bu F15 rfl rfl rfl (Ar D1 rfl (s3.Aq m1 (o := 7) rfl)) rfl rfl fun _ F16 => ?_
 refine zw F16 fun _ F17 => ?_
 rcases hs : decide (T.steps < 1048576) with _ | _
 ·rw [hs] at Hb
  cases Hb
  obtain rfl := hr _ rfl
  refine zf F17 hs fun _ F18 => ?_
  refine AE F18 s3 m0 fun _ G1 => ?_
  refine AE G1 s3 m1 fun _ G2 => ?_
  exact rt G2 ⟨⟨hm, rfl⟩, K1 hL (by rw [YD]; exact s3)⟩
 rw [hs, Ab rfl] at Hb
 obtain ⟨S1, h1, Hc⟩ := bind_ok Hb
 split at Hc <;> rename_i hf <;> cases Hc
 refine zt F17 hs fun _ F18 => ?_
 refine AE F18 s3 m0 fun _ F19 => ?_
 refine AU F19 (W2 (loc := [Ae gx 76 [jP K.g]]) s3 hL (hm ▸ hI) h1) fun v4 w4 _ hS F20 => ?_
 obtain ⟨rfl, ⟨vc1, vt1, cs1⟩, hl1, s4⟩ := hS
 refine zw F20 fun _ F21 => ?_
 exact ⟨_, rfl, F21.sb, (VJ h1).trans hm, vc1, vt1, cs1, ⟨hl1, hf⟩, s4⟩
end
end Go.Proofs.YtpnacdckamiedaaGreat
namespace Go.Proofs.YtpnacdckamiedaaGreat
open Go Go.RowKit Go.Pv Go.Proofs.Tryz
def M4 (S : MS) : Option CJ := (app 17592186044416 ([] : List Int) S.told).bind fun l => some (if S.over = true then ⟨S.h1, S.h2, S.h3, l, S.steps, S.used⟩ else ⟨150, 0, 0, l, S.steps, S.used⟩)
abbrev K9 (o : CJ) (u : Value) : List Value := [.int .i64 o.Err, .int .i64 o.Qh, .int .i64 o.Result, u, .int .i64 o.Steps, .int .i64 o.Cells]
theorem Ib : (prog.info? 32).bind (·.zero) = some (.agg ⟨[.int .i64 0, .int .i64 0, .int .i64 0, .slice none 0 0, .int .i64 0, .int .i64 0]⟩) := by kernel_rfl
theorem Uc : HH prog 32 [(0, 1), (1, 1), (2, 1), (3, 1), (4, 1), (5, 1)] = true := by kernel_rfl
theorem Pu : (prog.info? 32).map (·.size) = some 6 := by kernel_rfl
theorem Nl : El prog 32 6 = true := by kernel_rfl
theorem XS : (prog.info? 30).map (·.size) = some 1 := by kernel_rfl
theorem RU : Do prog 27 = true := by kernel_rfl
theorem XR : Do prog 30 = true := by kernel_rfl
theorem Xm : Do prog 95 = true := by kernel_rfl
theorem VP {P : Program} {fn : Func} {w0 w : World} {F0 : List Nat} {m : CL} {a : Act} {n : Nat} {S : Value → World → Prop} {g tt ty k : Nat} {cs : List Value} {qs : List Ck} (hF : Fr a n m) (hs : SL w0 F0 w qs) (hm : Ae g ty cs ∈ qs) (hb : El P ty k = true) (hk : cs.length = k) (hS : S (.agg ⟨cs⟩) w) (hv : fn.results = #[.cell tt ty] := by rfl) (hl : Pv.look m tt = some (.pointer (some ⟨g, 0, none⟩)) := by rfl) : bodyPost P fn (AN S) .ret a w :=
 B5 (rs := [.cell tt ty]) (vs := [.agg ⟨cs⟩]) hF hv ⟨_, _, rfl, RV.blk hs hm hl hb hk, rfl⟩ ⟨_, rfl, hS⟩
section
variable {w : World} {K : MK} {vc vt : Value} {cs : Lay} {S : MS} {w0 : World} {F0 FF : List Nat} {loc ps : List Ck} {gx : Nat}
theorem Rk (s0 : SL w0 F0 w (loc ++ mS K vc vt cs S)) : Calls prog 57 #[jP K.gh] w (AN fun u w_ => u = .int .i64 S.used ∧ SL w0 F0 w_ (loc ++ mS K vc vt cs S)) := by
 obtain ⟨os, hl, s1⟩ := SL.hop s0
 refine (V8 s1).mono ?_
 rintro e w' ⟨v, rfl, hv, hq⟩
 exact ⟨v, rfl, hv, SL.hsh hl hq⟩
theorem Ts {o : CJ} (s0 : SL w0 F0 w (loc ++ mS K vc vt cs S)) (H : M4 S = some o) :
  Calls prog 32 #[jP K.g] w (AN fun u w_ => ∃ u0, u = .agg ⟨K9 o u0⟩ ∧ SL w0 F0 w_ (Sl (Ty.int .i64) u0 o.Told :: loc ++ mS K vc vt cs S)) := by
 letI := Nu
 unfold M4 at H
 obtain ⟨l, hap, H1⟩ := bind_ok H
 refine C9 func32 ntmps32 fun _ F1 => ?_
 refine An F1 s0 Ib rfl rfl fun g2 w1 _ F2 s1 => ?_
 refine zw F2 fun _ F3 => ?_
 have mb := fun {w : World} {X : List Ck} (h : SL w0 F0 w (X ++ mS K vc vt cs S)) => SL.mb (loc := X) h
 let L2 := Ae g2 32 [.int .i64 0, .int .i64 0, .int .i64 0, .slice none 0 0, .int .i64 0, .int .i64 0] :: loc
 refine BH (fun w_ => SL w0 F0 w_ (L2 ++ mS K vc vt cs S)) [] Cn (Ce [0, 1, 2, 3, 4, 5, 6, 7, 9, 10, 11, 12] F3 (Bl rfl) s1.drew (QI.ev 3 rfl <| QI.op rfl (fun w hw => Ar D1 rfl ((mb (X := L2) hw).Aq m0 (o := 7) rfl)) rfl <| QI.ev 3 rfl <| QI.op rfl (fun w hw => Ar NP rfl ((mb (X := L2) hw).Aq m0 (o := 5) rfl)) rfl <| QI.ev 3 rfl <| QI.op rfl (fun w hw => Ar RU rfl ((mb (X := L2) hw).Aq m0 (o := 8) rfl)) rfl <| QI.nil) fun _ F4 => ?_)
 refine Tv (fun a' w' => ∃ v g3, Fr a' 42 [(18, .agg ⟨[.int .i64 150, .int .i64 0, .int .i64 0, v, .int .i64 S.steps, .int .i64 S.used]⟩), (3, .pointer (some ⟨g3, 0, none⟩)), (2, .pointer (some ⟨g2, 0, none⟩)), (0, jP K.g)] ∧ SL w0 F0 w' (Ae g3 32 [.int .i64 0, .int .i64 0, .int .i64 0, .slice none 0 0, .int .i64 0, .int .i64 0] :: Sl (Ty.int .i64) v l :: L2 ++ mS K vc vt cs S)) [15, 14, 13, 8, 12, 11, 10, 9, 7, 6, 5, 4, 3, 2, 1, 0] (fun a5 w5 ⟨v, g3, F5, s5⟩ => ?_) fun tl => TS 8 15 rfl rfl ?_ ?_
 rotate_left
 ·refine AU F4 (Rk (loc := L2) s1.drew) fun v1 w2 _ hS F5 => A8 ⟨fun _ => hS.2, ?_⟩
  obtain ⟨rfl, s2⟩ := hS
  obtain ⟨G, hG⟩ := (mb (X := L2) s2).Bm (T := Ty.int .i64) (v := vt) (l := S.told) m3
  refine TS 13 15 rfl rfl ?_ ?_
  ·refine Ba (Flat.int .i64) F5 (SL.BF (T := Ty.int .i64) s2) Kt rfl rfl rfl rfl hG rfl rfl hap rfl fun v w3 _ F6 s3 => A8 ⟨fun _ => SL.drop s3, ?_⟩
   refine Ce [14] F6 (Bl rfl) (SL.drop s3) (QI.op rfl (fun w hw => AP (vs := [.int .i64 150, .int .i64 S.steps, .int .i64 S.used, v]) Ib Uc rfl (cs := [.int .i64 150, .int .i64 0, .int .i64 0, v, .int .i64 S.steps, .int .i64 S.used]) (Dc rfl rfl (by simp) (Dc rfl rfl (by simp) (Dc rfl rfl (by simp) (Dc rfl (AG (s3.form m0)) (by simp) CQ))))) rfl <| QI.nil) fun _ F7 => ?_
   exact BN 15 rfl (An F7 s3 Ib rfl rfl fun g3 w4 _ F8 s4 => A8 ⟨fun _ => SL.drop (SL.drop s4), tl _ _ ⟨v, g3, F8.sb, s4⟩⟩)
  ·refine An F5 s2 Ib rfl rfl fun g3 w3 _ F6 s3 => A8 ⟨fun _ => SL.drop s3, ?_⟩
   obtain ⟨G, hG⟩ := (mb (X := Ae g3 32 [.int .i64 0, .int .i64 0, .int .i64 0, .slice none 0 0, .int .i64 0, .int .i64 0] :: L2) s3).Bm (T := Ty.int .i64) (v := vt) (l := S.told) m3
   refine BN 13 rfl (Ba (Flat.int .i64) F6 (SL.BF (T := Ty.int .i64) s3) Kt rfl rfl rfl rfl hG rfl rfl hap rfl fun v w4 _ F7 s4 => A8 ⟨fun _ => SL.drop (SL.drop s4), ?_⟩)
   refine Ce [14] F7 (Bl rfl) (SL.drop (SL.drop s4)) (QI.op rfl (fun w hw => AP (vs := [.int .i64 150, .int .i64 S.steps, .int .i64 S.used, v]) Ib Uc rfl (cs := [.int .i64 150, .int .i64 0, .int .i64 0, v, .int .i64 S.steps, .int .i64 S.used]) (Dc rfl rfl (by simp) (Dc rfl rfl (by simp) (Dc rfl rfl (by simp) (Dc rfl (AG (s4.form m0)) (by simp) CQ))))) rfl <| QI.nil) fun _ F8 => ?_
   exact ON _ (tl _ _ ⟨v, g3, F8.sb, s4.f1⟩)
 ·refine An F4 s1.drew Ib rfl rfl fun g3 w3 _ F5 s3 => A8 ⟨fun _ => SL.drop s3, ?_⟩
  let L3 := Ae g3 32 [.int .i64 0, .int .i64 0, .int .i64 0, .slice none 0 0, .int .i64 0, .int .i64 0] :: L2
  refine BN 8 rfl (AU F5 (Rk (loc := L3) s3) fun v1 w2 _ hS F6 => A8 ⟨fun _ => SL.drop hS.2, ?_⟩)
  obtain ⟨rfl, s4⟩ := hS
  obtain ⟨G, hG⟩ := (mb (X := L3) s4).Bm (T := Ty.int .i64) (v := vt) (l := S.told) m3
  refine BN 13 rfl (Ba (Flat.int .i64) F6 (SL.BF (T := Ty.int .i64) s4) Kt rfl rfl rfl rfl hG rfl rfl hap rfl fun v w4 _ F7 s5 => A8 ⟨fun _ => SL.drop (SL.drop s5), ?_⟩)
  refine Ce [14] F7 (Bl rfl) (SL.drop (SL.drop s5)) (QI.op rfl (fun w hw => AP (vs := [.int .i64 150, .int .i64 S.steps, .int .i64 S.used, v]) Ib Uc rfl (cs := [.int .i64 150, .int .i64 0, .int .i64 0, v, .int .i64 S.steps, .int .i64 S.used]) (Dc rfl rfl (by simp) (Dc rfl rfl (by simp) (Dc rfl rfl (by simp) (Dc rfl (AG (s5.form m0)) (by simp) CQ))))) rfl <| QI.nil) fun _ F8 => ?_
  exact ON _ (tl _ _ ⟨v, g3, F8.sb, s5.f1⟩)
 refine BN 16 rfl (A9 (ds := [.int .i64 150, .int .i64 0, .int .i64 0, v, .int .i64 S.steps, .int .i64 S.used]) F5 s5 rfl rfl Pu (Af rfl (Af rfl (Af rfl (Af (Aj (s5.form m1)) (Af rfl (Af rfl AM)))))) rfl fun w6 _ F6 s6 => A8 ⟨fun _ => SL.drop (SL.drop s6), BE ?_⟩)
 refine ze F6 fun _ F7 => ?_
 refine AE F7 (mb (X := Ae g3 32 [.int .i64 150, .int .i64 0, .int .i64 0, v, .int .i64 S.steps, .int .i64 S.used] :: Sl (Ty.int .i64) v l :: L2) s6) m0 fun _ F8 => ?_
 rcases ho : S.over with _ | _
 ·rw [ho] at H1
  cases H1
  refine zf F8 ho fun _ F9 => ?_
  refine AE F9 s6 m0 fun _ G1 => ?_
  refine A9 (ds := [.int .i64 150, .int .i64 0, .int .i64 0, v, .int .i64 S.steps, .int .i64 S.used]) G1 s6.f2 rfl rfl Pu (Af rfl (Af rfl (Af rfl (Af (Aj (s5.form m1)) (Af rfl (Af rfl AM)))))) rfl fun w9 _ G2 t1 => ?_
  refine zw G2 fun _ G3 => ?_
  exact VP G3 t1 m0 Nl rfl ⟨v, rfl, SL.drop (SL.drop t1)⟩
 ·rw [ho] at H1
  cases H1
  refine zt F8 ho fun _ F9 => ?_
  have hc3 : ∀ {w : World} {X : List Ck}, SL w0 F0 w (X ++ mS K vc vt cs S) → w.cell? ⟨K.g, 10, none⟩ = some (.int .i64 S.h1) ∧ w.cell? ⟨K.g, 11, none⟩ = some (.int .i64 S.h2) ∧ w.cell? ⟨K.g, 12, none⟩ = some (.int .i64 S.h3) := fun {w X} h => ⟨(mb (X := X) h).Aq m0 rfl, (mb (X := X) h).Aq m0 rfl, (mb (X := X) h).Aq m0 rfl⟩
  refine BH (fun w_ => w_.cell? ⟨K.g, 10, none⟩ = some (.int .i64 S.h1) ∧ w_.cell? ⟨K.g, 11, none⟩ = some (.int .i64 S.h2) ∧ w_.cell? ⟨K.g, 12, none⟩ = some (.int .i64 S.h3)) [] Cn (Ce [0, 1, 2, 3, 4, 5, 6, 7, 8, 9, 10, 11, 12, 13, 14, 15] F9 (Bl rfl) (hc3 (X := Ae g3 32 [.int .i64 150, .int .i64 0, .int .i64 0, v, .int .i64 S.steps, .int .i64 S.used] :: Sl (Ty.int .i64) v l :: L2) s6.drew) (QI.ev 4 rfl <| QI.op rfl (fun w hw => Ar XR rfl hw.1) rfl <| QI.ev 4 rfl <| QI.op rfl (fun w hw => Ar D1 rfl hw.2.1) rfl <| QI.ev 4 rfl <| QI.op rfl (fun w hw => Ar D1 rfl hw.2.2) rfl <| QI.ev 1 rfl <| QI.nil) fun _ F10 => ?_)
  refine BN 16 rfl (AZ F10 s6.drew rfl rfl XS rfl rfl rfl fun w7 _ F11 s7 => A8 ⟨fun _ => hc3 (X := Ae g3 32 [.int .i64 S.h1, .int .i64 0, .int .i64 0, v, .int .i64 S.steps, .int .i64 S.used] :: Sl (Ty.int .i64) v l :: L2) s7, ?_⟩)
  refine Fw 17 rfl F11 (hc3 (X := Ae g3 32 [.int .i64 S.h1, .int .i64 0, .int .i64 0, v, .int .i64 S.steps, .int .i64 S.used] :: Sl (Ty.int .i64) v l :: L2) s7) fun _ F11 => ?_
  refine BN 18 rfl (AZ F11 s7 rfl rfl ML rfl rfl rfl fun w8 _ F12 s8 => A8 ⟨fun _ => hc3 (X := Ae g3 32 [.int .i64 S.h1, .int .i64 S.h2, .int .i64 0, v, .int .i64 S.steps, .int .i64 S.used] :: Sl (Ty.int .i64) v l :: L2) s8, ?_⟩)
  refine Fw 19 rfl F12 (hc3 (X := Ae g3 32 [.int .i64 S.h1, .int .i64 S.h2, .int .i64 0, v, .int .i64 S.steps, .int .i64 S.used] :: Sl (Ty.int .i64) v l :: L2) s8) fun _ F12 => ?_
  refine BN 20 rfl (AZ F12 s8 rfl rfl ML rfl rfl rfl fun w9 _ F13 s9 => A8 ⟨fun _ => hc3 (X := Ae g3 32 [.int .i64 S.h1, .int .i64 S.h2, .int .i64 S.h3, v, .int .i64 S.steps, .int .i64 S.used] :: Sl (Ty.int .i64) v l :: L2) s9, BE ?_⟩)
  refine ze F13 fun _ F14 => ?_
  refine AE F14 s9 m0 fun _ G1 => ?_
  refine A9 (ds := [.int .i64 S.h1, .int .i64 S.h2, .int .i64 S.h3, v, .int .i64 S.steps, .int .i64 S.used]) G1 s9.f2 rfl rfl Pu (Af rfl (Af rfl (Af rfl (Af (Aj (s5.form m1)) (Af rfl (Af rfl AM)))))) rfl fun w9 _ G2 t1 => ?_
  refine zw G2 fun _ G3 => ?_
  exact VP G3 t1 m0 Nl rfl ⟨v, rfl, SL.drop (SL.drop t1)⟩
end
end Go.Proofs.YtpnacdckamiedaaGreat
namespace Go.Proofs.YtpnacdckamiedaaGreat
open Go Go.RowKit Go.Pv Go.Proofs.Tryz
def Js (S : MS) : Option (Int × Int × Int) := if S.over = true then some (0, 0, 0) else match S.calls with
 | [] => none
 | c :: _ => some (c.fn, c.at_, (S.calls.length : Int))
section
variable {w : World} {K : MK} {vc vt : Value} {cs : Lay} {S : MS} {w0 : World} {F0 FF : List Nat} {loc ps : List Ck} {gx : Nat}
theorem TD {o : CJ} (hst : Aw [MX K gx S] w FF) (H : M4 S = some o) : Calls prog 17 #[jP gx] w (AN fun u w_ => ∃ u0, u = .agg ⟨K9 o u0⟩ ∧ SL w FF w_ [Sl (Ty.int .i64) u0 o.Told, MX K gx S]) := by
 letI := Nu
 obtain ⟨vc, vt, cs, hL, s1⟩ := PY (SL.init w FF hst)
 rw [YD] at s1
 refine C9 func17 ntmps17 fun _ F1 => ?_
 refine An F1 s1 Ib rfl rfl fun g2 w1 _ F2 s2 => ?_
 refine zw F2 fun _ F3 => ?_
 refine AU F3 (Oa s2.f1) fun v1 w2 _ hS F4 => ?_
 obtain ⟨rfl, s3⟩ := hS
 refine zw F4 fun _ F5 => ?_
 refine zf F5 rfl fun _ F6 => ?_
 refine AE F6 s3 m0 fun _ F7 => ?_
 refine AU F7 (Ts (loc := [Ae gx 76 [jP K.g], Ae g2 32 [.int .i64 0, .int .i64 0, .int .i64 0, .slice none 0 0, .int .i64 0, .int .i64 0]]) s3 H) fun v2 w3 _ hS F8 => ?_
 obtain ⟨u0, rfl, s4⟩ := hS
 refine A9 (ds := K9 o u0) F8 s4.f2 rfl rfl Pu (Af rfl (Af rfl (Af rfl (Af (Aj (s4.form m0)) (Af rfl (Af rfl AM)))))) rfl fun w9 _ G2 t1 => ?_
 refine zw G2 fun _ G3 => ?_
 refine VP G3 t1 m0 Nl rfl ⟨u0, rfl, ?_⟩
 have t2 : SL w FF w9 (Ae gx 76 [jP K.g] :: mS K vc vt cs S ++ [Sl (Ty.int .i64) u0 o.Told]) := SL.comm (qs := [Sl (Ty.int .i64) u0 o.Told]) (SL.drop t1)
 exact (K1 hL t2).f1
theorem VB {p : Int × Int × Int} (hst : Aw [MX K gx S] w FF) (H : Js S = some p) : Calls prog 20 #[jP gx] w (AN fun u w_ => u = .tuple ⟨[.int .i64 p.1, .int .i64 p.2.1, .int .i64 p.2.2]⟩ ∧ SL w FF w_ [MX K gx S]) := by
 letI := Nu
 obtain ⟨vc, vt, cs, hL, s1⟩ := PY (SL.init w FF hst)
 rw [YD] at s1
 unfold Js at H
 refine C9 func20 ntmps20 fun _ F3 => ?_
 refine AU F3 (Oa s1) fun v1 w2 _ hS F4 => ?_
 obtain ⟨rfl, s3⟩ := hS
 refine zw F4 fun _ F5 => ?_
 refine Bu F5 rfl rfl rfl (Ar OY rfl (s3.Aq m0 rfl)) rfl rfl fun _ F6 => ?_
 refine zw F6 fun _ F7 => ?_
 refine Bu F7 rfl rfl rfl (Ar WB rfl (s3.Aq m1 (o := 9) rfl)) rfl rfl fun _ F8 => ?_
 refine zw F8 fun _ F9 => ?_
 have fin : SL w FF w2 [MX K gx S] := K1 hL (by rw [YD]; exact s3)
 rcases ho : S.over with _ | _
 ·rw [ho, Ac (by simp)] at H
  split at H
  ·cases H
  rename_i c r hc
  cases H
  refine zf F9 ho fun _ F10 => ?_
  refine AE F10 s3 m0 fun _ F11 => ?_
  refine AU F11 (HN (loc := [Ae gx 76 [jP K.g]]) s3 hL.1 hc (GQ hL.2 hc)) fun v2 w3 _ hS F12 => ?_
  obtain ⟨⟨ad, rfl, hT⟩, s4⟩ := hS
  obtain ⟨a, b, cs', rfl, hl', _⟩ := En (hc ▸ hL.1)
  refine zw F12 fun _ F13 => ?_
  have hC := fun w' (hw : SL w FF w' ([Ae gx 76 [jP K.g]] ++ mS K vc vt ((a, b) :: cs') S)) => SL.GR hw hc hl' hT
  obtain ⟨A5, k5, e5⟩ := s4.form (T := T_craw) m2
  rw [Ez hL.1] at e5
  refine BH (fun w_ => SL w FF w_ ([Ae gx 76 [jP K.g]] ++ mS K vc vt ((a, b) :: cs') S)) [] Cn (Ce [0, 1, 2, 3, 4, 5, 6, 7, 8, 9, 10, 11, 12, 13, 14, 15] F13 (Bl rfl) s4.drew (QI.ev 2 rfl <| QI.fl NH D1 hC rfl rfl rfl rfl rfl rfl <| QI.ev 2 rfl <| QI.fl Ip D1 hC rfl rfl rfl rfl rfl rfl <| QI.ev 3 rfl <| QI.op rfl (fun w hw => Ar OY rfl (hw.Aq m0 rfl)) rfl <| QI.ev 2 rfl <| QI.op rfl (fun w hw => Ar Xm rfl (hw.Aq m1 (o := 6) rfl)) rfl <| QI.op rfl (fun w hw => Ao rfl underlying95 ⟨A5, k5, e5⟩) rfl <| QI.nil) fun _ F14 => ?_)
  refine Fw 16 rfl F14 s4.drew fun _ F15 => ?_
  refine Fw 17 rfl F15 s4.drew fun _ F16 => ?_
  refine Fw 18 rfl F16 s4.drew fun _ F17 => BE ?_
  refine ze F17 fun _ F18 => ?_
  exact rt F18 ⟨rfl, K1 hL (by rw [YD]; exact s4.drew)⟩
 ·rw [ho, Ab rfl] at H
  cases H
  refine zt F9 ho fun _ F10 => ?_
  exact rt F10 ⟨rfl, fin⟩
end
end Go.Proofs.YtpnacdckamiedaaGreat
namespace Go.Proofs.YtpnacdckamiedaaGreat
open Go Go.RowKit Go.Pv Go.Proofs.Tryz
theorem CP {w : World} {v0 : Value} {a0 : List Av} {r : (List Av)} (hr0 : Rd AW w [] v0 a0) (H : Bi a0 = some r) :
  Calls prog 36 #[v0] w (AN fun u_ w_ => ∃ u0 : Value, u_ = u0 ∧ SL w [] w_ [Sl AW u0 r]) := by
 have s0 : SL w [] w [] := SL.Bf w
 refine BV func36 ntmps36 9 rfl rfl rfl fun _ F29 => ?_
 unfold Bi at H
 obtain ⟨A25, c26, hv27⟩ := Hm (CU hr0 s0)
 refine gx F29 (JG rfl hv27 rfl underlying107) 2 rfl rfl fun _ F30 => ?_
 refine MR F30 rfl (fun hb31 => ?_) (fun hb31 => ?_)
 ·have hn32 := Nt (CU hr0 s0) hv27 (by simpa using hb31)
  replace H := KB (B := some ([] : List Av)) H (by simp [hn32, app])
  cases H
  refine gc 7 F30 rfl fun _ F66 => ?_
  exact rt F66 ⟨(.slice none 0 0), rfl, (SL.BF (T := AW) s0)⟩
 ·refine gc 4 F30 rfl fun _ F30 => ?_
  refine EU (parts := []) Cv ([] : List Av) F30 s0 Fe rfl (by decide) rfl rfl rfl (by simp [Value.cells]) rfl rfl rfl fun v49 w50 q51 F52 s53 => ?_
  obtain ⟨x55, hx56, H⟩ := bind_ok H
  obtain ⟨_, hr_⟩ := (CU hr0 s53)
  refine gw 1 F52 rfl fun _ F57 => ?_
  refine Ba Cv F57 s53 Fe rfl rfl rfl rfl hr_ rfl rfl hx56 rfl fun v58 w59 q60 F61 s62 => ?_
  cases H
  refine gw 4 F61 rfl fun _ F64 => ?_
  exact rt F64 ⟨v58, rfl, s62⟩
end Go.Proofs.YtpnacdckamiedaaGreat
namespace Go.Proofs.YtpnacdckamiedaaGreat
open Go Go.RowKit Go.Pv Go.Proofs.Tryz
theorem Dp {w : World} {v0 : Value} {a0 : List UInt8} {r : (List UInt8)} (hr0 : Rd Ty.u8 w [] v0 a0) (H : B8 a0 = some r) :
  Calls prog 58 #[v0] w (AN fun u_ w_ => ∃ u0 : Value, u_ = u0 ∧ SL w [] w_ [Sl Ty.u8 u0 r]) := by
 have s0 : SL w [] w [] := SL.Bf w
 refine BV func58 ntmps58 9 rfl rfl rfl fun _ F29 => ?_
 unfold B8 at H
 obtain ⟨A25, c26, hv27⟩ := Hm (CU hr0 s0)
 refine gx F29 (JG rfl hv27 rfl underlying63) 2 rfl rfl fun _ F30 => ?_
 refine MR F30 rfl (fun hb31 => ?_) (fun hb31 => ?_)
 ·have hn32 := Nt (CU hr0 s0) hv27 (by simpa using hb31)
  replace H := KB (B := some ([] : List UInt8)) H (by simp [hn32, app])
  cases H
  refine gc 7 F30 rfl fun _ F66 => ?_
  exact rt F66 ⟨(.slice none 0 0), rfl, (SL.BF (T := Ty.u8) s0)⟩
 ·refine gc 4 F30 rfl fun _ F30 => ?_
  refine EU (parts := []) Flat.u8 ([] : List UInt8) F30 s0 HG rfl (by decide) rfl rfl rfl (by simp [Value.cells]) rfl rfl rfl fun v49 w50 q51 F52 s53 => ?_
  obtain ⟨x55, hx56, H⟩ := bind_ok H
  obtain ⟨_, hr_⟩ := (CU hr0 s53)
  refine gw 1 F52 rfl fun _ F57 => ?_
  refine Ba Flat.u8 F57 s53 HG rfl rfl rfl rfl hr_ rfl rfl hx56 rfl fun v58 w59 q60 F61 s62 => ?_
  cases H
  refine gw 4 F61 rfl fun _ F64 => ?_
  exact rt F64 ⟨v58, rfl, s62⟩
end Go.Proofs.YtpnacdckamiedaaGreat
namespace Go.Proofs.YtpnacdckamiedaaGreat
open Go Go.RowKit Go.Pv Go.Proofs.Tryz
theorem Qu {w : World} {v0_1 v0_2 v0_3 : Value} {a0 : Ah} {a1 : Int} {r : AD × Bool} (hr0_1 : Rd Ag w [] v0_1 a0.Classes) (hr0_2 : Rd As w [] v0_2 a0.Funcs) (hr0_3 : Rd (Ty.slice Ty.u8) w [] v0_3 a0.Cf) (H : I4 a0 a1 = some r) :
  Calls prog 38 #[.agg ⟨[.string ⟨⟨a0.Name⟩⟩, v0_1, v0_2, v0_3]⟩, .int .i64 a1] w (AN fun u_ w_ => ∃ u0 u1 : Value, u_ = .tuple ⟨[.agg ⟨[u0, u1, .int .i64 r.1.Fn]⟩, .bool r.2]⟩ ∧ SL w [] w_ [Sl Ag u0 r.1.Classes, Sl Bv u1 r.1.AO]) := by
 have s0 : SL w [] w [] := SL.Bf w
 refine BV func38 ntmps38 2 rfl rfl rfl fun _ F0 => ?_
 unfold I4 at H
 refine Bz F0 s0 rfl rfl rfl fun g14 w15 q16 F17 s18 => ?_
 refine An F17 s18 EP rfl rfl fun g20 w21 q22 F23 s24 => ?_
 refine gw 9 F23 rfl fun _ F67 => ?_
 refine B2 13 F67 H (fun hb68 H F69 => ?_) (fun hb68 H F69 => ?_)
 ·refine gw 11 F69 rfl fun _ F70 => ?_
  refine gx F70 (AP (vs := []) EP LX rfl (cs := [.slice none 0 0, .slice none 0 0, .int .i64 0]) (rfl)) 0 rfl rfl fun _ F78 => ?_
  refine AH F78 s24 rfl rfl Iy (Af rfl (Af rfl (Af rfl AM))) (Nat.le_of_ble_eq_true rfl) fun w79 q80 F81 s82 => ?_
  cases H
  refine gw 5 F81 rfl fun _ F84 => ?_
  refine B5 (rs := [.cell 4 80, .tmp 5]) (vs := [.agg ⟨[.slice none 0 0, .slice none 0 0, .int .i64 0]⟩, .bool false]) F84 (by rfl) ⟨_, _, rfl, RV.blk s82 m0 rfl Ko rfl, _, _, rfl, RV.tmp rfl, rfl⟩ ⟨_, rfl, ⟨(.slice none 0 0), (.slice none 0 0), rfl, (SL.BF (T := Bv) (SL.BF (T := Ag) s82)).f2.drop.f2.drop.f1⟩⟩
 ·refine gw 2 F69 rfl fun _ F85 => ?_
  refine Ax F85 rfl rfl ?_
  refine AA F85 s24 m1 0 rfl fun _ F87 => ?_
  refine Ax F87 rfl rfl ?_
  refine gx F87 (Ao rfl underlying23 (fR hr0_2 s24)) 4 rfl rfl fun _ F90 => ?_
  refine AK F90 H 2 5 rfl rfl rfl (fun hb91 H _ F92 => ?_) (fun hb91 H _ F120 => ?_)
  ·refine gx F92 (AP (vs := []) EP LX rfl (cs := [.slice none 0 0, .slice none 0 0, .int .i64 0]) (rfl)) 0 rfl rfl fun _ F100 => ?_
   refine AH F100 s24 rfl rfl Iy (Af rfl (Af rfl (Af rfl AM))) (Nat.le_of_ble_eq_true rfl) fun w101 q102 F103 s104 => ?_
   cases H
   refine gw 5 F103 rfl fun _ F106 => ?_
   refine B5 (rs := [.cell 4 80, .tmp 5]) (vs := [.agg ⟨[.slice none 0 0, .slice none 0 0, .int .i64 0]⟩, .bool false]) F106 (by rfl) ⟨_, _, rfl, RV.blk s104 m0 rfl Ko rfl, _, _, rfl, RV.tmp rfl, rfl⟩ ⟨_, rfl, ⟨(.slice none 0 0), (.slice none 0 0), rfl, (SL.BF (T := Bv) (SL.BF (T := Ag) s104)).f2.drop.f2.drop.f1⟩⟩
  ·refine gx F120 (AP (vs := [.int .i64 a1]) EP LX rfl (cs := [.slice none 0 0, .slice none 0 0, .int .i64 a1]) (rfl)) 0 rfl rfl fun _ F121 => ?_
   refine An F121 s24 EP rfl rfl fun g122 w123 q124 F125 s126 => ?_
   refine AH F125 s126 rfl rfl Iy (Af rfl (Af rfl (Af rfl AM))) (Nat.le_of_ble_eq_true rfl) fun w128 q129 F130 s131 => ?_
   refine gw 6 F130 rfl fun _ F2935 => ?_
   refine AA F2935 s131 m2 0 rfl fun _ F2936 => ?_
   obtain ⟨o4793, H4794, R4795⟩ := bind_ok H
   clear H
   refine gx F2936 (Ao rfl underlying22 (fR hr0_1 s131)) 3 rfl rfl fun _ F2938 => ?_
   refine BB (fun a w_ => ∃ v4796 : Value, Fr a 63 [(2, .pointer (some ⟨g14, 0, none⟩)), (4, .pointer (some ⟨g20, 0, none⟩)), (6, .pointer (some ⟨g122, 0, none⟩))] ∧ SL w [] w_ [Ae g122 80 [v4796, .slice none 0 0, .int .i64 a1], Ae g20 80 [.slice none 0 0, .slice none 0 0, .int .i64 0], Ae g14 26 [.string ⟨⟨a0.Name⟩⟩, v0_1, v0_2, v0_3], Sl Ag v4796 o4793]) ?_ ?_
   ·have H := H4794
    refine gc 1 F2938 rfl fun _ F2938 => ?_
    refine Dk (FB a0) (fun s4798 a w_ => ∃ v5261 : Value, Fr a 63 [(2, .pointer (some ⟨g14, 0, none⟩)), (4, .pointer (some ⟨g20, 0, none⟩)), (6, .pointer (some ⟨g122, 0, none⟩)), (24, v0_1), (25, .int .i64 (a0.Classes.length : Int)), (26, .int .i64 s4798.2)] ∧ SL w [] w_ [Ae g122 80 [v5261, .slice none 0 0, .int .i64 a1], Ae g20 80 [.slice none 0 0, .slice none 0 0, .int .i64 0], Ae g14 26 [.string ⟨⟨a0.Name⟩⟩, v0_1, v0_2, v0_3], Sl Ag v5261 s4798.1]) H ?_ ?_
    ·exact ⟨(.slice none 0 0), F2938.sb, (SL.BF (T := Ag) s131).f3.f3.f3⟩
    ·intro s4798 q5495 w5496 hI5497 o5494 H hr
     obtain ⟨v5261, F5492, s5493⟩ := hI5497
     replace H : FB a0 s4798 = some o5494 := H
     unfold FB at H
     refine gc 6 F5492 rfl fun _ F5499 => ?_
     refine AK F5499 H 6 4 rfl rfl rfl (fun hb5502 H _ F5503 => ?_) (fun hb5502 H _ F5503 => ?_)
     ·obtain ⟨x5638, hx5639, H⟩ := bind_ok H
      obtain ⟨ad5640, cs5643, G5644, hi5641, hc5642, hr5645, hG5646⟩ := Rd.idx hr0_1 BK rfl hx5639
      obtain ⟨v5647, rfl, hr5648⟩ := (BC hr5645 hG5646)
      replace hc5642 := hc5642 _ _ s5493
      refine gi F5503 hi5641 0 rfl fun _ F5649 => ?_
      refine gx F5649 (Be Gy rfl hc5642 rfl) 0 rfl rfl fun _ F5650 => ?_
      refine An F5650 s5493 GM rfl rfl fun g5651 w5652 q5653 F5654 s5655 => ?_
      refine AH F5654 s5655 rfl rfl Iv (Af rfl (Af rfl (Af (Aj (fR hr5648 s5655)) AM))) (Nat.le_of_ble_eq_true rfl) fun w5657 q5658 F5659 s5660 => ?_
      obtain ⟨x5681, hx5682, H⟩ := bind_ok H
      refine gw 5 F5659 rfl fun _ F5683 => ?_
      refine AA F5683 s5660 m0 0 rfl fun _ F5684 => ?_
      refine AU F5684 (CP    (hr5648.Az s5660) hx5682) fun v5685 w5686 _ hS5689 F5688 => ?_
      obtain ⟨_, rfl, hq5691⟩ := hS5689
      have s5690 := s5660.add hq5691
      refine gw 1 F5688 rfl fun _ F5694 => ?_
      refine AZ F5694 s5690.f1 rfl rfl KA (AG (fO s5690.f1 m1)) (Aj (fO s5690.f1 m1)) rfl fun w5695 q5696 F5697 s5698 => ?_
      refine gw 4 F5697 rfl fun _ F5700 => ?_
      refine AA F5700 s5698 m2 0 rfl fun _ F5701 => ?_
      refine AA F5701 s5698 m0 0 rfl fun _ F5702 => ?_
      have s5710 : SL w [] _ (Dt Ag (⟨x5638.Name, x5638.Al, x5681⟩ : Ad) [.string ⟨⟨x5638.Name⟩⟩, .int .i64 x5638.Al, v5685] :: [Ae g5651 109 [.string ⟨⟨x5638.Name⟩⟩, .int .i64 x5638.Al, v5685], Ae g122 80 [v5261, .slice none 0 0, .int .i64 a1], Ae g20 80 [.slice none 0 0, .slice none 0 0, .int .i64 0], Ae g14 26 [.string ⟨⟨a0.Name⟩⟩, v0_1, v0_2, v0_3], Sl Ag v5261 s4798.1]) := (SL.Ih (f := D2) (x := (⟨x5638.Name, x5638.Al, x5681⟩ : Ad)) (SL.Dj (SL.C6 (SL.Dj (SL.C6 (SL.dsl s5698.f1) (Flat.int .i64) x5638.Al)) Flat.str x5638.Name)))
      refine B7 F5702 s5710 BK rfl (by decide) rfl rfl rfl fun v5703 w5704 q5705 F5706 s5707 => ?_
      obtain ⟨x5711, hx5712, H⟩ := bind_ok H
      refine Dg F5706 s5707.f5 BK rfl rfl rfl rfl rfl rfl hx5712 rfl fun v5713 w5714 q5715 F5716 s5717 => ?_
      refine gw 1 F5716 rfl fun _ F5718 => ?_
      refine AZ F5718 s5717.f2 rfl rfl N5 (AG (fO s5717.f2 m1)) (Aj (fO s5717.f2 m1)) rfl fun w5719 q5720 F5721 s5722 => ?_
      cases H
      refine gw 7 F5721 rfl fun _ F5724 => ?_
      exact ⟨_, rfl, v5713, F5724.sb, s5722.f2.drop.f1.f3.f3.f3⟩
     ·cases H
      obtain rfl := hr _ rfl
      exact ⟨v5261, F5503.sb, s5493⟩
   ·intro q5727 w5728 hJ
    obtain ⟨v4796, F5725, s5726⟩ := hJ
    have H := R4795
    clear R4795 H4794
    refine ge 5 F5725 rfl fun _ F9371 => ?_
    refine AA F9371 s5726 m2 0 rfl fun _ F9372 => ?_
    obtain ⟨o11789, H11790, R11791⟩ := bind_ok H
    clear H
    refine gx F9372 (Ao rfl underlying23 (fR hr0_2 s5726)) 3 rfl rfl fun _ F9374 => ?_
    refine BB (fun a w_ => ∃ v11792 : Value, Fr a 63 [(4, .pointer (some ⟨g20, 0, none⟩)), (6, .pointer (some ⟨g122, 0, none⟩))] ∧ SL w [] w_ [Ae g122 80 [v4796, v11792, .int .i64 a1], Ae g20 80 [.slice none 0 0, .slice none 0 0, .int .i64 0], Sl Ag v4796 o4793, Sl Bv v11792 o11789]) ?_ ?_
    ·have H := H11790
     refine gc 1 F9374 rfl fun _ F9374 => ?_
     refine Dk (Fy a0) (fun s11794 a w_ => ∃ v12365 : Value, Fr a 63 [(4, .pointer (some ⟨g20, 0, none⟩)), (6, .pointer (some ⟨g122, 0, none⟩)), (42, v0_2), (43, .int .i64 (a0.Funcs.length : Int)), (44, .int .i64 s11794.2)] ∧ SL w [] w_ [Ae g122 80 [v4796, v12365, .int .i64 a1], Ae g20 80 [.slice none 0 0, .slice none 0 0, .int .i64 0], Sl Ag v4796 o4793, Sl Bv v12365 s11794.1]) H ?_ ?_
     ·exact ⟨(.slice none 0 0), F9374.sb, (SL.BF (T := Bv) s5726).f3.drop.f3.f3.f3⟩
     ·intro s11794 q12685 w12686 hI12687 o12684 H hr
      obtain ⟨v12365, F12682, s12683⟩ := hI12687
      replace H : Fy a0 s11794 = some o12684 := H
      unfold Fy at H
      refine gc 6 F12682 rfl fun _ F12689 => ?_
      refine AK F12689 H 6 4 rfl rfl rfl (fun hb12692 H _ F12693 => ?_) (fun hb12692 H _ F12693 => ?_)
      ·obtain ⟨x12873, hx12874, H⟩ := bind_ok H
       obtain ⟨ad12875, cs12878, G12879, hi12876, hc12877, hr12880, hG12881⟩ := Rd.idx hr0_2 FM rfl hx12874
       obtain ⟨v12882, v12884, rfl, hr12883, hr12885⟩ := (C2 hr12880 hG12881)
       replace hc12877 := hc12877 _ _ s12683
       refine gi F12693 hi12876 0 rfl fun _ F12886 => ?_
       refine gx F12886 (Be It rfl hc12877 rfl) 0 rfl rfl fun _ F12887 => ?_
       refine An F12887 s12683 HE rfl rfl fun g12888 w12889 q12890 F12891 s12892 => ?_
       refine AH F12891 s12892 rfl rfl Ji (Af rfl (Af (Aj (fR hr12883 s12892)) (Af rfl (Af rfl (Af (Aj (fR hr12885 s12892)) AM))))) (Nat.le_of_ble_eq_true rfl) fun w12894 q12895 F12896 s12897 => ?_
       obtain ⟨x12967, hx12968, H⟩ := bind_ok H
       obtain ⟨x12987, hx12988, H⟩ := bind_ok H
       refine gw 2 F12896 rfl fun _ F12896 => ?_
       refine IV DR s12897.f1.drop.f3.drop ?_
       have s12999 := s12897.drew
       refine hq [0, 2, 3, 4, 6, 7, 8] F12896 s12999.f1.drop.f3.drop (QI.ev 3 rfl <| QI.ld m0 rfl <| QI.ev 2 rfl <| QI.ld m0 rfl <| QI.nil) (by kernel_rfl) fun _ F11612999 => ?_
       refine Jj [0, 1, 2, 3, 4, 5, 6, 7, 8, 9, 10] (fun a w_ => ∃ v11163000 : Value, Fr a 63 [(4, .pointer (some ⟨g20, 0, none⟩)), (6, .pointer (some ⟨g122, 0, none⟩)), (42, v0_2), (43, .int .i64 (a0.Funcs.length : Int)), (44, .int .i64 s11794.2), (49, v12365), (58, v11163000)] ∧ SL w [] w_ [Ae g12888 69 [.string ⟨⟨x12873.Name⟩⟩, v12882, .int .u8 (x12873.Sig.Result.toNat : Int), .int .i64 x12873.Ak, v12884], Ae g20 80 [.slice none 0 0, .slice none 0 0, .int .i64 0], Sl Ag v4796 o4793, Sl Bv v11163000 ([(⟨x12967, x12873.Sig.Result⟩ : Am)] : List Am), Sl Bv v12365 s11794.1, Ae g122 80 [v4796, v12365, .int .i64 a1]]) ?_ fun hD0 => ?_
       ·rintro a w_ ⟨v11163000, F12114999, s12114999⟩
        refine ho 11 rfl (by kernel_rfl) ?_
        refine Dg F12114999 s12114999.f3.f4 Hy rfl rfl rfl rfl rfl rfl hx12988 rfl fun v11263000 w11263001 q11263002 F11263003 s11263004 => ?_
        refine gw 1 F11263003 rfl fun _ F11263003 => ?_
        refine ⟨s11263004.drop.f3.drop, ?_⟩
        refine hq [12] F11263003 s11263004.drop.f3.drop (QI.ev 1 rfl <| QI.nil) (by kernel_rfl) fun _ F11813999 => ?_
        refine ho 13 rfl (by kernel_rfl) ?_
        refine AZ F11813999 s11263004.f4 rfl rfl QZ (AG (fO s11263004.f4 m1)) (Aj (fO s11263004.f4 m1)) rfl fun w11463000 q11463001 F11463002 s11463003 => ?_
        refine gw 1 F11463002 rfl fun _ F11463002 => ?_
        refine ⟨s11463003.drop.drop, ?_⟩
        refine Jn (by kernel_rfl) ?_
        cases H
        refine ge 6 F11463002 rfl fun _ F13000 => ?_
        exact ⟨_, rfl, v11263000, F13000.sb, s11463003.f2.drop.f1.f3.f3.f3⟩
       refine Jj [0, 1, 2, 3, 4, 5, 6, 7, 8, 9] (fun a w_ => ∃ v10663000 : Value, Fr a 63 [(4, .pointer (some ⟨g20, 0, none⟩)), (6, .pointer (some ⟨g122, 0, none⟩)), (42, v0_2), (43, .int .i64 (a0.Funcs.length : Int)), (44, .int .i64 s11794.2), (49, v12365), (57, .agg ⟨[v10663000, .int .u8 (x12873.Sig.Result.toNat : Int)]⟩)] ∧ SL w [] w_ [Ae g12888 69 [.string ⟨⟨x12873.Name⟩⟩, v12882, .int .u8 (x12873.Sig.Result.toNat : Int), .int .i64 x12873.Ak, v12884], Ae g20 80 [.slice none 0 0, .slice none 0 0, .int .i64 0], Sl Ag v4796 o4793, Sl Ty.u8 v10663000 x12967, Sl Bv v12365 s11794.1, Ae g122 80 [v4796, v12365, .int .i64 a1]]) ?_ fun hD1 => ?_
       ·rintro a w_ ⟨v10663000, F12115999, s12115999⟩
        refine ho 10 rfl (by kernel_rfl) ?_
        have s11163007 : SL w [] _ (Dt Bv (⟨x12967, x12873.Sig.Result⟩ : Am) [v10663000, .int .u8 (x12873.Sig.Result.toNat : Int)] :: [Ae g12888 69 [.string ⟨⟨x12873.Name⟩⟩, v12882, .int .u8 (x12873.Sig.Result.toNat : Int), .int .i64 x12873.Ak, v12884], Ae g20 80 [.slice none 0 0, .slice none 0 0, .int .i64 0], Sl Ag v4796 o4793, Sl Bv v12365 s11794.1, Ae g122 80 [v4796, v12365, .int .i64 a1]]) := (SL.Ih (f := CV) (x := (⟨x12967, x12873.Sig.Result⟩ : Am)) (SL.Dj (SL.dsl (SL.C6 s12115999 Flat.u8 x12873.Sig.Result).f4)))
        refine B7 F12115999 s11163007 Hy rfl (by decide) rfl rfl rfl fun v11163000 w11163001 q11163002 F11163003 s11163004 => ?_
        refine gw 1 F11163003 rfl fun _ F11163003 => ?_
        exact ⟨s11163004.drop.f3.drop.f3.drop, GV hD0 ⟨v11163000, F11163003.sb, s11163004.f5.f5.f2.f5.f5.f5⟩ (by kernel_rfl)⟩
       refine Jj [0, 1, 2, 3, 4, 5, 6, 7, 8] (fun a w_ => ∃ v10663000 : Value, Fr a 63 [(4, .pointer (some ⟨g20, 0, none⟩)), (6, .pointer (some ⟨g122, 0, none⟩)), (42, v0_2), (43, .int .i64 (a0.Funcs.length : Int)), (44, .int .i64 s11794.2), (49, v12365), (53, v10663000), (56, .int .u8 (x12873.Sig.Result.toNat : Int))] ∧ SL w [] w_ [Ae g12888 69 [.string ⟨⟨x12873.Name⟩⟩, v12882, .int .u8 (x12873.Sig.Result.toNat : Int), .int .i64 x12873.Ak, v12884], Ae g20 80 [.slice none 0 0, .slice none 0 0, .int .i64 0], Sl Ag v4796 o4793, Sl Ty.u8 v10663000 x12967, Sl Bv v12365 s11794.1, Ae g122 80 [v4796, v12365, .int .i64 a1]]) ?_ fun hD2 => ?_
       ·rintro a w_ ⟨v10663000, F12116999, s12116999⟩
        refine ho 9 rfl (by kernel_rfl) ?_
        have hv12978 := (fO s12116999 m3)
        refine gx F12116999 (AP (vs := [v10663000, .int .u8 (x12873.Sig.Result.toNat : Int)]) IF QA rfl (cs := [v10663000, .int .u8 (x12873.Sig.Result.toNat : Int)]) (by obtain ⟨_, _, e_0⟩ := hv12978; rw [e_0] <;> rfl)) 1 rfl rfl fun _ F11063001 => ?_
        exact ⟨s12116999.f3.drop.f3.drop.f3.drop, GV hD1 ⟨v10663000, F11063001.sb, s12116999⟩ (by kernel_rfl)⟩
       refine Hh 1 5 rfl rfl (by kernel_rfl) ?_ ?_
       ·refine AA F11612999 s12999 m1 1 rfl fun _ F10263001 => ?_
        refine ⟨s12999.f1.drop.f3.drop, ?_⟩
        refine ho 5 rfl (by kernel_rfl) ?_
        refine AU F10263001 (Dp    (hr12883.Az s12999) hx12968) fun v10663000 w10663001 _ hS10663004 F10663003 => ?_
        obtain ⟨_, rfl, hq10663006⟩ := hS10663004
        have s10663005 := s12999.add hq10663006
        refine gw 1 F10663003 rfl fun _ F10663003 => ?_
        exact ⟨s10663005.drop.f1.drop.f3.drop, GV hD2 ⟨v10663000, F10663003.sb, s10663005.f2.f5.f2.f5.f5.f5⟩ (by kernel_rfl)⟩
       ·refine AU F11612999 (Dp    (hr12883.Az s12999) hx12968) fun v10663000 w10663001 _ hS10663004 F10663003 => ?_
        obtain ⟨_, rfl, hq10663006⟩ := hS10663004
        have s10663005 := s12999.add hq10663006
        refine gw 1 F10663003 rfl fun _ F10663003 => ?_
        refine ⟨s10663005.drop.f1.drop.f3.drop, ?_⟩
        refine Hh 1 9 rfl rfl (by kernel_rfl) ?_ ?_
        ·refine AA F10663003 s10663005 m2 1 rfl fun _ F10263001 => ?_
         exact ⟨s10663005.drop.f1.drop.f3.drop, GV hD2 ⟨v10663000, F10263001.sb, s10663005.f2.f5.f2.f5.f5.f5⟩ (by kernel_rfl)⟩
        ·have hv12978 := (fO s10663005 m0)
         refine gx F10663003 (AP (vs := [v10663000, .int .u8 (x12873.Sig.Result.toNat : Int)]) IF QA rfl (cs := [v10663000, .int .u8 (x12873.Sig.Result.toNat : Int)]) (by obtain ⟨_, _, e_0⟩ := hv12978; rw [e_0] <;> rfl)) 1 rfl rfl fun _ F11063001 => ?_
         refine ⟨s10663005.drop.f1.drop.f3.drop, ?_⟩
         refine Hh 1 10 rfl rfl (by kernel_rfl) ?_ ?_
         ·refine AA F11063001 s10663005 m2 1 rfl fun _ F10263001 => ?_
          exact ⟨s10663005.drop.f1.drop.f3.drop, GV hD1 ⟨v10663000, F10263001.sb, s10663005.f2.f5.f2.f5.f5.f5⟩ (by kernel_rfl)⟩
         ·have s11163007 : SL w [] _ (Dt Bv (⟨x12967, x12873.Sig.Result⟩ : Am) [v10663000, .int .u8 (x12873.Sig.Result.toNat : Int)] :: [Ae g12888 69 [.string ⟨⟨x12873.Name⟩⟩, v12882, .int .u8 (x12873.Sig.Result.toNat : Int), .int .i64 x12873.Ak, v12884], Ae g122 80 [v4796, v12365, .int .i64 a1], Ae g20 80 [.slice none 0 0, .slice none 0 0, .int .i64 0], Sl Ag v4796 o4793, Sl Bv v12365 s11794.1]) := (SL.Ih (f := CV) (x := (⟨x12967, x12873.Sig.Result⟩ : Am)) (SL.Dj (SL.dsl (SL.C6 s10663005 Flat.u8 x12873.Sig.Result).f1)))
          refine B7 F11063001 s11163007 Hy rfl (by decide) rfl rfl rfl fun v11163000 w11163001 q11163002 F11163003 s11163004 => ?_
          refine gw 1 F11163003 rfl fun _ F11163003 => ?_
          refine ⟨s11163004.drop.f1.drop.f3.drop, ?_⟩
          refine ho 1 rfl (by kernel_rfl) ?_
          refine AA F11163003 s11163004 m2 1 rfl fun _ F10263001 => ?_
          exact ⟨s11163004.drop.f1.drop.f3.drop, GV hD0 ⟨v11163000, F10263001.sb, s11163004.f2.f5.f2.f5.f5.f5⟩ (by kernel_rfl)⟩
      ·cases H
       obtain rfl := hr _ rfl
       exact ⟨v12365, F12693.sb, s12683⟩
    ·intro q13003 w13004 hJ
     obtain ⟨v11792, F13001, s13002⟩ := hJ
     have H := R11791
     clear R11791 H11790
     refine ge 3 F13001 rfl fun _ F13001 => ?_
     refine AA F13001 s13002 m0 0 rfl fun _ F13012 => ?_
     refine AH F13012 s13002.f1 rfl rfl Iy (Af (Aj (fO s13002.f1 m2)) (Af (Aj (fO s13002.f1 m3)) (Af rfl AM))) (Nat.le_of_ble_eq_true rfl) fun w13013 q13014 F13015 s13016 => ?_
     cases H
     refine gw 4 F13015 rfl fun _ F13018 => ?_
     refine B5 (rs := [.cell 4 80, .tmp 5]) (vs := [.agg ⟨[v4796, v11792, .int .i64 a1]⟩, .bool true]) F13018 (by rfl) ⟨_, _, rfl, RV.blk s13016 m0 rfl Ko rfl, _, _, rfl, RV.tmp rfl, rfl⟩ ⟨_, rfl, ⟨v4796, v11792, rfl, s13016.drop.drop⟩⟩
end Go.Proofs.YtpnacdckamiedaaGreat
namespace Go.Proofs.YtpnacdckamiedaaGreat
open Go Go.RowKit Go.Pv Go.Proofs.Tryz
theorem IL {w : World} {a0 : List UInt8} {r : Bool}  (H : Fa a0 = some r) :
  Calls prog 90 #[.string ⟨⟨a0⟩⟩] w (AN fun u_ w_ => u_ = .bool r ∧ SL w [] w_ []) := by
 have s0 : SL w [] w [] := SL.Bf w
 refine BV func90 ntmps90 9 rfl rfl rfl fun _ F19 => ?_
 unfold Fa at H
 refine gx F19 (GK rfl underlying9) 2 rfl rfl fun _ F21 => ?_
 refine B2 8 F21 H (fun hb22 H F23 => ?_) (fun hb22 H F23 => ?_)
 ·cases H
  refine gw 14 F23 rfl fun _ F26 => ?_
  exact rt F26 ⟨rfl, s0⟩
 ·refine gw 1 F23 rfl fun _ F27 => ?_
  refine Ax F27 rfl rfl ?_
  refine gx F27 (GK rfl underlying9) 4 rfl rfl fun _ F30 => ?_
  refine AK F30 H 7 6 rfl rfl rfl (fun hb31 H _ F34 => ?_) (fun hb31 H _ F2900 => ?_)
  ·cases H
   exact rt F34 ⟨rfl, s0⟩
  ·obtain ⟨o4801, H4802, R4803⟩ := bind_ok H
   clear H
   refine gx F2900 (GK rfl underlying9) 3 rfl rfl fun _ F2902 => ?_
   refine BB (fun a w_ => ∃ p4804 : Unit, o4801 = .inr (p4804) ∧ Fr a 50 [] ∧ SL w [] w_ []) ?_ ?_
   ·have H := H4802
    refine gc 1 F2902 rfl fun _ F2902 => ?_
    refine Dk (CM a0) (fun s4805 a w_ => Fr a 50 [(0, .string ⟨⟨a0⟩⟩), (14, .int .i64 (a0.length : Int)), (15, .int .i64 s4805)] ∧ SL w [] w_ []) H ?_ ?_
    ·exact ⟨F2902.sb, s0⟩
    ·intro s4805 q5517 w5518 hI5519 o5516 H hr
     obtain ⟨F5514, s5515⟩ := hI5519
     replace H : CM a0 s4805 = some o5516 := H
     unfold CM at H
     refine gc 6 F5514 rfl fun _ F5521 => ?_
     refine AK F5521 H 14 4 rfl rfl rfl (fun hb5524 H _ F5647 => ?_) (fun hb5524 H _ F5525 => ?_)
     ·obtain ⟨x5645, hx5646, H⟩ := bind_ok H
      obtain ⟨o5701, H5702, R5703⟩ := bind_ok H
      clear H
      refine gx F5647 (Rq rfl rfl underlying9 hx5646) 5 rfl rfl fun _ F5649 => ?_
      refine BB (fun a w_ => Fr a 50 [(0, .string ⟨⟨a0⟩⟩), (3, .int .i64 s4805), (4, .int .u8 (x5645.toNat : Int)), (14, .int .i64 (a0.length : Int)), (15, .int .i64 s4805), (21, .bool o5701)] ∧ SL w [] w_ []) ?_ ?_
      ·have H := H5702
       refine gc 5 F5649 rfl fun _ F5704 => ?_
       refine B2 24 F5704 H (fun hb5705 H F5706 => ?_) (fun hb5705 H F5706 => ?_)
       ·refine gw 6 F5706 rfl fun _ F5707 => ?_
        refine AK F5707 H 1 4 rfl rfl rfl (fun hb5708 H _ F5709 => ?_) (fun hb5708 H _ F5710 => ?_)
        ·cases H
         exact ⟨F5709.sb, s5515⟩
        ·refine B2 30 F5710 H (fun hb5711 H F5712 => ?_) (fun hb5711 H F5712 => ?_)
         ·cases H
          refine gw 5 F5712 rfl fun _ F5713 => ?_
          exact ⟨F5713.sb, s5515⟩
         ·cases H
          refine gw 5 F5712 rfl fun _ F5714 => ?_
          exact ⟨F5714.sb, s5515⟩
       ·refine gw 11 F5706 rfl fun _ F5716 => ?_
        refine B2 30 F5716 H (fun hb5717 H F5718 => ?_) (fun hb5717 H F5718 => ?_)
        ·cases H
         refine gw 5 F5718 rfl fun _ F5719 => ?_
         exact ⟨F5719.sb, s5515⟩
        ·cases H
         refine gw 5 F5718 rfl fun _ F5720 => ?_
         exact ⟨F5720.sb, s5515⟩
      ·intro q5723 w5724 hJ
       obtain ⟨F5721, s5722⟩ := hJ
       have H := R5703
       clear R5703 H5702
       refine ge 1 F5721 rfl fun _ F5721 => ?_
       refine AK F5721 H 8 5 rfl rfl rfl (fun hb5725 H _ F5727 => ?_) (fun hb5725 H _ F5728 => ?_)
       ·cases H
        exact ⟨_, rfl, F5727.sb, s5722⟩
       ·refine B2 37 F5728 H (fun hb5729 H F5730 => ?_) (fun hb5729 H F5730 => ?_)
        ·refine gw 3 F5730 rfl fun _ F5731 => ?_
         refine B2 40 F5731 H (fun hb5732 H F5733 => ?_) (fun hb5732 H F5733 => ?_)
         ·refine gw 4 F5733 rfl fun _ F5734 => ?_
          refine B2 44 F5734 H (fun hb5735 H F5736 => ?_) (fun hb5735 H F5736 => ?_)
          ·cases H
           refine gw 16 F5736 rfl fun _ F5738 => ?_
           exact ⟨_, rfl, F5738.sb, s5722⟩
          ·refine gw 7 F5736 rfl fun _ F5739 => ?_
           refine AK F5739 H 8 13 rfl rfl rfl (fun hb5740 H _ F5742 => ?_) (fun hb5740 H _ F5744 => ?_)
           ·cases H
            exact ⟨_, rfl, F5742.sb, s5722⟩
           ·cases H
            obtain rfl := hr _ rfl
            replace H := R4803
            try dsimp only at H
            cases H
            exact rt F5744 ⟨rfl, s5722⟩
         ·refine gw 11 F5733 rfl fun _ F5745 => ?_
          refine AK F5745 H 8 13 rfl rfl rfl (fun hb5746 H _ F5748 => ?_) (fun hb5746 H _ F5750 => ?_)
          ·cases H
           exact ⟨_, rfl, F5748.sb, s5722⟩
          ·cases H
           obtain rfl := hr _ rfl
           replace H := R4803
           try dsimp only at H
           cases H
           exact rt F5750 ⟨rfl, s5722⟩
        ·cases H
         obtain rfl := hr _ rfl
         replace H := R4803
         try dsimp only at H
         cases H
         refine gw 28 F5730 rfl fun _ F5753 => ?_
         exact rt F5753 ⟨rfl, s5722⟩
     ·cases H
      obtain rfl := hr _ rfl
      exact ⟨_, rfl, F5525.sb, s5515⟩
   ·intro q5756 w5757 hJ
    obtain ⟨p4804, rfl, F5754, s5755⟩ := hJ
    have H := R4803
    clear R4803 H4802
    try dsimp only at H
    cases H
    refine ge 7 F5754 rfl fun _ F5759 => ?_
    exact rt F5759 ⟨rfl, s5755⟩
end Go.Proofs.YtpnacdckamiedaaGreat
namespace Go.Proofs.YtpnacdckamiedaaGreat
open Go Go.RowKit Go.Pv Go.Proofs.Tryz
theorem Iu {w : World} {v0 : Value} {a0 : List (List UInt8)} {a1 : List UInt8} {r : Int} (hr0 : Rd Ty.str w [] v0 a0) (H : Cs a0 a1 = some r) :
  Calls prog 122 #[v0, .string ⟨⟨a1⟩⟩] w (AN fun u_ w_ => u_ = .int .i64 r ∧ SL w [] w_ []) := by
 have s0 : SL w [] w [] := SL.Bf w
 refine BV func122 ntmps122 9 rfl rfl rfl fun _ F720 => ?_
 unfold Cs at H
 obtain ⟨o1189, H1190, R1191⟩ := bind_ok H
 clear H
 refine gx F720 (Ao rfl underlying171 (fR hr0 s0)) 3 rfl rfl fun _ F722 => ?_
 refine BB (fun a w_ => ∃ p1192 : Unit, o1189 = .inr (p1192) ∧ Fr a 19 [] ∧ SL w [] w_ []) ?_ ?_
 ·have H := H1190
  refine gc 1 F722 rfl fun _ F722 => ?_
  refine Dk (AS a0 a1) (fun s1193 a w_ => Fr a 19 [(0, v0), (1, .string ⟨⟨a1⟩⟩), (7, .int .i64 (a0.length : Int)), (8, .int .i64 s1193)] ∧ SL w [] w_ []) H ?_ ?_
  ·exact ⟨F722.sb, s0⟩
  ·intro s1193 q1368 w1369 hI1370 o1367 H hr
   obtain ⟨F1365, s1366⟩ := hI1370
   replace H : AS a0 a1 s1193 = some o1367 := H
   unfold AS at H
   refine gc 6 F1365 rfl fun _ F1372 => ?_
   refine AK F1372 H 15 4 rfl rfl rfl (fun hb1375 H _ F1417 => ?_) (fun hb1375 H _ F1376 => ?_)
   ·obtain ⟨x1412, hx1413, H⟩ := bind_ok H
    obtain ⟨ad1414, hi1415, hc1416⟩ := GG Flat.str (CU hr0 s1366) Ix rfl hx1413
    refine gi F1417 hi1415 0 rfl fun _ F1418 => ?_
    refine gx F1418 (Ar Kg rfl (Cells.at_ hc1416 (o := 0) rfl)) 0 rfl rfl fun _ F1419 => ?_
    refine gx F1419 (Ln rfl rfl) 2 rfl rfl fun _ F1420 => ?_
    refine AK F1420 H 13 7 rfl rfl rfl (fun hb1421 H _ F1424 => ?_) (fun hb1421 H _ F1425 => ?_)
    ·cases H
     obtain rfl := hr _ rfl
     replace H := R1191
     try dsimp only at H
     cases H
     exact rt F1424 ⟨rfl, s1366⟩
    ·cases H
     exact ⟨_, rfl, F1425.sb, s1366⟩
   ·cases H
    obtain rfl := hr _ rfl
    exact ⟨_, rfl, F1376.sb, s1366⟩
 ·intro q1428 w1429 hJ
  obtain ⟨p1192, rfl, F1426, s1427⟩ := hJ
  have H := R1191
  clear R1191 H1190
  try dsimp only at H
  cases H
  refine ge 7 F1426 rfl fun _ F1431 => ?_
  exact rt F1431 ⟨rfl, s1427⟩
end Go.Proofs.YtpnacdckamiedaaGreat
namespace Go.Proofs.YtpnacdckamiedaaGreat
open Go Go.RowKit Go.Pv Go.Proofs.Tryz
theorem EI {w : World} {v0 : Value} {a0 : List (List UInt8)} {a1 : List UInt8} {r : Bool} (hr0 : Rd Ty.str w [] v0 a0) (H : Bh a0 a1 = some r) :
  Calls prog 91 #[v0, .string ⟨⟨a1⟩⟩] w (AN fun u_ w_ => u_ = .bool r ∧ SL w [] w_ []) := by
 have s0 : SL w [] w [] := SL.Bf w
 refine BV func91 ntmps91 9 rfl rfl rfl fun _ F16 => ?_
 unfold Bh at H
 obtain ⟨x14, hx15, H⟩ := bind_ok H
 refine DW F16 s0 (Iu   (hr0.Az s0) hx15) 5 rfl rfl rfl rfl fun w18 _ F24 s22 => ?_
 cases H
 exact rt F24 ⟨rfl, s22⟩
end Go.Proofs.YtpnacdckamiedaaGreat
namespace Go.Proofs.YtpnacdckamiedaaGreat
open Go Go.RowKit Go.Pv Go.Proofs.Tryz
theorem OC {w : World} {r : (List (List UInt8))}  (H : I1 = some r) :
  Calls prog 92 #[] w (AN fun u_ w_ => ∃ u0 : Value, u_ = u0 ∧ SL w [] w_ [Sl Ty.str u0 r]) := by
 have s0 : SL w [] w [] := SL.Bf w
 refine BV func92 ntmps92 7 rfl rfl rfl fun _ F2 => ?_
 unfold I1 at H
 refine EU (parts := [(0, .const (.string ⟨⟨[116, 111, 112]⟩⟩)), (1, .const (.string ⟨⟨[105, 110, 116]⟩⟩)), (2, .const (.string ⟨⟨[98, 111, 111, 108]⟩⟩)), (3, .const (.string ⟨⟨[110, 117, 108, 108]⟩⟩)), (4, .const (.string ⟨⟨[105, 110, 116, 115]⟩⟩)), (5, .const (.string ⟨⟨[97, 110, 121]⟩⟩))]) Flat.str ([[116, 111, 112], [105, 110, 116], [98, 111, 111, 108], [110, 117, 108, 108], [105, 110, 116, 115], [97, 110, 121]] : List (List UInt8)) F2 s0 Ix rfl (by decide) rfl rfl rfl (by simp [Value.cells]) rfl rfl rfl fun v10 w11 q12 F13 s14 => ?_
 cases H
 refine gw 4 F13 rfl fun _ F16 => ?_
 exact rt F16 ⟨v10, rfl, s14⟩
end Go.Proofs.YtpnacdckamiedaaGreat
namespace Go.Proofs.YtpnacdckamiedaaGreat
open Go Go.RowKit Go.Pv Go.Proofs.Tryz
theorem Ml {w : World} {FF : List Nat} {g1 : Nat} {v0_2 v1_2 : Value} {a0 : Ad} {a1 : Ad} {r : Bool} (hst : Aw [Ae g1 109 [.string ⟨⟨a1.Name⟩⟩, .int .i64 a1.Al, v1_2]] w FF) (hr0_2 : Rd AW w FF v0_2 a0.Fields) (hr1_2 : Rd AW w FF v1_2 a1.Fields) (H : Gr a0 a1 = some r) :
  Calls prog 94 #[.agg ⟨[.string ⟨⟨a0.Name⟩⟩, .int .i64 a0.Al, v0_2]⟩, .pointer (some ⟨g1, 0, none⟩)] w (AN fun u_ w_ => u_ = .bool r ∧ SL w FF w_ [Ae g1 109 [.string ⟨⟨a1.Name⟩⟩, .int .i64 a1.Al, v1_2]]) := by
 have s0 : SL w FF w [Ae g1 109 [.string ⟨⟨a1.Name⟩⟩, .int .i64 a1.Al, v1_2]] := SL.init w FF hst
 refine BV func94 ntmps94 2 rfl rfl rfl fun _ F0 => ?_
 unfold Gr at H
 refine Bz F0 s0 rfl rfl rfl fun g8 w9 q10 F11 s12 => ?_
 refine gw 6 F11 rfl fun _ F21 => ?_
 refine AA F21 s12 m0 1 rfl fun _ F23 => ?_
 refine AA F23 s12 m1 0 rfl fun _ F24 => ?_
 cases H
 refine gx F24 (Ln rfl rfl) 4 rfl rfl fun _ F26 => ?_
 exact rt F26 ⟨rfl, s12.drop⟩
end Go.Proofs.YtpnacdckamiedaaGreat
namespace Go.Proofs.YtpnacdckamiedaaGreat
open Go Go.RowKit Go.Pv Go.Proofs.Tryz
theorem E2 {w : World} {FF : List Nat} {g200 : Nat} {v0 v200_2 : Value} {a0 : List Ad} {a200 : Ad} {r : Int} (hst : Aw [Ae g200 109 [.string ⟨⟨a200.Name⟩⟩, .int .i64 a200.Al, v200_2]] w FF) (hr0 : Rd Ag w FF v0 a0) (hr200_2 : Rd AW w FF v200_2 a200.Fields) (H : Bn a0 a200 = some r) :
  Calls prog 123 #[v0, J2 94 [.pointer (some ⟨g200, 0, none⟩)]] w (AN fun u_ w_ => u_ = .int .i64 r ∧ SL w FF w_ [Ae g200 109 [.string ⟨⟨a200.Name⟩⟩, .int .i64 a200.Al, v200_2]]) := by
 have s0 : SL w FF w [Ae g200 109 [.string ⟨⟨a200.Name⟩⟩, .int .i64 a200.Al, v200_2]] := SL.init w FF hst
 refine BV func123 ntmps123 9 rfl rfl rfl fun _ F1680 => ?_
 unfold Bn at H
 obtain ⟨o2789, H2790, R2791⟩ := bind_ok H
 clear H
 refine gx F1680 (Ao rfl underlying22 (fR hr0 s0)) 3 rfl rfl fun _ F1682 => ?_
 refine BB (fun a w_ => ∃ p2792 : Unit, o2789 = .inr (p2792) ∧ Fr a 19 [] ∧ SL w FF w_ [Ae g200 109 [.string ⟨⟨a200.Name⟩⟩, .int .i64 a200.Al, v200_2]]) ?_ ?_
 ·have H := H2790
  refine gc 1 F1682 rfl fun _ F1682 => ?_
  refine Dk (AB a0 a200) (fun s2793 a w_ => Fr a 19 [(0, v0), (1, J2 94 [.pointer (some ⟨g200, 0, none⟩)]), (7, .int .i64 (a0.length : Int)), (8, .int .i64 s2793)] ∧ SL w FF w_ [Ae g200 109 [.string ⟨⟨a200.Name⟩⟩, .int .i64 a200.Al, v200_2]]) H ?_ ?_
  ·exact ⟨F1682.sb, s0⟩
  ·intro s2793 q3208 w3209 hI3210 o3207 H hr
   obtain ⟨F3205, s3206⟩ := hI3210
   replace H : AB a0 a200 s2793 = some o3207 := H
   unfold AB at H
   refine gc 6 F3205 rfl fun _ F3212 => ?_
   refine AK F3212 H 12 4 rfl rfl rfl (fun hb3215 H _ F3282 => ?_) (fun hb3215 H _ F3216 => ?_)
   ·obtain ⟨x3312, hx3313, H⟩ := bind_ok H
    obtain ⟨ad3314, cs3317, G3318, hi3315, hc3316, hr3319, hG3320⟩ := Rd.idx hr0 BK rfl hx3313
    obtain ⟨v3321, rfl, hr3322⟩ := (BC hr3319 hG3320)
    replace hc3316 := hc3316 _ _ s3206
    obtain ⟨x3323, hx3324, H⟩ := bind_ok H
    refine gw 3 F3282 rfl fun _ F3325 => ?_
    refine gi F3325 hi3315 0 rfl fun _ F3326 => ?_
    refine gx F3326 (Be Gy rfl hc3316 rfl) 0 rfl rfl fun _ F3327 => ?_
    obtain ⟨G3340, hst3336, hF3337, hG3338, hcl3339⟩ := SL.open_ (ps := [Ae g200 109 [.string ⟨⟨a200.Name⟩⟩, .int .i64 a200.Al, v200_2]]) (rest := []) s3206
    refine Hw (args := [.tmp 15]) F3327 Vd rfl rfl (Ml (a0 := x3312) (a1 := (⟨a200.Name, a200.Al, a200.Fields⟩ : Ad)) hst3336  (hr3322.pass s3206 hF3337) (hr200_2.pass s3206 hF3337) hx3324) rfl fun v3328 w3329 q3330 hS3332 F3331 => ?_
    obtain ⟨rfl, hq3334⟩ := hS3332
    have s3333 := hcl3339 _ _ hq3334
    refine gw 2 F3331 rfl fun _ F3331 => ?_
    refine AK F3331 H 13 7 rfl rfl rfl (fun hb3341 H _ F3344 => ?_) (fun hb3341 H _ F3345 => ?_)
    ·cases H
     obtain rfl := hr _ rfl
     replace H := R2791
     try dsimp only at H
     cases H
     exact rt F3344 ⟨rfl, s3333⟩
    ·cases H
     exact ⟨_, rfl, F3345.sb, s3333⟩
   ·cases H
    obtain rfl := hr _ rfl
    exact ⟨_, rfl, F3216.sb, s3206⟩
 ·intro q3348 w3349 hJ
  obtain ⟨p2792, rfl, F3346, s3347⟩ := hJ
  have H := R2791
  clear R2791 H2790
  try dsimp only at H
  cases H
  refine ge 7 F3346 rfl fun _ F3351 => ?_
  exact rt F3351 ⟨rfl, s3347⟩
end Go.Proofs.YtpnacdckamiedaaGreat
namespace Go.Proofs.YtpnacdckamiedaaGreat
open Go Go.RowKit Go.Pv Go.Proofs.Tryz
theorem Ej {w : World} {FF : List Nat} {g200 : Nat} {v0 v200_2 : Value} {a0 : List Ad} {a200 : Ad} {r : Bool} (hst : Aw [Ae g200 109 [.string ⟨⟨a200.Name⟩⟩, .int .i64 a200.Al, v200_2]] w FF) (hr0 : Rd Ag w FF v0 a0) (hr200_2 : Rd AW w FF v200_2 a200.Fields) (H : AX a0 a200 = some r) :
  Calls prog 93 #[v0, J2 94 [.pointer (some ⟨g200, 0, none⟩)]] w (AN fun u_ w_ => u_ = .bool r ∧ SL w FF w_ [Ae g200 109 [.string ⟨⟨a200.Name⟩⟩, .int .i64 a200.Al, v200_2]]) := by
 have s0 : SL w FF w [Ae g200 109 [.string ⟨⟨a200.Name⟩⟩, .int .i64 a200.Al, v200_2]] := SL.init w FF hst
 refine BV func93 ntmps93 9 rfl rfl rfl fun _ F22 => ?_
 unfold AX at H
 obtain ⟨x20, hx21, H⟩ := bind_ok H
 obtain ⟨G35, hst31, hF32, hG33, hcl34⟩ := SL.open_ (ps := [Ae g200 109 [.string ⟨⟨a200.Name⟩⟩, .int .i64 a200.Al, v200_2]]) (rest := []) s0
 refine AU F22 (E2 (a200 := (⟨a200.Name, a200.Al, a200.Fields⟩ : Ad)) hst31  (hr0.pass s0 hF32) (hr200_2.pass s0 hF32) hx21) fun v23 w24 _ hS27 F26 => ?_
 obtain ⟨rfl, hq29⟩ := hS27
 have s28 := hcl34 _ _ hq29
 cases H
 refine gw 5 F26 rfl fun _ F36 => ?_
 exact rt F36 ⟨rfl, s28⟩
end Go.Proofs.YtpnacdckamiedaaGreat
namespace Go.Proofs.YtpnacdckamiedaaGreat
open Go Go.RowKit Go.Pv Go.Proofs.Tryz
theorem La {w : World} {FF : List Nat} {g1 g2 : Nat} {v1_0 v2_0 : Value} {a0 : Int} {a1 : List Ad} {a2 : List (List UInt8)} {r : Bool × (List (List UInt8))} (hst : Aw [Ae g1 22 [v1_0], Ae g2 171 [v2_0], Sl Ty.str v2_0 a2] w FF) (hr1_0 : Rd Ag w FF v1_0 a1) (H : E6 a0 a1 a2 = some r) :
  Calls prog 125 #[.int .i64 a0, .pointer (some ⟨g1, 0, none⟩), .pointer (some ⟨g2, 0, none⟩)] w (AN fun u_ w_ => ∃ u0 : Value, u_ = .bool r.1 ∧ SL w FF w_ [Ae g1 22 [v1_0], Ae g2 171 [u0], Sl Ty.str u0 r.2]) := by
 have s0 : SL w FF w [Ae g1 22 [v1_0], Ae g2 171 [v2_0], Sl Ty.str v2_0 a2] := SL.init w FF hst
 refine BV func125 ntmps125 8 rfl rfl rfl fun _ F2 => ?_
 unfold E6 at H
 obtain ⟨x1593, hx1594, H⟩ := bind_ok H
 obtain ⟨ad1595, cs1598, G1599, hi1596, hc1597, hr1600, hG1601⟩ := Rd.idx hr1_0 BK rfl hx1594
 obtain ⟨v1602, rfl, hr1603⟩ := (BC hr1600 hG1601)
 replace hc1597 := hc1597 _ _ s0
 refine AA F2 s0 m0 1 rfl fun _ F1605 => ?_
 refine gi F1605 hi1596 0 rfl fun _ F1606 => ?_
 refine gx F1606 (Di HT rfl) 0 rfl rfl fun _ F1607 => ?_
 refine gx F1607 (Ar IB rfl (Cells.at_ hc1597 (o := 2) rfl)) 0 rfl rfl fun _ F1608 => ?_
 obtain ⟨o2629, H2630, R2631⟩ := bind_ok H
 clear H
 refine gx F1608 (Ao rfl underlying107 (fR hr1603 s0)) 3 rfl rfl fun _ F1610 => ?_
 refine BB (fun a w_ => ∃ v2632 : Value, Fr a 23 [] ∧ SL w FF w_ [Ae g1 22 [v1_0], Ae g2 171 [v2632], Sl Ty.str v2632 o2629]) ?_ ?_
 ·have H := H2630
  refine gc 1 F1610 rfl fun _ F1610 => ?_
  refine Dk (Cy x1593) (fun s2634 a w_ => ∃ v2887 : Value, Fr a 23 [(2, .pointer (some ⟨g2, 0, none⟩)), (11, v1602), (12, .int .i64 (x1593.Fields.length : Int)), (13, .int .i64 s2634.2)] ∧ SL w FF w_ [Ae g1 22 [v1_0], Ae g2 171 [v2887], Sl Ty.str v2887 s2634.1]) H ?_ ?_
  ·exact ⟨v2_0, F1610.sb, s0⟩
  ·intro s2634 q3017 w3018 hI3019 o3016 H hr
   obtain ⟨v2887, F3014, s3015⟩ := hI3019
   replace H : Cy x1593 s2634 = some o3016 := H
   unfold Cy at H
   refine gc 6 F3014 rfl fun _ F3021 => ?_
   refine AK F3021 H 6 4 rfl rfl rfl (fun hb3024 H _ F3025 => ?_) (fun hb3024 H _ F3025 => ?_)
   ·obtain ⟨x3102, hx3103, H⟩ := bind_ok H
    obtain ⟨ad3104, hi3105, hc3106⟩ := GG Cv (CU hr1603 s3015) Fe rfl hx3103
    refine gi F3025 hi3105 0 rfl fun _ F3107 => ?_
    refine gx F3107 (Be L1 rfl hc3106 rfl) 0 rfl rfl fun _ F3108 => ?_
    refine An F3108 s3015 K6 rfl rfl fun g3109 w3110 q3111 F3112 s3113 => ?_
    refine AH F3112 s3113 rfl rfl M1 (Af rfl (Af rfl AM)) (Nat.le_of_ble_eq_true rfl) fun w3115 q3116 F3117 s3118 => ?_
    refine gw 3 F3117 rfl fun _ F3117 => ?_
    refine AA F3117 s3118 m2 1 rfl fun _ F3121 => ?_
    refine AA F3121 s3118 m0 0 rfl fun _ F3122 => ?_
    refine EU (parts := [(0, .tmp 19)]) Flat.str ([x3102.Name] : List (List UInt8)) F3122 s3118 Ix rfl (by decide) rfl rfl rfl (by simp [Value.cells]) rfl rfl rfl fun v3123 w3124 q3125 F3126 s3127 => ?_
    obtain ⟨x3129, hx3130, H⟩ := bind_ok H
    obtain ⟨_, hr_⟩ := (s3127.f4.Bm m1)
    refine Ba Flat.str F3126 s3127.f4 Ix rfl rfl rfl rfl hr_ rfl rfl hx3130 rfl fun v3131 w3132 q3133 F3134 s3135 => ?_
    have s3135' := s3135.f1.drop
    have s3141 := s3135'.f3
    refine AZ F3134 s3141 rfl rfl OU (AG (fO s3141 m1)) (Aj (fO s3141 m1)) rfl fun w3137 q3138 F3139 s3140 => ?_
    cases H
    refine gw 7 F3139 rfl fun _ F3142 => ?_
    exact ⟨_, rfl, v3131, F3142.sb, s3140.f2.drop.f1.f1.f2⟩
   ·cases H
    obtain rfl := hr _ rfl
    exact ⟨v2887, F3025.sb, s3015⟩
 ·intro q3145 w3146 hJ
  obtain ⟨v2632, F3143, s3144⟩ := hJ
  have H := R2631
  clear R2631 H2630
  cases H
  refine ge 7 F3143 rfl fun _ F3148 => ?_
  exact rt F3148 ⟨v2632, rfl, s3144⟩
end Go.Proofs.YtpnacdckamiedaaGreat
namespace Go.Proofs.YtpnacdckamiedaaGreat
open Go Go.RowKit Go.Pv Go.Proofs.Tryz
theorem Jc {w : World} {FF : List Nat} {g300 g301 : Nat} {v0 v300_0 v301_0 : Value} {a0 : List Ad} {a1 : Int} {a300 : List Ad} {a301 : List (List UInt8)} {r : (List (List UInt8))} (hst : Aw [Ae g300 22 [v300_0], Ae g301 171 [v301_0], Sl Ty.str v301_0 a301] w FF) (hr0 : Rd Ag w FF v0 a0) (hr300_0 : Rd Ag w FF v300_0 a300) (H : CO a0 a1 a300 a301 = some r) :
  Calls prog 124 #[v0, .int .i64 a1, J2 125 [.pointer (some ⟨g300, 0, none⟩), .pointer (some ⟨g301, 0, none⟩)]] w (AN fun u_ w_ => ∃ u0 : Value, u_ = .tuple ⟨[]⟩ ∧ SL w FF w_ [Ae g300 22 [v300_0], Ae g301 171 [u0], Sl Ty.str u0 r]) := by
 have s0 : SL w FF w [Ae g300 22 [v300_0], Ae g301 171 [v301_0], Sl Ty.str v301_0 a301] := SL.init w FF hst
 refine BV func124 ntmps124 0 rfl rfl rfl fun _ F0 => ?_
 unfold CO at H
 obtain ⟨o875, H876, R877⟩ := bind_ok H
 clear H
 refine BB (fun a w_ => ∃ p878 : (List (List UInt8)), o875 = .inr (p878) ∧ ∃ v879 : Value, Fr a 29 [] ∧ SL w FF w_ [Ae g300 22 [v300_0], Ae g301 171 [v879], Sl Ty.str v879 p878]) ?_ ?_
 ·have H := H876
  refine gc 1 F0 rfl fun _ F0 => ?_
  refine Dk (BA a0 a300) (fun s881 a w_ => ∃ v1098 : Value, Fr a 29 [(0, v0), (1, .int .i64 s881.2), (2, J2 125 [.pointer (some ⟨g300, 0, none⟩), .pointer (some ⟨g301, 0, none⟩)])] ∧ SL w FF w_ [Ae g300 22 [v300_0], Ae g301 171 [v1098], Sl Ty.str v1098 s881.1]) H ?_ ?_
  ·exact ⟨v301_0, F0.sb, s0⟩
  ·intro s881 q1210 w1211 hI1212 o1209 H hr
   obtain ⟨v1098, F1207, s1208⟩ := hI1212
   replace H : BA a0 a300 s881 = some o1209 := H
   unfold BA at H
   refine gc 6 F1207 rfl fun _ F1245 => ?_
   refine B2 9 F1245 H (fun hb1246 H F1247 => ?_) (fun hb1246 H F1247 => ?_)
   ·refine gw 2 F1247 rfl fun _ F1248 => ?_
    refine Ax F1248 rfl rfl ?_
    refine gx F1248 (Ao rfl underlying22 (fR hr0 s1208)) 3 rfl rfl fun _ F1251 => ?_
    refine B2 15 F1251 H (fun hb1252 H F1253 => ?_) (fun hb1252 H F1253 => ?_)
    ·obtain ⟨x1254, hx1255, H⟩ := bind_ok H
     refine gw 2 F1253 rfl fun _ F1256 => ?_
     refine Ax F1256 rfl rfl ?_
     obtain ⟨G1269, hst1265, hF1266, hG1267, hcl1268⟩ := SL.open_ (ps := [Ae g300 22 [v300_0], Ae g301 171 [v1098], Sl Ty.str v1098 s881.1]) (rest := []) s1208.f2.f2.f2
     refine Hw (args := [.tmp 17]) F1256 UE rfl rfl (La (a0 := s881.2) (a1 := a300) (a2 := s881.1) hst1265  (hr300_0.pass s1208.f2.f2.f2 hF1266) hx1255) rfl fun v1257 w1258 q1259 hS1261 F1260 => ?_
     obtain ⟨v1270, rfl, hq1263⟩ := hS1261
     have s1262 := hcl1268 _ _ hq1263
     refine gw 3 F1260 rfl fun _ F1272 => ?_
     refine AK F1272 H 5 4 rfl rfl rfl (fun hb1273 H _ F1274 => ?_) (fun hb1273 H _ F1274 => ?_)
     ·obtain ⟨x1291, hx1292, H⟩ := bind_ok H
      obtain ⟨ad1293, cs1296, G1297, hi1294, hc1295, hr1298, hG1299⟩ := Rd.idx hr0 BK rfl hx1292
      obtain ⟨v1300, rfl, hr1301⟩ := (BC hr1298 hG1299)
      replace hc1295 := hc1295 _ _ s1262
      refine gw 2 F1274 rfl fun _ F1302 => ?_
      refine gi F1302 hi1294 0 rfl fun _ F1303 => ?_
      refine gx F1303 (Di Ja rfl) 0 rfl rfl fun _ F1304 => ?_
      refine gx F1304 (Ar Gg rfl (Cells.at_ hc1295 (o := 1) rfl)) 11 rfl rfl fun _ F1312 => ?_
      refine AK F1312 H 6 7 rfl rfl rfl (fun hb1313 H _ F1314 => ?_) (fun hb1313 H _ F1315 => ?_)
      ·cases H
       obtain rfl := hr _ rfl
       replace H := R877
       try dsimp only at H
       cases H
       exact rt F1314 ⟨v1270, rfl, s1262⟩
      ·cases H
       exact ⟨_, rfl, v1270, F1315.sb, s1262⟩
     ·cases H
      obtain rfl := hr _ rfl
      exact ⟨_, rfl, v1270, F1274.sb, s1262⟩
    ·cases H
     obtain rfl := hr _ rfl
     refine gw 11 F1253 rfl fun _ F1316 => ?_
     exact ⟨_, rfl, v1098, F1316.sb, s1208⟩
   ·cases H
    obtain rfl := hr _ rfl
    refine gw 17 F1247 rfl fun _ F1317 => ?_
    exact ⟨_, rfl, v1098, F1317.sb, s1208⟩
 ·intro q1320 w1321 hJ
  obtain ⟨p878, rfl, v879, F1318, s1319⟩ := hJ
  have H := R877
  clear R877 H876
  try dsimp only at H
  cases H
  exact Kd F1318 (by rfl) ⟨_, rfl, ⟨v879, rfl, s1319⟩⟩
end Go.Proofs.YtpnacdckamiedaaGreat
namespace Go.Proofs.YtpnacdckamiedaaGreat
open Go Go.RowKit Go.Pv Go.Proofs.Tryz
theorem KT {w : World} {v0 : Value} {a0 : List Ad} {a1 : UInt8} {r : Int} (hr0 : Rd Ag w [] v0 a0) (H : Gi a0 a1 = some r) :
  Calls prog 127 #[v0, .int .u8 (a1.toNat : Int)] w (AN fun u_ w_ => u_ = .int .i64 r ∧ SL w [] w_ []) := by
 have s0 : SL w [] w [] := SL.Bf w
 refine BV func127 ntmps127 11 rfl rfl rfl fun _ F22 => ?_
 unfold Gi at H
 refine B2 7 F22 H (fun hb23 H F24 => ?_) (fun hb23 H F24 => ?_)
 ·cases H
  refine gw 17 F24 rfl fun _ F27 => ?_
  exact rt F27 ⟨rfl, s0⟩
 ·refine gw 1 F24 rfl fun _ F28 => ?_
  refine Ax F28 rfl rfl ?_
  refine gx F28 (LW rfl rfl) 0 rfl rfl fun _ F30 => ?_
  refine Ax F30 rfl rfl ?_
  refine gx F30 (Jw rfl underlying64 underlying3) 1 rfl rfl fun _ F33 => ?_
  refine Ax F33 rfl rfl ?_
  refine gx F33 (Ao rfl underlying22 (fR hr0 s0)) 4 rfl rfl fun _ F36 => ?_
  refine AK F36 H 7 5 rfl rfl rfl (fun hb37 H _ F40 => ?_) (fun hb37 H _ F45 => ?_)
  ·cases H
   exact rt F40 ⟨rfl, s0⟩
  ·refine gx F45 (LW rfl rfl) 0 rfl rfl fun _ F46 => ?_
   cases H
   refine gx F46 (Jw rfl underlying64 underlying3) 4 rfl rfl fun _ F48 => ?_
   exact rt F48 ⟨rfl, s0⟩
end Go.Proofs.YtpnacdckamiedaaGreat
namespace Go.Proofs.YtpnacdckamiedaaGreat
open Go Go.RowKit Go.Pv Go.Proofs.Tryz
theorem NR {w : World} {v0 : Value} {a0 : List Ad} {a1 : UInt8} {r : Bool} (hr0 : Rd Ag w [] v0 a0) (H : G7 a0 a1 = some r) :
  Calls prog 126 #[v0, .int .u8 (a1.toNat : Int)] w (AN fun u_ w_ => u_ = .bool r ∧ SL w [] w_ []) := by
 have s0 : SL w [] w [] := SL.Bf w
 refine BV func126 ntmps126 10 rfl rfl rfl fun _ F30 => ?_
 unfold G7 at H
 refine B2 7 F30 H (fun hb31 H F32 => ?_) (fun hb31 H F32 => ?_)
 ·cases H
  refine gw 21 F32 rfl fun _ F33 => ?_
  exact rt F33 ⟨rfl, s0⟩
 ·refine gw 4 F32 rfl fun _ F34 => ?_
  refine B2 11 F34 H (fun hb35 H F36 => ?_) (fun hb35 H F36 => ?_)
  ·cases H
   refine gw 17 F36 rfl fun _ F37 => ?_
   exact rt F37 ⟨rfl, s0⟩
  ·refine gw 4 F36 rfl fun _ F38 => ?_
   refine B2 15 F38 H (fun hb39 H F40 => ?_) (fun hb39 H F40 => ?_)
   ·cases H
    refine gw 13 F40 rfl fun _ F41 => ?_
    exact rt F41 ⟨rfl, s0⟩
   ·refine gw 4 F40 rfl fun _ F42 => ?_
    refine B2 19 F42 H (fun hb43 H F44 => ?_) (fun hb43 H F44 => ?_)
    ·cases H
     refine gw 9 F44 rfl fun _ F45 => ?_
     exact rt F45 ⟨rfl, s0⟩
    ·obtain ⟨x46, hx47, H⟩ := bind_ok H
     refine gw 2 F44 rfl fun _ F48 => ?_
     refine Ax F48 rfl rfl ?_
     refine DW F48 s0 (KT   (hr0.Az s0) hx47) 6 rfl rfl rfl rfl fun w50 _ F56 s54 => ?_
     cases H
     exact rt F56 ⟨rfl, s54⟩
end Go.Proofs.YtpnacdckamiedaaGreat
namespace Go.Proofs.YtpnacdckamiedaaGreat
open Go Go.RowKit Go.Pv Go.Proofs.Tryz
theorem N9 {w : World} {v0 : Value} {a0 : List Ad} {a1 : Int} {r : Int} (hr0 : Rd Ag w [] v0 a0) (H : G5 a0 a1 = some r) :
  Calls prog 95 #[v0, .int .i64 a1] w (AN fun u_ w_ => u_ = .int .i64 r ∧ SL w [] w_ []) := by
 have s0 : SL w [] w [] := SL.Bf w
 refine BV func95 ntmps95 2 rfl rfl rfl fun _ F0 => ?_
 unfold G5 at H
 refine Bz F0 s0 rfl (AG (fR hr0 s0)) rfl fun g8 w9 q10 F11 s12 => ?_
 refine gw 5 F11 rfl fun _ F14 => ?_
 refine An F14 s12 RJ rfl rfl fun g21 w22 q23 F24 s25 => ?_
 obtain ⟨x140, hx141, H⟩ := bind_ok H
 obtain ⟨x151, hx152, H⟩ := bind_ok H
 refine gw 3 F24 rfl fun _ F24 => ?_
 refine IV DR s25.drop ?_
 obtain ⟨ad142, cs145, G146, hi143, hc144, hr147, hG148⟩ := Rd.idx hr0 BK rfl hx141
 obtain ⟨v149, rfl, hr150⟩ := (BC hr147 hG148)
 have hc144_ := hc144; clear hc144; have hc144 := fun w_ (hC : SL w [] w_ [Ae g8 22 [v0]]) => hc144_ _ _ hC
 refine hq [0, 1, 2, 3, 4, 5, 6] F24 s25.drew.drop (QI.ld m0 rfl <| QI.ld m0 rfl <| QI.ev 1 rfl <| QI.ix hi143 rfl <| QI.op rfl (fun _ hC => Di Ja rfl) rfl <| QI.op rfl (fun _ hC => Ar Gg rfl (Cells.at_ (hc144 _ hC) (o := 1) rfl)) rfl <| QI.op rfl (fun _ hC => HA (cs := [.tmp 2, .tmp 5]) (vs := [.pointer (some ⟨g8, 0, none⟩), .pointer (some ⟨g21, 0, none⟩)]) rfl) rfl <| QI.nil) (by kernel_rfl) fun _ F11000168 => ?_
 refine ho 7 rfl (by kernel_rfl) ?_
 have s10850176 := (SL.BF (T := Ty.str) s25.drew).f1.f2
 obtain ⟨G10850181, hst10850177, hF10850178, hG10850179, hcl10850180⟩ := SL.open_ (ps := [Ae g8 22 [v0], Ae g21 171 [.slice none 0 0], Sl Ty.str (.slice none 0 0) []]) (rest := []) s10850176
 refine AU F11000168 (Jc (a300 := a0) (a301 := []) hst10850177  (hr0.pass s10850176 hF10850178) (hr0.pass s10850176 hF10850178) hx152) fun v10850169 w10850170 _ hS10850173 F10850172 => ?_
 obtain ⟨v10850182, rfl, hq10850175⟩ := hS10850173
 have s10850174 := hcl10850180 _ _ hq10850175
 refine gw 1 F10850172 rfl fun _ F10850172 => ?_
 refine ⟨s10850174.f1.drop.f1.drop, ?_⟩
 refine Jn (by kernel_rfl) ?_
 obtain ⟨x5985, hx5986, H⟩ := bind_ok H
 obtain ⟨ad5987, cs5990, G5991, hi5988, hc5989, hr5992, hG5993⟩ := Rd.idx hr0 BK rfl hx5986
 refine ge 4 F10850172 rfl fun _ F10850172 => ?_
 obtain ⟨v5994, rfl, hr5995⟩ := (BC hr5992 hG5993)
 replace hc5989 := hc5989 _ _ s10850174
 refine AA F10850172 s10850174 m0 1 rfl fun _ F5997 => ?_
 refine gi F5997 hi5988 0 rfl fun _ F5998 => ?_
 refine gx F5998 (Di HT rfl) 0 rfl rfl fun _ F5999 => ?_
 refine gx F5999 (Ar IB rfl (Cells.at_ hc5989 (o := 2) rfl)) 0 rfl rfl fun _ F6000 => ?_
 obtain ⟨o9837, H9838, R9839⟩ := bind_ok H
 clear H
 refine gx F6000 (Ao rfl underlying107 (fR hr5995 s10850174)) 3 rfl rfl fun _ F6002 => ?_
 refine BB (fun a w_ => ∃ p9840 : (List (List UInt8)), o9837 = .inr (p9840) ∧ ∃ v9841 : Value, Fr a 51 [(5, .pointer (some ⟨g21, 0, none⟩))] ∧ SL w [] w_ [Ae g21 171 [v9841], Sl Ty.str v9841 p9840]) ?_ ?_
 ·have H := H9838
  refine gc 1 F6002 rfl fun _ F6002 => ?_
  refine Dk (CS a0 x5985) (fun s9843 a w_ => ∃ v10800 : Value, Fr a 51 [(2, .pointer (some ⟨g8, 0, none⟩)), (5, .pointer (some ⟨g21, 0, none⟩)), (20, v5994), (21, .int .i64 (x5985.Fields.length : Int)), (22, .int .i64 s9843.2)] ∧ SL w [] w_ [Ae g8 22 [v0], Ae g21 171 [v10800], Sl Ty.str v10800 s9843.1]) H ?_ ?_
  ·exact ⟨v10850182, F6002.sb, s10850174⟩
  ·intro s9843 q11282 w11283 hI11284 o11281 H hr
   obtain ⟨v10800, F11279, s11280⟩ := hI11284
   replace H : CS a0 x5985 s9843 = some o11281 := H
   unfold CS at H
   refine gc 6 F11279 rfl fun _ F11286 => ?_
   refine AK F11286 H 6 4 rfl rfl rfl (fun hb11289 H _ F11290 => ?_) (fun hb11289 H _ F11290 => ?_)
   ·obtain ⟨x11543, hx11544, H⟩ := bind_ok H
    obtain ⟨ad11545, hi11546, hc11547⟩ := GG Cv (CU hr5995 s11280) Fe rfl hx11544
    refine gi F11290 hi11546 0 rfl fun _ F11548 => ?_
    refine gx F11548 (Be L1 rfl hc11547 rfl) 0 rfl rfl fun _ F11549 => ?_
    refine An F11549 s11280 K6 rfl rfl fun g11550 w11551 q11552 F11553 s11554 => ?_
    refine AH F11553 s11554 rfl rfl M1 (Af rfl (Af rfl AM)) (Nat.le_of_ble_eq_true rfl) fun w11556 q11557 F11558 s11559 => ?_
    obtain ⟨x11661, hx11662, H⟩ := bind_ok H
    refine gw 7 F11558 rfl fun _ F11663 => ?_
    refine AA F11663 s11559 m0 0 rfl fun _ F11664 => ?_
    refine DW F11664 s11559 (IL    hx11662) 4 rfl rfl rfl rfl fun w11666 _ F11672 s11670 => ?_
    refine AK F11672 H 14 2 rfl rfl rfl (fun hb11673 H _ F11676 => ?_) (fun hb11673 H _ F11674 => ?_)
    ·cases H
     obtain rfl := hr _ rfl
     replace H := R9839
     try dsimp only at H
     cases H
     exact rt F11676 ⟨rfl, s11670.drop.drop.drop.drop⟩
    ·obtain ⟨x11690, hx11691, H⟩ := bind_ok H
     refine AA F11674 s11670 m2 1 rfl fun _ F11693 => ?_
     refine AA F11693 s11670 m0 0 rfl fun _ F11694 => ?_
     refine DW F11694 s11670 (EI   (s11670.rd0 m3) hx11691) 3 rfl rfl rfl rfl fun w11696 _ F11702 s11700 => ?_
     refine AK F11702 H 14 2 rfl rfl rfl (fun hb11703 H _ F11706 => ?_) (fun hb11703 H _ F11704 => ?_)
     ·cases H
      obtain rfl := hr _ rfl
      replace H := R9839
      try dsimp only at H
      cases H
      exact rt F11706 ⟨rfl, s11700.drop.drop.drop.drop⟩
     ·obtain ⟨x11720, hx11721, H⟩ := bind_ok H
      refine AA F11704 s11700 m1 1 rfl fun _ F11723 => ?_
      refine AA F11723 s11700 m0 0 rfl fun _ F11724 => ?_
      refine DW F11724 s11700 (NR   (hr0.Az s11700) hx11721) 4 rfl rfl rfl rfl fun w11726 _ F11732 s11730 => ?_
      refine AK F11732 H 14 4 rfl rfl rfl (fun hb11733 H _ F11736 => ?_) (fun hb11733 H _ F11734 => ?_)
      ·cases H
       obtain rfl := hr _ rfl
       replace H := R9839
       try dsimp only at H
       cases H
       exact rt F11736 ⟨rfl, s11730.drop.drop.drop.drop⟩
      ·refine AA F11734 s11730 m2 1 rfl fun _ F11738 => ?_
       refine AA F11738 s11730 m0 0 rfl fun _ F11739 => ?_
       refine EU (parts := [(0, .tmp 44)]) Flat.str ([x11543.Name] : List (List UInt8)) F11739 s11730 Ix rfl (by decide) rfl rfl rfl (by simp [Value.cells]) rfl rfl rfl fun v11740 w11741 q11742 F11743 s11744 => ?_
       obtain ⟨x11746, hx11747, H⟩ := bind_ok H
       obtain ⟨_, hr_⟩ := (s11744.f4.Bm m1)
       refine Ba Flat.str F11743 s11744.f4 Ix rfl rfl rfl rfl hr_ rfl rfl hx11747 rfl fun v11748 w11749 q11750 F11751 s11752 => ?_
       have s11752' := s11752.f1.drop
       have s11758 := s11752'.f3
       refine AZ F11751 s11758 rfl rfl OU (AG (fO s11758 m1)) (Aj (fO s11758 m1)) rfl fun w11754 q11755 F11756 s11757 => ?_
       cases H
       refine gw 7 F11756 rfl fun _ F11759 => ?_
       exact ⟨_, rfl, v11748, F11759.sb, s11757.f2.drop.f1.f1.f2⟩
   ·cases H
    obtain rfl := hr _ rfl
    exact ⟨_, rfl, v10800, F11290.sb, s11280.drop⟩
 ·intro q11762 w11763 hJ
  obtain ⟨p9840, rfl, v9841, F11760, s11761⟩ := hJ
  have H := R9839
  clear R9839 H9838
  try dsimp only at H
  refine ge 4 F11760 rfl fun _ F11760 => ?_
  refine AA F11760 s11761 m0 0 rfl fun _ F11777 => ?_
  refine gx F11777 (Ao rfl underlying171 (fO s11761 m1)) 3 rfl rfl fun _ F11779 => ?_
  refine AK F11779 H 7 8 rfl rfl rfl (fun hb11780 H _ F11783 => ?_) (fun hb11780 H _ F11785 => ?_)
  ·cases H
   exact rt F11783 ⟨rfl, s11761.drop.drop⟩
  ·cases H
   exact rt F11785 ⟨rfl, s11761.drop.drop⟩
end Go.Proofs.YtpnacdckamiedaaGreat
namespace Go.Proofs.YtpnacdckamiedaaGreat
open Go Go.RowKit Go.Pv Go.Proofs.Tryz
theorem KO {w : World} {v0 : Value} {a0 : List Ad} {r : Int × Int} (hr0 : Rd Ag w [] v0 a0) (H : Gc a0 = some r) :
  Calls prog 59 #[v0] w (AN fun u_ w_ => u_ = .tuple ⟨[.int .i64 r.1, .int .i64 r.2]⟩ ∧ SL w [] w_ []) := by
 have s0 : SL w [] w [] := SL.Bf w
 refine BV func59 ntmps59 10 rfl rfl rfl fun _ F13656 => ?_
 unfold Gc at H
 obtain ⟨o22749, H22750, R22751⟩ := bind_ok H
 clear H
 refine gx F13656 (Ao rfl underlying22 (fR hr0 s0)) 3 rfl rfl fun _ F13658 => ?_
 refine BB (fun a w_ => ∃ p22752 : Unit, o22749 = .inr (p22752) ∧ Fr a 52 [] ∧ SL w [] w_ []) ?_ ?_
 ·have H := H22750
  refine gc 1 F13658 rfl fun _ F13658 => ?_
  refine Dk (Dx a0) (fun s22753 a w_ => Fr a 52 [(0, v0), (7, v0), (8, .int .i64 (a0.length : Int)), (9, .int .i64 s22753)] ∧ SL w [] w_ []) H ?_ ?_
  ·exact ⟨F13658.sb, s0⟩
  ·intro s22753 q26162 w26163 hI26164 o26161 H hr
   obtain ⟨F26159, s26160⟩ := hI26164
   replace H : Dx a0 s22753 = some o26161 := H
   unfold Dx at H
   refine gc 6 F26159 rfl fun _ F26166 => ?_
   refine AK F26166 H 6 4 rfl rfl rfl (fun hb26169 H _ F26170 => ?_) (fun hb26169 H _ F26170 => ?_)
   ·obtain ⟨x26760, hx26761, H⟩ := bind_ok H
    obtain ⟨ad26762, cs26765, G26766, hi26763, hc26764, hr26767, hG26768⟩ := Rd.idx hr0 BK rfl hx26761
    obtain ⟨v26769, rfl, hr26770⟩ := (BC hr26767 hG26768)
    replace hc26764 := hc26764 _ _ s26160
    refine gw 1 F26170 rfl fun _ F26771 => ?_
    refine gi F26771 hi26763 0 rfl fun _ F26772 => ?_
    refine gx F26772 (Be Gy rfl hc26764 rfl) 0 rfl rfl fun _ F26773 => ?_
    refine An F26773 s26160 GM rfl rfl fun g26774 w26775 q26776 F26777 s26778 => ?_
    refine gw 1 F26777 rfl fun _ F26780 => ?_
    refine AH F26780 s26778 rfl rfl Iv (Af rfl (Af rfl (Af (Aj (fR hr26770 s26778)) AM))) (Nat.le_of_ble_eq_true rfl) fun w26781 q26782 F26783 s26784 => ?_
    obtain ⟨o27160, H27161, R27162⟩ := bind_ok H
    clear H
    refine gw 8 F26783 rfl fun _ F26787 => ?_
    refine BB (fun a w_ => Fr a 52 [(0, v0), (4, .int .i64 s22753), (6, .int .i64 o27160), (7, v0), (8, .int .i64 (a0.length : Int)), (9, .int .i64 s22753)] ∧ SL w [] w_ []) ?_ ?_
    ·have H := H27161
     refine gc 8 F26787 rfl fun _ F27164 => ?_
     refine AK F27164 H 4 1 rfl rfl rfl (fun hb27165 H _ F27167 => ?_) (fun hb27165 H _ F27166 => ?_)
     ·cases H
      exact ⟨F27167.sb, s26784.drop⟩
     ·obtain ⟨x27178, hx27179, H⟩ := bind_ok H
      refine bool_split (!x27178) (fun hgs192 => ?_) (fun hgs192 => ?_)
      ·replace H := OE hgs192 H
       refine IV DR s26784 ?_
       refine hq [0, 1] F27166 s26784.drew (QI.ev 1 rfl <| QI.ld m0 rfl <| QI.nil) (by kernel_rfl) fun _ F11327187 => ?_
       refine ho 2 rfl (by kernel_rfl) ?_
       refine DW F11327187 s26784.drew (IL    hx27179) 1 rfl rfl rfl rfl fun w10377189 _ F10377191 s10377193 => ?_
       refine ⟨s10377193, ?_⟩
       refine hq [3, 4, 5, 6, 7, 8, 9, 10] F10377191 s10377193 (QI.ev 2 rfl <| QI.kn (dj := 25) rfl hgs192 <| QI.ev 6 rfl <| QI.nil) (by kernel_rfl) fun _ F11527187 => ?_
       refine Jn (by kernel_rfl) ?_
       cases H
       refine ge 6 F11527187 rfl fun _ F27188 => ?_
       exact ⟨F27188.sb, s10377193.drop⟩
      ·replace H := OG hgs192 H
       obtain ⟨x27187, hx27188, H⟩ := bind_ok H
       obtain ⟨x27198, hx27199, H⟩ := bind_ok H
       refine IV DR s26784 ?_
       refine hq [0, 1] F27166 s26784.drew (QI.ev 1 rfl <| QI.ld m0 rfl <| QI.nil) (by kernel_rfl) fun _ F11327207 => ?_
       refine ho 2 rfl (by kernel_rfl) ?_
       refine DW F11327207 s26784.drew (IL    hx27179) 1 rfl rfl rfl rfl fun w10377209 _ F10377211 s10377213 => ?_
       refine ⟨s10377213, ?_⟩
       refine hq [3, 4, 6, 7] F10377211 s10377213 (QI.ev 2 rfl <| QI.kn (dj := 25) rfl hgs192 <| QI.ev 1 rfl <| QI.gop rfl (fun _ hC => Ar Kg rfl (hC.Aq m0 rfl)) rfl rfl rfl rfl rfl <| QI.nil) (by kernel_rfl) fun _ F11529207 => ?_
       refine ho 5 rfl (by kernel_rfl) ?_
       refine Ax F11529207 rfl rfl ?_
       refine AU F11529207 (OC     hx27188) fun v10677208 w10677209 _ hS10677212 F10677211 => ?_
       obtain ⟨_, rfl, hq10677214⟩ := hS10677212
       have s10677213 := s10377213.add hq10677214
       refine gw 1 F10677211 rfl fun _ F10677211 => ?_
       refine ⟨s10677213.drop, ?_⟩
       refine ho 8 rfl (by kernel_rfl) ?_
       refine Ax F10677211 rfl rfl ?_
       refine DW F10677211 s10677213 (EI   (s10677213.rd0 m0) hx27199) 1 rfl rfl rfl rfl fun w10977209 _ F10977211 s10977213 => ?_
       refine ⟨s10977213.drop, ?_⟩
       refine hq [9, 10] F10977211 s10977213.drop (QI.ev 2 rfl <| QI.nil) (by kernel_rfl) fun _ F11527207 => ?_
       refine Jn (by kernel_rfl) ?_
       refine ge 1 F11527207 rfl fun _ F11527207 => ?_
       refine AK F11527207 H 4 4 rfl rfl rfl (fun hb27208 H _ F27210 => ?_) (fun hb27208 H _ F27242 => ?_)
       ·cases H
        exact ⟨F27210.sb, s10977213.drop.drop⟩
       ·obtain ⟨x27235, hx27236, H⟩ := bind_ok H
        obtain ⟨v27237, hsc27238, hv27239⟩ := Rd.cut hr0 BK rfl hx27236 none (some s22753) (.inr ⟨rfl, rfl⟩) (.inl rfl)
        obtain ⟨x27240, hx27241, H⟩ := bind_ok H
        refine gx F27242 (hsc27238 _ _ _ _ _ .i64 .i64 _ _ _ _ _ rfl trivial rfl) 0 rfl rfl fun _ F27243 => ?_
        refine gx F27243 (HA (cs := [.tmp 5]) (vs := [.pointer (some ⟨g26774, 0, none⟩)]) rfl) 0 rfl rfl fun _ F27244 => ?_
        obtain ⟨G27257, hst27253, hF27254, hG27255, hcl27256⟩ := SL.open_ (ps := [Ae g26774 109 [.string ⟨⟨x26760.Name⟩⟩, .int .i64 x26760.Al, v26769]]) (rest := [Sl Ty.str v10677208 x27187]) s10977213.f1
        refine AU F27244 (Ej (a200 := (⟨x26760.Name, x26760.Al, x26760.Fields⟩ : Ad)) hst27253  (hv27239.pass s10977213.f1 hF27254) (hr26770.pass s10977213.f1 hF27254) hx27241) fun v27245 w27246 _ hS27249 F27248 => ?_
        obtain ⟨rfl, hq27251⟩ := hS27249
        have s27250 := hcl27256 _ _ hq27251
        refine gw 3 F27248 rfl fun _ F27258 => ?_
        refine AK F27258 H 4 3 rfl rfl rfl (fun hb27259 H _ F27261 => ?_) (fun hb27259 H _ F27262 => ?_)
        ·cases H
         exact ⟨F27261.sb, s27250.drop.drop⟩
        ·refine AA F27262 s27250 m0 2 rfl fun _ F27264 => ?_
         refine B2 41 F27264 H (fun hb27265 H F27266 => ?_) (fun hb27265 H F27266 => ?_)
         ·cases H
          refine gw 13 F27266 rfl fun _ F27268 => ?_
          exact ⟨F27268.sb, s27250.drop.drop⟩
         ·refine gw 1 F27266 rfl fun _ F27269 => ?_
          refine Ax F27269 rfl rfl ?_
          refine AA F27269 s27250 m0 6 rfl fun _ F27272 => ?_
          refine AK F27272 H 4 3 rfl rfl rfl (fun hb27273 H _ F27275 => ?_) (fun hb27273 H _ F27278 => ?_)
          ·cases H
           exact ⟨F27275.sb, s27250.drop.drop⟩
          ·obtain ⟨x27276, hx27277, H⟩ := bind_ok H
           refine DW F27278 s27250 (N9   (hr0.Az s27250) hx27277) 3 rfl rfl rfl rfl fun w27280 _ F27286 s27284 => ?_
           cases H
           exact ⟨F27286.sb, s27284.drop.drop⟩
    ·intro q27289 w27290 hJ
     obtain ⟨F27287, s27288⟩ := hJ
     have H := R27162
     clear R27162 H27161
     refine ge 7 F27287 rfl fun _ F27292 => ?_
     refine AK F27292 H 15 7 rfl rfl rfl (fun hb27293 H _ F27296 => ?_) (fun hb27293 H _ F27297 => ?_)
     ·cases H
      obtain rfl := hr _ rfl
      replace H := R22751
      try dsimp only at H
      cases H
      exact rt F27296 ⟨rfl, s27288⟩
     ·cases H
      exact ⟨_, rfl, F27297.sb, s27288⟩
   ·cases H
    obtain rfl := hr _ rfl
    exact ⟨_, rfl, F26170.sb, s26160⟩
 ·intro q27300 w27301 hJ
  obtain ⟨p22752, rfl, F27298, s27299⟩ := hJ
  have H := R22751
  clear R22751 H22750
  try dsimp only at H
  cases H
  refine ge 8 F27298 rfl fun _ F27303 => ?_
  exact rt F27303 ⟨rfl, s27299⟩
end Go.Proofs.YtpnacdckamiedaaGreat
namespace Go.Proofs.YtpnacdckamiedaaGreat
open Go Go.RowKit Go.Pv Go.Proofs.Tryz
theorem KJ {w : World} {v0 : Value} {a0 : List Ad} {a1 : UInt8} {r : Bool} (hr0 : Rd Ag w [] v0 a0) (H : Gl a0 a1 = some r) :
  Calls prog 96 #[v0, .int .u8 (a1.toNat : Int)] w (AN fun u_ w_ => u_ = .bool r ∧ SL w [] w_ []) := by
 have s0 : SL w [] w [] := SL.Bf w
 refine BV func96 ntmps96 10 rfl rfl rfl fun _ F18 => ?_
 unfold Gl at H
 refine B2 7 F18 H (fun hb19 H F20 => ?_) (fun hb19 H F20 => ?_)
 ·cases H
  refine gw 9 F20 rfl fun _ F21 => ?_
  exact rt F21 ⟨rfl, s0⟩
 ·obtain ⟨x22, hx23, H⟩ := bind_ok H
  refine gw 2 F20 rfl fun _ F24 => ?_
  refine Ax F24 rfl rfl ?_
  refine DW F24 s0 (KT   (hr0.Az s0) hx23) 6 rfl rfl rfl rfl fun w26 _ F32 s30 => ?_
  cases H
  exact rt F32 ⟨rfl, s30⟩
end Go.Proofs.YtpnacdckamiedaaGreat
namespace Go.Proofs.YtpnacdckamiedaaGreat
open Go Go.RowKit Go.Pv Go.Proofs.Tryz
theorem NW {w : World} {v0 : Value} {a0 : List Ad} {a1 : UInt8} {r : Bool} (hr0 : Rd Ag w [] v0 a0) (H : Gx a0 a1 = some r) :
  Calls prog 61 #[v0, .int .u8 (a1.toNat : Int)] w (AN fun u_ w_ => u_ = .bool r ∧ SL w [] w_ []) := by
 have s0 : SL w [] w [] := SL.Bf w
 refine BV func61 ntmps61 9 rfl rfl rfl fun _ F24 => ?_
 unfold Gx at H
 obtain ⟨x22, hx23, H⟩ := bind_ok H
 refine DW F24 s0 (KJ   (hr0.Az s0) hx23) 1 rfl rfl rfl rfl fun w26 _ F32 s30 => ?_
 refine B2 8 F32 H (fun hb33 H F34 => ?_) (fun hb33 H F34 => ?_)
 ·refine gw 4 F34 rfl fun _ F35 => ?_
  refine B2 12 F35 H (fun hb36 H F37 => ?_) (fun hb36 H F37 => ?_)
  ·cases H
   refine gw 7 F37 rfl fun _ F38 => ?_
   exact rt F38 ⟨rfl, s30⟩
  ·cases H
   refine gw 7 F37 rfl fun _ F39 => ?_
   exact rt F39 ⟨rfl, s30⟩
 ·cases H
  refine gw 11 F34 rfl fun _ F40 => ?_
  exact rt F40 ⟨rfl, s30⟩
end Go.Proofs.YtpnacdckamiedaaGreat
namespace Go.Proofs.YtpnacdckamiedaaGreat
open Go Go.RowKit Go.Pv Go.Proofs.Tryz
theorem JE {w : World} {FF : List Nat} {g1 : Nat} {v1_0 v1_1 : Value} {a0 : UInt8} {a1 : AD} {r : Bool} (hst : Aw [Ae g1 80 [v1_0, v1_1, .int .i64 a1.Fn]] w FF) (hr1_0 : Rd Ag w FF v1_0 a1.Classes) (hr1_1 : Rd Bv w FF v1_1 a1.AO) (H : EK a0 a1 = some r) :
  Calls prog 60 #[.int .u8 (a0.toNat : Int), .pointer (some ⟨g1, 0, none⟩)] w (AN fun u_ w_ => u_ = .bool r ∧ SL w FF w_ [Ae g1 80 [v1_0, v1_1, .int .i64 a1.Fn]]) := by
 have s0 : SL w FF w [Ae g1 80 [v1_0, v1_1, .int .i64 a1.Fn]] := SL.init w FF hst
 refine BV func60 ntmps60 8 rfl rfl rfl fun _ F18 => ?_
 unfold EK at H
 obtain ⟨x16, hx17, H⟩ := bind_ok H
 refine AA F18 s0 m0 1 rfl fun _ F20 => ?_
 refine DW F20 s0 (NW   (hr1_0.Az s0) hx17) 5 rfl rfl rfl rfl fun w22 _ F28 s26 => ?_
 cases H
 exact rt F28 ⟨rfl, s26⟩
end Go.Proofs.YtpnacdckamiedaaGreat
namespace Go.Proofs.YtpnacdckamiedaaGreat
open Go Go.RowKit Go.Pv Go.Proofs.Tryz
theorem EW {w : World} {FF : List Nat} {g200 : Nat} {v0 v200_0 v200_1 : Value} {a0 : List UInt8} {a200 : AD} {r : Int} (hst : Aw [Ae g200 80 [v200_0, v200_1, .int .i64 a200.Fn]] w FF) (hr0 : Rd Ty.u8 w FF v0 a0) (hr200_0 : Rd Ag w FF v200_0 a200.Classes) (hr200_1 : Rd Bv w FF v200_1 a200.AO) (H : B6 a0 a200 = some r) :
  Calls prog 97 #[v0, J2 60 [.pointer (some ⟨g200, 0, none⟩)]] w (AN fun u_ w_ => u_ = .int .i64 r ∧ SL w FF w_ [Ae g200 80 [v200_0, v200_1, .int .i64 a200.Fn]]) := by
 have s0 : SL w FF w [Ae g200 80 [v200_0, v200_1, .int .i64 a200.Fn]] := SL.init w FF hst
 refine BV func97 ntmps97 9 rfl rfl rfl fun _ F1392 => ?_
 unfold B6 at H
 obtain ⟨o2309, H2310, R2311⟩ := bind_ok H
 clear H
 refine gx F1392 (Ao rfl underlying63 (fR hr0 s0)) 3 rfl rfl fun _ F1394 => ?_
 refine BB (fun a w_ => ∃ p2312 : Unit, o2309 = .inr (p2312) ∧ Fr a 19 [] ∧ SL w FF w_ [Ae g200 80 [v200_0, v200_1, .int .i64 a200.Fn]]) ?_ ?_
 ·have H := H2310
  refine gc 1 F1394 rfl fun _ F1394 => ?_
  refine Dk (AL a0 a200) (fun s2313 a w_ => Fr a 19 [(0, v0), (1, J2 60 [.pointer (some ⟨g200, 0, none⟩)]), (7, .int .i64 (a0.length : Int)), (8, .int .i64 s2313)] ∧ SL w FF w_ [Ae g200 80 [v200_0, v200_1, .int .i64 a200.Fn]]) H ?_ ?_
  ·exact ⟨F1394.sb, s0⟩
  ·intro s2313 q2656 w2657 hI2658 o2655 H hr
   obtain ⟨F2653, s2654⟩ := hI2658
   replace H : AL a0 a200 s2313 = some o2655 := H
   unfold AL at H
   refine gc 6 F2653 rfl fun _ F2660 => ?_
   refine AK F2660 H 15 4 rfl rfl rfl (fun hb2663 H _ F2749 => ?_) (fun hb2663 H _ F2664 => ?_)
   ·obtain ⟨x2742, hx2743, H⟩ := bind_ok H
    obtain ⟨ad2744, hi2745, hc2746⟩ := GG Flat.u8 (CU hr0 s2654) HG rfl hx2743
    obtain ⟨x2747, hx2748, H⟩ := bind_ok H
    refine gi F2749 hi2745 0 rfl fun _ F2750 => ?_
    refine gx F2750 (Ar Jq rfl (Cells.at_ hc2746 (o := 0) rfl)) 0 rfl rfl fun _ F2751 => ?_
    obtain ⟨G2764, hst2760, hF2761, hG2762, hcl2763⟩ := SL.open_ (ps := [Ae g200 80 [v200_0, v200_1, .int .i64 a200.Fn]]) (rest := []) s2654
    refine Hw (args := [.tmp 15]) F2751 QT rfl rfl (JE (a0 := x2742) (a1 := (⟨a200.Classes, a200.AO, a200.Fn⟩ : AD)) hst2760  (hr200_0.pass s2654 hF2761) (hr200_1.pass s2654 hF2761) hx2748) rfl fun v2752 w2753 q2754 hS2756 F2755 => ?_
    obtain ⟨rfl, hq2758⟩ := hS2756
    have s2757 := hcl2763 _ _ hq2758
    refine gw 2 F2755 rfl fun _ F2755 => ?_
    refine AK F2755 H 13 7 rfl rfl rfl (fun hb2765 H _ F2768 => ?_) (fun hb2765 H _ F2769 => ?_)
    ·cases H
     obtain rfl := hr _ rfl
     replace H := R2311
     try dsimp only at H
     cases H
     exact rt F2768 ⟨rfl, s2757⟩
    ·cases H
     exact ⟨_, rfl, F2769.sb, s2757⟩
   ·cases H
    obtain rfl := hr _ rfl
    exact ⟨_, rfl, F2664.sb, s2654⟩
 ·intro q2772 w2773 hJ
  obtain ⟨p2312, rfl, F2770, s2771⟩ := hJ
  have H := R2311
  clear R2311 H2310
  try dsimp only at H
  cases H
  refine ge 7 F2770 rfl fun _ F2775 => ?_
  exact rt F2775 ⟨rfl, s2771⟩
end Go.Proofs.YtpnacdckamiedaaGreat
namespace Go.Proofs.YtpnacdckamiedaaGreat
open Go Go.RowKit Go.Pv Go.Proofs.Tryz
theorem E7 {w : World} {FF : List Nat} {g200 : Nat} {v0 v200_0 v200_1 : Value} {a0 : List UInt8} {a200 : AD} {r : Bool} (hst : Aw [Ae g200 80 [v200_0, v200_1, .int .i64 a200.Fn]] w FF) (hr0 : Rd Ty.u8 w FF v0 a0) (hr200_0 : Rd Ag w FF v200_0 a200.Classes) (hr200_1 : Rd Bv w FF v200_1 a200.AO) (H : Bd a0 a200 = some r) :
  Calls prog 62 #[v0, J2 60 [.pointer (some ⟨g200, 0, none⟩)]] w (AN fun u_ w_ => u_ = .bool r ∧ SL w FF w_ [Ae g200 80 [v200_0, v200_1, .int .i64 a200.Fn]]) := by
 have s0 : SL w FF w [Ae g200 80 [v200_0, v200_1, .int .i64 a200.Fn]] := SL.init w FF hst
 refine BV func62 ntmps62 9 rfl rfl rfl fun _ F22 => ?_
 unfold Bd at H
 obtain ⟨x20, hx21, H⟩ := bind_ok H
 obtain ⟨G35, hst31, hF32, hG33, hcl34⟩ := SL.open_ (ps := [Ae g200 80 [v200_0, v200_1, .int .i64 a200.Fn]]) (rest := []) s0
 refine AU F22 (EW (a200 := (⟨a200.Classes, a200.AO, a200.Fn⟩ : AD)) hst31  (hr0.pass s0 hF32) (hr200_0.pass s0 hF32) (hr200_1.pass s0 hF32) hx21) fun v23 w24 _ hS27 F26 => ?_
 obtain ⟨rfl, hq29⟩ := hS27
 have s28 := hcl34 _ _ hq29
 cases H
 refine gw 5 F26 rfl fun _ F36 => ?_
 exact rt F36 ⟨rfl, s28⟩
end Go.Proofs.YtpnacdckamiedaaGreat
namespace Go.Proofs.YtpnacdckamiedaaGreat
open Go Go.RowKit Go.Pv Go.Proofs.Tryz
theorem NF {w : World} {a0 : Int} {r : BM × Int}  (H : HQ a0 = some r) :
  Calls prog 98 #[.int .i64 a0] w (AN fun u_ w_ => u_ = .tuple ⟨[.agg ⟨(.int .i64 r.1.Ak :: .int .i64 r.1.Height :: Cp r.1.KI)⟩, .int .i64 r.2]⟩ ∧ SL w [] w_ []) := by
 have s0 : SL w [] w [] := SL.Bf w
 refine BV func98 ntmps98 2 rfl rfl rfl fun _ F0 => ?_
 unfold HQ at H
 refine An F0 s0 C3 rfl rfl fun g8 w9 q10 F11 s12 => ?_
 refine gw 9 F11 rfl fun _ F50 => ?_
 refine B2 6 F50 H (fun hb51 H F52 => ?_) (fun hb51 H F52 => ?_)
 ·refine gw 8 F52 rfl fun _ F53 => ?_
  refine gx F53 (AP (vs := []) C3 FV rfl (cs := (.int .i64 0 :: .int .i64 0 :: Cp (Vector.replicate 24 (0 : UInt8)))) (CQ)) 0 rfl rfl fun _ F61 => ?_
  refine A9 (ds := (.int .i64 0 :: .int .i64 0 :: Cp (Vector.replicate 24 (0 : UInt8)))) F61 s12 rfl rfl (by simpa using DV) (Af rfl (Af rfl (E4 _))) (by simp) fun w62 q63 F64 s65 => ?_
  cases H
  refine gw 5 F64 rfl fun _ F67 => ?_
  refine B5 (rs := [.cell 2 147, .tmp 3]) (vs := [.agg ⟨(.int .i64 0 :: .int .i64 0 :: Cp (Vector.replicate 24 (0 : UInt8)))⟩, .int .i64 1]) F67 (by rfl) ⟨_, _, rfl, RV.blk s65 m0 rfl Ey (by simp), _, _, rfl, RV.tmp rfl, rfl⟩ ⟨_, rfl, ⟨rfl, s65.drop⟩⟩
 ·refine gw 5 F52 rfl fun _ F68 => ?_
  refine AK F68 H 2 5 rfl rfl rfl (fun hb69 H _ F70 => ?_) (fun hb69 H _ F93 => ?_)
  ·refine gx F70 (AP (vs := []) C3 FV rfl (cs := (.int .i64 0 :: .int .i64 0 :: Cp (Vector.replicate 24 (0 : UInt8)))) (CQ)) 0 rfl rfl fun _ F78 => ?_
   refine A9 (ds := (.int .i64 0 :: .int .i64 0 :: Cp (Vector.replicate 24 (0 : UInt8)))) F78 s12 rfl rfl (by simpa using DV) (Af rfl (Af rfl (E4 _))) (by simp) fun w79 q80 F81 s82 => ?_
   cases H
   refine gw 5 F81 rfl fun _ F84 => ?_
   refine B5 (rs := [.cell 2 147, .tmp 3]) (vs := [.agg ⟨(.int .i64 0 :: .int .i64 0 :: Cp (Vector.replicate 24 (0 : UInt8)))⟩, .int .i64 1]) F84 (by rfl) ⟨_, _, rfl, RV.blk s82 m0 rfl Ey (by simp), _, _, rfl, RV.tmp rfl, rfl⟩ ⟨_, rfl, ⟨rfl, s82.drop⟩⟩
  ·refine gx F93 (AP (vs := [.int .i64 a0]) C3 FV rfl (cs := (.int .i64 a0 :: .int .i64 0 :: Cp (Vector.replicate 24 (0 : UInt8)))) (Dc rfl rfl (by simp) <| CQ)) 0 rfl rfl fun _ F94 => ?_
   refine A9 (ds := (.int .i64 a0 :: .int .i64 0 :: Cp (Vector.replicate 24 (0 : UInt8)))) F94 s12 rfl rfl (by simpa using DV) (Af rfl (Af rfl (E4 _))) (by simp) fun w95 q96 F97 s98 => ?_
   cases H
   refine gw 4 F97 rfl fun _ F100 => ?_
   refine B5 (rs := [.cell 2 147, .tmp 3]) (vs := [.agg ⟨(.int .i64 a0 :: .int .i64 0 :: Cp (Vector.replicate 24 (0 : UInt8)))⟩, .int .i64 0]) F100 (by rfl) ⟨_, _, rfl, RV.blk s98 m0 rfl Ey (by simp), _, _, rfl, RV.tmp rfl, rfl⟩ ⟨_, rfl, ⟨rfl, s98.drop⟩⟩
end Go.Proofs.YtpnacdckamiedaaGreat
namespace Go.Proofs.YtpnacdckamiedaaGreat
open Go Go.RowKit Go.Pv Go.Proofs.Tryz
theorem JR {w : World} {v0 v1 : Value} {a0 : List Ad} {a1 : List UInt8} {a2 : Int} {r : BM × Int} (hr0 : Rd Ag w [] v0 a0) (hr1 : Rd Ty.u8 w [] v1 a1) (H : GF a0 a1 a2 = some r) :
  Calls prog 63 #[v0, v1, .int .i64 a2] w (AN fun u_ w_ => u_ = .tuple ⟨[.agg ⟨(.int .i64 r.1.Ak :: .int .i64 r.1.Height :: Cp r.1.KI)⟩, .int .i64 r.2]⟩ ∧ SL w [] w_ []) := by
 have s0 : SL w [] w [] := SL.Bf w
 refine BV func63 ntmps63 2 rfl rfl rfl fun _ F0 => ?_
 unfold GF at H
 refine An F0 s0 C3 rfl rfl fun g8 w9 q10 F11 s12 => ?_
 obtain ⟨x38, hx39, H⟩ := bind_ok H
 refine gw 6 F11 rfl fun _ F40 => ?_
 refine DW F40 s12 (NF    hx39) 3 rfl rfl rfl rfl fun w42 _ F48 s46 => ?_
 refine An F48 s46 C3 rfl rfl fun g49 w50 q51 F52 s53 => ?_
 refine A9 (ds := (.int .i64 x38.1.Ak :: .int .i64 x38.1.Height :: Cp x38.1.KI)) F52 s53 rfl rfl (by simpa using DV) (Af rfl (Af rfl (E4 _))) (by simp) fun w55 q56 F57 s58 => ?_
 refine gw 9 F57 rfl fun _ F120 => ?_
 refine B2 19 F120 H (fun hb121 H F122 => ?_) (fun hb121 H F122 => ?_)
 ·refine gw 15 F122 rfl fun _ F123 => ?_
  refine gx F123 (AP (vs := []) C3 FV rfl (cs := (.int .i64 0 :: .int .i64 0 :: Cp (Vector.replicate 24 (0 : UInt8)))) (CQ)) 0 rfl rfl fun _ F131 => ?_
  refine A9 (ds := (.int .i64 0 :: .int .i64 0 :: Cp (Vector.replicate 24 (0 : UInt8)))) F131 s58.f1 rfl rfl (by simpa using DV) (Af rfl (Af rfl (E4 _))) (by simp) fun w132 q133 F134 s135 => ?_
  cases H
  refine gw 5 F134 rfl fun _ F137 => ?_
  refine B5 (rs := [.cell 6 147, .tmp 7]) (vs := [.agg ⟨(.int .i64 0 :: .int .i64 0 :: Cp (Vector.replicate 24 (0 : UInt8)))⟩, .int .i64 1]) F137 (by rfl) ⟨_, _, rfl, RV.blk s135 m0 rfl Ey (by simp), _, _, rfl, RV.tmp rfl, rfl⟩ ⟨_, rfl, ⟨rfl, s135.drop.drop⟩⟩
 ·refine gw 1 F122 rfl fun _ F138 => ?_
  refine Ax F138 rfl rfl ?_
  refine gx F138 (Ao rfl underlying63 (fR hr1 s58)) 3 rfl rfl fun _ F141 => ?_
  refine B2 24 F141 H (fun hb142 H F143 => ?_) (fun hb142 H F143 => ?_)
  ·refine gw 10 F143 rfl fun _ F144 => ?_
   refine gx F144 (AP (vs := []) C3 FV rfl (cs := (.int .i64 0 :: .int .i64 0 :: Cp (Vector.replicate 24 (0 : UInt8)))) (CQ)) 0 rfl rfl fun _ F152 => ?_
   refine A9 (ds := (.int .i64 0 :: .int .i64 0 :: Cp (Vector.replicate 24 (0 : UInt8)))) F152 s58.f1 rfl rfl (by simpa using DV) (Af rfl (Af rfl (E4 _))) (by simp) fun w153 q154 F155 s156 => ?_
   cases H
   refine gw 5 F155 rfl fun _ F158 => ?_
   refine B5 (rs := [.cell 6 147, .tmp 7]) (vs := [.agg ⟨(.int .i64 0 :: .int .i64 0 :: Cp (Vector.replicate 24 (0 : UInt8)))⟩, .int .i64 1]) F158 (by rfl) ⟨_, _, rfl, RV.blk s156 m0 rfl Ey (by simp), _, _, rfl, RV.tmp rfl, rfl⟩ ⟨_, rfl, ⟨rfl, s156.drop.drop⟩⟩
  ·refine gw 1 F143 rfl fun _ F159 => ?_
   refine Ax F159 rfl rfl ?_
   refine gx F159 (Ao rfl underlying63 (fR hr1 s58)) 5 rfl rfl fun _ F162 => ?_
   refine AK F162 H 2 6 rfl rfl rfl (fun hb163 H _ F164 => ?_) (fun hb163 H _ F3968 => ?_)
   ·refine gx F164 (AP (vs := []) C3 FV rfl (cs := (.int .i64 0 :: .int .i64 0 :: Cp (Vector.replicate 24 (0 : UInt8)))) (CQ)) 0 rfl rfl fun _ F172 => ?_
    refine A9 (ds := (.int .i64 0 :: .int .i64 0 :: Cp (Vector.replicate 24 (0 : UInt8)))) F172 s58.f1 rfl rfl (by simpa using DV) (Af rfl (Af rfl (E4 _))) (by simp) fun w173 q174 F175 s176 => ?_
    cases H
    refine gw 5 F175 rfl fun _ F178 => ?_
    refine B5 (rs := [.cell 6 147, .tmp 7]) (vs := [.agg ⟨(.int .i64 0 :: .int .i64 0 :: Cp (Vector.replicate 24 (0 : UInt8)))⟩, .int .i64 1]) F178 (by rfl) ⟨_, _, rfl, RV.blk s176 m0 rfl Ey (by simp), _, _, rfl, RV.tmp rfl, rfl⟩ ⟨_, rfl, ⟨rfl, s176.drop.drop⟩⟩
   ·obtain ⟨o6485, H6486, R6487⟩ := bind_ok H
    clear H
    refine gx F3968 (Ao rfl underlying63 (fR hr1 s58)) 3 rfl rfl fun _ F3970 => ?_
    refine BB (fun a w_ => ∃ p6488 : (Vector UInt8 24), o6485 = .inr (p6488) ∧ Fr a 57 [(6, .pointer (some ⟨g8, 0, none⟩)), (8, .pointer (some ⟨g49, 0, none⟩))] ∧ SL w [] w_ [Ae g49 147 (.int .i64 x38.1.Ak :: .int .i64 x38.1.Height :: Cp p6488), Ae g8 147 (.int .i64 0 :: .int .i64 0 :: Cp (Vector.replicate 24 (0 : UInt8)))]) ?_ ?_
    ·have H := H6486
     refine gc 1 F3970 rfl fun _ F3970 => ?_
     refine Dk (D5 a0 a1) (fun s6489 a w_ => Fr a 57 [(0, v0), (6, .pointer (some ⟨g8, 0, none⟩)), (8, .pointer (some ⟨g49, 0, none⟩)), (31, v1), (32, .int .i64 (a1.length : Int)), (33, .int .i64 s6489.2)] ∧ SL w [] w_ [Ae g49 147 (.int .i64 x38.1.Ak :: .int .i64 x38.1.Height :: Cp s6489.1), Ae g8 147 (.int .i64 0 :: .int .i64 0 :: Cp (Vector.replicate 24 (0 : UInt8)))]) H ?_ ?_
     ·exact ⟨F3970.sb, s58⟩
     ·intro s6489 q7432 w7433 hI7434 o7431 H hr
      obtain ⟨F7429, s7430⟩ := hI7434
      replace H : D5 a0 a1 s6489 = some o7431 := H
      unfold D5 at H
      refine gc 6 F7429 rfl fun _ F7436 => ?_
      refine AK F7436 H 7 4 rfl rfl rfl (fun hb7439 H _ F7607 => ?_) (fun hb7439 H _ F7440 => ?_)
      ·obtain ⟨x7602, hx7603, H⟩ := bind_ok H
       obtain ⟨ad7604, hi7605, hc7606⟩ := GG Flat.u8 (CU hr1 s7430) HG rfl hx7603
       refine gi F7607 hi7605 0 rfl fun _ F7608 => ?_
       obtain ⟨x7674, hx7675, H⟩ := bind_ok H
       refine gx F7608 (Ar Jq rfl (Cells.at_ hc7606 (o := 0) rfl)) 9 rfl rfl fun _ F7676 => ?_
       refine DW F7676 s7430 (KJ   (hr0.Az s7430) hx7675) 2 rfl rfl rfl rfl fun w7678 _ F7684 s7682 => ?_
       refine B2 42 F7684 H (fun hb7685 H F7686 => ?_) (fun hb7685 H F7686 => ?_)
       ·refine gw 12 F7686 rfl fun _ F7687 => ?_
        refine gx F7687 (AP (vs := []) C3 FV rfl (cs := (.int .i64 0 :: .int .i64 0 :: Cp (Vector.replicate 24 (0 : UInt8)))) (CQ)) 0 rfl rfl fun _ F7695 => ?_
        refine A9 (ds := (.int .i64 0 :: .int .i64 0 :: Cp (Vector.replicate 24 (0 : UInt8)))) F7695 s7682.f1 rfl rfl (by simpa using DV) (Af rfl (Af rfl (E4 _))) (by simp) fun w7696 q7697 F7698 s7699 => ?_
        cases H
        obtain rfl := hr _ rfl
        replace H := R6487
        try dsimp only at H
        cases H
        refine gw 11 F7698 rfl fun _ F7701 => ?_
        refine B5 (rs := [.cell 6 147, .tmp 7]) (vs := [.agg ⟨(.int .i64 0 :: .int .i64 0 :: Cp (Vector.replicate 24 (0 : UInt8)))⟩, .int .i64 1]) F7701 (by rfl) ⟨_, _, rfl, RV.blk s7699 m0 rfl Ey (by simp), _, _, rfl, RV.tmp rfl, rfl⟩ ⟨_, rfl, ⟨rfl, s7699.drop.drop⟩⟩
       ·refine gw 4 F7686 rfl fun _ F7702 => ?_
        refine B2 46 F7702 H (fun hb7703 H F7704 => ?_) (fun hb7703 H F7704 => ?_)
        ·refine gw 8 F7704 rfl fun _ F7705 => ?_
         refine gx F7705 (AP (vs := []) C3 FV rfl (cs := (.int .i64 0 :: .int .i64 0 :: Cp (Vector.replicate 24 (0 : UInt8)))) (CQ)) 0 rfl rfl fun _ F7713 => ?_
         refine A9 (ds := (.int .i64 0 :: .int .i64 0 :: Cp (Vector.replicate 24 (0 : UInt8)))) F7713 s7682.f1 rfl rfl (by simpa using DV) (Af rfl (Af rfl (E4 _))) (by simp) fun w7714 q7715 F7716 s7717 => ?_
         cases H
         obtain rfl := hr _ rfl
         replace H := R6487
         try dsimp only at H
         cases H
         refine gw 11 F7716 rfl fun _ F7719 => ?_
         refine B5 (rs := [.cell 6 147, .tmp 7]) (vs := [.agg ⟨(.int .i64 0 :: .int .i64 0 :: Cp (Vector.replicate 24 (0 : UInt8)))⟩, .int .i64 1]) F7719 (by rfl) ⟨_, _, rfl, RV.blk s7717 m0 rfl Ey (by simp), _, _, rfl, RV.tmp rfl, rfl⟩ ⟨_, rfl, ⟨rfl, s7717.drop.drop⟩⟩
        ·refine gw 5 F7704 rfl fun _ F7720 => ?_
         refine AK F7720 H 2 6 rfl rfl rfl (fun hb7721 H _ F7722 => ?_) (fun hb7721 H _ F7739 => ?_)
         ·refine gx F7722 (AP (vs := []) C3 FV rfl (cs := (.int .i64 0 :: .int .i64 0 :: Cp (Vector.replicate 24 (0 : UInt8)))) (CQ)) 0 rfl rfl fun _ F7730 => ?_
          refine A9 (ds := (.int .i64 0 :: .int .i64 0 :: Cp (Vector.replicate 24 (0 : UInt8)))) F7730 s7682.f1 rfl rfl (by simpa using DV) (Af rfl (Af rfl (E4 _))) (by simp) fun w7731 q7732 F7733 s7734 => ?_
          cases H
          obtain rfl := hr _ rfl
          replace H := R6487
          try dsimp only at H
          cases H
          refine gw 11 F7733 rfl fun _ F7736 => ?_
          refine B5 (rs := [.cell 6 147, .tmp 7]) (vs := [.agg ⟨(.int .i64 0 :: .int .i64 0 :: Cp (Vector.replicate 24 (0 : UInt8)))⟩, .int .i64 1]) F7736 (by rfl) ⟨_, _, rfl, RV.blk s7734 m0 rfl Ey (by simp), _, _, rfl, RV.tmp rfl, rfl⟩ ⟨_, rfl, ⟨rfl, s7734.drop.drop⟩⟩
         ·obtain ⟨x7737, hx7738, H⟩ := bind_ok H
          refine gx F7739 (TV U4 hx7738 rfl rfl) 0 rfl rfl fun _ F7740 => ?_
          refine SU (y' := x7602) (pre := [.int .i64 x38.1.Ak, .int .i64 x38.1.Height]) F7740 s7682 rfl hx7738 rfl rfl V2 fun w7741 q7742 F7743 s7744 => ?_
          cases H
          refine gw 7 F7743 rfl fun _ F7745 => ?_
          exact ⟨_, rfl, F7745.sb, s7744⟩
      ·cases H
       obtain rfl := hr _ rfl
       exact ⟨_, rfl, F7440.sb, s7430⟩
    ·intro q7748 w7749 hJ
     obtain ⟨p6488, rfl, F7746, s7747⟩ := hJ
     have H := R6487
     clear R6487 H6486
     try dsimp only at H
     refine ge 3 F7746 rfl fun _ F7746 => ?_
     refine Ya F7746 s7747 m0 0 rfl fun _ F7757 => ?_
     refine A9 (ds := (.int .i64 x38.1.Ak :: .int .i64 x38.1.Height :: Cp p6488)) F7757 s7747.f1 rfl rfl (by simpa using DV) (Af rfl (Af rfl (E4 _))) (by simp) fun w7758 q7759 F7760 s7761 => ?_
     cases H
     refine gw 4 F7760 rfl fun _ F7763 => ?_
     refine B5 (rs := [.cell 6 147, .tmp 7]) (vs := [.agg ⟨(.int .i64 x38.1.Ak :: .int .i64 x38.1.Height :: Cp p6488)⟩, .int .i64 0]) F7763 (by rfl) ⟨_, _, rfl, RV.blk s7761 m0 rfl Ey (by simp), _, _, rfl, RV.tmp rfl, rfl⟩ ⟨_, rfl, ⟨rfl, s7761.drop.drop⟩⟩
end Go.Proofs.YtpnacdckamiedaaGreat
namespace Go.Proofs.YtpnacdckamiedaaGreat
open Go Go.RowKit Go.Pv Go.Proofs.Tryz
theorem Qz {w : World} {v0_0 v0_1 : Value} {a0 : AD} {a1 : Int} {r : Int} (hr0_0 : Rd Ag w [] v0_0 a0.Classes) (hr0_1 : Rd Bv w [] v0_1 a0.AO) (H : HC a0 a1 = some r) :
  Calls prog 39 #[.agg ⟨[v0_0, v0_1, .int .i64 a0.Fn]⟩, .int .i64 a1] w (AN fun u_ w_ => u_ = .int .i64 r ∧ SL w [] w_ []) := by
 have s0 : SL w [] w [] := SL.Bf w
 refine BV func39 ntmps39 2 rfl rfl rfl fun _ F0 => ?_
 unfold HC at H
 refine Bz F0 s0 rfl rfl rfl fun g8 w9 q10 F11 s12 => ?_
 obtain ⟨x57, hx58, H⟩ := bind_ok H
 refine gw 7 F11 rfl fun _ F59 => ?_
 refine AA F59 s12 m0 0 rfl fun _ F60 => ?_
 refine DW F60 s12 (KO   (hr0_0.Az s12) hx58) 13 rfl rfl rfl rfl fun w62 _ F70 s66 => ?_
 refine AK F70 H 8 6 rfl rfl rfl (fun hb71 H _ F74 => ?_) (fun hb71 H _ F91 => ?_)
 ·cases H
  exact rt F74 ⟨rfl, s66.drop⟩
 ·refine AA F91 s66 m0 0 rfl fun _ F92 => ?_
  refine gx F92 (Ao rfl underlying78 (fR hr0_1 s66)) 3 rfl rfl fun _ F94 => ?_
  refine AK F94 H 7 6 rfl rfl rfl (fun hb95 H _ F98 => ?_) (fun hb95 H _ F3375 => ?_)
  ·cases H
   exact rt F98 ⟨rfl, s66.drop⟩
  ·refine AA F3375 s66 m0 0 rfl fun _ F3376 => ?_
   obtain ⟨o5549, H5550, R5551⟩ := bind_ok H
   clear H
   refine gx F3376 (Ao rfl underlying78 (fR hr0_1 s66)) 3 rfl rfl fun _ F3378 => ?_
   refine BB (fun a w_ => ∃ p5552 : Unit, o5549 = .inr (p5552) ∧ Fr a 79 [(1, .int .i64 a1), (2, .pointer (some ⟨g8, 0, none⟩))] ∧ SL w [] w_ [Ae g8 80 [v0_0, v0_1, .int .i64 a0.Fn]]) ?_ ?_
   ·have H := H5550
    refine gc 1 F3378 rfl fun _ F3378 => ?_
    refine Dk (D3 a0) (fun s5553 a w_ => Fr a 79 [(1, .int .i64 a1), (2, .pointer (some ⟨g8, 0, none⟩)), (26, v0_1), (27, .int .i64 (a0.AO.length : Int)), (28, .int .i64 s5553)] ∧ SL w [] w_ [Ae g8 80 [v0_0, v0_1, .int .i64 a0.Fn]]) H ?_ ?_
    ·exact ⟨F3378.sb, s66⟩
    ·intro s5553 q6367 w6368 hI6369 o6366 H hr
     obtain ⟨F6364, s6365⟩ := hI6369
     replace H : D3 a0 s5553 = some o6366 := H
     unfold D3 at H
     refine gc 6 F6364 rfl fun _ F6371 => ?_
     refine AK F6371 H 6 4 rfl rfl rfl (fun hb6374 H _ F6375 => ?_) (fun hb6374 H _ F6375 => ?_)
     ·obtain ⟨x6530, hx6531, H⟩ := bind_ok H
      obtain ⟨ad6532, cs6535, G6536, hi6533, hc6534, hr6537, hG6538⟩ := Rd.idx hr0_1 Hy rfl hx6531
      obtain ⟨v6539, rfl, hr6540⟩ := (L6 hr6537 hG6538)
      replace hc6534 := hc6534 _ _ s6365
      refine gi F6375 hi6533 0 rfl fun _ F6541 => ?_
      refine gx F6541 (Be Iq rfl hc6534 rfl) 0 rfl rfl fun _ F6542 => ?_
      refine An F6542 s6365 IF rfl rfl fun g6543 w6544 q6545 F6546 s6547 => ?_
      refine AH F6546 s6547 rfl rfl LK (Af (Aj (fR hr6540 s6547)) (Af rfl AM)) (Nat.le_of_ble_eq_true rfl) fun w6549 q6550 F6551 s6552 => ?_
      refine gw 6 F6551 rfl fun _ F6570 => ?_
      refine AA F6570 s6552 m0 0 rfl fun _ F6571 => ?_
      refine gx F6571 (Ao rfl underlying63 (fR hr6540 s6552)) 3 rfl rfl fun _ F6573 => ?_
      refine AK F6573 H 13 4 rfl rfl rfl (fun hb6574 H _ F6577 => ?_) (fun hb6574 H _ F6575 => ?_)
      ·cases H
       obtain rfl := hr _ rfl
       replace H := R5551
       try dsimp only at H
       cases H
       exact rt F6577 ⟨rfl, s6552.drop.drop⟩
      ·obtain ⟨x6582, hx6583, H⟩ := bind_ok H
       refine gx F6575 (HA (cs := [.tmp 2]) (vs := [.pointer (some ⟨g8, 0, none⟩)]) rfl) 6 rfl rfl fun _ F6584 => ?_
       obtain ⟨G6599, hst6595, hF6596, hG6597, hcl6598⟩ := SL.open_ (ps := [Ae g8 80 [v0_0, v0_1, .int .i64 a0.Fn]]) (rest := [Ae g6543 66 [v6539, .int .u8 (x6530.Result.toNat : Int)]]) s6552.f1
       refine AA F6584 s6552 m0 1 rfl fun _ F6586 => ?_
       refine AU F6586 (E7 (a200 := (⟨a0.Classes, a0.AO, a0.Fn⟩ : AD)) hst6595  (hr6540.pass s6552.f1 hF6596) (hr0_0.pass s6552.f1 hF6596) (hr0_1.pass s6552.f1 hF6596) hx6583) fun v6587 w6588 _ hS6591 F6590 => ?_
       obtain ⟨rfl, hq6593⟩ := hS6591
       have s6592 := hcl6598 _ _ hq6593
       refine gw 1 F6590 rfl fun _ F6600 => ?_
       refine B2 41 F6600 H (fun hb6601 H F6602 => ?_) (fun hb6601 H F6602 => ?_)
       ·cases H
        obtain rfl := hr _ rfl
        replace H := R5551
        try dsimp only at H
        cases H
        refine gw 25 F6602 rfl fun _ F6605 => ?_
        exact rt F6605 ⟨rfl, s6592.drop.drop⟩
       ·refine gw 1 F6602 rfl fun _ F6606 => ?_
        refine Ax F6606 rfl rfl ?_
        refine AA F6606 s6592 m1 2 rfl fun _ F6609 => ?_
        refine B2 45 F6609 H (fun hb6610 H F6611 => ?_) (fun hb6610 H F6611 => ?_)
        ·refine gw 2 F6611 rfl fun _ F6612 => ?_
         refine Ax F6612 rfl rfl ?_
         refine AA F6612 s6592 m1 0 rfl fun _ F6614 => ?_
         obtain ⟨x6615, hx6616, H⟩ := bind_ok H
         refine Ax F6614 rfl rfl ?_
         obtain ⟨G6629, hst6625, hF6626, hG6627, hcl6628⟩ := SL.open_ (ps := [Ae g8 80 [v0_0, v0_1, .int .i64 a0.Fn]]) (rest := [Ae g6543 66 [v6539, .int .u8 (x6530.Result.toNat : Int)]]) s6592
         refine Hw (args := [.tmp 48]) F6614 QT rfl rfl (JE (a0 := x6530.Result) (a1 := (⟨a0.Classes, a0.AO, a0.Fn⟩ : AD)) hst6625  (hr0_0.pass s6592 hF6626) (hr0_1.pass s6592 hF6626) hx6616) rfl fun v6617 w6618 q6619 hS6621 F6620 => ?_
         obtain ⟨rfl, hq6623⟩ := hS6621
         have s6622 := hcl6628 _ _ hq6623
         refine gw 4 F6620 rfl fun _ F6630 => ?_
         refine AK F6630 H 12 7 rfl rfl rfl (fun hb6631 H _ F6634 => ?_) (fun hb6631 H _ F6635 => ?_)
         ·cases H
          obtain rfl := hr _ rfl
          replace H := R5551
          try dsimp only at H
          cases H
          exact rt F6634 ⟨rfl, s6622.drop.drop⟩
         ·cases H
          exact ⟨_, rfl, F6635.sb, s6622.f1.drop⟩
        ·cases H
         refine gw 16 F6611 rfl fun _ F6637 => ?_
         exact ⟨_, rfl, F6637.sb, s6592.f1.drop⟩
     ·cases H
      obtain rfl := hr _ rfl
      exact ⟨_, rfl, F6375.sb, s6365⟩
   ·intro q6640 w6641 hJ
    obtain ⟨p5552, rfl, F6638, s6639⟩ := hJ
    have H := R5551
    clear R5551 H5550
    try dsimp only at H
    refine ge 5 F6638 rfl fun _ F6663 => ?_
    refine AA F6663 s6639 m0 2 rfl fun _ F6665 => ?_
    refine B2 56 F6665 H (fun hb6666 H F6667 => ?_) (fun hb6666 H F6667 => ?_)
    ·cases H
     refine gw 17 F6667 rfl fun _ F6670 => ?_
     exact rt F6670 ⟨rfl, s6639.drop⟩
    ·refine gw 1 F6667 rfl fun _ F6671 => ?_
     refine Ax F6671 rfl rfl ?_
     refine AA F6671 s6639 m0 1 rfl fun _ F6674 => ?_
     refine Ax F6674 rfl rfl ?_
     refine AA F6674 s6639 m0 0 rfl fun _ F6676 => ?_
     refine Ax F6676 rfl rfl ?_
     refine gx F6676 (Ao rfl underlying78 (fR hr0_1 s6639)) 4 rfl rfl fun _ F6679 => ?_
     refine AK F6679 H 7 3 rfl rfl rfl (fun hb6680 H _ F6683 => ?_) (fun hb6680 H _ F6681 => ?_)
     ·cases H
      exact rt F6683 ⟨rfl, s6639.drop⟩
     ·obtain ⟨x6742, hx6743, H⟩ := bind_ok H
      obtain ⟨x6753, hx6754, H⟩ := bind_ok H
      refine IV DR s6639 ?_
      have s6773 := s6639.drew
      obtain ⟨ad6744, cs6747, G6748, hi6745, hc6746, hr6749, hG6750⟩ := Rd.idx hr0_1 Hy rfl hx6743
      obtain ⟨v6751, rfl, hr6752⟩ := (L6 hr6749 hG6750)
      have hc6746_ := hc6746; clear hc6746; have hc6746 := fun w_ (hC : SL w [] w_ [Ae g8 80 [v0_0, v0_1, .int .i64 a0.Fn]]) => hc6746_ _ _ hC
      refine hq [0, 1, 2, 3, 4, 5, 6, 7, 8, 9] F6681 s6773 (QI.ev 1 rfl <| QI.ld m0 rfl <| QI.ev 1 rfl <| QI.ld m0 rfl <| QI.ev 1 rfl <| QI.ld m0 rfl <| QI.ix hi6745 rfl <| QI.op rfl (fun _ hC => Di Tp rfl) rfl <| QI.op rfl (fun _ hC => Ar Ue rfl (Cells.at_ (hc6746 _ hC) (o := 0) rfl)) rfl <| QI.ev 1 rfl <| QI.nil) (by kernel_rfl) fun _ F11906773 => ?_
      refine Jj [0, 1, 2, 3, 4, 5, 6, 7, 8, 9, 10, 11, 12, 13, 14, 15] (fun a w_ => ∃ g11556774 : Nat, Fr a 79 [(77, .int .i64 x6753.2)] ∧ SL w [] w_ [Ae g8 80 [v0_0, v0_1, .int .i64 a0.Fn], Ae g11556774 147 (.int .i64 x6753.1.Ak :: .int .i64 x6753.1.Height :: Cp x6753.1.KI)]) ?_ fun hD0 => ?_
      ·rintro a w_ ⟨g11556774, F12406773, s12406773⟩
       refine hq [16] F12406773 s12406773.f1.drop (QI.ev 1 rfl <| QI.nil) (by kernel_rfl) fun _ F12106773 => ?_
       refine Jn (by kernel_rfl) ?_
       cases H
       refine ge 8 F12106773 rfl fun _ F6775 => ?_
       exact rt F6775 ⟨rfl, s12406773.drop.drop⟩
      refine Hh 10 14 rfl rfl (by kernel_rfl) ?_ ?_
      ·refine DW F11906773 s6773 (JR   (hr0_0.Az s6773) (hr6752.Az s6773) hx6754) 1 rfl rfl rfl rfl fun w11156775 _ F11156777 s11156779 => ?_
       refine ⟨s11156779, ?_⟩
       refine hq [11, 12, 13] F11156777 s11156779 (QI.ev 3 rfl <| QI.nil) (by kernel_rfl) fun _ F12108773 => ?_
       refine ho 14 rfl (by kernel_rfl) ?_
       refine An F12108773 s11156779 C3 rfl rfl fun g11556774 w11556775 q11556776 F11556777 s11556778 => ?_
       refine gw 1 F11556777 rfl fun _ F11556777 => ?_
       refine ⟨s11556778.drop, ?_⟩
       refine ho 15 rfl (by kernel_rfl) ?_
       refine A9 (ds := (.int .i64 x6753.1.Ak :: .int .i64 x6753.1.Height :: Cp x6753.1.KI)) F11556777 s11556778 rfl rfl (by simpa using DV) (Af rfl (Af rfl (E4 _))) (by simp) fun w11656774 q11656775 F11656776 s11656777 => ?_
       refine gw 1 F11656776 rfl fun _ F11656776 => ?_
       exact ⟨s11656777.drop, GV hD0 ⟨g11556774, F11656776.sb, s11656777.f1⟩ (by kernel_rfl)⟩
      ·refine An F11906773 s6773 C3 rfl rfl fun g11556774 w11556775 q11556776 F11556777 s11556778 => ?_
       refine gw 1 F11556777 rfl fun _ F11556777 => ?_
       refine ⟨s11556778.drop, ?_⟩
       refine ho 10 rfl (by kernel_rfl) ?_
       refine DW F11556777 s11556778 (JR   (hr0_0.Az s11556778) (hr6752.Az s11556778) hx6754) 1 rfl rfl rfl rfl fun w11156775 _ F11156777 s11156779 => ?_
       refine ⟨s11156779.drop, ?_⟩
       refine hq [11, 12, 13] F11156777 s11156779.drop (QI.ev 3 rfl <| QI.nil) (by kernel_rfl) fun _ F12109773 => ?_
       refine ho 15 rfl (by kernel_rfl) ?_
       refine A9 (ds := (.int .i64 x6753.1.Ak :: .int .i64 x6753.1.Height :: Cp x6753.1.KI)) F12109773 s11156779 rfl rfl (by simpa using DV) (Af rfl (Af rfl (E4 _))) (by simp) fun w11656774 q11656775 F11656776 s11656777 => ?_
       refine gw 1 F11656776 rfl fun _ F11656776 => ?_
       exact ⟨s11656777.drop, GV hD0 ⟨g11556774, F11656776.sb, s11656777.f1⟩ (by kernel_rfl)⟩
end Go.Proofs.YtpnacdckamiedaaGreat
namespace Go.Proofs.YtpnacdckamiedaaGreat
open Go Go.RowKit Go.Pv Go.Proofs.Tryz
theorem M9 {w : World} {v0_0 v1 : Value} {a0 : Am} {a1 : List Int} {r : Bool} (hr0_0 : Rd Ty.u8 w [] v0_0 a0.Ai) (hr1 : Rd (Ty.int .i64) w [] v1 a1) (H : E3 a0 a1 = some r) :
  Calls prog 40 #[.agg ⟨[v0_0, .int .u8 (a0.Result.toNat : Int)]⟩, v1] w (AN fun u_ w_ => u_ = .bool r ∧ SL w [] w_ []) := by
 have s0 : SL w [] w [] := SL.Bf w
 refine BV func40 ntmps40 2 rfl rfl rfl fun _ F0 => ?_
 unfold E3 at H
 refine Bz F0 s0 rfl rfl rfl fun g8 w9 q10 F11 s12 => ?_
 refine gw 7 F11 rfl fun _ F37 => ?_
 refine gx F37 (Ao rfl underlying27 (fR hr1 s12)) 1 rfl rfl fun _ F39 => ?_
 refine AA F39 s12 m0 0 rfl fun _ F40 => ?_
 refine gx F40 (Ao rfl underlying63 (fR hr0_0 s12)) 3 rfl rfl fun _ F42 => ?_
 refine AK F42 H 7 6 rfl rfl rfl (fun hb43 H _ F46 => ?_) (fun hb43 H _ F2111 => ?_)
 ·cases H
  exact rt F46 ⟨rfl, s12.drop⟩
 ·refine AA F2111 s12 m0 0 rfl fun _ F2112 => ?_
  obtain ⟨o3477, H3478, R3479⟩ := bind_ok H
  clear H
  refine gx F2112 (Ao rfl underlying63 (fR hr0_0 s12)) 3 rfl rfl fun _ F2114 => ?_
  refine BB (fun a w_ => ∃ p3480 : Unit, o3477 = .inr (p3480) ∧ Fr a 48 [] ∧ SL w [] w_ []) ?_ ?_
  ·have H := H3478
   refine gc 1 F2114 rfl fun _ F2114 => ?_
   refine Dk (Ca a0 a1) (fun s3481 a w_ => Fr a 48 [(1, v1), (15, v0_0), (16, .int .i64 (a0.Ai.length : Int)), (17, .int .i64 s3481)] ∧ SL w [] w_ []) H ?_ ?_
   ·exact ⟨F2114.sb, s12.drop⟩
   ·intro s3481 q3992 w3993 hI3994 o3991 H hr
    obtain ⟨F3989, s3990⟩ := hI3994
    replace H : Ca a0 a1 s3481 = some o3991 := H
    unfold Ca at H
    refine gc 6 F3989 rfl fun _ F3996 => ?_
    refine AK F3996 H 7 4 rfl rfl rfl (fun hb3999 H _ F4093 => ?_) (fun hb3999 H _ F4000 => ?_)
    ·obtain ⟨x4088, hx4089, H⟩ := bind_ok H
     obtain ⟨ad4090, hi4091, hc4092⟩ := GG Flat.u8 (CU hr0_0 s3990) HG rfl hx4089
     refine gi F4093 hi4091 0 rfl fun _ F4094 => ?_
     obtain ⟨x4106, hx4107, H⟩ := bind_ok H
     obtain ⟨ad4108, hi4109, hc4110⟩ := GG (Flat.int .i64) (CU hr1 s3990) EL rfl hx4107
     refine gx F4094 (Ar Jq rfl (Cells.at_ hc4092 (o := 0) rfl)) 8 rfl rfl fun _ F4111 => ?_
     refine gi F4111 hi4109 0 rfl fun _ F4112 => ?_
     refine gx F4112 (Ar Gg rfl (Cells.at_ hc4110 (o := 0) rfl)) 9 rfl rfl fun _ F4115 => ?_
     refine B2 29 F4115 H (fun hb4116 H F4117 => ?_) (fun hb4116 H F4117 => ?_)
     ·refine gw 2 F4117 rfl fun _ F4118 => ?_
      refine Ax F4118 rfl rfl ?_
      refine gx F4118 (C7 rfl underlying3 underlying21) 0 rfl rfl fun _ F4120 => ?_
      refine Ax F4120 rfl rfl ?_
      refine gx F4120 (C7 rfl underlying21 underlying3) 5 rfl rfl fun _ F4123 => ?_
      refine AK F4123 H 8 5 rfl rfl rfl (fun hb4124 H _ F4126 => ?_) (fun hb4124 H _ F4127 => ?_)
      ·cases H
       exact ⟨_, rfl, F4126.sb, s3990⟩
      ·refine B2 39 F4127 H (fun hb4128 H F4129 => ?_) (fun hb4128 H F4129 => ?_)
       ·refine gw 3 F4129 rfl fun _ F4130 => ?_
        refine B2 42 F4130 H (fun hb4131 H F4132 => ?_) (fun hb4131 H F4132 => ?_)
        ·cases H
         refine gw 16 F4132 rfl fun _ F4134 => ?_
         exact ⟨_, rfl, F4134.sb, s3990⟩
        ·refine gw 7 F4132 rfl fun _ F4135 => ?_
         refine AK F4135 H 8 13 rfl rfl rfl (fun hb4136 H _ F4138 => ?_) (fun hb4136 H _ F4140 => ?_)
         ·cases H
          exact ⟨_, rfl, F4138.sb, s3990⟩
         ·cases H
          obtain rfl := hr _ rfl
          replace H := R3479
          try dsimp only at H
          cases H
          exact rt F4140 ⟨rfl, s3990⟩
       ·cases H
        obtain rfl := hr _ rfl
        replace H := R3479
        try dsimp only at H
        cases H
        refine gw 24 F4129 rfl fun _ F4143 => ?_
        exact rt F4143 ⟨rfl, s3990⟩
     ·refine gw 15 F4117 rfl fun _ F4145 => ?_
      refine B2 39 F4145 H (fun hb4146 H F4147 => ?_) (fun hb4146 H F4147 => ?_)
      ·refine gw 3 F4147 rfl fun _ F4148 => ?_
       refine B2 42 F4148 H (fun hb4149 H F4150 => ?_) (fun hb4149 H F4150 => ?_)
       ·cases H
        refine gw 16 F4150 rfl fun _ F4152 => ?_
        exact ⟨_, rfl, F4152.sb, s3990⟩
       ·refine gw 7 F4150 rfl fun _ F4153 => ?_
        refine AK F4153 H 8 13 rfl rfl rfl (fun hb4154 H _ F4156 => ?_) (fun hb4154 H _ F4158 => ?_)
        ·cases H
         exact ⟨_, rfl, F4156.sb, s3990⟩
        ·cases H
         obtain rfl := hr _ rfl
         replace H := R3479
         try dsimp only at H
         cases H
         exact rt F4158 ⟨rfl, s3990⟩
      ·cases H
       obtain rfl := hr _ rfl
       replace H := R3479
       try dsimp only at H
       cases H
       refine gw 24 F4147 rfl fun _ F4161 => ?_
       exact rt F4161 ⟨rfl, s3990⟩
    ·cases H
     obtain rfl := hr _ rfl
     exact ⟨_, rfl, F4000.sb, s3990⟩
  ·intro q4164 w4165 hJ
   obtain ⟨p3480, rfl, F4162, s4163⟩ := hJ
   have H := R3479
   clear R3479 H3478
   try dsimp only at H
   cases H
   refine ge 7 F4162 rfl fun _ F4167 => ?_
   exact rt F4167 ⟨rfl, s4163⟩
end Go.Proofs.YtpnacdckamiedaaGreat
namespace Go.Proofs.YtpnacdckamiedaaGreat
open Go Go.RowKit Go.Pv Go.Proofs.Tryz
theorem M6 {w : World} {v0_1 v0_2 v0_3 : Value} {a0 : Ah} {r : Ah} (hr0_1 : Rd Ag w [] v0_1 a0.Classes) (hr0_2 : Rd As w [] v0_2 a0.Funcs) (hr0_3 : Rd (Ty.slice Ty.u8) w [] v0_3 a0.Cf) (H : E1 a0 = some r) :
  Calls prog 41 #[.agg ⟨[.string ⟨⟨a0.Name⟩⟩, v0_1, v0_2, v0_3]⟩] w (AN fun u_ w_ => ∃ u0 u1 u2 : Value, u_ = .agg ⟨[.string ⟨⟨r.Name⟩⟩, u0, u1, u2]⟩ ∧ SL w [] w_ [Sl Ag u0 r.Classes, Sl As u1 r.Funcs, Sl (Ty.slice Ty.u8) u2 r.Cf]) := by
 have s0 : SL w [] w [] := SL.Bf w
 refine BV func41 ntmps41 2 rfl rfl rfl fun _ F0 => ?_
 unfold E1 at H
 refine Bz F0 s0 rfl rfl rfl fun g13 w14 q15 F16 s17 => ?_
 refine An F16 s17 EV rfl rfl fun g19 w20 q21 F22 s23 => ?_
 refine gw 5 F22 rfl fun _ F39 => ?_
 refine AA F39 s23 m1 0 rfl fun _ F40 => ?_
 refine gx F40 (AP (vs := [.string ⟨⟨a0.Name⟩⟩]) EV NG rfl (cs := [.string ⟨⟨a0.Name⟩⟩, .slice none 0 0, .slice none 0 0, .slice none 0 0]) (rfl)) 0 rfl rfl fun _ F41 => ?_
 refine An F41 s23 EV rfl rfl fun g42 w43 q44 F45 s46 => ?_
 refine AH F45 s46 rfl rfl Mg (Af rfl (Af rfl (Af rfl (Af rfl AM)))) (Nat.le_of_ble_eq_true rfl) fun w48 q49 F50 s51 => ?_
 refine gw 6 F50 rfl fun _ F2759 => ?_
 refine AA F2759 s51 m2 0 rfl fun _ F2760 => ?_
 obtain ⟨o4553, H4554, R4555⟩ := bind_ok H
 clear H
 refine gx F2760 (Ao rfl underlying22 (fR hr0_1 s51)) 3 rfl rfl fun _ F2762 => ?_
 refine BB (fun a w_ => ∃ v4556 : Value, Fr a 54 [(1, .pointer (some ⟨g13, 0, none⟩)), (2, .pointer (some ⟨g19, 0, none⟩)), (3, .pointer (some ⟨g42, 0, none⟩))] ∧ SL w [] w_ [Ae g42 26 [.string ⟨⟨a0.Name⟩⟩, v4556, .slice none 0 0, .slice none 0 0], Ae g19 26 [.string ⟨⟨[]⟩⟩, .slice none 0 0, .slice none 0 0, .slice none 0 0], Ae g13 26 [.string ⟨⟨a0.Name⟩⟩, v0_1, v0_2, v0_3], Sl Ag v4556 o4553]) ?_ ?_
 ·have H := H4554
  refine gc 1 F2762 rfl fun _ F2762 => ?_
  refine Dk (D9 a0) (fun s4558 a w_ => ∃ v5005 : Value, Fr a 54 [(1, .pointer (some ⟨g13, 0, none⟩)), (2, .pointer (some ⟨g19, 0, none⟩)), (3, .pointer (some ⟨g42, 0, none⟩)), (12, v0_1), (13, .int .i64 (a0.Classes.length : Int)), (14, .int .i64 s4558.2)] ∧ SL w [] w_ [Ae g42 26 [.string ⟨⟨a0.Name⟩⟩, v5005, .slice none 0 0, .slice none 0 0], Ae g19 26 [.string ⟨⟨[]⟩⟩, .slice none 0 0, .slice none 0 0, .slice none 0 0], Ae g13 26 [.string ⟨⟨a0.Name⟩⟩, v0_1, v0_2, v0_3], Sl Ag v5005 s4558.1]) H ?_ ?_
  ·exact ⟨(.slice none 0 0), F2762.sb, (SL.BF (T := Ag) s51).f3.f3.f3⟩
  ·intro s4558 q5231 w5232 hI5233 o5230 H hr
   obtain ⟨v5005, F5228, s5229⟩ := hI5233
   replace H : D9 a0 s4558 = some o5230 := H
   unfold D9 at H
   refine gc 6 F5228 rfl fun _ F5235 => ?_
   refine AK F5235 H 6 4 rfl rfl rfl (fun hb5238 H _ F5239 => ?_) (fun hb5238 H _ F5239 => ?_)
   ·obtain ⟨x5370, hx5371, H⟩ := bind_ok H
    obtain ⟨ad5372, cs5375, G5376, hi5373, hc5374, hr5377, hG5378⟩ := Rd.idx hr0_1 BK rfl hx5371
    obtain ⟨v5379, rfl, hr5380⟩ := (BC hr5377 hG5378)
    replace hc5374 := hc5374 _ _ s5229
    refine gi F5239 hi5373 0 rfl fun _ F5381 => ?_
    refine gx F5381 (Be Gy rfl hc5374 rfl) 0 rfl rfl fun _ F5382 => ?_
    refine An F5382 s5229 GM rfl rfl fun g5383 w5384 q5385 F5386 s5387 => ?_
    refine AH F5386 s5387 rfl rfl Iv (Af rfl (Af rfl (Af (Aj (fR hr5380 s5387)) AM))) (Nat.le_of_ble_eq_true rfl) fun w5389 q5390 F5391 s5392 => ?_
    obtain ⟨x5411, hx5412, H⟩ := bind_ok H
    refine gw 5 F5391 rfl fun _ F5413 => ?_
    refine AA F5413 s5392 m0 0 rfl fun _ F5414 => ?_
    have s5421 := (SL.BF (T := AW) s5392)
    obtain ⟨_, hr_⟩ := (CU hr5380 s5421)
    refine Ba Cv F5414 s5421 Fe rfl rfl rfl rfl hr_ rfl rfl hx5412 rfl fun v5416 w5417 q5418 F5419 s5420 => ?_
    refine gw 1 F5419 rfl fun _ F5422 => ?_
    refine AZ F5422 s5420.f1 rfl rfl KA (AG (fO s5420.f1 m1)) (Aj (fO s5420.f1 m1)) rfl fun w5423 q5424 F5425 s5426 => ?_
    refine gw 4 F5425 rfl fun _ F5428 => ?_
    refine AA F5428 s5426 m2 0 rfl fun _ F5429 => ?_
    refine AA F5429 s5426 m0 0 rfl fun _ F5430 => ?_
    have s5438 : SL w [] _ (Dt Ag (⟨x5370.Name, x5370.Al, x5411⟩ : Ad) [.string ⟨⟨x5370.Name⟩⟩, .int .i64 x5370.Al, v5416] :: [Ae g5383 109 [.string ⟨⟨x5370.Name⟩⟩, .int .i64 x5370.Al, v5416], Ae g42 26 [.string ⟨⟨a0.Name⟩⟩, v5005, .slice none 0 0, .slice none 0 0], Ae g19 26 [.string ⟨⟨[]⟩⟩, .slice none 0 0, .slice none 0 0, .slice none 0 0], Ae g13 26 [.string ⟨⟨a0.Name⟩⟩, v0_1, v0_2, v0_3], Sl Ag v5005 s4558.1]) := (SL.Ih (f := D2) (x := (⟨x5370.Name, x5370.Al, x5411⟩ : Ad)) (SL.Dj (SL.C6 (SL.Dj (SL.C6 (SL.dsl s5426.f1) (Flat.int .i64) x5370.Al)) Flat.str x5370.Name)))
    refine B7 F5430 s5438 BK rfl (by decide) rfl rfl rfl fun v5431 w5432 q5433 F5434 s5435 => ?_
    obtain ⟨x5439, hx5440, H⟩ := bind_ok H
    refine Dg F5434 s5435.f5 BK rfl rfl rfl rfl rfl rfl hx5440 rfl fun v5441 w5442 q5443 F5444 s5445 => ?_
    refine gw 1 F5444 rfl fun _ F5446 => ?_
    refine AZ F5446 s5445.f2 rfl rfl N5 (AG (fO s5445.f2 m1)) (Aj (fO s5445.f2 m1)) rfl fun w5447 q5448 F5449 s5450 => ?_
    cases H
    refine gw 7 F5449 rfl fun _ F5452 => ?_
    exact ⟨_, rfl, v5441, F5452.sb, s5450.f2.drop.f1.f3.f3.f3⟩
   ·cases H
    obtain rfl := hr _ rfl
    exact ⟨v5005, F5239.sb, s5229⟩
 ·intro q5455 w5456 hJ
  obtain ⟨v4556, F5453, s5454⟩ := hJ
  have H := R4555
  clear R4555 H4554
  refine ge 5 F5453 rfl fun _ F9075 => ?_
  refine AA F9075 s5454 m2 0 rfl fun _ F9076 => ?_
  obtain ⟨o11477, H11478, R11479⟩ := bind_ok H
  clear H
  refine gx F9076 (Ao rfl underlying23 (fR hr0_2 s5454)) 3 rfl rfl fun _ F9078 => ?_
  refine BB (fun a w_ => ∃ v11480 : Value, Fr a 54 [(2, .pointer (some ⟨g19, 0, none⟩)), (3, .pointer (some ⟨g42, 0, none⟩))] ∧ SL w [] w_ [Ae g42 26 [.string ⟨⟨a0.Name⟩⟩, v4556, v11480, .slice none 0 0], Ae g19 26 [.string ⟨⟨[]⟩⟩, .slice none 0 0, .slice none 0 0, .slice none 0 0], Sl Ag v4556 o4553, Sl As v11480 o11477]) ?_ ?_
  ·have H := H11478
   refine gc 1 F9078 rfl fun _ F9078 => ?_
   refine Dk (DC a0) (fun s11482 a w_ => ∃ v12081 : Value, Fr a 54 [(2, .pointer (some ⟨g19, 0, none⟩)), (3, .pointer (some ⟨g42, 0, none⟩)), (30, v0_2), (31, .int .i64 (a0.Funcs.length : Int)), (32, .int .i64 s11482.2)] ∧ SL w [] w_ [Ae g42 26 [.string ⟨⟨a0.Name⟩⟩, v4556, v12081, .slice none 0 0], Ae g19 26 [.string ⟨⟨[]⟩⟩, .slice none 0 0, .slice none 0 0, .slice none 0 0], Sl Ag v4556 o4553, Sl As v12081 s11482.1]) H ?_ ?_
   ·exact ⟨(.slice none 0 0), F9078.sb, (SL.BF (T := As) s5454).f3.drop.f3.f3.f3⟩
   ·intro s11482 q12383 w12384 hI12385 o12382 H hr
    obtain ⟨v12081, F12380, s12381⟩ := hI12385
    replace H : DC a0 s11482 = some o12382 := H
    unfold DC at H
    refine gc 6 F12380 rfl fun _ F12387 => ?_
    refine AK F12387 H 6 4 rfl rfl rfl (fun hb12390 H _ F12391 => ?_) (fun hb12390 H _ F12391 => ?_)
    ·obtain ⟨x12562, hx12563, H⟩ := bind_ok H
     obtain ⟨ad12564, cs12567, G12568, hi12565, hc12566, hr12569, hG12570⟩ := Rd.idx hr0_2 FM rfl hx12563
     obtain ⟨v12571, v12573, rfl, hr12572, hr12574⟩ := (C2 hr12569 hG12570)
     replace hc12566 := hc12566 _ _ s12381
     refine gi F12391 hi12565 0 rfl fun _ F12575 => ?_
     refine gx F12575 (Be It rfl hc12566 rfl) 0 rfl rfl fun _ F12576 => ?_
     refine An F12576 s12381 HE rfl rfl fun g12577 w12578 q12579 F12580 s12581 => ?_
     refine AH F12580 s12581 rfl rfl Ji (Af rfl (Af (Aj (fR hr12572 s12581)) (Af rfl (Af rfl (Af (Aj (fR hr12574 s12581)) AM))))) (Nat.le_of_ble_eq_true rfl) fun w12583 q12584 F12585 s12586 => ?_
     obtain ⟨x12605, hx12606, H⟩ := bind_ok H
     refine gw 6 F12585 rfl fun _ F12607 => ?_
     refine AA F12607 s12586 m0 0 rfl fun _ F12608 => ?_
     have s12615 := (SL.BF (T := Ty.u8) s12586)
     obtain ⟨_, hr_⟩ := (CU hr12572 s12615)
     refine Ba Flat.u8 F12608 s12615 HG rfl rfl rfl rfl hr_ rfl rfl hx12606 rfl fun v12610 w12611 q12612 F12613 s12614 => ?_
     refine gw 2 F12613 rfl fun _ F12616 => ?_
     refine AZ F12616 s12614.f1 rfl rfl Rj (AG (fO s12614.f1 m1)) (Aj (fO s12614.f1 m1)) rfl fun w12617 q12618 F12619 s12620 => ?_
     obtain ⟨x12639, hx12640, H⟩ := bind_ok H
     refine gw 5 F12619 rfl fun _ F12641 => ?_
     refine AA F12641 s12620 m0 0 rfl fun _ F12642 => ?_
     have s12649 := (SL.BF (T := Ty.u8) s12620)
     obtain ⟨_, hr_⟩ := (CU hr12574 s12649)
     refine Ba Flat.u8 F12642 s12649 Gn rfl rfl rfl rfl hr_ rfl rfl hx12640 rfl fun v12644 w12645 q12646 F12647 s12648 => ?_
     refine gw 1 F12647 rfl fun _ F12650 => ?_
     refine AZ F12650 s12648.f1 rfl rfl Mf (AG (fO s12648.f1 m1)) (Aj (fO s12648.f1 m1)) rfl fun w12651 q12652 F12653 s12654 => ?_
     refine gw 4 F12653 rfl fun _ F12656 => ?_
     refine AA F12656 s12654 m3 0 rfl fun _ F12657 => ?_
     refine AA F12657 s12654 m0 0 rfl fun _ F12658 => ?_
     have s12666 : SL w [] _ (Dt As (⟨x12562.Name, (⟨x12605, x12562.Sig.Result⟩ : Am), x12562.Ak, x12639⟩ : A3) [.string ⟨⟨x12562.Name⟩⟩, v12610, .int .u8 (x12562.Sig.Result.toNat : Int), .int .i64 x12562.Ak, v12644] :: [Ae g12577 69 [.string ⟨⟨x12562.Name⟩⟩, v12610, .int .u8 (x12562.Sig.Result.toNat : Int), .int .i64 x12562.Ak, v12644], Ae g42 26 [.string ⟨⟨a0.Name⟩⟩, v4556, v12081, .slice none 0 0], Ae g19 26 [.string ⟨⟨[]⟩⟩, .slice none 0 0, .slice none 0 0, .slice none 0 0], Sl Ag v4556 o4553, Sl As v12081 s11482.1]) := (SL.Ih (f := ES) (x := (⟨x12562.Name, (⟨x12605, x12562.Sig.Result⟩ : Am), x12562.Ak, x12639⟩ : A3)) (SL.Dj (SL.C6 (SL.Dj (SL.Ih (f := CV) (x := (⟨x12605, x12562.Sig.Result⟩ : Am)) (SL.Dj (SL.dsl (SL.C6 (SL.Dj (SL.C6 (SL.dsl s12654.f1) (Flat.int .i64) x12562.Ak)) Flat.u8 x12562.Sig.Result).f3)))) Flat.str x12562.Name)))
     refine B7 F12658 s12666 FM rfl (by decide) rfl rfl rfl fun v12659 w12660 q12661 F12662 s12663 => ?_
     obtain ⟨x12667, hx12668, H⟩ := bind_ok H
     refine Dg F12662 s12663.f5 FM rfl rfl rfl rfl rfl rfl hx12668 rfl fun v12669 w12670 q12671 F12672 s12673 => ?_
     refine gw 1 F12672 rfl fun _ F12674 => ?_
     refine AZ F12674 s12673.f2 rfl rfl QC (AG (fO s12673.f2 m1)) (Aj (fO s12673.f2 m1)) rfl fun w12675 q12676 F12677 s12678 => ?_
     cases H
     refine gw 7 F12677 rfl fun _ F12680 => ?_
     exact ⟨_, rfl, v12669, F12680.sb, s12678.f2.drop.f1.f3.f3.f3⟩
    ·cases H
     obtain rfl := hr _ rfl
     exact ⟨v12081, F12391.sb, s12381⟩
  ·intro q12683 w12684 hJ
   obtain ⟨v11480, F12681, s12682⟩ := hJ
   have H := R11479
   clear R11479 H11478
   refine ge 3 F12681 rfl fun _ F12681 => ?_
   refine AA F12681 s12682 m0 0 rfl fun _ F12691 => ?_
   refine AH F12691 s12682.f1 rfl rfl Mg (Af rfl (Af (Aj (fO s12682.f1 m2)) (Af (Aj (fO s12682.f1 m3)) (Af rfl AM)))) (Nat.le_of_ble_eq_true rfl) fun w12692 q12693 F12694 s12695 => ?_
   cases H
   refine gw 3 F12694 rfl fun _ F12694 => ?_
   refine B5 (rs := [.cell 2 26]) (vs := [.agg ⟨[.string ⟨⟨a0.Name⟩⟩, v4556, v11480, .slice none 0 0]⟩]) F12694 (by rfl) ⟨_, _, rfl, RV.blk s12695 m0 rfl Qa rfl, rfl⟩ ⟨_, rfl, ⟨v4556, v11480, (.slice none 0 0), rfl, (SL.BF (T := (Ty.slice Ty.u8)) s12695).f1.drop.f1.drop.f2.f2⟩⟩
end Go.Proofs.YtpnacdckamiedaaGreat
namespace Go.Proofs.YtpnacdckamiedaaGreat
open Go Go.RowKit Go.Pv Go.Proofs.Tryz
def Ms (v : Value) (s : Fi) (qs : List Ck) : Prop := ∃ k0 k1 : Nat, ∃ v0 : Value, v = .pointer (some ⟨k0, 0, none⟩) ∧ qs = [Ae k0 152 [v0, .int .i64 s.room, .int .i64 s.used, .int .i64 s.last, .map (some k1)], Sl Ag v0 s.classes, Mp (Value.int .i64) JI k1 s.m]
theorem Sb {w : World} {v0 : Value} {a0 : List Ad} {a1 : Int} {r : (Option Fi) × Int} (hr0 : Rd Ag w [] v0 a0) (H : Iw a0 a1 = some r) :
  Calls prog 42 #[v0, .int .i64 a1] w (AN fun u_ w_ => ∃ u0 : Value, u_ = .tuple ⟨[u0, .int .i64 r.2]⟩ ∧ SL w [] w_ [P0 u0 r.1 (Ms u0)]) := by
 have s0 : SL w [] w [] := SL.Bf w
 refine BV func42 ntmps42 12 rfl rfl rfl fun _ F14 => ?_
 unfold Iw at H
 refine B2 13 F14 H (fun hb15 H F16 => ?_) (fun hb15 H F16 => ?_)
 ·cases H
  refine gw 14 F16 rfl fun _ F19 => ?_
  exact rt F19 ⟨(.pointer none), rfl, (SL.MN s0)⟩
 ·refine gw 5 F16 rfl fun _ F20 => ?_
  refine AK F20 H 8 6 rfl rfl rfl (fun hb21 H _ F24 => ?_) (fun hb21 H _ F66 => ?_)
  ·cases H
   exact rt F24 ⟨(.pointer none), rfl, (SL.MN s0)⟩
  ·obtain ⟨x64, hx65, H⟩ := bind_ok H
   refine DW F66 s0 (KO   (hr0.Az s0) hx65) 13 rfl rfl rfl rfl fun w68 _ F76 s72 => ?_
   refine AK F76 H 9 5 rfl rfl rfl (fun hb77 H _ F80 => ?_) (fun hb77 H _ F96 => ?_)
   ·cases H
    exact rt F80 ⟨(.pointer none), rfl, (SL.MN s72)⟩
   ·refine Uy (Value.int .i64) JI F96 s72 rfl fun g97 w98 q99 F100 s101 => ?_
    refine gx F100 (AP (vs := [.int .i64 a1, .map (some g97)]) R7 Ua rfl (cs := [.slice none 0 0, .int .i64 a1, .int .i64 0, .int .i64 0, .map (some g97)]) (rfl)) 0 rfl rfl fun _ F103 => ?_
    refine Bz F103 s101 rfl rfl rfl fun g104 w105 q106 F107 s108 => ?_
    refine gw 7 F107 rfl fun _ F4236 => ?_
    obtain ⟨o6977, H6978, R6979⟩ := bind_ok H
    clear H
    refine gx F4236 (Ao rfl underlying22 (fR hr0 s108)) 3 rfl rfl fun _ F4238 => ?_
    refine BB (fun a w_ => ∃ v6980 : Value, Fr a 51 [(8, .pointer (some ⟨g104, 0, none⟩))] ∧ SL w [] w_ [Ae g104 152 [v6980, .int .i64 a1, .int .i64 0, .int .i64 0, .map (some g97)], Mp (Value.int .i64) JI g97 ([] : List (Int × Option Nat)), Sl Ag v6980 o6977]) ?_ ?_
    ·have H := H6978
     refine gc 1 F4238 rfl fun _ F4238 => ?_
     refine Dk (Gj a0) (fun s6982 a w_ => ∃ v7647 : Value, Fr a 51 [(8, .pointer (some ⟨g104, 0, none⟩)), (29, v0), (30, .int .i64 (a0.length : Int)), (31, .int .i64 s6982.2)] ∧ SL w [] w_ [Ae g104 152 [v7647, .int .i64 a1, .int .i64 0, .int .i64 0, .map (some g97)], Mp (Value.int .i64) JI g97 ([] : List (Int × Option Nat)), Sl Ag v7647 s6982.1]) H ?_ ?_
     ·exact ⟨(.slice none 0 0), F4238.sb, (SL.BF (T := Ag) s108).f2.f2⟩
     ·intro s6982 q8001 w8002 hI8003 o8000 H hr
      obtain ⟨v7647, F7998, s7999⟩ := hI8003
      replace H : Gj a0 s6982 = some o8000 := H
      unfold Gj at H
      refine gc 6 F7998 rfl fun _ F8005 => ?_
      refine AK F8005 H 6 4 rfl rfl rfl (fun hb8008 H _ F8009 => ?_) (fun hb8008 H _ F8009 => ?_)
      ·obtain ⟨x8204, hx8205, H⟩ := bind_ok H
       obtain ⟨ad8206, cs8209, G8210, hi8207, hc8208, hr8211, hG8212⟩ := Rd.idx hr0 BK rfl hx8205
       obtain ⟨v8213, rfl, hr8214⟩ := (BC hr8211 hG8212)
       replace hc8208 := hc8208 _ _ s7999
       refine gi F8009 hi8207 0 rfl fun _ F8215 => ?_
       refine gx F8215 (Be Gy rfl hc8208 rfl) 0 rfl rfl fun _ F8216 => ?_
       refine An F8216 s7999 GM rfl rfl fun g8217 w8218 q8219 F8220 s8221 => ?_
       refine AH F8220 s8221 rfl rfl Iv (Af rfl (Af rfl (Af (Aj (fR hr8214 s8221)) AM))) (Nat.le_of_ble_eq_true rfl) fun w8223 q8224 F8225 s8226 => ?_
       obtain ⟨x8247, hx8248, H⟩ := bind_ok H
       refine gw 5 F8225 rfl fun _ F8249 => ?_
       refine AA F8249 s8226 m0 0 rfl fun _ F8250 => ?_
       refine AU F8250 (CP    (hr8214.Az s8226) hx8248) fun v8251 w8252 _ hS8255 F8254 => ?_
       obtain ⟨_, rfl, hq8257⟩ := hS8255
       have s8256 := s8226.add hq8257
       refine gw 1 F8254 rfl fun _ F8260 => ?_
       refine AZ F8260 s8256.f1 rfl rfl KA (AG (fO s8256.f1 m1)) (Aj (fO s8256.f1 m1)) rfl fun w8261 q8262 F8263 s8264 => ?_
       obtain ⟨x8337, hx8338, H⟩ := bind_ok H
       refine gw 2 F8263 rfl fun _ F8263 => ?_
       refine IV DR s8264.f1.drop.f1.drop.f2.drop ?_
       have s8349 := s8264.drew
       refine hq [0, 1, 2, 3, 5] F8263 s8349.f1.drop.f1.drop.f2.drop (QI.ev 4 rfl <| QI.ld m0 rfl <| QI.nil) (by kernel_rfl) fun _ F11308349 => ?_
       refine Jj [0, 1, 2, 3, 4, 5, 6] (fun a w_ => ∃ v10758350 : Value, Fr a 51 [(8, .pointer (some ⟨g104, 0, none⟩)), (29, v0), (30, .int .i64 (a0.length : Int)), (31, .int .i64 s6982.2), (39, .pointer (some ⟨g104, 0, none⟩)), (43, v7647), (45, v10758350)] ∧ SL w [] w_ [Ae g8217 109 [.string ⟨⟨x8204.Name⟩⟩, .int .i64 x8204.Al, v8251], Mp (Value.int .i64) JI g97 ([] : List (Int × Option Nat)), Sl Ag v10758350 ([(⟨x8204.Name, x8204.Al, x8247⟩ : Ad)] : List Ad), Ae g104 152 [v7647, .int .i64 a1, .int .i64 0, .int .i64 0, .map (some g97)], Sl Ag v7647 s6982.1]) ?_ fun hD0 => ?_
       ·rintro a w_ ⟨v10758350, F11810349, s11810349⟩
        refine ho 7 rfl (by kernel_rfl) ?_
        refine Dg F11810349 s11810349.f2.f4 BK rfl rfl rfl rfl rfl rfl hx8338 rfl fun v10858350 w10858351 q10858352 F10858353 s10858354 => ?_
        refine gw 1 F10858353 rfl fun _ F10858353 => ?_
        refine ⟨s10858354.drop.f2.drop, ?_⟩
        refine hq [8, 9] F10858353 s10858354.drop.f2.drop (QI.ev 2 rfl <| QI.nil) (by kernel_rfl) fun _ F11509349 => ?_
        refine ho 10 rfl (by kernel_rfl) ?_
        refine AZ F11509349 s10858354.f3 rfl rfl N5 (AG (fO s10858354.f3 m1)) (Aj (fO s10858354.f3 m1)) rfl fun w11158350 q11158351 F11158352 s11158353 => ?_
        refine gw 1 F11158352 rfl fun _ F11158352 => ?_
        refine ⟨s11158353.drop.drop, ?_⟩
        refine Jn (by kernel_rfl) ?_
        cases H
        refine ge 6 F11158352 rfl fun _ F8350 => ?_
        exact ⟨_, rfl, v10858350, F8350.sb, s11158353.f2.drop.f1.f2.f2⟩
       refine Hh 4 6 rfl rfl (by kernel_rfl) ?_ ?_
       ·refine AA F11308349 s8349 m2 1 rfl fun _ F10558351 => ?_
        refine ⟨s8349.f1.drop.f1.drop.f2.drop, ?_⟩
        refine ho 6 rfl (by kernel_rfl) ?_
        have s10758357 : SL w [] _ (Dt Ag (⟨x8204.Name, x8204.Al, x8247⟩ : Ad) [.string ⟨⟨x8204.Name⟩⟩, .int .i64 x8204.Al, v8251] :: [Ae g8217 109 [.string ⟨⟨x8204.Name⟩⟩, .int .i64 x8204.Al, v8251], Ae g104 152 [v7647, .int .i64 a1, .int .i64 0, .int .i64 0, .map (some g97)], Mp (Value.int .i64) JI g97 ([] : List (Int × Option Nat)), Sl Ag v7647 s6982.1]) := (SL.Ih (f := D2) (x := (⟨x8204.Name, x8204.Al, x8247⟩ : Ad)) (SL.Dj (SL.C6 (SL.Dj (SL.C6 (SL.dsl s8349.f1) (Flat.int .i64) x8204.Al)) Flat.str x8204.Name)))
        refine B7 F10558351 s10758357 BK rfl (by decide) rfl rfl rfl fun v10758350 w10758351 q10758352 F10758353 s10758354 => ?_
        refine gw 1 F10758353 rfl fun _ F10758353 => ?_
        exact ⟨s10758354.drop.f1.drop.f2.drop, GV hD0 ⟨v10758350, F10758353.sb, s10758354.f4.f3.f2.f4.f4⟩ (by kernel_rfl)⟩
       ·have s10758357 : SL w [] _ (Dt Ag (⟨x8204.Name, x8204.Al, x8247⟩ : Ad) [.string ⟨⟨x8204.Name⟩⟩, .int .i64 x8204.Al, v8251] :: [Ae g8217 109 [.string ⟨⟨x8204.Name⟩⟩, .int .i64 x8204.Al, v8251], Ae g104 152 [v7647, .int .i64 a1, .int .i64 0, .int .i64 0, .map (some g97)], Mp (Value.int .i64) JI g97 ([] : List (Int × Option Nat)), Sl Ag v7647 s6982.1]) := (SL.Ih (f := D2) (x := (⟨x8204.Name, x8204.Al, x8247⟩ : Ad)) (SL.Dj (SL.C6 (SL.Dj (SL.C6 (SL.dsl s8349.f1) (Flat.int .i64) x8204.Al)) Flat.str x8204.Name)))
        refine B7 F11308349 s10758357 BK rfl (by decide) rfl rfl rfl fun v10758350 w10758351 q10758352 F10758353 s10758354 => ?_
        refine gw 1 F10758353 rfl fun _ F10758353 => ?_
        refine ⟨s10758354.drop.f1.drop.f2.drop, ?_⟩
        refine ho 4 rfl (by kernel_rfl) ?_
        refine AA F10758353 s10758354 m2 1 rfl fun _ F10558351 => ?_
        exact ⟨s10758354.drop.f1.drop.f2.drop, GV hD0 ⟨v10758350, F10558351.sb, s10758354.f4.f3.f2.f4.f4⟩ (by kernel_rfl)⟩
      ·cases H
       obtain rfl := hr _ rfl
       exact ⟨v7647, F8009.sb, s7999⟩
    ·intro q8353 w8354 hJ
     obtain ⟨v6980, F8351, s8352⟩ := hJ
     have H := R6979
     clear R6979 H6978
     cases H
     refine ge 9 F8351 rfl fun _ F8356 => ?_
     exact rt F8356 ⟨_, rfl, (SL.UF (qs := [Ae g104 152 [v6980, .int .i64 a1, .int .i64 0, .int .i64 0, .map (some g97)], Sl Ag v6980 o6977, Mp (Value.int .i64) JI g97 ([] : List (Int × Option Nat))]) ⟨g104, g97, v6980, rfl, rfl⟩ s8352.f1.f2.f2)⟩
end Go.Proofs.YtpnacdckamiedaaGreat
namespace Go.Proofs.YtpnacdckamiedaaGreat
open Go Go.RowKit Go.Pv Go.Proofs.Tryz
def BX (K : MK) (S : MS) : Ck := Any fun qs => ∃ vc vt cs, B1 S cs ∧ qs = mS K vc vt cs S
abbrev TU (K : MK) (M : Ah) : List Ck := [Sl Ag K.v1 M.Classes, Sl As K.v2 M.Funcs, Sl Ag K.vhc M.Classes]
noncomputable def K3 (m : Ah) (i : Int) : Option (Int ⊕ (Int ⊕ Unit)) :=
 if decide (i < (m.Funcs.length : Int)) = true then (idx m.Funcs i).bind fun f => (if decide (f.Ak < (f.Sig.Ai.length : Int)) = true then some true else if decide (f.Ak > 16) = true then some true else some (decide ((f.Code.length : Int) > 4096))).bind fun b => if b = true then some (.inr (.inl 1)) else some (.inl (wr (i + 1))) else some (.inr (.inr ()))
noncomputable def MG (f : A3) (args : List Int) (st : List MV × Int) : Option ((List MV × Int) ⊕ List MV) :=
 if decide (st.2 < (f.Sig.Ai.length : Int)) = true then (idx f.Sig.Ai st.2).bind fun t => (Ds t).bind fun k => (idx args st.2).bind fun a => (app 8796093022208 st.1 [(⟨k, a⟩ : MV)]).bind fun l => some (.inl (l, wr (st.2 + 1))) else some (.inr st.1)
def HW (own : Ah) (room : Int) : MS := ⟨own, room, 0, [], [], [], 0, false, 0, 0, 0⟩
open Classical in
noncomputable def I7 (m : Ah) (entry : Int) (args : List Int) (room : Int) : Option (Option MS × Int) :=
 (I4 m 0).bind fun e => (if (!e.2) = true then some true else if decide (room < 0) = true then some true else if decide (room > 4096) = true then some true else (HC e.1 16).bind fun x => some (x != 0)).bind fun bad => if bad = true then some (none, 1) else
 (Ay (K3 m) 0).bind fun r => match r with
 | .inl x => some (none, x)
 | .inr _ => (if decide (entry < 0) = true then some true else some (decide (entry ≥ (m.Funcs.length : Int)))).bind fun b => if b = true then some (none, 71) else
  (idx m.Funcs entry).bind fun f => (E3 f.Sig args).bind fun ok => if (!ok) = true then some (none, 151) else
  (E1 m).bind fun own => (Iw own.Classes room).bind fun q => if (q.2 != 0) = true then some (none, 1) else
  if q.1 = some ⟨own.Classes, room, 0, 0, []⟩ then (Ay (MG f args) ([], 0)).bind fun l => (Ep entry l (HW own room)).bind fun S => some (some S, 0) else none
theorem WR : (prog.info? 99).bind (·.zero) = some (.agg ⟨[.nilIface, .string ⟨⟨[]⟩⟩, .slice none 0 0, .slice none 0 0, .slice none 0 0, .pointer none, .slice none 0 0, .int .i64 0, .slice none 0 0, .bool false, .int .i64 0, .int .i64 0, .int .i64 0]⟩) := by kernel_rfl
theorem XN : HH prog 99 [(0, 1), (1, 4), (5, 1), (6, 1), (7, 1), (8, 1), (9, 1), (10, 3)] = true := by kernel_rfl
theorem Vj : (prog.info? 80).bind (·.zero) = some (.agg ⟨[.slice none 0 0, .slice none 0 0, .int .i64 0]⟩) := by kernel_rfl
theorem X5 : (prog.info? 80).map (·.size) = some 3 := by kernel_rfl
theorem VI : (prog.info? 26).bind (·.zero) = some (.agg ⟨[.string ⟨⟨[]⟩⟩, .slice none 0 0, .slice none 0 0, .slice none 0 0]⟩) := by kernel_rfl
theorem Xq : (prog.info? 26).map (·.size) = some 4 := by kernel_rfl
theorem VR : El prog 66 2 = true := by kernel_rfl
theorem XD : Do prog 23 = true := by kernel_rfl
theorem QB : FD prog 66 0 0 1 = true := by kernel_rfl
theorem Wm : Do prog 63 = true := by kernel_rfl
theorem Wj : El prog 80 3 = true := by kernel_rfl
abbrev Xh : BO prog := ⟨⟨[(26, 0, 0, 1), (26, 1, 1, 1), (26, 2, 2, 1), (26, 3, 3, 1), (69, 0, 0, 1), (69, 1, 1, 2), (69, 2, 3, 1), (69, 3, 4, 1), (66, 0, 0, 1), (66, 1, 1, 1), (76, 0, 0, 1)], [25, 38, 39, 40, 41, 42, 43, 44], [3, 4, 22, 23, 63, 64, 67, 72, 94, 27, 95, 30], [(26, 4), (80, 3), (69, 5), (66, 2)]⟩, by kernel_rfl⟩
theorem SL.dn {w0 w : World} {F0 : List Nat} {qs ps : List Ck} (hs : SL w0 F0 w (qs ++ ps)) : SL w0 F0 w ps := by
 induction qs with
 | nil => exact hs
 | cons c l ih => exact ih (SL.drop hs)
theorem Yb {P : Program} [h0 : BO P] {Q0 : Exit → Act → World → Prop} {n : Nat} {m m' : CL} {K : List Kf} {a : Act} {w : World} {X : Act → World → Prop} (i : Nat) {e : Exit} (hF : Fr a n m) (k : ∀ a, Fr a n m' → X a w) (h : FR P Q0 h0.T n i (.ex e) K m = some (m', X) := by rfl) : Bg P Q0 K e a w := HF (d := .ex e) i hF h k
theorem SL.none_ {w0 w : World} {F0 : List Nat} {ps : List Ck} (hs : SL w0 F0 w ps) : SL w0 F0 w [] := SL.dn (qs := ps) (by rw [YD]; exact hs)
theorem SL.FX {α : Type} {T : Ty α} {v : Value} {l : List α} {w0 w : World} {F0 : List Nat} {ps : List Ck} (hs : SL w0 F0 w ps) (hm : Sl T v l ∈ ps) : Rd T w [] v l := by
 obtain ⟨F, h1, _⟩ := hs.st
 exact FO hm ⟨F, h1, by simp⟩
section
variable {w : World} {m : Ah} {entry room : Int} {args : List Int} {v1 v2 v3 va : Value}
open Classical in
theorem V0 {r : Option MS × Int} (h1 : Rd Ag w [] v1 m.Classes) (h2 : Rd As w [] v2 m.Funcs) (h3 : Rd (Ty.slice Ty.u8) w [] v3 m.Cf) (ha : Rd (Ty.int .i64) w [] va args) (H : I7 m entry args room = some r) :
  Calls prog 25 #[EM, .agg ⟨[.string ⟨⟨m.Name⟩⟩, v1, v2, v3]⟩, .int .i64 entry, va, .int .i64 room] w (AN fun u w_ => (r.1 = none ∧ u = .tuple ⟨[.pointer none, .int .i64 r.2]⟩ ∧ SL w [] w_ []) ∨ ∃ S K, r.1 = some S ∧ u = .tuple ⟨[jP K.g, .int .i64 r.2]⟩ ∧ SL w [] w_ (BX K S :: TU K S.m)) := by
 letI := Xh
 have s0 : SL w [] w [] := SL.Bf w
 unfold I7 at H
 obtain ⟨⟨e, is⟩, hE, H1⟩ := bind_ok H
 obtain ⟨bad, hB, H2⟩ := bind_ok H1
 clear H H1
 refine C9 func25 ntmps25 fun _ F1 => ?_
 refine Bz F1 s0 rfl rfl rfl fun g6 w1 _ F2 s1 => ?_
 refine zw F2 fun _ F3 => ?_
 refine AE F3 s1 m0 fun _ F4 => ?_
 refine AU F4 (Qu (h1.Az s1) (h2.Az s1) (h3.Az s1) hE) fun v w2 _ hS F5 => ?_
 obtain ⟨e1, e2, rfl, hq⟩ := hS
 have s2 : SL w [] w2 [Sl Ag e1 e.Classes, Sl Bv e2 e.AO, Ae g6 26 [.string ⟨⟨m.Name⟩⟩, v1, v2, v3]] := s1.add hq
 refine zw F5 fun _ F6 => ?_
 refine An F6 s2 Vj rfl rfl fun g12 w3 _ F7 s3 => ?_
 refine A9 (ds := [e1, e2, .int .i64 e.Fn]) F7 s3 rfl rfl X5 (Af (Aj (s3.form m1)) (Af (Aj (s3.form m2)) (Af rfl AM))) rfl fun w4 _ F8 s4 => ?_
 cases is with
 | false =>
  have hB' : some true = some bad := hB
  cases hB'
  rw [Ab rfl] at H2
  cases H2
  refine zw F8 fun _ F9 => ?_
  refine zt F9 rfl fun _ F10 => ?_
  exact rt F10 (.inl ⟨rfl, rfl, SL.none_ s4⟩)
 | true =>
  replace hB : (if decide (room < 0) = true then some true else if decide (room > 4096) = true then some true else (HC e 16).bind fun x => some (x != 0)) = some bad := hB
  refine IQ 13 F8 fun _ F9 => ?_
  by_cases hr0 : decide (room < 0) = true
  ·rw [Ab hr0] at hB
   cases hB
   rw [Ab rfl] at H2
   cases H2
   refine zw (F9.kt (d := 34) hr0) fun _ F10 => ?_
   refine zt F10 rfl fun _ F11 => ?_
   exact rt F11 (.inl ⟨rfl, rfl, SL.none_ s4⟩)
  rw [Ac hr0] at hB
  refine IQ 4 (F9.kf (d := 34) (Bool.eq_false_iff.2 hr0)) fun _ F10 => ?_
  by_cases hr1 : decide (room > 4096) = true
  ·rw [Ab hr1] at hB
   cases hB
   rw [Ab rfl] at H2
   cases H2
   refine zw (F10.kt (d := 38) hr1) fun _ F10 => ?_
   refine zt F10 rfl fun _ F11 => ?_
   exact rt F11 (.inl ⟨rfl, rfl, SL.none_ s4⟩)
  rw [Ac hr1] at hB
  obtain ⟨my, hM, hB1⟩ := bind_ok hB
  have F11 := F10.kf (d := 38) (Bool.eq_false_iff.2 hr1)
  refine Bu F11 rfl rfl rfl (Be Wj rfl (s4.E0 (ds := [e1, e2, .int .i64 e.Fn]) m0 fun j u h => by simpa using h) rfl) rfl rfl fun _ F12 => ?_
  refine Oc F12 (Qz (SL.FX s4 m1) (SL.FX s4 m2) hM) fun v w5 _ hS F13 => ?_
  obtain ⟨rfl, hq5⟩ := hS
  have s5 : SL w [] w5 [Ae g12 80 [e1, e2, .int .i64 e.Fn], Sl Ag e1 e.Classes, Sl Bv e2 e.AO, Ae g6 26 [.string ⟨⟨m.Name⟩⟩, v1, v2, v3]] := s4.add hq5
  cases hB1
  refine zw F13 fun _ F14 => ?_
  by_cases hmy : (my != 0) = true
  ·rw [Ab hmy] at H2
   cases H2
   refine zt F14 hmy fun _ F15 => ?_
   exact rt F15 (.inl ⟨rfl, rfl, SL.none_ s5⟩)
  rw [Ac hmy] at H2
  refine zf F14 (Bool.eq_false_iff.2 hmy) fun _ F15 => ?_
  have s6 := SL.drop (SL.drop (SL.drop s5))
  clear hB hM hE hmy s5 s4 s3 s2 hq hq5
  refine AE F15 s6 m0 fun _ F16 => ?_
  obtain ⟨A0, k0, e0⟩ := fR h2 s6
  refine sx F16 (Ao rfl underlying23 ⟨A0, k0, e0⟩) fun _ F17 => ?_
  refine IQ 3 F17 fun _ F17 => ?_
  obtain ⟨rl, hL, H3⟩ := bind_ok H2
  clear H2
  refine BB (fun a' w' => rl = .inr () ∧ Fr a' 134 [(0, EM), (2, .int .i64 entry), (3, va), (4, .int .i64 room), (6, .pointer (some ⟨g6, 0, none⟩))] ∧ SL w [] w' [Ae g6 26 [.string ⟨⟨m.Name⟩⟩, v1, v2, v3]]) ?_ ?_
  ·refine SE 1 F17 fun _ F17 => ?_
   refine Dk (K3 m) (fun i a w_ => Fr a 134 [(0, EM), (2, .int .i64 entry), (3, va), (4, .int .i64 room), (6, .pointer (some ⟨g6, 0, none⟩)), (44, v2), (45, .int .i64 (m.Funcs.length : Int)), (46, .int .i64 i)] ∧ SL w [] w_ [Ae g6 26 [.string ⟨⟨m.Name⟩⟩, v1, v2, v3]]) hL ⟨F17.sb, s6⟩ ?_
   rintro i a2 w6 ⟨F18, s7⟩ o Hb hr
   unfold K3 at Hb
   refine zc F18 fun _ F19 => ?_
   by_cases hi : decide (i < (m.Funcs.length : Int)) = true
   ·rw [Ab hi] at Hb
    obtain ⟨f, hf, Hc⟩ := bind_ok Hb
    obtain ⟨b, hb, Hd⟩ := bind_ok Hc
    clear Hb Hc
    refine zt F19 hi fun _ F20 => ?_
    obtain ⟨ad, ccs, G, hI2, hC, hR, hG⟩ := h2.idx J9 rfl hf
    obtain ⟨fv1, fv2, rfl, hR1, hR2⟩ := C2 hR hG
    refine sx F20 (hI2 _ _ _ _ _ _ _ _ _ _ rfl rfl) fun _ F21 => ?_
    refine zx F21 (Be PP rfl (hC _ _ s7) rfl) fun _ F22 => ?_
    refine An F22 s7 NU rfl rfl fun g15 w7 _ F23 s8 => ?_
    refine A9 (ds := [.string ⟨⟨f.Name⟩⟩, fv1, .int .u8 (f.Sig.Result.toNat : Int), .int .i64 f.Ak, fv2]) F23 s8 rfl rfl Sg (Af rfl (Af (Aj (fR hR1 s8)) (Af rfl (Af rfl (Af (Aj (fR hR2 s8)) AM))))) rfl fun w8 _ F24 s9 => ?_
    refine zw F24 fun _ F25 => ?_
    refine AE F25 s9 m0 fun _ F26 => ?_
    refine AE F26 s9 m0 fun _ F27 => ?_
    obtain ⟨A1, k1, e1⟩ := fR hR1 s9
    refine sx F27 (Ao rfl underlying63 ⟨A1, k1, e1⟩) fun _ F28 => ?_
    refine IQ 2 F28 fun _ F29 => ?_
    have fin : b = true → Sum.inr (Sum.inl 1) = o := fun h => by rw [Ab h] at Hd; cases Hd; rfl
    have s10 := SL.drop s9
    by_cases b1 : decide (f.Ak < (f.Sig.Ai.length : Int)) = true
    ·rw [Ab b1] at hb
     cases hb
     obtain rfl := fin rfl
     obtain rfl := hr _ rfl
     cases H3
     refine zw (F29.kt (d := 57) b1) fun _ F30 => ?_
     refine zt F30 rfl fun _ F31 => ?_
     exact rt F31 (.inl ⟨rfl, rfl, SL.none_ s10⟩)
    rw [Ac b1] at hb
    refine zw (F29.kf (d := 57) (Bool.eq_false_iff.2 b1)) fun _ F30 => ?_
    refine Bu F30 rfl rfl rfl (Ar D1 rfl (s9.Aq m0 (o := 3) rfl)) rfl rfl fun _ F31 => ?_
    refine IQ 3 F31 fun _ F32 => ?_
    by_cases b2 : decide (f.Ak > 16) = true
    ·rw [Ab b2] at hb
     cases hb
     obtain rfl := fin rfl
     obtain rfl := hr _ rfl
     cases H3
     refine zw (F32.kt (d := 62) b2) fun _ F33 => ?_
     refine zt F33 rfl fun _ F34 => ?_
     exact rt F34 (.inl ⟨rfl, rfl, SL.none_ s10⟩)
    rw [Ac b2] at hb
    cases hb
    refine zw (F32.kf (d := 62) (Bool.eq_false_iff.2 b2)) fun _ F33 => ?_
    refine Bu F33 rfl rfl rfl (Ar XU rfl (s9.Aq m0 (o := 4) rfl)) rfl rfl fun _ F34 => ?_
    obtain ⟨A2, k2, e2⟩ := fR hR2 s9
    refine Bu F34 rfl rfl rfl (Ao rfl underlying67 ⟨A2, k2, e2⟩) rfl rfl fun _ F35 => ?_
    refine zw F35 fun _ F36 => ?_
    by_cases b3 : decide ((f.Code.length : Int) > 4096) = true
    ·obtain rfl := fin b3
     obtain rfl := hr _ rfl
     cases H3
     refine zt F36 b3 fun _ F37 => ?_
     exact rt F37 (.inl ⟨rfl, rfl, SL.none_ s10⟩)
    ·rw [Ac b3] at Hd
     cases Hd
     refine zf F36 (Bool.eq_false_iff.2 b3) fun _ F37 => ?_
     exact ⟨_, rfl, F37.sb, s10⟩
   ·rw [Ac hi] at Hb
    cases Hb
    refine zf F19 (Bool.eq_false_iff.2 hi) fun _ F20 => ?_
    exact ⟨(hr _ rfl).symm, F20.sb, s7⟩
  rintro a3 w7 ⟨rfl, F30, s7⟩
  refine Yb 8 F30 fun _ F31 => ?_
  replace H3 : ((if decide (entry < 0) = true then some true else some (decide (entry ≥ (m.Funcs.length : Int)))).bind fun b => if b = true then some (none, 71) else (idx m.Funcs entry).bind fun f => (E3 f.Sig args).bind fun ok => if (!ok) = true then some (none, 151) else
   (E1 m).bind fun own => (Iw own.Classes room).bind fun q => if (q.2 != 0) = true then some (none, 1) else
   if q.1 = some ⟨own.Classes, room, 0, 0, []⟩ then (Ay (MG f args) ([], 0)).bind fun l => (Ep entry l (HW own room)).bind fun S => some (some S, 0) else none) = some r := H3
  obtain ⟨b, hb, H4⟩ := bind_ok H3
  clear H3 hL
  by_cases hn0 : decide (entry < 0) = true
  ·rw [Ab hn0] at hb
   cases hb
   cases H4
   refine zw (F31.kt (d := 72) hn0) fun _ F32 => ?_
   refine zt F32 rfl fun _ F33 => ?_
   exact rt F33 (.inl ⟨rfl, rfl, SL.none_ s7⟩)
  rw [Ac hn0] at hb
  cases hb
  refine zw (F31.kf (d := 72) (Bool.eq_false_iff.2 hn0)) fun _ F32 => ?_
  refine Bu F32 rfl rfl rfl (Ar XD rfl (s7.Aq m0 (o := 2) rfl)) rfl rfl fun _ F33 => ?_
  obtain ⟨A1, k1, e1⟩ := fR h2 s7
  refine Bu F33 rfl rfl rfl (Ao rfl underlying23 ⟨A1, k1, e1⟩) rfl rfl fun _ F34 => ?_
  refine zw F34 fun _ F35 => ?_
  by_cases hn1 : decide (entry ≥ (m.Funcs.length : Int)) = true
  ·rw [Ab hn1] at H4
   cases H4
   refine zt F35 hn1 fun _ F36 => ?_
   exact rt F36 (.inl ⟨rfl, rfl, SL.none_ s7⟩)
  rw [Ac hn1] at H4
  obtain ⟨f, hf, H5⟩ := bind_ok H4
  obtain ⟨ok, hok, H6⟩ := bind_ok H5
  clear H4 H5
  refine zf F35 (Bool.eq_false_iff.2 hn1) fun _ F36 => ?_
  refine AE F36 s7 m0 fun _ F37 => ?_
  obtain ⟨ad, ccs, G, hI2, hC, hR, hG⟩ := h2.idx J9 rfl hf
  obtain ⟨fv1, fv2, rfl, hR1, hR2⟩ := C2 hR hG
  refine sx F37 (hI2 _ _ _ _ _ _ _ _ _ _ rfl rfl) fun _ F38 => ?_
  refine sx F38 (Di LP rfl) fun _ F39 => ?_
  refine sx F39 (Be VR rfl (cs := [fv1, .int .u8 (f.Sig.Result.toNat : Int)]) ((hC _ _ s7).sub 1 (K4 _ rfl)) rfl) fun _ F40 => ?_
  refine zw F40 fun _ F41 => ?_
  refine AU F41 (M9 (a0 := f.Sig) (hR1.Az s7) (ha.Az s7) hok) fun v w8 _ hS F42 => ?_
  obtain ⟨rfl, hq8⟩ := hS
  have s8 : SL w [] w8 [Ae g6 26 [.string ⟨⟨m.Name⟩⟩, v1, v2, v3]] := s7.add hq8
  cases ok with
  | false =>
   rw [Ab (show (!false) = true from rfl)] at H6
   cases H6
   refine zw F42 fun _ F43 => ?_
   refine zt F43 rfl fun _ F44 => ?_
   exact rt F44 (.inl ⟨rfl, rfl, SL.none_ s8⟩)
  | true =>
  rw [Ac (show ¬ (!true) = true by simp)] at H6
  obtain ⟨own, hown, H7⟩ := bind_ok H6
  obtain ⟨⟨hp, er⟩, hH, H8⟩ := bind_ok H7
  clear H6 H7
  refine zw F42 fun _ F43 => ?_
  refine zf F43 rfl fun _ F44 => ?_
  refine AE F44 s8 m0 fun _ F45 => ?_
  refine AU F45 (M6 (h1.Az s8) (h2.Az s8) (h3.Az s8) hown) fun v w9 _ hS F46 => ?_
  obtain ⟨u0, u1, u2, rfl, hq9⟩ := hS
  have s9 : SL w [] w9 [Sl Ag u0 own.Classes, Sl As u1 own.Funcs, Sl (Ty.slice Ty.u8) u2 own.Cf, Ae g6 26 [.string ⟨⟨m.Name⟩⟩, v1, v2, v3]] := s8.add hq9
  refine An F46 s9 VI rfl rfl fun g16 w10 _ F47 s10 => ?_
  refine A9 (ds := [.string ⟨⟨own.Name⟩⟩, u0, u1, u2]) F47 s10 rfl rfl Xq (Af rfl (Af (Aj (s10.form m1)) (Af (Aj (s10.form m2)) (Af (Aj (s10.form m3)) AM)))) rfl fun w11 _ F48 s11 => ?_
  refine zw F48 fun _ F49 => ?_
  refine AE F49 s11 m0 fun _ F50 => ?_
  refine AU F50 (Sb (SL.FX s11 m1) hH) fun v w12 _ hS F51 => ?_
  obtain ⟨uh, rfl, hq12⟩ := hS
  have s12 : SL w [] w12 [P0 uh hp (Ms uh), Ae g16 26 [.string ⟨⟨own.Name⟩⟩, u0, u1, u2], Sl Ag u0 own.Classes, Sl As u1 own.Funcs, Sl (Ty.slice Ty.u8) u2 own.Cf, Ae g6 26 [.string ⟨⟨m.Name⟩⟩, v1, v2, v3]] := s11.add hq12
  refine zw F51 fun _ F52 => ?_
  dsimp only at H8
  by_cases her : (er != 0) = true
  ·rw [Ab her] at H8
   cases H8
   refine zt F52 her fun _ F53 => ?_
   exact rt F53 (.inl ⟨rfl, rfl, SL.none_ s12⟩)
  rw [Ac her] at H8
  refine zf F52 (Bool.eq_false_iff.2 her) fun _ F53 => ?_
  split at H8 <;> rename_i hhp
  rotate_left
  ·cases H8
  obtain ⟨l, hl, H9⟩ := bind_ok H8
  obtain ⟨S, hen, H10⟩ := bind_ok H9
  cases H10
  clear H8 H9
  obtain ⟨qs, hQ, s13⟩ := SL.VM s12 hhp
  obtain ⟨gh, gm, vh, rfl, rfl⟩ := hQ
  dsimp only at s13
  refine AE F53 s13 m3 fun _ F54 => ?_
  refine zx F54 (AP (vs := [EM, .agg ⟨[.string ⟨⟨own.Name⟩⟩, u0, u1, u2]⟩, jP gh]) WR XN rfl (cs := [EM, .string ⟨⟨own.Name⟩⟩, u0, u1, u2, jP gh, .slice none 0 0, .int .i64 0, .slice none 0 0, .bool false, .int .i64 0, .int .i64 0, .int .i64 0]) (by rfl)) fun _ F55 => ?_
  refine Bz F55 s13 rfl rfl rfl fun gb w14 _ F56 s14 => ?_
  refine zw F56 fun _ F57 => ?_
  refine AE F57 s14 m8 fun _ F58 => ?_
  refine sx F58 (hI2 _ _ _ _ _ _ _ _ _ _ rfl rfl) fun _ F59 => ?_
  refine sx F59 (Di LP rfl) fun _ F60 => ?_
  refine sx F60 (PX QB rfl rfl) fun _ F61 => ?_
  refine sx F61 (Ar Wm rfl ((hC _ _ s14).at_ (o := 1) rfl)) fun _ F62 => ?_
  obtain ⟨A6, k6, e6⟩ := fR hR1 s14
  refine sx F62 (Ao rfl underlying63 ⟨A6, k6, e6⟩) fun _ F63 => ?_
  refine IQ 3 F63 fun _ F64 => ?_
  refine BB (fun a' w' => ∃ vl, Fr a' 134 [(2, .int .i64 entry), (19, jP gb), (20, vl)] ∧ SL w [] w' (Sl BP vl l :: Ae gb 99 [EM, .string ⟨⟨own.Name⟩⟩, u0, u1, u2, jP gh, .slice none 0 0, .int .i64 0, .slice none 0 0, .bool false, .int .i64 0, .int .i64 0, .int .i64 0] :: Ae gh 152 [vh, .int .i64 room, .int .i64 0, .int .i64 0, .map (some gm)] :: Sl Ag vh own.Classes :: Mp (Value.int .i64) JI gm [] :: Ae g16 26 [.string ⟨⟨own.Name⟩⟩, u0, u1, u2] :: Sl Ag u0 own.Classes :: Sl As u1 own.Funcs :: Sl (Ty.slice Ty.u8) u2 own.Cf :: [Ae g6 26 [.string ⟨⟨m.Name⟩⟩, v1, v2, v3]])) ?_ ?_
  ·refine SE 1 F64 fun _ F64 => ?_
   refine Dk (MG f args) (fun st a w_ => ∃ vl, Fr a 134 [(2, .int .i64 entry), (3, va), (19, jP gb), (20, vl), (111, fv1), (112, .int .i64 (f.Sig.Ai.length : Int)), (113, .int .i64 st.2)] ∧ SL w [] w_ (Sl BP vl st.1 :: Ae gb 99 [EM, .string ⟨⟨own.Name⟩⟩, u0, u1, u2, jP gh, .slice none 0 0, .int .i64 0, .slice none 0 0, .bool false, .int .i64 0, .int .i64 0, .int .i64 0] :: Ae gh 152 [vh, .int .i64 room, .int .i64 0, .int .i64 0, .map (some gm)] :: Sl Ag vh own.Classes :: Mp (Value.int .i64) JI gm [] :: Ae g16 26 [.string ⟨⟨own.Name⟩⟩, u0, u1, u2] :: Sl Ag u0 own.Classes :: Sl As u1 own.Funcs :: Sl (Ty.slice Ty.u8) u2 own.Cf :: [Ae g6 26 [.string ⟨⟨m.Name⟩⟩, v1, v2, v3]])) hl ⟨.slice none 0 0, F64.sb, SL.BF (T := BP) s14⟩ ?_
   rintro ⟨ls, i⟩ a2 w6 ⟨vl, F65, s15⟩ o Hb hr
   dsimp only at s15
   unfold MG at Hb
   dsimp only at Hb
   refine zc F65 fun _ F66 => ?_
   by_cases hi : decide (i < (f.Sig.Ai.length : Int)) = true
   ·rw [Ab hi] at Hb
    obtain ⟨t, ht, Hc⟩ := bind_ok Hb
    obtain ⟨k, hk, Hd⟩ := bind_ok Hc
    obtain ⟨ar, har, He⟩ := bind_ok Hd
    obtain ⟨l2, hap, Hf⟩ := bind_ok He
    cases Hf
    clear Hb Hc Hd He
    refine zt F66 hi fun _ F67 => ?_
    obtain ⟨ad3, hI3, hC3⟩ := hR1.Qj Flat.u8 RA rfl ht
    refine zx F67 (hI3 _ _ _ _ _ _ _ _ _ _ rfl rfl) fun _ F68 => ?_
    refine zx F68 (Ar ND rfl (by have := hC3 _ _ s15 0 _ rfl; rwa [add_zero'] at this)) fun _ F69 => ?_
    obtain ⟨ad4, hI4, hC4⟩ := ha.Qj (Flat.int .i64) Kt rfl har
    have hcell : ∀ w', (∃ ps, SL w [] w' ps) → w'.cell? ad4 = some (.int .i64 ar) := fun w' ⟨ps, h⟩ => by have := hC4 _ _ h 0 _ rfl; rwa [add_zero'] at this
    refine BH (fun w_ => ∃ ps, SL w [] w_ ps) [] Cn (Ce [0, 1, 3, 4, 5, 6] F69 (Bl rfl) ⟨_, s15.drew⟩ (QI.ev 4 rfl <| QI.ix hI4 rfl <| QI.op rfl (fun w hw => Ar D1 rfl (hcell w hw)) rfl <| QI.nil) fun _ F70 => ?_)
    refine BN 2 rfl (AU F70 (Ju hk) fun v8 w8 _ hS F71 => A8 ⟨fun _ => ⟨_, s15.drew.add hS.2⟩, ?_⟩)
    obtain ⟨rfl, hq8⟩ := hS
    have s16 : SL w [] w8 (Sl BP vl ls :: Ae gb 99 [EM, .string ⟨⟨own.Name⟩⟩, u0, u1, u2, jP gh, .slice none 0 0, .int .i64 0, .slice none 0 0, .bool false, .int .i64 0, .int .i64 0, .int .i64 0] :: Ae gh 152 [vh, .int .i64 room, .int .i64 0, .int .i64 0, .map (some gm)] :: Sl Ag vh own.Classes :: Mp (Value.int .i64) JI gm [] :: Ae g16 26 [.string ⟨⟨own.Name⟩⟩, u0, u1, u2] :: Sl Ag u0 own.Classes :: Sl As u1 own.Funcs :: Sl (Ty.slice Ty.u8) u2 own.Cf :: [Ae g6 26 [.string ⟨⟨m.Name⟩⟩, v1, v2, v3]]) := s15.drew.add hq8
    refine QW 7 rfl F71 ⟨_, s16⟩ (AP (vs := [.int .i64 k, .int .i64 ar]) Cm UR rfl (cs := [.int .i64 k, .int .i64 ar]) (by rfl)) fun _ F72 => ?_
    refine BN 8 rfl (B7 F72 (s16.C6 DY ⟨k, ar⟩) FZ rfl rfl rfl rfl rfl fun u w9 _ F73 s17 => A8 ⟨fun _ => ⟨_, s17⟩, ?_⟩)
    obtain ⟨G9, hG9⟩ := s17.Bm m0
    refine BN 9 rfl (Ba DY F73 s17.f1 FZ rfl rfl rfl rfl hG9 rfl rfl hap rfl fun v5 w10 _ F74 s18 => A8 ⟨fun _ => ⟨_, s18⟩, ?_⟩)
    refine Fw 10 rfl F74 ⟨_, s18⟩ fun _ F75 => BE ?_
    refine ze F75 fun _ F76 => ?_
    exact ⟨_, rfl, v5, F76.sb, SL.drop s18.f1⟩
   ·rw [Ac hi] at Hb
    cases Hb
    obtain rfl := hr _ rfl
    refine zf F66 (Bool.eq_false_iff.2 hi) fun _ F67 => ?_
    exact ⟨vl, F67.sb, s15⟩
  rintro a3 w15 ⟨vl, F70, s15⟩
  refine ze F70 fun _ F71 => ?_
  let K : MK := ⟨gb, gh, gm, u0, u1, u2, vh⟩
  have t1 := (SL.J1 (qs := []) s15.f4.f3).f2.f2
  have t2 : SL w [] w15 (Oj K (HW own room) :: Sl BP vl l :: Ae gb 99 (IE K (.slice none 0 0) (.slice none 0 0) (HW own room)) :: Sl Ag vh own.Classes :: Ae g16 26 [.string ⟨⟨own.Name⟩⟩, u0, u1, u2] :: Sl Ag u0 own.Classes :: Sl As u1 own.Funcs :: Sl (Ty.slice Ty.u8) u2 own.Cf :: [Ae g6 26 [.string ⟨⟨m.Name⟩⟩, v1, v2, v3]]) :=
   SL.Kn (Q := fun qs => ∃ os : List (Nat × Cq), os.length = (HW own room).A4.length ∧ qs = EH K (HW own room) os) (qs := EH K (HW own room) []) ⟨[], rfl, rfl⟩ t1
  have t3 : SL w [] w15 ((Sl BP vl l :: mS K (.slice none 0 0) (.slice none 0 0) [] (HW own room)) ++ (Sl Ag vh own.Classes :: Ae g16 26 [.string ⟨⟨own.Name⟩⟩, u0, u1, u2] :: Sl Ag u0 own.Classes :: Sl As u1 own.Funcs :: Sl (Ty.slice Ty.u8) u2 own.Cf :: [Ae g6 26 [.string ⟨⟨m.Name⟩⟩, v1, v2, v3]])) := (SL.BF (T := T_craw) (SL.J1 (qs := []) (SL.BF (T := Ty.int .i64) t2))).f5.f5
  obtain ⟨F, hst, hF0, hG2, hcl⟩ := SL.open_ (ps := Sl BP vl l :: mS K (.slice none 0 0) (.slice none 0 0) [] (HW own room)) t3
  have hI : K.In w15 F (HW own room).m := ⟨FO m2 hG2, FO m3 hG2, FO m0 hG2⟩
  refine AU F71 (NZ (K := K) (loc := [Sl BP vl l]) (SL.init w15 F hst) rfl hI (.head _) hen) fun v16 w16 _ hS F72 => ?_
  obtain ⟨rfl, vc', cs', hl', hq16⟩ := hS
  have t4 := hcl _ _ hq16
  refine zw F72 fun _ F73 => ?_
  have hf1 : FH S = true := by
   unfold Ep at hen
   obtain ⟨f', _, hen⟩ := bind_ok hen
   obtain ⟨l', _, hen⟩ := bind_ok hen
   split at hen <;> cases hen
   rfl
  have hm1 : S.m = own := Pp hen
  refine rt F73 (.inr ⟨S, K, rfl, rfl, ?_⟩)
  have t5 : SL w [] w16 (BX K S :: Sl Ag vh own.Classes :: Ae g16 26 [.string ⟨⟨own.Name⟩⟩, u0, u1, u2] :: Sl Ag u0 own.Classes :: Sl As u1 own.Funcs :: Sl (Ty.slice Ty.u8) u2 own.Cf :: [Ae g6 26 [.string ⟨⟨m.Name⟩⟩, v1, v2, v3]]) := SL.Kn (Q := fun qs => ∃ vc vt cs, B1 S cs ∧ qs = mS K vc vt cs S) (qs := mS K vc' (.slice none 0 0) cs' S) ⟨_, _, _, ⟨hl', hf1⟩, rfl⟩ (SL.drop t4)
  rw [hm1]
  exact SL.tk (SL.f3 (SL.f3 (SL.f3 (SL.f1 (SL.drop (SL.f2 t5)))))) 4 rfl
end
end Go.Proofs.YtpnacdckamiedaaGreat
namespace Go.Proofs.YtpnacdckamiedaaGreat
open Go Go.RowKit Go.Pv Go.Proofs.Tryz
theorem IC {w : World} {v0_1 v0_2 v0_3 : Value} {a0 : Ah} {r : AD} {wb : World} {Fb : List Nat} (hb : Fm wb Fb w) (hB : ∀ k ∈ ([] : List Nat), k ∈ Fb ∨ wb.heap.size ≤ k) (hr0_1 : Rd Ag wb Fb v0_1 a0.Classes) (hr0_2 : Rd As wb Fb v0_2 a0.Funcs) (hr0_3 : Rd (Ty.slice Ty.u8) wb Fb v0_3 a0.Cf) (H : DO a0 = some r) :
  Calls prog 27 #[.agg ⟨[.string ⟨⟨a0.Name⟩⟩, v0_1, v0_2, v0_3]⟩] w (AN fun u_ w_ => ∃ u0 u1 : Value, u_ = .agg ⟨[u0, u1, .int .i64 r.Fn]⟩ ∧ Fc Ag v0_1 a0.Classes u0 r.Classes ∧ SL w [] w_ [Sl (Dh wb Fb) u1 r.AO]) := by
 have s0 : SL w [] w [] := SL.Bf w
 refine BV func27 ntmps27 2 rfl rfl rfl fun _ F0 => ?_
 unfold DO at H
 refine Bz F0 s0 rfl rfl rfl fun g13 w14 q15 F16 s17 => ?_
 refine An F16 s17 EP rfl rfl fun g19 w20 q21 F22 s23 => ?_
 have hv40 := (Hm (CU hr0_1 (SL.up hb hB s23)))
 refine gw 5 F22 rfl fun _ F41 => ?_
 refine AA F41 s23 m1 0 rfl fun _ F42 => ?_
 refine gx F42 (AP (vs := [v0_1]) EP LX rfl (cs := [v0_1, .slice none 0 0, .int .i64 0]) (by obtain ⟨_, _, e_0⟩ := hv40; rw [e_0] <;> rfl)) 0 rfl rfl fun _ F43 => ?_
 refine An F43 s23 EP rfl rfl fun g44 w45 q46 F47 s48 => ?_
 refine AH F47 s48 rfl rfl Iy (Af (Aj (Hm (CU hr0_1 (SL.up hb hB s48)))) (Af rfl (Af rfl AM))) (Nat.le_of_ble_eq_true rfl) fun w50 q51 F52 s53 => ?_
 refine gw 6 F52 rfl fun _ F2065 => ?_
 refine AA F2065 s53 m2 0 rfl fun _ F2066 => ?_
 obtain ⟨o3395, H3396, R3397⟩ := bind_ok H
 clear H
 refine gx F2066 (Ao rfl underlying23 (Hm (CU hr0_2 (SL.up hb hB s53)))) 3 rfl rfl fun _ F2068 => ?_
 refine BB (fun a w_ => ∃ v3398 : Value, Fr a 25 [(2, .pointer (some ⟨g19, 0, none⟩)), (3, .pointer (some ⟨g44, 0, none⟩))] ∧ SL w [] w_ [Ae g44 80 [v0_1, v3398, .int .i64 0], Ae g19 80 [.slice none 0 0, .slice none 0 0, .int .i64 0], Sl (Dh wb Fb) v3398 o3395]) ?_ ?_
 ·have H := H3396
  refine gc 1 F2068 rfl fun _ F2068 => ?_
  refine Dk (Db a0) (fun s3400 a w_ => ∃ v3731 : Value, Fr a 25 [(2, .pointer (some ⟨g19, 0, none⟩)), (3, .pointer (some ⟨g44, 0, none⟩)), (10, v0_2), (11, .int .i64 (a0.Funcs.length : Int)), (12, .int .i64 s3400.2)] ∧ SL w [] w_ [Ae g44 80 [v0_1, v3731, .int .i64 0], Ae g19 80 [.slice none 0 0, .slice none 0 0, .int .i64 0], Sl (Dh wb Fb) v3731 s3400.1]) H ?_ ?_
  ·exact ⟨(.slice none 0 0), F2068.sb, (SL.BF (T := (Dh wb Fb)) s53).f3.drop.f2.f2⟩
  ·intro s3400 q3899 w3900 hI3901 o3898 H hr
   obtain ⟨v3731, F3896, s3897⟩ := hI3901
   replace H : Db a0 s3400 = some o3898 := H
   unfold Db at H
   refine gc 6 F3896 rfl fun _ F3903 => ?_
   refine AK F3903 H 6 4 rfl rfl rfl (fun hb3906 H _ F3907 => ?_) (fun hb3906 H _ F3907 => ?_)
   ·obtain ⟨x4011, hx4012, H⟩ := bind_ok H
    obtain ⟨ad4013, cs4016, G4017, hi4014, hc4015, hr4018, hG4019⟩ := Rd.idx hr0_2 FM rfl hx4012
    obtain ⟨v4020, v4022, rfl, hr4021, hr4023⟩ := (C2 hr4018 hG4019)
    replace hc4015 := hc4015 _ _ (SL.up hb hB s3897)
    refine gi F3907 hi4014 0 rfl fun _ F4024 => ?_
    refine gx F4024 (Be It rfl hc4015 rfl) 0 rfl rfl fun _ F4025 => ?_
    refine An F4025 s3897 HE rfl rfl fun g4026 w4027 q4028 F4029 s4030 => ?_
    refine AH F4029 s4030 rfl rfl Ji (Af rfl (Af (Aj (Hm (CU hr4021 (SL.up hb hB s4030)))) (Af rfl (Af rfl (Af (Aj (Hm (CU hr4023 (SL.up hb hB s4030)))) AM))))) (Nat.le_of_ble_eq_true rfl) fun w4032 q4033 F4034 s4035 => ?_
    refine gw 4 F4034 rfl fun _ F4037 => ?_
    refine AA F4037 s4035 m1 1 rfl fun _ F4039 => ?_
    refine gx F4039 (Be Iq rfl (s4035.E0 m0 (o := 1) (ds := [v4020, .int .u8 (x4011.Sig.Result.toNat : Int)]) (K4 _ rfl)) rfl) 0 rfl rfl fun _ F4040 => ?_
    have s4048 : SL w [] _ (Dt (Dh wb Fb) (⟨x4011.Sig.Ai, x4011.Sig.Result⟩ : Am) [v4020, .int .u8 (x4011.Sig.Result.toNat : Int)] :: [Ae g4026 69 [.string ⟨⟨x4011.Name⟩⟩, v4020, .int .u8 (x4011.Sig.Result.toNat : Int), .int .i64 x4011.Ak, v4022], Ae g44 80 [v0_1, v3731, .int .i64 0], Ae g19 80 [.slice none 0 0, .slice none 0 0, .int .i64 0], Sl (Dh wb Fb) v3731 s3400.1]) := (SL.Ih (f := CV) (x := (⟨x4011.Sig.Ai, x4011.Sig.Result⟩ : Am)) (SL.Dj (SL.X7 (T := Ty.u8) (w1 := wb) (F1 := Fb) (SL.C6 s4035 Flat.u8 x4011.Sig.Result) hr4021)))
    refine B7 F4040 s4048 Hy rfl (by decide) rfl rfl rfl fun v4041 w4042 q4043 F4044 s4045 => ?_
    obtain ⟨x4049, hx4050, H⟩ := bind_ok H
    refine Dg F4044 s4045.f4 Hy rfl rfl rfl rfl rfl rfl hx4050 rfl fun v4051 w4052 q4053 F4054 s4055 => ?_
    refine gw 1 F4054 rfl fun _ F4056 => ?_
    refine AZ F4056 s4055.f2 rfl rfl QZ (AG (fO s4055.f2 m1)) (Aj (fO s4055.f2 m1)) rfl fun w4057 q4058 F4059 s4060 => ?_
    cases H
    refine gw 7 F4059 rfl fun _ F4062 => ?_
    exact ⟨_, rfl, v4051, F4062.sb, s4060.f2.drop.f1.f2.f2⟩
   ·cases H
    obtain rfl := hr _ rfl
    exact ⟨v3731, F3907.sb, s3897⟩
 ·intro q4065 w4066 hJ
  obtain ⟨v3398, F4063, s4064⟩ := hJ
  have H := R3397
  clear R3397 H3396
  refine ge 3 F4063 rfl fun _ F4063 => ?_
  refine AA F4063 s4064 m0 0 rfl fun _ F4073 => ?_
  refine AH F4073 s4064.f1 rfl rfl Iy (Af (Aj (Hm (CU hr0_1 (SL.up hb hB s4064.f1)))) (Af (Aj (fO s4064.f1 m2)) (Af rfl AM))) (Nat.le_of_ble_eq_true rfl) fun w4074 q4075 F4076 s4077 => ?_
  cases H
  refine gw 3 F4076 rfl fun _ F4076 => ?_
  refine B5 (rs := [.cell 2 80]) (vs := [.agg ⟨[v0_1, v3398, .int .i64 0]⟩]) F4076 (by rfl) ⟨_, _, rfl, RV.blk s4077 m0 rfl Ko rfl, rfl⟩ ⟨_, rfl, ⟨v0_1, v3398, rfl, Fc.refl, s4077.drop.drop⟩⟩
end Go.Proofs.YtpnacdckamiedaaGreat
namespace Go.Proofs.YtpnacdckamiedaaGreat
open Go Go.RowKit Go.Pv Go.Proofs.Tryz
theorem Hz {w : World} {a0 : List UInt8} {r : Bool}  (H : CX a0 = some r) :
  Calls prog 128 #[.string ⟨⟨a0⟩⟩] w (AN fun u_ w_ => u_ = .bool r ∧ SL w [] w_ []) := by
 have s0 : SL w [] w [] := SL.Bf w
 refine BV func128 ntmps128 9 rfl rfl rfl fun _ F19 => ?_
 unfold CX at H
 refine gx F19 (GK rfl underlying9) 2 rfl rfl fun _ F21 => ?_
 refine B2 9 F21 H (fun hb22 H F23 => ?_) (fun hb22 H F23 => ?_)
 ·cases H
  refine gw 14 F23 rfl fun _ F26 => ?_
  exact rt F26 ⟨rfl, s0⟩
 ·refine gw 1 F23 rfl fun _ F27 => ?_
  refine Ax F27 rfl rfl ?_
  refine gx F27 (GK rfl underlying9) 4 rfl rfl fun _ F30 => ?_
  refine AK F30 H 7 8 rfl rfl rfl (fun hb31 H _ F34 => ?_) (fun hb31 H _ F2954 => ?_)
  ·cases H
   exact rt F34 ⟨rfl, s0⟩
  ·obtain ⟨o4893, H4894, R4895⟩ := bind_ok H
   clear H
   refine BB (fun a w_ => ∃ p4896 : Unit, o4893 = .inr (p4896) ∧ Fr a 55 [] ∧ SL w [] w_ []) ?_ ?_
   ·have H := H4894
    refine gc 1 F2954 rfl fun _ F2954 => ?_
    refine Dk (Ct a0) (fun s4897 a w_ => Fr a 55 [(0, .string ⟨⟨a0⟩⟩), (3, .int .i64 s4897)] ∧ SL w [] w_ []) H ?_ ?_
    ·exact ⟨F2954.sb, s0⟩
    ·intro s4897 q5624 w5625 hI5626 o5623 H hr
     obtain ⟨F5621, s5622⟩ := hI5626
     replace H : Ct a0 s4897 = some o5623 := H
     unfold Ct at H
     refine gc 5 F5621 rfl fun _ F5638 => ?_
     refine gx F5638 (GK rfl underlying9) 3 rfl rfl fun _ F5640 => ?_
     refine AK F5640 H 8 4 rfl rfl rfl (fun hb5641 H _ F5760 => ?_) (fun hb5641 H _ F5642 => ?_)
     ·obtain ⟨x5758, hx5759, H⟩ := bind_ok H
      obtain ⟨o5814, H5815, R5816⟩ := bind_ok H
      clear H
      refine gx F5760 (Rq rfl rfl underlying9 hx5759) 4 rfl rfl fun _ F5762 => ?_
      refine BB (fun a w_ => Fr a 55 [(0, .string ⟨⟨a0⟩⟩), (3, .int .i64 s4897), (4, .int .u8 (x5758.toNat : Int)), (5, .bool o5814)] ∧ SL w [] w_ []) ?_ ?_
      ·have H := H5815
       refine gc 4 F5762 rfl fun _ F5817 => ?_
       refine B2 25 F5817 H (fun hb5818 H F5819 => ?_) (fun hb5818 H F5819 => ?_)
       ·refine gw 4 F5819 rfl fun _ F5820 => ?_
        refine B2 29 F5820 H (fun hb5821 H F5822 => ?_) (fun hb5821 H F5822 => ?_)
        ·cases H
         refine gw 9 F5822 rfl fun _ F5823 => ?_
         exact ⟨F5823.sb, s5622⟩
        ·refine gw 3 F5822 rfl fun _ F5824 => ?_
         refine B2 32 F5824 H (fun hb5825 H F5826 => ?_) (fun hb5825 H F5826 => ?_)
         ·cases H
          refine gw 6 F5826 rfl fun _ F5827 => ?_
          exact ⟨F5827.sb, s5622⟩
         ·cases H
          refine gw 6 F5826 rfl fun _ F5828 => ?_
          exact ⟨F5828.sb, s5622⟩
       ·refine gw 7 F5819 rfl fun _ F5829 => ?_
        refine B2 32 F5829 H (fun hb5830 H F5831 => ?_) (fun hb5830 H F5831 => ?_)
        ·cases H
         refine gw 6 F5831 rfl fun _ F5832 => ?_
         exact ⟨F5832.sb, s5622⟩
        ·cases H
         refine gw 6 F5831 rfl fun _ F5833 => ?_
         exact ⟨F5833.sb, s5622⟩
      ·intro q5836 w5837 hJ
       obtain ⟨F5834, s5835⟩ := hJ
       have H := R5816
       clear R5816 H5815
       refine ge 6 F5834 rfl fun _ F5838 => ?_
       refine B2 39 F5838 H (fun hb5839 H F5840 => ?_) (fun hb5839 H F5840 => ?_)
       ·refine gw 3 F5840 rfl fun _ F5841 => ?_
        refine B2 42 F5841 H (fun hb5842 H F5843 => ?_) (fun hb5842 H F5843 => ?_)
        ·cases H
         obtain rfl := hr _ rfl
         replace H := R4895
         try dsimp only at H
         cases H
         refine gw 27 F5843 rfl fun _ F5846 => ?_
         exact rt F5846 ⟨rfl, s5835⟩
        ·refine gw 3 F5843 rfl fun _ F5847 => ?_
         refine B2 45 F5847 H (fun hb5848 H F5849 => ?_) (fun hb5848 H F5849 => ?_)
         ·refine gw 3 F5849 rfl fun _ F5850 => ?_
          refine B2 48 F5850 H (fun hb5851 H F5852 => ?_) (fun hb5851 H F5852 => ?_)
          ·cases H
           obtain rfl := hr _ rfl
           replace H := R4895
           try dsimp only at H
           cases H
           refine gw 21 F5852 rfl fun _ F5855 => ?_
           exact rt F5855 ⟨rfl, s5835⟩
          ·refine gw 8 F5852 rfl fun _ F5856 => ?_
           refine AK F5856 H 12 8 rfl rfl rfl (fun hb5857 H _ F5860 => ?_) (fun hb5857 H _ F5861 => ?_)
           ·cases H
            obtain rfl := hr _ rfl
            replace H := R4895
            try dsimp only at H
            cases H
            exact rt F5860 ⟨rfl, s5835⟩
           ·cases H
            exact ⟨_, rfl, F5861.sb, s5835⟩
         ·cases H
          refine gw 20 F5849 rfl fun _ F5863 => ?_
          exact ⟨_, rfl, F5863.sb, s5835⟩
       ·cases H
        refine gw 26 F5840 rfl fun _ F5865 => ?_
        exact ⟨_, rfl, F5865.sb, s5835⟩
     ·cases H
      obtain rfl := hr _ rfl
      exact ⟨_, rfl, F5642.sb, s5622⟩
   ·intro q5868 w5869 hJ
    obtain ⟨p4896, rfl, F5866, s5867⟩ := hJ
    have H := R4895
    clear R4895 H4894
    try dsimp only at H
    cases H
    refine ge 7 F5866 rfl fun _ F5871 => ?_
    exact rt F5871 ⟨rfl, s5867⟩
end Go.Proofs.YtpnacdckamiedaaGreat
namespace Go.Proofs.YtpnacdckamiedaaGreat
open Go Go.RowKit Go.Pv Go.Proofs.Tryz
theorem KV {w : World} {a0 : UInt8} {r : (List UInt8)}  (H : Fu a0 = some r) :
  Calls prog 141 #[.int .u8 (a0.toNat : Int)] w (AN fun u_ w_ => u_ = .string ⟨⟨r⟩⟩ ∧ SL w [] w_ []) := by
 have s0 : SL w [] w [] := SL.Bf w
 refine BV func141 ntmps141 18 rfl rfl rfl fun _ F44 => ?_
 unfold Fu at H
 refine AK F44 H 8 6 rfl rfl rfl (fun hb45 H _ F48 => ?_) (fun hb45 H _ F50 => ?_)
 ·cases H
  exact rt F48 ⟨rfl, s0⟩
 ·refine AK F50 H 8 6 rfl rfl rfl (fun hb51 H _ F54 => ?_) (fun hb51 H _ F56 => ?_)
  ·cases H
   exact rt F54 ⟨rfl, s0⟩
  ·refine AK F56 H 8 6 rfl rfl rfl (fun hb57 H _ F60 => ?_) (fun hb57 H _ F62 => ?_)
   ·cases H
    exact rt F60 ⟨rfl, s0⟩
   ·refine AK F62 H 8 6 rfl rfl rfl (fun hb63 H _ F66 => ?_) (fun hb63 H _ F68 => ?_)
    ·cases H
     exact rt F66 ⟨rfl, s0⟩
    ·refine AK F68 H 8 6 rfl rfl rfl (fun hb69 H _ F72 => ?_) (fun hb69 H _ F74 => ?_)
     ·cases H
      exact rt F72 ⟨rfl, s0⟩
     ·refine AK F74 H 8 9 rfl rfl rfl (fun hb75 H _ F78 => ?_) (fun hb75 H _ F80 => ?_)
      ·cases H
       exact rt F78 ⟨rfl, s0⟩
      ·cases H
       exact rt F80 ⟨rfl, s0⟩
end Go.Proofs.YtpnacdckamiedaaGreat
