/- Lemmas, walks and laws that the row of this claim rests on, merged into few texts: part 7. -/
import Derived.Test.YtfcpkcehecmcpaaGreatKBf
set_option linter.unusedVariables false
set_option linter.unusedSimpArgs false
namespace Go.Proofs.YtfcpkcehecmcpaaGreat
open Go Go.RowKit Go.Pv Go.Proofs.Tryz
open Go.Pv renaming bind_ok → Aa, Bl → Ab, LZ → Ad, KO → Ae, Ii → Af, MY → Ag, EL → Ah, HW → Ai, HY → Aj, Io → Ak, GI → Al, Hu → Ao, Uw → Ap, Km → Aq, Iu → Ar, Ce → As, MN → Au, HS → Av, OB → Aw, Us → Ax
open Nat renaming le_of_ble_eq_true → Ac
open Go.Pv.RV renaming blk → Am, tmp → An
theorem Ys : (prog.info? 65).bind (·.zero) = some (.pointer none) := by kernel_rfl
theorem U4 : (prog.info? 132).bind (·.zero) = some (.pointer none) := by kernel_rfl
theorem Xu : (prog.info? 28).bind (·.zero) = some (.slice none 0 0) := by kernel_rfl
theorem zr4 : (prog.info? 4).bind (·.zero) = some (.bool false) := by kernel_rfl
theorem Alp : (prog.info? 88).bind (·.zero) = some (.agg ⟨[.string ⟨⟨[]⟩⟩, .slice none 0 0, .slice none 0 0, .slice none 0 0, .slice none 0 0, .slice none 0 0, .slice none 0 0, .slice none 0 0]⟩) := by kernel_rfl
theorem Ald : MM prog 88 [(0, 4), (4, 1), (5, 1), (6, 1), (7, 1)] = true := by kernel_rfl
theorem Akr : (prog.info? 65).map (·.size) = some 1 := by kernel_rfl
theorem Aku : (prog.info? 28).map (·.size) = some 1 := by kernel_rfl
theorem Ak9 : (prog.info? 86).map (·.size) = some 1 := by kernel_rfl
theorem Alu : (prog.info? 4).map (·.size) = some 1 := by kernel_rfl
theorem Ag3 : Gf prog 26 4 = true := by kernel_rfl
theorem Aau : Ey prog 44 4 1 1 (Ji 1) = true := by kernel_rfl
theorem Hn {α β : Type} {b b' : Nat} {k : Int} {x : α} {y : β} {l : List α} (hb : b' ≤ b) (h : Jj b k x = some l) : Jj b' k y = some (List.replicate k.toNat y) := by
  unfold Jj at h ⊢
  split at h
  · rename_i q
    rw [A1 ⟨q.1, Int.le_trans (Int.mul_le_mul_of_nonneg_right (by omega) q.1) q.2.1, q.2.2⟩]
  · cases h
theorem Alq (f : Nat) (h : f ∈ [37]) : DL prog f = true := by
  simp only [List.mem_cons, List.not_mem_nil, or_false] at h
  rcases h with rfl
  kernel_rfl
theorem Sb {P : Program} {w : World} {m : List (Nat × Value)} {dd : Option Tmp} {ty : TypeId} {pos : String} {aft : Array Edge} {gd : Option (Nat × Bool)} {f g : Nat} {x : Operand} (h : ev m x = some (jP g)) : EX P w m ⟨dd, .makeFunc (.func f) #[x] #[], ty, pos, aft, gd⟩ (Np f g) w := fun a n hF => by
  have h2 := hF.eval h
  simp [execOp, Instr.makeFunc, h2, Np]
abbrev Z4 : AU := ⟨⟨0, false⟩, ⟨0, false⟩, ⟨0, false⟩, ⟨0, false⟩⟩
theorem Ack {P : Program} {w0 w : World} {F0 : List Nat} {ps : List Ck} {α : Type} {T : Ty α} {v u : Value} {l : List (List α)} {c c0 : List α} {i : Int} {A : Addr} {k cp : Nat} {t' : TypeId} {m : List (Nat × Value)} {n : Nat} {ty : TypeId} {pos : String} {aft : Array Edge} {xx yy : Operand} {ops : Array Oper} {Q : Exit → Act → World → Prop} {a : Act} {l' : List Oper}
    (hF : Fr a n m) (hs : SL w0 F0 w (Sl (Ty.slice T) v l :: Sl T u c :: ps)) (h0 : idx l i = some c0) (hv : v = .slice (some A) k cp) (hx : ev m xx = some (.pointer (some (A.add (i.toNat * 1))))) (hy : ev m yy = some u) (hi : (P.info? t').map (·.size) = some 1)
    (K : ∀ w a, Fr a n m → SL w0 F0 w (Sl (Ty.slice T) v (l.set i.toNat c) :: ps) → wpList P ops Q l' a w) : wpList P ops Q (⟨none, .store t' xx yy, ty, pos, aft, none⟩ :: l') a w := by
  obtain ⟨cs, A', cp', hv', h1⟩ := hs.focus h0
  obtain ⟨v0, rfl, h2⟩ := SL.Ahd h1.f1
  have h3 := h2.drop
  obtain ⟨A2, c2, hu⟩ := h3.form (.tail _ <| .head _)
  rw [hv] at hv'
  injection hv' with hA _ _
  cases hA
  refine Ab4 (o := 0) (ds := [u]) hF h3 hv hx (by rw [add_add', Nat.add_zero]; rfl) hy (by rw [hu]; rfl) hi rfl (by intro x hx2; rw [List.mem_singleton] at hx2; rw [hx2, hu]; rfl) fun w a hF h4 => K w a hF ?_
  have h5 : SL w0 F0 w (J8 (Ty.slice T) v l i.toNat [u] :: Sl T u c :: ps) := h4
  exact SL.Aaf (h5.f1.dsl.f1)
theorem Qg {w : World} {v0_1 v0_2 v0_3 : Value} {a0 : AH} {a1 : Int} {r : AU × Int × Int} (hr0_1 : Rd AL w [] v0_1 a0.Classes) (hr0_2 : Rd Es w [] v0_2 a0.Funcs) (hr0_3 : Rd (Ty.slice Ty.u8) w [] v0_3 a0.Ec) (H : Ik a0 a1 = some r) :
    Calls prog 21 #[.agg ⟨[.string ⟨⟨a0.Name⟩⟩, v0_1, v0_2, v0_3]⟩, jI a1] w (B8 fun u_ w_ => u_ = .tuple ⟨[.agg ⟨EK r.1⟩, jI r.2.1, jI r.2.2]⟩ ∧ SL w [] w_ []) := by
  letI := Lc
  have s0 : SL w [] w [] := SL.BF w
  refine D7 func21 rfl ntmps21 (Nat.le_of_ble_eq_true rfl) (args := [.agg ⟨[.string ⟨⟨a0.Name⟩⟩, v0_1, v0_2, v0_3]⟩, jI a1]) fun _ F0 => ?_
  obtain ⟨_, _, hf1⟩ := fR hr0_1 s0
  obtain ⟨_, _, hf2⟩ := fR hr0_2 s0
  obtain ⟨_, _, hf3⟩ := fR hr0_3 s0
  refine wp_seq ?_
  refine AZ ?_
  refine Hu (cs := [.string ⟨⟨a0.Name⟩⟩, v0_1, v0_2, v0_3]) F0 s0 rfl rfl rfl fun gm w1 _ F1 s1 => ?_
  refine MY F1 s1 Ua rfl rfl fun gz w2 _ F2 s2 => ?_
  replace s2 : SL w [] w2 [AB gz 56 (EK ⟨⟨0, false⟩, ⟨0, false⟩, ⟨0, false⟩, ⟨0, false⟩⟩), AB gm 26 [.string ⟨⟨a0.Name⟩⟩, v0_1, v0_2, v0_3]] := s2
  refine sv 2 F2 fun _ F3 => ?_
  refine AW ?_
  refine Rk 0 rfl ?_
  have hret : ∀ {w_ : World} {a_ : Act} {m_ : List (Nat × Value)} {r_ : AU × Int × Int} {ps : List Ck}, Fr a_ 126 m_ → SL w [] w_ (AB gz 56 (EK r_.1) :: ps) → Pv.look m_ 4 = some (jP gz) → Pv.look m_ 5 = some (jI r_.2.1) → Pv.look m_ 6 = some (jI r_.2.2) →
      bodyPost prog Tryz.f21 (B8 fun u_ w_ => u_ = Value.tuple ⟨[.agg ⟨EK r_.1⟩, jI r_.2.1, jI r_.2.2]⟩ ∧ SL w [] w_ []) .ret a_ w_ := fun {w_ a_ m_ r_ ps} hF hs h4 h5 h6 =>
    HY (rs := [.cell 4 56, .tmp 5, .tmp 6]) (vs := [.agg ⟨EK r_.1⟩, jI r_.2.1, jI r_.2.2]) hF (by rfl) ⟨_, _, rfl, RV.blk hs (.head _) h4 Aat rfl, _, _, rfl, RV.tmp h5, _, _, rfl, RV.tmp h6, rfl⟩ ⟨_, rfl, rfl, hs.tk 0 rfl⟩
  unfold Ik at H
  refine wp_seq ?_
  refine Lh (fun a_ w_ => ¬ (a1 < 0 ∨ (a0.Funcs.length : Int) ≤ a1) ∧ Fr a_ 126 [(1, jI a1), (2, jP gm), (4, jP gz), (5, jI 0), (6, jI 0)] ∧ SL w [] w_ [AB gz 56 (EK ⟨⟨0, false⟩, ⟨0, false⟩, ⟨0, false⟩, ⟨0, false⟩⟩), AB gm 26 [.string ⟨⟨a0.Name⟩⟩, v0_1, v0_2, v0_3]]) ?_ ?_
  · refine wp_seq ?_
    refine AZ ?_
    refine sv 3 F3 fun _ F4 => ?_
    by_cases h1 : a1 < 0
    · have F5 := F4.kt (d := 18) (t := decide (a1 < 0)) (decide_eq_true h1)
      refine sv 6 F5 fun _ F6 => ?_
      refine AW ?_
      rw [A1 (Or.inl h1)] at H
      refine DO F6 rfl ?_
      refine wp_seq ?_
      refine AZ ?_
      refine sx F6 (Ii (parts := []) (vs := []) Ua UI rfl (cs := EK Z4) (by rfl)) fun _ F7 => ?_
      refine EL F7 s2 rfl rfl SN (Bl rfl (Bl rfl (Bl rfl (Bl rfl (Bl rfl (Bl rfl (Bl rfl (Bl rfl GI)))))))) (Nat.le_of_ble_eq_true rfl) fun w3 _ F8 s3 => ?_
      refine sv 2 F8 fun _ F9 => ?_
      refine AW ?_
      refine wp_ret ?_
      obtain rfl := BS H
      exact hret (r_ := (Z4, 0, 1)) F9 s3 rfl rfl rfl
    · have F5 := F4.kf (d := 18) (t := decide (a1 < 0)) (decide_eq_false h1)
      refine sv 2 F5 fun _ F5 => ?_
      refine Nv F5 rfl rfl rfl (Ce (EA 23 (by simp)) rfl (s2.BP (.tail _ <| .head _) rfl)) rfl rfl fun _ F5 => ?_
      refine Nv F5 rfl rfl rfl (Io rfl underlying23 (H7 (EZ hr0_2 s2))) rfl rfl fun _ F5 => ?_
      refine sv 2 F5 fun _ F5 => ?_
      refine AW ?_
      by_cases h2 : (a0.Funcs.length : Int) ≤ a1
      · have F6 := F5.kt (d := 24) (t := decide (a1 ≥ (a0.Funcs.length : Int))) (decide_eq_true h2)
        rw [A1 (Or.inr h2)] at H
        refine DO F6 rfl ?_
        refine wp_seq ?_
        refine AZ ?_
        refine sx F6 (Ii (parts := []) (vs := []) Ua UI rfl (cs := EK Z4) (by rfl)) fun _ F7 => ?_
        refine EL F7 s2 rfl rfl SN (Bl rfl (Bl rfl (Bl rfl (Bl rfl (Bl rfl (Bl rfl (Bl rfl (Bl rfl GI)))))))) (Nat.le_of_ble_eq_true rfl) fun w3 _ F8 s3 => ?_
        refine sv 2 F8 fun _ F9 => ?_
        refine AW ?_
        refine wp_ret ?_
        obtain rfl := BS H
        exact hret (r_ := (Z4, 0, 1)) F9 s3 rfl rfl rfl
      · have F6 := F5.kf (d := 24) (t := decide (a1 ≥ (a0.Funcs.length : Int))) (decide_eq_false h2)
        refine Fv F6 rfl ?_
        refine wp_skip ?_
        exact ⟨fun q => q.elim h1 h2, F6.sub ⟨rfl, rfl, rfl, rfl, rfl, trivial⟩, s2⟩
  · rintro _ w3 ⟨hrng, F10, s3⟩
    rw [Ay hrng] at H
    obtain ⟨mk0, hmk, H⟩ := bind_ok H
    obtain ⟨S, hS, H⟩ := bind_ok H
    have hn0 : ∀ {α : Type} (x : α), List.replicate ((a0.Funcs.length : Int).toNat) x = List.replicate a0.Funcs.length x := fun x => by rw [Int.toNat_natCast]
    refine wp_seq ?_
    refine Dk BL s3 ?_
    have s4 := s3.drew
    refine hq [0, 1, 2, 3, 5, 6, 7, 9, 10, 11] F10 s4 (QI.op rfl (fun _ hC => Iu Ag3 rfl (hC.Do (.tail _ <| .head _) (o := 0) (fun j u hu => by rw [Nat.zero_add]; exact hu)) rfl) rfl <| QI.ev 1 rfl <| QI.op rfl (fun _ hC => Ce (EA 23 (by simp)) rfl (hC.BP (.tail _ <| .head _) rfl)) rfl <| QI.op rfl (fun _ hC => Io rfl underlying23 (H7 (EZ hr0_2 hC))) rfl <| QI.ev 1 rfl <|
      QI.op rfl (fun _ hC => Ce (EA 23 (by simp)) rfl (hC.BP (.tail _ <| .head _) rfl)) rfl <| QI.op rfl (fun _ hC => Io rfl underlying23 (H7 (EZ hr0_2 hC))) rfl <| QI.ev 1 rfl <| QI.op rfl (fun _ hC => Ce (EA 23 (by simp)) rfl (hC.BP (.tail _ <| .head _) rfl)) rfl <| QI.op rfl (fun _ hC => Io rfl underlying23 (H7 (EZ hr0_2 hC))) rfl <| QI.nil) (by kernel_rfl) fun _ F11 => ?_
    refine Jb [12, 8, 4, 11, 10, 9, 7, 6, 5, 3, 2, 1, 0] (fun a_ w_ => ∃ v4 v5 v6 : Value, Fr a_ 126 [(1, jI a1), (2, jP gm), (4, jP gz), (5, jI 0), (6, jI 0), (26, .agg ⟨[.string ⟨⟨a0.Name⟩⟩, v0_1, v0_2, v0_3]⟩), (30, v4), (34, v5), (38, v6)] ∧ SL w [] w_ [Sl (Ty.ptr 81 Bi) v4 (List.replicate a0.Funcs.length none), Sl (Ty.slice (Ty.int .i64)) v5 (List.replicate a0.Funcs.length []), Sl (Ty.ptr 56 Bf) v6 (List.replicate a0.Funcs.length none), AB gz 56 (EK ⟨⟨0, false⟩, ⟨0, false⟩, ⟨0, false⟩, ⟨0, false⟩⟩), AB gm 26 [.string ⟨⟨a0.Name⟩⟩, v0_1, v0_2, v0_3]]) ?_ (fun hJ => ?_)
    rotate_left
    refine ho3 4 8 12 rfl rfl rfl (by kernel_rfl) ?_ ?_ ?_
    · refine Fi (T := Ty.ptr 81 Bi) none (.pointer none) rfl rfl IZ F11 s4 OY Ys rfl rfl rfl (Hn (by omega) hmk) rfl fun v4 _ _ F_4 s_4 => ?_
      refine Dv ⟨s_4.drop, ?_⟩
      refine Hw 8 12 rfl rfl (by kernel_rfl) ?_ ?_
      · refine Fi (T := Ty.slice (Ty.int .i64)) [] (.slice none 0 0) rfl rfl OA F_4 s_4 Pp Xu rfl rfl rfl (Hn (by omega) hmk) rfl fun v5 _ _ F4_8 s4_8 => ?_
        refine Dv ⟨s4_8.drop.drop, ?_⟩
        refine ho 12 rfl (by kernel_rfl) ?_
        refine Fi (T := Ty.ptr 56 Bf) none (.pointer none) rfl rfl IZ F4_8 s4_8 Pf U4 rfl rfl rfl (Hn (by omega) hmk) rfl fun v6 _ _ F48_12 s48_12 => ?_
        refine Dv ⟨s48_12.drop.drop.drop, ?_⟩
        exact E5 hJ ⟨v4, v5, v6, F48_12.sub ⟨rfl, rfl, rfl, rfl, rfl, rfl, rfl, rfl, rfl, trivial⟩, s48_12.f4.f4.f2.f3.f4⟩ (by kernel_rfl)
      · refine Fi (T := Ty.ptr 56 Bf) none (.pointer none) rfl rfl IZ F_4 s_4 Pf U4 rfl rfl rfl (Hn (by omega) hmk) rfl fun v6 _ _ F4_12 s4_12 => ?_
        refine Dv ⟨s4_12.drop.drop, ?_⟩
        refine ho 8 rfl (by kernel_rfl) ?_
        refine Fi (T := Ty.slice (Ty.int .i64)) [] (.slice none 0 0) rfl rfl OA F4_12 s4_12 Pp Xu rfl rfl rfl (Hn (by omega) hmk) rfl fun v5 _ _ F412_8 s412_8 => ?_
        refine Dv ⟨s412_8.drop.drop.drop, ?_⟩
        exact E5 hJ ⟨v4, v5, v6, F412_8.sub ⟨rfl, rfl, rfl, rfl, rfl, rfl, rfl, rfl, rfl, trivial⟩, s412_8.f4.f4.f3.f3.f4⟩ (by kernel_rfl)
    · refine Fi (T := Ty.slice (Ty.int .i64)) [] (.slice none 0 0) rfl rfl OA F11 s4 Pp Xu rfl rfl rfl (Hn (by omega) hmk) rfl fun v5 _ _ F_8 s_8 => ?_
      refine Dv ⟨s_8.drop, ?_⟩
      refine Hw 4 12 rfl rfl (by kernel_rfl) ?_ ?_
      · refine Fi (T := Ty.ptr 81 Bi) none (.pointer none) rfl rfl IZ F_8 s_8 OY Ys rfl rfl rfl (Hn (by omega) hmk) rfl fun v4 _ _ F8_4 s8_4 => ?_
        refine Dv ⟨s8_4.drop.drop, ?_⟩
        refine ho 12 rfl (by kernel_rfl) ?_
        refine Fi (T := Ty.ptr 56 Bf) none (.pointer none) rfl rfl IZ F8_4 s8_4 Pf U4 rfl rfl rfl (Hn (by omega) hmk) rfl fun v6 _ _ F84_12 s84_12 => ?_
        refine Dv ⟨s84_12.drop.drop.drop, ?_⟩
        exact E5 hJ ⟨v4, v5, v6, F84_12.sub ⟨rfl, rfl, rfl, rfl, rfl, rfl, rfl, rfl, rfl, trivial⟩, s84_12.f4.f4.f2.f4.f4⟩ (by kernel_rfl)
      · refine Fi (T := Ty.ptr 56 Bf) none (.pointer none) rfl rfl IZ F_8 s_8 Pf U4 rfl rfl rfl (Hn (by omega) hmk) rfl fun v6 _ _ F8_12 s8_12 => ?_
        refine Dv ⟨s8_12.drop.drop, ?_⟩
        refine ho 4 rfl (by kernel_rfl) ?_
        refine Fi (T := Ty.ptr 81 Bi) none (.pointer none) rfl rfl IZ F8_12 s8_12 OY Ys rfl rfl rfl (Hn (by omega) hmk) rfl fun v4 _ _ F812_4 s812_4 => ?_
        refine Dv ⟨s812_4.drop.drop.drop, ?_⟩
        exact E5 hJ ⟨v4, v5, v6, F812_4.sub ⟨rfl, rfl, rfl, rfl, rfl, rfl, rfl, rfl, rfl, trivial⟩, s812_4.f4.f4.f3.f4.f4⟩ (by kernel_rfl)
    · refine Fi (T := Ty.ptr 56 Bf) none (.pointer none) rfl rfl IZ F11 s4 Pf U4 rfl rfl rfl (Hn (by omega) hmk) rfl fun v6 _ _ F_12 s_12 => ?_
      refine Dv ⟨s_12.drop, ?_⟩
      refine Hw 4 8 rfl rfl (by kernel_rfl) ?_ ?_
      · refine Fi (T := Ty.ptr 81 Bi) none (.pointer none) rfl rfl IZ F_12 s_12 OY Ys rfl rfl rfl (Hn (by omega) hmk) rfl fun v4 _ _ F12_4 s12_4 => ?_
        refine Dv ⟨s12_4.drop.drop, ?_⟩
        refine ho 8 rfl (by kernel_rfl) ?_
        refine Fi (T := Ty.slice (Ty.int .i64)) [] (.slice none 0 0) rfl rfl OA F12_4 s12_4 Pp Xu rfl rfl rfl (Hn (by omega) hmk) rfl fun v5 _ _ F124_8 s124_8 => ?_
        refine Dv ⟨s124_8.drop.drop.drop, ?_⟩
        exact E5 hJ ⟨v4, v5, v6, F124_8.sub ⟨rfl, rfl, rfl, rfl, rfl, rfl, rfl, rfl, rfl, trivial⟩, s124_8.f4.f4.f4.f3.f4⟩ (by kernel_rfl)
      · refine Fi (T := Ty.slice (Ty.int .i64)) [] (.slice none 0 0) rfl rfl OA F_12 s_12 Pp Xu rfl rfl rfl (Hn (by omega) hmk) rfl fun v5 _ _ F12_8 s12_8 => ?_
        refine Dv ⟨s12_8.drop.drop, ?_⟩
        refine ho 4 rfl (by kernel_rfl) ?_
        refine Fi (T := Ty.ptr 81 Bi) none (.pointer none) rfl rfl IZ F12_8 s12_8 OY Ys rfl rfl rfl (Hn (by omega) hmk) rfl fun v4 _ _ F128_4 s128_4 => ?_
        refine Dv ⟨s128_4.drop.drop.drop, ?_⟩
        exact E5 hJ ⟨v4, v5, v6, F128_4.sub ⟨rfl, rfl, rfl, rfl, rfl, rfl, rfl, rfl, rfl, trivial⟩, s128_4.f4.f4.f4.f4.f4⟩ (by kernel_rfl)
    rintro _ w5 ⟨v4, v5, v6, F12, s5⟩
    obtain ⟨A4, c4, hv4⟩ := s5.form (.head _)
    obtain ⟨A5, c5, hv5⟩ := s5.form (.tail _ <| .head _)
    obtain ⟨A6, c6, hv6⟩ := s5.form (.tail _ <| .tail _ <| .head _)
    refine ho 13 rfl (by kernel_rfl) ?_
    refine sx F12 (Ii (vs := [.agg ⟨[.string ⟨⟨a0.Name⟩⟩, v0_1, v0_2, v0_3]⟩, v4, v5, v6]) Alp Ald rfl (cs := [.string ⟨⟨a0.Name⟩⟩, v0_1, v0_2, v0_3, v4, v5, v6, .slice none 0 0]) (YJ (pre := []) (zs := [.string ⟨⟨[]⟩⟩, .slice none 0 0, .slice none 0 0, .slice none 0 0]) (post := [.slice none 0 0, .slice none 0 0, .slice none 0 0, .slice none 0 0]) rfl rfl <| D8 rfl (KO ⟨_, _, hv4⟩) (by simp) <| D8 rfl (KO ⟨_, _, hv5⟩) (by simp) <| D8 rfl (KO ⟨_, _, hv6⟩) (by simp) <| Ch)) fun _ F13 => ?_
    refine Dv ⟨s5.drop.drop.drop, ?_⟩
    refine ho 14 rfl (by kernel_rfl) ?_
    refine Hu (cs := [.string ⟨⟨a0.Name⟩⟩, v0_1, v0_2, v0_3, v4, v5, v6, .slice none 0 0]) F13 s5 rfl rfl rfl fun g w6 _ F14 s6 => ?_
    refine Dv ⟨s6.drop.drop.drop.drop, ?_⟩
    refine ho 15 rfl (by kernel_rfl) ?_
    refine sv 1 F14 fun _ F15 => ?_
    refine Dv ⟨s6.drop.drop.drop.drop, ?_⟩
    refine Ea (by kernel_rfl) ?_
    refine wp_seq ?_
    refine AZ ?_
    refine sv 2 F15 fun _ F16 => ?_
    refine AW ?_
    refine wp_seq ?_
    refine AZ ?_
    refine sv 1 F16 fun _ F17 => ?_
    refine LZ (parts := [(0, .tmp 41)]) (Flat.int .i64) ([a1] : List Int) F17 s6 BC rfl (by decide) rfl rfl rfl (by simp [Value.cells]) rfl rfl rfl fun vo w7 _ F18 s7 => ?_
    refine sv 1 F18 fun _ F19 => ?_
    refine AW ?_
    refine wp_seq ?_
    refine AZ ?_
    refine sv 1 F19 fun _ F20 => ?_
    refine sx F20 (Ce (EA 23 (by simp)) rfl (s7.BP (.tail _ <| .tail _ <| .tail _ <| .tail _ <| .tail _ <| .tail _ <| .head _) rfl)) fun _ F21 => ?_
    refine sx F21 (Io rfl underlying23 (H7 (EZ hr0_2 s7))) fun _ F22 => ?_
    refine PW Flat.bool false F22 s7 Aau rfl rfl zr4 rfl rfl rfl (Hn (by omega) hmk) rfl fun vm w8 _ F23 s8 => ?_
    refine sv 1 F23 fun _ F24 => ?_
    refine AW ?_
    refine wp_seq ?_
    refine wp_label ?_
    refine wp_seq ?_
    refine Lh (fun a_ w_ => ∃ (bo : List (Option (Nat × AK))) (vo : Value), bo.map (Option.map Prod.snd) = S.bodies ∧ S.calls.length = a0.Funcs.length ∧ Fr a_ 126 [(1, jI a1), (4, jP gz), (7, jP g), (8, jI S.bad), (9, jI S.why)] ∧ SL w [] w_ [AB g 88 [.string ⟨⟨a0.Name⟩⟩, v0_1, v0_2, v0_3, v4, v5, v6, .slice none 0 0], Sl (Ty.ptr 81 Bi) v4 bo, Sl (Ty.slice (Ty.int .i64)) v5 S.calls, Sl (Ty.ptr 56 Bf) v6 (List.replicate a0.Funcs.length none), AB gz 56 (EK ⟨⟨0, false⟩, ⟨0, false⟩, ⟨0, false⟩, ⟨0, false⟩⟩)]) ?_ ?_
    · refine wp_block ?_
      refine QA (DJ a0) (fun s a_ w_ => ∃ (bo : List (Option (Nat × AK))) (vo : Value), bo.map (Option.map Prod.snd) = s.bodies ∧ (s.calls.length = a0.Funcs.length ∧ s.met.length = a0.Funcs.length ∧ bo.length = a0.Funcs.length) ∧ Fr a_ 126 [(1, jI a1), (2, jP gm), (4, jP gz), (7, jP g), (8, jI s.bad), (9, jI s.why), (10, vo), (11, vm)] ∧ SL w [] w_ [Sl Ty.bool vm s.met, Sl (Ty.int .i64) vo s.opn, AB g 88 [.string ⟨⟨a0.Name⟩⟩, v0_1, v0_2, v0_3, v4, v5, v6, .slice none 0 0], Sl (Ty.ptr 81 Bi) v4 bo, Sl (Ty.slice (Ty.int .i64)) v5 s.calls, Sl (Ty.ptr 56 Bf) v6 (List.replicate a0.Funcs.length none), AB gz 56 (EK ⟨⟨0, false⟩, ⟨0, false⟩, ⟨0, false⟩, ⟨0, false⟩⟩), AB gm 26 [.string ⟨⟨a0.Name⟩⟩, v0_1, v0_2, v0_3]]) hS ?_ ?_
      · refine ⟨List.replicate a0.Funcs.length none, vo, by simp, ⟨by simp, by simp, by simp⟩, F24.sub ⟨rfl, rfl, rfl, rfl, rfl, rfl, rfl, rfl, trivial⟩, ?_⟩
        rw [hn0] at s8
        exact s8
      · rintro ⟨opn, met, bodies, calls, bad, why⟩ _ w9 ⟨bo, vo, hbo, hcl, F25, s9⟩ o HB hr
        dsimp only at hbo hcl F25 s9
        unfold DJ at HB
        dsimp only at HB
        refine wp_seq ?_
        refine wp_seq ?_
        refine AZ ?_
        refine sv 1 F25 fun _ F26 => ?_
        refine sx F26 (Io rfl underlying28 (H7 (s9.BO (.tail _ <| .head _)))) fun _ F27 => ?_
        refine sv 1 F27 fun _ F28 => ?_
        refine AW ?_
        cases opn with
        | nil =>
          have F29 := F28.kf (d := 49) (t := decide ((([] : List Int).length : Int) > 0)) (by simp)
          refine Fv F29 rfl ?_
          refine wp_exit ?_
          refine IP <| IP <| KP ?_
          obtain rfl := BS HB
          obtain rfl := hr _ rfl
          exact ⟨bo, vo, hbo, hcl.1, F29.sub ⟨rfl, rfl, rfl, rfl, rfl, trivial⟩, s9.drop.drop.tk 5 rfl⟩
        | cons x rest =>
        have F29 := F28.kt (d := 49) (t := decide (((x :: rest).length : Int) > 0)) (by simp)
        refine DO F29 rfl ?_
        refine wp_skip ?_
        refine wp_block ?_
        refine wp_seq ?_
        refine AZ ?_
        have hx0 : idx (x :: rest) 0 = some x := rfl
        obtain ⟨ad1, hi1, he1⟩ := HS (Flat.int .i64) s9 (.tail _ <| .head _) BC rfl hx0
        refine sv 1 F29 fun _ F30 => ?_
        refine sx F30 (hi1 _ _ _ _ _ _ _ _ _ _ rfl rfl) fun _ F31 => ?_
        refine sx F31 (Ce (EA 3 (by simp)) rfl (Cells.at_ (SL.CC (Flat.int .i64) s9 (.tail _ <| .head _) he1 hx0) (o := 0) rfl)) fun _ F32 => ?_
        refine sv 1 F32 fun _ F33 => ?_
        refine AW ?_
        refine wp_seq ?_
        refine AZ ?_
        refine sv 1 F33 fun _ F34 => ?_
        have hcut : GZ (x :: rest) 1 ((x :: rest).length : Int) = some rest := by
          unfold GZ
          rw [A1 ⟨by omega, by simp; omega, Int.le_refl _⟩, Int.toNat_natCast, List.take_length]
          rfl
        obtain ⟨vo2, hsc, s10⟩ := SL.YS s9.f1 BC rfl hcut (some 1) none (.inl rfl) (.inr ⟨rfl, rfl⟩)
        refine I5 F34 (hsc _ _ _ _ _ .i64 .i64 _ _ _ _ _ rfl rfl trivial) rfl rfl rfl fun _ F35 => ?_
        refine sv 1 F35 fun _ F36 => ?_
        refine AW ?_
        obtain ⟨mt, hmt, HB⟩ := bind_ok HB
        refine wp_seq ?_
        refine wp_seq ?_
        refine AZ ?_
        obtain ⟨ad2, hi2, he2⟩ := HS Flat.bool s10 (.tail _ <| .head _) Aau rfl hmt
        refine sv 2 F36 fun _ F37 => ?_
        refine sx F37 (hi2 _ _ _ _ _ _ _ _ _ _ rfl rfl) fun _ F38 => ?_
        refine sx F38 (Ce (EA 4 (by simp)) rfl (Cells.at_ (SL.CC Flat.bool s10 (.tail _ <| .head _) he2 hmt) (o := 0) rfl)) fun _ F39 => ?_
        refine AW ?_
        cases mt with
        | true =>
          refine DO F39 rfl ?_
          refine wp_exit ?_
          refine IP <| KP ?_
          obtain rfl := BS HB
          exact ⟨_, rfl, bo, vo2, hbo, hcl, F39.sub ⟨rfl, rfl, rfl, rfl, rfl, rfl, rfl, rfl, trivial⟩, s10.f1⟩
        | false =>
        refine Fv F39 rfl ?_
        refine wp_skip ?_
        refine wp_seq ?_
        refine AZ ?_
        obtain ⟨ad3, hi3, he3⟩ := HS Flat.bool s10 (.tail _ <| .head _) Aau rfl hmt
        refine sv 2 F39 fun _ F40 => ?_
        refine sx F40 (hi3 _ _ _ _ _ _ _ _ _ _ rfl rfl) fun _ F41 => ?_
        refine Na (y' := true) Flat.bool F41 s10.f1 he3 hmt rfl rfl (by rfl) Alu fun w11 _ F42 s11 => ?_
        refine AW ?_
        replace HB : ((E9 a0 x).bind fun q => if q.2.2 ≠ 0 then (if bad < 0 ∨ x < bad then some (.inl (⟨rest, met.set x.toNat true, bodies, calls, x, q.2.2⟩ : WR)) else some (.inl ⟨rest, met.set x.toNat true, bodies, calls, bad, why⟩))
          else q.1.bind fun b => (Fj b).bind fun c => (app 17592186044416 rest c).bind fun o => some (.inl ⟨o, met.set x.toNat true, bodies.set x.toNat (some b), calls.set x.toNat c, bad, why⟩)) = some o := HB
        obtain ⟨q, hqr, HB⟩ := bind_ok HB
        refine wp_seq ?_
        refine AZ ?_
        refine sx F42 (Iu Ag3 rfl (s11.Do (.tail _ <| .tail _ <| .tail _ <| .tail _ <| .tail _ <| .tail _ <| .tail _ <| .head _) (o := 0) (fun j u hu => by rw [Nat.zero_add]; exact hu)) rfl) fun _ F43 => ?_
        refine sv 1 F43 fun _ F44 => ?_
        refine Ei F44 (Ry (a0 := a0) (hr0_1.Bp s11) (hr0_2.Bp s11) (hr0_3.Bp s11) hqr) fun v12 w12 _ hS12 F45 => ?_
        obtain ⟨vb, rfl, hq12⟩ := hS12
        have s12 := s11.add hq12
        refine sv 7 F45 fun _ F46 => ?_
        refine AW ?_
        refine wp_seq ?_
        refine wp_seq ?_
        refine AZ ?_
        refine sv 2 F46 fun _ F47 => ?_
        refine AW ?_
        by_cases hq0 : q.2.2 ≠ 0
        · rw [A1 hq0] at HB
          have F48 := F47.kt (d := 70) (t := (q.2.2 != 0)) (by simpa using hq0)
          refine DO F48 rfl ?_
          refine wp_seq ?_
          refine Lh (fun a_ w_ => (∃ s', o = .inl s' ∧ ∃ (bo : List (Option (Nat × AK))) (vo : Value), bo.map (Option.map Prod.snd) = s'.bodies ∧ (s'.calls.length = a0.Funcs.length ∧ s'.met.length = a0.Funcs.length ∧ bo.length = a0.Funcs.length) ∧ Fr a_ 126 [(1, jI a1), (2, jP gm), (4, jP gz), (7, jP g), (8, jI s'.bad), (9, jI s'.why), (10, vo), (11, vm)] ∧ SL w [] w_ [Sl Ty.bool vm s'.met, Sl (Ty.int .i64) vo s'.opn, AB g 88 [.string ⟨⟨a0.Name⟩⟩, v0_1, v0_2, v0_3, v4, v5, v6, .slice none 0 0], Sl (Ty.ptr 81 Bi) v4 bo, Sl (Ty.slice (Ty.int .i64)) v5 s'.calls, Sl (Ty.ptr 56 Bf) v6 (List.replicate a0.Funcs.length none), AB gz 56 (EK ⟨⟨0, false⟩, ⟨0, false⟩, ⟨0, false⟩, ⟨0, false⟩⟩), AB gm 26 [.string ⟨⟨a0.Name⟩⟩, v0_1, v0_2, v0_3]])) ?_ ?_
          · refine wp_seq ?_
            refine AZ ?_
            refine sv 3 F48 fun _ F49 => ?_
            by_cases hb0 : bad < 0
            · have F50 := F49.kt (d := 73) (t := decide (bad < 0)) (decide_eq_true hb0)
              rw [A1 (Or.inl hb0)] at HB
              refine sv 4 F50 fun _ F51 => ?_
              refine AW ?_
              refine DO F51 rfl ?_
              refine AZ ?_
              refine sv 4 F51 fun _ F52 => ?_
              refine AW ?_
              obtain rfl := BS HB
              exact ⟨_, rfl, bo, vo2, hbo, ⟨hcl.1, by simp [hcl.2.1], hcl.2.2⟩, F52.sub ⟨rfl, rfl, rfl, rfl, rfl, rfl, rfl, rfl, trivial⟩, s12.drop⟩
            · have F50 := F49.kf (d := 73) (t := decide (bad < 0)) (decide_eq_false hb0)
              refine sv 4 F50 fun _ F51 => ?_
              refine AW ?_
              by_cases hb1 : x < bad
              · have F52 := F51.kt (d := 77) (t := decide (x < bad)) (decide_eq_true hb1)
                rw [A1 (Or.inr hb1)] at HB
                refine DO F52 rfl ?_
                refine AZ ?_
                refine sv 4 F52 fun _ F53 => ?_
                refine AW ?_
                obtain rfl := BS HB
                exact ⟨_, rfl, bo, vo2, hbo, ⟨hcl.1, by simp [hcl.2.1], hcl.2.2⟩, F53.sub ⟨rfl, rfl, rfl, rfl, rfl, rfl, rfl, rfl, trivial⟩, s12.drop⟩
              · have F52 := F51.kf (d := 77) (t := decide (x < bad)) (decide_eq_false hb1)
                rw [Ay (fun h => h.elim hb0 hb1)] at HB
                refine Fv F52 rfl ?_
                refine wp_skip ?_
                obtain rfl := BS HB
                exact ⟨_, rfl, bo, vo2, hbo, ⟨hcl.1, by simp [hcl.2.1], hcl.2.2⟩, F52.sub ⟨rfl, rfl, rfl, rfl, rfl, rfl, rfl, rfl, trivial⟩, s12.drop⟩
          · rintro _ w13 hJ
            refine wp_exit ?_
            refine IP <| KP ?_
            exact hJ
        · rw [Ay hq0] at HB
          have F48 := F47.kf (d := 70) (t := (q.2.2 != 0)) (by simpa using hq0)
          refine Fv F48 rfl ?_
          refine wp_skip ?_
          obtain ⟨b, hb, HB⟩ := bind_ok HB
          obtain ⟨c, hc, HB⟩ := bind_ok HB
          obtain ⟨op2, happ, HB⟩ := bind_ok HB
          obtain ⟨_, ⟨gB, vB, rfl, rfl⟩, s13⟩ := SL.VW s12 hb
          replace s13 : SL w [] w12 (AB gB 81 [vB, jI b.AX] :: Sl Bc vB b.l :: Sl Ty.bool vm (met.set x.toNat true) :: Sl (Ty.int .i64) vo2 rest :: AB g 88 [.string ⟨⟨a0.Name⟩⟩, v0_1, v0_2, v0_3, v4, v5, v6, .slice none 0 0] :: Sl (Ty.ptr 81 Bi) v4 bo :: Sl (Ty.slice (Ty.int .i64)) v5 calls :: Sl (Ty.ptr 56 Bf) v6 (List.replicate a0.Funcs.length none) :: AB gz 56 (EK ⟨⟨0, false⟩, ⟨0, false⟩, ⟨0, false⟩, ⟨0, false⟩⟩) :: [AB gm 26 [.string ⟨⟨a0.Name⟩⟩, v0_1, v0_2, v0_3]]) := s13
          have hxr := Dd hmt
          obtain ⟨y4, hy4⟩ : ∃ y4, idx bo x = some y4 := by
            unfold idx
            rw [A1 hxr.1, List.getElem?_eq_getElem (by omega)]
            exact ⟨_, rfl⟩
          obtain ⟨y5, hy5⟩ : ∃ y5, idx calls x = some y5 := by
            unfold idx
            rw [A1 hxr.1, List.getElem?_eq_getElem (by omega)]
            exact ⟨_, rfl⟩
          refine wp_seq ?_
          have hS : ∀ {w_ : World}, SL w [] w_ (AB gB 81 [vB, jI b.AX] :: Sl Bc vB b.l :: Sl Ty.bool vm (met.set x.toNat true) :: Sl (Ty.int .i64) vo2 rest :: AB g 88 [.string ⟨⟨a0.Name⟩⟩, v0_1, v0_2, v0_3, v4, v5, v6, .slice none 0 0] :: Sl (Ty.ptr 81 Bi) v4 bo :: Sl (Ty.slice (Ty.int .i64)) v5 calls :: Sl (Ty.ptr 56 Bf) v6 (List.replicate a0.Funcs.length none) :: AB gz 56 (EK ⟨⟨0, false⟩, ⟨0, false⟩, ⟨0, false⟩, ⟨0, false⟩⟩) :: [AB gm 26 [.string ⟨⟨a0.Name⟩⟩, v0_1, v0_2, v0_3]]) → SL w [] w_ [Sl Ty.bool vm (met.set x.toNat true), Sl (Ty.int .i64) vo2 rest, AB g 88 [.string ⟨⟨a0.Name⟩⟩, v0_1, v0_2, v0_3, v4, v5, v6, .slice none 0 0], Sl (Ty.ptr 56 Bf) v6 (List.replicate a0.Funcs.length none), AB gz 56 (EK ⟨⟨0, false⟩, ⟨0, false⟩, ⟨0, false⟩, ⟨0, false⟩⟩), AB gm 26 [.string ⟨⟨a0.Name⟩⟩, v0_1, v0_2, v0_3]] := fun h => h.drop.drop.f3.drop.f3.drop
          refine Dk BL (hS s13) ?_
          have s14 := s13.drew
          refine hq [0, 1, 2, 3, 4, 5, 6, 7, 8, 9, 10, 11] F48 (hS s14) (QI.ev 3 rfl <| QI.op rfl (fun _ hC => Ce (EA 84 (by simp)) rfl (hC.BP (.tail _ <| .tail _ <| .head _) rfl)) rfl <| QI.ev 4 rfl <| QI.op rfl (fun _ hC => Ce (EA 64 (by simp)) rfl (hC.BP (.tail _ <| .tail _ <| .head _) rfl)) rfl <| QI.ev 3 rfl <| QI.nil) (by kernel_rfl) fun _ F49 => ?_
          refine ho 12 rfl (by kernel_rfl) ?_
          obtain ⟨G5, hst5, hF5, hG5, hcl5⟩ := SL.open_ (ps := [AB gB 81 [vB, jI b.AX], Sl Bc vB b.l]) s14
          refine Ei F49 (N6 (a0 := ⟨b.l, b.AX⟩) hst5 hc) fun v15 w15 _ hS15 F50 => ?_
          obtain ⟨_, rfl, hq15⟩ := hS15
          have s15 := hcl5 _ _ hq15
          replace s15 : SL w [] w15 (AB gB 81 [vB, jI b.AX] :: Sl Bc vB b.l :: Sl (Ty.int .i64) v15 c :: Sl Ty.bool vm (met.set x.toNat true) :: Sl (Ty.int .i64) vo2 rest :: AB g 88 [.string ⟨⟨a0.Name⟩⟩, v0_1, v0_2, v0_3, v4, v5, v6, .slice none 0 0] :: Sl (Ty.ptr 81 Bi) v4 bo :: Sl (Ty.slice (Ty.int .i64)) v5 calls :: Sl (Ty.ptr 56 Bf) v6 (List.replicate a0.Funcs.length none) :: AB gz 56 (EK ⟨⟨0, false⟩, ⟨0, false⟩, ⟨0, false⟩, ⟨0, false⟩⟩) :: [AB gm 26 [.string ⟨⟨a0.Name⟩⟩, v0_1, v0_2, v0_3]]) := s15
          refine Dv ⟨hS s15.f2.drop, ?_⟩
          refine ho 13 rfl (by kernel_rfl) ?_
          obtain ⟨A4', cp4, hv4', _⟩ := SL.Ahb s15.f6 hy4
          refine sx F50 (TK OY hv4' hxr.1 (Dd hy4).2.1 rfl rfl) fun _ F51 => ?_
          refine Dv ⟨hS s15.f2.drop, ?_⟩
          refine ho 14 rfl (by kernel_rfl) ?_
          have s16 : SL w [] w15 (Dt Bi b [vB, jI b.AX] :: AB gB 81 [vB, jI b.AX] :: Sl (Ty.ptr 81 Bi) v4 bo :: Sl (Ty.int .i64) v15 c :: Sl Ty.bool vm (met.set x.toNat true) :: Sl (Ty.int .i64) vo2 rest :: AB g 88 [.string ⟨⟨a0.Name⟩⟩, v0_1, v0_2, v0_3, v4, v5, v6, .slice none 0 0] :: Sl (Ty.slice (Ty.int .i64)) v5 calls :: Sl (Ty.ptr 56 Bf) v6 (List.replicate a0.Funcs.length none) :: AB gz 56 (EK ⟨⟨0, false⟩, ⟨0, false⟩, ⟨0, false⟩, ⟨0, false⟩⟩) :: [AB gm 26 [.string ⟨⟨a0.Name⟩⟩, v0_1, v0_2, v0_3]]) :=
            (SL.OV (f := Il) (x := b) (SL.Kl (SL.dsl (SL.JI s15 (Flat.int .i64) b.AX).f2))).f6.f2.f2
          refine ZB F51 s16 hy4 hv4' rfl rfl Akr fun w17 _ F52 s17 => ?_
          refine Dv ⟨(s17.drop.drop.f3.drop), ?_⟩
          refine ho 15 rfl (by kernel_rfl) ?_
          obtain ⟨cs5, A5', cp5, hv5', _⟩ := SL.focus (s17.f5) hy5
          refine sx F52 (TK Pp hv5' hxr.1 (Dd hy5).2.1 rfl rfl) fun _ F53 => ?_
          refine Dv ⟨(s17.drop.drop.f3.drop), ?_⟩
          refine ho 16 rfl (by kernel_rfl) ?_
          refine Ack F53 (s17.f1.f5) hy5 hv5' rfl rfl Aku fun w18 _ F54 s18 => ?_
          refine Dv ⟨s18.drop.drop, ?_⟩
          refine Ea (by kernel_rfl) ?_
          have hx5 : idx (calls.set x.toNat c) x = some c := OD hy5
          obtain ⟨ad6, cs6, G6, hi6, hc6, hr6, hG6⟩ := Rd.idx (s18.rd0 (.head _)) Pp rfl hx5
          obtain ⟨vc, rfl, hrc⟩ := Xo hr6 hG6
          refine AZ ?_
          refine sv 4 F54 fun _ F55 => ?_
          refine sx F55 (Ce (EA 64 (by simp)) rfl (s18.BP (.tail _ <| .tail _ <| .tail _ <| .tail _ <| .head _) rfl)) fun _ F56 => ?_
          refine sv 1 F56 fun _ F57 => ?_
          refine sx F57 (hi6 _ _ _ _ _ _ _ _ _ _ rfl rfl) fun _ F58 => ?_
          refine sx F58 (Ce (EA 28 (by simp)) rfl (Cells.at_ (hc6 _ _ (SL.BF _)) (o := 0) rfl)) fun _ F59 => ?_
          obtain ⟨_, hr_⟩ := (EZ hrc (SL.BF _))
          refine Km (Flat.int .i64) F59 s18.f3 BC rfl rfl rfl rfl hr_ rfl rfl happ rfl fun v19 w19 _ F60 s19 => ?_
          refine sv 1 F60 fun _ F61 => ?_
          refine AW ?_
          refine NY ?_
          obtain rfl := BS HB
          exact ⟨_, rfl, bo.set x.toNat (some (gB, b)), v19, by rw [List.map_set, hbo]; rfl, ⟨by simp [hcl.1], by simp [hcl.2.1], by simp [hcl.2.2]⟩, F61.sub ⟨rfl, rfl, rfl, rfl, rfl, rfl, rfl, rfl, trivial⟩, s19.f7.f7.f7.f4.f5.f7.f6.f7⟩
    · rintro _ w20 ⟨bo, vo3, hbo, hcl, F62, s20⟩
      refine wp_seq ?_
      refine wp_seq ?_
      refine AZ ?_
      refine sv 2 F62 fun _ F63 => ?_
      refine AW ?_
      by_cases hbad : 0 ≤ S.bad
      · rw [A1 hbad] at H
        have F64 := F63.kt (d := 105) (t := decide (S.bad ≥ 0)) (decide_eq_true hbad)
        refine DO F64 rfl ?_
        refine wp_seq ?_
        refine AZ ?_
        refine sx F64 (Ii (parts := []) (vs := []) Ua UI rfl (cs := EK Z4) (by rfl)) fun _ F65 => ?_
        refine sv 2 F65 fun _ F66 => ?_
        refine EL F66 s20.f4 rfl rfl SN (Bl rfl (Bl rfl (Bl rfl (Bl rfl (Bl rfl (Bl rfl (Bl rfl (Bl rfl GI)))))))) (Nat.le_of_ble_eq_true rfl) fun w21 _ F67 s21 => ?_
        refine sv 2 F67 fun _ F68 => ?_
        refine AW ?_
        refine wp_ret ?_
        obtain rfl := BS H
        exact hret (r_ := (Z4, S.bad, S.why)) F68 s21 rfl rfl rfl
      rw [Ay hbad] at H
      have F64 := F63.kf (d := 105) (t := decide (S.bad ≥ 0)) (decide_eq_false hbad)
      refine Fv F64 rfl ?_
      refine wp_skip ?_
      obtain ⟨rg, hrg, H⟩ := bind_ok H
      refine wp_seq ?_
      refine wp_seq ?_
      refine AZ ?_
      refine sv 2 F64 fun _ F65 => ?_
      have s22 : SL w [] w20 ([AB g 88 [.string ⟨⟨a0.Name⟩⟩, v0_1, v0_2, v0_3, v4, v5, v6, .slice none 0 0], Sl (Ty.ptr 81 Bi) v4 bo, Sl (Ty.ptr 56 Bf) v6 (List.replicate a0.Funcs.length none), Sl Ty.Hk (.slice none 0 0) []] ++ [Sl (Ty.slice (Ty.int .i64)) v5 S.calls, AB gz 56 (EK ⟨⟨0, false⟩, ⟨0, false⟩, ⟨0, false⟩, ⟨0, false⟩⟩)]) := (SL.Ca (T := Ty.Hk) s20).f5.f4.f2.f5.f5.f5
      have hrk : (⟨a0.Classes, a0.Funcs, S.bodies, S.calls⟩ : RK) = CH ⟨a0, bo, S.calls, List.replicate a0.Funcs.length none, Jr g⟩ := by rw [← hbo]; rfl
      rw [hrk] at hrg H
      obtain ⟨G7, hst7, hF7, hG7, hcl7⟩ := SL.open_ s22
      refine HW F65 (Alq 37 (by simp)) rfl (OW (a0 := (⟨a0, bo, S.calls, List.replicate a0.Funcs.length none, []⟩ : Bh)) hst7 (hr0_1.pass s22 hF7) (hr0_2.pass s22 hF7) (hr0_3.pass s22 hF7) (N2 (.head _) hG7) hrg) rfl fun v23 w23 _ hS23 F66 => ?_
      obtain ⟨rfl, hq23⟩ := hS23
      have s23 := hcl7 _ _ hq23
      refine AW ?_
      cases rg with
      | true =>
        refine DO F66 rfl ?_
        refine wp_seq ?_
        refine AZ ?_
        refine sx F66 (Ii (parts := []) (vs := []) Ua UI rfl (cs := EK Z4) (by rfl)) fun _ F67 => ?_
        refine EL F67 s23.f5 rfl rfl SN (Bl rfl (Bl rfl (Bl rfl (Bl rfl (Bl rfl (Bl rfl (Bl rfl (Bl rfl GI)))))))) (Nat.le_of_ble_eq_true rfl) fun w24 _ F68 s24 => ?_
        refine sv 2 F68 fun _ F69 => ?_
        refine AW ?_
        refine wp_ret ?_
        obtain rfl := BS H
        exact hret (r_ := (Z4, 0, 0)) F69 s24 rfl rfl rfl
      | false =>
      refine Fv F66 rfl ?_
      refine wp_skip ?_
      obtain ⟨bb, hbb, H⟩ := bind_ok H
      obtain rfl := BS H
      refine wp_seq ?_
      refine AZ ?_
      refine sv 2 F66 fun _ F67 => ?_
      refine sx F67 (Sb (g := g) rfl) fun _ F68 => ?_
      refine sv 1 F68 fun _ F69 => ?_
      refine sx F69 (Sb (g := g) rfl) fun _ F70 => ?_
      refine sv 1 F70 fun _ F71 => ?_
      refine sx F71 (Sb (g := g) rfl) fun _ F72 => ?_
      refine LZ (parts := [(0, .tmp 115), (1, .tmp 117), (2, .tmp 119)]) (show Flat Ty.Hk (fun x => [x.v]) from Flat.scalar (α := VV) (fun x => VV.v x) fun x => VV.one x) (Jr g) F72 s23 Xm rfl (by decide) rfl rfl rfl (by intro v hv; simp only [List.mem_cons, List.not_mem_nil, or_false] at hv; rcases hv with rfl | rfl | rfl <;> rfl) rfl rfl rfl fun v7 w25 _ F73 s25 => ?_
      refine sv 2 F73 fun _ F74 => ?_
      obtain ⟨A7, c7, hv7⟩ := s25.form (.head _)
      refine MN F74 s25.f1 rfl rfl Ak9 (by rw [hv7]; rfl) (by rw [hv7]; rfl) rfl fun w26 _ F75 s26 => ?_
      refine AW ?_
      refine wp_seq ?_
      refine AZ ?_
      refine sv 2 F75 fun _ F76 => ?_
      have s27 : SL w [] w26 ((RW.mk g v0_1 v0_2 v0_3 v4 v5 v6 v7).ck ⟨a0, bo, S.calls, List.replicate a0.Funcs.length none, Jr g⟩ ++ [Sl (Ty.slice (Ty.int .i64)) v5 S.calls, AB gz 56 (EK ⟨⟨0, false⟩, ⟨0, false⟩, ⟨0, false⟩, ⟨0, false⟩⟩)]) := (s26.f6.f6.f3.f5.f5.f5.f6.drop)
      refine HW F76 (UY 41 (by simp)) rfl (Lq s27 fun F h1 h2 h3 => Aj6 _ (RW.mk g v0_1 v0_2 v0_3 v4 v5 v6 v7) ⟨a0, bo, S.calls, List.replicate a0.Funcs.length none, Jr g⟩ a1 bb hbb ⟨by simp [CH, hcl], fun i p hp => by rw [List.getElem?_replicate] at hp; split at hp <;> cases hp⟩ rfl h1 ⟨hr0_1.pass s27 h2, hr0_2.pass s27 h2, hr0_3.pass s27 h2, N2 (.head _) h3⟩) rfl fun v28 w28 _ hS28 F77 => ?_
      obtain ⟨dn28, ⟨rfl, _⟩, s28⟩ := hS28
      refine EL F77 s28.f5 rfl rfl SN (Bl rfl (Bl rfl (Bl rfl (Bl rfl (Bl rfl (Bl rfl (Bl rfl (Bl rfl GI)))))))) (Nat.le_of_ble_eq_true rfl) fun w29 _ F78 s29 => ?_
      refine sv 2 F78 fun _ F79 => ?_
      refine AW ?_
      refine wp_ret ?_
      exact hret (r_ := (bb, 0, 0)) F79 s29 rfl rfl rfl
theorem Qo {w : World} {r : Bool} (H : Gp = some r) :
    Calls prog 19 #[] w (B8 fun u_ w_ => u_ = .bool r ∧ SL w [] w_ []) := by
 have s0 : SL w [] w [] := SL.BF w
 refine Cb func19 ntmps19 7 rfl rfl rfl fun _ F2 => ?_
 unfold Gp at H
 refine Ad (parts := [(0, .const (jU 2)), (1, .const (jU 1)), (2, .const (jU 6)), (3, .const (jU 22))]) Flat.u8 ([(2 : UInt8), (1 : UInt8), (6 : UInt8), (22 : UInt8)] : List UInt8) F2 s0 ET rfl (by decide) rfl rfl rfl (by simp [Value.cells]) rfl rfl rfl fun v0 w0 _ F s1 => ?_
 have h0 := (fO s1 m0)
 refine gx F (Af (vs := [.string ⟨⟨[102]⟩⟩, v0]) So Ah0 rfl (cs := [.string ⟨⟨[102]⟩⟩, .slice none 0 0, jU 0, jI 0, v0]) (by obtain ⟨_, _, e_0⟩ := h0; rw [e_0] <;> rfl)) 0 rfl rfl fun _ F => ?_
 have s2 : SL w [] _ (Dt Es (⟨[102], (⟨[], 0⟩ : Bq), 0, ([(2 : UInt8), (1 : UInt8), (6 : UInt8), (22 : UInt8)] : List UInt8)⟩ : Df) [.string ⟨⟨[102]⟩⟩, .slice none 0 0, jU 0, jI 0, v0] :: []) := (SL.OV (f := KY) (x := (⟨[102], (⟨[], (0 : UInt8)⟩ : Bq), 0, ([(2 : UInt8), (1 : UInt8), (6 : UInt8), (22 : UInt8)] : List UInt8)⟩ : Df)) (SL.Kl (SL.JI (SL.Kl (SL.OV (f := IR) (x := (⟨[], (0 : UInt8)⟩ : Bq)) (SL.Kl (SL.dsl (SL.Ca (T := Ty.u8) (SL.JI (SL.Kl (SL.JI (SL.dsl s1) (Flat.int .i64) 0)) Flat.u8 (0 : UInt8))))))) Flat.str [102])))
 refine Og F s2 SO rfl (by decide) rfl rfl rfl fun v1 w1 _ F s3 => ?_
 have h1 := (fO s3 m0)
 refine gx F (Af (vs := [.string ⟨⟨[109]⟩⟩, v1]) WQ Aix rfl (cs := [.string ⟨⟨[109]⟩⟩, .slice none 0 0, v1, .slice none 0 0]) (by obtain ⟨_, _, e_0⟩ := h1; rw [e_0] <;> rfl)) 0 rfl rfl fun _ F => ?_
 refine Ag F s3 WQ rfl rfl fun g0 w2 _ F s4 => Ah F s4 rfl rfl Aif (Ab rfl (Ab rfl (Ab (Ap (fO s4 m1)) (Ab rfl Al)))) (Ac rfl) fun w3 _ F s5 => ?_
 obtain ⟨x0, h2, H⟩ := Aa H
 refine gw 4 F rfl fun _ F => AV F s5 m0 0 rfl fun _ F => BW F s5 (Qg (a0 := (⟨[109], [], ([(⟨[102], (⟨[], 0⟩ : Bq), 0, ([(2 : UInt8), (1 : UInt8), (6 : UInt8), (22 : UInt8)] : List UInt8)⟩ : Df)] : List Df), []⟩ : AH)) Rd.Akq (s5.rd0 m1) Rd.Akq h2) 4 rfl rfl rfl rfl fun w4 _ F s6 => Ag F s6 Rv rfl rfl fun g1 w5 _ F s7 => Ah F s7 rfl rfl V8 (Ab rfl (Ab rfl (Ab rfl (Ab rfl (Ab rfl (Ab rfl (Ab rfl (Ab rfl Al)))))))) (Ac rfl) fun w6 _ F s8 => gw 9 F rfl fun _ F => Cp 17 F H (fun h3 H F => ?_) (fun h3 H F => ?_)
 ·refine gw 1 F rfl fun _ F => AY F rfl rfl <| gx F (Ar Ql rfl (s8.Do m0 (o := 4) (ds := [jI x0.1.Steps.Most, .bool x0.1.Steps.Is]) (TB _ rfl)) rfl) 0 rfl rfl fun _ F => AY F rfl rfl <| gx F (Af (vs := [jI 3, .bool true]) N4 SC rfl (cs := [jI 3, .bool true]) (rfl)) 0 rfl rfl fun _ F => AY F rfl rfl ?_
  refine gx F (Aad (xs := [jI x0.1.Steps.Most, .bool x0.1.Steps.Is]) (ys := [jI 3, .bool true]) SK (by decide) rfl rfl (SB SK ZK (Ax rfl (Aw Cn rfl) (Aw Cn rfl) (EqAt.up (j := 1) (Nb underlying3) (by decide)) (Ax rfl (Aw Oo rfl) (Aw Oo rfl) (EqAt.up (j := 1) (WS underlying4) (by decide)) SU)))) 2 rfl rfl fun _ F => ?_
  refine Cp 23 F H (fun h4 H F => ?_) (fun h4 H F => ?_)
  ·refine gw 1 F rfl fun _ F => AY F rfl rfl <| gx F (Ar Ql rfl (s8.Do m0 (o := 0) (ds := [jI x0.1.CQ.Most, .bool x0.1.CQ.Is]) (TB _ rfl)) rfl) 0 rfl rfl fun _ F => AY F rfl rfl <| gx F (Af (vs := [jI 1, .bool true]) N4 SC rfl (cs := [jI 1, .bool true]) (rfl)) 0 rfl rfl fun _ F => AY F rfl rfl ?_
   cases H
   refine gx F (Aad (xs := [jI x0.1.CQ.Most, .bool x0.1.CQ.Is]) (ys := [jI 1, .bool true]) SK (by decide) rfl rfl (SB SK ZK (Ax rfl (Aw Cn rfl) (Aw Cn rfl) (EqAt.up (j := 1) (Nb underlying3) (by decide)) (Ax rfl (Aw Oo rfl) (Aw Oo rfl) (EqAt.up (j := 1) (WS underlying4) (by decide)) SU)))) 5 rfl rfl fun _ F => ?_
   exact rt F ⟨rfl, s8.drop.drop.drop⟩
  cases H
  exact gw 9 F rfl fun _ F => rt F ⟨rfl, s8.drop.drop.drop⟩
 cases H
 exact gw 15 F rfl fun _ F => rt F ⟨rfl, s8.drop.drop.drop⟩
theorem Oj {w : World} {v0_1 v0_2 v0_3 : Value} {a0 : AH} {a1 : Int} {r : Bool} (hr0_1 : Rd AL w [] v0_1 a0.Classes) (hr0_2 : Rd Es w [] v0_2 a0.Funcs) (hr0_3 : Rd (Ty.slice Ty.u8) w [] v0_3 a0.Ec) (H : DT a0 a1 = some r) :
    Calls prog 6 #[.agg ⟨[.string ⟨⟨a0.Name⟩⟩, v0_1, v0_2, v0_3]⟩, .int .u64 a1] w (B8 fun u_ w_ => u_ = .bool r ∧ SL w [] w_ []) := by
 have s0 : SL w [] w [] := SL.BF w
 refine Cb func6 ntmps6 2 rfl rfl rfl fun _ F0 => ?_
 unfold DT at H
 refine Ao F0 s0 rfl rfl rfl fun g8 w9 _ F s1 => ?_
 obtain ⟨x0, h0, H⟩ := Aa H
 refine gw 6 F rfl fun _ F => BW F s1 (Qo h0) 3 rfl rfl rfl rfl fun w0 _ F s2 => Be F H 7 6 rfl rfl rfl (fun h1 H _ F => ?_) (fun h1 H _ F => ?_)
 ·cases H
  exact rt F ⟨rfl, s2.drop⟩
 refine AV F s2 m0 0 rfl fun _ F => gx F (Ak rfl underlying23 (fR hr0_2 s2)) 3 rfl rfl fun _ F => Be F H 7 6 rfl rfl rfl (fun h2 H _ F => ?_) (fun h2 H _ F => ?_)
 ·cases H
  exact rt F ⟨rfl, s2.drop⟩
 obtain ⟨h3, H⟩ := Ac9 H
 refine AV F s2 m0 0 rfl fun _ F => gx F (Ak rfl underlying23 (fR hr0_2 s2)) 0 rfl rfl fun _ F => gx F (Ow rfl underlying3 underlying41) 0 rfl rfl fun _ F => gx F (Ajf rfl rfl h3) 0 rfl rfl fun _ F => ?_
 obtain ⟨x1, h4, H⟩ := Aa H
 refine gx F (Ow rfl underlying41 underlying3) 5 rfl rfl fun _ F => AV F s2 m0 1 rfl fun _ F => BW F s2 (Qg (a0 := (⟨a0.Name, a0.Classes, a0.Funcs, a0.Ec⟩ : AH)) (hr0_1.Bp s2) (hr0_2.Bp s2) (hr0_3.Bp s2) h4) 4 rfl rfl rfl rfl fun w1 _ F s3 => Ag F s3 Rv rfl rfl fun g0 w2 _ F s4 => Ah F s4 rfl rfl V8 (Ab rfl (Ab rfl (Ab rfl (Ab rfl (Ab rfl (Ab rfl (Ab rfl (Ab rfl Al)))))))) (Ac rfl) fun w3 _ F s5 => gw 10 F rfl fun _ F => Cp 38 F H (fun h5 H F => ?_) (fun h5 H F => ?_)
 ·cases H
  exact gw 15 F rfl fun _ F => rt F ⟨rfl, s5.drop.drop⟩
 refine gw 2 F rfl fun _ F => AY F rfl rfl <| AV F s5 m0 4 rfl fun _ F => Be F H 7 4 rfl rfl rfl (fun h6 H _ F => ?_) (fun h6 H _ F => ?_)
 ·cases H
  exact rt F ⟨rfl, s5.drop.drop⟩
 obtain ⟨x2, h7, H⟩ := Aa H
 refine AV F s5 m1 1 rfl fun _ F => Ei F (Xe (a0 := (⟨a0.Name, a0.Classes, a0.Funcs, a0.Ec⟩ : AH)) (hr0_1.Bp s5) (hr0_2.Bp s5) (hr0_3.Bp s5) h7) fun v0 w4 _ h8 F => ?_
 obtain ⟨v1, rfl, h9⟩ := h8
 have s6 := s5.add h9
 refine gw 13 F rfl fun _ F => ?_
 obtain ⟨o0, H0, R0⟩ := Aa H
 clear H
 refine gx F (Ak rfl underlying28 (fO s6 m0)) 3 rfl rfl fun _ F => Cx (fun a w_ => ∃ p0 : Unit, o0 = .inr (p0) ∧ Fr a 99 [(8, jI x2.2.2)] ∧ SL w [] w_ []) ?_ ?_
 ·have H := H0
  refine gc 1 F rfl fun _ F => E6 (CN a0 x1 x2) (fun s7 a w_ => Fr a 99 [(2, jP g8), (6, jP g0), (8, jI x2.2.2), (51, v1), (52, jI (x2.1.length : Int)), (53, jI s7)] ∧ SL w [] w_ [Sl (Ty.int .i64) v1 x2.1, AB g0 56 [jI x1.1.CQ.Most, .bool x1.1.CQ.Is, jI x1.1.Slots.Most, .bool x1.1.Slots.Is, jI x1.1.Steps.Most, .bool x1.1.Steps.Is, jI x1.1.Cells.Most, .bool x1.1.Cells.Is], AB g8 26 [.string ⟨⟨a0.Name⟩⟩, v0_1, v0_2, v0_3]]) H ?_ ?_
  ·exact ⟨F.sb, s6⟩
  intro s7 _ w5 ha o1 H hr
  obtain ⟨F, s8⟩ := ha
  replace H : CN a0 x1 x2 s7 = some o1 := H
  unfold CN at H
  refine gc 6 F rfl fun _ F => Be F H 6 4 rfl rfl rfl (fun hb H _ F => ?_) (fun hb H _ F => ?_)
  ·obtain ⟨x3, hc, H⟩ := Aa H
   obtain ⟨a2, hd, he⟩ := Av (Flat.int .i64) s8 m0 BC rfl hc
   refine gi F hd 0 rfl fun _ F => ?_
   obtain ⟨x4, hf, H⟩ := Aa H
   refine gx F (As Cn rfl (Cells.at_ (SL.CC (Flat.int .i64) s8 m0 he hc) (o := 0) rfl)) 5 rfl rfl fun _ F => AV F s8 m2 1 rfl fun _ F => BW F s8 (Qg (a0 := (⟨a0.Name, a0.Classes, a0.Funcs, a0.Ec⟩ : AH)) (hr0_1.Bp s8) (hr0_2.Bp s8) (hr0_3.Bp s8) hf) 4 rfl rfl rfl rfl fun w6 _ F s9 => Ag F s9 Rv rfl rfl fun g1 w7 _ F sa => Ah F sa rfl rfl V8 (Ab rfl (Ab rfl (Ab rfl (Ab rfl (Ab rfl (Ab rfl (Ab rfl (Ab rfl Al)))))))) (Ac rfl) fun w8 _ F sc => gw 9 F rfl fun _ F => Cp 66 F H (fun hg H F => ?_) (fun hg H F => ?_)
   ·cases H
    obtain rfl := hr _ rfl
    replace H := R0
    try dsimp only at H
    cases H
    exact gw 44 F rfl fun _ F => rt F ⟨rfl, sc.drop.drop.drop.drop⟩
   refine gw 2 F rfl fun _ F => AY F rfl rfl <| AV F sc m0 3 rfl fun _ F => Cp 72 F H (fun hh H F => ?_) (fun hh H F => ?_)
   ·cases H
    obtain rfl := hr _ rfl
    replace H := R0
    try dsimp only at H
    cases H
    exact gw 38 F rfl fun _ F => rt F ⟨rfl, sc.drop.drop.drop.drop⟩
   refine gw 2 F rfl fun _ F => AY F rfl rfl <| AV F sc m0 2 rfl fun _ F => AY F rfl rfl <| AV F sc m2 3 rfl fun _ F => Cp 81 F H (fun hi H F => ?_) (fun hi H F => ?_)
   ·cases H
    obtain rfl := hr _ rfl
    replace H := R0
    try dsimp only at H
    cases H
    exact gw 29 F rfl fun _ F => rt F ⟨rfl, sc.drop.drop.drop.drop⟩
   refine gw 2 F rfl fun _ F => AY F rfl rfl <| AV F sc m0 3 rfl fun _ F => Cp 87 F H (fun hj H F => ?_) (fun hj H F => ?_)
   ·cases H
    obtain rfl := hr _ rfl
    replace H := R0
    try dsimp only at H
    cases H
    exact gw 23 F rfl fun _ F => rt F ⟨rfl, sc.drop.drop.drop.drop⟩
   refine gw 2 F rfl fun _ F => AY F rfl rfl <| AV F sc m0 2 rfl fun _ F => AY F rfl rfl <| AV F sc m2 4 rfl fun _ F => Be F H 12 7 rfl rfl rfl (fun hk H _ F => ?_) (fun hk H _ F => ?_)
   ·cases H
    obtain rfl := hr _ rfl
    replace H := R0
    try dsimp only at H
    cases H
    exact rt F ⟨rfl, sc.drop.drop.drop.drop⟩
   cases H
   exact ⟨_, rfl, F.sb, sc.drop⟩
  cases H
  obtain rfl := hr _ rfl
  exact ⟨_, rfl, F.sb, s8.drop.drop.drop⟩
 intro _ wa hJ
 obtain ⟨p0, rfl, F, sd⟩ := hJ
 have H := R0
 clear R0 H0
 try dsimp only at H
 cases H
 exact ge 9 F rfl fun _ F => rt F ⟨rfl, sd⟩
end Go.Proofs.YtfcpkcehecmcpaaGreat
