/- Lemmas, walks and laws that the row of this claim rests on, merged into few texts: part 3. -/
import Derived.Test.YtfcpkcehecmcpaaGreatKb
set_option linter.unusedVariables false
set_option linter.unusedSimpArgs false
open Option renaming bind_some → ANu, getD_some → ANv, map_some → ANw
open List renaming getElem?_eq_getElem → ANx, length_append → ANy, length_map → ANz, length_singleton → AN3, length_set → AN5, length_take → AN6, mem_append → AN7, mem_singleton → AN8, mem_cons → AN9, mem_filter → AOw, mem_range → AOx, mem_map → AOy, getElem_mem → AOz, map_append → AO0, filter_append → AO6, filter_cons → AO7, range_succ → AO8, append_nil → AO9, nil_append → APa, length_cons → APb, take_append_getElem → APc, append_assoc → APd, pairwise_append → APe, mem_of_getElem? → APf, length_filter_le → APg, length_range → APh, pairwise_cons → APi, getElem_take → APj, take_length → APk
open Int renaming toNat_natCast → APl, eq_ofNat_of_zero_le → APm
open Bool renaming and_eq_true → APn, eq_iff_iff → APo, or_eq_true → APp
namespace Go.Proofs.YtfcpkcehecmcpaaGreat
open Go Go.RowKit Go.Pv
theorem Wm (e : AA) (s : Bl) (h8 : s.Bv.length ≤ 8) (h : s.Bv.all (st e.Classes) = true) : AY (DD e s) 0 = some (.inr ()) := by
 refine Jp s.Bv (fun i hi => ?_) ?_
 ·unfold DD
  have ht := (List.all_eq_true.1 h) _ (AOz hi)
  rw [A3 (by rw [A2]; omega), BN hi, ANu, NF, ANu, ht, A1 (by simp), CS (by omega)]
 ·unfold DD
  rw [A1 (by rw [A2]; omega)]
theorem Y8 (e : AA) (h : DG e) : G6 e = some true := by
 unfold G6
 have hf := h.fn
 have hc := h.ok
 have h64 := h.few
 rw [NW _ h.good.tab, ANu, hc, A1 (by simp), A1 (by rw [A2]; omega), A1 (by rw [A2]; omega), A1 (by rw [A2]; omega)]
 have hl : AY (DF e) 0 = some (.inr ()) := by
  refine Jp e.AQ (fun i hi => ?_) ?_
  ·obtain ⟨h8, hs⟩ := h.sigs _ (AOz hi)
   unfold Q2 at hs
   rw [APn, APp, A2] at hs
   unfold DF
   rw [A3 (by rw [A2]; omega), BN hi, ANu, A1 (by rw [A2]; omega), NF, ANu]
   by_cases h0 : e.AQ[i].Result.toNat = 0
   ·rw [A1 (by rw [AW]; omega), ANu]
    dsimp only
    rw [Wm e _ h8 hs.1, ANu, CS (by omega)]
   ·have hr : st e.Classes e.AQ[i].Result = true := by rcases hs.2 with q | q; exact absurd q h0; exact q
    rw [A3 (by rw [AW]; omega), hr, A1 (by simp), ANu]
    dsimp only
    rw [Wm e _ h8 hs.1, ANu, CS (by omega)]
  ·unfold DF
   rw [A1 (by rw [A2]; omega)]
 rw [hl]
 rfl
end Go.Proofs.YtfcpkcehecmcpaaGreat
namespace Go.Proofs.YtfcpkcehecmcpaaGreat
open Go Go.RowKit Go.Pv
def MR (f : A4) : Prop := 0 ≤ f.Locals ∧ f.Locals ≤ 16 ∧ 0 ≤ f.Height ∧ f.Locals + f.Height ≤ 24
instance (f : A4) : Decidable (MR f) := by unfold MR; infer_instance
theorem O9 (f : A4) (h : -9223372036854775808 ≤ f.Height ∧ f.Height ≤ 9223372036854775807) : Hp f = some (decide (MR f)) := by
 unfold Hp
 have hS : MR f ↔ (0 ≤ f.Locals ∧ f.Locals ≤ 16 ∧ 0 ≤ f.Height ∧ f.Locals + f.Height ≤ 24) := Iff.rfl
 by_cases h1 : 0 ≤ f.Locals
 ·rw [A3 (by rw [A2]; omega)]
  by_cases h2 : f.Locals ≤ 16
  ·rw [A3 (by rw [A2]; omega)]
   by_cases h3 : 0 ≤ f.Height
   ·rw [A3 (by rw [A2]; omega), Cx (by omega) (by omega)]
    congr 1
    rw [decide_eq_decide, hS]
    omega
   ·rw [A1 (by rw [A2]; omega), decide_eq_false (by rw [hS]; omega)]
  ·rw [A1 (by rw [A2]; omega), decide_eq_false (by rw [hS]; omega)]
 ·rw [A1 (by rw [A2]; omega), decide_eq_false (by rw [hS]; omega)]
theorem Rv (f : A4) : FC f = some (decide (MR f)) := by
 unfold FC
 have hS : MR f ↔ (0 ≤ f.Locals ∧ f.Locals ≤ 16 ∧ 0 ≤ f.Height ∧ f.Locals + f.Height ≤ 24) := Iff.rfl
 by_cases h1 : 0 ≤ f.Locals
 ·rw [A3 (by rw [A2]; omega)]
  by_cases h2 : f.Locals ≤ 16
  ·rw [A3 (by rw [A2]; omega)]
   by_cases h3 : 0 ≤ f.Height
   ·rw [A3 (by rw [A2]; omega)]
    by_cases h4 : f.Height ≤ 24
    ·rw [A3 (by rw [A2]; omega), Cx (by omega) (by omega)]
     congr 1
     rw [decide_eq_decide, hS]
     omega
    ·rw [A1 (by rw [A2]; omega), decide_eq_false (by rw [hS]; omega)]
   ·rw [A1 (by rw [A2]; omega), decide_eq_false (by rw [hS]; omega)]
  ·rw [A1 (by rw [A2]; omega), decide_eq_false (by rw [hS]; omega)]
 ·rw [A1 (by rw [A2]; omega), decide_eq_false (by rw [hS]; omega)]
theorem X7 (v : Vector UInt8 24) (n : Nat) : ∃ w : Vector UInt8 24, ∀ i (h : i < 24), w[i] = if i < n then v[i] else 0 := ⟨Vector.ofFn fun i => if i.val < n then v[i] else 0, fun i h => by simp⟩
noncomputable def SU (v : Vector UInt8 24) (n : Nat) : Vector UInt8 24 := Classical.choose (X7 v n)
theorem I8 (v : Vector UInt8 24) (n i : Nat) (h : i < 24) : (SU v n)[i] = if i < n then v[i] else 0 := Classical.choose_spec (X7 v n) i h
noncomputable def EQ (f : A4) : A4 := ⟨f.Locals, f.Height, SU f.Slots (f.Locals + f.Height).toNat⟩
theorem QS (f : A4) (h0 : 0 ≤ f.Locals + f.Height) (h : f.Locals + f.Height ≤ 24) : IA f = some (EQ f) := by
 unfold IA EQ
 rw [Cx (by omega) (by omega), Nf (by simp; omega), ANu]
 have : P5 (Vector.replicate 24 (0 : UInt8)) f.Slots (f.Locals + f.Height).toNat = SU f.Slots (f.Locals + f.Height).toNat := by
  apply Vector.ext
  intro j hj
  unfold P5
  rw [I8 _ _ _ hj, Vector.getElem_ofFn]
  simp
 rw [this]
theorem XD (f : A4) (h0 : 0 ≤ f.Locals + f.Height) (h : f.Locals + f.Height ≤ 24) : Hj f = some (EQ f) := by
 unfold Hj EQ
 rw [Cx (by omega) (by omega)]
 obtain ⟨n, hn⟩ := APm h0
 rw [hn, APl]
 have hn24 : n ≤ 24 := by omega
 have key : ∀ k i (v : Vector UInt8 24), i + k = 24 → n ≤ i → (∀ j (hj : j < 24), j < i → v[j] = (SU f.Slots n)[j]) → (∀ j (hj : j < 24), ¬ j < i → True) → AY EJ (v, (i : Int)) = some (SU f.Slots n) := by
  intro k
  induction k with
  | zero =>
   intro i v hi hni hv _
   have hv' : v = SU f.Slots n := Vector.ext fun j hj => hv j hj (by omega)
   rw [← hv', BP (r := v)]
   ·unfold EJ
    dsimp only
    rw [A1 (by rw [A2]; omega)]
  | succ k ih =>
   intro i v hi hni hv _
   have hi24 : i < v.toList.length := by simp; omega
   rw [Dh (s' := (Ir v (i : Int) 0, ((i + 1 : Nat) : Int)))]
   ·refine ih (i + 1) _ (by omega) (by omega) (fun j hj hji => ?_) (fun _ _ _ => trivial)
    unfold Ir
    rw [Vector.getElem_setIfInBounds, APl]
    by_cases hij : i = j
    ·rw [A3 hij, I8 _ _ _ hj, A1 (by omega)]
    ·rw [A1 hij]; exact hv j hj (by omega)
   ·unfold EJ
    dsimp only
    rw [A3 (by rw [A2]; omega), BN hi24, ANu, CS (by omega)]
 rw [key (24 - n) n f.Slots (by omega) (by omega) (fun j hj hji => by rw [I8 _ _ _ hj, A3 hji]) (fun _ _ _ => trivial), ANu]
end Go.Proofs.YtfcpkcehecmcpaaGreat
namespace Go.Proofs.YtfcpkcehecmcpaaGreat
open Go Go.RowKit Go.Pv
def Ajm (f : A4) : Prop := (-9223372036854775808 ≤ f.Locals ∧ f.Locals ≤ 9223372036854775807) ∧ (-9223372036854775808 ≤ f.Height ∧ f.Height ≤ 9223372036854775807)
noncomputable def QC (l : List A6) (f : A4) : Int := if ¬ MR f then 32 else if (EQ f).Slots ≠ f.Slots then 32 else if f.Slots.toList.all (tv l) = true then 0 else 22
theorem MB (l : List A6) : tv l 0 = true := by unfold tv; rfl
theorem Zv (l : List A6) (f : A4) (h : Ajm f) : HQ l f = some (QC l f) := by
 unfold HQ QC
 rw [show (⟨f.Locals, f.Height, f.Slots⟩ : A4) = f from rfl, O9 f h.2, ANu]
 by_cases hs : MR f
 ·rw [A1 (by simp [hs]), A1 (by simp [hs])]
  have hs' := hs
  unfold MR at hs'
  rw [QS f (by omega) (by omega), ANu]
  have he : ((EQ f).Locals == f.Locals && ((EQ f).Height == f.Height && ((EQ f).Slots == f.Slots && true))) = decide ((EQ f).Slots = f.Slots) := by
   have hL : (EQ f).Locals = f.Locals := by unfold EQ; dsimp only
   have hH : (EQ f).Height = f.Height := by unfold EQ; dsimp only
   rw [hL, hH]
   generalize (EQ f).Slots = B
   generalize f.Slots = C
   rw [APo, A2]
   simp
  rw [he]
  by_cases hb : (EQ f).Slots = f.Slots
  ·rw [decide_eq_true hb, A1 (by simp), A1 (by simp [hb])]
   have hl := Hm (R := Int ⊕ Unit) 24 (body := GZ l f) (fun i => (KB f.Slots.toList (fun t => !tv l t) i).map fun _ => .inl 22) (r0 := .inr ()) (fun i hi => by
    have hi' : i < f.Slots.toList.length := by simp; omega
    unfold GZ
    rw [A3 (by rw [A2]; omega), BN hi', ANu, Kl, ANu, CS (by omega), M9 hi']
    split <;> rfl) (by
    unfold GZ
    rw [A1 (by rw [A2]; omega)])
   rw [hl, ANu, JA]
   have hn := OT f.Slots.toList fun t => !tv l t
   rw [Vector.length_toList] at hn
   rcases hf : (List.range 24).findSome? (KB f.Slots.toList fun t => !tv l t) with _ | r
   ·have ha : f.Slots.toList.all (tv l) = true := by
     have := hn.1 hf
     rw [List.all_eq_true]
     intro t ht
     rw [List.any_eq_false] at this
     simpa using this t ht
    rw [A3 ha]; rfl
   ·have ha : f.Slots.toList.all (tv l) ≠ true := by
     intro hb2
     rw [List.all_eq_true] at hb2
     have : (f.Slots.toList.any fun t => !tv l t) = false := by
      rw [List.any_eq_false]
      intro t ht; simp [hb2 t ht]
     rw [hn.2 this] at hf; cases hf
    rw [A1 ha]; rfl
  ·rw [decide_eq_false hb, A3 (by simp), A3 hb]
 ·rw [A3 (by simp [hs]), A3 hs]
end Go.Proofs.YtfcpkcehecmcpaaGreat
namespace Go.Proofs.YtfcpkcehecmcpaaGreat
open Go Go.RowKit Go.Pv
theorem Oo {R : Type} (n : Nat) {body : Int → Option (Int ⊕ R)} (P : Nat → Option R) {r0 : R} (hs : ∀ i, i < n → body (i : Int) = match P i with | some r => some (.inr r) | none => some (.inl ((i + 1 : Nat) : Int))) (he : body (n : Int) = some (.inr r0)) :
  ∀ k i, i + k = n → (∃ r, (∃ j, i ≤ j ∧ j < n ∧ P j = some r) ∧ AY body (i : Int) = some r) ∨ ((∀ j, i ≤ j → j < n → P j = none) ∧ AY body (i : Int) = some r0) := by
 intro k
 induction k with
 | zero => intro i hi; right; exact ⟨fun j h1 h2 => by omega, BP (by rw [show i = n by omega]; exact he)⟩
 | succ k ih =>
  intro i hi
  have hb := hs i (by omega)
  rcases hP : P i with _ | r
  ·rw [hP] at hb
   rw [Dh hb]
   rcases ih (i + 1) (by omega) with ⟨r, ⟨j, h1, h2, h3⟩, h4⟩ | ⟨h1, h2⟩
   ·exact Or.inl ⟨r, ⟨j, by omega, h2, h3⟩, h4⟩
   ·refine Or.inr ⟨fun j hj hjn => ?_, h2⟩
    by_cases h : j = i
    ·rw [h, hP]
    ·exact h1 j (by omega) hjn
  ·rw [hP] at hb
   exact Or.inl ⟨r, ⟨i, Nat.le_refl i, by omega, hP⟩, BP hb⟩
def OS (l : List A6) (v : Vector UInt8 24) : Prop := ∀ j (h : j < 24), tv l v[j] = true
theorem N2 (l : List A6) (v : Vector UInt8 24) : v.toList.all (tv l) = true ↔ OS l v := by
 rw [List.all_eq_true]
 constructor
 ·intro h j hj
  exact h _ (by rw [← Vector.getElem_toList (by simpa using hj)]; exact AOz _)
 ·intro h x hx
  obtain ⟨i, hi, rfl⟩ := List.mem_iff_getElem.1 hx
  rw [Vector.getElem_toList]
  exact h i (by simpa using hi)
structure Ic (l : List A6) (f : A4) : Prop where
 shp : MR f
 bare : ∀ j (h : j < 24), (f.Locals + f.Height).toNat ≤ j → f.Slots[j] = 0
 all : OS l f.Slots
theorem NU (f : A4) : (EQ f).Slots = f.Slots ↔ ∀ j (h : j < 24), (f.Locals + f.Height).toNat ≤ j → f.Slots[j] = 0 := by
 unfold EQ
 dsimp only
 constructor
 ·intro h j hj hle
  have := I8 f.Slots (f.Locals + f.Height).toNat j hj
  rw [A1 (by omega)] at this
  rw [← this]
  congr 1
  exact h.symm
 ·intro h
  apply Vector.ext
  intro j hj
  rw [I8 _ _ _ hj]
  split
  ·rfl
  ·exact (h j hj (by omega)).symm
theorem Wc (l : List A6) (f : A4) : QC l f = 0 ↔ Ic l f := by
 unfold QC
 by_cases h1 : MR f
 ·rw [A1 (by simp [h1])]
  by_cases h2 : (EQ f).Slots = f.Slots
  ·rw [A1 (by simp [h2])]
   by_cases h3 : f.Slots.toList.all (tv l) = true
   ·rw [A3 h3]
    exact ⟨fun _ => ⟨h1, (NU f).1 h2, (N2 l _).1 h3⟩, fun _ => rfl⟩
   ·rw [A1 h3]
    exact ⟨fun h => (by cases h), fun h => absurd ((N2 l _).2 h.all) h3⟩
  ·rw [A3 h2]
   exact ⟨fun h => (by cases h), fun h => absurd ((NU f).2 h.bare) h2⟩
 ·rw [A3 h1]
  exact ⟨fun h => (by cases h), fun h => absurd h.shp h1⟩
theorem Ic.int {l : List A6} {f : A4} (h : Ic l f) : Ajm f := by
 have := h.shp
 unfold MR at this
 unfold Ajm
 omega
theorem S9 {l : List A6} {f : A4} (h : Ic l f) : HQ l f = some 0 := by
 rw [Zv l f h.int, (Wc l f).2 h]
theorem Zm (l : List A6) (f : A4) : EA l f = some (QC l f) := by
 unfold EA
 rw [show (⟨f.Locals, f.Height, f.Slots⟩ : A4) = f from rfl, Rv f, ANu]
 by_cases hs : MR f
 ·rw [A1 (by simp [hs])]
  have hs' := hs
  unfold MR at hs'
  obtain ⟨n, hn⟩ := APm (show 0 ≤ f.Locals + f.Height by omega)
  have hn24 : n ≤ 24 := by omega
  rw [hn, Xg (by omega)]
  have hl0 := Oo (R := Int ⊕ Unit) 24 (body := E1 f) (fun i => if h : i < 24 then (if f.Slots[i] = 0 then none else some (.inl 32)) else none) (r0 := .inr ()) (fun i hi => by
   have hi' : i < f.Slots.toList.length := by simp; omega
   unfold E1
   rw [A3 (by rw [A2]; omega), BN hi', ANu, CS (by omega), dif_pos hi, Vector.getElem_toList]
   by_cases h0 : f.Slots[i] = 0
   ·rw [A3 h0, A1 (by rw [h0]; simp)]
   ·rw [A1 h0, A3]
    rw [AW]
    intro h
    apply h0
    apply UInt8.toNat_inj.1
    simpa using h) (by
   unfold E1
   rw [A1 (by rw [A2]; omega)]) (24 - n) n (by omega)
  rcases hl0 with ⟨r, ⟨j, hj1, hj2, hj3⟩, hl⟩ | ⟨hb, hl⟩
  ·rw [dif_pos hj2] at hj3
   have h0 : f.Slots[j] ≠ 0 := by intro h; rw [A3 h] at hj3; cases hj3
   rw [A1 h0] at hj3
   cases hj3
   rw [hl, ANu]
   have hc : QC l f = 32 := by
    unfold QC
    rw [A1 (by simp [hs]), A3]
    intro h
    exact h0 ((NU f).1 h j hj2 (by rw [hn, APl]; exact hj1))
   rw [hc]
  ·rw [hl, ANu]
   have hb' : ∀ j (h : j < 24), (f.Locals + f.Height).toNat ≤ j → f.Slots[j] = 0 := by
    intro j hj hle
    rw [hn, APl] at hle
    have := hb j hle hj
    rw [dif_pos hj] at this
    by_cases h0 : f.Slots[j] = 0
    ·exact h0
    ·rw [A1 h0] at this; cases this
   have hl1 := Oo (R := Int ⊕ Unit) n (body := Ex l f) (fun i => if h : i < 24 then (if tv l f.Slots[i] = true then none else some (.inl 22)) else none) (r0 := .inr ()) (fun i hi => by
    have hi' : i < f.Slots.toList.length := by simp; omega
    have hi24 : i < 24 := by omega
    unfold Ex
    rw [hn, Xg (by omega), A3 (by rw [A2]; omega), BN hi', ANu, La, ANu, CS (by omega), dif_pos hi24, Vector.getElem_toList]
    rcases ht : tv l f.Slots[i] with _ | _
    ·rfl
    ·rfl) (by
    unfold Ex
    rw [hn, Xg (by omega), A1 (by rw [A2]; omega)]) n 0 (by omega)
   have he : (EQ f).Slots = f.Slots := (NU f).2 hb'
   unfold QC
   rw [A1 (by simp [hs]), A1 (by simp [he])]
   rcases hl1 with ⟨r, ⟨j, hj1, hj2, hj3⟩, hl⟩ | ⟨ha, hl⟩
   ·have hj24 : j < 24 := by omega
    rw [dif_pos hj24] at hj3
    have h0 : tv l f.Slots[j] ≠ true := by intro h; rw [A3 h] at hj3; cases hj3
    rw [A1 h0] at hj3
    cases hj3
    rw [show ((0 : Nat) : Int) = 0 from rfl] at hl
    rw [hl, ANu, A1]
    intro h
    exact h0 ((N2 l _).1 h j hj24)
   ·rw [show ((0 : Nat) : Int) = 0 from rfl] at hl
    rw [hl, ANu, A3]
    rw [N2]
    intro j hj
    by_cases hjn : j < n
    ·have := ha j (by omega) hjn
     rw [dif_pos hj] at this
     by_cases h0 : tv l f.Slots[j] = true
     ·exact h0
     ·rw [A1 h0] at this; cases this
    ·rw [hb' j hj (by rw [hn, APl]; omega)]
     exact MB l
 ·rw [A3 (by simp [hs])]
  unfold QC
  rw [A3 hs]
theorem Qt {l : List A6} {f : A4} (h : Ic l f) : EA l f = some 0 := by
 rw [Zm, (Wc l f).2 h]
end Go.Proofs.YtfcpkcehecmcpaaGreat
namespace Go.Proofs.YtfcpkcehecmcpaaGreat
open Go Go.RowKit Go.Pv
abbrev zf : A4 := ⟨0, 0, Vector.replicate 24 (0 : UInt8)⟩
structure Fb (f : A4) : Prop where
 shp : MR f
 bare : ∀ j (h : j < 24), (f.Locals + f.Height).toNat ≤ j → f.Slots[j] = 0
theorem Ic.fb {l : List A6} {f : A4} (h : Ic l f) : Fb f := ⟨h.shp, h.bare⟩
theorem Fb.num {f : A4} (h : Fb f) : 0 ≤ f.Locals ∧ f.Locals ≤ 16 ∧ 0 ≤ f.Height ∧ f.Locals + f.Height ≤ 24 := h.shp
theorem N1 (v : Vector UInt8 24) (i : Nat) (x : UInt8) (j : Nat) (hj : j < 24) : (Ir v (i : Int) x)[j] = if i = j then x else v[j] := by
 unfold Ir
 rw [Vector.getElem_setIfInBounds, APl]
theorem Kd (v : Vector UInt8 24) (i : Nat) (h : i < 24) : idx v.toList (i : Int) = some v[i] := by
 rw [BN (by simpa using h), Vector.getElem_toList]
theorem QW {f : A4} (h : Fb f) : EQ f = f := by
 have := (NU f).2 h.bare
 obtain ⟨L, H, S⟩ := f
 unfold EQ at *
 dsimp only at *
 rw [this]
noncomputable def E7 (f : A4) (n : Nat) : A4 := EQ ⟨f.Locals, f.Height - n, f.Slots⟩
theorem Aci {f : A4} (h : Fb f) : E7 f 0 = f := by
 unfold E7
 rw [show f.Height - ((0 : Nat) : Int) = f.Height by omega]
 exact QW h
theorem SJ {f : A4} (h : Fb f) (n : Nat) (hn : n ≤ f.Height) : Fb (E7 f n) := by
 have hh := h.num
 refine ⟨?_, fun j hj hle => ?_⟩
 ·unfold MR E7 EQ
  dsimp only
  omega
 ·unfold E7 EQ at *
  dsimp only at *
  rw [I8 _ _ _ hj, A1 (by omega)]
theorem An5 {l : List A6} {f : A4} (h : OS l f.Slots) (n : Nat) : OS l (E7 f n).Slots := by
 intro j hj
 unfold E7 EQ
 dsimp only
 rw [I8 _ _ _ hj]
 split
 ·exact h j hj
 ·exact MB l
theorem ZW {f : A4} (n : Nat) (hn : 0 ≤ f.Locals + f.Height - (n + 1)) : EQ ⟨(E7 f n).Locals, (E7 f n).Height - 1, (E7 f n).Slots⟩ = E7 f (n + 1) := by
 unfold E7 EQ
 dsimp only
 congr 1
 ·omega
 ·apply Vector.ext
  intro j hj
  rw [I8 _ _ _ hj, I8 _ _ _ hj, I8 _ _ _ hj]
  by_cases h1 : j < (f.Locals + (f.Height - ((n + 1 : Nat) : Int))).toNat
  ·rw [A3 (by omega), A3 h1, A3 (by omega)]
  ·rw [A1 (by omega), A1 h1]
def KE (f : A4) (t : UInt8) : A4 := ⟨f.Locals, f.Height + 1, Ir f.Slots (f.Locals + f.Height) t⟩
def Qx (f : A4) (i : Int) (t : UInt8) : A4 := ⟨f.Locals, f.Height, Ir f.Slots i t⟩
theorem WU {f : A4} (h : Fb f) (t : UInt8) (hn : f.Locals + f.Height ≠ 24) : Fb (KE f t) := by
 have hh := h.num
 obtain ⟨n, hn'⟩ := APm (show 0 ≤ f.Locals + f.Height by omega)
 refine ⟨?_, fun j hj hle => ?_⟩
 ·unfold MR KE
  dsimp only
  omega
 ·unfold KE at *
  dsimp only at *
  rw [hn', N1 _ _ _ _ hj, A1 (by omega)]
  exact h.bare j hj (by omega)
theorem Abb {l : List A6} {f : A4} (hb : Fb f) (h : OS l f.Slots) {t : UInt8} (ht : tv l t = true) : OS l (KE f t).Slots := by
 have hh := hb.num
 obtain ⟨n, hn'⟩ := APm (show 0 ≤ f.Locals + f.Height by omega)
 intro j hj
 unfold KE
 dsimp only
 rw [hn', N1 _ _ _ _ hj]
 split
 ·exact ht
 ·exact h j hj
theorem V8 {f : A4} (h : Fb f) (t : UInt8) {i : Int} (h0 : 0 ≤ i) (hi : i < f.Locals) : Fb (Qx f i t) := by
 have hh := h.num
 obtain ⟨n, rfl⟩ := APm h0
 refine ⟨?_, fun j hj hle => ?_⟩
 ·unfold MR Qx
  dsimp only
  omega
 ·unfold Qx at *
  dsimp only at *
  rw [N1 _ _ _ _ hj, A1 (by omega)]
  exact h.bare j hj hle
theorem Apo {l : List A6} {f : A4} (h : OS l f.Slots) {t : UInt8} (ht : tv l t = true) {i : Int} (h0 : 0 ≤ i) : OS l (Qx f i t).Slots := by
 obtain ⟨n, rfl⟩ := APm h0
 intro j hj
 unfold Qx
 dsimp only
 rw [N1 _ _ _ _ hj]
 split
 ·exact ht
 ·exact h j hj
theorem Fb.h {f : A4} (h : Fb f) : -9223372036854775808 ≤ f.Height ∧ f.Height ≤ 9223372036854775807 := by have := h.num; omega
theorem YD {f : A4} (h : Fb f) (n : Nat) (hn : n < f.Height) : ∃ x, LL f (n : Int) = some (x, 0) ∧ f.Slots.toList[(f.Locals + f.Height).toNat - 1 - n]? = some x := by
 have hh := h.num
 obtain ⟨k, hk⟩ := APm (show 0 ≤ f.Locals + f.Height - 1 - n by omega)
 have hk24 : k < 24 := by omega
 refine ⟨f.Slots[k], ?_, ?_⟩
 ·unfold LL
  rw [show (⟨f.Locals, f.Height, f.Slots⟩ : A4) = f from rfl, O9 f h.h, ANu, A1 (by simp [h.shp]), A1 (by rw [A2]; omega), A1 (by rw [A2]; omega)]
  rw [Cx (n := f.Locals + f.Height) (by omega) (by omega), Cx (n := f.Locals + f.Height - 1) (by omega) (by omega), Cx (by omega) (by omega), hk, Kd _ _ hk24, ANu]
 ·rw [show (f.Locals + f.Height).toNat - 1 - n = k by omega, ANx (by simpa using hk24), Vector.getElem_toList]
theorem Auo {f : A4} (h : Fb f) (hn : 0 < f.Height) : ∃ x, MQ f = some (E7 f 1, x, 0) := by
 have hh := h.num
 obtain ⟨x, hx, _⟩ := YD h 0 (by omega)
 refine ⟨x, ?_⟩
 unfold MQ
 rw [show (⟨f.Locals, f.Height, f.Slots⟩ : A4) = f from rfl, show (0 : Int) = ((0 : Nat) : Int) from rfl, hx, ANu]
 dsimp only
 rw [A1 (by simp), Cx (by omega) (by omega), QS _ (by dsimp only; omega) (by dsimp only; omega), ANu]
 rfl
theorem Axd {f : A4} (h : Fb f) (hn : 0 < f.Height) : ∃ x, IK f = some (E7 f 1, x, 0) := by
 have hh := h.num
 obtain ⟨k, hk⟩ := APm (show 0 ≤ f.Locals + f.Height - 1 by omega)
 have hk24 : k < 24 := by omega
 refine ⟨f.Slots[k], ?_⟩
 unfold IK
 rw [show (⟨f.Locals, f.Height, f.Slots⟩ : A4) = f from rfl, Rv f, ANu, A1 (by simp [h.shp]), A1 (by rw [AE]; omega)]
 rw [Cx (n := f.Locals + f.Height) (by omega) (by omega), Cx (n := f.Locals + f.Height - 1) (by omega) (by omega), hk, Kd _ _ hk24, ANu, Cx (by omega) (by omega), XD _ (by dsimp only; omega) (by dsimp only; omega), ANu]
 rfl
theorem Afk {f : A4} (h : Fb f) (t : UInt8) : Mb f t = some (if f.Locals + f.Height = 24 then (zf, 31) else (KE f t, 0)) := by
 have hh := h.num
 unfold Mb
 rw [show (⟨f.Locals, f.Height, f.Slots⟩ : A4) = f from rfl, O9 f h.h, ANu, A1 (by simp [h.shp]), Cx (by omega) (by omega)]
 by_cases h24 : f.Locals + f.Height = 24
 ·rw [A3 (by rw [AE]; omega), A3 h24]
 ·rw [A1 (by rw [AE]; omega), A1 h24, QS f (by omega) (by omega), ANu, QW h, Cx (n := f.Locals + f.Height) (by omega) (by omega)]
  obtain ⟨k, hk⟩ := APm (show 0 ≤ f.Locals + f.Height by omega)
  rw [hk, Kd _ _ (by omega), ANu, Cx (by omega) (by omega)]
  unfold KE
  rw [hk]
theorem Akl {f : A4} (h : Fb f) (t : UInt8) : Iw f t = some (if f.Locals + f.Height = 24 then (zf, 31) else (KE f t, 0)) := by
 have hh := h.num
 unfold Iw
 rw [show (⟨f.Locals, f.Height, f.Slots⟩ : A4) = f from rfl, Rv f, ANu, A1 (by simp [h.shp]), Cx (by omega) (by omega)]
 by_cases h24 : f.Locals + f.Height = 24
 ·rw [A3 (by rw [AE]; omega), A3 h24]
 ·rw [A1 (by rw [AE]; omega), A1 h24, XD f (by omega) (by omega), ANu, QW h]
  obtain ⟨k, hk⟩ := APm (show 0 ≤ f.Locals + f.Height by omega)
  rw [hk, Kd _ _ (by omega), ANu, Cx (by omega) (by omega)]
  unfold KE
  rw [hk]
theorem Xc {f : A4} (h : Fb f) {i : Int} (h0 : 0 ≤ i) (hi : i < f.Locals) : ∃ x, J6 f i = some (x, 0) ∧ idx f.Slots.toList i = some x ∧ f.Slots.toList[i.toNat]? = some x := by
 have hh := h.num
 obtain ⟨k, rfl⟩ := APm h0
 have hk24 : k < 24 := by omega
 refine ⟨f.Slots[k], ?_, Kd _ _ hk24, ?_⟩
 ·unfold J6
  rw [show (⟨f.Locals, f.Height, f.Slots⟩ : A4) = f from rfl, O9 f h.h, ANu, A1 (by simp [h.shp]), A1 (by rw [A2]; omega), A1 (by rw [A2]; omega), Kd _ _ hk24, ANu]
 ·rw [APl, ANx (by simpa using hk24), Vector.getElem_toList]
theorem Aar {f : A4} (h : Fb f) {i : Int} (h0 : 0 ≤ i) (hi : i < f.Locals) (t : UInt8) : KP f i t = some (Qx f i t, 0) := by
 have hh := h.num
 obtain ⟨x, hx, hx2, _⟩ := Xc h h0 hi
 unfold KP
 rw [show (⟨f.Locals, f.Height, f.Slots⟩ : A4) = f from rfl, hx, ANu]
 dsimp only
 rw [A1 (by simp), QS f (by omega) (by omega), ANu, QW h, hx2, ANu]
 rfl
def K2 : A4 → List UInt8 → A4 × Int
 | f, [] => (f, 0)
 | f, t :: g => if f.Locals + f.Height = 24 then (zf, 31) else K2 (KE f t) g
theorem Ua {l : List A6} : ∀ (g : List UInt8) (f : A4), Fb f → OS l f.Slots → (∀ t ∈ g, tv l t = true) → (K2 f g).2 = 0 → Ic l (K2 f g).1
 | [], f, h, ha, _, _ => ⟨h.shp, h.bare, ha⟩
 | t :: g, f, h, ha, hg, h0 => by
  unfold K2 at *
  by_cases h24 : f.Locals + f.Height = 24
  ·rw [A3 h24] at h0; cases h0
  ·rw [A1 h24] at h0 ⊢
   exact Ua g _ (WU h t h24) (Abb h ha (hg t (by simp))) (fun x hx => hg x (by simp [hx])) h0
theorem Wn {body : Int × Int × Vector UInt8 24 × Int → Option ((Int × Int × Vector UInt8 24 × Int) ⊕ (Int × Int × Vector UInt8 24))} (n : Nat) {f : A4} (h : Fb f) (hn : n ≤ f.Height)
  (hs : ∀ (g : A4) (i : Nat), i < n → Fb g → 0 < g.Height → body (g.Locals, g.Height, g.Slots, (i : Int)) = some (.inl ((E7 g 1).Locals, (E7 g 1).Height, (E7 g 1).Slots, ((i + 1 : Nat) : Int))))
  (he : ∀ g : A4, body (g.Locals, g.Height, g.Slots, (n : Int)) = some (.inr (g.Locals, g.Height, g.Slots))) :
  AY body (f.Locals, f.Height, f.Slots, 0) = some ((E7 f n).Locals, (E7 f n).Height, (E7 f n).Slots) := by
 have hh := h.num
 refine GM n (fun i => ((E7 f i).Locals, (E7 f i).Height, (E7 f i).Slots, (i : Int))) (fun i hi => ?_) (he _) ?_
 ·have hp : (E7 f i).Height = f.Height - i := rfl
  rw [hs (E7 f i) i hi (SJ h i (by omega)) (by omega)]
  have e : E7 (E7 f i) 1 = E7 f (i + 1) := ZW i (by omega)
  rw [e]
 ·rw [Aci h]; rfl
theorem Tr {body : Int × Int × Vector UInt8 24 × Int → Option ((Int × Int × Vector UInt8 24 × Int) ⊕ ((A4 × Int) ⊕ (Int × Int × Vector UInt8 24)))} (g : List UInt8) (hg : g.length ≤ 1048576)
  (hs : ∀ (f : A4) (i : Nat) (hi : i < g.length), Fb f → body (f.Locals, f.Height, f.Slots, (i : Int)) = some (if f.Locals + f.Height = 24 then .inr (.inl (zf, 31)) else .inl ((KE f g[i]).Locals, (KE f g[i]).Height, (KE f g[i]).Slots, ((i + 1 : Nat) : Int))))
  (he : ∀ f : A4, body (f.Locals, f.Height, f.Slots, (g.length : Int)) = some (.inr (.inr (f.Locals, f.Height, f.Slots)))) :
  ∀ (k i : Nat) (f : A4), i + k = g.length → Fb f → AY body (f.Locals, f.Height, f.Slots, (i : Int)) = some (if (K2 f (g.drop i)).2 = 0 then .inr ((K2 f (g.drop i)).1.Locals, (K2 f (g.drop i)).1.Height, (K2 f (g.drop i)).1.Slots) else .inl (K2 f (g.drop i))) := by
 intro k
 induction k with
 | zero =>
  intro i f hi h
  have : i = g.length := by omega
  subst this
  rw [List.drop_length, BP (he f)]
  rfl
 | succ k ih =>
  intro i f hi h
  have hi' : i < g.length := by omega
  have hb := hs f i hi' h
  rw [List.drop_eq_getElem_cons hi']
  unfold K2
  by_cases h24 : f.Locals + f.Height = 24
  ·rw [A3 h24] at hb
   rw [A3 h24, BP hb]
   rfl
  ·rw [A1 h24] at hb
   rw [A1 h24, Dh hb]
   exact ih (i + 1) (KE f g[i]) (by omega) (WU h _ h24)
end Go.Proofs.YtfcpkcehecmcpaaGreat
namespace Go.Proofs.YtfcpkcehecmcpaaGreat
open Go Go.RowKit Go.Pv
theorem Wv (l : List A6) (f g : A4) (n : Nat) : ∃ w : Vector UInt8 24, ∀ i (h : i < 24), w[i] = if i < n then Ml l f.Slots[i] g.Slots[i] else f.Slots[i] := ⟨Vector.ofFn fun i => if i.val < n then Ml l f.Slots[i] g.Slots[i] else f.Slots[i], fun i h => by simp⟩
noncomputable def PY (l : List A6) (f g : A4) (n : Nat) : Vector UInt8 24 := Classical.choose (Wv l f g n)
theorem LC (l : List A6) (f g : A4) (n i : Nat) (h : i < 24) : (PY l f g n)[i] = if i < n then Ml l f.Slots[i] g.Slots[i] else f.Slots[i] := Classical.choose_spec (Wv l f g n) i h
noncomputable def ED (l : List A6) (f g : A4) : A4 × Int := if f.Locals = g.Locals ∧ f.Height = g.Height then (⟨f.Locals, f.Height, PY l f g (f.Locals + f.Height).toNat⟩, 0) else (zf, 32)
theorem U1 (l : List A6) {f g : A4} {body : Vector UInt8 24 × Int → Option ((Vector UInt8 24 × Int) ⊕ Vector UInt8 24)} (n : Nat) (hn : n ≤ 24)
  (hs : ∀ (v : Vector UInt8 24) (i : Nat) (hi : i < n), body (v, (i : Int)) = some (.inl (Ir v (i : Int) (Ml l v[i] g.Slots[i]), ((i + 1 : Nat) : Int)))) (he : ∀ v, body (v, (n : Int)) = some (.inr v)) : AY body (f.Slots, 0) = some (PY l f g n) := by
 refine GM n (fun i => (PY l f g i, (i : Int))) (fun i hi => ?_) (he _) ?_
 ·rw [hs _ i hi]
  congr 2
  refine Prod.ext ?_ rfl
  apply Vector.ext
  intro j hj
  dsimp only
  rw [N1 _ _ _ _ hj, LC _ _ _ _ _ (show i < 24 by omega), LC _ _ _ _ _ hj, LC _ _ _ _ _ hj, A1 (show ¬ i < i by omega)]
  by_cases h : i = j
  ·subst h
   rw [A3 rfl, A3 (by omega)]
  ·rw [A1 h]
   by_cases h2 : j < i
   ·rw [A3 h2, A3 (by omega)]
   ·rw [A1 h2, A1 (by omega)]
 ·refine Prod.ext ?_ rfl
  apply Vector.ext
  intro j hj
  dsimp only
  rw [LC _ _ _ _ _ hj, A1 (by omega)]
theorem Z7 {l : List A6} (G : Good l) {f g : A4} (hf : Ic l f) (hg : Ic l g) : Lu l f g = some (ED l f g) := by
 have hh := hf.fb.num
 unfold Lu MJ ED
 rw [show (⟨f.Locals, f.Height, f.Slots⟩ : A4) = f from rfl, show (⟨g.Locals, g.Height, g.Slots⟩ : A4) = g from rfl, S9 hf, ANu, A3 (by simp), S9 hg, ANu, A3 (by simp)]
 by_cases h1 : f.Locals = g.Locals
 ·rw [A1 (by simp [h1])]
  by_cases h2 : f.Height = g.Height
  ·rw [A1 (by simp [h2]), ANu, A1 (by simp), A3 ⟨h1, h2⟩]
   obtain ⟨n, hn⟩ := APm (show 0 ≤ f.Locals + f.Height by omega)
   rw [U1 l n (by omega) (f := f) (g := g) (fun v i hi => ?_) (fun v => ?_), ANu, hn, APl]
   ·unfold Ie
    dsimp only
    rw [Cx (n := f.Locals + f.Height) (by omega) (by omega), hn, A3 (by rw [A2]; omega), Kd _ _ (by omega), ANu, Kd _ _ (by omega), ANu, Aaq l G, ANu, ANu, CS (by omega)]
   ·unfold Ie
    dsimp only
    rw [Cx (n := f.Locals + f.Height) (by omega) (by omega), hn, A1 (by rw [A2]; omega)]
  ·rw [A3 (by simp [h2]), ANu, A3 (by simp), A1 (by rintro ⟨_, h⟩; exact h2 h)]
 ·rw [A3 (by simp [h1]), ANu, A3 (by simp), A1 (by rintro ⟨h, _⟩; exact h1 h)]
theorem Z1 {l : List A6} (G : Good l) {f g : A4} (hf : Ic l f) (hg : Ic l g) : HL l f g = some (ED l f g) := by
 have hh := hf.fb.num
 unfold HL ED
 rw [show (⟨f.Locals, f.Height, f.Slots⟩ : A4) = f from rfl, show (⟨g.Locals, g.Height, g.Slots⟩ : A4) = g from rfl, Qt hf, ANu, A1 (by simp), Qt hg, ANu, A1 (by simp)]
 by_cases h1 : f.Locals = g.Locals
 ·rw [A1 (by simp [h1])]
  by_cases h2 : f.Height = g.Height
  ·rw [A1 (by simp [h2]), A3 ⟨h1, h2⟩]
   obtain ⟨n, hn⟩ := APm (show 0 ≤ f.Locals + f.Height by omega)
   rw [U1 l n (by omega) (f := f) (g := g) (fun v i hi => ?_) (fun v => ?_), ANu, hn, APl]
   ·unfold Fu
    dsimp only
    rw [Cx (n := f.Locals + f.Height) (by omega) (by omega), hn, A3 (by rw [A2]; omega), Kd _ _ (by omega), ANu, Kd _ _ (by omega), ANu, Ab9 l G, ANu, ANu, CS (by omega)]
   ·unfold Fu
    dsimp only
    rw [Cx (n := f.Locals + f.Height) (by omega) (by omega), hn, A1 (by rw [A2]; omega)]
  ·rw [A3 (by simp [h2]), A1 (by rintro ⟨_, h⟩; exact h2 h)]
 ·rw [A3 (by simp [h1]), A1 (by rintro ⟨h, _⟩; exact h1 h)]
end Go.Proofs.YtfcpkcehecmcpaaGreat
namespace Go.Proofs.YtfcpkcehecmcpaaGreat
open Go Go.RowKit Go.Pv
theorem Apv {n : Nat} (h : n < 34) : n = 0 ∨ n = 1 ∨ n = 2 ∨ n = 3 ∨ n = 4 ∨ n = 5 ∨ n = 6 ∨ n = 7 ∨ n = 8 ∨ n = 9 ∨ n = 10 ∨ n = 11 ∨ n = 12 ∨ n = 13 ∨ n = 14 ∨ n = 15 ∨ n = 16 ∨ n = 17 ∨ n = 18 ∨ n = 19 ∨ n = 20 ∨ n = 21 ∨ n = 22 ∨ n = 23 ∨ n = 24 ∨ n = 25 ∨ n = 26 ∨ n = 27 ∨ n = 28 ∨ n = 29 ∨ n = 30 ∨ n = 31 ∨ n = 32 ∨ n = 33 := by omega
def Rr (e : AA) (i : A9) : Bl := (e.AQ[i.A.toNat]?).getD ⟨[], 0⟩
def OA (e : AA) : Bl := (e.AQ[e.Fn.toNat]?).getD ⟨[], 0⟩
def V5 (e : AA) (i : A9) : UInt8 := match (Cz e.Classes i.A)[i.B.toNat]? with
 | some f => f.GQ
 | none => 0
def Kc (t : UInt8) : List UInt8 := if t.toNat = 0 then [] else [t]
def Lt (a : Int) : UInt8 := Fo (16 + ((Fo a).toNat : Int))
def D7 (e : AA) (i : A9) : Int :=
 if i.Op.toNat = 21 then (if 0 ≤ i.A ∧ i.A < e.AQ.length then 0 else 71)
 else if i.Op.toNat = 23 ∨ i.Op.toNat = 30 ∨ i.Op.toNat = 31 then (if 0 ≤ i.A ∧ i.A < e.Classes.length then 0 else 72)
 else if i.Op.toNat = 24 ∨ i.Op.toNat = 25 then (if 0 ≤ i.A ∧ i.A < e.Classes.length ∧ 0 ≤ i.B ∧ i.B < (Cz e.Classes i.A).length then 0 else 72)
 else 0
def B7 (e : AA) (i : A9) : List UInt8 := match i.Op.toNat with
 | 5 => [254] | 6 => [255] | 7 => [255] | 8 => [255, 255]
 | 9 => [1, 1] | 10 => [1, 1] | 11 => [1, 1] | 12 => [1, 1] | 13 => [1, 1] | 15 => [1, 1]
 | 14 => [1] | 26 => [1] | 33 => [1] | 16 => [255, 255] | 17 => [2] | 20 => [2] | 18 => [253, 253]
 | 21 => (Rr e i).Bv | 22 => Kc (OA e).Result
 | 24 => [Lt i.A] | 25 => [Lt i.A, V5 e i]
 | 27 => [4] | 28 => [4, 1] | 29 => [4, 1, 1] | 30 => [253] | 31 => [253] | _ => []
def IV (e : AA) (i : A9) : List UInt8 := match i.Op.toNat with
 | 1 => [1] | 9 => [1] | 10 => [1] | 11 => [1] | 12 => [1] | 13 => [1] | 14 => [1] | 27 => [1] | 28 => [1]
 | 2 => [2] | 15 => [2] | 16 => [2] | 17 => [2] | 18 => [2] | 31 => [2]
 | 3 => [3] | 4 => [255] | 7 => [255, 255] | 8 => [255, 255]
 | 21 => Kc (Rr e i).Result | 23 => [Lt i.A] | 30 => [Lt i.A] | 24 => Kc (V5 e i) | 26 => [4] | _ => []
theorem GI {α : Type} {l : List α} {i : Int} (h0 : 0 ≤ i) (h : i < l.length) (d : α) : idx l i = some ((l[i.toNat]?).getD d) := by
 obtain ⟨x, hx, hx2⟩ := YH h0 h
 rw [hx, hx2]; rfl
theorem RJ (t : UInt8) : FY t = some (Kc t) := by
 unfold FY Kc
 by_cases h : t.toNat = 0
 ·rw [A3 (by rw [h]; rfl), A3 h]
 ·rw [A1 (by rw [AE]; omega), A1 h]
theorem Pp {e : AA} (h : DG e) {i : A9} (h0 : 0 ≤ i.A) (h1 : i.A < e.Classes.length) : Dp e.Classes i.A = some (Cz e.Classes i.A) ∧ HI e.Classes i.A = some (Cz e.Classes i.A) :=
 ⟨U7 _ h.good.tab h.good.right (by have := h.good.few; omega) _ h1 h1, Zs _ h.good.tab h.good.right (by have := h.good.few; omega) _ h1 h1⟩
theorem Y9 {e : AA} (h : DG e) (i : A9) : Fq e i = some (D7 e i) := by
 unfold Fq D7
 have b (k : Nat) : ((i.Op.toNat : Int) == (k : Int)) = decide (i.Op.toNat = k) := Cg _ k
 have b21 : ((i.Op.toNat : Int) == 21) = decide (i.Op.toNat = 21) := b 21
 have b23 : ((i.Op.toNat : Int) == 23) = decide (i.Op.toNat = 23) := b 23
 have b30 : ((i.Op.toNat : Int) == 30) = decide (i.Op.toNat = 30) := b 30
 have b31 : ((i.Op.toNat : Int) == 31) = decide (i.Op.toNat = 31) := b 31
 have b24 : ((i.Op.toNat : Int) == 24) = decide (i.Op.toNat = 24) := b 24
 have b25 : ((i.Op.toNat : Int) == 25) = decide (i.Op.toNat = 25) := b 25
 simp only [b21, b23, b30, b31, b24, b25, A2]
 by_cases h21 : i.Op.toNat = 21
 ·simp only [h21]
  by_cases h0 : i.A < 0
  ·simp [h0]; omega
  ·by_cases h1 : i.A ≥ (e.AQ.length : Int)
   ·simp [h1]
   ·have : 0 ≤ i.A ∧ i.A < e.AQ.length := by omega
    simp [h0, h1, this]
 ·by_cases hc : i.Op.toNat = 23 ∨ i.Op.toNat = 30 ∨ i.Op.toNat = 31
  ·have h24 : i.Op.toNat ≠ 24 := by omega
   have h25 : i.Op.toNat ≠ 25 := by omega
   have ho : (if i.Op.toNat = 23 then some true else if i.Op.toNat = 30 then some true else if i.Op.toNat = 31 then some true else if i.Op.toNat = 24 then some true else some (decide (i.Op.toNat = 25))) = some true := by
    rcases hc with q | q | q <;> simp [q]
   rw [A1 h21, ho, ANu, A1 h21, A3 hc, A3 rfl, A1 h24, A1 h25]
   by_cases h0 : i.A < 0
   ·rw [A3 h0, A1 (by omega)]; rfl
   ·by_cases h1 : i.A ≥ (e.Classes.length : Int)
    ·rw [A1 h0, A3 h1, A1 (by omega)]; rfl
    ·rw [A1 h0, A1 h1, A3 (by omega)]; rfl
  ·by_cases hf : i.Op.toNat = 24 ∨ i.Op.toNat = 25
   ·have ho : (if i.Op.toNat = 23 then some true else if i.Op.toNat = 30 then some true else if i.Op.toNat = 31 then some true else if i.Op.toNat = 24 then some true else some (decide (i.Op.toNat = 25))) = some true := by
     rcases hf with q | q <;> simp [q]
    rw [A1 h21, ho, ANu, A1 h21, A1 hc, A3 hf, A3 rfl]
    by_cases h0 : i.A < 0
    ·rw [A3 h0, A1 (show ¬ (0 ≤ i.A ∧ i.A < (e.Classes.length : Int) ∧ 0 ≤ i.B ∧ i.B < ((Cz e.Classes i.A).length : Int)) by omega)]; rfl
    ·by_cases h1 : i.A ≥ (e.Classes.length : Int)
     ·rw [A1 h0, A3 h1, A1 (show ¬ (0 ≤ i.A ∧ i.A < (e.Classes.length : Int) ∧ 0 ≤ i.B ∧ i.B < ((Cz e.Classes i.A).length : Int)) by omega)]; rfl
     ·rw [A1 h0, A1 h1, ANu]
      dsimp only
      rw [(Pp h (i := i) (by omega) (by omega)).1]
      by_cases h24 : i.Op.toNat = 24
      ·rw [A3 h24]
       by_cases hb : i.B < 0
       ·rw [A3 hb, A1 (show ¬ (0 ≤ i.A ∧ i.A < (e.Classes.length : Int) ∧ 0 ≤ i.B ∧ i.B < ((Cz e.Classes i.A).length : Int)) by omega)]
       ·rw [A1 hb, ANu]
        by_cases hb2 : i.B ≥ ((Cz e.Classes i.A).length : Int)
        ·rw [A3 hb2, A1 (by omega)]
        ·rw [A1 hb2, A3 (by omega)]
      ·have h25 : i.Op.toNat = 25 := by omega
       rw [A1 h24, A3 h25]
       by_cases hb : i.B < 0
       ·rw [A3 hb, A1 (show ¬ (0 ≤ i.A ∧ i.A < (e.Classes.length : Int) ∧ 0 ≤ i.B ∧ i.B < ((Cz e.Classes i.A).length : Int)) by omega)]
       ·rw [A1 hb, ANu]
        by_cases hb2 : i.B ≥ ((Cz e.Classes i.A).length : Int)
        ·rw [A3 hb2, A1 (by omega)]
        ·rw [A1 hb2, A3 (by omega)]
   ·have h24 : i.Op.toNat ≠ 24 := by omega
    have h25 : i.Op.toNat ≠ 25 := by omega
    have ho : (if i.Op.toNat = 23 then some true else if i.Op.toNat = 30 then some true else if i.Op.toNat = 31 then some true else if i.Op.toNat = 24 then some true else some (decide (i.Op.toNat = 25))) = some false := by
     rw [A1 (by omega), A1 (by omega), A1 (by omega), A1 (by omega), decide_eq_false h25]
    rw [A1 h21, ho, ANu, A1 h21, A1 hc, A1 hf, A1 (by simp), ANu]
    dsimp only
    rw [A1 h24, A1 h25]
theorem UB {e : AA} {i : A9} (h0 : 0 ≤ i.B) (h1 : i.B < (Cz e.Classes i.A).length) : ∃ f, idx (Cz e.Classes i.A) i.B = some f ∧ V5 e i = f.GQ ∧ f ∈ Cz e.Classes i.A := by
 obtain ⟨x, hx, hx2⟩ := YH h0 h1
 refine ⟨x, hx, ?_, APf hx2⟩
 unfold V5
 rw [hx2]
theorem ZQ {e : AA} (h : DG e) (i : A9) (ho : i.Op.toNat < 34) (h0 : D7 e i = 0) : HJ e i = some (B7 e i) := by
 unfold HJ B7
 unfold D7 at h0
 rcases Apv ho with h | h | h | h | h | h | h | h | h | h | h | h | h | h | h | h | h | h | h | h | h | h | h | h | h | h | h | h | h | h | h | h | h | h
 all_goals first
  | (simp [h]; done)
  | (simp only [h]; rw [h] at h0; skip)
 ·simp at h0
  simp [GI h0.1 h0.2 ⟨[], 0⟩, Rr]
 ·have hf := ‹DG e›.fn
  simp [GI hf.1 hf.2 ⟨[], 0⟩, OA, RJ]
 ·simp at h0
  simp [Ea, Lt]
 ·simp at h0
  obtain ⟨f, hx, hx2, _⟩ := UB (e := e) h0.2.2.1 h0.2.2.2
  simp [Ea, Lt, (Pp ‹DG e› h0.1 h0.2.1).1, hx, hx2]
theorem ZH {e : AA} (h : DG e) (i : A9) (ho : i.Op.toNat < 34) (h0 : D7 e i = 0) : HT e i = some (IV e i) := by
 unfold HT IV
 unfold D7 at h0
 rcases Apv ho with h | h | h | h | h | h | h | h | h | h | h | h | h | h | h | h | h | h | h | h | h | h | h | h | h | h | h | h | h | h | h | h | h | h
 all_goals first
  | (simp [h]; done)
  | (simp only [h]; rw [h] at h0; skip)
 ·simp at h0
  simp [GI h0.1 h0.2 ⟨[], 0⟩, Rr, RJ]
 ·simp [Ea, Lt]
 ·simp at h0
  obtain ⟨f, hx, hx2, _⟩ := UB (e := e) h0.2.2.1 h0.2.2.2
  simp [(Pp ‹DG e› h0.1 h0.2.1).1, hx, hx2, RJ]
 ·simp [Ea, Lt]
end Go.Proofs.YtfcpkcehecmcpaaGreat
namespace Go.Proofs.YtfcpkcehecmcpaaGreat
open Go Go.RowKit Go.Pv
theorem UE {l : List A6} (h : l.length ≤ 32) {t : UInt8} (hs : st l t = true) : t.toNat < 48 ∧ t.toNat ≠ 0 ∧ t.toNat ≠ 3 ∧ tv l t = true := by
 unfold st at hs
 rw [APn, APn, AW, AW] at hs
 obtain ⟨h1, h2, h3⟩ := hs
 have h1' := h1
 unfold tv at h1'
 rw [APp, APn, A2, A2, A2] at h1'
 exact ⟨by omega, h2, h3, h1⟩
theorem UO {l : List A6} (G : Good l) {c : Int} (hc : c < l.length) {f : B6} (hf : f ∈ Cz l c) : st l f.GQ = true := by
 unfold Cz at hf
 obtain ⟨k, hk, hk2⟩ := List.mem_flatMap.1 hf
 have hk' := List.mem_reverse.1 hk
 have hlt := (MH G.right (c.toNat + 1) c (by omega) hc hc k hk').2
 rw [Qi hlt] at hk2
 exact G.stored k hlt f hk2
theorem TS {l : List A6} (h : l.length ≤ 32) {a : Int} (h0 : 0 ≤ a) (h1 : a < l.length) : (Lt a).toNat = 16 + a.toNat ∧ Lt a = Tw a.toNat ∧ tv l (Lt a) = true := by
 obtain ⟨k, rfl⟩ := APm h0
 have hk : k < l.length := by omega
 have e : Lt (k : Int) = Tw k := by
  unfold Lt Tw
  rw [SQ (by omega)]
 rw [e, APl]
 exact ⟨RR (by omega), rfl, Aad hk (by omega)⟩
def KG (t : UInt8) : A5 := if t = 255 then ⟨0, 0⟩ else if t = 254 then ⟨1, 0⟩ else if t = 253 then ⟨2, 0⟩ else ⟨4, t⟩
theorem NC {t : UInt8} (h : t.toNat < 48) : KG t = ⟨4, t⟩ := by
 unfold KG
 rw [A1 (by rintro rfl; simp at h), A1 (by rintro rfl; simp at h), A1 (by rintro rfl; simp at h)]
def Fl (e : AA) (i : A9) : List A5 := if i.Op.toNat = 16 then [⟨3, 0⟩, ⟨3, 0⟩] else (B7 e i).map KG
def Li (e : AA) (i : A9) : Gv := if i.Op.toNat = 7 then .dup else if i.Op.toNat = 8 then .swap else if i.Op.toNat = 4 then .const [0] else .const (IV e i)
theorem Yn (l : List A6) {c : Int} (h : ¬ (0 ≤ c ∧ c < l.length)) : HI l c = some [] := by
 unfold HI EF
 have h1 : AY (C6 l) (([] : List Int), c) = some (.inr []) := by
  apply BP
  unfold C6
  dsimp only
  by_cases h0 : c ≥ 0
  ·rw [A3 (by rw [A2]; exact h0), A1 (by rw [A2]; omega)]
  ·rw [A1 (by rw [A2]; exact h0)]
 rw [h1, ANu]
 dsimp only
 rw [ANu]
 have h2 : AY (E6 l []) (([] : List B6), wr ((([] : List Int).length : Int) - 1)) = some [] := by
  apply BP
  unfold E6
  rw [show wr ((([] : List Int).length : Int) - 1) = -1 from by rw [Cx] <;> simp]
  dsimp only
  rw [A1 (by simp)]
 rw [h2, ANu]
theorem QB {α : Type} {l : List α} {i : Nat} {d x : α} (h : i < l.length) (hx : (l[i]?).getD d = x) : x ∈ l := by
 rw [ANx h] at hx
 rw [← hx]
 exact AOz h
theorem TO {e : AA} {i : A9} (h0 : 0 ≤ i.A) (h1 : i.A < e.AQ.length) : Rr e i ∈ e.AQ := QB (by omega) rfl
theorem Aaw {e : AA} (h : DG e) : OA e ∈ e.AQ := by
 have := h.fn
 exact QB (by omega) rfl
theorem SN {e : AA} (h : DG e) {s : Bl} (hs : s ∈ e.AQ) : s.Bv.length ≤ 8 ∧ (∀ t ∈ s.Bv, st e.Classes t = true) ∧ (s.Result.toNat = 0 ∨ st e.Classes s.Result = true) := by
 obtain ⟨h8, h2⟩ := h.sigs s hs
 unfold Q2 at h2
 rw [APn, APp, List.all_eq_true, A2] at h2
 exact ⟨h8, h2.1, h2.2⟩
theorem ZY {s : Bl} (h : s.Bv.length ≤ 8) : AY (IX s) (([] : List A5), 0) = some (s.Bv.map fun t => ⟨4, t⟩) := by
 refine Kr s.Bv (fun t => (⟨4, t⟩ : A5)) (fun i hi acc ha => ?_) (fun acc => ?_)
 ·unfold IX
  dsimp only
  rw [A3 (by rw [A2]; omega), BN hi, ANu]
  unfold IB
  rw [ANu, CZ (by simp; omega), ANu, CS (by omega)]
 ·unfold IX
  dsimp only
  rw [A1 (by rw [A2]; omega)]
theorem Ae2 {l : List UInt8} (h : ∀ t ∈ l, t.toNat < 48) : l.map (fun t => (⟨4, t⟩ : A5)) = l.map KG := List.map_congr_left fun t ht => (NC (h t ht)).symm
theorem TC {e : AA} (h : DG e) (i : A9) (hc : i.Op.toNat = 23 ∨ i.Op.toNat = 30) {w : List A5} (hw : Fl e i = w) (hg : Li e i = .const [Lt i.A]) : Hn (.classed w true) e i = some (if D7 e i = 0 then (⟨Fl e i, Li e i⟩, 0) else (⟨[], Gv.nil⟩, D7 e i)) := by
 unfold Hn II
 dsimp only
 have ho : D7 e i = if 0 ≤ i.A ∧ i.A < e.Classes.length then 0 else 72 := by unfold D7; rw [A1 (by omega), A3 (by omega)]
 by_cases ha : 0 ≤ i.A ∧ i.A < e.Classes.length
 ·rw [ho, A3 ha, A3 rfl, A1 (by rw [A2]; omega), A1 (by rw [A2]; omega), A1 (by simp), hw, hg]
  rfl
 ·rw [ho, A1 ha, A1 (show ¬ (72 : Int) = 0 by omega)]
  by_cases h1 : i.A < 0
  ·rw [A3 (by rw [A2]; exact h1)]
  ·rw [A1 (by rw [A2]; exact h1), A3 (by rw [A2]; omega)]
theorem Afl {e : AA} (h : DG e) (i : A9) (hc : i.Op.toNat = 31) {w : List A5} (hw : Fl e i = w) (hg : Li e i = .const [2]) : Hn (.classed w false) e i = some (if D7 e i = 0 then (⟨Fl e i, Li e i⟩, 0) else (⟨[], Gv.nil⟩, D7 e i)) := by
 unfold Hn II
 dsimp only
 have ho : D7 e i = if 0 ≤ i.A ∧ i.A < e.Classes.length then 0 else 72 := by unfold D7; rw [A1 (by omega), A3 (by omega)]
 by_cases ha : 0 ≤ i.A ∧ i.A < e.Classes.length
 ·rw [ho, A3 ha, A3 rfl, A1 (by rw [A2]; omega), A1 (by rw [A2]; omega), A3 (by simp), hw, hg]
 ·rw [ho, A1 ha, A1 (show ¬ (72 : Int) = 0 by omega)]
  by_cases h1 : i.A < 0
  ·rw [A3 (by rw [A2]; exact h1)]
  ·rw [A1 (by rw [A2]; exact h1), A3 (by rw [A2]; omega)]
theorem VO {e : AA} (h : DG e) (i : A9) (hc : i.Op.toNat = 24 ∨ i.Op.toNat = 25) (b : Bool) (hb : b = decide (i.Op.toNat = 25))
  (hw : i.Op.toNat = i.Op.toNat → Fl e i = if b then [KG (Lt i.A), KG (V5 e i)] else [KG (Lt i.A)]) (hg : i.Op.toNat = i.Op.toNat → Li e i = .const (if b then [] else Kc (V5 e i))) : Hn (.field b) e i = some (if D7 e i = 0 then (⟨Fl e i, Li e i⟩, 0) else (⟨[], Gv.nil⟩, D7 e i)) := by
 have hl32 := h.good.few
 unfold Hn LM
 dsimp only
 have ho : D7 e i = if 0 ≤ i.A ∧ i.A < e.Classes.length ∧ 0 ≤ i.B ∧ i.B < (Cz e.Classes i.A).length then 0 else 72 := by unfold D7; rw [A1 (by omega), A1 (by omega), A3 hc]
 by_cases ha : 0 ≤ i.A ∧ i.A < e.Classes.length
 ·rw [(Pp h ha.1 ha.2).2, ANu, A1 (by rw [A2]; omega), A1 (by rw [A2]; omega)]
  by_cases hB : 0 ≤ i.B ∧ i.B < (Cz e.Classes i.A).length
  ·obtain ⟨f, hf1, hf2, hf3⟩ := UB (e := e) hB.1 hB.2
   have hft := UE hl32 (UO h.good ha.2 hf3)
   have hct := TS hl32 ha.1 ha.2
   rw [A1 (by rw [A2]; omega), A1 (by rw [A2]; omega), hf1, ANu, ho, A3 (show (0 ≤ i.A ∧ i.A < (e.Classes.length : Int) ∧ 0 ≤ i.B ∧ i.B < ((Cz e.Classes i.A).length : Int)) from ⟨ha.1, ha.2, hB.1, hB.2⟩), A3 (show (0 : Int) = 0 from rfl), hw rfl, hg rfl, hf2, NC (t := f.GQ) hft.1, NC (t := Lt i.A) (by omega)]
   rcases b with _ | _
   ·rw [A1 (by simp), A1 (by simp), A1 (by simp)]
    unfold Kc
    rw [A1 hft.2.1]
    rfl
   ·rw [A3 rfl, A3 rfl, A3 rfl]
    rfl
  ·rw [ho, A1 (show ¬ (0 ≤ i.A ∧ i.A < (e.Classes.length : Int) ∧ 0 ≤ i.B ∧ i.B < ((Cz e.Classes i.A).length : Int)) by omega), A1 (show ¬ (72 : Int) = 0 by omega)]
   by_cases h1 : i.B < 0
   ·rw [A3 (by rw [A2]; exact h1)]
   ·rw [A1 (by rw [A2]; exact h1), A3 (by rw [A2]; omega)]
 ·rw [ho, Yn _ ha, ANu, A1 (show ¬ (0 ≤ i.A ∧ i.A < (e.Classes.length : Int) ∧ 0 ≤ i.B ∧ i.B < ((Cz e.Classes i.A).length : Int)) by omega), A1 (show ¬ (72 : Int) = 0 by omega)]
  by_cases h1 : i.A < 0
  ·rw [A3 (by rw [A2]; exact h1)]
  ·rw [A1 (by rw [A2]; exact h1), A3 (by rw [A2]; omega)]
theorem Amb {e : AA} (h : DG e) (i : A9) (t : D6 A5) (ho : i.Op.toNat < 34)
  (ht : (MG ⟨4, 1⟩ ⟨4, 2⟩ ⟨4, 4⟩)[i.Op.toNat]? = some t) : Hn t e i = some (if D7 e i = 0 then (⟨Fl e i, Li e i⟩, 0) else (⟨[], Gv.nil⟩, D7 e i)) := by
 have hl32 := h.good.few
 rcases Apv ho with h0 | h0 | h0 | h0 | h0 | h0 | h0 | h0 | h0 | h0 | h0 | h0 | h0 | h0 | h0 | h0 | h0 | h0 | h0 | h0 | h0 | h0 | h0 | h0 | h0 | h0 | h0 | h0 | h0 | h0 | h0 | h0 | h0 | h0
 all_goals (rw [h0] at ht; simp [MG, R7, Sk, RL, RA, Oc, NS, NL, Sm, Sa, RN, S4, Rx, SA, RG, NQ, S3, RS, NH, So, RD, Sv, Sg, Sp, SC, Uw, Ux, TU, TJ, Uc, TF, Ul, Ur, TY, TV] at ht; subst ht)
 all_goals first
  | (simp [Hn, LN, D7, h0, Fl, Li, B7, IV, KG]; done)
  | skip
 ·-- call
  unfold Hn P7
  dsimp only
  have ho : D7 e i = if 0 ≤ i.A ∧ i.A < e.AQ.length then 0 else 71 := by simp [D7, h0]
  by_cases ha : 0 ≤ i.A ∧ i.A < e.AQ.length
  ·rw [ho, A3 ha, A3 rfl, A1 (by rw [A2]; omega), A1 (by rw [A2]; omega), GI ha.1 ha.2 ⟨[], 0⟩, ANu]
   have hm := SN h (TO ha.1 ha.2)
   unfold Rr at hm
   rw [ZY hm.1, ANu, Ae2 fun t ht => (UE hl32 (hm.2.1 t ht)).1]
   have hw : Fl e i = ((e.AQ[i.A.toNat]?).getD ⟨[], 0⟩).Bv.map KG := by simp [Fl, h0, B7, Rr]
   have hg : Li e i = .const (Kc ((e.AQ[i.A.toNat]?).getD ⟨[], 0⟩).Result) := by simp [Li, h0, IV, Rr]
   rw [hw, hg]
   unfold Kc
   by_cases hr : ((e.AQ[i.A.toNat]?).getD ⟨[], 0⟩).Result.toNat = 0
   ·rw [A3 (by rw [hr]; rfl), A3 hr]
   ·rw [A1 (by rw [AE]; omega), A1 hr]
  ·rw [ho, A1 ha, A1 (show ¬ (71 : Int) = 0 by omega)]
   by_cases h1 : i.A < 0
   ·rw [A3 (by rw [A2]; exact h1)]
   ·rw [A1 (by rw [A2]; exact h1), A3 (by rw [A2]; omega)]
 ·-- return
  unfold Hn LH Nl
  dsimp only
  have hf := h.fn
  rw [GI hf.1 hf.2 ⟨[], 0⟩, ANu]
  have hm := SN h (Aaw h)
  unfold OA at hm
  have hw : Fl e i = (Kc ((e.AQ[e.Fn.toNat]?).getD ⟨[], 0⟩).Result).map KG := by simp [Fl, h0, B7, OA]
  have hg : Li e i = .const [] := by simp [Li, h0, IV]
  rw [hw, hg, show D7 e i = 0 by simp [D7, h0], A3 rfl]
  unfold Kc
  by_cases hr : ((e.AQ[e.Fn.toNat]?).getD ⟨[], 0⟩).Result.toNat = 0
  ·rw [A3 (by rw [hr]; rfl), A3 hr]; rfl
  ·rw [A1 (by rw [AE]; omega), A1 hr]
   unfold IB
   rw [ANu, ANu, List.map_singleton, NC (UE hl32 (hm.2.2.resolve_left hr)).1]
 ·exact TC h i (by omega) (by simp [Fl, h0, B7]) (by simp [Li, h0, IV])
 ·exact VO h i (by omega) false (by simp [h0]) (fun _ => by simp [Fl, h0, B7]) (fun _ => by simp [Li, h0, IV])
 ·exact VO h i (by omega) true (by simp [h0]) (fun _ => by simp [Fl, h0, B7]) (fun _ => by simp [Li, h0, IV])
 ·exact TC h i (by omega) (by simp [Fl, h0, B7, KG]) (by simp [Li, h0, IV])
 ·exact Afl h i (by omega) (by simp [Fl, h0, B7, KG]) (by simp [Li, h0, IV])
theorem Afu {e : AA} (h : DG e) (i : A9) (ho : i.Op.toNat < 34) : Lv e i = some (if D7 e i = 0 then (⟨Fl e i, Li e i⟩, 0) else (⟨[], Gv.nil⟩, D7 e i)) := by
 unfold Lv
 rw [size_eq, Ik, ANu]
 have hz : CV i.Op ≠ 0 := by unfold CV; rw [A1 (by omega)]; omega
 rw [A1 (by rw [AE]; omega)]
 unfold step_table IB
 rw [ANu, ANu, ANu, ANu]
 have hlen : (MG ⟨4, 1⟩ ⟨4, 2⟩ ⟨4, 4⟩).length = 34 := by simp [MG, R7, Sk, RL, RA, Oc, NS, NL, Sm, Sa, RN, S4, Rx, SA, RG, NQ, S3, RS, NH, So, RD, Sv, Sg, Sp, SC, Uw, Ux, TU, TJ, Uc, TF, Ul, Ur, TY, TV]
 rcases ht : (MG ⟨4, 1⟩ ⟨4, 2⟩ ⟨4, 4⟩)[i.Op.toNat]? with _ | t
 ·rw [List.getElem?_eq_none_iff, hlen] at ht; omega
 ·rw [ANu, show (⟨e.Classes, e.AQ, e.Fn⟩ : AA) = e from rfl, show (⟨i.At, i.Op, i.A, i.B⟩ : A9) = i from rfl, Amb h i t ho ht, ANu]
theorem Acu (e : AA) (i : A9) (ho : ¬ i.Op.toNat < 34) : Lv e i = some (⟨[], Gv.nil⟩, 40) := by
 unfold Lv
 rw [size_eq, Ik, ANu]
 have hz : CV i.Op = 0 := by unfold CV; rw [A3 (by omega)]
 rw [hz, A3 (by simp)]
end Go.Proofs.YtfcpkcehecmcpaaGreat
namespace Go.Proofs.YtfcpkcehecmcpaaGreat
open Go Go.RowKit Go.Pv
def C9 (f : A4) (n : Nat) : List UInt8 := (f.Slots.toList.drop ((f.Locals + f.Height).toNat - n)).take n
theorem OZ {f : A4} (h : Fb f) {n : Nat} (hn : n ≤ f.Height) : (C9 f n).length = n := by
 have := h.num
 unfold C9
 rw [AN6, List.length_drop, Vector.length_toList]
 omega
theorem XG {f : A4} (h : Fb f) {n : Nat} (hn : n ≤ f.Height) {i : Nat} (hi : i < n) : (C9 f n)[i]? = f.Slots.toList[(f.Locals + f.Height).toNat - n + i]? := by
 have := h.num
 unfold C9
 rw [List.getElem?_take, A3 hi, List.getElem?_drop]
theorem Ad7 {l : List A6} {f : A4} (h : OS l f.Slots) {n : Nat} : ∀ t ∈ C9 f n, tv l t = true := by
 intro t ht
 unfold C9 at ht
 have := List.mem_of_mem_drop (List.mem_of_mem_take ht)
 rw [← N2, List.all_eq_true] at h
 exact h t this
def NG (l : List A6) (w : A5) (t first : UInt8) : Bool :=
 if w.kind = 1 then decide (t.toNat ≠ 0) else if w.kind = 2 then rf t else if w.kind = 3 then decide (t = first ∧ (t.toNat = 1 ∨ t.toNat = 2)) else if w.kind = 4 then decide (Le l t w.t) else true
theorem Aqw (l : List A6) (G : Good l) (w : A5) (t first : UInt8) : NJ l w t first = some (NG l w t first) := by
 unfold NJ NG
 by_cases h1 : w.kind = 1
 ·rw [A3 (by rw [AE]; exact h1), A3 h1]
  congr 1
  rw [APo, AW, A2]
  omega
 ·rw [A1 (by rw [AE]; exact h1), A1 h1]
  by_cases h2 : w.kind = 2
  ·rw [A3 (by rw [AE]; exact h2), A3 h2, NV, ANu]
  ·rw [A1 (by rw [AE]; exact h2), A1 h2]
   by_cases h3 : w.kind = 3
   ·rw [A3 (by rw [AE]; exact h3), A3 h3, Zy]
    by_cases h : t = first
    ·rw [A3 (by simpa using h)]
     by_cases h1 : t.toNat = 1
     ·rw [A3 (by rw [h1]; rfl), decide_eq_true ⟨h, Or.inl h1⟩]
     ·rw [A1 (by rw [AE]; omega)]
      congr 1
      rw [APo, AE, A2]
      constructor
      ·intro h2; exact ⟨h, Or.inr (by omega)⟩
      ·rintro ⟨_, h2 | h2⟩ <;> omega
    ·rw [A1 (by simpa using h), decide_eq_false (by rintro ⟨h', _⟩; exact h h')]
   ·rw [A1 (by rw [AE]; exact h3), A1 h3]
    by_cases h4 : w.kind = 4
    ·rw [A3 (by rw [AE]; exact h4), A3 h4, V9 l G, ANu]
    ·rw [A1 (by rw [AE]; exact h4), A1 h4]
def allFit (l : List A6) (w : List A5) (had : List UInt8) : Bool := (List.range had.length).all fun i => NG l ((w[i]?).getD ⟨0, 0⟩) ((had[i]?).getD 0) ((had[0]?).getD 0)
theorem Aaf (l : List A6) (G : Good l) {f : A4} (h : Fb f) (w : List A5) : LD l f w = some (if f.Height < w.length then ([], 30) else if allFit l w (C9 f w.length) = true then (C9 f w.length, 0) else ([], 70)) := by
 have hh := h.num
 unfold LD
 by_cases hw : f.Height < w.length
 ·rw [A3 (by rw [A2]; exact hw), A3 hw]
 ·rw [A1 (by rw [A2]; exact hw), A1 hw]
  have hlen := OZ h (n := w.length) (by omega)
  have h1 : AY (Im f w) (([] : List UInt8), 0) = some ((C9 f w.length).map id) := by
   refine Kr (C9 f w.length) id (fun i hi acc ha => ?_) (fun acc => ?_)
   ·rw [hlen] at hi
    unfold Im
    dsimp only
    rw [A3 (by rw [A2]; omega), show (⟨f.Locals, f.Height, f.Slots⟩ : A4) = f from rfl, Cx (n := (w.length : Int) - 1) (by omega) (by omega), Cx (by omega) (by omega)]
    obtain ⟨x, hx, hx2⟩ := YD h (w.length - 1 - i) (by omega)
    rw [show (w.length : Int) - 1 - i = ((w.length - 1 - i : Nat) : Int) by omega, hx, ANu]
    have hg := XG h (n := w.length) (by omega) hi
    rw [show (f.Locals + f.Height).toNat - w.length + i = (f.Locals + f.Height).toNat - 1 - (w.length - 1 - i) by omega, hx2] at hg
    dsimp only
    rw [CZ (by simp; omega), ANu, CS (by omega)]
    rw [ANx (by omega)] at hg
    rw [Option.some.inj hg]
    rfl
   ·unfold Im
    dsimp only
    rw [hlen, A1 (by rw [A2]; omega)]
  rw [h1, ANu, List.map_id]
  generalize hH : C9 f w.length = had at *
  have hl := Hm (R := (List UInt8 × Int) ⊕ Unit) had.length (body := Iq l w had) (fun i => if NG l ((w[i]?).getD ⟨0, 0⟩) ((had[i]?).getD 0) ((had[0]?).getD 0) = true then none else some (.inl ([], 70))) (r0 := .inr ()) (fun i hi => by
   unfold Iq
   have h0 : idx had 0 = some ((had[0]?).getD 0) := GI (i := 0) (by omega) (by omega) 0
   have hi' : idx had (i : Int) = some ((had[i]?).getD 0) := GI (i := (i : Int)) (by omega) (by omega) 0
   have hw' : idx w (i : Int) = some ((w[i]?).getD ⟨0, 0⟩) := GI (l := w) (i := (i : Int)) (by omega) (by omega) (⟨0, 0⟩ : A5)
   rw [A3 (by rw [A2]; omega), hi', ANu, hw', ANu, h0, ANu, Aqw l G, ANu, CS (by omega)]
   rcases NG l ((w[i]?).getD ⟨0, 0⟩) ((had[i]?).getD 0) ((had[0]?).getD 0) with _ | _ <;> rfl) (by
   unfold Iq
   rw [A1 (by rw [A2]; omega)])
  rw [hl, ANu]
  rcases hf : (List.range had.length).findSome? (fun i => if NG l ((w[i]?).getD ⟨0, 0⟩) ((had[i]?).getD 0) ((had[0]?).getD 0) = true then none else some (Sum.inl (([] : List UInt8), (70 : Int)) : (List UInt8 × Int) ⊕ Unit)) with _ | r
  ·have ha : allFit l w had = true := by
    unfold allFit
    rw [List.all_eq_true]
    intro i hi
    have := (List.findSome?_eq_none_iff.1 hf) i hi
    rcases hx : NG l ((w[i]?).getD ⟨0, 0⟩) ((had[i]?).getD 0) ((had[0]?).getD 0) with _ | _
    ·rw [hx] at this; simp at this
    ·rfl
   rw [A3 ha]
   rfl
  ·obtain ⟨i, hi, hr⟩ := List.exists_of_findSome?_eq_some hf
   have ha : allFit l w had ≠ true := by
    intro ha
    unfold allFit at ha
    rw [List.all_eq_true] at ha
    rw [A3 (ha i hi)] at hr
    cases hr
   rw [A1 ha]
   split at hr
   ·cases hr
   ·cases hr; rfl
def K9 (l : List A6) (t want : UInt8) : Bool := if want = 255 then true else if want = 254 then decide (t.toNat ≠ 0) else if want = 253 then rf t else decide (Le l t want)
theorem WG {a : UInt8} {k : Nat} (hk : k < 256) : ((a.toNat : Int) == (k : Int)) = decide (a = UInt8.ofNat k) := by
 rw [Cg]
 rw [decide_eq_decide]
 constructor
 ·intro h
  apply UInt8.toNat_inj.1
  simp [h]
  omega
 ·rintro rfl
  simp
  omega
theorem Zk (l : List A6) (G : Good l) (t want : UInt8) : Hz l t want = some (K9 l t want) := by
 unfold Hz K9
 have e255 : ((want.toNat : Int) == 255) = decide (want = 255) := WG (k := 255) (by omega)
 have e254 : ((want.toNat : Int) == 254) = decide (want = 254) := WG (k := 254) (by omega)
 have e253 : ((want.toNat : Int) == 253) = decide (want = 253) := WG (k := 253) (by omega)
 rw [e255, e254, e253]
 simp only [A2]
 by_cases h1 : want = 255
 ·rw [A3 h1, A3 h1]
 ·rw [A1 h1, A1 h1]
  by_cases h2 : want = 254
  ·rw [A3 h2, A3 h2]
   congr 1
   rw [APo, AW, A2]
   omega
  ·rw [A1 h2, A1 h2]
   by_cases h3 : want = 253
   ·rw [A3 h3, A3 h3, Ru, ANu]
   ·rw [A1 h3, A1 h3, SS l G, ANu]
theorem Abl (l : List A6) (t want first : UInt8) : NG l (KG want) t first = K9 l t want := by
 unfold KG K9 NG
 by_cases h1 : want = 255
 ·rw [A3 h1, A3 h1]; rfl
 ·rw [A1 h1, A1 h1]
  by_cases h2 : want = 254
  ·rw [A3 h2, A3 h2]; rfl
  ·rw [A1 h2, A1 h2]
   by_cases h3 : want = 253
   ·rw [A3 h3, A3 h3]; rfl
   ·rw [A1 h3, A1 h3]; rfl
def OK (l : List A6) (w had : List UInt8) : Bool := (List.range had.length).all fun i => K9 l ((had[i]?).getD 0) ((w[i]?).getD 0)
theorem Ahf (e : AA) (G : Good e.Classes) {f : A4} (h : Fb f) (w : List UInt8) (hw : w.length ≤ f.Height) : AY (CY e f w) (([] : List UInt8), 0) = some (if OK e.Classes w (C9 f w.length) = true then .inr (C9 f w.length) else .inl (zf, 70)) := by
 have hh := h.num
 have hlen := OZ h (n := w.length) hw
 generalize hH : C9 f w.length = had at *
 have step : ∀ (acc : List UInt8) (i : Nat) (hi : i < had.length), acc.length = i → CY e f w (acc, (i : Int)) = if K9 e.Classes ((had[i]?).getD 0) ((w[i]?).getD 0) = true then some (.inl (acc ++ [(had[i]?).getD 0], ((i + 1 : Nat) : Int))) else some (.inr (.inl (zf, 70))) := by
  intro acc i hi ha
  unfold CY
  dsimp only
  have hw' : idx w (i : Int) = some ((w[i]?).getD 0) := GI (i := (i : Int)) (by omega) (by omega) 0
  have hg := XG h (n := w.length) hw (i := i) (by omega)
  rw [hH] at hg
  have hk : (f.Locals + f.Height).toNat - w.length + i < 24 := by omega
  have hx : idx f.Slots.toList (wr ((wr ((wr (f.Locals + f.Height)) - (w.length : Int))) + (i : Int))) = some ((had[i]?).getD 0) := by
   rw [Cx (n := f.Locals + f.Height) (by omega) (by omega), Cx (n := f.Locals + f.Height - w.length) (by omega) (by omega), Cx (by omega) (by omega)]
   rw [show f.Locals + f.Height - (w.length : Int) + (i : Int) = (((f.Locals + f.Height).toNat - w.length + i : Nat) : Int) by omega, Vt, ← hg, ANx hi]
   rfl
  rw [A3 (by rw [A2]; omega), hw', ANu, hx, ANu, Zk _ G, ANu]
  rcases K9 e.Classes ((had[i]?).getD 0) ((w[i]?).getD 0) with _ | _
  ·rw [A3 (by simp), A1 (by simp)]
  ·rw [A1 (by simp), A3 rfl, CZ (by simp; omega), ANu, CS (by omega)]
 have stop : ∀ acc, CY e f w (acc, (had.length : Int)) = some (.inr (.inr acc)) := by
  intro acc
  unfold CY
  dsimp only
  rw [A1 (by rw [A2]; omega)]
 have key : ∀ k i, i + k = had.length → AY (CY e f w) (had.take i, (i : Int)) = some (if ((List.range' i k).all fun j => K9 e.Classes ((had[j]?).getD 0) ((w[j]?).getD 0)) = true then .inr had else .inl (zf, 70)) := by
  intro k
  induction k with
  | zero =>
   intro i hi
   rw [show i = had.length by omega, BP (stop _), APk]
   rfl
  | succ k ih =>
   intro i hi
   have hi' : i < had.length := by omega
   have hs := step (had.take i) i hi' (by rw [AN6]; omega)
   rw [List.range'_succ, List.all_cons]
   by_cases hw' : K9 e.Classes ((had[i]?).getD 0) ((w[i]?).getD 0) = true
   ·rw [A3 hw'] at hs
    rw [Dh hs, hw', Bool.true_and]
    have : had.take i ++ [(had[i]?).getD 0] = had.take (i + 1) := by
     rw [ANx hi', ANv, APc]
    rw [this]
    exact ih (i + 1) (by omega)
   ·rw [A1 hw'] at hs
    rw [BP hs, A1]
    rw [APn]
    rintro ⟨h, _⟩; exact hw' h
 have := key had.length 0 (by omega)
 rw [List.take_zero] at this
 unfold OK
 rw [List.range_eq_range']
 exact this
end Go.Proofs.YtfcpkcehecmcpaaGreat
namespace Go.Proofs.YtfcpkcehecmcpaaGreat
open Go Go.RowKit Go.Pv
def okV (e : AA) (i : A9) (had : List UInt8) : Bool := OK e.Classes (B7 e i) had && (decide (i.Op.toNat ≠ 16) || decide ((had[0]?).getD 0 = (had[1]?).getD 0 ∧ (((had[0]?).getD 0).toNat = 1 ∨ ((had[0]?).getD 0).toNat = 2)))
theorem all_congr {l : List Nat} {p q : Nat → Bool} (h : ∀ x ∈ l, p x = q x) : l.all p = l.all q := by
 induction l with
 | nil => rfl
 | cons a l ih => rw [List.all_cons, List.all_cons, h a (by simp), ih fun x hx => h x (by simp [hx])]
theorem ok_eq (e : AA) (i : A9) {had : List UInt8} (hl : had.length = (B7 e i).length) : allFit e.Classes (Fl e i) had = okV e i had := by
 unfold okV
 by_cases h : i.Op.toNat = 16
 ·have ht : B7 e i = [255, 255] := by unfold B7; simp [h]
  rw [ht] at hl ⊢
  unfold Fl
  rw [A3 h, decide_eq_false (by simp [h]), Bool.false_or]
  match had, hl with
  | [a, b], _ =>
   unfold allFit OK NG K9
   rw [show (List.range ([a, b] : List UInt8).length) = [0, 1] from rfl]
   simp only [List.all_cons, List.all_nil, Bool.and_true, List.getElem?_cons_zero, List.getElem?_cons_succ, ANv]
   rw [APo]
   simp
   constructor
   ·rintro ⟨h1, h2, h3⟩; exact ⟨h2.symm, h1⟩
   ·rintro ⟨h1, h2⟩
    subst h1
    exact ⟨h2, rfl, h2⟩
 ·rw [decide_eq_true h, Bool.true_or, Bool.and_true]
  unfold allFit OK Fl
  rw [A1 h]
  refine all_congr fun j hj => ?_
  have hj' : j < (B7 e i).length := by rw [AOx] at hj; omega
  rw [List.getElem?_map, ANx hj', ANw, ANv, ANv, Abl]
def LQ (f : A4) (i : A9) : UInt8 := (f.Slots.toList[i.A.toNat]?).getD 0
def JU (e : AA) (f : A4) (i : A9) (had : List UInt8) : List UInt8 :=
 if i.Op.toNat = 4 then [LQ f i] else if i.Op.toNat = 7 then [(had[0]?).getD 0, (had[0]?).getD 0] else if i.Op.toNat = 8 then [(had[1]?).getD 0, (had[0]?).getD 0] else IV e i
noncomputable def TZ (f : A4) (i : A9) (had gives : List UInt8) : A4 × Int :=
 if i.Op.toNat = 22 ∧ (E7 f had.length).Height > 0 then (zf, 73) else K2 (if i.Op.toNat = 5 then Qx (E7 f had.length) i.A ((had[0]?).getD 0) else E7 f had.length) gives
noncomputable def Gt (e : AA) (f : A4) (i : A9) : A4 × Int :=
 if ¬ i.Op.toNat < 34 then (zf, 40)
 else if (i.Op.toNat = 4 ∨ i.Op.toNat = 5) ∧ ¬ (0 ≤ i.A ∧ i.A < f.Locals) then (zf, 33)
 else if D7 e i ≠ 0 then (zf, D7 e i)
 else if f.Height < (B7 e i).length then (zf, 30)
 else if okV e i (C9 f (B7 e i).length) = false then (zf, 70)
 else if i.Op.toNat = 4 ∧ (LQ f i).toNat = 0 then (zf, 70)
 else TZ f i (C9 f (B7 e i).length) (JU e f i (C9 f (B7 e i).length))
theorem Alk {e : AA} (h : DG e) (i : A9) (h0 : D7 e i = 0) : (B7 e i).length ≤ 8 := by
 unfold B7
 split <;> try (simp; done)
 ·rename_i h21
  unfold D7 at h0
  rw [A3 h21] at h0
  by_cases ha : 0 ≤ i.A ∧ i.A < e.AQ.length
  ·exact (SN h (TO ha.1 ha.2)).1
  ·rw [A1 ha] at h0; cases h0
 ·unfold Kc; split <;> simp
theorem WS (e : AA) (f : A4) (i : A9) (had : List UInt8) : (JU e f i had).length ≤ 2 := by
 unfold JU
 split
 ·simp
 ·split
  ·simp
  ·split
   ·simp
   ·unfold IV
    split <;> try (simp; done)
    all_goals (unfold Kc; split <;> simp)
theorem Aed {f : A4} (h : Fb f) {i : A9} (h0 : 0 ≤ i.A) (h1 : i.A < f.Locals) : idx f.Slots.toList i.A = some (LQ f i) := by
 have := h.num
 exact GI h0 (by simp; omega) 0
theorem UY {f : A4} (h : Fb f) (i : A9) {had gives : List UInt8} (hn : had.length ≤ f.Height) (hg : gives.length ≤ 2) (h5 : i.Op.toNat = 5 → had ≠ [] ∧ 0 ≤ i.A ∧ i.A < f.Locals) : I6 f i had gives = some (TZ f i had gives) := by
 have hh := h.num
 unfold I6
 rw [Wn had.length h hn (fun g k hk hg hgh => by
   obtain ⟨x, hx⟩ := Auo hg hgh
   unfold IE
   dsimp only
   rw [A3 (by rw [A2]; omega), show (⟨g.Locals, g.Height, g.Slots⟩ : A4) = g from rfl, hx, ANu, CS (by omega)]) (fun g => by
   unfold IE
   dsimp only
   rw [A1 (by rw [A2]; omega)]), ANu]
 have hp := SJ h had.length hn
 have hpL : (E7 f had.length).Locals = f.Locals := by unfold E7 EQ; dsimp only
 unfold TZ
 generalize E7 f had.length = g at *
 dsimp only
 have e22 : ((i.Op.toNat : Int) == 22) = decide (i.Op.toNat = 22) := Cg _ 22
 have e5 : ((i.Op.toNat : Int) == 5) = decide (i.Op.toNat = 5) := Cg _ 5
 rw [e22, e5]
 by_cases h22 : i.Op.toNat = 22 ∧ g.Height > 0
 ·rw [A3 h22, A3 (by rw [A2]; exact h22.1), A3 (by rw [A2]; exact h22.2), ANu]
 ·rw [A1 h22]
  have hx : (if decide (i.Op.toNat = 22) = true then if decide (g.Height > 0) = true then some (Sum.inl (zf, (73 : Int)) : (A4 × Int) ⊕ Unit) else some (.inr ()) else some (.inr ())) = some (.inr ()) := by
   by_cases h1 : i.Op.toNat = 22
   ·rw [A3 (by rw [A2]; exact h1), A1 (by rw [A2]; exact fun h2 => h22 ⟨h1, h2⟩)]
   ·rw [A1 (by rw [A2]; exact h1)]
  rw [hx, ANu]
  dsimp only
  have hy : ∀ f2 : A4, Fb f2 → ((AY (GF gives) (f2.Locals, f2.Height, f2.Slots, 0) : Option ((A4 × Int) ⊕ (Int × Int × (Vector UInt8 24))))).bind (fun o6044 => (match o6044 with | .inl p6987 => (some p6987) | .inr p6047 => (some ((⟨p6047.1, p6047.2.1, p6047.2.2⟩ : A4), (0 : Int))))) = some (K2 f2 gives) := by
   intro f2 hf2
   have := Tr (body := GF gives) gives (by omega) (fun f3 k hk hf3 => by
    unfold GF
    dsimp only
    rw [A3 (by rw [A2]; omega), BN hk, ANu, show (⟨f3.Locals, f3.Height, f3.Slots⟩ : A4) = f3 from rfl, Afk hf3, ANu]
    by_cases h24 : f3.Locals + f3.Height = 24
    ·rw [A3 h24, A3 h24]; rfl
    ·rw [A1 h24, A1 h24, CS (by omega)]; rfl) (fun f3 => by
    unfold GF
    dsimp only
    rw [A1 (by rw [A2]; omega)]) gives.length 0 f2 (by omega) hf2
   rw [show ((0 : Nat) : Int) = 0 from rfl, List.drop_zero] at this
   rw [this, ANu]
   rcases hq : K2 f2 gives with ⟨f3, x⟩
   by_cases hx0 : x = 0
   ·subst hx0; rfl
   ·dsimp only; rw [A1 hx0]
  by_cases h5' : i.Op.toNat = 5
  ·obtain ⟨hne, h50, h51⟩ := h5 h5'
   have hl0 : 0 < had.length := List.length_pos_iff.2 hne
   rw [A3 (by rw [A2]; exact h5'), A3 h5', show idx had 0 = some ((had[0]?).getD 0) from GI (i := 0) (by omega) (by omega) 0, ANu, Aar hp h50 (by omega), ANu, ANu]
   exact hy (Qx g i.A ((had[0]?).getD 0)) (V8 hp _ h50 (by omega))
  ·rw [A1 (by rw [A2]; exact h5'), A1 h5', ANu]
   exact hy g hp
theorem A1s (e : AA) (f : A4) (i : A9) {had : List UInt8} (hl : had.length = (B7 e i).length) (h4 : i.Op.toNat ≠ 4) : Gv.run (Li e i) had = some (JU e f i had) := by
 unfold Li JU
 by_cases h7 : i.Op.toNat = 7
 ·have ht : B7 e i = [255] := by unfold B7; simp [h7]
  rw [ht] at hl
  simp only [h4, h7, if_true, if_false]
  match had, hl with
  | [a], _ => rfl
 ·by_cases h8 : i.Op.toNat = 8
  ·have ht : B7 e i = [255, 255] := by unfold B7; simp [h8]
   rw [ht] at hl
   simp only [h4, h7, h8, if_true, if_false]
   match had, hl with
   | [a, b], _ => rfl
  ·simp only [h4, h7, h8, if_true, if_false]
   rfl
theorem WB {e : AA} {i : A9} (h : i.Op.toNat = 4 ∨ i.Op.toNat = 5) : D7 e i = 0 := by
 unfold D7
 rw [A1 (by omega), A1 (by omega), A1 (by omega)]
theorem YN {e : AA} {i : A9} (h : i.Op.toNat = 5) : B7 e i = [254] := by unfold B7; simp [h]
theorem U5 {e : AA} (h : DG e) {f : A4} (hb : Fb f) (i : A9) (h34 : i.Op.toNat < 34) (h0 : D7 e i = 0) (hA : i.Op.toNat = 4 ∨ i.Op.toNat = 5 → 0 ≤ i.A ∧ i.A < f.Locals) :
  ((LD e.Classes f (Fl e i)).bind fun x464 => if (x464.2 != 0) = true then (some ((⟨0, 0, (Vector.replicate 24 (0 : UInt8))⟩ : A4), x464.2)) else ((Gv.run (Li e i) x464.1).bind fun x545 => if ((i.Op.toNat : Int) == 4) = true then ((J6 f i.A).bind fun x668 => if ((x668.1.toNat : Int) == 0) = true then (some ((⟨0, 0, (Vector.replicate 24 (0 : UInt8))⟩ : A4), 70)) else ((I6 f i x464.1 ([x668.1] : List UInt8)).bind fun x744 => some ((⟨x744.1.Locals, x744.1.Height, x744.1.Slots⟩ : A4), x744.2))) else ((I6 f i x464.1 x545).bind fun x782 => some ((⟨x782.1.Locals, x782.1.Height, x782.1.Slots⟩ : A4), x782.2)))) =
  some (if f.Height < (B7 e i).length then (zf, 30)
   else if okV e i (C9 f (B7 e i).length) = false then (zf, 70)
   else if i.Op.toNat = 4 ∧ (LQ f i).toNat = 0 then (zf, 70)
   else TZ f i (C9 f (B7 e i).length) (JU e f i (C9 f (B7 e i).length))) := by
 have hwl : (Fl e i).length = (B7 e i).length := by
  unfold Fl
  split
  ·rename_i h16
   have : B7 e i = [255, 255] := by unfold B7; simp [h16]
   rw [this]; rfl
  ·rw [ANz]
 have e4 : ((i.Op.toNat : Int) == 4) = decide (i.Op.toNat = 4) := Cg _ 4
 rw [Aaf _ h.good hb, ANu, hwl]
 by_cases hH : f.Height < (B7 e i).length
 ·rw [A3 hH, A3 hH, A3 (by simp)]
 ·have hlen := OZ hb (n := (B7 e i).length) (by omega)
  rw [A1 hH, A1 hH, ok_eq e i hlen]
  rcases hok : okV e i (C9 f (B7 e i).length) with _ | _
  ·rw [A1 (show ¬ (false = true) by simp), A3 (show false = false from rfl), A3 (by simp)]
  ·rw [A3 (show true = true from rfl), A1 (show ¬ (true = false) by simp)]
   dsimp only
   rw [A1 (by simp), e4]
   by_cases h4 : i.Op.toNat = 4
   ·obtain ⟨x, hx, hx2, hx3⟩ := Xc hb (hA (Or.inl h4)).1 (hA (Or.inl h4)).2
    have hsl : LQ f i = x := by unfold LQ; rw [hx3]; rfl
    have hgv : Gv.run (Li e i) (C9 f (B7 e i).length) = some [0] := by unfold Li; rw [A1 (by omega), A1 (by omega), A3 h4]; rfl
    rw [hgv, ANu, A3 (by rw [A2]; exact h4), hx, ANu, hsl]
    dsimp only
    by_cases hx0 : x.toNat = 0
    ·rw [A3 (by rw [hx0]; rfl), A3 ⟨h4, hx0⟩]
    ·rw [A1 (by rw [AE]; omega), A1 (by rintro ⟨_, q⟩; exact hx0 q), UY hb i (by omega) (by simp) (fun q => by omega), ANu]
     unfold JU
     rw [A3 h4, hsl]
   ·rw [A1s e f i hlen h4, ANu, A1 (by rw [A2]; exact h4), A1 (by rintro ⟨q, _⟩; exact h4 q), UY hb i (by omega) (WS e f i _) (fun q => ⟨(by
     intro hn
     rw [hn, YN q] at hlen
     cases hlen), hA (Or.inr q)⟩), ANu]
theorem Ack {e : AA} (h : DG e) {f : A4} (hf : Ic e.Classes f) (i : A9) : MW e f i = some (Gt e f i) := by
 have hb := hf.fb
 unfold MW
 rw [show (⟨e.Classes, e.AQ, e.Fn⟩ : AA) = e from rfl, show (⟨f.Locals, f.Height, f.Slots⟩ : A4) = f from rfl, show (⟨i.At, i.Op, i.A, i.B⟩ : A9) = i from rfl, ACs e h.good.tab, Y8 e h, ANu, A1 (by simp), S9 hf, ANu, A1 (by simp)]
 have e4 : ((i.Op.toNat : Int) == 4) = decide (i.Op.toNat = 4) := Cg _ 4
 have e5 : ((i.Op.toNat : Int) == 5) = decide (i.Op.toNat = 5) := Cg _ 5
 have ho : (if ((i.Op.toNat : Int) == 4) = true then some true else some ((i.Op.toNat : Int) == 5)) = some (decide (i.Op.toNat = 4 ∨ i.Op.toNat = 5)) := by
  rw [e4, e5]
  by_cases q : i.Op.toNat = 4
  ·rw [A3 (by rw [A2]; exact q), decide_eq_true (Or.inl q)]
  ·rw [A1 (by rw [A2]; exact q)]
   congr 1
   rw [decide_eq_decide]
   exact ⟨Or.inr, fun h => h.resolve_left q⟩
 unfold Gt
 by_cases h34 : i.Op.toNat < 34
 ·rw [Afu h i h34, ANu, ho, ANu, A1 (show ¬ ¬ i.Op.toNat < 34 from fun q => q h34)]
  by_cases hloc : i.Op.toNat = 4 ∨ i.Op.toNat = 5
  ·rw [WB (e := e) hloc, A3 rfl]
   dsimp only
   rw [A3 (by rw [AE]), A3 (by rw [A2]; exact hloc)]
   by_cases hA : 0 ≤ i.A ∧ i.A < f.Locals
   ·rw [A1 (by rw [A2]; omega), A1 (by rw [A2]; omega), ANu, A1 (by simp), A1 (show ¬ ((i.Op.toNat = 4 ∨ i.Op.toNat = 5) ∧ ¬ (0 ≤ i.A ∧ i.A < f.Locals)) from fun q => q.2 hA), A1 (show ¬ (0 : Int) ≠ 0 from fun q => q rfl)]
    exact U5 h hb i h34 (WB hloc) (fun _ => hA)
   ·rw [A3 (show ((i.Op.toNat = 4 ∨ i.Op.toNat = 5) ∧ ¬ (0 ≤ i.A ∧ i.A < f.Locals)) from ⟨hloc, hA⟩)]
    by_cases h1 : i.A < 0
    ·rw [A3 (by rw [A2]; exact h1), ANu, A3 (by simp)]
    ·rw [A1 (by rw [A2]; exact h1), A3 (by rw [A2]; omega), ANu, A3 (by simp)]
  ·rw [A1 (show ¬ ((i.Op.toNat = 4 ∨ i.Op.toNat = 5) ∧ ¬ (0 ≤ i.A ∧ i.A < f.Locals)) from fun q => hloc q.1), decide_eq_false hloc]
   by_cases h0 : D7 e i = 0
   ·rw [A3 h0, A1 (show ¬ D7 e i ≠ 0 from fun q => q h0)]
    dsimp only
    rw [A3 (by rw [AE]), A1 (by simp), ANu, A1 (by simp)]
    exact U5 h hb i h34 h0 (fun q => absurd q hloc)
   ·rw [A1 h0, A3 (show D7 e i ≠ 0 from h0)]
    dsimp only
    rw [A1 (by rw [AE]; exact h0), ANu, A3 (by rw [AW]; exact h0)]
 ·rw [Acu e i h34, ANu, ho, ANu, A3 h34]
  dsimp only
  rw [A1 (by simp), ANu, A3 (by simp)]
end Go.Proofs.YtfcpkcehecmcpaaGreat
namespace Go.Proofs.YtfcpkcehecmcpaaGreat
open Go Go.RowKit Go.Pv
theorem Ve {e : AA} (h : DG e) {f : A4} (hb : Fb f) (i : A9) (h34 : i.Op.toNat < 34) (h0 : D7 e i = 0) (hA : i.Op.toNat = 4 ∨ i.Op.toNat = 5 → 0 ≤ i.A ∧ i.A < f.Locals) :
  GH e f i = some (if f.Height < (B7 e i).length then (zf, 30)
   else if okV e i (C9 f (B7 e i).length) = false then (zf, 70)
   else if i.Op.toNat = 4 ∧ (LQ f i).toNat = 0 then (zf, 70)
   else TZ f i (C9 f (B7 e i).length) (JU e f i (C9 f (B7 e i).length))) := by
 have hh := hb.num
 have h8 := Alk h i h0
 unfold GH
 rw [show (⟨e.Classes, e.AQ, e.Fn⟩ : AA) = e from rfl, show (⟨i.At, i.Op, i.A, i.B⟩ : A9) = i from rfl, ZQ h i h34 h0, ANu]
 by_cases hH : f.Height < (B7 e i).length
 ·rw [A3 hH, A3 (by rw [A2]; exact hH)]
 ·have hlen := OZ hb (n := (B7 e i).length) (by omega)
  rw [A1 hH, A1 (by rw [A2]; exact hH), Ahf e h.good hb _ (by omega), ANu]
  unfold okV
  rcases hw : OK e.Classes (B7 e i) (C9 f (B7 e i).length) with _ | _
  ·rw [A1 (show ¬ (false = true) by simp), Bool.false_and, A3 (show false = false from rfl)]
  ·rw [A3 (show true = true from rfl), Bool.true_and]
   dsimp only
   have e16 : ((i.Op.toNat : Int) == 16) = decide (i.Op.toNat = 16) := Cg _ 16
   have e4 : ((i.Op.toNat : Int) == 4) = decide (i.Op.toNat = 4) := Cg _ 4
   have e7 : ((i.Op.toNat : Int) == 7) = decide (i.Op.toNat = 7) := Cg _ 7
   have e8 : ((i.Op.toNat : Int) == 8) = decide (i.Op.toNat = 8) := Cg _ 8
   have e22 : ((i.Op.toNat : Int) == 22) = decide (i.Op.toNat = 22) := Cg _ 22
   have e5 : ((i.Op.toNat : Int) == 5) = decide (i.Op.toNat = 5) := Cg _ 5
   have hx16 : ((if ((i.Op.toNat : Int) == 16) = true then ((idx (C9 f (B7 e i).length) 0).bind fun x6938 => (idx (C9 f (B7 e i).length) 1).bind fun x6943 => if ((x6938.toNat : Int) != (x6943.toNat : Int)) = true then (some (.inl ((⟨0, 0, (Vector.replicate 24 (0 : UInt8))⟩ : A4), 70))) else ((idx (C9 f (B7 e i).length) 0).bind fun x6967 => if ((x6967.toNat : Int) != 1) = true then ((idx (C9 f (B7 e i).length) 0).bind fun x6973 => if ((x6973.toNat : Int) != 2) = true then (some (.inl ((⟨0, 0, (Vector.replicate 24 (0 : UInt8))⟩ : A4), 70))) else (some (.inr (())))) else (some (.inr (()))))) else (some (.inr (()))) : Option ((A4 × Int) ⊕ Unit))) =
     some (if (decide (i.Op.toNat ≠ 16) || decide (((C9 f (B7 e i).length)[0]?).getD 0 = ((C9 f (B7 e i).length)[1]?).getD 0 ∧ ((((C9 f (B7 e i).length)[0]?).getD 0).toNat = 1 ∨ (((C9 f (B7 e i).length)[0]?).getD 0).toNat = 2))) = false then .inl (zf, 70) else .inr ()) := by
    rw [e16]
    by_cases q : i.Op.toNat = 16
    ·have ht : B7 e i = [255, 255] := by unfold B7; simp [q]
     rw [ht] at hlen ⊢
     generalize C9 f ([255, 255] : List UInt8).length = had at *
     rw [A3 (by rw [A2]; exact q), decide_eq_false (p := i.Op.toNat ≠ 16) (by simp [q]), Bool.false_or]
     match had, hlen with
     | [a, b], _ =>
      rw [show idx [a, b] 0 = some a from rfl, show idx [a, b] 1 = some b from rfl, ANu, ANu, ANu, ANu]
      simp only [List.getElem?_cons_zero, List.getElem?_cons_succ, ANv]
      by_cases h1 : a = b
      ·subst h1
       rw [A1 (by simp)]
       by_cases h2 : a.toNat = 1
       ·rw [A1 (by rw [AW]; omega), A1 (by simp [h2])]
       ·rw [A3 (by rw [AW]; omega)]
        by_cases h3 : a.toNat = 2
        ·rw [A1 (by rw [AW]; omega), A1 (by simp [h3])]
        ·rw [A3 (by rw [AW]; omega), A3 (by simp [h2, h3])]
      ·rw [A3, A3 (by simp [h1])]
       rw [AW]
       intro h2
       apply h1
       apply UInt8.toNat_inj.1
       omega
    ·rw [A1 (by rw [A2]; exact q), decide_eq_true (p := i.Op.toNat ≠ 16) q, Bool.true_or, A1 (by simp)]
   rw [hx16, ANu]
   generalize hok : (decide (i.Op.toNat ≠ 16) || decide (((C9 f (B7 e i).length)[0]?).getD 0 = ((C9 f (B7 e i).length)[1]?).getD 0 ∧ ((((C9 f (B7 e i).length)[0]?).getD 0).toNat = 1 ∨ (((C9 f (B7 e i).length)[0]?).getD 0).toNat = 2))) = ok
   rcases ok with _ | _
   ·rw [A3 (show false = false from rfl), A3 (show false = false from rfl)]
   ·rw [A1 (show ¬ (true = false) by simp), A1 (show ¬ (true = false) by simp)]
    dsimp only
    rw [ZH h i h34 h0, ANu, e4, e7, e8]
    have hg : ((if decide (i.Op.toNat = 4) = true then ((idx f.Slots.toList i.A).bind fun x7536 => if ((x7536.toNat : Int) == 0) = true then (some (.inl ((⟨0, 0, (Vector.replicate 24 (0 : UInt8))⟩ : A4), 70))) else ((idx f.Slots.toList i.A).bind fun x7560 => some (.inr (([x7560] : List UInt8))))) else (if decide (i.Op.toNat = 7) = true then ((idx (C9 f (B7 e i).length) 0).bind fun x7588 => (idx (C9 f (B7 e i).length) 0).bind fun x7593 => some (.inr (([x7588, x7593] : List UInt8)))) else (if decide (i.Op.toNat = 8) = true then ((idx (C9 f (B7 e i).length) 1).bind fun x7619 => (idx (C9 f (B7 e i).length) 0).bind fun x7624 => some (.inr (([x7619, x7624] : List UInt8)))) else (some (.inr (IV e i))))) : Option ((A4 × Int) ⊕ ((List UInt8))))) =
      some (if i.Op.toNat = 4 ∧ (LQ f i).toNat = 0 then .inl (zf, 70) else .inr (JU e f i (C9 f (B7 e i).length))) := by
     unfold JU
     by_cases q4 : i.Op.toNat = 4
     ·have hA4 := hA (Or.inl q4)
      rw [A3 (by rw [A2]; exact q4), Aed hb hA4.1 hA4.2, ANu, ANu]
      by_cases hx0 : (LQ f i).toNat = 0
      ·rw [A3 (by rw [hx0]; rfl), A3 ⟨q4, hx0⟩]
      ·rw [A1 (by rw [AE]; omega), A1 (by rintro ⟨_, q⟩; exact hx0 q), A3 q4]
     ·rw [A1 (by rw [A2]; exact q4), A1 (show ¬ (i.Op.toNat = 4 ∧ (LQ f i).toNat = 0) from fun q => q4 q.1), A1 q4]
      by_cases q7 : i.Op.toNat = 7
      ·have ht : B7 e i = [255] := by unfold B7; simp [q7]
       rw [ht] at hlen ⊢
       rw [A3 (by rw [A2]; exact q7), A3 q7, show idx (C9 f ([255] : List UInt8).length) 0 = some (((C9 f ([255] : List UInt8).length)[0]?).getD 0) from GI (i := 0) (by omega) (by rw [hlen]; simp) 0]
       rfl
      ·rw [A1 (by rw [A2]; exact q7), A1 q7]
       by_cases q8 : i.Op.toNat = 8
       ·have ht : B7 e i = [255, 255] := by unfold B7; simp [q8]
        rw [ht] at hlen ⊢
        rw [A3 (by rw [A2]; exact q8), A3 q8, show idx (C9 f ([255, 255] : List UInt8).length) 0 = some (((C9 f ([255, 255] : List UInt8).length)[0]?).getD 0) from GI (i := 0) (by omega) (by rw [hlen]; simp) 0, show idx (C9 f ([255, 255] : List UInt8).length) 1 = some (((C9 f ([255, 255] : List UInt8).length)[1]?).getD 0) from GI (i := 1) (by omega) (by rw [hlen]; simp) 0]
        rfl
       ·rw [A1 (by rw [A2]; exact q8), A1 q8]
    rw [hg, ANu]
    by_cases hbad : i.Op.toNat = 4 ∧ (LQ f i).toNat = 0
    ·rw [A3 hbad, A3 hbad]
    ·rw [A1 hbad, A1 hbad]
     dsimp only
     rw [Wn (B7 e i).length hb (by omega) (fun g k hk hg hgh => by
       obtain ⟨x, hx⟩ := Axd hg hgh
       unfold Fp
       dsimp only
       rw [A3 (by rw [A2]; omega), show (⟨g.Locals, g.Height, g.Slots⟩ : A4) = g from rfl, hx, ANu, CS (by omega)]) (fun g => by
       unfold Fp
       dsimp only
       rw [A1 (by rw [A2]; omega)]), ANu]
     unfold TZ
     rw [hlen]
     have hp := SJ hb (B7 e i).length (by omega)
     have hpL : (E7 f (B7 e i).length).Locals = f.Locals := by unfold E7 EQ; dsimp only
     generalize E7 f (B7 e i).length = g at *
     dsimp only
     rw [e22, e5]
     by_cases h22 : i.Op.toNat = 22 ∧ g.Height > 0
     ·rw [A3 h22, A3 (by rw [A2]; exact h22.1), A3 (by rw [A2]; exact h22.2), ANu]
     ·rw [A1 h22]
      have hx : (if decide (i.Op.toNat = 22) = true then if decide (g.Height > 0) = true then some (Sum.inl (zf, (73 : Int)) : (A4 × Int) ⊕ Unit) else some (.inr ()) else some (.inr ())) = some (.inr ()) := by
       by_cases h1 : i.Op.toNat = 22
       ·rw [A3 (by rw [A2]; exact h1), A1 (by rw [A2]; exact fun h2 => h22 ⟨h1, h2⟩)]
       ·rw [A1 (by rw [A2]; exact h1)]
      rw [hx, ANu]
      dsimp only
      have hgl := WS e f i (C9 f (B7 e i).length)
      generalize JU e f i (C9 f (B7 e i).length) = gives at *
      have hy : ∀ f2 : A4, Fb f2 → ((AY (DL gives) (f2.Locals, f2.Height, f2.Slots, 0) : Option ((A4 × Int) ⊕ (Int × Int × (Vector UInt8 24))))).bind (fun o13581 => (match o13581 with | .inl p14524 => (some p14524) | .inr p13584 => (some ((⟨p13584.1, p13584.2.1, p13584.2.2⟩ : A4), (0 : Int))))) = some (K2 f2 gives) := by
       intro f2 hf2
       have := Tr (body := DL gives) gives (by omega) (fun f3 k hk hf3 => by
        unfold DL
        dsimp only
        rw [A3 (by rw [A2]; omega), BN hk, ANu, show (⟨f3.Locals, f3.Height, f3.Slots⟩ : A4) = f3 from rfl, Akl hf3, ANu]
        by_cases h24 : f3.Locals + f3.Height = 24
        ·rw [A3 h24, A3 h24]; rfl
        ·rw [A1 h24, A1 h24, CS (by omega)]; rfl) (fun f3 => by
        unfold DL
        dsimp only
        rw [A1 (by rw [A2]; omega)]) gives.length 0 f2 (by omega) hf2
       rw [show ((0 : Nat) : Int) = 0 from rfl, List.drop_zero] at this
       rw [this, ANu]
       rcases hq : K2 f2 gives with ⟨f3, x⟩
       by_cases hx0 : x = 0
       ·subst hx0; rfl
       ·dsimp only; rw [A1 hx0]
      by_cases h5' : i.Op.toNat = 5
      ·obtain ⟨h50, h51⟩ := hA (Or.inr h5')
       have hpn := hp.num
       rw [YN h5'] at hlen ⊢
       rw [A3 (by rw [A2]; exact h5'), A3 h5', show idx (C9 f ([254] : List UInt8).length) 0 = some (((C9 f ([254] : List UInt8).length)[0]?).getD 0) from GI (i := 0) (by omega) (by rw [hlen]; simp) 0, ANu, show idx g.Slots.toList i.A = some ((g.Slots.toList[i.A.toNat]?).getD 0) from GI h50 (by simp; omega) 0, ANu, ANu]
       exact hy (Qx g i.A (((C9 f ([254] : List UInt8).length)[0]?).getD 0)) (V8 hp _ h50 (by omega))
      ·rw [A1 (by rw [A2]; exact h5'), A1 h5', ANu]
       exact hy g hp
theorem Aai {e : AA} (h : DG e) {f : A4} (hf : Ic e.Classes f) (i : A9) : HU e f i = some (Gt e f i) := by
 have hb := hf.fb
 unfold HU
 rw [show (⟨e.Classes, e.AQ, e.Fn⟩ : AA) = e from rfl, show (⟨f.Locals, f.Height, f.Slots⟩ : A4) = f from rfl, show (⟨i.At, i.Op, i.A, i.B⟩ : A9) = i from rfl, Y8 e h, ANu, A1 (by simp), Qt hf, ANu, A1 (by simp), Ik, ANu]
 have e4 : ((i.Op.toNat : Int) == 4) = decide (i.Op.toNat = 4) := Cg _ 4
 have e5 : ((i.Op.toNat : Int) == 5) = decide (i.Op.toNat = 5) := Cg _ 5
 have ho : (if ((i.Op.toNat : Int) == 4) = true then some true else some ((i.Op.toNat : Int) == 5)) = some (decide (i.Op.toNat = 4 ∨ i.Op.toNat = 5)) := by
  rw [e4, e5]
  by_cases q : i.Op.toNat = 4
  ·rw [A3 (by rw [A2]; exact q), decide_eq_true (Or.inl q)]
  ·rw [A1 (by rw [A2]; exact q)]
   congr 1
   rw [decide_eq_decide]
   exact ⟨Or.inr, fun h => h.resolve_left q⟩
 unfold Gt
 by_cases h34 : i.Op.toNat < 34
 ·have hz : CV i.Op ≠ 0 := by unfold CV; rw [A1 (by omega)]; omega
  rw [A1 (by rw [AE]; omega), ho, ANu, A1 (show ¬ ¬ i.Op.toNat < 34 from fun q => q h34)]
  by_cases hloc : i.Op.toNat = 4 ∨ i.Op.toNat = 5
  ·rw [A3 (by rw [A2]; exact hloc)]
   by_cases hA : 0 ≤ i.A ∧ i.A < f.Locals
   ·rw [A1 (by rw [A2]; omega), A1 (by rw [A2]; omega), A1 (show ¬ ((i.Op.toNat = 4 ∨ i.Op.toNat = 5) ∧ ¬ (0 ≤ i.A ∧ i.A < f.Locals)) from fun q => q.2 hA), Y9 h i, ANu, WB (e := e) hloc, A1 (by simp), A1 (show ¬ (0 : Int) ≠ 0 from fun q => q rfl), Ve h hb i h34 (WB hloc) (fun _ => hA), ANu]
   ·rw [A3 (show ((i.Op.toNat = 4 ∨ i.Op.toNat = 5) ∧ ¬ (0 ≤ i.A ∧ i.A < f.Locals)) from ⟨hloc, hA⟩)]
    by_cases h1 : i.A < 0
    ·rw [A3 (by rw [A2]; exact h1)]
    ·rw [A1 (by rw [A2]; exact h1), A3 (by rw [A2]; omega)]
  ·rw [A1 (show ¬ ((i.Op.toNat = 4 ∨ i.Op.toNat = 5) ∧ ¬ (0 ≤ i.A ∧ i.A < f.Locals)) from fun q => hloc q.1), A1 (by rw [A2]; exact hloc), Y9 h i, ANu]
   by_cases h0 : D7 e i = 0
   ·rw [A1 (show ¬ D7 e i ≠ 0 from fun q => q h0), A1 (by rw [AW]; exact fun q => q h0), Ve h hb i h34 h0 (fun q => absurd q hloc), ANu]
   ·rw [A3 (show D7 e i ≠ 0 from h0), A3 (by rw [AW]; exact h0)]
 ·have hz : CV i.Op = 0 := by unfold CV; rw [A3 (by omega)]
  rw [A3 (by rw [hz]; rfl), A3 h34]
theorem Xd {e : AA} (h : DG e) {f : A4} (hf : Ic e.Classes f) (i : A9) (h0 : D7 e i = 0) {had : List UInt8} (hh : ∀ t ∈ had, tv e.Classes t = true) : ∀ t ∈ JU e f i had, tv e.Classes t = true := by
 have h32 := h.good.few
 have tl : ∀ k, k ≤ 5 → tv e.Classes (UInt8.ofNat k) = true := by
  intro k hk
  unfold tv
  have : (UInt8.ofNat k).toNat = k := by simp; omega
  rw [this, decide_eq_true hk, Bool.true_or]
 have hget : ∀ k : Nat, tv e.Classes ((had[k]?).getD 0) = true := by
  intro k
  rcases hx : had[k]? with _ | x
  ·exact MB _
  ·exact hh x (APf hx)
 unfold JU
 split
 ·intro t ht
  rw [AN8] at ht
  subst ht
  unfold LQ
  rcases hx : f.Slots.toList[i.A.toNat]? with _ | x
  ·exact MB _
  ·have := (N2 _ _).2 hf.all
   rw [List.all_eq_true] at this
   exact this x (APf hx)
 ·split
  ·intro t ht
   have : t = (had[0]?).getD 0 := by simpa using ht
   rw [this]; exact hget 0
  ·split
   ·intro t ht
    have : t = (had[1]?).getD 0 ∨ t = (had[0]?).getD 0 := by simpa using ht
    rcases this with q | q <;> (rw [q]; exact hget _)
   ·rename_i n4 n7 n8
    unfold IV
    unfold D7 at h0
    split
    any_goals (intro t ht; rw [AN8] at ht; subst ht; first | exact tl 1 (by omega) | exact tl 2 (by omega) | exact tl 3 (by omega) | exact tl 4 (by omega))
    any_goals (rename_i q; omega)
    ·rename_i q
     rw [A3 q] at h0
     intro t ht
     unfold Kc at ht
     by_cases ha : 0 ≤ i.A ∧ i.A < e.AQ.length
     ·have hm := (SN h (TO ha.1 ha.2)).2.2
      split at ht
      ·cases ht
      ·rename_i q2
       rw [AN8] at ht
       subst ht
       exact (UE h32 (hm.resolve_left q2)).2.2.2
     ·rw [A1 ha] at h0; cases h0
    ·rename_i q
     rw [A1 (by omega), A3 (by omega)] at h0
     intro t ht
     rw [AN8] at ht
     subst ht
     by_cases ha : 0 ≤ i.A ∧ i.A < e.Classes.length
     ·exact (TS h32 ha.1 ha.2).2.2
     ·rw [A1 ha] at h0; cases h0
    ·rename_i q
     rw [A1 (by omega), A3 (by omega)] at h0
     intro t ht
     rw [AN8] at ht
     subst ht
     by_cases ha : 0 ≤ i.A ∧ i.A < e.Classes.length
     ·exact (TS h32 ha.1 ha.2).2.2
     ·rw [A1 ha] at h0; cases h0
    ·rename_i q
     rw [A1 (by omega), A1 (by omega), A3 (by omega)] at h0
     intro t ht
     unfold Kc at ht
     by_cases ha : 0 ≤ i.A ∧ i.A < e.Classes.length ∧ 0 ≤ i.B ∧ i.B < (Cz e.Classes i.A).length
     ·obtain ⟨x, hx1, hx2, hx3⟩ := UB (e := e) ha.2.2.1 ha.2.2.2
      split at ht
      ·cases ht
      ·rw [AN8] at ht
       subst ht
       rw [hx2]
       exact (UE h32 (UO h.good ha.2.1 hx3)).2.2.2
     ·rw [A1 ha] at h0; cases h0
    ·intro t ht; cases ht
theorem Pj {e : AA} (h : DG e) {f : A4} (hf : Ic e.Classes f) (i : A9) (ho : (Gt e f i).2 = 0) : Ic e.Classes (Gt e f i).1 ∧ i.Op.toNat < 34 ∧ D7 e i = 0 := by
 have hb := hf.fb
 unfold Gt at *
 by_cases h34 : i.Op.toNat < 34
 ·rw [A1 (show ¬ ¬ i.Op.toNat < 34 from fun q => q h34)] at ho ⊢
  by_cases hloc : (i.Op.toNat = 4 ∨ i.Op.toNat = 5) ∧ ¬ (0 ≤ i.A ∧ i.A < f.Locals)
  ·rw [A3 hloc] at ho; cases ho
  ·rw [A1 hloc] at ho ⊢
   by_cases h0 : D7 e i = 0
   ·rw [A1 (show ¬ D7 e i ≠ 0 from fun q => q h0)] at ho ⊢
    by_cases hH : f.Height < (B7 e i).length
    ·rw [A3 hH] at ho; cases ho
    ·rw [A1 hH] at ho ⊢
     by_cases hk : okV e i (C9 f (B7 e i).length) = false
     ·rw [A3 hk] at ho; cases ho
     ·rw [A1 hk] at ho ⊢
      by_cases hl : i.Op.toNat = 4 ∧ (LQ f i).toNat = 0
      ·rw [A3 hl] at ho; cases ho
      ·rw [A1 hl] at ho ⊢
       refine ⟨?_, h34, h0⟩
       have hlen := OZ hb (n := (B7 e i).length) (by omega)
       have hall : ∀ t ∈ C9 f (B7 e i).length, tv e.Classes t = true := Ad7 hf.all
       unfold TZ at *
       by_cases h22 : i.Op.toNat = 22 ∧ (E7 f (C9 f (B7 e i).length).length).Height > 0
       ·rw [A3 h22] at ho; cases ho
       ·rw [A1 h22] at ho ⊢
        have hp := SJ hb (C9 f (B7 e i).length).length (by omega)
        have hpa := An5 hf.all (C9 f (B7 e i).length).length
        have hpL : (E7 f (C9 f (B7 e i).length).length).Locals = f.Locals := by unfold E7 EQ; dsimp only
        by_cases h5 : i.Op.toNat = 5
        ·rw [A3 h5] at ho ⊢
         have hA : 0 ≤ i.A ∧ i.A < f.Locals := Classical.not_not.1 fun q => hloc ⟨Or.inr h5, q⟩
         refine Ua _ _ (V8 hp _ hA.1 (by omega)) (Apo hpa ?_ hA.1) (Xd h hf i h0 hall) ho
         rcases hx : (C9 f (B7 e i).length)[0]? with _ | x
         ·exact MB _
         ·exact hall x (APf hx)
        ·rw [A1 h5] at ho ⊢
         exact Ua _ _ hp hpa (Xd h hf i h0 hall) ho
   ·rw [A3 (show D7 e i ≠ 0 from h0)] at ho
    exact absurd ho h0
 ·rw [A3 h34] at ho; cases ho
end Go.Proofs.YtfcpkcehecmcpaaGreat
namespace Go.Proofs.YtfcpkcehecmcpaaGreat
open Go Go.RowKit Go.Pv
theorem LI : ∀ {l m : List Int}, l.Pairwise (· < ·) → m.Pairwise (· < ·) → (∀ a, a ∈ l ↔ a ∈ m) → l = m
 | [], [], _, _, _ => rfl
 | [], b :: m, _, _, h => absurd ((h b).2 (by simp)) (by simp)
 | a :: l, [], _, _, h => absurd ((h a).1 (by simp)) (by simp)
 | a :: l, b :: m, h1, h2, h => by
  rw [APi] at h1 h2
  have hab : a = b := by
   have h3 := (h a).1 (by simp)
   have h4 := (h b).2 (by simp)
   rw [AN9] at h3 h4
   rcases h3 with h3 | h3
   ·exact h3
   ·rcases h4 with h4 | h4
    ·exact h4.symm
    ·have := h2.1 a h3
     have := h1.1 b h4
     omega
  subst hab
  congr 1
  refine LI h1.2 h2.2 fun x => ?_
  constructor
  ·intro hx
   have := (h x).1 (List.mem_cons_of_mem _ hx)
   rw [AN9] at this
   rcases this with q | q
   ·have := h1.1 x hx; omega
   ·exact q
  ·intro hx
   have := (h x).2 (List.mem_cons_of_mem _ hx)
   rw [AN9] at this
   rcases this with q | q
   ·have := h2.1 x hx; omega
   ·exact q
theorem ME (l : List Int) (a : Int) : a ∈ Ep l ↔ a ∈ l := by unfold Ep; exact (List.mergeSort_perm _ _).mem_iff
theorem NY (l : List Int) : (Ep l).length = l.length := by unfold Ep; exact (List.mergeSort_perm _ _).length_eq
theorem Si (l : List Int) : (Ep l).Pairwise (· ≤ ·) := by
 unfold Ep
 have := List.pairwise_mergeSort (le := fun x y : Int => decide (x ≤ y)) (fun a b c h1 h2 => by simp at *; omega) (fun a b => by simp; omega) l
 simpa using this
theorem Pr : ∀ {l : List Int}, l.Pairwise (· ≤ ·) → l.Nodup → l.Pairwise (· < ·)
 | [], _, _ => List.Pairwise.nil
 | a :: l, h, hn => by
  rw [APi] at h ⊢
  rw [List.nodup_cons] at hn
  refine ⟨fun b hb => ?_, Pr h.2 hn.2⟩
  have h1 := h.1 b hb
  have h2 : a ≠ b := by rintro rfl; exact hn.1 hb
  omega
theorem Mm {l : List Int} (h : l.Nodup) : (Ep l).Pairwise (· < ·) :=
 Pr (Si l) (by unfold Ep; exact (List.mergeSort_perm _ _).nodup_iff.2 h)
theorem Sf (l : List Int) (hs : l.Pairwise (· ≤ ·)) : ∀ m, m ≤ l.length → (Lib.compactUpTo l.toArray m).Pairwise (· < ·) ∧ ∀ a, a ∈ Lib.compactUpTo l.toArray m ↔ a ∈ l.take m
 | 0, _ => by simp [Lib.compactUpTo]
 | m + 1, hm => by
  obtain ⟨h1, h2⟩ := Sf l hs m (by omega)
  have hm' : m < l.length := by omega
  have hget : l.toArray[m]! = l[m] := by simp [getElem!_pos, hm']
  rw [Lib.compactUpTo_succ, hget]
  have hle : ∀ i j (hi : i < l.length) (hj : j < l.length), i ≤ j → l[i] ≤ l[j] := by
   intro i j hi hj hij
   rcases Nat.lt_or_ge i j with q | q
   ·exact List.pairwise_iff_getElem.1 hs i j hi hj q
   ·have : i = j := by omega
    subst this
    exact Int.le_refl _
  have hmem : ∀ x, x ∈ l.take (m + 1) ↔ x ∈ l.take m ∨ x = l[m] := by
   intro x
   rw [List.take_succ_eq_append_getElem hm', AN7, AN8]
  by_cases hk : Lib.keeps l.toArray m = true
  ·rw [A3 hk]
   refine ⟨?_, fun a => ?_⟩
   ·rw [APe]
    refine ⟨h1, List.pairwise_singleton _ _, fun a ha b hb => ?_⟩
    rw [AN8] at hb
    subst hb
    have ha' := (h2 a).1 ha
    obtain ⟨i, hi, rfl⟩ := List.mem_iff_getElem.1 ha'
    rw [AN6] at hi
    rw [APj]
    unfold Lib.keeps at hk
    rw [A2] at hk
    have hm0 : m ≠ 0 := by omega
    have hne := hk.resolve_left hm0
    have hget1 : l.toArray[m - 1]! = l[m - 1] := by simp [getElem!_pos, show m - 1 < l.length by omega]
    rw [hget, hget1] at hne
    have q1 := hle i (m - 1) (by omega) (by omega) (by omega)
    have q2 := hle (m - 1) m (by omega) hm' (by omega)
    omega
   ·rw [AN7, AN8, h2, hmem]
  ·rw [A1 hk]
   rw [AO9]
   refine ⟨h1, fun a => ?_⟩
   rw [h2, hmem]
   constructor
   ·exact Or.inl
   ·rintro (q | q)
    ·exact q
    ·unfold Lib.keeps at hk
     rw [A2, not_or, Classical.not_not] at hk
     obtain ⟨hm0, heq⟩ := hk
     have hget1 : l.toArray[m - 1]! = l[m - 1] := by simp [getElem!_pos, show m - 1 < l.length by omega]
     rw [hget, hget1] at heq
     rw [q, heq]
     rw [List.mem_iff_getElem]
     exact ⟨m - 1, by rw [AN6]; omega, by rw [APj]⟩
theorem PW (l : List Int) (h : l.length ≤ 1099511627776) : ∃ r, (OC l).bind Mv = some r ∧ r.Pairwise (· < ·) ∧ ∀ a, a ∈ r ↔ a ∈ l := by
 refine ⟨Lib.compact (Ep l), ?_, ?_⟩
 ·unfold OC
  rw [A3 (by omega), ANu]
  unfold Mv
  rw [A3 (by rw [NY]; omega)]
 ·obtain ⟨h1, h2⟩ := Sf (Ep l) (Si l) (Ep l).length (Nat.le_refl _)
  refine ⟨h1, fun a => ?_⟩
  have := h2 a
  rw [APk, ME] at this
  exact this
theorem Kn {κ ν : Type} [DecidableEq κ] (k k' : κ) (v : ν) : ∀ l : List (κ × ν), Cd (Da l k v) k' = if k' = k then some v else Cd l k'
 | [] => by
  unfold Da Cd
  split <;> simp_all [Cd]
 | p :: r => by
  have ih := Kn k k' v r
  unfold Da
  by_cases h : k = p.1
  ·rw [A3 h]
   unfold Cd
   dsimp only
   rw [← h]
   by_cases h' : k' = k
   ·rw [A3 h', A3 h']
   ·rw [A1 h', A1 h', A1 h']
  ·rw [A1 h]
   unfold Cd
   rw [ih]
   by_cases h' : k' = p.1
   ·rw [A3 h', A1 (by intro q; exact h (q ▸ h')), A3 h']
   ·rw [A1 h', A1 h']
theorem JC {κ ν : Type} [DecidableEq κ] (k : κ) : ∀ l : List (κ × ν), (Cd l k).isSome = true ↔ k ∈ l.map Prod.fst
 | [] => by simp [Cd]
 | p :: r => by
  have ih := JC k r
  unfold Cd
  rw [List.map_cons, AN9]
  by_cases h : k = p.1
  ·rw [A3 h]; simp [h]
  ·rw [A1 h, ih]; simp [h]
theorem Wj {κ ν : Type} [DecidableEq κ] (k : κ) : ∀ l : List (κ × ν), ((I5 l k).map Prod.fst) = (l.map Prod.fst).erase k
 | [] => rfl
 | p :: r => by
  have ih := Wj k r
  unfold I5
  by_cases h : k = p.1
  ·rw [A3 h, List.map_cons, ← h, List.erase_cons_head]
  ·rw [A1 h, List.map_cons, List.map_cons, List.erase_cons_tail (by simp; exact fun q => h q.symm), ih]
theorem Zq {κ ν : Type} [DecidableEq κ] {l : List (κ × ν)} (h : (l.map Prod.fst).Nodup) (k : κ) : ((I5 l k).map Prod.fst).Nodup := by rw [Wj]; exact h.erase k
theorem VQ {κ ν : Type} [DecidableEq κ] (k k' : κ) : ∀ l : List (κ × ν), (l.map Prod.fst).Nodup → Cd (I5 l k) k' = if k' = k then none else Cd l k'
 | [], _ => by unfold I5 Cd; split <;> rfl
 | p :: r, h => by
  rw [List.map_cons, List.nodup_cons] at h
  have ih := VQ k k' r h.2
  unfold I5
  by_cases hk : k = p.1
  ·rw [A3 hk]
   by_cases h' : k' = k
   ·rw [A3 h']
    rcases hx : Cd r k' with _ | v
    ·rfl
    ·have := (JC k' r).1 (by rw [hx]; rfl)
     rw [h', hk] at this
     exact absurd this h.1
   ·rw [A1 h']
    conv => rhs; unfold Cd
    rw [A1 (by rw [← hk]; exact h')]
  ·rw [A1 hk]
   unfold Cd
   rw [ih]
   by_cases h' : k' = p.1
   ·rw [A3 h', A1 (by rintro rfl; exact hk h'), A3 h']
   ·rw [A1 h', A1 h']
theorem Apc {κ ν : Type} [DecidableEq κ] (l : List (κ × ν)) (k : κ) (v : ν) : (Da l k v).length ≤ l.length + 1 := by
 induction l with
 | nil => simp [Da]
 | cons p r ih =>
  unfold Da
  split
  ·simp
  ·simp; omega
theorem Abh (l : List (Int × Unit)) (n : Int) : ∃ r, NT FX l n = some (.inl r) ∧ (r = n ∨ r ∈ l.map Prod.fst) ∧ r ≤ n ∧ ∀ k ∈ l.map Prod.fst, r ≤ k := by
 have key : ∀ (l : List (Int × Unit)) (n : Int), ∃ r, LW FX l n = some (.inl r) ∧ (r = n ∨ r ∈ l.map Prod.fst) ∧ r ≤ n ∧ ∀ k ∈ l.map Prod.fst, r ≤ k := by
  intro l
  induction l with
  | nil => intro n; exact ⟨n, rfl, Or.inl rfl, Int.le_refl _, fun k hk => by cases hk⟩
  | cons p l ih =>
   intro n
   unfold LW FX
   dsimp only
   obtain ⟨r, h1, h2, h3, h4⟩ := ih (if p.1 < n then p.1 else n)
   refine ⟨r, h1, ?_, ?_, ?_⟩
   ·rcases h2 with q | q
    ·rw [List.map_cons, AN9]
     by_cases hp : p.1 < n
     ·rw [A3 hp] at q; exact Or.inr (Or.inl q)
     ·rw [A1 hp] at q; exact Or.inl q
    ·exact Or.inr (by rw [List.map_cons, AN9]; exact Or.inr q)
   ·by_cases hp : p.1 < n
    ·rw [A3 hp] at h3; omega
    ·rw [A1 hp] at h3; omega
   ·intro k hk
    rw [List.map_cons, AN9] at hk
    rcases hk with q | q
    ·subst q
     by_cases hp : p.1 < n
     ·rw [A3 hp] at h3; omega
     ·rw [A1 hp] at h3; omega
    ·exact h4 k q
 obtain ⟨r, h1, h2, h3, h4⟩ := key l n
 refine ⟨r, QJ.2 fun l' hp => ?_, h2, h3, h4⟩
 obtain ⟨r', g1, g2, g3, g4⟩ := key l' n
 have hm : ∀ k, k ∈ l'.map Prod.fst ↔ k ∈ l.map Prod.fst := fun k => (hp.map _).mem_iff
 have : r' = r := by
  have a1 : r ≤ r' := by
   rcases g2 with q | q
   ·omega
   ·exact h4 _ ((hm _).1 q)
  have a2 : r' ≤ r := by
   rcases h2 with q | q
   ·omega
   ·exact g4 _ ((hm _).2 q)
  omega
 rw [g1, this]
end Go.Proofs.YtfcpkcehecmcpaaGreat
namespace Go.Proofs.YtfcpkcehecmcpaaGreat
open Go Go.RowKit Go.Pv
def upd {α : Type} (f : Nat → α) (a : Nat) (x : α) : Nat → α := fun b => if b = a then x else f b
theorem EP {α : Type} (f : Nat → α) (a : Nat) (x : α) : upd f a x a = x := A3 rfl
theorem upd_ne {α : Type} (f : Nat → α) {a b : Nat} (x : α) (h : b ≠ a) : upd f a x b = f b := A1 h
structure St where
 fr : Nat → Option A4
 new : Nat → Bool
 tk : Nat → Nat
def Hq (op : UInt8) : Bool := decide (op.toNat = 19) || decide (op.toNat = 20)
def I2 (op : UInt8) : Bool := decide (op.toNat = 19) || (decide (op.toNat = 22) || decide (op.toNat = 32))
def BC (code : List UInt8) (a : Nat) : A9 × Int := match code[a]? with
 | none => (⟨0, 0, 0, 0⟩, 51)
 | some op => dec code a op
def Ci (i : A9) : List Nat :=
 (if Hq i.Op = true ∧ (I2 i.Op = true ∨ i.A < i.At + CV i.Op) then [i.A.toNat] else []) ++ (if I2 i.Op = true then [] else [(i.At + CV i.Op).toNat]) ++ (if Hq i.Op = true ∧ I2 i.Op = false ∧ i.A > i.At + CV i.Op then [i.A.toNat] else [])
def K3 (i : A9) (n : Nat) : List Nat × Int :=
 if Hq i.Op = true ∧ i.A ≥ n then ([], 50) else if I2 i.Op = false ∧ i.At + CV i.Op = n then ([], 51) else (Ci i, 0)
open Classical in
noncomputable def Fv (l : List A6) (s : St) (a : Nat) (f : A4) : St × Int := match s.fr a with
 | none => (⟨upd s.fr a (some f), upd s.new a true, s.tk⟩, 0)
 | some g => if (ED l g f).2 ≠ 0 then (s, (ED l g f).2) else if (ED l g f).1 = g then (s, 0) else (⟨upd s.fr a (some (ED l g f).1), upd s.new a true, s.tk⟩, 0)
noncomputable def EO (l : List A6) (f : A4) : St → List Nat → Int × Int × St
 | s, [] => (0, 0, s)
 | s, a :: r => if (Fv l s a f).2 ≠ 0 then (a, (Fv l s a f).2, (Fv l s a f).1) else EO l f (Fv l s a f).1 r
def Jg (s : St) (n a size : Nat) : Bool := (List.range (n + 1)).any fun x => decide (0 < s.tk x ∧ x ≠ a ∧ a < x + s.tk x ∧ x < a + size)
def off (s : St) (a : Nat) : St := ⟨s.fr, upd s.new a false, s.tk⟩
def lay (s : St) (a k : Nat) : St := ⟨s.fr, s.new, upd s.tk a k⟩
noncomputable def Ek (e : AA) (code : List UInt8) (s : St) (a : Nat) : Int × Int × St :=
 if (BC code a).2 ≠ 0 then (a, (BC code a).2, off s a)
 else if Jg (off s a) code.length a (CV (BC code a).1.Op) = true then (a, 80, off s a)
 else if (Gt e ((s.fr a).getD zf) (BC code a).1).2 ≠ 0 then (a, (Gt e ((s.fr a).getD zf) (BC code a).1).2, lay (off s a) a (CV (BC code a).1.Op))
 else if (K3 (BC code a).1 code.length).2 ≠ 0 then (a, (K3 (BC code a).1 code.length).2, lay (off s a) a (CV (BC code a).1.Op))
 else EO e.Classes (Gt e ((s.fr a).getD zf) (BC code a).1).1 (lay (off s a) a (CV (BC code a).1.Op)) (K3 (BC code a).1 code.length).1
def KY (s : St) (n : Nat) : Option Nat := (List.range (n + 1)).find? s.new
noncomputable def Ue (e : AA) (code : List UInt8) : Nat → St → Option (Int × Int × St)
 | 0, _ => none
 | k + 1, s => match KY s code.length with
  | none => some (0, 0, s)
  | some a => if (Ek e code s a).2.1 ≠ 0 then some (Ek e code s a) else Ue e code k (Ek e code s a).2.2
structure LZ (l : List A6) (f g : A4) : Prop where
 loc : f.Locals = g.Locals
 hgt : f.Height = g.Height
 le : ∀ j (h : j < 24), Le l f.Slots[j] g.Slots[j]
theorem LZ.refl {l : List A6} {f : A4} (h : Ic l f) : LZ l f f := ⟨rfl, rfl, fun j hj => Le.refl (h.all j hj)⟩
theorem Le.trans {l : List A6} (G : Good l) {a b c : UInt8} (h : Le l a b) (h' : Le l b c) : Le l a c := by
 have ha := h.1
 have hb := h.2.1
 have hc := h'.2.1
 rw [le_iff hb hc] at h'
 rw [le_iff ha hb] at h
 rw [le_iff ha hc]
 rcases h with rfl | h | h | h | h
 ·exact h'
 ·rcases h' with rfl | h' | h' | h' | h'
  ·exact Or.inr (Or.inl h)
  ·exact Or.inr (Or.inl h')
  ·omega
  ·exact absurd h'.1 (by unfold rf; simp [h])
  ·omega
 ·rcases h' with rfl | h' | h' | h' | h'
  ·exact Or.inr (Or.inr (Or.inl h))
  ·exact Or.inr (Or.inl h')
  ·exact Or.inr (Or.inr (Or.inl ⟨h.1, h'.2⟩))
  ·exact Or.inr (Or.inr (Or.inl ⟨h.1, by unfold rf; simp [h'.2]⟩))
  ·exact Or.inr (Or.inr (Or.inl ⟨h.1, by rw [Lx]; omega⟩))
 ·rcases h' with rfl | h' | h' | h' | h'
  ·exact Or.inr (Or.inr (Or.inr (Or.inl h)))
  ·exact Or.inr (Or.inl h')
  ·omega
  ·exact Or.inr (Or.inr (Or.inr (Or.inl ⟨h.1, h'.2⟩)))
  ·omega
 ·rcases h' with rfl | h' | h' | h' | h'
  ·exact Or.inr (Or.inr (Or.inr (Or.inr h)))
  ·exact Or.inr (Or.inl h')
  ·omega
  ·exact Or.inr (Or.inr (Or.inr (Or.inl ⟨by rw [Lx]; omega, h'.2⟩)))
  ·refine Or.inr (Or.inr (Or.inr (Or.inr ⟨h.1, h'.2.1, ?_⟩)))
   have hx := (LY ha h.1).2
   exact X1 G.right (a.toNat - 16 + 1) ((a.toNat - 16 : Nat) : Int) (by omega) (by omega) (by omega) _ h.2.2 _ h'.2.2
theorem LZ.trans {l : List A6} (G : Good l) {f g h : A4} (h1 : LZ l f g) (h2 : LZ l g h) : LZ l f h := ⟨h1.loc.trans h2.loc, h1.hgt.trans h2.hgt, fun j hj => (h1.le j hj).trans G (h2.le j hj)⟩
theorem Z3 {l : List A6} (G : Good l) {f g : A4} (hf : Ic l f) (hg : Ic l g) (h : (ED l f g).2 = 0) : Ic l (ED l f g).1 ∧ LZ l f (ED l f g).1 ∧ LZ l g (ED l f g).1 := by
 unfold ED at *
 by_cases h1 : f.Locals = g.Locals ∧ f.Height = g.Height
 ·rw [A3 h1]
  have hl := fun j (hj : j < 24) => VZ l G (hf.all j hj) (hg.all j hj)
  have key : ∀ j (hj : j < 24), Le l f.Slots[j] (PY l f g (f.Locals + f.Height).toNat)[j] ∧ Le l g.Slots[j] (PY l f g (f.Locals + f.Height).toNat)[j] := by
   intro j hj
   rw [LC _ _ _ _ _ hj]
   split
   ·exact ⟨(hl j hj).left, (hl j hj).right⟩
   ·rename_i q
    have e1 := hf.bare j hj (by omega)
    have e2 := hg.bare j hj (by rw [← h1.1, ← h1.2]; omega)
    rw [e1, e2]
    exact ⟨Le.refl (MB l), Le.refl (MB l)⟩
  refine ⟨⟨hf.shp, fun j hj hle => ?_, fun j hj => (key j hj).1.2.1⟩, ⟨rfl, rfl, fun j hj => (key j hj).1⟩, ⟨h1.1.symm, h1.2.symm, fun j hj => (key j hj).2⟩⟩
  dsimp only at *
  rw [LC _ _ _ _ _ hj, A1 (by omega)]
  exact hf.bare j hj hle
 ·rw [A1 h1] at h; cases h
def rk (l : List A6) (t : UInt8) : Nat := ((List.range 256).filter fun u => decide (Le l t (UInt8.ofNat u))).length
theorem filter_le {α : Type} {p q : α → Bool} : ∀ {L : List α}, (∀ x ∈ L, p x = true → q x = true) → (L.filter p).length ≤ (L.filter q).length
 | [], _ => by simp
 | b :: L, h => by
  have ih := filter_le (p := p) (q := q) (L := L) (fun x hx => h x (by simp [hx]))
  have hb := h b (by simp)
  rcases hp : p b with _ | _
  ·rcases hq : q b with _ | _
   ·simp only [AO7, hp, hq, if_true, Bool.false_eq_true, if_false, APb]; omega
   ·simp only [AO7, hp, hq, if_true, Bool.false_eq_true, if_false, APb]; omega
  ·simp only [AO7, hp, hb hp, if_true, Bool.false_eq_true, if_false, APb]; omega
theorem filter_lt {α : Type} {p q : α → Bool} : ∀ {L : List α}, (∀ x ∈ L, p x = true → q x = true) → (∃ x ∈ L, q x = true ∧ p x = false) → (L.filter p).length < (L.filter q).length
 | [], _, h => by obtain ⟨x, hx, _⟩ := h; cases hx
 | a :: L, h, hx => by
  have hle := filter_le (p := p) (q := q) (L := L) (fun x hx => h x (by simp [hx]))
  obtain ⟨x, hx, hq, hp⟩ := hx
  rw [AN9] at hx
  rcases hx with rfl | hx
  ·simp only [AO7, hp, hq, if_true, Bool.false_eq_true, if_false, APb]; omega
  ·have ih := filter_lt (p := p) (q := q) (L := L) (fun x hx => h x (by simp [hx])) ⟨x, hx, hq, hp⟩
   have ha := h a (by simp)
   rcases hpa : p a with _ | _
   ·rcases hqa : q a with _ | _
    ·simp only [AO7, hpa, hqa, if_true, Bool.false_eq_true, if_false, APb]; omega
    ·simp only [AO7, hpa, hqa, if_true, Bool.false_eq_true, if_false, APb]; omega
   ·simp only [AO7, hpa, ha hpa, if_true, Bool.false_eq_true, if_false, APb]; omega
theorem AI7 (l : List A6) (t : UInt8) : rk l t ≤ 256 := by
 unfold rk
 refine Nat.le_trans (APg _ _) ?_
 rw [APh]
 exact Nat.le_refl _
theorem A75 {l : List A6} (G : Good l) {a b : UInt8} (h : Le l a b) : rk l b ≤ rk l a := by
 unfold rk
 refine filter_le fun x _ hx => ?_
 rw [A2] at *
 exact h.trans G hx
theorem AGv {l : List A6} (G : Good l) {a b : UInt8} (h : Le l a b) (hne : a ≠ b) : rk l b < rk l a := by
 unfold rk
 refine filter_lt (fun x _ hx => ?_) ⟨a.toNat, ?_, ?_, ?_⟩
 ·rw [A2] at *
  exact h.trans G hx
 ·rw [AOx]; exact a.toNat_lt
 ·rw [A2, UInt8.ofNat_toNat]
  exact Le.refl h.1
 ·rw [decide_eq_false_iff_not, UInt8.ofNat_toNat]
  exact fun q => hne (h.antisymm G q)
def Ht (n : Nat) (F : Nat → Nat) : Nat := match n with
 | 0 => 0
 | n + 1 => Ht n F + F n
theorem VF {F G : Nat → Nat} : ∀ {n : Nat}, (∀ i, i < n → F i ≤ G i) → Ht n F ≤ Ht n G
 | 0, _ => Nat.le_refl _
 | n + 1, h => by
  have := VF (F := F) (G := G) (n := n) fun i hi => h i (by omega)
  have := h n (by omega)
  simp only [Ht]
  omega
theorem Vv {F G : Nat → Nat} : ∀ {n : Nat}, (∀ i, i < n → F i ≤ G i) → (∃ i, i < n ∧ F i < G i) → Ht n F < Ht n G
 | 0, _, h => by obtain ⟨i, hi, _⟩ := h; omega
 | n + 1, h, hx => by
  obtain ⟨i, hi, hl⟩ := hx
  simp only [Ht]
  by_cases hin : i = n
  ·subst hin
   have := VF (F := F) (G := G) (n := i) fun j hj => h j (by omega)
   omega
  ·have := Vv (F := F) (G := G) (n := n) (fun j hj => h j (by omega)) ⟨i, by omega, hl⟩
   have := h n (by omega)
   omega
theorem Qu {F : Nat → Nat} {k : Nat} : ∀ {n : Nat}, (∀ i, i < n → F i ≤ k) → Ht n F ≤ n * k
 | 0, _ => by simp [Ht]
 | n + 1, h => by
  have := Qu (F := F) (k := k) (n := n) fun i hi => h i (by omega)
  have := h n (by omega)
  simp only [Ht]
  rw [Nat.succ_mul]
  omega
def rkF (l : List A6) (f : A4) : Nat := Ht 24 fun j => rk l ((f.Slots.toList[j]?).getD 0)
theorem Qs (f : A4) {j : Nat} (h : j < 24) : (f.Slots.toList[j]?).getD 0 = f.Slots[j] := by
 rw [ANx (by simpa using h), ANv, Vector.getElem_toList]
theorem AAf (l : List A6) (f : A4) : rkF l f ≤ 6144 := Qu (k := 256) (n := 24) fun j _ => AI7 l _
theorem AFu {l : List A6} (G : Good l) {f g : A4} (h : LZ l f g) (hne : g ≠ f) : rkF l g < rkF l f := by
 refine Vv (fun j hj => ?_) ?_
 ·rw [Qs f hj, Qs g hj]
  exact A75 G (h.le j hj)
 ·have hs : ¬ ∀ j (hj : j < 24), f.Slots[j] = g.Slots[j] := by
   intro q
   apply hne
   obtain ⟨L, H, S⟩ := f
   obtain ⟨L', H', S'⟩ := g
   have e1 := h.loc
   have e2 := h.hgt
   have e3 : S = S' := Vector.ext fun j hj => q j hj
   dsimp only at e1 e2
   rw [e1, e2, e3]
  have hs : ∃ j, ∃ hj : j < 24, f.Slots[j] ≠ g.Slots[j] := by
   refine Classical.byContradiction fun q => hs fun j hj => ?_
   exact Classical.byContradiction fun q2 => q ⟨j, hj, q2⟩
  obtain ⟨j, hj, hne'⟩ := hs
  refine ⟨j, hj, ?_⟩
  rw [Qs f hj, Qs g hj]
  exact AGv G (h.le j hj) hne'
def Ze : Bool → Nat
 | true => 1
 | false => 0
def frN (l : List A6) : Option A4 → Nat
 | none => 6145
 | some f => rkF l f
def nu (l : List A6) (s : St) (a : Nat) : Nat := 2 * frN l (s.fr a) + Ze (s.new a)
def mu (l : List A6) (n : Nat) (s : St) : Nat := Ht (n + 1) (nu l s)
end Go.Proofs.YtfcpkcehecmcpaaGreat
namespace Go.Proofs.YtfcpkcehecmcpaaGreat
open Go Go.RowKit Go.Pv
theorem JM {code : List UInt8} {a : Nat} (h : (BC code a).2 = 0) : a < code.length ∧ (BC code a).1.At = a ∧ 0 < CV (BC code a).1.Op ∧ a + CV (BC code a).1.Op ≤ code.length ∧ code[a]? = some (BC code a).1.Op := by
 unfold BC at *
 rcases hc : code[a]? with _ | op
 ·rw [hc] at h; cases h
 ·rw [hc] at h
  have ha : a < code.length := (List.getElem?_eq_some_iff.1 hc).1
  dsimp only at *
  unfold dec at *
  by_cases h0 : CV op = 0
  ·rw [A3 h0] at h; cases h
  ·rw [A1 h0] at h ⊢
   by_cases h1 : code.length < a + CV op
   ·rw [A3 h1] at h; cases h
   ·rw [A1 h1] at h ⊢
    dsimp only at *
    split at h
    ·cases h
    ·rename_i q
     rw [A1 q]
     dsimp only
     exact ⟨ha, rfl, by omega, by omega, rfl⟩
theorem S8 {i : A9} {n a : Nat} (hA : i.At = a) (hs : a + CV i.Op ≤ n) (hn : 0 < n) (h : (K3 i n).2 = 0) : (K3 i n).1 = Ci i ∧ ∀ t ∈ Ci i, t < n := by
 unfold K3 at *
 by_cases h1 : Hq i.Op = true ∧ i.A ≥ n
 ·rw [A3 h1] at h; cases h
 ·rw [A1 h1] at h ⊢
  by_cases h2 : I2 i.Op = false ∧ i.At + CV i.Op = n
  ·rw [A3 h2] at h; cases h
  ·rw [A1 h2]
   refine ⟨rfl, fun t ht => ?_⟩
   unfold Ci at ht
   rw [AN7, AN7] at ht
   rcases ht with (ht | ht) | ht
   ·split at ht
    ·rename_i q
     rw [AN8] at ht
     subst ht
     have : ¬ i.A ≥ n := fun q2 => h1 ⟨q.1, q2⟩
     omega
    ·cases ht
   ·split at ht
    ·cases ht
    ·rename_i q
     rw [AN8] at ht
     subst ht
     have : ¬ i.At + CV i.Op = n := fun q2 => h2 ⟨by simpa using q, q2⟩
     omega
   ·split at ht
    ·rename_i q
     rw [AN8] at ht
     subst ht
     have : ¬ i.A ≥ n := fun q2 => h1 ⟨q.1, q2⟩
     omega
    ·cases ht
structure AFc (e : AA) (code : List UInt8) (s : St) (a : Nat) (f : A4) : Prop where
 ins : (BC code a).2 = 0
 app : (Gt e f (BC code a).1).2 = 0
 on : (K3 (BC code a).1 code.length).2 = 0
 tk : s.tk a = CV (BC code a).1.Op
 nx : ∀ t ∈ Ci (BC code a).1, ∃ h, s.fr t = some h ∧ LZ e.Classes (Gt e f (BC code a).1).1 h
structure MX (e : AA) (code : List UInt8) (st0 : A4) (s : St) : Prop where
 fok : ∀ a f, s.fr a = some f → Ic e.Classes f
 dom : ∀ a, (s.fr a).isSome = true → a < code.length ∨ a = 0
 new : ∀ a, s.new a = true → (s.fr a).isSome = true
 tk : ∀ x, 0 < s.tk x → (s.fr x).isSome = true ∧ (BC code x).2 = 0 ∧ s.tk x = CV (BC code x).1.Op
 dis : ∀ x y, 0 < s.tk x → 0 < s.tk y → x < y → x + s.tk x ≤ y
 start : ∃ f, s.fr 0 = some f ∧ LZ e.Classes st0 f
structure Inv (e : AA) (code : List UInt8) (st0 : A4) (s : St) : Prop extends MX e code st0 s where
 clo : ∀ a f, s.fr a = some f → s.new a = false → AFc e code s a f
structure Ext (l : List A6) (s s' : St) : Prop where
 fr : ∀ b f, s.fr b = some f → ∃ f', s'.fr b = some f' ∧ LZ l f f'
 tk : s'.tk = s.tk
 same : ∀ b, s'.new b = false → s'.fr b = s.fr b ∧ s.new b = false
theorem Ext.trans {l : List A6} (G : Good l) {s t u : St} (h : Ext l s t) (h' : Ext l t u) : Ext l s u := by
 refine ⟨fun b f hf => ?_, h'.tk.trans h.tk, fun b hb => ?_⟩
 ·obtain ⟨f1, h1, h2⟩ := h.fr b f hf
  obtain ⟨f2, h3, h4⟩ := h'.fr b f1 h1
  exact ⟨f2, h3, h2.trans G h4⟩
 ·obtain ⟨h1, h2⟩ := h'.same b hb
  obtain ⟨h3, h4⟩ := h.same b h2
  exact ⟨h1.trans h3, h4⟩
theorem MZ {α : Type} {o : Option α} (h : o.isSome = true) : ∃ x, o = some x := by
 rcases o with _ | x
 ·cases h
 ·exact ⟨x, rfl⟩
theorem Vy {e : AA} (h : DG e) {code : List UInt8} {st0 : A4} {s : St} (I : MX e code st0 s) {t : Nat} (ht : t < code.length) {g : A4} (hg : Ic e.Classes g) (h0 : (Fv e.Classes s t g).2 = 0) :
  MX e code st0 (Fv e.Classes s t g).1 ∧ Ext e.Classes s (Fv e.Classes s t g).1 ∧ mu e.Classes code.length (Fv e.Classes s t g).1 ≤ mu e.Classes code.length s ∧ ∃ f, (Fv e.Classes s t g).1.fr t = some f ∧ LZ e.Classes g f := by
 have G := h.good
 have base : ∀ f' : A4, Ic e.Classes f' → (∀ f, s.fr t = some f → LZ e.Classes f f') → nu e.Classes ⟨upd s.fr t (some f'), upd s.new t true, s.tk⟩ t ≤ nu e.Classes s t →
   MX e code st0 ⟨upd s.fr t (some f'), upd s.new t true, s.tk⟩ ∧ Ext e.Classes s ⟨upd s.fr t (some f'), upd s.new t true, s.tk⟩ ∧ mu e.Classes code.length ⟨upd s.fr t (some f'), upd s.new t true, s.tk⟩ ≤ mu e.Classes code.length s := by
  intro f' hf' hle hnu
  have hfr : ∀ b f, s.fr b = some f → ∃ f2, upd s.fr t (some f') b = some f2 ∧ LZ e.Classes f f2 := by
   intro b f hf
   by_cases hb : b = t
   ·subst hb
    exact ⟨f', EP _ _ _, hle f hf⟩
   ·exact ⟨f, by rw [upd_ne _ _ hb]; exact hf, LZ.refl (I.fok b f hf)⟩
  have hsome : ∀ b, (s.fr b).isSome = true → (upd s.fr t (some f') b).isSome = true := by
   intro b hb
   obtain ⟨f, hf⟩ := MZ hb
   obtain ⟨f2, hf2, _⟩ := hfr b f hf
   rw [hf2]; rfl
  refine ⟨⟨fun b f hf => ?_, fun b hb => ?_, fun b hb => ?_, fun x hx => ?_, I.dis, ?_⟩, ⟨hfr, rfl, fun b hb => ?_⟩, ?_⟩
  ·by_cases hb : b = t
   ·subst hb
    dsimp only at hf
    rw [EP] at hf
    cases hf
    exact hf'
   ·dsimp only at hf
    rw [upd_ne _ _ hb] at hf
    exact I.fok b f hf
  ·by_cases hbt : b = t
   ·subst hbt; exact Or.inl ht
   ·dsimp only at hb
    rw [upd_ne _ _ hbt] at hb
    exact I.dom b hb
  ·by_cases hbt : b = t
   ·subst hbt
    dsimp only
    rw [EP]; rfl
   ·dsimp only at hb
    rw [upd_ne _ _ hbt] at hb
    exact hsome b (I.new b hb)
  ·obtain ⟨h1, h2, h3⟩ := I.tk x hx
   exact ⟨hsome x h1, h2, h3⟩
  ·obtain ⟨f, hf, hfl⟩ := I.start
   obtain ⟨f2, hf2, hfl2⟩ := hfr 0 f hf
   exact ⟨f2, hf2, hfl.trans G hfl2⟩
  ·by_cases hbt : b = t
   ·subst hbt
    dsimp only at hb
    rw [EP] at hb; cases hb
   ·dsimp only at hb ⊢
    rw [upd_ne _ _ hbt] at hb
    exact ⟨upd_ne _ _ hbt, hb⟩
  ·refine VF fun b _ => ?_
   by_cases hbt : b = t
   ·subst hbt; exact hnu
   ·unfold nu
    dsimp only
    rw [upd_ne _ _ hbt, upd_ne _ _ hbt]
    exact Nat.le_refl _
 have hnu1 : ∀ f', nu e.Classes ⟨upd s.fr t (some f'), upd s.new t true, s.tk⟩ t = 2 * rkF e.Classes f' + 1 := by
  intro f'
  unfold nu
  dsimp only
  rw [EP, EP]
  unfold frN Ze
  rfl
 unfold Fv at *
 rcases hf : s.fr t with _ | f
 ·rw [hf] at h0
  dsimp only at *
  have hn : nu e.Classes s t ≥ 12290 := by unfold nu; rw [hf]; unfold frN; dsimp only; omega
  have hr := AAf e.Classes g
  obtain ⟨b1, b2, b3⟩ := base g hg (fun f q => by rw [hf] at q; cases q) (by rw [hnu1]; omega)
  exact ⟨b1, b2, b3, g, EP _ _ _, LZ.refl hg⟩
 ·rw [hf] at h0
  dsimp only at *
  by_cases hm : (ED e.Classes f g).2 ≠ 0
  ·rw [A3 hm] at h0; exact absurd h0 hm
  ·rw [A1 hm] at h0 ⊢
   have hm0 : (ED e.Classes f g).2 = 0 := Classical.not_not.1 hm
   obtain ⟨m1, m2, m3⟩ := Z3 G (I.fok t f hf) hg hm0
   by_cases hq : (ED e.Classes f g).1 = f
   ·rw [A3 hq]
    exact ⟨I, ⟨fun b f2 hf2 => ⟨f2, hf2, LZ.refl (I.fok b f2 hf2)⟩, rfl, fun b hb => ⟨rfl, hb⟩⟩, Nat.le_refl _, f, hf, by rw [← hq]; rw [hq] at m3 ⊢; exact m3⟩
   ·rw [A1 hq]
    have hr := AFu G m2 hq
    obtain ⟨b1, b2, b3⟩ := base _ m1 (fun f2 q => by rw [hf] at q; cases q; exact m2) (by
     rw [hnu1]
     unfold nu
     rw [hf]
     unfold frN
     dsimp only
     omega)
    exact ⟨b1, b2, b3, _, EP _ _ _, m3⟩
theorem Xx {e : AA} (h : DG e) {code : List UInt8} {st0 : A4} {g : A4} (hg : Ic e.Classes g) : ∀ (ts : List Nat) (s : St), MX e code st0 s → (∀ t ∈ ts, t < code.length) → (EO e.Classes g s ts).2.1 = 0 →
  MX e code st0 (EO e.Classes g s ts).2.2 ∧ Ext e.Classes s (EO e.Classes g s ts).2.2 ∧ mu e.Classes code.length (EO e.Classes g s ts).2.2 ≤ mu e.Classes code.length s ∧ ∀ t ∈ ts, ∃ f, (EO e.Classes g s ts).2.2.fr t = some f ∧ LZ e.Classes g f
 | [], s, I, _, _ => ⟨I, ⟨fun b f2 hf2 => ⟨f2, hf2, LZ.refl (I.fok b f2 hf2)⟩, rfl, fun b hb => ⟨rfl, hb⟩⟩, Nat.le_refl _, fun t ht => by cases ht⟩
 | t :: ts, s, I, ht, h0 => by
  unfold EO at *
  by_cases hx : (Fv e.Classes s t g).2 ≠ 0
  ·rw [A3 hx] at h0; exact absurd h0 hx
  ·rw [A1 hx] at h0 ⊢
   obtain ⟨a1, a2, a3, f, a4, a5⟩ := Vy h I (ht t (by simp)) hg (Classical.not_not.1 hx)
   obtain ⟨b1, b2, b3, b4⟩ := Xx h hg ts _ a1 (fun x hx => ht x (by simp [hx])) h0
   refine ⟨b1, a2.trans h.good b2, Nat.le_trans b3 a3, fun x hx => ?_⟩
   rw [AN9] at hx
   rcases hx with rfl | hx
   ·obtain ⟨f', c1, c2⟩ := b2.fr x f a4
    exact ⟨f', c1, a5.trans h.good c2⟩
   ·exact b4 x hx
theorem Pi {s : St} {n a size : Nat} : Jg s n a size = false ↔ ∀ x, x ≤ n → 0 < s.tk x → x ≠ a → a < x + s.tk x → ¬ x < a + size := by
 unfold Jg
 rw [List.any_eq_false]
 constructor
 ·intro h x hx h1 h2 h3 h4
  have := h x (by rw [AOx]; omega)
  rw [A2] at this
  exact this ⟨h1, h2, h3, h4⟩
 ·intro h x hx
  rw [A2]
  rintro ⟨h1, h2, h3, h4⟩
  exact h x (by rw [AOx] at hx; omega) h1 h2 h3 h4
theorem TP {e : AA} {code : List UInt8} {st0 : A4} {s : St} (I : Inv e code st0 s) {a : Nat} (ha : s.new a = true) (h1 : (BC code a).2 = 0) (h2 : Jg (off s a) code.length a (CV (BC code a).1.Op) = false) : MX e code st0 (lay (off s a) a (CV (BC code a).1.Op)) := by
 obtain ⟨f, hf⟩ := MZ (I.new a ha)
 have h1' := JM h1
 have h2' := Pi.1 h2
 have hdx : ∀ x, 0 < s.tk x → x ≤ code.length := by
  intro x hx
  rcases I.dom x (I.tk x hx).1 with q | q <;> omega
 refine ⟨I.fok, I.dom, fun b hb => ?_, fun x hx => ?_, fun x y hx hy hxy => ?_, I.start⟩
 ·unfold lay off at hb
  dsimp only at hb
  by_cases hba : b = a
  ·subst hba
   rw [EP] at hb; cases hb
  ·rw [upd_ne _ _ hba] at hb
   exact I.new b hb
 ·unfold lay off at *
  dsimp only at *
  by_cases hba : x = a
  ·subst hba
   rw [EP]
   exact ⟨by rw [hf]; rfl, h1, rfl⟩
  ·rw [upd_ne _ _ hba] at hx ⊢
   exact I.tk x hx
 ·unfold lay off at *
  dsimp only at *
  by_cases hxa : x = a
  ·subst hxa
   have hya : y ≠ x := by omega
   rw [EP]
   rw [upd_ne _ _ hya] at hy
   have := h2' y (hdx y hy) hy hya (by omega)
   omega
  ·by_cases hya : y = a
   ·subst hya
    rw [upd_ne _ _ hxa] at hx ⊢
    have := fun q => h2' x (hdx x hx) hx hxa q (by omega)
    rcases Nat.lt_or_ge y (x + s.tk x) with q | q
    ·exact absurd q this
    ·exact q
   ·rw [upd_ne _ _ hxa] at hx ⊢
    rw [upd_ne _ _ hya] at hy
    exact I.dis x y hx hy hxy
theorem UD {l : List A6} {g : A4} : ∀ (ts : List Nat) (s : St), (EO l g s ts).2.1 = 0 → (EO l g s ts).1 = 0
 | [], s, _ => rfl
 | t :: ts, s, h => by
  unfold EO at *
  by_cases hx : (Fv l s t g).2 ≠ 0
  ·rw [A3 hx] at h; exact absurd h hx
  ·rw [A1 hx] at h ⊢
   exact UD ts _ h
theorem Us {e : AA} (h : DG e) {code : List UInt8} {st0 : A4} {s : St} (I : Inv e code st0 s) {a : Nat} (ha : s.new a = true) (h0 : (Ek e code s a).2.1 = 0) :
  Inv e code st0 (Ek e code s a).2.2 ∧ mu e.Classes code.length (Ek e code s a).2.2 < mu e.Classes code.length s := by
 obtain ⟨f, hf⟩ := MZ (I.new a ha)
 have hfok := I.fok a f hf
 unfold Ek at *
 rw [hf, ANv] at h0 ⊢
 by_cases h1 : (BC code a).2 ≠ 0
 ·rw [A3 h1] at h0; exact absurd h0 h1
 rw [A1 h1] at h0 ⊢
 have h1' := JM (Classical.not_not.1 h1)
 by_cases h2 : Jg (off s a) code.length a (CV (BC code a).1.Op) = true
 ·rw [A3 h2] at h0; cases h0
 rw [A1 h2] at h0 ⊢
 have h2' := Pi.1 (by simpa using h2)
 by_cases h3 : (Gt e f (BC code a).1).2 ≠ 0
 ·rw [A3 h3] at h0; exact absurd h0 h3
 rw [A1 h3] at h0 ⊢
 have h3' := Classical.not_not.1 h3
 by_cases h4 : (K3 (BC code a).1 code.length).2 ≠ 0
 ·rw [A3 h4] at h0; exact absurd h0 h4
 rw [A1 h4] at h0 ⊢
 have h4' := Classical.not_not.1 h4
 obtain ⟨on1, on2⟩ := S8 h1'.2.1 h1'.2.2.2.1 (by omega) h4'
 rw [on1] at h0 ⊢
 have happ := Pj h hfok (BC code a).1 h3'
 have I1 : MX e code st0 (lay (off s a) a (CV (BC code a).1.Op)) := TP I ha (Classical.not_not.1 h1) (by simpa using h2)
 obtain ⟨c1, c2, c3, c4⟩ := Xx h happ.1 (Ci (BC code a).1) _ I1 on2 h0
 refine ⟨⟨c1, fun b fb hfb hnb => ?_⟩, ?_⟩
 ·obtain ⟨d1, d2⟩ := c2.same b hnb
  rw [hfb] at d1
  by_cases hba : b = a
  ·subst hba
   have hfe : fb = f := by
    have : s.fr b = some fb := d1.symm
    rw [hf] at this
    exact (Option.some.inj this).symm
   subst hfe
   refine ⟨Classical.not_not.1 h1, h3', h4', ?_, c4⟩
   rw [c2.tk]
   exact EP _ _ _
  ·have hnb' : s.new b = false := by
    unfold lay off at d2
    dsimp only at d2
    rw [upd_ne _ _ hba] at d2
    exact d2
   have D := I.clo b fb d1.symm hnb'
   refine ⟨D.ins, D.app, D.on, ?_, fun t ht => ?_⟩
   ·rw [c2.tk]
    have : (lay (off s a) a (CV (BC code a).1.Op)).tk b = s.tk b := upd_ne _ _ hba
    rw [this]
    exact D.tk
   ·obtain ⟨g, g1, g2⟩ := D.nx t ht
    obtain ⟨g', g3, g4⟩ := c2.fr t g g1
    exact ⟨g', g3, g2.trans h.good g4⟩
 ·refine Nat.lt_of_le_of_lt c3 ?_
  refine Vv (fun b hb => ?_) ⟨a, by omega, ?_⟩
  ·unfold nu lay off
   dsimp only
   by_cases hba : b = a
   ·subst hba
    rw [EP, ha]
    simp only [Ze]
    omega
   ·rw [upd_ne _ _ hba]
    exact Nat.le_refl _
  ·unfold nu lay off
   dsimp only
   rw [EP, ha]
   simp only [Ze]
   omega
theorem Mk {s : St} {n a : Nat} (h : KY s n = some a) : s.new a = true ∧ a ≤ n ∧ ∀ b, b < a → s.new b = false := by
 unfold KY at h
 rw [List.find?_range_eq_some] at h
 obtain ⟨h1, h2, h3⟩ := h
 rw [AOx] at h2
 exact ⟨h1, by omega, fun b hb => by have := h3 b hb; simpa using this⟩
theorem PM {s : St} {n : Nat} (h : KY s n = none) : ∀ b, b ≤ n → s.new b = false := by
 unfold KY at h
 rw [List.find?_eq_none] at h
 intro b hb
 have := h b (by rw [AOx]; omega)
 simpa using this
theorem CB {e : AA} (h : DG e) {code : List UInt8} {st0 : A4} : ∀ (k : Nat) (s : St), Inv e code st0 s → mu e.Classes code.length s < k → ∃ r, Ue e code k s = some r ∧ (r.2.1 = 0 → r.1 = 0 ∧ Inv e code st0 r.2.2 ∧ ∀ b, r.2.2.new b = false)
 | 0, s, _, hk => by omega
 | k + 1, s, I, hk => by
  unfold Ue
  rcases hl : KY s code.length with _ | a
  ·refine ⟨_, rfl, fun _ => ⟨rfl, I, fun b => ?_⟩⟩
   rcases hb : s.new b with _ | _
   ·rfl
   ·have := I.dom b (I.new b hb)
    have h2 := PM hl b (by omega)
    rw [hb] at h2; cases h2
  ·dsimp only
   by_cases h0 : (Ek e code s a).2.1 ≠ 0
   ·rw [A3 h0]
    exact ⟨_, rfl, fun q => absurd q h0⟩
   ·rw [A1 h0]
    obtain ⟨J, hm⟩ := Us h I (Mk hl).1 (Classical.not_not.1 h0)
    exact CB h k _ J (by omega)
def st1 (f : A4) : St := ⟨fun a => if a = 0 then some f else none, fun a => decide (a = 0), fun _ => 0⟩
theorem A8g {e : AA} (h : DG e) {code : List UInt8} {f : A4} (hf : Ic e.Classes f) : Inv e code f (st1 f) := by
 have h0 : ∀ a, (if a = 0 then some f else none : Option A4).isSome = true → a = 0 := by
  intro a ha
  by_cases q : a = 0
  ·exact q
  ·rw [A1 q] at ha; cases ha
 unfold st1
 refine ⟨⟨fun a g hg => ?_, fun a ha => Or.inr (h0 a ha), fun a ha => ?_, fun x hx => ?_, fun x y hx => ?_, ⟨f, (A3 rfl : (if 0 = 0 then some f else none) = some f), LZ.refl hf⟩⟩, fun a g hg hn => ?_⟩
 ·dsimp only at hg
  split at hg
  ·cases hg; exact hf
  ·cases hg
 ·dsimp only at ha ⊢
  rw [A2] at ha
  rw [A3 ha]; rfl
 ·dsimp only at hx; omega
 ·dsimp only at hx; omega
 ·dsimp only at hg hn
  rw [decide_eq_false_iff_not] at hn
  rw [A1 hn] at hg; cases hg
end Go.Proofs.YtfcpkcehecmcpaaGreat
namespace Go.Proofs.YtfcpkcehecmcpaaGreat
open Go Go.RowKit Go.Pv
theorem QF (op : UInt8) : Ks op = some (Hq op) := by
 unfold Ks Hq
 have e19 : ((op.toNat : Int) == 19) = decide (op.toNat = 19) := Cg _ 19
 have e20 : ((op.toNat : Int) == 20) = decide (op.toNat = 20) := Cg _ 20
 rw [e19, e20]
 rcases decide (op.toNat = 19) with _ | _ <;> simp
theorem Aa0 (op : UInt8) : Jx op = some (Hq op) := QF op
theorem Sb (op : UInt8) : MA op = some (I2 op) := by
 unfold MA I2
 have e19 : ((op.toNat : Int) == 19) = decide (op.toNat = 19) := Cg _ 19
 have e22 : ((op.toNat : Int) == 22) = decide (op.toNat = 22) := Cg _ 22
 have e32 : ((op.toNat : Int) == 32) = decide (op.toNat = 32) := Cg _ 32
 rw [e19, e22, e32]
 rcases decide (op.toNat = 19) with _ | _ <;> rcases decide (op.toNat = 22) with _ | _ <;> simp
theorem Ac0 (op : UInt8) : JE op = some (I2 op) := Sb op
def ints (l : List Nat) : List Int := l.map fun (t : Nat) => (t : Int)
theorem Aal {i : A9} {n a : Nat} (hA : i.At = a) (hs : a + CV i.Op ≤ n) (hn : n ≤ 1048576) (h0 : Hq i.Op = true → 0 ≤ i.A) : Ij i (n : Int) = some (ints (K3 i n).1, (K3 i n).2) := by
 unfold Ij K3
 rw [Ik, ANu, Aa0, ANu, Ac0, ANu, Cx (by omega) (by omega)]
 by_cases h1 : Hq i.Op = true ∧ i.A ≥ n
 ·rw [A3 h1.1, A3 (by rw [A2]; exact h1.2), A3 h1]
  rfl
 ·rw [A1 h1]
  have hx : (if Hq i.Op = true then (if decide (i.A ≥ (n : Int)) = true then (some (Sum.inl (([] : List Int), (50 : Int)) : (List Int × Int) ⊕ Unit)) else (some (.inr ()))) else (some (.inr ()))) = some (.inr ()) := by
   by_cases hj : Hq i.Op = true
   ·rw [A3 hj, A1 (by rw [A2]; exact fun q => h1 ⟨hj, q⟩)]
   ·rw [A1 hj]
  rw [hx, ANu]
  dsimp only
  by_cases h2 : I2 i.Op = false ∧ i.At + CV i.Op = n
  ·rw [A3 (by rw [h2.1]; rfl), A3 (by rw [AE]; exact h2.2), A3 h2]
   rfl
  ·rw [A1 h2]
   have hy : (if (!I2 i.Op) = true then (if ((i.At + (CV i.Op : Int)) == (n : Int)) = true then (some (Sum.inl (([] : List Int), (51 : Int)) : (List Int × Int) ⊕ Unit)) else (some (.inr ()))) else (some (.inr ()))) = some (.inr ()) := by
    by_cases hj : (!I2 i.Op) = true
    ·rw [A3 hj, A1 (by rw [AE]; exact fun q => h2 ⟨by simpa using hj, q⟩)]
    ·rw [A1 hj]
   rw [hy, ANu]
   dsimp only
   unfold Ci ints
   obtain ⟨b, hb⟩ : ∃ b : Nat, i.At + (CV i.Op : Int) = b := ⟨a + CV i.Op, by omega⟩
   rw [hb]
   rcases hj : Hq i.Op with _ | _
   ·rcases he : I2 i.Op with _ | _
    ·rw [A1 (by simp), ANu, A3 (by rfl), CZ (by simp), ANu, A1 (by simp)]
     simp
    ·rw [A1 (by simp), ANu, A1 (by simp), A1 (by simp)]
     simp
   ·obtain ⟨k, hk⟩ := APm (h0 hj)
    rw [hk]
    rcases he : I2 i.Op with _ | _
    ·rw [A3 rfl, A1 (by simp)]
     by_cases hlt : k < b
     ·rw [A3 (by rw [A2]; omega), CZ (by simp), ANu, ANu, A3 (by rfl), CZ (by simp), ANu, A3 rfl, A1 (by rw [A2]; omega)]
      simp [hlt]
      omega
     ·rw [A1 (by rw [A2]; omega), ANu, A3 (by rfl), CZ (by simp), ANu, A3 rfl]
      by_cases hgt : k > b
      ·rw [A3 (by rw [A2]; omega), CZ (by simp), ANu]
       simp [hlt, hgt]
      ·rw [A1 (by rw [A2]; omega)]
       simp [hlt, hgt]
    ·rw [A3 rfl, A3 (by rfl), CZ (by simp), ANu, ANu, A1 (by simp), A3 rfl]
     simp
structure Jl (n : Nat) (s : St) (R : AM) : Prop where
 has : R.Has.length = n + 1 ∧ ∀ a, a ≤ n → R.Has[a]? = some (s.fr a).isSome
 frame : R.Frame.length = n + 1 ∧ ∀ a, a ≤ n → ∀ f, s.fr a = some f → R.Frame[a]? = some f
 fresh : R.C2.length = n + 1 ∧ ∀ a, a ≤ n → R.C2[a]? = some (s.new a)
 taken : R.Taken.length = n + 1 ∧ ∀ a, a ≤ n → R.Taken[a]? = some (s.tk a : Int)
theorem MF {α : Type} {l : List α} {n a b : Nat} {x : α} (hl : l.length = n + 1) (ha : a ≤ n) : (l.set a x)[b]? = if b = a then some x else l[b]? := by
 rw [List.getElem?_set]
 by_cases h : a = b
 ·rw [A3 h, A3 (by omega), A3 h.symm]
 ·rw [A1 h, A1 (fun q => h q.symm)]
theorem Jl.lay {n : Nat} {s : St} {R : AM} (h : Jl n s R) {a : Nat} (ha : a ≤ n) (f : A4) : Jl n ⟨upd s.fr a (some f), upd s.new a true, s.tk⟩ ⟨R.Has.set a true, R.Frame.set a f, R.C2.set a true, R.Taken⟩ := by
 refine ⟨⟨by rw [AN5]; exact h.has.1, fun b hb => ?_⟩, ⟨by rw [AN5]; exact h.frame.1, fun b hb g hg => ?_⟩, ⟨by rw [AN5]; exact h.fresh.1, fun b hb => ?_⟩, h.taken⟩
 ·dsimp only
  rw [MF h.has.1 ha]
  by_cases q : b = a
  ·rw [A3 q, q, EP]; rfl
  ·rw [A1 q, upd_ne _ _ q]; exact h.has.2 b hb
 ·dsimp only at *
  rw [MF h.frame.1 ha]
  by_cases q : b = a
  ·rw [A3 q]
   rw [q, EP] at hg
   exact hg
  ·rw [A1 q]
   rw [upd_ne _ _ q] at hg
   exact h.frame.2 b hb g hg
 ·dsimp only
  rw [MF h.fresh.1 ha]
  by_cases q : b = a
  ·rw [A3 q, q, EP]
  ·rw [A1 q, upd_ne _ _ q]; exact h.fresh.2 b hb
theorem Pz {f g : A4} : ((f.Locals == g.Locals) && ((f.Height == g.Height) && ((f.Slots == g.Slots) && true))) = true ↔ f = g := by
 obtain ⟨L, H, S⟩ := f
 obtain ⟨L', H', S'⟩ := g
 simp
theorem FQ {α : Type} {l : List α} {a : Nat} {x : α} (h : l[a]? = some x) : idx l (a : Int) = some x := by rw [Vt, h]
theorem An2 {e : AA} (h : DG e) {n : Nat} {s : St} {R : AM} (hR : Jl n s R) (hs : ∀ a f, s.fr a = some f → Ic e.Classes f) {a : Nat} (ha : a ≤ n) {g : A4} (hg : Ic e.Classes g) :
  ∃ R', FV R e.Classes (a : Int) g = some ((Fv e.Classes s a g).2, R') ∧ Jl n (Fv e.Classes s a g).1 R' := by
 have i1 := FQ (hR.has.2 a ha)
 have i3 := FQ (hR.fresh.2 a ha)
 have i2 : ∃ f, idx R.Frame (a : Int) = some f := by
  have : a < R.Frame.length := by rw [hR.frame.1]; omega
  exact ⟨_, BN this⟩
 unfold FV Fv
 rw [i1, ANu]
 rcases hf : s.fr a with _ | f
 ·obtain ⟨f0, i2⟩ := i2
  rw [A3 (by rfl), ANu, i2, ANu, i3, ANu]
  exact ⟨_, rfl, hR.lay ha g⟩
 ·have i4 := FQ (hR.frame.2 a ha f hf)
  rw [A1 (by simp), i4, ANu, show (⟨g.Locals, g.Height, g.Slots⟩ : A4) = g from rfl, Z1 h.good (hs a f hf) hg, ANu]
  dsimp only
  by_cases hm : (ED e.Classes f g).2 ≠ 0
  ·rw [A3 (by rw [AW]; exact hm), A3 hm]
   exact ⟨_, rfl, hR⟩
  ·rw [A1 (by rw [AW]; exact hm), A1 hm, ANu]
   by_cases hq : (ED e.Classes f g).1 = f
   ·rw [A1 (by rw [Pz.2 hq]; simp), A3 hq]
    exact ⟨_, rfl, hR⟩
   ·rw [A3, A1 hq, ANu, i3, ANu]
    ·refine ⟨_, rfl, ?_⟩
     have := hR.lay ha (ED e.Classes f g).1
     have e1 : R.Has.set a true = R.Has := by
      have h1 : R.Has[a]? = some true := by rw [hR.has.2 a ha, hf]; rfl
      obtain ⟨hlt, h2⟩ := List.getElem?_eq_some_iff.1 h1
      rw [← h2, List.set_getElem_self]
     rw [e1] at this
     exact this
    ·rw [Bool.not_eq_true', ← Bool.not_eq_true]
     exact fun q => hq (Pz.1 q)
theorem VV {e : AA} (h : DG e) {code : List UInt8} {st0 : A4} {g : A4} (hg : Ic e.Classes g) (x : List Int × Int) (hx : x.1.length ≤ 1048576) :
  ∀ (ts : List Nat) (i : Nat) (s : St) (R : AM), x.1.drop i = ints ts → MX e code st0 s → (∀ t ∈ ts, t < code.length) → Jl code.length s R →
   ∃ o, AY (CL e (g, 0) x) (R.Taken, R.C2, R.Has, R.Frame, (i : Int)) = some o ∧
    if (EO e.Classes g s ts).2.1 = 0 then ∃ R', o = .inr (R'.Taken, R'.C2, R'.Has, R'.Frame) ∧ Jl code.length (EO e.Classes g s ts).2.2 R' else ∃ R', o = .inl ((EO e.Classes g s ts).1, (EO e.Classes g s ts).2.1, R')
 | [], i, s, R, hd, I, _, hR => by
  have hi : x.1.length ≤ i := by
   unfold ints at hd
   rw [List.map_nil, List.drop_eq_nil_iff] at hd
   exact hd
  refine ⟨_, BP (r := .inr (R.Taken, R.C2, R.Has, R.Frame)) ?_, ?_⟩
  ·unfold CL
   dsimp only
   rw [A1 (by rw [A2]; omega)]
  ·unfold EO
   rw [A3 rfl]
   exact ⟨R, rfl, hR⟩
 | t :: ts, i, s, R, hd, I, ht, hR => by
  have hi : i < x.1.length := by
   rcases Nat.lt_or_ge i x.1.length with q | q
   ·exact q
   ·rw [List.drop_eq_nil_iff.2 q] at hd; cases hd
  rw [List.drop_eq_getElem_cons hi] at hd
  unfold ints at hd
  rw [List.map_cons, List.cons.injEq] at hd
  obtain ⟨hd1, hd2⟩ := hd
  obtain ⟨R', hh, hR'⟩ := An2 h hR I.fok (Nat.le_of_lt (ht t (by simp))) hg
  have hb : CL e (g, 0) x (R.Taken, R.C2, R.Has, R.Frame, (i : Int)) = if (Fv e.Classes s t g).2 ≠ 0 then some (.inr (.inl ((t : Int), (Fv e.Classes s t g).2, R'))) else some (.inl (R'.Taken, R'.C2, R'.Has, R'.Frame, ((i + 1 : Nat) : Int))) := by
   unfold CL
   dsimp only
   rw [A3 (by rw [A2]; omega), BN hi, hd1, ANu, show (⟨R.Has, R.Frame, R.C2, R.Taken⟩ : AM) = R from rfl, show (⟨g.Locals, g.Height, g.Slots⟩ : A4) = g from rfl, hh, ANu]
   dsimp only
   by_cases hq : (Fv e.Classes s t g).2 ≠ 0
   ·rw [A3 hq, A3 (by rw [AW]; exact hq), ANu]
   ·rw [A1 hq, A1 (by rw [AW]; exact hq), CS (by omega)]
  unfold EO
  by_cases hq : (Fv e.Classes s t g).2 ≠ 0
  ·rw [A3 hq] at hb ⊢
   refine ⟨_, BP hb, ?_⟩
   dsimp only
   rw [A1 hq]
   exact ⟨R', rfl⟩
  ·rw [A1 hq] at hb ⊢
   obtain ⟨a1, a2, a3, f, a4, a5⟩ := Vy h I (ht t (by simp)) hg (Classical.not_not.1 hq)
   obtain ⟨o, h1, h2⟩ := VV h hg x hx ts (i + 1) _ R' hd2 a1 (fun y hy => ht y (by simp [hy])) hR'
   exact ⟨o, by rw [Dh hb]; exact h1, h2⟩
end Go.Proofs.YtfcpkcehecmcpaaGreat
namespace Go.Proofs.YtfcpkcehecmcpaaGreat
open Go Go.RowKit Go.Pv
theorem Qc {S R : Type} (n : Nat) {body : S → Option (S ⊕ R)} (I : Nat → S → Prop) {Post : R → Prop} (hs : ∀ i s, i < n → I i s → (∃ s', body s = some (.inl s') ∧ I (i + 1) s') ∨ (∃ r, body s = some (.inr r) ∧ Post r)) (he : ∀ s, I n s → ∃ r, body s = some (.inr r) ∧ Post r) : ∀ (k i : Nat) (s : S), i + k = n → I i s → ∃ r, AY body s = some r ∧ Post r
 | 0, i, s, hi, h => by
  have : i = n := by omega
  subst this
  obtain ⟨r, h1, h2⟩ := he s h
  exact ⟨r, BP h1, h2⟩
 | k + 1, i, s, hi, h => by
  rcases hs i s (by omega) h with ⟨s', h1, h2⟩ | ⟨r, h1, h2⟩
  ·rw [Dh h1]
   exact Qc n I hs he k (i + 1) s' (by omega) h2
  ·exact ⟨r, BP h1, h2⟩
structure Aso (l : List A6) (ps : List UInt8) (n : Int) (f : A4) : Prop where
 fok : Ic l f
 loc : f.Locals = n
 hgt : f.Height = 0
 par : ps.length ≤ n
 few : ps.length ≤ 8
 max : n ≤ 16
 slots : ∀ j (h : j < 24), f.Slots[j] = (ps[j]?).getD 0
theorem XS (l : List A6) (ps : List UInt8) (n : Int) : ∃ r, Ec l ps n = some r ∧ (r.2 = 0 → Aso l ps n r.1) := by
 unfold Ec HY
 by_cases h1 : n < 0
 ·rw [A3 (by rw [A2]; exact h1), ANu, A3 (by simp)]
  exact ⟨_, rfl, fun q => by cases q⟩
 rw [A1 (by rw [A2]; exact h1)]
 by_cases h2 : n > 16
 ·rw [A3 (by rw [A2]; exact h2), ANu, A3 (by simp)]
  exact ⟨_, rfl, fun q => by cases q⟩
 rw [A1 (by rw [A2]; exact h2), ANu, A1 (by simp)]
 by_cases h3 : (ps.length : Int) > 8
 ·rw [A3 (by rw [A2]; exact h3)]
  exact ⟨_, rfl, fun q => by cases q⟩
 rw [A1 (by rw [A2]; exact h3)]
 by_cases h4 : (ps.length : Int) > n
 ·rw [A3 (by rw [A2]; exact h4)]
  exact ⟨_, rfl, fun q => by cases q⟩
 rw [A1 (by rw [A2]; exact h4)]
 dsimp only
 obtain ⟨o, ho, hP⟩ := Qc ps.length (body := Dn l ps) (fun i s => s.2 = (i : Int) ∧ (∀ j (h : j < 24), s.1[j] = if j < i then (ps[j]?).getD 0 else 0) ∧ (∀ j, j < i → tv l ((ps[j]?).getD 0) = true))
  (Post := fun o => match o with
   | .inl r => r.2 ≠ 0
   | .inr v => (∀ j (h : j < 24), v[j] = (ps[j]?).getD 0) ∧ OS l v) (fun i s hi hI => by
   obtain ⟨v, k⟩ := s
   obtain ⟨q1, q2, q3⟩ := hI
   dsimp only at q1 q2
   subst q1
   unfold Dn
   dsimp only
   rw [A3 (by rw [A2]; omega), BN hi, ANu, TD, ANu]
   rcases hst : st l ps[i] with _ | _
   ·rw [A3 (by simp)]
    exact Or.inr ⟨_, rfl, by dsimp only; omega⟩
   ·rw [A1 (by simp), Kd _ _ (by omega), ANu, CS (by omega)]
    refine Or.inl ⟨_, rfl, rfl, fun j hj => ?_, fun j hj => ?_⟩
    ·dsimp only
     rw [N1 _ _ _ _ hj, q2 j hj]
     by_cases hij : i = j
     ·subst hij
      rw [A3 rfl, A3 (by omega), ANx hi, ANv]
     ·rw [A1 hij]
      by_cases hlt : j < i
      ·rw [A3 hlt, A3 (by omega)]
      ·rw [A1 hlt, A1 (by omega)]
    ·by_cases hij : j = i
     ·subst hij
      rw [ANx hi, ANv]
      unfold st at hst
      rw [APn] at hst
      exact hst.1
     ·exact q3 j (by omega)) (fun s hI => by
   obtain ⟨v, k⟩ := s
   obtain ⟨q1, q2, q3⟩ := hI
   dsimp only at q1 q2
   subst q1
   unfold Dn
   dsimp only
   rw [A1 (by rw [A2]; omega)]
   have hv : ∀ j (h : j < 24), v[j] = (ps[j]?).getD 0 := by
    intro j hj
    rw [q2 j hj]
    by_cases hlt : j < ps.length
    ·rw [A3 hlt]
    ·rw [A1 hlt, List.getElem?_eq_none (by omega)]; rfl
   refine ⟨_, rfl, hv, fun j hj => ?_⟩
   rw [hv j hj]
   by_cases hlt : j < ps.length
   ·exact q3 j hlt
   ·rw [List.getElem?_eq_none (by omega)]
    exact MB l) ps.length 0 (Vector.replicate 24 (0 : UInt8), (0 : Int)) (by omega) ⟨rfl, fun j hj => by simp, fun j hj => by omega⟩
 rw [ho, ANu]
 rcases o with r | v
 ·exact ⟨_, rfl, fun q => absurd q hP⟩
 ·refine ⟨_, rfl, fun _ => ⟨⟨?_, fun j hj hle => ?_, hP.2⟩, rfl, rfl, by omega, by omega, by omega, hP.1⟩⟩
  ·unfold MR
   dsimp only
   omega
  ·dsimp only at hle ⊢
   rw [hP.1 j hj, List.getElem?_eq_none (by omega)]; rfl
theorem Ab4 (e : AA) (n : Int) (h : Hu e.Classes) : ∃ r, EI e n = some r := by
 unfold EI
 rw [NW _ h, ANu]
 by_cases h1 : ((Mc e.Classes).2 != 0) = true
 ·rw [A3 h1]; exact ⟨_, rfl⟩
 rw [A1 h1]
 by_cases h2 : decide ((e.AQ.length : Int) > 64) = true
 ·rw [A3 h2]; exact ⟨_, rfl⟩
 rw [A1 h2]
 have h64 : e.AQ.length ≤ 64 := by rw [A2] at h2; omega
 have hl := Hm (R := Int ⊕ Unit) e.AQ.length (body := CE e) (fun i => (SH e i).map .inl) (r0 := .inr ()) (fun i hi => by
  unfold CE SH
  rw [A3 (by rw [A2]; omega), BN hi, ANu, ANx hi, ANu]
  dsimp only
  by_cases h8 : 8 < e.AQ[i].Bv.length
  ·rw [A3 (by rw [A2]; omega), A3 h8]; rfl
  ·rw [A1 (by rw [A2]; omega), A1 h8, QK _ _ (by omega), ANu, CS (by omega)]
   rcases Q2 e.Classes e.AQ[i] with _ | _ <;> rfl) (by
  unfold CE
  rw [A1 (by rw [A2]; omega)])
 rw [hl, ANu]
 rcases (((List.range e.AQ.length).findSome? fun i => Option.map (Sum.inl (β := Unit)) (SH e i)).getD (Sum.inr ())) with r | r
 ·exact ⟨_, rfl⟩
 ·dsimp only
  by_cases h3 : decide (e.Fn < 0) = true
  ·rw [A3 h3]; exact ⟨_, rfl⟩
  rw [A1 h3]
  by_cases h4 : decide (e.Fn ≥ (e.AQ.length : Int)) = true
  ·rw [A3 h4]; exact ⟨_, rfl⟩
  rw [A1 h4]
  rw [A2] at h3 h4
  rw [GI (i := e.Fn) (by omega) (by omega) ⟨[], 0⟩, ANu]
  obtain ⟨r, hr, _⟩ := XS e.Classes (((e.AQ[e.Fn.toNat]?).getD ⟨[], 0⟩ : Bl).Bv) n
  rw [hr]
  exact ⟨_, rfl⟩
theorem Xk {n : Nat} {s : St} {R : AM} (hR : Jl n s R) (hn : n ≤ 1048576) (htk : ∀ x, s.tk x ≤ 1048576) {a size : Nat} (ha : a ≤ n) (hs : size ≤ 1048576) : E9 R (a : Int) (size : Int) = some (Jg s n a size) := by
 unfold E9
 have hl := Hm (R := Bool ⊕ Unit) (n + 1) (body := CN R (a : Int) (size : Int)) (fun x => if 0 < s.tk x ∧ x ≠ a ∧ a < x + s.tk x ∧ x < a + size then some (.inl true) else none) (r0 := .inr ()) (fun x hx => by
  unfold CN
  have i1 := FQ (hR.taken.2 x (by omega))
  have := htk x
  rw [A3 (by rw [A2, hR.taken.1]; omega), i1, ANu, ANu, CS (by omega), Cx (n := (x : Int) + (s.tk x : Int)) (by omega) (by omega), Cx (n := (a : Int) + (size : Int)) (by omega) (by omega)]
  by_cases h1 : 0 < s.tk x
  ·rw [A3 (by rw [A2]; omega)]
   by_cases h2 : x = a
   ·rw [A1 (by simp [h2]), A1 (by omega)]
   ·rw [A3 (by rw [AW]; omega)]
    by_cases h3 : a < x + s.tk x
    ·rw [A3 (by rw [A2]; omega)]
     by_cases h4 : x < a + size
     ·rw [A3 (by rw [A2]; omega), A3 ⟨h1, h2, h3, h4⟩]
     ·rw [A1 (by rw [A2]; omega), A1 (by omega)]
    ·rw [A1 (by rw [A2]; omega), A1 (by omega)]
  ·rw [A1 (by rw [A2]; omega), A1 (by omega)]) (by
  unfold CN
  rw [A1 (by rw [A2, hR.taken.1]; omega)])
 rw [hl, ANu]
 rcases hf : (List.range (n + 1)).findSome? (fun x => if 0 < s.tk x ∧ x ≠ a ∧ a < x + s.tk x ∧ x < a + size then some (Sum.inl true : Bool ⊕ Unit) else none) with _ | r
 ·have : Jg s n a size = false := by
   rw [Pi]
   intro x hx h1 h2 h3 h4
   have := (List.findSome?_eq_none_iff.1 hf) x (by rw [AOx]; omega)
   rw [A3 ⟨h1, h2, h3, h4⟩] at this
   cases this
  rw [this]; rfl
 ·obtain ⟨x, hx, hr⟩ := List.exists_of_findSome?_eq_some hf
  have : Jg s n a size = true := by
   unfold Jg
   rw [List.any_eq_true]
   refine ⟨x, hx, ?_⟩
   rw [A2]
   by_cases q : 0 < s.tk x ∧ x ≠ a ∧ a < x + s.tk x ∧ x < a + size
   ·exact q
   ·rw [A1 q] at hr; cases hr
  rw [this]
  split at hr
  ·cases hr; rfl
  ·cases hr
theorem MX.AKx {e : AA} {code : List UInt8} {st0 : A4} {s : St} (I : MX e code st0 s) (x : Nat) : s.tk x ≤ 6 := by
 rcases Nat.eq_zero_or_pos (s.tk x) with q | q
 ·omega
 ·obtain ⟨h1, h2, h3⟩ := I.tk x q
  rw [h3]
  unfold CV
  have := RE (BC code x).1.Op
  split <;> omega
theorem Uo {code : List UInt8} (hl : code.length ≤ Et) {a : Nat} (ha : a < code.length) : En code (a : Int) = some (BC code a) ∧ I7 code (a : Int) = some (BC code a) := by
 have : BC code a = dec code a code[a] := by
  unfold BC
  rw [ANx ha]
 rw [this]
 exact ⟨A2i code hl a ha, Anr code hl a ha⟩
theorem U3 {code : List UInt8} {a : Nat} (h : (BC code a).2 = 0) (hj : Hq (BC code a).1.Op = true) : 0 ≤ (BC code a).1.A := by
 have hk := (JM h).2.2.2.2
 unfold BC at *
 rw [hk] at h ⊢
 generalize (match code[a]? with
  | none => ((⟨0, 0, 0, 0⟩ : A9), (51 : Int))
  | some op => dec code a op).1.Op = op at *
 dsimp only at *
 unfold dec at *
 by_cases h0 : CV op = 0
 ·rw [A3 h0] at h; cases h
 rw [A1 h0] at h ⊢
 by_cases h1 : code.length < a + CV op
 ·rw [A3 h1] at h; cases h
 rw [A1 h1] at h ⊢
 dsimp only at *
 split at h
 ·cases h
 ·rename_i q
  rw [A1 q]
  dsimp only
  unfold UI
  have hw : (IY op).1 ≠ 4 := by
   unfold Hq at hj
   rw [APp, A2, A2] at hj
   unfold IY
   rcases hj with q | q <;> simp [q]
  rw [A1 (by intro q; exact hw q.1)]
  omega
end Go.Proofs.YtfcpkcehecmcpaaGreat
namespace Go.Proofs.YtfcpkcehecmcpaaGreat
open Go Go.RowKit Go.Pv
theorem Jl.off {n : Nat} {s : St} {R : AM} (h : Jl n s R) {a : Nat} (ha : a ≤ n) : Jl n (off s a) ⟨R.Has, R.Frame, R.C2.set a false, R.Taken⟩ := by
 refine ⟨h.has, h.frame, ⟨by rw [AN5]; exact h.fresh.1, fun b hb => ?_⟩, h.taken⟩
 unfold Proofs.YtfcpkcehecmcpaaGreat.off
 dsimp only
 rw [MF h.fresh.1 ha]
 by_cases q : b = a
 ·rw [A3 q, q, EP]
 ·rw [A1 q, upd_ne _ _ q]; exact h.fresh.2 b hb
theorem Jl.tk {n : Nat} {s : St} {R : AM} (h : Jl n s R) {a : Nat} (ha : a ≤ n) (k : Nat) : Jl n (Proofs.YtfcpkcehecmcpaaGreat.lay s a k) ⟨R.Has, R.Frame, R.C2, R.Taken.set a (k : Int)⟩ := by
 refine ⟨h.has, h.frame, h.fresh, ⟨by rw [AN5]; exact h.taken.1, fun b hb => ?_⟩⟩
 unfold Proofs.YtfcpkcehecmcpaaGreat.lay
 dsimp only
 rw [MF h.taken.1 ha]
 by_cases q : b = a
 ·rw [A3 q, q, EP]
 ·rw [A1 q, upd_ne _ _ q]; exact h.taken.2 b hb
theorem Axt (op : UInt8) : CV op ≤ 6 := by
 unfold CV
 have := RE op
 split <;> omega
theorem VW {code : List UInt8} {a : Nat} (h : ¬ a < code.length) : BC code a = (⟨0, 0, 0, 0⟩, 51) := by
 unfold BC
 rw [List.getElem?_eq_none (by omega)]
theorem Abf {e : AA} (h : DG e) {code : List UInt8} (hl : code.length ≤ 4096) {st0 : A4} {s : St} {R : AM} (I : Inv e code st0 s) (hR : Jl code.length s R) {a : Nat} (ha : s.new a = true) :
  ∃ R', Fz R e code (a : Int) = some ((Ek e code s a).1, (Ek e code s a).2.1, R') ∧ ((Ek e code s a).2.1 = 0 → Jl code.length (Ek e code s a).2.2 R') := by
 obtain ⟨f, hf⟩ := MZ (I.new a ha)
 have hfok := I.fok a f hf
 have han : a ≤ code.length := by rcases I.dom a (I.new a ha) with q | q <;> omega
 unfold Fz Ek
 rw [FQ (hR.fresh.2 a han), ANu, APl, hf, ANv]
 by_cases hn : a < code.length
 ·rw [A1 (by rw [AE]; omega), (Uo (show code.length ≤ Et by simp only [Et]; omega) hn).1, ANu]
  by_cases h1 : (BC code a).2 ≠ 0
  ·rw [A3 (by rw [AW]; exact h1), A3 h1]
   exact ⟨_, rfl, fun q => absurd q h1⟩
  rw [A1 (by rw [AW]; exact h1), A1 h1, Ik, ANu]
  have h1' := JM (Classical.not_not.1 h1)
  rw [Xk (hR.off han) (by omega) (fun x => Nat.le_trans (I.AKx x) (by omega)) han (Nat.le_trans (Axt _) (by omega)), ANu]
  by_cases h2 : Jg (off s a) code.length a (CV (BC code a).1.Op) = true
  ·rw [A3 h2, A3 h2]
   exact ⟨_, rfl, fun q => by cases q⟩
  rw [A1 h2, A1 h2, FQ (hR.taken.2 a han), ANu, FQ (hR.frame.2 a han f hf), ANu, show (⟨e.Classes, e.AQ, e.Fn⟩ : AA) = e from rfl,
   show (⟨(BC code a).1.At, (BC code a).1.Op, (BC code a).1.A, (BC code a).1.B⟩ : A9) = (BC code a).1 from rfl, Aai h hfok, ANu]
  by_cases h3 : (Gt e f (BC code a).1).2 ≠ 0
  ·rw [A3 (by rw [AW]; exact h3), A3 h3]
   exact ⟨_, rfl, fun q => absurd q h3⟩
  have h3' := Classical.not_not.1 h3
  rw [A1 (by rw [AW]; exact h3), A1 h3, Aal h1'.2.1 h1'.2.2.2.1 (by omega) (U3 (Classical.not_not.1 h1)), ANu]
  by_cases h4 : (K3 (BC code a).1 code.length).2 ≠ 0
  ·dsimp only
   rw [A3 (by rw [AW]; exact h4), A3 h4]
   exact ⟨_, rfl, fun q => absurd q h4⟩
  have h4' := Classical.not_not.1 h4
  obtain ⟨on1, on2⟩ := S8 h1'.2.1 h1'.2.2.2.1 (by omega) h4'
  have happ := Pj h hfok (BC code a).1 h3'
  rw [A1 h4]
  dsimp only
  rw [A1 (by rw [AW]; exact h4)]
  have I1 : MX e code st0 (lay (off s a) a (CV (BC code a).1.Op)) := TP I ha (Classical.not_not.1 h1) (by simpa using h2)
  have hR1 : Jl code.length (lay (off s a) a (CV (BC code a).1.Op)) ⟨R.Has, R.Frame, R.C2.set a false, R.Taken.set a (CV (BC code a).1.Op : Int)⟩ := (hR.off han).tk han _
  have hx8 : (ints (K3 (BC code a).1 code.length).1).length ≤ 1048576 := by
   rw [on1]
   unfold ints Ci
   rw [ANz, ANy, ANy]
   split <;> split <;> split <;> simp
  obtain ⟨o, ho1, E5⟩ := VV h happ.1 (ints (K3 (BC code a).1 code.length).1, (K3 (BC code a).1 code.length).2) hx8 (K3 (BC code a).1 code.length).1 0 _ _ (by rw [List.drop_zero]) I1 (by rw [on1]; exact on2) hR1
  have hpair : (Gt e f (BC code a).1) = ((Gt e f (BC code a).1).1, (0 : Int)) := Prod.ext rfl h3'
  rw [hpair]
  rw [show ((0 : Nat) : Int) = 0 from rfl] at ho1
  dsimp only at ho1 ⊢
  rw [ho1, ANu]
  by_cases hz : (EO e.Classes (Gt e f (BC code a).1).1 (lay (off s a) a (CV (BC code a).1.Op)) (K3 (BC code a).1 code.length).1).2.1 = 0
  ·rw [A3 hz] at E5
   obtain ⟨R', rfl, hR'⟩ := E5
   refine ⟨R', ?_, fun _ => hR'⟩
   dsimp only
   rw [hz, UD _ _ hz]
  ·rw [A1 hz] at E5
   obtain ⟨R', rfl⟩ := E5
   exact ⟨R', rfl, fun q => absurd q hz⟩
 ·rw [A3 (by rw [AE]; omega), VW hn]
  dsimp only
  rw [A3 (by omega)]
  exact ⟨_, rfl, fun q => by cases q⟩
def Ph (s : St) (n : Nat) : Int := match KY s n with
 | none => -1
 | some a => (a : Int)
theorem Abo {n : Nat} {s : St} {R : AM} (hR : Jl n s R) (hn : n ≤ 1048576) : FH R = some (Ph s n) := by
 unfold FH
 have hl := Hm (R := Int ⊕ Unit) (n + 1) (body := Dj R) (fun x => if s.new x = true then some (.inl (x : Int)) else none) (r0 := .inr ()) (fun x hx => by
  unfold Dj
  rw [A3 (by rw [A2, hR.fresh.1]; omega), FQ (hR.fresh.2 x (by omega)), ANu, CS (by omega)]
  rcases s.new x with _ | _ <;> rfl) (by
  unfold Dj
  rw [A1 (by rw [A2, hR.fresh.1]; omega)])
 rw [hl, ANu]
 unfold Ph KY
 have key : ∀ L : List Nat, L.findSome? (fun x => if s.new x = true then some (Sum.inl (x : Int) : Int ⊕ Unit) else none) = (L.find? s.new).map fun a => Sum.inl (a : Int) := by
  intro L
  induction L with
  | nil => rfl
  | cons x L ih =>
   rw [List.findSome?_cons, List.find?_cons]
   rcases s.new x with _ | _
   ·rw [A1 (by simp)]; exact ih
   ·rw [A3 rfl]; rfl
 rw [key]
 rcases (List.range (n + 1)).find? s.new with _ | a
 ·rfl
 ·rfl
theorem YC {e : AA} (h : DG e) {code : List UInt8} (hl : code.length ≤ 4096) {st0 : A4} : ∀ (k : Nat) (s : St) (R : AM) (r : Int × Int × St), Inv e code st0 s → Jl code.length s R → Ue e code k s = some r →
  ∃ o, AY (DK e code) (R.Has, R.Frame, R.C2, R.Taken, Ph s code.length) = some o ∧ if r.2.1 = 0 then ∃ R', o = .inr (R'.Has, R'.Frame, R'.C2, R'.Taken) ∧ Jl code.length r.2.2 R' else o = .inl ([], r.1, r.2.1)
 | 0, s, R, r, _, _, hr => by cases hr
 | k + 1, s, R, r, I, hR, hr => by
  unfold Ue at hr
  unfold Ph
  rcases hq : KY s code.length with _ | a
  ·rw [hq] at hr
   dsimp only at hr ⊢
   cases hr
   refine ⟨_, BP (r := .inr (R.Has, R.Frame, R.C2, R.Taken)) ?_, ?_⟩
   ·unfold DK
    dsimp only
    rw [A1 (by simp)]
   ·dsimp only
    rw [A3 rfl]
    exact ⟨R, rfl, hR⟩
  ·rw [hq] at hr
   dsimp only at hr ⊢
   obtain ⟨R', h1, h2⟩ := Abf h hl I hR (Mk hq).1
   by_cases h0 : (Ek e code s a).2.1 ≠ 0
   ·rw [A3 h0] at hr
    cases hr
    refine ⟨_, BP (r := .inl ([], (Ek e code s a).1, (Ek e code s a).2.1)) ?_, ?_⟩
    ·unfold DK
     dsimp only
     rw [A3 (by rw [A2]; omega), show (⟨R.Has, R.Frame, R.C2, R.Taken⟩ : AM) = R from rfl, show (⟨e.Classes, e.AQ, e.Fn⟩ : AA) = e from rfl, h1, ANu]
     dsimp only
     rw [A3 (by rw [AW]; exact h0)]
    ·rw [A1 h0]
   ·rw [A1 h0] at hr
    have h0' := Classical.not_not.1 h0
    have hR' := h2 h0'
    obtain ⟨J, _⟩ := Us h I (Mk hq).1 h0'
    obtain ⟨o, o1, o2⟩ := YC h hl k _ R' r J hR' hr
    refine ⟨o, ?_, o2⟩
    rw [Dh (s' := (R'.Has, R'.Frame, R'.C2, R'.Taken, Ph (Ek e code s a).2.2 code.length))]
    ·exact o1
    ·unfold DK
     dsimp only
     rw [A3 (by rw [A2]; omega), show (⟨R.Has, R.Frame, R.C2, R.Taken⟩ : AM) = R from rfl, show (⟨e.Classes, e.AQ, e.Fn⟩ : AA) = e from rfl, h1, ANu]
     dsimp only
     rw [A1 (by rw [AW]; exact h0), show (⟨R'.Has, R'.Frame, R'.C2, R'.Taken⟩ : AM) = R' from rfl, Abo hR' (by omega), ANu]
def FA (s : St) (n : Nat) : List BO := (List.range n).filterMap fun a => (s.fr a).map fun f => ⟨(a : Int), false, f⟩
theorem Py (s : St) (i : Nat) : FA s (i + 1) = FA s i ++ match s.fr i with
  | none => []
  | some f => [⟨(i : Int), false, f⟩] := by
 unfold FA
 rw [AO8, List.filterMap_append]
 congr 1
 rcases h : s.fr i with _ | f
 ·simp [h]
 ·simp [h]
theorem ON (s : St) : ∀ i, (FA s i).length ≤ i
 | 0 => by simp [FA]
 | i + 1 => by
  have := ON s i
  rw [Py, ANy]
  split <;> simp <;> omega
theorem Adl {code : List UInt8} (hl : code.length ≤ 4096) {s : St} {R : AM} (hR : Jl code.length s R) : AY (Es code (R.Has, R.Frame, R.C2, R.Taken)) (([] : List BO), 0) = some (FA s code.length) := by
 refine GM code.length (fun i => (FA s i, (i : Int))) (fun i hi => ?_) ?_ rfl
 ·unfold Es
  dsimp only
  rw [A3 (by rw [A2]; omega), FQ (hR.has.2 i (by omega)), ANu, Py, CS (by omega)]
  rcases hf : s.fr i with _ | f
  ·rw [A1 (by simp)]; simp
  ·have := ON s i
   rw [A3 (by rfl), FQ (hR.frame.2 i (by omega) f hf), ANu, CZ (by simp; omega), ANu]
 ·unfold Es
  dsimp only
  rw [A1 (by rw [A2]; omega)]
end Go.Proofs.YtfcpkcehecmcpaaGreat
namespace Go.Proofs.YtfcpkcehecmcpaaGreat
open Go Go.RowKit Go.Pv
structure JO (e : AA) (code : List UInt8) (s : St) (S : AV) : Prop where
 env : S.e = e
 code : S.code = code
 fr : ∀ k : Int, Cd S.frames k = if 0 ≤ k then s.fr k.toNat else none
 frn : (S.frames.map Prod.fst).Nodup
 fresh : ∀ k : Int, (Cd S.fresh k).isSome = true ↔ (0 ≤ k ∧ s.new k.toNat = true)
 Pm : (S.fresh.map Prod.fst).Nodup
 taken : ∀ b x : Int, Cd S.taken b = some x ↔ ∃ y : Nat, x = y ∧ 0 < s.tk y ∧ (y : Int) ≤ b ∧ b < y + s.tk y
theorem JO.lay {e : AA} {code : List UInt8} {s : St} {S : AV} (h : JO e code s S) (a : Nat) (f : A4) (w : Int) : JO e code ⟨upd s.fr a (some f), upd s.new a true, s.tk⟩ ⟨S.e, S.code, Da S.frames (a : Int) f, Da S.fresh (a : Int) (), S.taken, w⟩ := by
 refine ⟨h.env, h.code, fun k => ?_, Nk h.frn _ _, fun k => ?_, Nk h.Pm _ _, h.taken⟩
 ·dsimp only
  rw [Kn, h.fr k]
  by_cases hk : k = (a : Int)
  ·rw [A3 hk, A3 (by omega), hk, APl, EP]
  ·rw [A1 hk]
   by_cases h0 : 0 ≤ k
   ·rw [A3 h0, A3 h0, upd_ne _ _ (by omega)]
   ·rw [A1 h0, A1 h0]
 ·dsimp only
  rw [Kn]
  by_cases hk : k = (a : Int)
  ·rw [A3 hk, hk, APl, EP]
   simp
  ·rw [A1 hk, h.fresh k]
   constructor
   ·rintro ⟨h0, h1⟩
    exact ⟨h0, by rw [upd_ne _ _ (by omega)]; exact h1⟩
   ·rintro ⟨h0, h1⟩
    rw [upd_ne _ _ (by omega)] at h1
    exact ⟨h0, h1⟩
theorem Aah {e : AA} (h : DG e) {code : List UInt8} {s : St} {S : AV} (hS : JO e code s S) (hs : ∀ a f, s.fr a = some f → Ic e.Classes f) (a : Nat) {g : A4} (hg : Ic e.Classes g) :
  ∃ S', GX S (a : Int) g = some ((Fv e.Classes s a g).2, S') ∧ JO e code (Fv e.Classes s a g).1 S' ∧ ((Fv e.Classes s a g).2 ≠ 0 → S'.BU = a) ∧ ((Fv e.Classes s a g).2 = 0 → S'.BU = S.BU) := by
 have i1 := hS.fr (a : Int)
 rw [A3 (by omega), APl] at i1
 unfold GX Fv
 rw [i1]
 rcases hf : s.fr a with _ | f
 ·rw [A1 (by simp), ANu]
  dsimp only
  rw [A3 (by rfl)]
  exact ⟨_, rfl, hS.lay a g _, fun q => absurd rfl q, fun _ => rfl⟩
 ·rw [A3 (by rfl)]
  simp only [ANv]
  rw [show (⟨f.Locals, f.Height, f.Slots⟩ : A4) = f from rfl, show (⟨g.Locals, g.Height, g.Slots⟩ : A4) = g from rfl, hS.env, Z7 h.good (hs a f hf) hg, ANu]
  by_cases hm : (ED e.Classes f g).2 ≠ 0
  ·rw [A3 (by rw [AW]; exact hm), A3 hm, ANu]
   exact ⟨_, rfl, ⟨rfl, hS.code, hS.fr, hS.frn, hS.fresh, hS.Pm, hS.taken⟩, fun _ => rfl, fun q => absurd q hm⟩
  ·rw [A1 (by rw [AW]; exact hm), A1 hm, ANu]
   dsimp only
   rw [A1 (by simp)]
   by_cases hq : (ED e.Classes f g).1 = f
   ·rw [A1 (by rw [Pz.2 hq]; simp), A3 hq]
    exact ⟨_, rfl, ⟨rfl, hS.code, hS.fr, hS.frn, hS.fresh, hS.Pm, hS.taken⟩, fun q => absurd rfl q, fun _ => rfl⟩
   ·rw [A3, A1 hq]
    ·have := hS.lay a (ED e.Classes f g).1 S.BU
     rw [hS.env] at this
     exact ⟨_, rfl, this, fun q => absurd rfl q, fun _ => rfl⟩
    ·rw [Bool.not_eq_true', ← Bool.not_eq_true]
     exact fun q => hq (Pz.1 q)
theorem U0 {e : AA} (h : DG e) {code : List UInt8} {st0 : A4} {g : A4} (hg : Ic e.Classes g) (x : List Int) (hx : x.length ≤ 1048576) :
  ∀ (ts : List Nat) (i : Nat) (s : St) (S : AV), x.drop i = ints ts → MX e code st0 s → (∀ t ∈ ts, t < code.length) → JO e code s S →
   ∃ o, AY (Du (g, 0) x) (S.e.Classes, S.e.AQ, S.e.Fn, S.code, S.BU, S.frames, S.fresh, S.taken, (i : Int)) = some o ∧
    if (EO e.Classes g s ts).2.1 = 0 then ∃ S', o = .inr (S'.e.Classes, S'.e.AQ, S'.e.Fn, S'.code, S'.BU, S'.frames, S'.fresh, S'.taken) ∧ JO e code (EO e.Classes g s ts).2.2 S' else ∃ S', o = .inl ((EO e.Classes g s ts).2.1, S') ∧ S'.BU = (EO e.Classes g s ts).1 ∧ S'.e = e ∧ S'.code = code
 | [], i, s, S, hd, I, _, hS => by
  have hi : x.length ≤ i := by
   unfold ints at hd
   rw [List.map_nil, List.drop_eq_nil_iff] at hd
   exact hd
  refine ⟨_, BP (r := .inr (S.e.Classes, S.e.AQ, S.e.Fn, S.code, S.BU, S.frames, S.fresh, S.taken)) ?_, ?_⟩
  ·unfold Du
   dsimp only
   rw [A1 (by rw [A2]; omega)]
  ·unfold EO
   rw [A3 rfl]
   exact ⟨S, rfl, hS⟩
 | t :: ts, i, s, S, hd, I, ht, hS => by
  have hi : i < x.length := by
   rcases Nat.lt_or_ge i x.length with q | q
   ·exact q
   ·rw [List.drop_eq_nil_iff.2 q] at hd; cases hd
  rw [List.drop_eq_getElem_cons hi] at hd
  unfold ints at hd
  rw [List.map_cons, List.cons.injEq] at hd
  obtain ⟨hd1, hd2⟩ := hd
  obtain ⟨S', hh, hS', hw1, hw2⟩ := Aah h hS I.fok t hg
  have hb : Du (g, 0) x (S.e.Classes, S.e.AQ, S.e.Fn, S.code, S.BU, S.frames, S.fresh, S.taken, (i : Int)) = if (Fv e.Classes s t g).2 ≠ 0 then some (.inr (.inl ((Fv e.Classes s t g).2, S'))) else some (.inl (S'.e.Classes, S'.e.AQ, S'.e.Fn, S'.code, S'.BU, S'.frames, S'.fresh, S'.taken, ((i + 1 : Nat) : Int))) := by
   unfold Du
   dsimp only
   rw [A3 (by rw [A2]; omega), BN hi, hd1, ANu, show (⟨(⟨S.e.Classes, S.e.AQ, S.e.Fn⟩ : AA), S.code, S.frames, S.fresh, S.taken, S.BU⟩ : AV) = S from rfl, show (⟨g.Locals, g.Height, g.Slots⟩ : A4) = g from rfl, hh, ANu]
   dsimp only
   by_cases hq : (Fv e.Classes s t g).2 ≠ 0
   ·rw [A3 hq, A3 (by rw [AW]; exact hq)]
   ·rw [A1 hq, A1 (by rw [AW]; exact hq), CS (by omega)]
  unfold EO
  by_cases hq : (Fv e.Classes s t g).2 ≠ 0
  ·rw [A3 hq] at hb ⊢
   refine ⟨_, BP hb, ?_⟩
   dsimp only
   rw [A1 hq]
   exact ⟨S', rfl, hw1 hq, hS'.env, hS'.code⟩
  ·rw [A1 hq] at hb ⊢
   obtain ⟨a1, a2, a3, f, a4, a5⟩ := Vy h I (ht t (by simp)) hg (Classical.not_not.1 hq)
   obtain ⟨o, h1, h2⟩ := U0 h hg x hx ts (i + 1) _ S' hd2 a1 (fun y hy => ht y (by simp [hy])) hS'
   exact ⟨o, by rw [Dh hb]; exact h1, h2⟩
theorem Ab6 {e : AA} {code : List UInt8} {s : St} {S : AV} (hS : JO e code s S) {n a k : Nat} {i : A9} (hA : i.At = a) (hk : CV i.Op = k) (hk0 : 0 < k) (hn : a + k ≤ n) (hn2 : n ≤ 1048576) (hdom : ∀ x, 0 < s.tk x → x ≤ n) (hsame : 0 < s.tk a → s.tk a = k) :
  ∃ S', Hy S i = some (!Jg s n a k, S') ∧ S'.e = e ∧ S'.code = code ∧ S'.BU = S.BU ∧ (Jg s n a k = false → JO e code (Proofs.YtfcpkcehecmcpaaGreat.lay s a k) S') := by
 have hover : Jg s n a k = false ↔ ∀ j, j < k → ∀ x : Int, Cd S.taken ((a : Int) + j) = some x → x = a := by
  rw [Pi]
  constructor
  ·intro h j hj x hx
   obtain ⟨y, rfl, h1, h2, h3⟩ := (hS.taken _ _).1 hx
   by_cases hya : y = a
   ·rw [hya]
   ·exact absurd (show y < a + k by omega) (h y (hdom y h1) h1 hya (by omega))
  ·intro h y hy h1 h2 h3 h4
   by_cases hle : y ≤ a
   ·have := h 0 (by omega) (y : Int) ((hS.taken _ _).2 ⟨y, rfl, h1, by omega, by omega⟩)
    omega
   ·have := h (y - a) (by omega) (y : Int) ((hS.taken _ _).2 ⟨y, rfl, h1, by omega, by omega⟩)
    omega
 have step : ∀ (T : List (Int × Int)) (j : Nat), j < k → CM S i (T, (a : Int) + j) = if (∃ x : Int, Cd T ((a : Int) + j) = some x ∧ x ≠ a) then some (.inr (.inl (false, ⟨S.e, S.code, S.frames, S.fresh, T, S.BU⟩))) else some (.inl (Da T ((a : Int) + j) a, (a : Int) + (j + 1 : Nat))) := by
  intro T j hj
  unfold CM
  rw [size_eq, Ik, ANu, hA, hk, Cx (n := (a : Int) + (k : Int)) (by omega) (by omega)]
  dsimp only
  rw [A3 (by rw [A2]; omega), Cx (by omega) (by omega)]
  rcases hx : Cd T ((a : Int) + (j : Int)) with _ | x
  ·rw [A1 (by simp), A1 (by rintro ⟨x, q, _⟩; cases q), show (a : Int) + (j : Int) + 1 = (a : Int) + ((j + 1 : Nat) : Int) by omega]
  ·rw [A3 (by rfl), ANv]
   by_cases hxa : x = a
   ·rw [A1 (by simp [hxa]), A1 (by rintro ⟨y, q, q2⟩; cases q; exact q2 hxa), show (a : Int) + (j : Int) + 1 = (a : Int) + ((j + 1 : Nat) : Int) by omega]
   ·rw [A3 (by rw [AW]; exact hxa), A3 ⟨x, rfl, hxa⟩]
 have stop : ∀ T : List (Int × Int), CM S i (T, (a : Int) + k) = some (.inr (.inr T)) := by
  intro T
  unfold CM
  rw [size_eq, Ik, ANu, hA, hk, Cx (n := (a : Int) + (k : Int)) (by omega) (by omega)]
  dsimp only
  rw [A1 (by rw [A2]; omega)]
 have key : ∀ m j T, j + m = k → (∀ b : Int, Cd T b = if (a : Int) ≤ b ∧ b < a + j then some (a : Int) else Cd S.taken b) →
   ((∀ j', j ≤ j' → j' < k → ∀ x : Int, Cd S.taken ((a : Int) + j') = some x → x = a) ∧ ∃ T', AY (CM S i) (T, (a : Int) + j) = some (.inr T') ∧ ∀ b : Int, Cd T' b = if (a : Int) ≤ b ∧ b < a + k then some (a : Int) else Cd S.taken b) ∨
   ((∃ j', j ≤ j' ∧ j' < k ∧ ∃ x : Int, Cd S.taken ((a : Int) + j') = some x ∧ x ≠ a) ∧ ∃ T', AY (CM S i) (T, (a : Int) + j) = some (.inl (false, ⟨S.e, S.code, S.frames, S.fresh, T', S.BU⟩))) := by
  intro m
  induction m with
  | zero =>
   intro j T hj hT
   have : j = k := by omega
   subst this
   exact Or.inl ⟨fun j' h1 h2 => by omega, T, BP (stop T), hT⟩
  | succ m ih =>
   intro j T hj hT
   have hs := step T j (by omega)
   have hTj : Cd T ((a : Int) + j) = Cd S.taken ((a : Int) + j) := by rw [hT, A1 (by omega)]
   rw [hTj] at hs
   by_cases hbad : ∃ x : Int, Cd S.taken ((a : Int) + j) = some x ∧ x ≠ a
   ·rw [A3 hbad] at hs
    exact Or.inr ⟨⟨j, Nat.le_refl _, by omega, hbad⟩, T, BP hs⟩
   ·rw [A1 hbad] at hs
    have hok : ∀ x : Int, Cd S.taken ((a : Int) + j) = some x → x = a := fun x hx => Classical.byContradiction fun q => hbad ⟨x, hx, q⟩
    rcases ih (j + 1) (Da T ((a : Int) + j) a) (by omega) (fun b => by
     rw [Kn, hT b]
     by_cases hb : b = (a : Int) + j
     ·rw [A3 hb, A3 (by omega)]
     ·rw [A1 hb]
      by_cases hb2 : (a : Int) ≤ b ∧ b < a + j
      ·rw [A3 hb2, A3 (by omega)]
      ·rw [A1 hb2, A1 (by omega)]) with ⟨h1, T', h2, h3⟩ | ⟨⟨j', h1, h2, h3⟩, T', h4⟩
    ·refine Or.inl ⟨fun j' q1 q2 => ?_, T', by rw [Dh hs]; exact h2, h3⟩
     by_cases hjj : j' = j
     ·subst hjj; exact hok
     ·exact h1 j' (by omega) q2
    ·exact Or.inr ⟨⟨j', by omega, h2, h3⟩, T', by rw [Dh hs]; exact h4⟩
 unfold Hy
 rw [hA]
 rcases key k 0 S.taken (by omega) (fun b => by rw [A1 (by omega)]) with ⟨h1, T', h2, h3⟩ | ⟨⟨j, h1, h2, x, h3, h4⟩, T', h5⟩
 ·have ho : Jg s n a k = false := hover.2 fun j hj => h1 j (by omega) hj
  rw [show (a : Int) + ((0 : Nat) : Int) = a by omega] at h2
  rw [h2, ANu, ho]
  refine ⟨_, rfl, hS.env, hS.code, rfl, fun _ => ⟨hS.env, hS.code, hS.fr, hS.frn, hS.fresh, hS.Pm, fun b x => ?_⟩⟩
  dsimp only
  rw [h3 b]
  unfold Proofs.YtfcpkcehecmcpaaGreat.lay
  dsimp only
  by_cases hb : (a : Int) ≤ b ∧ b < a + k
  ·rw [A3 hb]
   constructor
   ·intro q
    cases q
    exact ⟨a, rfl, by rw [EP]; omega, hb.1, by rw [EP]; omega⟩
   ·rintro ⟨y, rfl, q1, q2, q3⟩
    by_cases hya : y = a
    ·rw [hya]
    ·rw [upd_ne _ _ hya] at q1 q3
     exact absurd (show y < a + k by omega) (Pi.1 ho y (hdom y q1) q1 hya (by omega))
  ·rw [A1 hb, hS.taken]
   constructor
   ·rintro ⟨y, rfl, q1, q2, q3⟩
    by_cases hya : y = a
    ·subst hya
     have := hsame q1
     omega
    ·exact ⟨y, rfl, by rw [upd_ne _ _ hya]; exact q1, q2, by rw [upd_ne _ _ hya]; exact q3⟩
   ·rintro ⟨y, rfl, q1, q2, q3⟩
    by_cases hya : y = a
    ·subst hya
     rw [EP] at q3
     omega
    ·rw [upd_ne _ _ hya] at q1 q3
     exact ⟨y, rfl, q1, q2, q3⟩
 ·have ho : Jg s n a k = true := by
   rcases hq : Jg s n a k with _ | _
   ·exact absurd (hover.1 hq j h2 x h3) h4
   ·rfl
  rw [show (a : Int) + ((0 : Nat) : Int) = a by omega] at h5
  rw [h5, ANu, ho]
  exact ⟨_, rfl, hS.env, hS.code, rfl, fun q => by cases q⟩
theorem VR {i : A9} (h0 : Hq i.Op = true → 0 ≤ i.A) (h1 : 0 ≤ i.At) (x : Int) : x ∈ ints (Ci i) ↔ (Hq i.Op = true ∧ x = i.A) ∨ (I2 i.Op = false ∧ x = i.At + CV i.Op) := by
 obtain ⟨b, hb⟩ : ∃ b : Nat, i.At + (CV i.Op : Int) = b := ⟨(i.At + CV i.Op).toNat, by omega⟩
 unfold ints Ci
 rw [hb]
 rcases hj : Hq i.Op with _ | _
 ·rcases he : I2 i.Op with _ | _ <;> simp
 ·obtain ⟨k, hk⟩ := APm (h0 hj)
  rw [hk]
  rcases he : I2 i.Op with _ | _
  ·by_cases hlt : k < b
   ·have : ¬ k > b := by omega
    simp [hlt, this]
   ·by_cases hgt : k > b
    ·simp [hlt, hgt, or_comm]
    ·have : k = b := by omega
     simp [this]
  ·simp
theorem OV {i : A9} (h0 : Hq i.Op = true → 0 ≤ i.A) (h1 : 0 ≤ i.At) : (ints (Ci i)).Pairwise (· < ·) := by
 obtain ⟨b, hb⟩ : ∃ b : Nat, i.At + (CV i.Op : Int) = b := ⟨(i.At + CV i.Op).toNat, by omega⟩
 unfold ints Ci
 rw [hb]
 rcases hj : Hq i.Op with _ | _
 ·rcases he : I2 i.Op with _ | _ <;> simp
 ·obtain ⟨k, hk⟩ := APm (h0 hj)
  rw [hk]
  rcases he : I2 i.Op with _ | _
  ·by_cases hlt : k < b
   ·have : ¬ k > b := by omega
    simp [hlt, this]
   ·by_cases hgt : k > b
    ·simp [hlt, hgt]
    ·simp [hlt, hgt]
  ·simp
end Go.Proofs.YtfcpkcehecmcpaaGreat
namespace Go.Proofs.YtfcpkcehecmcpaaGreat
open Go Go.RowKit Go.Pv
theorem Apt {l : List Int} (hl : l.length ≤ 8) {r : List Int} (hr : r.Pairwise (· < ·)) (hm : ∀ a, a ∈ r ↔ a ∈ l) : ∃ x, OC l = some x ∧ Mv x = some r := by
 obtain ⟨r', h1, h2, h3⟩ := PW l (by omega)
 obtain ⟨x, hx, hx2⟩ := Option.bind_eq_some_iff.1 h1
 refine ⟨x, hx, ?_⟩
 rw [hx2, LI h2 hr fun a => (h3 a).trans (hm a).symm]
theorem Zd {e : AA} (h : DG e) {code : List UInt8} (hl : code.length ≤ 4096) {st0 : A4} {s : St} {S : AV} (I : Inv e code st0 s) {a : Nat} (ha : s.new a = true) (hS : JO e code (off s a) S) :
  ∃ S', He S (a : Int) = some ((Ek e code s a).2.1, S') ∧ S'.e = e ∧ S'.code = code ∧ ((Ek e code s a).2.1 = 0 → JO e code (Ek e code s a).2.2 S') ∧ ((Ek e code s a).2.1 ≠ 0 → S'.BU = (Ek e code s a).1) := by
 obtain ⟨f, hf⟩ := MZ (I.new a ha)
 have hfok := I.fok a f hf
 have han : a ≤ code.length := by rcases I.dom a (I.new a ha) with q | q <;> omega
 unfold He Ek
 rw [hf, ANv, hS.code]
 by_cases hn : a < code.length
 ·rw [A1 (by rw [AE]; omega), (Uo (show code.length ≤ Et by simp only [Et]; omega) hn).2, ANu]
  by_cases h1 : (BC code a).2 ≠ 0
  ·rw [A3 (by rw [AW]; exact h1), A3 h1]
   exact ⟨_, rfl, hS.env, rfl, fun q => absurd q h1, fun _ => rfl⟩
  rw [A1 (by rw [AW]; exact h1), A1 h1]
  have h1' := JM (Classical.not_not.1 h1)
  have hS0 : JO e code (off s a) ⟨⟨S.e.Classes, S.e.AQ, S.e.Fn⟩, code, S.frames, S.fresh, S.taken, (a : Int)⟩ := ⟨hS.env, rfl, hS.fr, hS.frn, hS.fresh, hS.Pm, hS.taken⟩
  obtain ⟨S1, t1, t2, t3, t4, t5⟩ := Ab6 hS0 (n := code.length) h1'.2.1 rfl h1'.2.2.1 h1'.2.2.2.1 (by omega) (fun x hx => by
   rcases I.dom x (I.tk x hx).1 with q | q <;> omega) (fun hx => (I.tk a hx).2.2)
  rw [show (⟨(BC code a).1.At, (BC code a).1.Op, (BC code a).1.A, (BC code a).1.B⟩ : A9) = (BC code a).1 from rfl, t1, ANu]
  dsimp only
  by_cases h2 : Jg (off s a) code.length a (CV (BC code a).1.Op) = true
  ·rw [h2, A3 (by rfl), A3 rfl]
   exact ⟨_, rfl, t2, t3, fun q => (by cases q), fun _ => t4⟩
  have h2f : Jg (off s a) code.length a (CV (BC code a).1.Op) = false := by simpa using h2
  have hS1 := t5 h2f
  rw [h2f, A1 (show ¬ ((!(!false)) = true) by simp), A1 (show ¬ (false = true) by simp)]
  have hfr1 : Cd S1.frames (a : Int) = some f := by
   rw [hS1.fr, A3 (by omega), APl]
   exact hf
  rw [t2, hfr1, ANv, show (⟨e.Classes, e.AQ, e.Fn⟩ : AA) = e from rfl, Ack h hfok, ANu]
  by_cases h3 : (Gt e f (BC code a).1).2 ≠ 0
  ·rw [A3 (by rw [AW]; exact h3), A3 h3]
   exact ⟨_, rfl, rfl, t3, fun q => absurd q h3, fun _ => t4⟩
  have h3' := Classical.not_not.1 h3
  rw [A1 (by rw [AW]; exact h3), A1 h3, size_eq, Ik, ANu, QF, ANu, Sb, t3]
  unfold K3
  by_cases h4 : Hq (BC code a).1.Op = true ∧ (BC code a).1.A ≥ code.length
  ·rw [A3 h4.1, A3 (by rw [A2]; exact h4.2), A3 h4, A3 (by simp), ANu]
   exact ⟨_, rfl, rfl, rfl, fun q => (by cases q), fun _ => t4⟩
  rw [A1 h4]
  obtain ⟨p, hp, hpm, hpl⟩ : ∃ p : List Int, (if Hq (BC code a).1.Op = true then (if decide ((BC code a).1.A ≥ (code.length : Int)) = true then (some (Sum.inl ((50 : Int), (⟨e, code, S1.frames, S1.fresh, S1.taken, S1.BU⟩ : AV)) : (Int × AV) ⊕ List Int)) else ((app 17592186044416 ([] : List Int) ([(BC code a).1.A] : List Int)).bind fun x573 => some (.inr (x573)))) else (some (.inr []))) = some (.inr p) ∧ (∀ x, x ∈ p ↔ Hq (BC code a).1.Op = true ∧ x = (BC code a).1.A) ∧ p.length ≤ 1 := by
   by_cases hj : Hq (BC code a).1.Op = true
   ·rw [A3 hj, A1 (by rw [A2]; exact fun q => h4 ⟨hj, q⟩), CZ (by simp), ANu]
    exact ⟨_, rfl, fun x => by simp [hj], by simp⟩
   ·rw [A1 hj]
    exact ⟨_, rfl, fun x => by simp [hj], by simp⟩
  rw [hp, ANu]
  dsimp only
  rw [ANu, Cx (n := (a : Int) + (CV (BC code a).1.Op : Int)) (by omega) (by omega)]
  by_cases h5 : I2 (BC code a).1.Op = false ∧ (BC code a).1.At + CV (BC code a).1.Op = code.length
  ·rw [A3 (by rw [h5.1]; rfl), A3 (by rw [AE, ← h1'.2.1]; exact h5.2), A3 h5, A3 (by simp), ANu]
   exact ⟨_, rfl, rfl, rfl, fun q => (by cases q), fun _ => t4⟩
  rw [A1 h5, A1 (show ¬ ((Ci (BC code a).1, (0 : Int)).2 ≠ 0) from fun q => q rfl)]
  obtain ⟨p2, hp2, hpm2, hpl2⟩ : ∃ p2 : List Int, (if (!I2 (BC code a).1.Op) = true then (if ((a : Int) + (CV (BC code a).1.Op : Int) == (code.length : Int)) = true then (some (Sum.inl ((51 : Int), (⟨e, code, S1.frames, S1.fresh, S1.taken, S1.BU⟩ : AV)) : (Int × AV) ⊕ List Int)) else ((app 17592186044416 p ([(a : Int) + (CV (BC code a).1.Op : Int)] : List Int)).bind fun x848 => some (.inr (x848)))) else (some (.inr p))) = some (.inr p2) ∧ (∀ x, x ∈ p2 ↔ x ∈ ints (Ci (BC code a).1)) ∧ p2.length ≤ 2 := by
   have hnm := VR (i := (BC code a).1) (U3 (Classical.not_not.1 h1)) (by rw [h1'.2.1]; omega)
   by_cases he : I2 (BC code a).1.Op = true
   ·rw [A1 (by simp [he])]
    refine ⟨_, rfl, fun x => ?_, by omega⟩
    rw [hpm, hnm]
    constructor
    ·exact Or.inl
    ·rintro (q | q)
     ·exact q
     ·rw [he] at q; cases q.1
   ·have he' : I2 (BC code a).1.Op = false := by simpa using he
    rw [A3 (by simp [he']), A1 (by rw [AE, ← h1'.2.1]; exact fun q => h5 ⟨he', q⟩), CZ (by simp; omega), ANu]
    refine ⟨_, rfl, fun x => ?_, by simp; omega⟩
    rw [AN7, hpm, hnm, AN8, h1'.2.1]
    constructor
    ·rintro (q | q)
     ·exact Or.inl q
     ·exact Or.inr ⟨he', q⟩
    ·rintro (q | q)
     ·exact Or.inl q
     ·exact Or.inr q.2
  rw [hp2, ANu]
  dsimp only
  obtain ⟨x1, hx1, hx2⟩ := Apt (l := p2) (by omega) (OV (i := (BC code a).1) (U3 (Classical.not_not.1 h1)) (by rw [h1'.2.1]; omega)) (fun x => (hpm2 x).symm)
  rw [hx1, ANu, hx2, ANu]
  have happ := Pj h hfok (BC code a).1 h3'
  have honv : K3 (BC code a).1 code.length = (Ci (BC code a).1, 0) := by unfold K3; rw [A1 h4, A1 h5]
  obtain ⟨_, on2⟩ := S8 h1'.2.1 h1'.2.2.2.1 (by omega) (by rw [honv])
  have I1 : MX e code st0 (lay (off s a) a (CV (BC code a).1.Op)) := TP I ha (Classical.not_not.1 h1) h2f
  have hx8 : (ints (Ci (BC code a).1)).length ≤ 1048576 := by
   unfold ints Ci
   rw [ANz, ANy, ANy]
   split <;> split <;> split <;> simp
  obtain ⟨o, ho1, E5⟩ := U0 h happ.1 (ints (Ci (BC code a).1)) hx8 (Ci (BC code a).1) 0 _ _ (by rw [List.drop_zero]) I1 on2 hS1
  have hpair : (Gt e f (BC code a).1) = ((Gt e f (BC code a).1).1, (0 : Int)) := Prod.ext rfl h3'
  rw [hpair]
  rw [show ((0 : Nat) : Int) = 0 from rfl, t2, t3] at ho1
  dsimp only at ho1 ⊢
  rw [ho1, ANu]
  by_cases hz : (EO e.Classes (Gt e f (BC code a).1).1 (lay (off s a) a (CV (BC code a).1.Op)) (Ci (BC code a).1)).2.1 = 0
  ·rw [A3 hz] at E5
   obtain ⟨S', rfl, hS'⟩ := E5
   dsimp only
   rw [hz]
   exact ⟨S', rfl, hS'.env, hS'.code, fun _ => hS', fun q => absurd rfl q⟩
  ·rw [A1 hz] at E5
   obtain ⟨S', rfl, hw, he1, he2⟩ := E5
   exact ⟨S', rfl, he1, he2, fun q => absurd q hz, fun _ => hw⟩
 ·rw [A3 (by rw [AE]; omega), VW hn]
  dsimp only
  rw [A3 (by omega)]
  exact ⟨_, rfl, hS.env, rfl, fun q => (by cases q), fun _ => rfl⟩
theorem JO.off {e : AA} {code : List UInt8} {s : St} {S : AV} (h : JO e code s S) (a : Nat) : JO e code (off s a) ⟨S.e, S.code, S.frames, I5 S.fresh (a : Int), S.taken, S.BU⟩ := by
 refine ⟨h.env, h.code, h.fr, h.frn, fun k => ?_, Zq h.Pm _, h.taken⟩
 dsimp only
 rw [VQ _ _ _ h.Pm]
 unfold Proofs.YtfcpkcehecmcpaaGreat.off
 dsimp only
 by_cases hk : k = (a : Int)
 ·rw [A3 hk, hk, APl, EP]
  simp
 ·rw [A1 hk, h.fresh k]
  constructor
  ·rintro ⟨h0, h1⟩
   exact ⟨h0, by rw [upd_ne _ _ (by omega)]; exact h1⟩
  ·rintro ⟨h0, h1⟩
   rw [upd_ne _ _ (by omega)] at h1
   exact ⟨h0, h1⟩
theorem XO {e : AA} (h : DG e) {code : List UInt8} (hl : code.length ≤ 4096) {st0 : A4} : ∀ (k : Nat) (s : St) (S : AV) (r : Int × Int × St), Inv e code st0 s → JO e code s S → Ue e code k s = some r →
  ∃ S', AY (Gb code) (S.e.Classes, S.e.AQ, S.e.Fn, S.code, S.BU, S.taken, S.fresh, S.frames, 0) = some (S'.e.Classes, S'.e.AQ, S'.e.Fn, S'.code, S'.BU, S'.frames, S'.fresh, S'.taken, r.2.1) ∧ (r.2.1 = 0 → JO e code r.2.2 S') ∧ (r.2.1 ≠ 0 → S'.BU = r.1)
 | 0, s, S, r, _, _, hr => by cases hr
 | k + 1, s, S, r, I, hS, hr => by
  unfold Ue at hr
  rcases hq : KY s code.length with _ | a
  ·rw [hq] at hr
   dsimp only at hr
   cases hr
   have hnil : S.fresh = [] := by
    rcases hfr : S.fresh with _ | ⟨p, l⟩
    ·rfl
    ·have := (hS.fresh p.1).1 ((JC _ _).2 (by rw [hfr]; simp))
     have hd := I.dom p.1.toNat (I.new _ this.2)
     have := PM hq p.1.toNat (by omega)
     rw [‹0 ≤ p.1 ∧ s.new p.1.toNat = true›.2] at this
     cases this
   refine ⟨S, BP ?_, fun _ => hS, fun q => absurd rfl q⟩
   unfold Gb
   dsimp only
   rw [hnil, A1 (by simp)]
  ·rw [hq] at hr
   dsimp only at hr
   obtain ⟨l1, l2, l3⟩ := Mk hq
   have hmem : (a : Int) ∈ S.fresh.map Prod.fst := (JC _ _).1 ((hS.fresh a).2 ⟨by omega, by rw [APl]; exact l1⟩)
   have hpos : decide ((S.fresh.length : Int) > 0) = true := by
    rw [A2]
    rcases hfr : S.fresh with _ | ⟨p, l⟩
    ·rw [hfr] at hmem; cases hmem
    ·simp
   obtain ⟨m, m1, m2, m3, m4⟩ := Abh S.fresh (code.length : Int)
   have hma : m = (a : Int) := by
    have := m4 _ hmem
    rcases m2 with q | q
    ·omega
    ·obtain ⟨q1, q2⟩ := (hS.fresh m).1 ((JC _ _).2 q)
     rcases Nat.lt_or_ge m.toNat a with q3 | q3
     ·rw [l3 _ q3] at q2; cases q2
     ·omega
   rw [hma] at m1
   obtain ⟨S', v1, v2, v3, v4, v5⟩ := Zd h hl I l1 (hS.off a)
   have hb : Gb code (S.e.Classes, S.e.AQ, S.e.Fn, S.code, S.BU, S.taken, S.fresh, S.frames, 0) = if (Ek e code s a).2.1 ≠ 0 then some (.inr (S'.e.Classes, S'.e.AQ, S'.e.Fn, S'.code, S'.BU, S'.frames, S'.fresh, S'.taken, (Ek e code s a).2.1)) else some (.inl (S'.e.Classes, S'.e.AQ, S'.e.Fn, S'.code, S'.BU, S'.taken, S'.fresh, S'.frames, (Ek e code s a).2.1)) := by
    unfold Gb
    dsimp only
    rw [A3 hpos, m1, ANu]
    unfold Zo
    dsimp only
    rw [ANu, show (⟨(⟨S.e.Classes, S.e.AQ, S.e.Fn⟩ : AA), S.code, S.frames, I5 S.fresh (a : Int), S.taken, S.BU⟩ : AV) = ⟨S.e, S.code, S.frames, I5 S.fresh (a : Int), S.taken, S.BU⟩ from rfl, v1, ANu]
    by_cases h0 : (Ek e code s a).2.1 ≠ 0
    ·rw [A3 h0, A3 (by rw [AW]; exact h0)]
    ·rw [A1 h0, A1 (by rw [AW]; exact h0)]
   by_cases h0 : (Ek e code s a).2.1 ≠ 0
   ·rw [A3 h0] at hr hb
    cases hr
    exact ⟨S', BP hb, fun q => absurd q h0, v5⟩
   ·rw [A1 h0] at hr hb
    have h0' := Classical.not_not.1 h0
    obtain ⟨J, _⟩ := Us h I l1 h0'
    obtain ⟨S2, o1, o2, o3⟩ := XO h hl k _ S' r J (v4 h0') hr
    rw [h0'] at hb
    exact ⟨S2, by rw [Dh hb]; exact o1, o2, o3⟩
theorem Afi {e : AA} {code : List UInt8} (hl : code.length ≤ 4096) {st0 : A4} {s : St} {S : AV} (I : Inv e code st0 s) (hS : JO e code s S) (hne : 0 < code.length) : U6 S.frames = some ((FA s code.length).map fun x => x.At) := by
 have hmem : ∀ k : Int, k ∈ S.frames.map Prod.fst ↔ 0 ≤ k ∧ k < code.length ∧ (s.fr k.toNat).isSome = true := by
  intro k
  rw [← JC, hS.fr]
  by_cases h0 : 0 ≤ k
  ·rw [A3 h0]
   constructor
   ·intro q
    refine ⟨h0, ?_, q⟩
    rcases I.dom _ q with q2 | q2 <;> omega
   ·rintro ⟨_, _, q⟩; exact q
  ·rw [A1 h0]
   constructor
   ·intro q; cases q
   ·rintro ⟨q, _⟩; exact absurd q h0
 have hent : ∀ n, ((FA s n).map fun x => x.At).Pairwise (· < ·) ∧ ∀ k : Int, k ∈ ((FA s n).map fun x => x.At) ↔ 0 ≤ k ∧ k < n ∧ (s.fr k.toNat).isSome = true := by
  intro n
  induction n with
  | zero =>
   refine ⟨by simp [FA], fun k => ?_⟩
   simp [FA]
   omega
  | succ n ih =>
   rw [Py, AO0]
   rcases hf : s.fr n with _ | f
   ·simp only [List.map_nil, AO9]
    refine ⟨ih.1, fun k => ?_⟩
    rw [ih.2]
    constructor
    ·rintro ⟨q1, q2, q3⟩; exact ⟨q1, by omega, q3⟩
    ·rintro ⟨q1, q2, q3⟩
     refine ⟨q1, ?_, q3⟩
     by_cases hk : k.toNat = n
     ·rw [hk, hf] at q3; cases q3
     ·omega
   ·simp only [List.map_cons, List.map_nil]
    refine ⟨?_, fun k => ?_⟩
    ·rw [APe]
     refine ⟨ih.1, List.pairwise_singleton _ _, fun x hx y hy => ?_⟩
     rw [AN8] at hy
     have := (ih.2 x).1 hx
     omega
    ·rw [AN7, ih.2, AN8]
     constructor
     ·rintro (⟨q1, q2, q3⟩ | q)
      ·exact ⟨q1, by omega, q3⟩
      ·subst q
       exact ⟨by omega, by omega, by rw [APl, hf]; rfl⟩
     ·rintro ⟨q1, q2, q3⟩
      by_cases hk : k = (n : Int)
      ·exact Or.inr hk
      ·exact Or.inl ⟨q1, by omega, q3⟩
 obtain ⟨he1, he2⟩ := hent code.length
 have hsort : Ep (S.frames.map Prod.fst) = ((FA s code.length).map fun x => x.At) := LI (Mm hS.frn) he1 fun k => by rw [ME, hmem, he2]
 have hlen : S.frames.length ≤ 4096 := by
  have h1 := congrArg List.length hsort
  rw [NY, ANz, ANz] at h1
  have := ON s code.length
  omega
 unfold U6
 rw [A3, hsort]
 rw [APn, A2, List.all_eq_true]
 refine ⟨by omega, fun p hp => ?_⟩
 have := (hmem p.1).1 (List.mem_map.2 ⟨p, hp, rfl⟩)
 rw [APn, A2, A2]
 omega
theorem QO {s : St} {n : Nat} : ∀ x ∈ FA s n, x.Dead = false ∧ 0 ≤ x.At ∧ x.At < n ∧ s.fr x.At.toNat = some x.Frame := by
 intro x hx
 unfold FA at hx
 rw [List.mem_filterMap] at hx
 obtain ⟨a, ha, hx⟩ := hx
 rw [Option.map_eq_some_iff] at hx
 obtain ⟨f, hf, rfl⟩ := hx
 rw [AOx] at ha
 exact ⟨rfl, by dsimp only; omega, by dsimp only; omega, by dsimp only; rw [APl]; exact hf⟩
theorem Aac {e : AA} {code : List UInt8} (hl : code.length ≤ 4096) {s : St} {S : AV} (hS : JO e code s S) : AY (G8 S ((FA s code.length).map fun x => x.At)) (([] : List BO), 0) = some (FA s code.length) := by
 have hlen := ON s code.length
 have := Kr (FA s code.length) id (body := G8 S ((FA s code.length).map fun x => x.At)) (fun i hi acc ha => by
  unfold G8
  dsimp only
  obtain ⟨q1, q2, q3, q4⟩ := QO _ (AOz hi)
  rw [ANz, A3 (by rw [A2]; omega), show idx ((FA s code.length).map fun x => x.At) (i : Int) = some ((FA s code.length)[i].At) from by rw [BN (by rw [ANz]; exact hi), List.getElem_map], ANu, hS.fr, A3 q2, q4, ANv, CZ (by simp; omega), ANu, CS (by omega)]
  have : (⟨(FA s code.length)[i].At, false, ⟨(FA s code.length)[i].Frame.Locals, (FA s code.length)[i].Frame.Height, (FA s code.length)[i].Frame.Slots⟩⟩ : BO) = (FA s code.length)[i] := by
   generalize (FA s code.length)[i] = x at *
   obtain ⟨A, D, F⟩ := x
   dsimp only at q1
   rw [q1]
  rw [this]
  rfl) (fun acc => by
  unfold G8
  dsimp only
  rw [ANz, A1 (by rw [A2]; omega)])
 rw [List.map_id] at this
 exact this
end Go.Proofs.YtfcpkcehecmcpaaGreat
namespace Go.Proofs.YtfcpkcehecmcpaaGreat
open Go Go.RowKit Go.Pv
structure YT (e : AA) (L : Int) (code : List UInt8) (l : List BO) : Prop where
 env : DG e
 few : code.length ≤ 4096
 pos : 0 < code.length
 ex : ∃ s st0, Aso e.Classes (OA e).Bv L st0 ∧ Inv e code st0 s ∧ (∀ b, s.new b = false) ∧ l = FA s code.length
theorem Acp (e : AA) (code : List UInt8) (f : A4) (w : Int) : JO e code (st1 f) ⟨e, code, Da [] 0 f, Da [] 0 (), [], w⟩ := by
 refine ⟨rfl, rfl, fun k => ?_, by simp [Da], fun k => ?_, by simp [Da], fun b x => ?_⟩
 ·unfold st1
  dsimp only
  rw [Kn]
  by_cases hk : k = 0
  ·rw [A3 hk, A3 (by omega), A3 (by omega)]
  ·rw [A1 hk]
   by_cases h0 : 0 ≤ k
   ·rw [A3 h0, A1 (by omega)]; rfl
   ·rw [A1 h0]; rfl
 ·unfold st1
  dsimp only
  rw [Kn]
  by_cases hk : k = 0
  ·rw [A3 hk, hk]; simp
  ·rw [A1 hk]
   constructor
   ·intro q; cases q
   ·rintro ⟨q1, q2⟩
    rw [A2] at q2
    omega
 ·unfold st1
  dsimp only
  constructor
  ·intro q; cases q
  ·rintro ⟨y, _, q, _⟩; omega
theorem Tc {α : Type} {n : Nat} {x : α} {a : Nat} (h : a ≤ n) : (List.replicate (n + 1) x)[a]? = some x := by
 rw [ANx (by rw [List.length_replicate]; omega), List.getElem_replicate]
theorem Acw (n : Nat) (f : A4) : Jl n (st1 f) ⟨(List.replicate (n + 1) false).set 0 true, (List.replicate (n + 1) zf).set 0 f, (List.replicate (n + 1) false).set 0 true, List.replicate (n + 1) 0⟩ := by
 unfold st1
 refine ⟨⟨by simp, fun a ha => ?_⟩, ⟨by simp, fun a ha g hg => ?_⟩, ⟨by simp, fun a ha => ?_⟩, ⟨by simp, fun a ha => ?_⟩⟩
 ·dsimp only
  rw [MF (n := n) (by simp) (by omega)]
  by_cases h : a = 0
  ·rw [A3 h, A3 h]; rfl
  ·rw [A1 h, A1 h, Tc ha]; rfl
 ·dsimp only at *
  rw [MF (n := n) (by simp) (by omega)]
  by_cases h : a = 0
  ·rw [A3 h]
   rw [A3 h] at hg
   exact hg
  ·rw [A1 h] at hg; cases hg
 ·dsimp only
  rw [MF (n := n) (by simp) (by omega)]
  by_cases h : a = 0
  ·rw [A3 h, decide_eq_true h]
  ·rw [A1 h, decide_eq_false h, Tc ha]
 ·dsimp only
  rw [Tc ha]; rfl
theorem UM {α : Type} {b : Nat} {n : Nat} {x : α} (hn : n ≤ 4097) (hb : b ≤ 64) : S0 b (n : Int) x = some (List.replicate n x) := by
 unfold S0
 rw [A3, APl]
 refine ⟨by omega, ?_, by omega⟩
 have : (b : Int) * (n : Int) ≤ 64 * 4097 := Int.mul_le_mul (by omega) (by omega) (by omega) (by omega)
 omega
theorem Ab1 (e : AA) (L : Int) (code : List UInt8) (h : Hu e.Classes) : ∃ r, Mh e L code = some r ∧ HK e L code = some r ∧ (r.2.2 = 0 → r.2.1 = 0 ∧ YT e L code r.1) := by
 obtain ⟨m, hm⟩ := Ab4 e L h
 have hm1 : M4 e L = some m := by rw [ABr e L h, hm]
 unfold Mh Nm HK
 rw [show (⟨e.Classes, e.AQ, e.Fn⟩ : AA) = e from rfl, hm, hm1, ANu, ANu]
 by_cases h0 : m ≠ 0
 ·rw [A3 (by rw [AW]; exact h0), A3 (by rw [AW]; exact h0), ANu]
  dsimp only
  rw [A3 (by rw [AW]; exact h0)]
  exact ⟨_, rfl, rfl, fun q => absurd q h0⟩
 have c0 : (m != 0) = false := by rw [← Bool.not_eq_true, AW]; exact h0
 simp only [c0, Bool.false_eq_true, if_false]
 have hm0 := Classical.not_not.1 h0
 subst hm0
 obtain ⟨hE, s0, f0, hs0, hf0⟩ := AC0 e L h hm
 by_cases hl : (code.length : Int) > 4096
 ·have c1 : decide ((code.length : Int) > 4096) = true := decide_eq_true hl
  simp only [c1, if_true, ANu]
  rw [A3 (by simp)]
  exact ⟨_, rfl, rfl, fun q => (by cases q)⟩
 have c1 : decide ((code.length : Int) > 4096) = false := decide_eq_false hl
 simp only [c1, Bool.false_eq_true, if_false]
 have hl' : code.length ≤ 4096 := by omega
 have hfn := hE.fn
 have hs0' : s0 = OA e := by
  have : idx e.AQ e.Fn = some (OA e) := GI hfn.1 hfn.2 ⟨[], 0⟩
  rw [hs0] at this
  exact Option.some.inj this
 subst hs0'
 obtain ⟨r0, hr0, hB⟩ := XS e.Classes (OA e).Bv L
 rw [hf0] at hr0
 have hr0' := Option.some.inj hr0
 rw [← hr0'] at hB
 have hB' := hB rfl
 dsimp only at hB'
 rw [hs0, ANu, start_eq, hf0, ANu]
 rw [show wr ((code.length : Int) + 1) = ((code.length + 1 : Nat) : Int) from CS (by omega)]
 have hi : ∀ {α : Type} (x : α), idx (List.replicate (code.length + 1) x) 0 = some x := fun x => FQ (a := 0) (Tc (by omega))
 rw [UM (by omega) (by omega), ANu, UM (by omega) (by omega), ANu, ANu, UM (by omega) (by omega), ANu, ANu, hf0, ANu, hi, ANu, hi, ANu, ANu]
 dsimp only
 rw [show (⟨f0.Locals, f0.Height, f0.Slots⟩ : A4) = f0 from rfl]
 have hI := A8g hE (code := code) hB'.fok
 obtain ⟨r, hr, hrok⟩ := CB hE (mu e.Classes code.length (st1 f0) + 1) (st1 f0) hI (by omega)
 obtain ⟨S', p1, p2, p3⟩ := XO hE hl' _ (st1 f0) _ r hI (Acp e code f0 0) hr
 obtain ⟨o, q1, q2⟩ := YC hE hl' _ (st1 f0) _ r hI (Acw code.length f0) hr
 have hleast : Ph (st1 f0) code.length = 0 := by
  unfold Ph
  rcases hq : KY (st1 f0) code.length with _ | a
  ·have := PM hq 0 (by omega)
   unfold st1 at this
   simp at this
  ·have := (Mk hq).1
   unfold st1 at this
   dsimp only at this ⊢
   rw [A2] at this
   omega
 rw [hleast] at q1
 dsimp only at p1 q1
 rw [p1, ANu]
 rw [show ((0 : Int).toNat) = 0 from rfl]
 rw [q1, ANu]
 dsimp only
 by_cases h1 : r.2.1 ≠ 0
 ·rw [A1 h1] at q2
  rw [A3 (by rw [AW]; exact h1), ANu]
  dsimp only
  rw [A3 (by rw [AW]; exact h1), q2, p3 h1]
  exact ⟨_, rfl, rfl, fun q => absurd q h1⟩
 ·have h1' := Classical.not_not.1 h1
  rw [A3 h1'] at q2
  obtain ⟨R', rfl, hR'⟩ := q2
  obtain ⟨_, J, hnew⟩ := hrok h1'
  rw [A1 (by rw [AW]; exact h1), ANu]
  dsimp only
  rw [A1 (by simp), ANu, show (⟨(⟨S'.e.Classes, S'.e.AQ, S'.e.Fn⟩ : AA), S'.code, S'.frames, S'.fresh, S'.taken, S'.BU⟩ : AV) = S' from rfl]
  have hS' := p2 h1'
  have hpos : 0 < code.length := by
   obtain ⟨f, hf, _⟩ := J.start
   have D := J.clo 0 f hf (hnew 0)
   exact (JM D.ins).1
  rw [Afi hl' J hS' hpos, ANu, Aac hl' hS', ANu, Adl hl' hR', ANu]
  exact ⟨_, rfl, rfl, fun _ => ⟨rfl, hE, hl', hpos, r.2.2, f0, hB', J, hnew, rfl⟩⟩
end Go.Proofs.YtfcpkcehecmcpaaGreat
namespace Go.Proofs.YtfcpkcehecmcpaaGreat
open Go Go.RowKit Go.Pv
def Vw (c : A6) : Prop := c.Fields.length ≤ Et
structure J8 (m : AL) : Prop where
 cl : m.Classes.length ≤ Et
 fl : m.Funcs.length ≤ Et
 tl : m.Ca.length ≤ Et
 c : ∀ x ∈ m.Classes, Vw x
 f : ∀ x ∈ m.Funcs, Xf x
 t : ∀ x ∈ m.Ca, x.length ≤ Et
theorem Aa2 (l : List B6) (h : l.length ≤ Et) : Dd l = some l := by
 unfold Dd
 rw [CZ (by simp only [Et] at h; simp; omega)]; simp
theorem Yl (l : List A6) (hl : l.length ≤ Et) (h : ∀ x ∈ l, Vw x) : Ha l = some l := by
 unfold Ha
 rw [Kr l id (fun i hi acc ha => by
  unfold EE
  simp only [Et] at hl
  dsimp only
  rw [A3 (by simpa using hi), BN hi, ANu, Aa2 _ (h _ (AOz hi)), ANu, CZ (by simp; omega), ANu, CS (by omega)]
  rfl) (fun acc => by unfold EE; simp)]
 simp
theorem ZB (m : AL) (h : J8 m) : Hv m = some m := by
 have hf := h.fl
 have ht := h.tl
 simp only [Et] at hf ht
 unfold Hv
 rw [Yl _ h.cl h.c, ANu, Kr m.Funcs id (fun i hi acc ha => by
  unfold EU
  dsimp only
  rw [A3 (by simpa using hi), BN hi, ANu]
  rw [show (⟨m.Funcs[i].Name, (⟨m.Funcs[i].Sig.Bv, m.Funcs[i].Sig.Result⟩ : Bl), m.Funcs[i].Locals, m.Funcs[i].Code⟩ : BX) = m.Funcs[i] from rfl, Ao0 _ (h.f _ (AOz hi)), ANu, CZ (by simp; omega), ANu, CS (by omega)]
  rfl) (fun acc => by unfold EU; simp), ANu, Kr m.Ca id (fun i hi acc ha => by
  unfold ER
  dsimp only
  rw [A3 (by simpa using hi), BN hi, ANu, ZZ _ (h.t _ (AOz hi)), ANu, CZ (by simp; omega), ANu, CS (by omega)]
  rfl) (fun acc => by unfold ER; simp), ANu]
 simp
theorem eqF (l : List B6) (h : l.length ≤ Et) : DC l l = some true := by
 simp only [Et] at h
 unfold DC
 rw [A1 (by simp), Jp l (r := .inr ()) (fun i hi => by
  unfold CH
  rw [A3 (by simpa using hi), BN hi, ANu, ANu, A1 (by simp), CS (by omega)]) (by unfold CH; simp)]
 rfl
theorem Y0 (l : List A6) (hl : l.length ≤ Et) (h : ∀ x ∈ l, Vw x) : FB l l = some true := by
 simp only [Et] at hl
 unfold FB
 rw [A1 (by simp), Jp l (r := .inr ()) (fun i hi => by
  unfold DN
  rw [A3 (by simpa using hi), BN hi]
  simp only [ANu]
  rw [A1 (by simp), A1 (by simp), eqF _ (h _ (AOz hi)), ANu, A1 (by simp), CS (by omega)]) (by unfold DN; simp)]
 rfl
theorem UU (m : AL) (h : J8 m) : FU m m = some true := by
 have hf := h.fl
 have ht := h.tl
 simp only [Et] at hf ht
 unfold FU
 rw [A1 (by simp), Y0 _ h.cl h.c, ANu, A1 (by simp), A1 (by simp), A1 (by simp), Jp m.Funcs (r := .inr ()) (fun i hi => by
  unfold DV
  rw [A3 (by simpa using hi), BN hi]
  simp only [ANu]
  rw [Ajw _ (h.f _ (AOz hi)), ANu, A1 (by simp), CS (by omega)]) (by unfold DV; simp), ANu]
 dsimp only
 rw [Jp m.Ca (r := .inr ()) (fun i hi => by
  unfold DW
  rw [A3 (by simpa using hi), BN hi]
  simp only [ANu]
  rw [eqB _ (h.t _ (AOz hi)), ANu, A1 (by simp), CS (by omega)]) (by unfold DW; simp)]
 rfl
theorem J8.tab {m : AL} (h : J8 m) : Hu m.Classes := ⟨h.cl, fun x hx => h.c x hx⟩
def MY (m : AL) (fn : Int) : AA := ⟨m.Classes, m.Funcs.map (·.Sig), fn⟩
theorem Awp (m : AL) (h : J8 m) (fn : Int) : NM m fn = some (if 0 ≤ fn ∧ fn < m.Funcs.length then (MY m fn, true) else (⟨[], [], 0⟩, false)) := by
 have hcl := h.cl
 have hfl := h.fl
 simp only [Et] at hcl hfl
 unfold NM
 by_cases h0 : fn < 0
 ·rw [A3 (by rw [A2]; exact h0), A1 (by omega)]
 ·rw [A1 (by rw [A2]; exact h0)]
  by_cases h1 : fn ≥ (m.Funcs.length : Int)
  ·rw [A3 (by rw [A2]; exact h1), A1 (by omega)]
  ·rw [A1 (by rw [A2]; exact h1), A3 (by omega), Kr m.Classes id (fun i hi acc ha => by
    unfold Ka
    dsimp only
    rw [A3 (by rw [A2]; omega), BN hi, ANu, Aa2 _ (h.c _ (AOz hi)), ANu, CZ (by simp; omega), ANu, CS (by omega)]
    rfl) (fun acc => by unfold Ka; simp), ANu, Kr m.Funcs (·.Sig) (fun i hi acc ha => by
    unfold Kj
    dsimp only
    rw [A3 (by rw [A2]; omega), BN hi, ANu, Aca _ (h.f _ (AOz hi)).1, ANu, CZ (by simp; omega), ANu, CS (by omega)]) (fun acc => by unfold Kj; simp), ANu, List.map_id]
   rfl
theorem Ax4 (m : AL) (h : J8 m) (fn : Int) : IL m fn = some (if 0 ≤ fn ∧ fn < m.Funcs.length then (MY m fn, true) else (⟨[], [], 0⟩, false)) := by
 have hfl := h.fl
 simp only [Et] at hfl
 unfold IL
 by_cases h0 : fn < 0
 ·rw [A3 (by rw [A2]; exact h0), A1 (by omega)]
 ·rw [A1 (by rw [A2]; exact h0)]
  by_cases h1 : fn ≥ (m.Funcs.length : Int)
  ·rw [A3 (by rw [A2]; exact h1), A1 (by omega)]
  ·rw [A1 (by rw [A2]; exact h1), A3 (by omega), Kr m.Funcs (·.Sig) (fun i hi acc ha => by
    unfold Gk
    dsimp only
    rw [A3 (by rw [A2]; omega), BN hi, ANu, CZ (by simp; omega), ANu, CS (by omega)]) (fun acc => by unfold Gk; simp), ANu]
   rfl
def V3 (code : List UInt8) (l : List BO) : List A9 := l.map fun x => (BC code x.At.toNat).1
def Arq (l : List BO) : Int := l.foldl (fun s x => if s < x.Frame.Height then x.Frame.Height else s) 0
def Ej (m : AL) (fn : Int) : BX := (m.Funcs[fn.toNat]?).getD ⟨[], ⟨[], 0⟩, 0, []⟩
structure WX (m : AL) (fn : Int) (l : List A9) : Prop where
 rng : 0 ≤ fn ∧ fn < m.Funcs.length
 ex : ∃ es, YT (MY m fn) (Ej m fn).Locals (Ej m fn).Code es ∧ l = V3 (Ej m fn).Code es
theorem Ago (m : AL) (h : J8 m) (fn : Int) : ∃ r, Dg m fn = some r ∧ Kx m fn = some ((if r.2.2.2 = 0 then some (⟨r.1, r.2.1⟩ : Cf) else none), r.2.2.1, r.2.2.2) ∧ (r.2.2.2 = 0 → r.2.2.1 = 0 ∧ WX m fn r.1) ∧ (r.2.2.2 ≠ 0 → r.2.1 = 0) := by
 unfold Dg Kx
 rw [show (⟨m.Name, m.Classes, m.Funcs, m.Ca⟩ : AL) = m from rfl, Awp m h, Ax4 m h, ANu, ANu]
 by_cases hfn : 0 ≤ fn ∧ fn < m.Funcs.length
 ·rw [A3 hfn]
  dsimp only
  have hx : idx m.Funcs fn = some (Ej m fn) := GI hfn.1 hfn.2 _
  have hmem : Ej m fn ∈ m.Funcs := QB (by omega) rfl
  have hcode := (h.f _ hmem).2
  simp only [Et] at hcode
  have c0 : ((!true) = true) = False := by simp
  simp only [c0, if_false, hx, ANu]
  rw [show (⟨(MY m fn).Classes, (MY m fn).AQ, (MY m fn).Fn⟩ : AA) = MY m fn from rfl]
  obtain ⟨r, h1, h2, h3⟩ := Ab1 (MY m fn) (Ej m fn).Locals (Ej m fn).Code h.tab
  rw [h1, h2, ANu, ANu]
  by_cases h0 : r.2.2 = 0
  ·have c1 : ((r.2.2 != 0) = true) = False := by rw [h0]; simp
   simp only [c1, if_false]
   obtain ⟨h4, h5⟩ := h3 h0
   obtain ⟨s, st0, hB, J, hnew, hl⟩ := h5.ex
   have hlen := ON s (Ej m fn).Code.length
   have h6 := h5.few
   rw [← hl] at hlen
   have hdec : ∀ x ∈ r.1, En (Ej m fn).Code x.At = some ((BC (Ej m fn).Code x.At.toNat)) ∧ I7 (Ej m fn).Code x.At = some ((BC (Ej m fn).Code x.At.toNat)) := by
    intro x hx
    rw [hl] at hx
    obtain ⟨_, q1, q2, _⟩ := QO x hx
    obtain ⟨k, hk⟩ := APm q1
    rw [hk, APl]
    exact Uo (by simp only [Et]; omega) (by omega)
   have key : ∀ (body : List A9 × Int × Int → Option ((List A9 × Int × Int) ⊕ (List A9 × Int))),
     (∀ i (hi : i < r.1.length) a b, a.length = i → body (a, b, (i : Int)) = some (.inl (a ++ [(BC (Ej m fn).Code (r.1[i]).At.toNat).1], (if b < (r.1[i]).Frame.Height then (r.1[i]).Frame.Height else b), ((i + 1 : Nat) : Int)))) → (∀ a b, body (a, b, (r.1.length : Int)) = some (.inr (a, b))) →
     AY body ([], 0, 0) = some (V3 (Ej m fn).Code r.1, Arq r.1) := by
    intro body hs he
    refine GM r.1.length (fun i => (V3 (Ej m fn).Code (r.1.take i), Arq (r.1.take i), (i : Int))) (fun i hi => ?_) (by rw [APk]; exact he _ _) rfl
    rw [hs i hi _ _ (by unfold V3; rw [ANz, AN6]; omega), ← APc hi]
    congr 2
    refine Prod.ext ?_ (Prod.ext ?_ rfl)
    ·unfold V3
     rw [AO0]; rfl
    ·unfold Arq
     rw [List.foldl_append]; rfl
   rw [key (Il (Ej m fn) r) (fun i hi a b ha => by
     unfold Il
     dsimp only
     rw [A3 (by rw [A2]; omega), BN hi, ANu, (hdec _ (AOz hi)).2, ANu, CZ (by simp; omega), ANu, CS (by omega)]) (fun a b => by
     unfold Il
     dsimp only
     rw [A1 (by rw [A2]; omega)]),
    key (DU (Ej m fn) r) (fun i hi a b ha => by
     unfold DU
     dsimp only
     rw [A3 (by rw [A2]; omega), BN hi, ANu, (hdec _ (AOz hi)).1, ANu, CZ (by simp; omega), ANu, ANu, ANu, CS (by omega)]
     by_cases hb : r.1[i].Frame.Height > b
     ·rw [A3 (by rw [A2]; exact hb), A3 (by omega)]
     ·rw [A1 (by rw [A2]; exact hb), A1 (by omega)]) (fun a b => by
     unfold DU
     dsimp only
     rw [A1 (by rw [A2]; omega)]), ANu, ANu]
   exact ⟨_, rfl, rfl, fun _ => ⟨rfl, hfn, r.1, h5, rfl⟩, fun q => absurd rfl q⟩
  ·have c1 : ((r.2.2 != 0) = true) = True := eq_true (AW.2 h0)
   simp only [c1, if_true]
   refine ⟨_, rfl, ?_, fun q => absurd q h0, fun _ => rfl⟩
   dsimp only
   rw [A1 h0]
 ·rw [A1 hfn]
  dsimp only
  have c0 : ((!false) = true) = True := by simp
  simp only [c0, if_true]
  refine ⟨_, rfl, ?_, fun q => (by cases q), fun _ => rfl⟩
  dsimp only
  rw [A1 (by omega)]
end Go.Proofs.YtfcpkcehecmcpaaGreat
namespace Go.Proofs.YtfcpkcehecmcpaaGreat
open Go Go.RowKit Go.Pv
structure PL (n nf : Nat) (l : List A9) : Prop where
 strict : (l.map fun x => x.At).Pairwise (· < ·)
 ins : ∀ x ∈ l, 0 ≤ x.At ∧ x.At + CV x.Op ≤ n ∧ 0 < CV x.Op ∧ x.Op.toNat < 34 ∧ (Hq x.Op = true → 0 ≤ x.A ∧ x.A < n) ∧ (K3 x n).2 = 0
 call : ∀ x ∈ l, x.Op.toNat = 21 → 0 ≤ x.A ∧ x.A < nf
 nx : ∀ x ∈ l, ∀ t ∈ Ci x, ∃ y ∈ l, y.At = (t : Int)
 few : n ≤ 4096
 zero : ∃ x ∈ l, x.At = 0
theorem Qw {s : St} {n a : Nat} {f : A4} (ha : a < n) (hf : s.fr a = some f) : (⟨(a : Int), false, f⟩ : BO) ∈ FA s n := by
 unfold FA
 rw [List.mem_filterMap]
 exact ⟨a, List.mem_range.2 ha, by rw [hf]; rfl⟩
theorem PN (s : St) : ∀ n : Nat, ((FA s n).map fun x => x.At).Pairwise (· < ·)
 | 0 => by simp [FA]
 | n + 1 => by
  rw [Py, AO0]
  rcases hf : s.fr n with _ | f
  ·simp only [List.map_nil, AO9]; exact PN s n
  ·simp only [List.map_cons, List.map_nil]
   rw [APe]
   refine ⟨PN s n, List.pairwise_singleton _ _, fun x hx y hy => ?_⟩
   rw [AN8] at hy
   obtain ⟨z, hz, rfl⟩ := List.mem_map.1 hx
   have := QO z hz
   omega
theorem YA {m : AL} {fn : Int} {l : List A9} (h : WX m fn l) : PL (Ej m fn).Code.length m.Funcs.length l := by
 obtain ⟨es, hI, rfl⟩ := h.ex
 obtain ⟨s, st0, hB, J, hnew, rfl⟩ := hI.ex
 have D : ∀ x ∈ FA s (Ej m fn).Code.length, AFc (MY m fn) (Ej m fn).Code s x.At.toNat x.Frame ∧ 0 ≤ x.At ∧ Ic (MY m fn).Classes x.Frame := by
  intro x hx
  obtain ⟨_, q1, q2, q3⟩ := QO x hx
  exact ⟨J.clo _ _ q3 (hnew _), q1, J.fok _ _ q3⟩
 unfold V3
 refine ⟨?_, fun x hx => ?_, fun x hx h21 => ?_, fun x hx t ht => ?_, hI.few, ?_⟩
 ·rw [List.map_map]
  have : (FA s (Ej m fn).Code.length).map ((fun x : A9 => x.At) ∘ fun x : BO => (BC (Ej m fn).Code x.At.toNat).1) = (FA s (Ej m fn).Code.length).map fun x => x.At := by
   refine List.map_congr_left fun x hx => ?_
   obtain ⟨d, q1, _⟩ := D x hx
   have := (JM d.ins).2.1
   dsimp only [Function.comp]
   rw [this]
   omega
  rw [this]
  exact PN s _
 ·obtain ⟨y, hy, rfl⟩ := List.mem_map.1 hx
  obtain ⟨d, q1, q2⟩ := D y hy
  obtain ⟨i1, i2, i3, i4, i5⟩ := JM d.ins
  have ha := Pj hI.env q2 _ d.app
  refine ⟨by omega, by omega, i3, ha.2.1, fun hj => ⟨U3 d.ins hj, ?_⟩, d.on⟩
  have hon := d.on
  unfold K3 at hon
  by_cases hq : Hq (BC (Ej m fn).Code y.At.toNat).1.Op = true ∧ (BC (Ej m fn).Code y.At.toNat).1.A ≥ (Ej m fn).Code.length
  ·rw [A3 hq] at hon; cases hon
  ·have : ¬ (BC (Ej m fn).Code y.At.toNat).1.A ≥ (Ej m fn).Code.length := fun q => hq ⟨hj, q⟩
   omega
 ·obtain ⟨y, hy, rfl⟩ := List.mem_map.1 hx
  obtain ⟨d, q1, q2⟩ := D y hy
  have ha := (Pj hI.env q2 _ d.app).2.2
  unfold D7 at ha
  rw [A3 h21] at ha
  have hl : (MY m fn).AQ.length = m.Funcs.length := ANz _
  rw [hl] at ha
  by_cases hq : 0 ≤ (BC (Ej m fn).Code y.At.toNat).1.A ∧ (BC (Ej m fn).Code y.At.toNat).1.A < m.Funcs.length
  ·exact hq
  ·rw [A1 hq] at ha; cases ha
 ·obtain ⟨y, hy, rfl⟩ := List.mem_map.1 hx
  obtain ⟨d, q1, q2⟩ := D y hy
  obtain ⟨i1, i2, i3, i4, i5⟩ := JM d.ins
  obtain ⟨g, g1, g2⟩ := d.nx t ht
  have htn := (S8 i2 i4 hI.pos d.on).2 t ht
  refine ⟨_, List.mem_map.2 ⟨_, Qw htn g1, rfl⟩, ?_⟩
  have D2 := (D _ (Qw htn g1)).1
  have := (JM D2.ins).2.1
  dsimp only at this ⊢
  rw [this, APl]
 ·obtain ⟨f, hf, _⟩ := J.start
  refine ⟨_, List.mem_map.2 ⟨_, Qw hI.pos hf, rfl⟩, ?_⟩
  have D2 := (D _ (Qw hI.pos hf)).1
  have := (JM D2.ins).2.1
  dsimp only at this ⊢
  rw [this]
  rfl
theorem Qv : ∀ {l : List Int} {a n : Int}, l.Pairwise (· < ·) → (∀ x ∈ l, a ≤ x ∧ x < n) → a ≤ n → (l.length : Int) ≤ n - a
 | [], a, n, _, _, h => by simp; omega
 | x :: l, a, n, hs, hm, h => by
  rw [APi] at hs
  have hx := hm x (by simp)
  have := Qv (l := l) (a := x + 1) (n := n) hs.2 (fun y hy => ⟨by have := hs.1 y hy; omega, (hm y (by simp [hy])).2⟩) (by omega)
  rw [APb]
  omega
theorem PL.len {n nf : Nat} {l : List A9} (h : PL n nf l) : l.length ≤ 4096 := by
 have := Qv (a := 0) (n := n) h.strict (fun x hx => by
  obtain ⟨y, hy, rfl⟩ := List.mem_map.1 hx
  have := h.ins y hy
  omega) (by omega)
 rw [ANz] at this
 have := h.few
 omega
def JR (l : List A9) : List Int := (l.filter fun x => decide (x.Op.toNat = 21)).map fun x => x.A
theorem Yw {l : List A9} {c : Int} : c ∈ JR l ↔ ∃ x ∈ l, x.Op.toNat = 21 ∧ x.A = c := by
 unfold JR
 rw [AOy]
 constructor
 ·rintro ⟨x, hx, rfl⟩
  rw [AOw, A2] at hx
  exact ⟨x, hx.1, hx.2, rfl⟩
 ·rintro ⟨x, h1, h2, rfl⟩
  exact ⟨x, by rw [AOw, A2]; exact ⟨h1, h2⟩, rfl⟩
theorem T8 (l : List A9) : (JR l).length ≤ l.length := by
 unfold JR
 rw [ANz]
 exact APg _ _
def Ju (nf : Nat) (l : List A9) : List Int := ints ((List.range nf).filter fun g => l.any fun x => decide (x.Op.toNat = 21) && x.A == (g : Int))
theorem Zu {nf : Nat} {l : List A9} (h : ∀ x ∈ l, x.Op.toNat = 21 → 0 ≤ x.A ∧ x.A < nf) (c : Int) : c ∈ Ju nf l ↔ c ∈ JR l := by
 unfold Ju ints
 rw [Yw, AOy]
 constructor
 ·rintro ⟨g, hg, rfl⟩
  rw [AOw, List.any_eq_true] at hg
  obtain ⟨_, x, hx, hx2⟩ := hg
  rw [APn, A2, AE] at hx2
  exact ⟨x, hx, hx2⟩
 ·rintro ⟨x, hx, h1, rfl⟩
  have := h x hx h1
  refine ⟨x.A.toNat, ?_, by omega⟩
  rw [AOw, List.any_eq_true, AOx]
  refine ⟨by omega, x, hx, ?_⟩
  rw [APn, A2, AE]
  exact ⟨h1, by omega⟩
theorem Oq (p : Nat → Bool) : ∀ n : Nat, (ints ((List.range n).filter p)).Pairwise (· < ·)
 | 0 => by simp [ints]
 | n + 1 => by
  unfold ints at *
  rw [AO8, AO6, AO0, APe]
  have ih := Oq p n
  unfold ints at ih
  refine ⟨ih, ?_, fun x hx y hy => ?_⟩
  ·rw [AO7]
   split <;> simp
  ·obtain ⟨a, ha, rfl⟩ := List.mem_map.1 hx
   obtain ⟨b, hb, rfl⟩ := List.mem_map.1 hy
   rw [AOw, AOx] at ha
   rw [AOw, AN8] at hb
   omega
theorem W5 (nf : Nat) (l : List A9) : (Ju nf l).Pairwise (· < ·) := Oq _ nf
theorem Abg {n nf : Nat} {l : List A9} (h : PL n nf l) (k : Int) : IZ ⟨l, k⟩ = some (Ju nf l) := by
 have hlen := h.len
 unfold IZ
 have h1 : AY (Fj ⟨l, k⟩) (([] : List Int), 0) = some (JR l) := by
  refine GM l.length (fun i => (JR (l.take i), (i : Int))) (fun i hi => ?_) (by unfold Fj; simp) rfl
  have hcl := T8 (l.take i)
  rw [AN6] at hcl
  have hsucc : JR (l.take (i + 1)) = JR (l.take i) ++ (if l[i].Op.toNat = 21 then [l[i].A] else []) := by
   unfold JR
   rw [← APc hi, AO6, AO0]
   congr 1
   by_cases q : l[i].Op.toNat = 21
   ·rw [A3 q, AO7, A3 (by rw [A2]; exact q)]; rfl
   ·rw [A1 q, AO7, A1 (by rw [A2]; exact q)]; rfl
  unfold Fj
  dsimp only
  rw [A3 (by rw [A2]; omega), BN hi, ANu, hsucc, CS (by omega)]
  by_cases q : l[i].Op.toNat = 21
  ·rw [A3 (by rw [q]; rfl), A3 q, CZ (by simp; omega), ANu]
  ·rw [A1 (by rw [AE]; omega), A1 q, AO9]
 rw [h1, ANu]
 obtain ⟨r, r1, r2, r3⟩ := PW (JR l) (by have := T8 l; omega)
 obtain ⟨x, x1, x2⟩ := Option.bind_eq_some_iff.1 r1
 rw [x1, ANu, x2, ANu]
 congr 1
 exact LI r2 (W5 nf l) fun a => (r3 a).trans (Zu h.call a).symm
theorem ZU (m : AL) (hm : J8 m) (fn : Int) {r : List A9 × Int × Int × Int} (hr : Dg m fn = some r) (h0 : r.2.2.2 = 0) (hlen : r.1.length ≤ 4096) : FI m fn = some (Ju m.Funcs.length r.1, 0, 0) := by
 have hfl := hm.fl
 simp only [Et] at hfl
 unfold FI
 rw [show (⟨m.Name, m.Classes, m.Funcs, m.Ca⟩ : AL) = m from rfl, hr, ANu, A1 (by rw [h0]; simp)]
 have hin : ∀ (acc : List Int) (g : Nat), AY (E0 r (acc, (g : Int))) (false, 0) = some (r.1.any fun x => decide (x.Op.toNat = 21) && x.A == (g : Int)) := by
  intro acc g
  refine GM r.1.length (fun i => ((r.1.take i).any fun x => decide (x.Op.toNat = 21) && x.A == (g : Int), (i : Int))) (fun i hi => ?_) (by unfold E0; simp) rfl
  unfold E0
  dsimp only
  rw [A3 (by rw [A2]; omega), ← APc hi, List.any_append, BN hi, ANu, ANu, CS (by omega)]
  rcases (r.1.take i).any fun x => decide (x.Op.toNat = 21) && x.A == (g : Int) with _ | _
  ·rw [A1 (by simp)]
   by_cases q : r.1[i].Op.toNat = 21
   ·rw [A3 (by rw [q]; rfl)]
    simp [q]
   ·rw [A1 (by rw [AE]; omega)]
    simp [q]
  ·rw [A3 rfl]
   simp
 have hout : AY (Ey m r) (([] : List Int), 0) = some (Ju m.Funcs.length r.1) := by
  refine GM m.Funcs.length (fun i => (Ju i r.1, (i : Int))) (fun i hi => ?_) (by unfold Ey; simp) rfl
  have hcl : (Ju i r.1).length ≤ i := by
   unfold Ju ints
   rw [ANz]
   exact Nat.le_trans (APg _ _) (by rw [APh]; exact Nat.le_refl _)
  have hsucc : Ju (i + 1) r.1 = Ju i r.1 ++ (if (r.1.any fun x => decide (x.Op.toNat = 21) && x.A == (i : Int)) = true then [(i : Int)] else []) := by
   unfold Ju ints
   rw [AO8, AO6, AO0]
   congr 1
   rw [AO7]
   split <;> rfl
  unfold Ey
  dsimp only
  rw [A3 (by rw [A2]; omega), hin, ANu, hsucc, CS (by omega)]
  split
  ·rw [CZ (by simp; omega), ANu]
  ·rw [AO9]
 rw [hout, ANu]
end Go.Proofs.YtfcpkcehecmcpaaGreat
namespace Go.Proofs.YtfcpkcehecmcpaaGreat
open Go Go.RowKit Go.Pv
theorem PL.uniq {n nf : Nat} {l : List A9} (h : PL n nf l) {i j : Nat} (hi : i < l.length) (hj : j < l.length) (he : l[i].At = l[j].At) : i = j := by
 have hs := List.pairwise_iff_getElem.1 h.strict
 rcases Nat.lt_trichotomy i j with q | q | q
 ·have := hs i j (by rw [ANz]; exact hi) (by rw [ANz]; exact hj) q
  rw [List.getElem_map, List.getElem_map] at this
  omega
 ·exact q
 ·have := hs j i (by rw [ANz]; exact hj) (by rw [ANz]; exact hi) q
  rw [List.getElem_map, List.getElem_map] at this
  omega
def KR (l : List A9) (t : Int) : Nat := l.findIdx fun y => y.At == t
theorem OW {l : List A9} {t : Int} (h : ∃ y ∈ l, y.At = t) : ∃ hp : KR l t < l.length, l[KR l t].At = t := by
 obtain ⟨y, hy, he⟩ := h
 have hp : KR l t < l.length := List.findIdx_lt_length_of_exists ⟨y, hy, by rw [AE]; exact he⟩
 refine ⟨hp, ?_⟩
 have := List.findIdx_getElem (p := fun y : A9 => y.At == t) (w := hp)
 rw [AE] at this
 exact this
theorem Aan {n nf : Nat} {l : List A9} (h : PL n nf l) (k : Int) {t : Int} (ht : ∃ y ∈ l, y.At = t) : G7 ⟨l, k⟩ t = some (KR l t : Int) := by
 have hlen := h.len
 obtain ⟨hp, he⟩ := OW ht
 unfold G7 C5
 dsimp only
 rcases Oo (R := Int ⊕ Unit) l.length (body := BH l t) (fun i => if h : i < l.length then (if l[i].At = t then some (.inl (i : Int)) else none) else none) (r0 := .inr ()) (fun i hi => by
   unfold BH I3
   rw [A3 (by rw [A2]; omega), BN hi, ANu, ANu, CS (by omega), dif_pos hi]
   by_cases q : l[i].At = t
   ·rw [A3 (by rw [AE]; exact q), A3 q]
   ·rw [A1 (by rw [AE]; exact q), A1 q]) (by
   unfold BH
   rw [A1 (by rw [A2]; omega)]) l.length 0 (by omega) with ⟨r, ⟨j, _, hj, hP⟩, hl⟩ | ⟨hn, _⟩
 ·rw [dif_pos hj] at hP
  by_cases q : l[j].At = t
  ·rw [A3 q] at hP
   cases hP
   rw [show ((0 : Nat) : Int) = 0 from rfl] at hl
   rw [hl, ANu]
   dsimp only
   rw [ANu, h.uniq hp hj (he.trans q.symm)]
  ·rw [A1 q] at hP; cases hP
 ·have := hn (KR l t) (by omega) hp
  rw [dif_pos hp, A3 he] at this
  cases this
theorem Adm {n nf : Nat} {l : List A9} (h : PL n nf l) {x : A9} (hx : x ∈ l) : Ld x = some (ints (Ci x)) := by
 obtain ⟨a1, a2, a3, a4, a5, a6⟩ := h.ins x hx
 have hfew := h.few
 have hm := VR (i := x) (fun q => (a5 q).1) a1
 have hst := OV (i := x) (fun q => (a5 q).1) a1
 unfold Ld
 rw [show (⟨x.At, x.Op, x.A, x.B⟩ : A9) = x from rfl, size_eq, Ik, ANu, A1 (by rw [AE]; omega)]
 have hpl : Me x = some true := by
  unfold Me
  rw [A3 (by rw [A2]; omega), decide_eq_true (by omega)]
 have hri : ∀ (mp : List (Int × Int)), mp.length ≤ 2 → (mp.map Prod.fst).Nodup → (∀ c, c ∈ mp.map Prod.fst ↔ (Hq x.Op = true ∧ c = x.A) ∨ (I2 x.Op = false ∧ c = x.At + CV x.Op)) → Gd mp = some (ints (Ci x)) := by
  intro mp h1 h2 h3
  unfold Gd
  rw [A3 (by omega), LI (Mm h2) hst fun c => by rw [ME, h3, hm]]
 rw [hpl, ANu, A1 (by simp), Sb, ANu, ANu, QF, ANu, ANu, Cx (n := x.At + (CV x.Op : Int)) (by omega) (by omega)]
 have nd1 : ((Da ([] : List (Int × Int)) (x.At + (CV x.Op : Int)) 1).map Prod.fst).Nodup := by simp [Da]
 rcases he : I2 x.Op with _ | _
 ·rw [A3 (by rfl)]
  rcases hj : Hq x.Op with _ | _
  ·rw [A1 (by simp), hri _ (by simp [Da]) nd1 (fun c => by simp [Da, he, hj]), ANu]
  ·rw [A3 rfl, hri _ (Nat.le_trans (Apc _ _ _) (by simp [Da])) (Nk nd1 _ _) (fun c => by
    rw [← JC, Kn, Kn]
    by_cases q1 : c = x.A
    ·simp [q1, he, hj]
    ·rw [A1 q1]
     by_cases q2 : c = x.At + (CV x.Op : Int)
     ·simp [q2, he, hj]
     ·simp [q1, q2, he, hj, Cd]), ANu]
 ·rw [A1 (by simp)]
  rcases hj : Hq x.Op with _ | _
  ·rw [A1 (by simp), hri [] (by simp) (by simp) (fun c => by simp [he, hj]), ANu]
  ·rw [A3 rfl, hri _ (by simp [Da]) (by simp [Da]) (fun c => by simp [Da, he, hj]), ANu]
def Gy (l : List A9) (i : Nat) : List Nat := match l[i]? with
 | none => []
 | some x => (Ci x).map fun (t : Nat) => KR l (t : Int)
theorem Nb {l : List A9} {i : Nat} (hi : i < l.length) : Gy l i = (Ci l[i]).map fun (t : Nat) => KR l (t : Int) := by
 unfold Gy
 rw [ANx hi]
theorem P8 (x : A9) : (Ci x).length ≤ 3 := by
 unfold Ci
 rw [ANy, ANy]
 split <;> split <;> split <;> simp
theorem SZ (l : List A9) (i : Nat) : (Gy l i).length ≤ 3 := by
 unfold Gy
 split
 ·simp
 ·rw [ANz]; exact P8 _
theorem NI {n nf : Nat} {l : List A9} (h : PL n nf l) {i : Nat} : ∀ j ∈ Gy l i, j < l.length := by
 intro j hj
 unfold Gy at hj
 rcases hx : l[i]? with _ | x
 ·rw [hx] at hj; cases hj
 ·rw [hx] at hj
  obtain ⟨t, ht, rfl⟩ := List.mem_map.1 hj
  exact (OW (h.nx x (APf hx) t ht)).1
theorem M5 {n nf : Nat} {l : List A9} (h : PL n nf l) (i : Nat) : (Gy l i).Nodup := by
 unfold Gy
 rcases hx : l[i]? with _ | x
 ·exact List.nodup_nil
 ·have hmem := APf hx
  obtain ⟨a1, a2, a3, a4, a5, a6⟩ := h.ins x hmem
  have hst := OV (i := x) (fun q => (a5 q).1) a1
  unfold ints at hst
  rw [List.pairwise_map] at hst
  dsimp only
  rw [List.nodup_iff_pairwise_ne, List.pairwise_map]
  refine List.Pairwise.imp_of_mem (fun ha hb hab => ?_) hst
  rename_i a b
  intro heq
  obtain ⟨p1, p2⟩ := OW (h.nx x hmem a ha)
  obtain ⟨q1, q2⟩ := OW (h.nx x hmem b hb)
  have : l[KR l (a : Int)].At = l[KR l (b : Int)].At := by congr 1; simp only [heq]
  rw [p2, q2] at this
  omega
theorem WW {n nf : Nat} {l : List A9} (h : PL n nf l) {i : Nat} (hi : i < l.length) : Ih l (i : Int) (n : Int) = some (ints (Gy l i)) := by
 have hlen := h.len
 have hfew := h.few
 obtain ⟨a1, a2, a3, a4, a5, a6⟩ := h.ins l[i] (AOz hi)
 obtain ⟨a, ha⟩ := APm a1
 obtain ⟨o1, o2⟩ := S8 (n := n) ha (by omega) (by omega) a6
 unfold Ih
 rw [BN hi, ANu, Aal (n := n) ha (by omega) (by omega) (fun q => (a5 q).1), ANu, o1]
 have hin : ∀ (acc : List Int) (r : Nat) (hr : r < (Ci l[i]).length), acc.length ≤ 1000 → AY (EB l (ints (Ci l[i]), (K3 l[i] n).2) (acc, (r : Int))) (acc, 0) = some (acc ++ [(KR l ((Ci l[i])[r] : Int) : Int)]) := by
  intro acc r hr hacc
  have hx : ∃ y ∈ l, y.At = ((Ci l[i])[r] : Int) := h.nx _ (AOz hi) _ (AOz hr)
  obtain ⟨p1, p2⟩ := OW hx
  have hfil : ∀ k, k ≤ l.length → ((List.range k).filter fun j => decide (((l[j]?).map (·.At)) = some ((Ci l[i])[r] : Int))) = if KR l ((Ci l[i])[r] : Int) < k then [KR l ((Ci l[i])[r] : Int)] else [] := by
   intro k
   induction k with
   | zero => intro _; simp
   | succ k ih =>
    intro hk
    rw [AO8, AO6, ih (by omega), AO7]
    have hgk : l[k]? = some l[k] := ANx (by omega)
    by_cases q : k = KR l ((Ci l[i])[r] : Int)
    ·have : l[k].At = ((Ci l[i])[r] : Int) := by
      have : l[k] = l[KR l ((Ci l[i])[r] : Int)] := by congr 1
      rw [this, p2]
     rw [A1 (show ¬ KR l ((Ci l[i])[r] : Int) < k by omega), A3 (show decide (Option.map (fun x : A9 => x.At) l[k]? = some ((Ci l[i])[r] : Int)) = true by rw [A2, hgk, ANw, this]), A3 (by omega), ← q]
     rfl
    ·have : ¬ l[k].At = ((Ci l[i])[r] : Int) := fun q2 => q (h.uniq (by omega) p1 (q2.trans p2.symm))
     rw [A1 (show ¬ (decide (Option.map (fun x : A9 => x.At) l[k]? = some ((Ci l[i])[r] : Int)) = true) by rw [A2, hgk, ANw]; exact fun q2 => this (Option.some.inj q2))]
     by_cases q3 : KR l ((Ci l[i])[r] : Int) < k
     ·rw [A3 q3, A3 (by omega)]; simp
     ·rw [A1 q3, A1 (by omega)]; simp
  have := GM l.length (body := EB l (ints (Ci l[i]), (K3 l[i] n).2) (acc, (r : Int))) (r := acc ++ ints ((List.range l.length).filter fun j => decide (((l[j]?).map (·.At)) = some ((Ci l[i])[r] : Int)))) (fun k => (acc ++ ints ((List.range k).filter fun j => decide (((l[j]?).map (·.At)) = some ((Ci l[i])[r] : Int))), (k : Int))) (fun k hk => by
   unfold EB
   dsimp only
   have hgk : l[k]? = some l[k] := ANx hk
   have hir : idx (ints (Ci l[i])) (r : Int) = some ((Ci l[i])[r] : Int) := by
    unfold ints
    rw [BN (by rw [ANz]; exact hr), List.getElem_map]
   have hl1 := hfil k (by omega)
   have hlen1 : (ints ((List.range k).filter fun j => decide (((l[j]?).map (·.At)) = some ((Ci l[i])[r] : Int)))).length ≤ 1 := by
    unfold ints
    rw [ANz, hl1]
    split <;> simp
   rw [A3 (by rw [A2]; omega), BN hk, ANu, hir, ANu, CS (by omega)]
   conv => rhs; rw [AO8, AO6, AO7]
   by_cases q : l[k].At = ((Ci l[i])[r] : Int)
   ·rw [A3 (by rw [AE]; exact q), CZ (by rw [ANy, AN3]; omega), ANu, A3 (by rw [A2, hgk, ANw, q])]
    unfold ints
    rw [AO0, APd]
    rfl
   ·rw [A1 (by rw [AE]; exact q), A1 (by rw [A2, hgk, ANw]; exact fun q2 => q (Option.some.inj q2))]
    rw [List.filter_nil, AO9]) (by
   unfold EB
   dsimp only
   rw [A1 (by rw [A2]; omega)]) (s0 := (acc, 0)) (by simp [ints])
  rw [this, hfil _ (Nat.le_refl _), A3 p1]
  rfl
 have hn3 := P8 l[i]
 have := GM (Ci l[i]).length (body := Fy l (ints (Ci l[i]), (K3 l[i] n).2)) (r := ints (Gy l i)) (fun r => (ints (((Ci l[i]).take r).map fun (t : Nat) => KR l (t : Int)), (r : Int))) (fun r hr => by
  unfold Fy
  dsimp only
  rw [A3 (by rw [A2]; unfold ints; rw [ANz]; omega), hin _ r hr (by unfold ints; rw [ANz, ANz, AN6]; omega), ANu, CS (by omega), ← APc hr]
  unfold ints
  rw [AO0, AO0]
  rfl) (by
  unfold Fy
  dsimp only
  rw [A1 (by rw [A2]; unfold ints; rw [ANz]; omega), APk, Nb hi]) (s0 := (([] : List Int), 0)) (by simp [ints])
 rw [this, ANu]
end Go.Proofs.YtfcpkcehecmcpaaGreat
namespace Go.Proofs.YtfcpkcehecmcpaaGreat
open Go Go.RowKit Go.Pv
inductive Zz (n : Nat) (sc : Nat → List Nat) : Nat → Prop
 | mk (j : Nat) (hj : j < n) (h : ∀ i, i < n → j ∈ sc i → Zz n sc i) : Zz n sc j
def WI (sc : Nat → List Nat) (D : List Nat) (j i : Nat) : Nat := if i ∈ D then 0 else if j ∈ sc i then 1 else 0
def dg (n : Nat) (sc : Nat → List Nat) (D : List Nat) (j : Nat) : Nat := Ht n (WI sc D j)
structure OQ (n : Nat) (sc : Nat → List Nat) (D O : List Nat) (g : Nat → Int) : Prop where
 nd : (D ++ O).Nodup
 lt : ∀ x ∈ D ++ O, x < n
 cnt : ∀ j, j < n → g j = (dg n sc D j : Int)
 zero : ∀ j, j < n → (g j = 0 ↔ j ∈ D ++ O)
 z : ∀ j ∈ D ++ O, Zz n sc j
theorem Ww {F : Nat → Nat} : ∀ {n : Nat}, Ht n F = 0 ↔ ∀ i, i < n → F i = 0
 | 0 => by simp [Ht]
 | n + 1 => by
  have ih := Ww (F := F) (n := n)
  simp only [Ht]
  constructor
  ·intro h i hi
   by_cases q : i = n
   ·subst q; omega
   ·exact ih.1 (by omega) i (by omega)
  ·intro h
   have := ih.2 fun i hi => h i (by omega)
   have := h n (by omega)
   omega
theorem Q1 {F G : Nat → Nat} : ∀ {n : Nat}, (∀ i, i < n → F i = G i) → Ht n F = Ht n G
 | 0, _ => rfl
 | n + 1, h => by
  simp only [Ht]
  rw [Q1 (n := n) fun i hi => h i (by omega), h n (by omega)]
theorem YS {F G : Nat → Nat} {x c : Nat} : ∀ {n : Nat}, x < n → (∀ i, i < n → i ≠ x → F i = G i) → F x = G x + c → Ht n F = Ht n G + c
 | n + 1, hx, h, hc => by
  simp only [Ht]
  by_cases q : x = n
  ·subst q
   rw [Q1 (n := x) (F := F) (G := G) fun i hi => h i (by omega) (by omega), hc]
   omega
  ·rw [YS (n := n) (x := x) (c := c) (by omega) (fun i hi => h i (by omega)) hc, h n (by omega) (by omega)]
   omega
theorem SX {n : Nat} {sc : Nat → List Nat} {D : List Nat} {j : Nat} : dg n sc D j = 0 ↔ ∀ i, i < n → j ∈ sc i → i ∈ D := by
 unfold dg
 rw [Ww]
 unfold WI
 constructor
 ·intro h i hi hj
  have := h i hi
  by_cases q : i ∈ D
  ·exact q
  ·rw [A1 q, A3 hj] at this; cases this
 ·intro h i hi
  by_cases q : i ∈ D
  ·rw [A3 q]
  ·rw [A1 q, A1 (fun q2 => q (h i hi q2))]
theorem OQ.step {n : Nat} {sc : Nat → List Nat} {D O : List Nat} {g : Nat → Int} (K : OQ n sc D O g) (hnd : ∀ i, (sc i).Nodup) (hlt : ∀ i, ∀ j ∈ sc i, j < n) {x : Nat} {O' : List Nat} (hp : O.Perm (x :: O')) :
  OQ n sc (D ++ [x]) (O' ++ (sc x).filter fun j => decide (g j = 1)) (fun j => g j - if j ∈ sc x then 1 else 0) := by
 have hxO : x ∈ O := hp.mem_iff.2 (by simp)
 have hx := K.lt x (by simp [hxO])
 have hnd0 := K.nd
 rw [List.nodup_append] at hnd0
 obtain ⟨n1, n2, n3⟩ := hnd0
 have hxD : x ∉ D := fun q => n3 x q x hxO rfl
 have hO' : ∀ y, y ∈ O ↔ y = x ∨ y ∈ O' := fun y => by rw [hp.mem_iff, AN9]
 have hcons : (x :: O').Nodup := hp.nodup_iff.1 n2
 rw [List.nodup_cons] at hcons
 have hg1 : ∀ j, j ∈ sc x → 1 ≤ g j := by
  intro j hj
  have hj' := hlt x j hj
  rw [K.cnt j hj']
  have : dg n sc D j ≠ 0 := fun q => hxD (SX.1 q x hx hj)
  omega
 have hcnt : ∀ j, j < n → g j - (if j ∈ sc x then 1 else 0) = (dg n sc (D ++ [x]) j : Int) := by
  intro j hj
  have : dg n sc D j = dg n sc (D ++ [x]) j + (if j ∈ sc x then 1 else 0) := by
   unfold dg
   refine YS hx (fun i hi hne => ?_) ?_
   ·unfold WI
    by_cases q : i ∈ D
    ·rw [A3 q, A3 (show i ∈ D ++ [x] by simp [q])]
    ·rw [A1 q, A1 (show ¬ i ∈ D ++ [x] by simp [q, hne])]
   ·unfold WI
    rw [A1 hxD, A3 (show x ∈ D ++ [x] by simp)]
    omega
  rw [K.cnt j hj, this]
  split <;> omega
 have hz : ∀ j, j < n → (g j - (if j ∈ sc x then 1 else 0) = 0 ↔ j ∈ (D ++ [x]) ++ (O' ++ (sc x).filter fun j => decide (g j = 1))) := by
  intro j hj
  have hz0 := K.zero j hj
  rw [AN7] at hz0
  rw [AN7, AN7, AN7, AN8, AOw, A2]
  by_cases q : j ∈ sc x
  ·have := hg1 j q
   rw [A3 q]
   constructor
   ·intro h
    exact Or.inr (Or.inr ⟨q, by omega⟩)
   ·rintro ((h | h) | h | h)
    ·have := hz0.2 (Or.inl h); omega
    ·subst h
     have := hz0.2 (Or.inr hxO); omega
    ·have := hz0.2 (Or.inr ((hO' j).2 (Or.inr h))); omega
    ·omega
  ·rw [A1 q]
   constructor
   ·intro h
    rcases hz0.1 (by omega) with h | h
    ·exact Or.inl (Or.inl h)
    ·rcases (hO' j).1 h with h | h
     ·exact Or.inl (Or.inr h)
     ·exact Or.inr (Or.inl h)
   ·rintro ((h | h) | h | h)
    ·have := hz0.2 (Or.inl h); omega
    ·subst h
     have := hz0.2 (Or.inr hxO); omega
    ·have := hz0.2 (Or.inr ((hO' j).2 (Or.inr h))); omega
    ·exact absurd h.1 q
 have hold : ∀ j, j ∈ (D ++ [x]) ++ O' ↔ j ∈ D ++ O := by
  intro j
  rw [AN7, AN7, AN7, AN8, hO']
  constructor
  ·rintro ((h | h) | h)
   ·exact Or.inl h
   ·exact Or.inr (Or.inl h)
   ·exact Or.inr (Or.inr h)
  ·rintro (h | h | h)
   ·exact Or.inl (Or.inl h)
   ·exact Or.inl (Or.inr h)
   ·exact Or.inr h
 refine ⟨?_, fun y hy => ?_, hcnt, hz, fun y hy => ?_⟩
 ·rw [← APd, List.nodup_append]
  refine ⟨?_, (hnd x).filter _, fun a ha b hb hab => ?_⟩
  ·rw [APd, List.nodup_append]
   refine ⟨n1, ?_, fun a ha b hb hab => ?_⟩
   ·rw [List.singleton_append, List.nodup_cons]; exact hcons
   ·rw [List.singleton_append, AN9, ← hO'] at hb
    exact n3 a ha b hb hab
  ·subst hab
   rw [AOw, A2] at hb
   have := (K.zero a (hlt x a hb.1)).2 ((hold a).1 ha)
   omega
 ·rw [← APd, AN7] at hy
  rcases hy with h | h
  ·exact K.lt y ((hold y).1 h)
  ·rw [AOw] at h
   exact hlt x y h.1
 ·have hy' := hy
  rw [← APd, AN7] at hy
  rcases hy with h | h
  ·exact K.z y ((hold y).1 h)
  ·rw [AOw] at h
   have hyn := hlt x y h.1
   have h0 := (hz y hyn).2 hy'
   rw [hcnt y hyn] at h0
   refine Zz.mk y hyn fun i hi hji => ?_
   have := SX.1 (show dg n sc (D ++ [x]) y = 0 by omega) i hi hji
   rw [AN7, AN8] at this
   rcases this with q | q
   ·exact K.z i (by simp [q])
   ·subst q
    exact K.z i (by simp [hxO])
theorem OQ.fin {n : Nat} {sc : Nat → List Nat} {D : List Nat} {g : Nat → Int} (K : OQ n sc D [] g) (j : Nat) : j ∈ D ↔ Zz n sc j := by
 constructor
 ·intro h
  exact K.z j (by simp [h])
 ·intro h
  induction h with
  | mk j hj h ih =>
   have : g j = 0 := by
    rw [K.cnt j hj]
    have : dg n sc D j = 0 := SX.2 fun i hi hji => ih i hi hji
    omega
   have := (K.zero j hj).1 this
   rw [AO9] at this
   exact this
theorem QE {l : List Nat} (h : l.Nodup) : (ints l).Nodup := by
 unfold ints
 rw [List.nodup_iff_pairwise_ne, List.pairwise_map]
 rw [List.nodup_iff_pairwise_ne] at h
 exact h.imp fun hab q => hab (by omega)
theorem Afz {l m : List Nat} (hl : l.Nodup) (hm : m.Nodup) (h : ∀ j, j ∈ l ↔ j ∈ m) : l.length = m.length := by
 have := LI (Mm (QE hl)) (Mm (QE hm)) fun a => by
  rw [ME, ME]
  unfold ints
  rw [AOy, AOy]
  constructor
  ·rintro ⟨j, hj, rfl⟩; exact ⟨j, (h j).1 hj, rfl⟩
  ·rintro ⟨j, hj, rfl⟩; exact ⟨j, (h j).2 hj, rfl⟩
 have := congrArg List.length this
 rw [NY, NY] at this
 unfold ints at this
 rw [ANz, ANz] at this
 exact this
theorem AAz {l : List Nat} {n : Nat} (hl : l.Nodup) (h : ∀ x ∈ l, x < n) : l.length ≤ n := by
 have := Qv (a := 0) (n := n) (Mm (QE hl)) (fun x hx => by
  rw [ME] at hx
  unfold ints at hx
  obtain ⟨j, hj, rfl⟩ := List.mem_map.1 hx
  have := h j hj
  omega) (by omega)
 rw [NY] at this
 unfold ints at this
 rw [ANz] at this
 omega
def JX (L : List Int) (n : Nat) (g : Nat → Int) : Prop := L.length = n ∧ ∀ j, j < n → L[j]? = some (g j)
theorem JX.set {L : List Int} {n : Nat} {g : Nat → Int} (h : JX L n g) {k : Nat} (hk : k < n) (x : Int) : JX (L.set k x) n (fun j => if j = k then x else g j) := by
 refine ⟨by rw [AN5]; exact h.1, fun j hj => ?_⟩
 rw [List.getElem?_set]
 dsimp only
 by_cases q : k = j
 ·rw [A3 q, A3 (by rw [h.1]; exact hk), A3 q.symm]
 ·rw [A1 q, A1 (fun q2 => q q2.symm)]
  exact h.2 j hj
theorem JX.congr {L : List Int} {n : Nat} {g g' : Nat → Int} (h : JX L n g) (he : ∀ j, j < n → g j = g' j) : JX L n g' := ⟨h.1, fun j hj => by rw [h.2 j hj, he j hj]⟩
theorem X2 {n : Nat} (sc : List Nat) (hnd : sc.Nodup) (hlt : ∀ j ∈ sc, j < n) {body : List Int × Int → Option ((List Int × Int) ⊕ List Int)} {g : Nat → Int} (hg : ∀ j, j < n → 0 ≤ g j ∧ g j ≤ 1000000)
  (hs : ∀ (r : Nat) (hr : r < sc.length) (L : List Int) (x : Int), L.length = n → L[sc[r]]? = some x → body (L, (r : Int)) = some (.inl (L.set sc[r] (wr (x + 1)), ((r + 1 : Nat) : Int)))) (he : ∀ L, body (L, (sc.length : Int)) = some (.inr L)) {L : List Int} (hL : JX L n g) :
  ∃ L', AY body (L, 0) = some L' ∧ JX L' n (fun j => g j + if j ∈ sc then 1 else 0) := by
 obtain ⟨r, h1, h2⟩ := Qc sc.length (body := body) (fun i s => s.2 = (i : Int) ∧ JX s.1 n (fun j => g j + if j ∈ sc.take i then 1 else 0)) (Post := fun L' => JX L' n (fun j => g j + if j ∈ sc then 1 else 0)) (fun i s hi hI => by
  obtain ⟨L1, k⟩ := s
  obtain ⟨q1, q2⟩ := hI
  dsimp only at q1 q2
  subst q1
  have hsi := hlt _ (AOz hi)
  have hmem : ∀ j, j ∈ sc.take (i + 1) ↔ j ∈ sc.take i ∨ j = sc[i] := fun j => by rw [← APc hi, AN7, AN8]
  have hnot : sc[i] ∉ sc.take i := by
   intro hm
   obtain ⟨j, hj, he⟩ := List.mem_iff_getElem.1 hm
   rw [AN6] at hj
   rw [APj] at he
   have := (List.pairwise_iff_getElem.1 (List.nodup_iff_pairwise_ne.1 hnd)) j i (by omega) hi (by omega)
   exact this he
  have hget := q2.2 _ hsi
  dsimp only at hget
  rw [A1 hnot] at hget
  have hb := hg _ hsi
  refine Or.inl ⟨_, hs i hi L1 _ q2.1 hget, rfl, ?_⟩
  rw [Cx (by omega) (by omega)]
  refine (q2.set hsi _).congr fun j hj => ?_
  by_cases q : j = sc[i]
  ·rw [A3 q, q, A3 ((hmem _).2 (Or.inr rfl))]
   omega
  ·rw [A1 q]
   by_cases q3 : j ∈ sc.take i
   ·rw [A3 q3, A3 ((hmem _).2 (Or.inl q3))]
   ·rw [A1 q3, A1 (fun q5 => ((hmem _).1 q5).elim q3 q)]) (fun s hI => by
  obtain ⟨L1, k⟩ := s
  obtain ⟨q1, q2⟩ := hI
  dsimp only at q1 q2
  subst q1
  rw [APk] at q2
  exact ⟨_, he L1, q2⟩) sc.length 0 (L, 0) (by omega) ⟨rfl, hL.congr fun j hj => by simp⟩
 exact ⟨r, h1, h2⟩
theorem Xb {n : Nat} (sc : List Nat) (hnd : sc.Nodup) (hlt : ∀ j ∈ sc, j < n) (h3 : sc.length ≤ 3) {body : List Int × List Int × Int → Option ((List Int × List Int × Int) ⊕ (List Int × List Int))} {g : Nat → Int} (hg : ∀ j, j < n → 0 ≤ g j ∧ g j ≤ 1000000)
  (hs : ∀ (r : Nat) (hr : r < sc.length) (L O : List Int) (x : Int), L.length = n → O.length ≤ 10000 → L[sc[r]]? = some x → body (L, O, (r : Int)) = some (.inl (L.set sc[r] (wr (x - 1)), (if wr (x - 1) = 0 then O ++ [(sc[r] : Int)] else O), ((r + 1 : Nat) : Int)))) (he : ∀ L O, body (L, O, (sc.length : Int)) = some (.inr (L, O))) {L O : List Int} (hL : JX L n g) (hO : O.length ≤ 8000) :
  ∃ L', AY body (L, O, 0) = some (L', O ++ ints (sc.filter fun j => decide (g j = 1))) ∧ JX L' n (fun j => g j - if j ∈ sc then 1 else 0) := by
 obtain ⟨r, h1, h2⟩ := Qc sc.length (body := body) (fun i s => s.2.2 = (i : Int) ∧ JX s.1 n (fun j => g j - if j ∈ sc.take i then 1 else 0) ∧ s.2.1 = O ++ ints ((sc.take i).filter fun j => decide (g j = 1))) (Post := fun p => JX p.1 n (fun j => g j - if j ∈ sc then 1 else 0) ∧ p.2 = O ++ ints (sc.filter fun j => decide (g j = 1))) (fun i s hi hI => by
  obtain ⟨L1, O1, k⟩ := s
  obtain ⟨q1, q2, q4⟩ := hI
  dsimp only at q1 q2 q4
  subst q1
  subst q4
  have hsi := hlt _ (AOz hi)
  have hmem : ∀ j, j ∈ sc.take (i + 1) ↔ j ∈ sc.take i ∨ j = sc[i] := fun j => by rw [← APc hi, AN7, AN8]
  have hnot : sc[i] ∉ sc.take i := by
   intro hm
   obtain ⟨j, hj, he⟩ := List.mem_iff_getElem.1 hm
   rw [AN6] at hj
   rw [APj] at he
   have := (List.pairwise_iff_getElem.1 (List.nodup_iff_pairwise_ne.1 hnd)) j i (by omega) hi (by omega)
   exact this he
  have hget := q2.2 _ hsi
  dsimp only at hget
  rw [A1 hnot] at hget
  have hb := hg _ hsi
  have hOl : (O ++ ints ((sc.take i).filter fun j => decide (g j = 1))).length ≤ 10000 := by
   rw [ANy]
   unfold ints
   rw [ANz]
   have := APg (fun j => decide (g j = 1)) (sc.take i)
   rw [AN6] at this
   omega
  refine Or.inl ⟨_, hs i hi L1 _ _ q2.1 hOl hget, rfl, ?_, ?_⟩
  ·rw [Cx (by omega) (by omega)]
   refine (q2.set hsi _).congr fun j hj => ?_
   by_cases q : j = sc[i]
   ·rw [A3 q, q, A3 ((hmem _).2 (Or.inr rfl))]
    omega
   ·rw [A1 q]
    by_cases q3 : j ∈ sc.take i
    ·rw [A3 q3, A3 ((hmem _).2 (Or.inl q3))]
    ·rw [A1 q3, A1 (fun q5 => ((hmem _).1 q5).elim q3 q)]
  ·rw [Cx (by omega) (by omega)]
   dsimp only
   rw [← APc hi, AO6, AO7]
   by_cases q : g sc[i] = 1
   ·rw [A3 (by omega), A3 (by rw [A2]; exact q)]
    unfold ints
    rw [AO0, APd]
    rfl
   ·rw [A1 (by omega), A1 (by rw [A2]; exact q), List.filter_nil, AO9]) (fun s hI => by
  obtain ⟨L1, O1, k⟩ := s
  obtain ⟨q1, q2, q4⟩ := hI
  dsimp only at q1 q2 q4
  subst q1
  rw [APk] at q2 q4
  exact ⟨_, he L1 O1, q2, q4⟩) sc.length 0 (L, O, 0) (by omega) ⟨rfl, hL.congr fun j hj => by simp, by simp [ints]⟩
 obtain ⟨L', O'⟩ := r
 dsimp only at h2
 rw [h2.2] at h1
 exact ⟨L', h1, h2.1⟩
end Go.Proofs.YtfcpkcehecmcpaaGreat
namespace Go.Proofs.YtfcpkcehecmcpaaGreat
open Go Go.RowKit Go.Pv
def Uy (sc : Nat → List Nat) (j i : Nat) : Nat := if j ∈ sc i then 1 else 0
theorem Aab (sc : Nat → List Nat) (j : Nat) : ∀ i, Ht i (Uy sc j) ≤ i
 | 0 => Nat.le_refl _
 | i + 1 => by
  have := Aab sc j i
  simp only [Ht]
  unfold Uy at *
  split <;> omega
theorem ACm (n : Nat) (sc : Nat → List Nat) (j : Nat) : Ht n (Uy sc j) = dg n sc [] j := by
 unfold dg
 refine Q1 fun i _ => ?_
 unfold Uy WI
 rw [A1 (show ¬ i ∈ ([] : List Nat) by simp)]
theorem Y6 {n : Nat} (h : n ≤ 4096) : S0 8 (n : Int) (0 : Int) = some (List.replicate n 0) := UM (by omega) (by omega)
theorem AL8 (n : Nat) (sc : Nat → List Nat) : JX (List.replicate n 0) n (fun j => (Ht 0 (Uy sc j) : Int)) := by
 refine ⟨by simp, fun j hj => ?_⟩
 rw [ANx (by simpa using hj), List.getElem_replicate]
 rfl
theorem UG {n nf k : Nat} {l : List A9} (h : PL n nf l) (hk : k = l.length) {body : List Int × Int → Option ((List Int × Int) ⊕ List Int)}
  (hs : ∀ (i : Nat) (hi : i < l.length) (L : List Int) (g : Nat → Int), (∀ j, j < l.length → 0 ≤ g j ∧ g j ≤ 1000000) → JX L l.length g → ∃ L', body (L, (i : Int)) = some (.inl (L', ((i + 1 : Nat) : Int))) ∧ JX L' l.length (fun j => g j + if j ∈ Gy l i then 1 else 0)) (he : ∀ L, body (L, (l.length : Int)) = some (.inr L)) :
  ∃ L, AY body (List.replicate k 0, 0) = some L ∧ JX L l.length (fun j => (dg l.length (Gy l) [] j : Int)) := by
 subst hk
 have hlen := h.len
 obtain ⟨r, h1, h2⟩ := Qc l.length (body := body) (fun i s => s.2 = (i : Int) ∧ JX s.1 l.length (fun j => (Ht i (Uy (Gy l) j) : Int))) (Post := fun L => JX L l.length (fun j => (dg l.length (Gy l) [] j : Int))) (fun i s hi hI => by
  obtain ⟨L1, q⟩ := s
  obtain ⟨q1, q2⟩ := hI
  dsimp only at q1 q2
  subst q1
  obtain ⟨L', b1, b2⟩ := hs i hi L1 _ (fun j _ => ⟨by omega, by have := Aab (Gy l) j i; omega⟩) q2
  refine Or.inl ⟨_, b1, rfl, b2.congr fun j hj => ?_⟩
  simp only [Ht]
  unfold Uy
  split <;> omega) (fun s hI => by
  obtain ⟨L1, q⟩ := s
  obtain ⟨q1, q2⟩ := hI
  dsimp only at q1 q2
  subst q1
  exact ⟨_, he L1, q2.congr fun j _ => by rw [ACm]⟩) l.length 0 (List.replicate l.length 0, 0) (by omega) ⟨rfl, AL8 _ _⟩
 exact ⟨r, h1, h2⟩
def NA (n : Nat) (g : Nat → Int) : List Nat := (List.range n).filter fun i => decide (g i = 0)
theorem VM {n : Nat} (hn : n ≤ 4096) {g : Nat → Int} {L : List Int} (hL : JX L n g) {body : List Int × Int → Option ((List Int × Int) ⊕ List Int)}
  (hs : ∀ (i : Nat) (hi : i < n) (acc : List Int) (x : Int), L[i]? = some x → acc.length ≤ 10000 → body (acc, (i : Int)) = some (.inl ((if x = 0 then acc ++ [(i : Int)] else acc), ((i + 1 : Nat) : Int)))) (he : ∀ acc, body (acc, (n : Int)) = some (.inr acc)) : AY body ([], 0) = some (ints (NA n g)) := by
 refine GM n (fun i => (ints (NA i g), (i : Int))) (fun i hi => ?_) (he _) rfl
 have hlen : (ints (NA i g)).length ≤ i := by
  unfold ints NA
  rw [ANz]
  exact Nat.le_trans (APg _ _) (by rw [APh]; exact Nat.le_refl _)
 rw [hs i hi _ _ (hL.2 i hi) (by omega)]
 congr 2
 refine Prod.ext ?_ rfl
 dsimp only
 unfold NA ints
 rw [AO8, AO6, AO0, AO7]
 by_cases q : g i = 0
 ·rw [A3 q, A3 (by rw [A2]; exact q)]; rfl
 ·rw [A1 q, A1 (by rw [A2]; exact q), List.filter_nil, List.map_nil, AO9]
theorem Atf (n : Nat) (sc : Nat → List Nat) : OQ n sc [] (NA n fun j => (dg n sc [] j : Int)) (fun j => (dg n sc [] j : Int)) := by
 have hm : ∀ j, j ∈ NA n (fun j => (dg n sc [] j : Int)) ↔ j < n ∧ dg n sc [] j = 0 := by
  intro j
  unfold NA
  rw [AOw, AOx, A2]
  dsimp only
  constructor
  ·rintro ⟨a, b⟩; exact ⟨a, by omega⟩
  ·rintro ⟨a, b⟩; exact ⟨a, by omega⟩
 refine ⟨?_, fun x hx => ?_, fun j hj => rfl, fun j hj => ?_, fun j hj => ?_⟩
 ·rw [APa]
  exact List.nodup_range.filter _
 ·rw [APa, hm] at hx
  exact hx.1
 ·rw [APa, hm]
  constructor
  ·intro q; exact ⟨hj, by omega⟩
  ·rintro ⟨_, q⟩; omega
 ·rw [APa, hm] at hj
  exact Zz.mk j hj.1 fun i hi hji => by
   have := SX.1 hj.2 i hi hji
   cases this
theorem AJ4 (n : Nat) (sc : Nat → List Nat) (D : List Nat) (j : Nat) : dg n sc D j ≤ n := by
 have := Qu (F := WI sc D j) (k := 1) (n := n) fun i _ => by
  unfold WI
  split
  ·omega
  ·split <;> omega
 unfold dg
 omega
theorem OQ.small {n : Nat} {sc : Nat → List Nat} {D O : List Nat} {g : Nat → Int} (K : OQ n sc D O g) (hn : n ≤ 4096) : (∀ j, j < n → 0 ≤ g j ∧ g j ≤ 1000000) ∧ D.length + O.length ≤ n := by
 constructor
 ·intro j hj
  rw [K.cnt j hj]
  have := AJ4 n sc D j
  omega
 ·have := AAz K.nd K.lt
  rw [ANy] at this
  exact this
theorem Z4 {n nf : Nat} {l : List A9} (h : PL n nf l) {body : List Int × Int × List Int → Option ((List Int × Int × List Int) ⊕ Int)}
  (hs : ∀ (L : List Int) (d : Nat) (O' : List Nat) (x : Nat) (g : Nat → Int), d ≤ 10000 → (O'.length) ≤ 7000 → x < l.length → (∀ j, j < l.length → 0 ≤ g j ∧ g j ≤ 1000000) → JX L l.length g → ∃ L', body (L, (d : Int), ints (O' ++ [x])) = some (.inl (L', ((d + 1 : Nat) : Int), ints (O' ++ (Gy l x).filter fun j => decide (g j = 1)))) ∧ JX L' l.length (fun j => g j - if j ∈ Gy l x then 1 else 0)) (he : ∀ L (d : Int), body (L, d, []) = some (.inr d)) :
  ∀ (m : Nat) (D O : List Nat) (g : Nat → Int) (L : List Int), l.length ≤ D.length + m → OQ l.length (Gy l) D O g → JX L l.length g → ∃ D' : List Nat, AY body (L, (D.length : Int), ints O) = some (D'.length : Int) ∧ D'.Nodup ∧ ∀ j, j ∈ D' ↔ Zz l.length (Gy l) j := by
 have hlen := h.len
 intro m
 induction m with
 | zero =>
  intro D O g L hm K hL
  have hsm := (K.small hlen).2
  have : O = [] := List.length_eq_zero_iff.1 (by omega)
  subst this
  exact ⟨D, BP (he _ _), by have := K.nd; rwa [AO9] at this, K.fin⟩
 | succ m ih =>
  intro D O g L hm K hL
  obtain ⟨hg, hsm⟩ := K.small hlen
  rcases List.eq_nil_or_concat O with rfl | ⟨O', x, rfl⟩
  ·exact ⟨D, BP (he _ _), by have := K.nd; rwa [AO9] at this, K.fin⟩
  ·rw [List.concat_eq_append] at *
   rw [ANy, AN3] at hsm
   have hx := K.lt x (by simp)
   obtain ⟨L', b1, b2⟩ := hs L D.length O' x g (by omega) (by omega) hx hg hL
   have K' := K.step (M5 h) (fun i => NI h) (x := x) (O' := O') List.perm_append_comm
   obtain ⟨D', c1, c2⟩ := ih (D ++ [x]) _ _ L' (by rw [ANy, AN3]; omega) K' b2
   rw [ANy, AN3] at c1
   exact ⟨D', by rw [Dh b1]; exact c1, c2⟩
theorem Z0 {n nf : Nat} {l : List A9} (h : PL n nf l) {body : List Int × List Int × Int → Option ((List Int × List Int × Int) ⊕ List Int)}
  (hs : ∀ (L : List Int) (D O' : List Nat) (x : Nat) (g : Nat → Int), (D ++ x :: O').length ≤ 7000 → x < l.length → (∀ j, j < l.length → 0 ≤ g j ∧ g j ≤ 1000000) → JX L l.length g → ∃ L', body (L, ints (D ++ x :: O'), (D.length : Int)) = some (.inl (L', ints (D ++ x :: O') ++ ints ((Gy l x).filter fun j => decide (g j = 1)), ((D.length + 1 : Nat) : Int))) ∧ JX L' l.length (fun j => g j - if j ∈ Gy l x then 1 else 0)) (he : ∀ L (N : List Int), N.length ≤ 10000 → body (L, N, (N.length : Int)) = some (.inr N)) :
  ∀ (m : Nat) (D O : List Nat) (g : Nat → Int) (L : List Int), l.length ≤ D.length + m → OQ l.length (Gy l) D O g → JX L l.length g → ∃ D' : List Nat, AY body (L, ints (D ++ O), (D.length : Int)) = some (ints D') ∧ D'.Nodup ∧ ∀ j, j ∈ D' ↔ Zz l.length (Gy l) j := by
 have hlen := h.len
 have CP : ∀ (D : List Nat) (g : Nat → Int) (L : List Int), OQ l.length (Gy l) D [] g → ∃ D' : List Nat, AY body (L, ints (D ++ []), (D.length : Int)) = some (ints D') ∧ D'.Nodup ∧ ∀ j, j ∈ D' ↔ Zz l.length (Gy l) j := by
  intro D g L K
  have hsm := (K.small hlen).2
  rw [AO9]
  have := he L (ints D) (by unfold ints; rw [ANz]; simp at hsm; omega)
  unfold ints at this
  rw [ANz] at this
  exact ⟨D, BP this, by have := K.nd; rwa [AO9] at this, K.fin⟩
 intro m
 induction m with
 | zero =>
  intro D O g L hm K hL
  have hsm := (K.small hlen).2
  have : O = [] := List.length_eq_zero_iff.1 (by omega)
  subst this
  exact CP D g L K
 | succ m ih =>
  intro D O g L hm K hL
  obtain ⟨hg, hsm⟩ := K.small hlen
  rcases O with _ | ⟨x, O'⟩
  ·exact CP D g L K
  ·have hx := K.lt x (by simp)
   obtain ⟨L', b1, b2⟩ := hs L D O' x g (by rw [ANy]; omega) hx hg hL
   have K' := K.step (M5 h) (fun i => NI h) (x := x) (O' := O') (List.Perm.refl _)
   obtain ⟨D', c1, c2⟩ := ih (D ++ [x]) _ _ L' (by rw [ANy, AN3]; omega) K' b2
   rw [ANy, AN3] at c1
   refine ⟨D', ?_, c2⟩
   rw [Dh b1]
   have he : ints ((D ++ [x]) ++ (O' ++ (Gy l x).filter fun j => decide (g j = 1))) = ints (D ++ x :: O') ++ ints ((Gy l x).filter fun j => decide (g j = 1)) := by
    unfold ints
    rw [← AO0]
    congr 1
    simp
   rw [he] at c1
   exact c1
theorem N4 {l : List Nat} {r : Nat} (hr : r < l.length) : idx (ints l) (r : Int) = some (l[r] : Int) := by
 unfold ints
 rw [BN (by rw [ANz]; exact hr), List.getElem_map]
theorem GV (l : List Nat) : (ints l).length = l.length := ANz _
theorem Y3 {n nf : Nat} {l : List A9} (h : PL n nf l) {i : Nat} (hi : i < l.length) : Ld l[i] = some (ints (Ci l[i])) := Adm h (AOz hi)
theorem ZO {n nf : Nat} {l : List A9} (h : PL n nf l) (k : Int) : ∃ D : List Nat, IR ⟨l, k⟩ = some (decide ((D.length : Int) < l.length)) ∧ D.Nodup ∧ ∀ j, j ∈ D ↔ Zz l.length (Gy l) j := by
 have hlen := h.len
 have hpl : ∀ {i : Nat} (hi : i < l.length) {r : Nat} (hr : r < (Ci l[i]).length), G7 ⟨l, k⟩ ((Ci l[i])[r] : Int) = some (KR l ((Ci l[i])[r] : Int) : Int) := fun {i} hi {r} hr => Aan h k (h.nx _ (AOz hi) _ (AOz hr))
 unfold IR
 rw [Y6 hlen, ANu]
 obtain ⟨L0, l1, l2⟩ := UG h rfl (body := Fe ⟨l, k⟩) (fun i hi L g hg hL => by
  obtain ⟨L', a1, a2⟩ := X2 (Gy l i) (M5 h i) (NI h) (body := Fc ⟨l, k⟩ (ints (Ci l[i]))) hg (fun r hr L x hLl hx => by
   rw [Nb hi, ANz] at hr
   have hsr : (Gy l i)[r]'(by rw [Nb hi, ANz]; exact hr) = KR l ((Ci l[i])[r] : Int) := by simp only [Nb hi, List.getElem_map]
   rw [hsr] at hx ⊢
   unfold Fc
   dsimp only
   have hn3 := P8 l[i]
   rw [GV, A3 (by rw [A2]; omega), N4 hr, ANu, hpl hi hr, ANu, FQ hx, ANu, ANu, APl, CS (by omega)]) (fun L => by
   unfold Fc
   dsimp only
   rw [GV, Nb hi, ANz, A1 (by rw [A2]; omega)]) hL
  refine ⟨L', ?_, a2⟩
  unfold Fe
  dsimp only
  rw [A3 (by rw [A2]; omega), BN hi, ANu, show (⟨l[i].At, l[i].Op, l[i].A, l[i].B⟩ : A9) = l[i] from rfl, Y3 h hi, ANu, a1, ANu, CS (by omega)]) (fun L => by
  unfold Fe
  dsimp only
  rw [A1 (by rw [A2]; omega)])
 dsimp only
 rw [l1, ANu, VM hlen l2 (fun i hi acc x hx hacc => by
  unfold Gh
  dsimp only
  rw [A3 (by rw [A2, l2.1]; omega), FQ hx, ANu, CS (by omega)]
  by_cases q : x = 0
  ·rw [A3 (by rw [AE]; exact q), A3 q, CZ (by simp; omega), ANu]
  ·rw [A1 (by rw [AE]; exact q), A1 q]) (fun acc => by
  unfold Gh
  dsimp only
  rw [A1 (by rw [A2, l2.1]; omega)]), ANu]
 obtain ⟨D, d1, d2⟩ := Z4 h (body := El ⟨l, k⟩) (fun L d O' x g hd hO hx hg hL => by
  obtain ⟨L', a1, a2⟩ := Xb (Gy l x) (M5 h x) (NI h) (SZ l x) (body := Fg ⟨l, k⟩ (ints (Ci l[x]))) hg (fun r hr L O y hLl hOl hy => by
   rw [Nb hx, ANz] at hr
   have hsr : (Gy l x)[r]'(by rw [Nb hx, ANz]; exact hr) = KR l ((Ci l[x])[r] : Int) := by simp only [Nb hx, List.getElem_map]
   rw [hsr] at hy ⊢
   have hpl2 : KR l ((Ci l[x])[r] : Int) < l.length := by rw [← hsr]; exact NI h _ (AOz _)
   unfold Fg
   dsimp only
   have hn3 := P8 l[x]
   have hset : idx (L.set (KR l ((Ci l[x])[r] : Int)) (wr (y - 1))) (KR l ((Ci l[x])[r] : Int) : Int) = some (wr (y - 1)) := FQ (by rw [List.getElem?_set, A3 rfl, A3 (by omega)])
   rw [GV, A3 (by rw [A2]; omega), N4 hr, ANu, hpl hx hr, ANu, FQ hy, ANu, ANu, APl, hset, ANu, CS (by omega)]
   by_cases q : wr (y - 1) = 0
   ·rw [A3 (by rw [AE]; exact q), A3 q, CZ (by simp; omega), ANu]
   ·rw [A1 (by rw [AE]; exact q), A1 q]) (fun L O => by
   unfold Fg
   dsimp only
   rw [GV, Nb hx, ANz, A1 (by rw [A2]; omega)]) hL (O := ints O') (by rw [GV]; omega)
  refine ⟨L', ?_, a2⟩
  unfold El
  dsimp only
  have e1 : (ints (O' ++ [x])).length = O'.length + 1 := by rw [GV, ANy]; rfl
  have e2 : ints (O' ++ [x]) = ints O' ++ [(x : Int)] := by unfold ints; rw [AO0]; rfl
  rw [e1, A3 (by rw [A2]; omega), show wr (((O'.length + 1 : Nat) : Int) - 1) = (O'.length : Int) from by rw [Cx (by omega) (by omega)]; omega]
  have e3 : idx (ints (O' ++ [x])) (O'.length : Int) = some (x : Int) := by
   rw [N4 (by rw [ANy]; simp)]
   simp
  have e4 : J5 (ints (O' ++ [x])) 0 (O'.length : Int) = some (ints O') := by
   rw [Nf (by rw [e1]; omega), e2]
   congr 1
   rw [APl, show ((0 : Int).toNat) = 0 from rfl, List.drop_zero, List.take_left' (GV O')]
  rw [e3, ANu, e4, ANu, BN hx, ANu, Y3 h hx, ANu, a1, ANu, CS (by omega)]
  unfold ints
  rw [AO0]) (fun L d => by
  unfold El
  dsimp only
  rw [A1 (by simp)]) l.length [] _ _ L0 (by simp) (Atf _ _) l2
 have d1' : AY (El ⟨l, k⟩) (L0, 0, ints (NA l.length fun j => (dg l.length (Gy l) [] j : Int))) = some (D.length : Int) := d1
 rw [d1', ANu]
 exact ⟨D, rfl, d2⟩
end Go.Proofs.YtfcpkcehecmcpaaGreat
namespace Go.Proofs.YtfcpkcehecmcpaaGreat
open Go Go.RowKit Go.Pv
theorem ZI (m : AL) (hm : J8 m) (fn : Int) {r : List A9 × Int × Int × Int} (hr : Dg m fn = some r) (h0 : r.2.2.2 = 0) (hR : WX m fn r.1) : ∃ D : List Nat, FG m fn = some (decide ((D.length : Int) < r.1.length), 0, 0) ∧ D.Nodup ∧ ∀ j, j ∈ D ↔ Zz r.1.length (Gy r.1) j := by
 have h := YA hR
 have hlen := h.len
 unfold FG
 rw [show (⟨m.Name, m.Classes, m.Funcs, m.Ca⟩ : AL) = m from rfl, hr, ANu, A1 (by rw [h0]; simp), show idx m.Funcs fn = some (Ej m fn) from GI hR.rng.1 hR.rng.2 _, ANu, Y6 hlen, ANu]
 obtain ⟨L0, l1, l2⟩ := UG h rfl (body := E3 r (Ej m fn)) (fun i hi L g hg hL => by
  obtain ⟨L', a1, a2⟩ := X2 (Gy r.1 i) (M5 h i) (NI h) (body := Ew (ints (Gy r.1 i))) hg (fun k hk L x hLl hx => by
   unfold Ew
   dsimp only
   have hn3 := SZ r.1 i
   rw [GV, A3 (by rw [A2]; omega), N4 hk, ANu, ANu, FQ hx, ANu, ANu, APl, CS (by omega)]) (fun L => by
   unfold Ew
   dsimp only
   rw [GV, A1 (by rw [A2]; omega)]) hL
  refine ⟨L', ?_, a2⟩
  unfold E3
  dsimp only
  rw [A3 (by rw [A2]; omega), WW h hi, ANu, a1, ANu, CS (by omega)]) (fun L => by
  unfold E3
  dsimp only
  rw [A1 (by rw [A2]; omega)])
 rw [l1, ANu, VM hlen l2 (fun i hi acc x hx hacc => by
  unfold Ft
  dsimp only
  rw [A3 (by rw [A2]; omega), FQ hx, ANu, CS (by omega)]
  by_cases q : x = 0
  ·rw [A3 (by rw [AE]; exact q), A3 q, CZ (by simp; omega), ANu]
  ·rw [A1 (by rw [AE]; exact q), A1 q]) (fun acc => by
  unfold Ft
  dsimp only
  rw [A1 (by rw [A2]; omega)]), ANu]
 obtain ⟨D, d1, d2⟩ := Z0 h (body := DI r (Ej m fn)) (fun L D O' x g hO hx hg hL => by
  obtain ⟨L', a1, a2⟩ := Xb (Gy r.1 x) (M5 h x) (NI h) (SZ r.1 x) (body := Ez (ints (Gy r.1 x))) hg (fun k hk L O y hLl hOl hy => by
   have hpl2 : (Gy r.1 x)[k] < r.1.length := NI h _ (AOz _)
   unfold Ez
   dsimp only
   have hn3 := SZ r.1 x
   have hset : idx (L.set ((Gy r.1 x)[k]) (wr (y - 1))) ((Gy r.1 x)[k] : Int) = some (wr (y - 1)) := FQ (by rw [List.getElem?_set, A3 rfl, A3 (by omega)])
   rw [GV, A3 (by rw [A2]; omega), N4 hk]
   simp only [ANu]
   rw [FQ hy]
   simp only [ANu, APl]
   rw [hset, ANu, CS (by omega)]
   by_cases q : wr (y - 1) = 0
   ·rw [A3 (by rw [AE]; exact q), A3 q, CZ (by simp; omega), ANu]
   ·rw [A1 (by rw [AE]; exact q), A1 q]) (fun L O => by
   unfold Ez
   dsimp only
   rw [GV, A1 (by rw [A2]; omega)]) hL (O := ints (D ++ x :: O')) (by rw [GV]; omega)
  refine ⟨L', ?_, a2⟩
  unfold DI
  dsimp only
  have e3 : idx (ints (D ++ x :: O')) (D.length : Int) = some (x : Int) := by
   rw [N4 (by rw [ANy, APb]; omega)]
   simp
  rw [GV, A3 (by rw [A2, ANy, APb]; omega), e3, ANu, WW h hx, ANu, a1, ANu, CS (by rw [ANy] at hO; omega)]) (fun L N hN => by
  unfold DI
  dsimp only
  rw [A1 (by rw [A2]; omega)]) r.1.length [] _ _ L0 (by simp) (Atf _ _) l2
 have d1' : AY (DI r (Ej m fn)) (L0, ints (NA r.1.length fun j => (dg r.1.length (Gy r.1) [] j : Int)), 0) = some (ints D) := d1
 rw [d1', ANu, GV]
 exact ⟨D, rfl, d2⟩
theorem eqI (l : List Int) (h : l.length ≤ Et) : GY l l = some true := by
 simp only [Et] at h
 unfold GY
 rw [A1 (by simp), Jp l (r := .inr ()) (fun i hi => by
  unfold EG
  rw [A3 (by simpa using hi), BN hi, ANu, ANu, A1 (by simp), CS (by omega)]) (by unfold EG; simp)]
 rfl
theorem Zj (nf : Nat) (l : List A9) : (Ju nf l).length ≤ nf := by
 unfold Ju ints
 rw [ANz]
 exact Nat.le_trans (APg _ _) (by rw [APh]; exact Nat.le_refl _)
theorem Tl (m : AL) (fn : Int) {r : List A9 × Int × Int × Int} (hr : Dg m fn = some r) (h0 : r.2.2.2 ≠ 0) : FI m fn = some ([], r.2.2.1, r.2.2.2) := by
 unfold FI
 rw [show (⟨m.Name, m.Classes, m.Funcs, m.Ca⟩ : AL) = m from rfl, hr, ANu, A3 (AW.2 h0)]
theorem Vj (m : AL) (fn : Int) (hm : J8 m) : EC m fn = some true := by
 have hfl := hm.fl
 obtain ⟨r, h1, h2, h3, h4⟩ := Ago m hm fn
 unfold EC NE Ni N9 Jf
 rw [show (⟨m.Name, m.Classes, m.Funcs, m.Ca⟩ : AL) = m from rfl, ZB m hm, ANu]
 rw [show (⟨m.Name, m.Classes, m.Funcs, m.Ca⟩ : AL) = m from rfl, h1, h2]
 simp only [ANu]
 by_cases h0 : r.2.2.2 = 0
 ·obtain ⟨h5, h6⟩ := h3 h0
  have hP := YA h6
  have hlen := hP.len
  rw [ZU m hm fn h1 h0 hlen]
  obtain ⟨D1, a1, a2, a3⟩ := ZO hP r.2.1
  obtain ⟨D2, b1, b2, b3⟩ := ZI m hm fn h1 h0 h6
  rw [b1]
  have c1 : (((0 : Int) != 0) = true) = False := by simp
  simp only [h0, c1, if_false, if_true, ANu]
  rw [show (⟨r.1, r.2.1⟩ : Cf) = ⟨r.1, r.2.1⟩ from rfl, Abg hP, a1, Afz a2 b2 fun j => (a3 j).trans (b3 j).symm]
  simp only [c1, if_false, ANu]
  have hcl := Zj m.Funcs.length r.1
  rw [eqI _ (by simp only [Et] at *; omega), ANu, h5]
  simp [UU m hm]
 ·have c1 : ((r.2.2.2 != 0) = true) = True := eq_true (AW.2 h0)
  have hL : FG m fn = some (false, r.2.2.1, r.2.2.2) := by
   unfold FG
   rw [show (⟨m.Name, m.Classes, m.Funcs, m.Ca⟩ : AL) = m from rfl, h1, ANu, A3 (AW.2 h0)]
  rw [Tl m fn h1 h0, hL]
  simp only [c1, if_true, ANu]
  rw [eqI _ (by simp), ANu, h4 h0]
  simp [UU m hm]
end Go.Proofs.YtfcpkcehecmcpaaGreat
