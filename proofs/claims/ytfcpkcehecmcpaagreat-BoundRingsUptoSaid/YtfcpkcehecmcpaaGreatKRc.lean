/- Lemmas, walks and laws that the row of this claim rests on, merged into few texts: part 3. -/
import Derived.Test.YtfcpkcehecmcpaaGreatProg
import Derived.Test.YtfcpkcehecmcpaaGreatKRb
set_option linter.unusedVariables false
set_option linter.unusedSimpArgs false
open Option renaming bind_some → B3c, getD_some → B3d
open List renaming getElem?_eq_getElem → B3e, length_append → B3f, length_map → B3g, length_singleton → B3h, length_set → B3i, length_take → B3j, mem_append → B3k, mem_singleton → B3l, mem_cons → B3m, mem_filter → B3n, mem_range → B3o, mem_map → B3p, getElem_mem → B3q, map_append → B3r, filter_append → B3t, filter_cons → B3u, range_succ → B3v, append_nil → B3w, length_cons → B3x, take_append_getElem → B3y, pairwise_append → B3z, mem_of_getElem? → B30, length_filter_le → B31, length_range → B32, pairwise_cons → B33, take_length → B34
open Int renaming toNat_natCast → B35, eq_ofNat_of_zero_le → B36
open Bool renaming and_eq_true → B37, eq_iff_iff → B38
namespace Go.Proofs.YtfcpkcehecmcpaaGreat
open Go Go.RowKit Go.Pv Go.Proofs.Tryz
def Shp (f : Aas) : Prop := 0 ≤ f.Locals ∧ f.Locals ≤ 16 ∧ 0 ≤ f.Height ∧ f.Locals + f.Height ≤ 24
instance (f : Aas) : Decidable (Shp f) := by unfold Shp; infer_instance
theorem Bcs (f : Aas) (h : -9223372036854775808 ≤ f.Height ∧ f.Height ≤ 9223372036854775807) : ASw f = some (decide (Shp f)) := by
 unfold ASw
 have hS : Shp f ↔ (0 ≤ f.Locals ∧ f.Locals ≤ 16 ∧ 0 ≤ f.Height ∧ f.Locals + f.Height ≤ 24) := Iff.rfl
 by_cases h1 : 0 ≤ f.Locals
 ·rw [Mo (by rw [LX]; omega)]
  by_cases h2 : f.Locals ≤ 16
  ·rw [Mo (by rw [LX]; omega)]
   by_cases h3 : 0 ≤ f.Height
   ·rw [Mo (by rw [LX]; omega), ANa (by omega) (by omega)]
    congr 1
    rw [decide_eq_decide, hS]
    omega
   ·rw [Hw (by rw [LX]; omega), decide_eq_false (by rw [hS]; omega)]
  ·rw [Hw (by rw [LX]; omega), decide_eq_false (by rw [hS]; omega)]
 ·rw [Hw (by rw [LX]; omega), decide_eq_false (by rw [hS]; omega)]
theorem Bio (f : Aas) : AQ4 f = some (decide (Shp f)) := by
 unfold AQ4
 have hS : Shp f ↔ (0 ≤ f.Locals ∧ f.Locals ≤ 16 ∧ 0 ≤ f.Height ∧ f.Locals + f.Height ≤ 24) := Iff.rfl
 by_cases h1 : 0 ≤ f.Locals
 ·rw [Mo (by rw [LX]; omega)]
  by_cases h2 : f.Locals ≤ 16
  ·rw [Mo (by rw [LX]; omega)]
   by_cases h3 : 0 ≤ f.Height
   ·rw [Mo (by rw [LX]; omega)]
    by_cases h4 : f.Height ≤ 24
    ·rw [Mo (by rw [LX]; omega), ANa (by omega) (by omega)]
     congr 1
     rw [decide_eq_decide, hS]
     omega
    ·rw [Hw (by rw [LX]; omega), decide_eq_false (by rw [hS]; omega)]
   ·rw [Hw (by rw [LX]; omega), decide_eq_false (by rw [hS]; omega)]
  ·rw [Hw (by rw [LX]; omega), decide_eq_false (by rw [hS]; omega)]
 ·rw [Hw (by rw [LX]; omega), decide_eq_false (by rw [hS]; omega)]
theorem Bqf (v : Vector UInt8 24) (n : Nat) : ∃ w : Vector UInt8 24, ∀ i (h : i < 24), w[i] = if i < n then v[i] else 0 := ⟨Vector.ofFn fun i => if i.val < n then v[i] else 0, fun i h => by simp⟩
noncomputable def Bi0 (v : Vector UInt8 24) (n : Nat) : Vector UInt8 24 := Classical.choose (Bqf v n)
theorem AUk (v : Vector UInt8 24) (n i : Nat) (h : i < 24) : (Bi0 v n)[i] = if i < n then v[i] else 0 := Classical.choose_spec (Bqf v n) i h
noncomputable def AQc (f : Aas) : Aas := ⟨f.Locals, f.Height, Bi0 f.Slots (f.Locals + f.Height).toNat⟩
theorem Bfx (f : Aas) (h0 : 0 ≤ f.Locals + f.Height) (h : f.Locals + f.Height ≤ 24) : AUj f = some (AQc f) := by
 unfold AUj AQc
 rw [ANa (by omega) (by omega), Bal (by simp; omega), B3c]
 have : vcp (Vector.replicate 24 (0 : UInt8)) f.Slots (f.Locals + f.Height).toNat = Bi0 f.Slots (f.Locals + f.Height).toNat := by
  apply Vector.ext
  intro j hj
  unfold vcp
  rw [AUk _ _ _ hj, Vector.getElem_ofFn]
  simp
 rw [this]
theorem Bp6 (f : Aas) (h0 : 0 ≤ f.Locals + f.Height) (h : f.Locals + f.Height ≤ 24) : ASt f = some (AQc f) := by
 unfold ASt AQc
 rw [ANa (by omega) (by omega)]
 obtain ⟨n, hn⟩ := B36 h0
 rw [hn, B35]
 have hn24 : n ≤ 24 := by omega
 have key : ∀ k i (v : Vector UInt8 24), i + k = 24 → n ≤ i → (∀ j (hj : j < 24), j < i → v[j] = (Bi0 f.Slots n)[j]) → (∀ j (hj : j < 24), ¬ j < i → True) → Aot AP5 (v, (i : Int)) = some (Bi0 f.Slots n) := by
  intro k
  induction k with
  | zero =>
   intro i v hi hni hv _
   have hv' : v = Bi0 f.Slots n := Vector.ext fun j hj => hv j hj (by omega)
   rw [← hv', Awv (r := v)]
   ·unfold AP5
    dsimp only
    rw [Hw (by rw [LX]; omega)]
  | succ k ih =>
   intro i v hi hni hv _
   have hi24 : i < v.toList.length := by simp; omega
   rw [AGm (s' := (AT6 v (i : Int) 0, ((i + 1 : Nat) : Int)))]
   ·refine ih (i + 1) _ (by omega) (by omega) (fun j hj hji => ?_) (fun _ _ _ => trivial)
    unfold AT6
    rw [Vector.getElem_setIfInBounds, B35]
    by_cases hij : i = j
    ·rw [Mo hij, AUk _ _ _ hj, Hw (by omega)]
    ·rw [Hw hij]; exact hv j hj (by omega)
   ·unfold AP5
    dsimp only
    rw [Mo (by rw [LX]; omega), Ayt hi24, B3c, wr1 (by omega)]
 rw [key (24 - n) n f.Slots (by omega) (by omega) (fun j hj hji => by rw [AUk _ _ _ hj, Mo hji]) (fun _ _ _ => trivial), B3c]
end Go.Proofs.YtfcpkcehecmcpaaGreat
namespace Go.Proofs.YtfcpkcehecmcpaaGreat
open Go Go.RowKit Go.Pv Go.Proofs.Tryz
def Bx8 (f : Aas) : Prop := (-9223372036854775808 ≤ f.Locals ∧ f.Locals ≤ 9223372036854775807) ∧ (-9223372036854775808 ≤ f.Height ∧ f.Height ≤ 9223372036854775807)
noncomputable def Bfy (l : List Abi) (f : Aas) : Int := if ¬ Shp f then 32 else if (AQc f).Slots ≠ f.Slots then 32 else if f.Slots.toList.all (tv l) = true then 0 else 22
theorem Bai (l : List Abi) : tv l 0 = true := by unfold tv; rfl
theorem Btb (l : List Abi) (f : Aas) (h : Bx8 f) : ATh l f = some (Bfy l f) := by
 unfold ATh Bfy
 rw [show (⟨f.Locals, f.Height, f.Slots⟩ : Aas) = f from rfl, Bcs f h.2, B3c]
 by_cases hs : Shp f
 ·rw [Hw (by simp [hs]), Hw (by simp [hs])]
  have hs' := hs
  unfold Shp at hs'
  rw [Bfx f (by omega) (by omega), B3c]
  have he : ((AQc f).Locals == f.Locals && ((AQc f).Height == f.Height && ((AQc f).Slots == f.Slots && true))) = decide ((AQc f).Slots = f.Slots) := by
   have hL : (AQc f).Locals = f.Locals := by unfold AQc; dsimp only
   have hH : (AQc f).Height = f.Height := by unfold AQc; dsimp only
   rw [hL, hH]
   generalize (AQc f).Slots = B
   generalize f.Slots = C
   rw [B38, LX]
   simp
  rw [he]
  by_cases hb : (AQc f).Slots = f.Slots
  ·rw [decide_eq_true hb, Hw (by simp), Hw (by simp [hb])]
   have hl := ASv (R := Int ⊕ Unit) 24 (body := ASl l f) (fun i => (AXq f.Slots.toList (fun t => !tv l t) i).map fun _ => .inl 22) (r0 := .inr ()) (fun i hi => by
    have hi' : i < f.Slots.toList.length := by simp; omega
    unfold ASl
    rw [Mo (by rw [LX]; omega), Ayt hi', B3c, AWz, B3c, wr1 (by omega), Baf hi']
    split <;> rfl) (by
    unfold ASl
    rw [Hw (by rw [LX]; omega)])
   rw [hl, B3c, AV7]
   have hn := Bdp f.Slots.toList fun t => !tv l t
   rw [Vector.length_toList] at hn
   rcases hf : (List.range 24).findSome? (AXq f.Slots.toList fun t => !tv l t) with _ | r
   ·have ha : f.Slots.toList.all (tv l) = true := by
     have := hn.1 hf
     rw [List.all_eq_true]
     intro t ht
     rw [List.any_eq_false] at this
     simpa using this t ht
    rw [Mo ha]; rfl
   ·have ha : f.Slots.toList.all (tv l) ≠ true := by
     intro hb2
     rw [List.all_eq_true] at hb2
     have : (f.Slots.toList.any fun t => !tv l t) = false := by
      rw [List.any_eq_false]
      intro t ht; simp [hb2 t ht]
     rw [hn.2 this] at hf; cases hf
    rw [Hw ha]; rfl
  ·rw [decide_eq_false hb, Mo (by simp), Mo hb]
 ·rw [Mo (by simp [hs]), Mo hs]
end Go.Proofs.YtfcpkcehecmcpaaGreat
namespace Go.Proofs.YtfcpkcehecmcpaaGreat
open Go Go.RowKit Go.Pv Go.Proofs.Tryz
theorem Bgv {R : Type} (n : Nat) {body : Int → Option (Int ⊕ R)} (P : Nat → Option R) {r0 : R} (hs : ∀ i, i < n → body (i : Int) = match P i with | some r => some (.inr r) | none => some (.inl ((i + 1 : Nat) : Int))) (he : body (n : Int) = some (.inr r0)) :
  ∀ k i, i + k = n → (∃ r, (∃ j, i ≤ j ∧ j < n ∧ P j = some r) ∧ Aot body (i : Int) = some r) ∨ ((∀ j, i ≤ j → j < n → P j = none) ∧ Aot body (i : Int) = some r0) := by
 intro k
 induction k with
 | zero => intro i hi; right; exact ⟨fun j h1 h2 => by omega, Awv (by rw [show i = n by omega]; exact he)⟩
 | succ k ih =>
  intro i hi
  have hb := hs i (by omega)
  rcases hP : P i with _ | r
  ·rw [hP] at hb
   rw [AGm hb]
   rcases ih (i + 1) (by omega) with ⟨r, ⟨j, h1, h2, h3⟩, h4⟩ | ⟨h1, h2⟩
   ·exact Or.inl ⟨r, ⟨j, by omega, h2, h3⟩, h4⟩
   ·refine Or.inr ⟨fun j hj hjn => ?_, h2⟩
    by_cases h : j = i
    ·rw [h, hP]
    ·exact h1 j (by omega) hjn
  ·rw [hP] at hb
   exact Or.inl ⟨r, ⟨i, Nat.le_refl i, by omega, hP⟩, Awv hb⟩
def Bdq (l : List Abi) (v : Vector UInt8 24) : Prop := ∀ j (h : j < 24), tv l v[j] = true
theorem Bbn (l : List Abi) (v : Vector UInt8 24) : v.toList.all (tv l) = true ↔ Bdq l v := by
 rw [List.all_eq_true]
 constructor
 ·intro h j hj
  exact h _ (by rw [← Vector.getElem_toList (by simpa using hj)]; exact B3q _)
 ·intro h x hx
  obtain ⟨i, hi, rfl⟩ := List.mem_iff_getElem.1 hx
  rw [Vector.getElem_toList]
  exact h i (by simpa using hi)
structure Fok (l : List Abi) (f : Aas) : Prop where
 shp : Shp f
 bare : ∀ j (h : j < 24), (f.Locals + f.Height).toNat ≤ j → f.Slots[j] = 0
 all : Bdq l f.Slots
theorem Bb9 (f : Aas) : (AQc f).Slots = f.Slots ↔ ∀ j (h : j < 24), (f.Locals + f.Height).toNat ≤ j → f.Slots[j] = 0 := by
 unfold AQc
 dsimp only
 constructor
 ·intro h j hj hle
  have := AUk f.Slots (f.Locals + f.Height).toNat j hj
  rw [Hw (by omega)] at this
  rw [← this]
  congr 1
  exact h.symm
 ·intro h
  apply Vector.ext
  intro j hj
  rw [AUk _ _ _ hj]
  split
  ·rfl
  ·exact (h j hj (by omega)).symm
theorem Boj (l : List Abi) (f : Aas) : Bfy l f = 0 ↔ Fok l f := by
 unfold Bfy
 by_cases h1 : Shp f
 ·rw [Hw (by simp [h1])]
  by_cases h2 : (AQc f).Slots = f.Slots
  ·rw [Hw (by simp [h2])]
   by_cases h3 : f.Slots.toList.all (tv l) = true
   ·rw [Mo h3]
    exact ⟨fun _ => ⟨h1, (Bb9 f).1 h2, (Bbn l _).1 h3⟩, fun _ => rfl⟩
   ·rw [Hw h3]
    exact ⟨fun h => (by cases h), fun h => absurd ((Bbn l _).2 h.all) h3⟩
  ·rw [Mo h2]
   exact ⟨fun h => (by cases h), fun h => absurd ((Bb9 f).2 h.bare) h2⟩
 ·rw [Mo h1]
  exact ⟨fun h => (by cases h), fun h => absurd h.shp h1⟩
theorem Fok.int {l : List Abi} {f : Aas} (h : Fok l f) : Bx8 f := by
 have := h.shp
 unfold Shp at this
 unfold Bx8
 omega
theorem Bhs {l : List Abi} {f : Aas} (h : Fok l f) : ATh l f = some 0 := by
 rw [Btb l f h.int, (Boj l f).2 h]
theorem Btt (l : List Abi) (f : Aas) : APr l f = some (Bfy l f) := by
 unfold APr
 rw [show (⟨f.Locals, f.Height, f.Slots⟩ : Aas) = f from rfl, Bio f, B3c]
 by_cases hs : Shp f
 ·rw [Hw (by simp [hs])]
  have hs' := hs
  unfold Shp at hs'
  obtain ⟨n, hn⟩ := B36 (show 0 ≤ f.Locals + f.Height by omega)
  have hn24 : n ≤ 24 := by omega
  rw [hn, Bp0 (by omega)]
  have hl0 := Bgv (R := Int ⊕ Unit) 24 (body := APg f) (fun i => if h : i < 24 then (if f.Slots[i] = 0 then none else some (.inl 32)) else none) (r0 := .inr ()) (fun i hi => by
   have hi' : i < f.Slots.toList.length := by simp; omega
   unfold APg
   rw [Mo (by rw [LX]; omega), Ayt hi', B3c, wr1 (by omega), dif_pos hi, Vector.getElem_toList]
   by_cases h0 : f.Slots[i] = 0
   ·rw [Mo h0, Hw (by rw [h0]; simp)]
   ·rw [Hw h0, Mo]
    rw [Ale]
    intro h
    apply h0
    apply UInt8.toNat_inj.1
    simpa using h) (by
   unfold APg
   rw [Hw (by rw [LX]; omega)]) (24 - n) n (by omega)
  rcases hl0 with ⟨r, ⟨j, hj1, hj2, hj3⟩, hl⟩ | ⟨hb, hl⟩
  ·rw [dif_pos hj2] at hj3
   have h0 : f.Slots[j] ≠ 0 := by intro h; rw [Mo h] at hj3; cases hj3
   rw [Hw h0] at hj3
   cases hj3
   rw [hl, B3c]
   have hc : Bfy l f = 32 := by
    unfold Bfy
    rw [Hw (by simp [hs]), Mo]
    intro h
    exact h0 ((Bb9 f).1 h j hj2 (by rw [hn, B35]; exact hj1))
   rw [hc]
  ·rw [hl, B3c]
   have hb' : ∀ j (h : j < 24), (f.Locals + f.Height).toNat ≤ j → f.Slots[j] = 0 := by
    intro j hj hle
    rw [hn, B35] at hle
    have := hb j hle hj
    rw [dif_pos hj] at this
    by_cases h0 : f.Slots[j] = 0
    ·exact h0
    ·rw [Hw h0] at this; cases this
   have hl1 := Bgv (R := Int ⊕ Unit) n (body := APk l f) (fun i => if h : i < 24 then (if tv l f.Slots[i] = true then none else some (.inl 22)) else none) (r0 := .inr ()) (fun i hi => by
    have hi' : i < f.Slots.toList.length := by simp; omega
    have hi24 : i < 24 := by omega
    unfold APk
    rw [hn, Bp0 (by omega), Mo (by rw [LX]; omega), Ayt hi', B3c, AX5, B3c, wr1 (by omega), dif_pos hi24, Vector.getElem_toList]
    rcases ht : tv l f.Slots[i] with _ | _
    ·rfl
    ·rfl) (by
    unfold APk
    rw [hn, Bp0 (by omega), Hw (by rw [LX]; omega)]) n 0 (by omega)
   have he : (AQc f).Slots = f.Slots := (Bb9 f).2 hb'
   unfold Bfy
   rw [Hw (by simp [hs]), Hw (by simp [he])]
   rcases hl1 with ⟨r, ⟨j, hj1, hj2, hj3⟩, hl⟩ | ⟨ha, hl⟩
   ·have hj24 : j < 24 := by omega
    rw [dif_pos hj24] at hj3
    have h0 : tv l f.Slots[j] ≠ true := by intro h; rw [Mo h] at hj3; cases hj3
    rw [Hw h0] at hj3
    cases hj3
    rw [show ((0 : Nat) : Int) = 0 from rfl] at hl
    rw [hl, B3c, Hw]
    intro h
    exact h0 ((Bbn l _).1 h j hj24)
   ·rw [show ((0 : Nat) : Int) = 0 from rfl] at hl
    rw [hl, B3c, Mo]
    rw [Bbn]
    intro j hj
    by_cases hjn : j < n
    ·have := ha j (by omega) hjn
     rw [dif_pos hj] at this
     by_cases h0 : tv l f.Slots[j] = true
     ·exact h0
     ·rw [Hw h0] at this; cases this
    ·rw [hb' j hj (by rw [hn, B35]; omega)]
     exact Bai l
 ·rw [Mo (by simp [hs])]
  unfold Bfy
  rw [Mo hs]
theorem Bfn {l : List Abi} {f : Aas} (h : Fok l f) : APr l f = some 0 := by
 rw [Btt, (Boj l f).2 h]
end Go.Proofs.YtfcpkcehecmcpaaGreat
namespace Go.Proofs.YtfcpkcehecmcpaaGreat
open Go Go.RowKit Go.Pv Go.Proofs.Tryz
abbrev zf : Aas := ⟨0, 0, Vector.replicate 24 (0 : UInt8)⟩
structure Fb (f : Aas) : Prop where
 shp : Shp f
 bare : ∀ j (h : j < 24), (f.Locals + f.Height).toNat ≤ j → f.Slots[j] = 0
theorem Fok.fb {l : List Abi} {f : Aas} (h : Fok l f) : Fb f := ⟨h.shp, h.bare⟩
theorem Fb.num {f : Aas} (h : Fb f) : 0 ≤ f.Locals ∧ f.Locals ≤ 16 ∧ 0 ≤ f.Height ∧ f.Locals + f.Height ≤ 24 := h.shp
theorem Bbm (v : Vector UInt8 24) (i : Nat) (x : UInt8) (j : Nat) (hj : j < 24) : (AT6 v (i : Int) x)[j] = if i = j then x else v[j] := by
 unfold AT6
 rw [Vector.getElem_setIfInBounds, B35]
theorem AWs (v : Vector UInt8 24) (i : Nat) (h : i < 24) : idx v.toList (i : Int) = some v[i] := by
 rw [Ayt (by simpa using h), Vector.getElem_toList]
theorem Bfm {f : Aas} (h : Fb f) : AQc f = f := by
 have := (Bb9 f).2 h.bare
 obtain ⟨L, H, S⟩ := f
 unfold AQc at *
 dsimp only at *
 rw [this]
noncomputable def APq (f : Aas) (n : Nat) : Aas := AQc ⟨f.Locals, f.Height - n, f.Slots⟩
theorem Buy {f : Aas} (h : Fb f) : APq f 0 = f := by
 unfold APq
 rw [show f.Height - ((0 : Nat) : Int) = f.Height by omega]
 exact Bfm h
theorem Bi7 {f : Aas} (h : Fb f) (n : Nat) (hn : n ≤ f.Height) : Fb (APq f n) := by
 have hh := h.num
 refine ⟨?_, fun j hj hle => ?_⟩
 ·unfold Shp APq AQc
  dsimp only
  omega
 ·unfold APq AQc at *
  dsimp only at *
  rw [AUk _ _ _ hj, Hw (by omega)]
theorem Bw7 {l : List Abi} {f : Aas} (h : Bdq l f.Slots) (n : Nat) : Bdq l (APq f n).Slots := by
 intro j hj
 unfold APq AQc
 dsimp only
 rw [AUk _ _ _ hj]
 split
 ·exact h j hj
 ·exact Bai l
theorem Buk {f : Aas} (n : Nat) (hn : 0 ≤ f.Locals + f.Height - (n + 1)) : AQc ⟨(APq f n).Locals, (APq f n).Height - 1, (APq f n).Slots⟩ = APq f (n + 1) := by
 unfold APq AQc
 dsimp only
 congr 1
 ·omega
 ·apply Vector.ext
  intro j hj
  rw [AUk _ _ _ hj, AUk _ _ _ hj, AUk _ _ _ hj]
  by_cases h1 : j < (f.Locals + (f.Height - ((n + 1 : Nat) : Int))).toNat
  ·rw [Mo (by omega), Mo h1, Mo (by omega)]
  ·rw [Hw (by omega), Hw h1]
def AXu (f : Aas) (t : UInt8) : Aas := ⟨f.Locals, f.Height + 1, AT6 f.Slots (f.Locals + f.Height) t⟩
def Bge (f : Aas) (i : Int) (t : UInt8) : Aas := ⟨f.Locals, f.Height, AT6 f.Slots i t⟩
theorem Bqn {f : Aas} (h : Fb f) (t : UInt8) (hn : f.Locals + f.Height ≠ 24) : Fb (AXu f t) := by
 have hh := h.num
 obtain ⟨n, hn'⟩ := B36 (show 0 ≤ f.Locals + f.Height by omega)
 refine ⟨?_, fun j hj hle => ?_⟩
 ·unfold Shp AXu
  dsimp only
  omega
 ·unfold AXu at *
  dsimp only at *
  rw [hn', Bbm _ _ _ _ hj, Hw (by omega)]
  exact h.bare j hj (by omega)
theorem Bug {l : List Abi} {f : Aas} (hb : Fb f) (h : Bdq l f.Slots) {t : UInt8} (ht : tv l t = true) : Bdq l (AXu f t).Slots := by
 have hh := hb.num
 obtain ⟨n, hn'⟩ := B36 (show 0 ≤ f.Locals + f.Height by omega)
 intro j hj
 unfold AXu
 dsimp only
 rw [hn', Bbm _ _ _ _ hj]
 split
 ·exact ht
 ·exact h j hj
theorem Bm8 {f : Aas} (h : Fb f) (t : UInt8) {i : Int} (h0 : 0 ≤ i) (hi : i < f.Locals) : Fb (Bge f i t) := by
 have hh := h.num
 obtain ⟨n, rfl⟩ := B36 h0
 refine ⟨?_, fun j hj hle => ?_⟩
 ·unfold Shp Bge
  dsimp only
  omega
 ·unfold Bge at *
  dsimp only at *
  rw [Bbm _ _ _ _ hj, Hw (by omega)]
  exact h.bare j hj hle
theorem Byf {l : List Abi} {f : Aas} (h : Bdq l f.Slots) {t : UInt8} (ht : tv l t = true) {i : Int} (h0 : 0 ≤ i) : Bdq l (Bge f i t).Slots := by
 obtain ⟨n, rfl⟩ := B36 h0
 intro j hj
 unfold Bge
 dsimp only
 rw [Bbm _ _ _ _ hj]
 split
 ·exact ht
 ·exact h j hj
theorem Fb.h {f : Aas} (h : Fb f) : -9223372036854775808 ≤ f.Height ∧ f.Height ≤ 9223372036854775807 := by have := h.num; omega
theorem Bsa {f : Aas} (h : Fb f) (n : Nat) (hn : n < f.Height) : ∃ x, AY1 f (n : Int) = some (x, 0) ∧ f.Slots.toList[(f.Locals + f.Height).toNat - 1 - n]? = some x := by
 have hh := h.num
 obtain ⟨k, hk⟩ := B36 (show 0 ≤ f.Locals + f.Height - 1 - n by omega)
 have hk24 : k < 24 := by omega
 refine ⟨f.Slots[k], ?_, ?_⟩
 ·unfold AY1
  rw [show (⟨f.Locals, f.Height, f.Slots⟩ : Aas) = f from rfl, Bcs f h.h, B3c, Hw (by simp [h.shp]), Hw (by rw [LX]; omega), Hw (by rw [LX]; omega)]
  rw [ANa (n := f.Locals + f.Height) (by omega) (by omega), ANa (n := f.Locals + f.Height - 1) (by omega) (by omega), ANa (by omega) (by omega), hk, AWs _ _ hk24, B3c]
 ·rw [show (f.Locals + f.Height).toNat - 1 - n = k by omega, B3e (by simpa using hk24), Vector.getElem_toList]
theorem B0a {f : Aas} (h : Fb f) (hn : 0 < f.Height) : ∃ x, Bav f = some (APq f 1, x, 0) := by
 have hh := h.num
 obtain ⟨x, hx, _⟩ := Bsa h 0 (by omega)
 refine ⟨x, ?_⟩
 unfold Bav
 rw [show (⟨f.Locals, f.Height, f.Slots⟩ : Aas) = f from rfl, show (0 : Int) = ((0 : Nat) : Int) from rfl, hx, B3c]
 dsimp only
 rw [Hw (by simp), ANa (by omega) (by omega), Bfx _ (by dsimp only; omega) (by dsimp only; omega), B3c]
 rfl
theorem By4 {f : Aas} (h : Fb f) (hn : 0 < f.Height) : ∃ x, AUy f = some (APq f 1, x, 0) := by
 have hh := h.num
 obtain ⟨k, hk⟩ := B36 (show 0 ≤ f.Locals + f.Height - 1 by omega)
 have hk24 : k < 24 := by omega
 refine ⟨f.Slots[k], ?_⟩
 unfold AUy
 rw [show (⟨f.Locals, f.Height, f.Slots⟩ : Aas) = f from rfl, Bio f, B3c, Hw (by simp [h.shp]), Hw (by rw [Agq]; omega)]
 rw [ANa (n := f.Locals + f.Height) (by omega) (by omega), ANa (n := f.Locals + f.Height - 1) (by omega) (by omega), hk, AWs _ _ hk24, B3c, ANa (by omega) (by omega), Bp6 _ (by dsimp only; omega) (by dsimp only; omega), B3c]
 rfl
theorem Bxl {f : Aas} (h : Fb f) (t : UInt8) : AZn f t = some (if f.Locals + f.Height = 24 then (zf, 31) else (AXu f t, 0)) := by
 have hh := h.num
 unfold AZn
 rw [show (⟨f.Locals, f.Height, f.Slots⟩ : Aas) = f from rfl, Bcs f h.h, B3c, Hw (by simp [h.shp]), ANa (by omega) (by omega)]
 by_cases h24 : f.Locals + f.Height = 24
 ·rw [Mo (by rw [Agq]; omega), Mo h24]
 ·rw [Hw (by rw [Agq]; omega), Hw h24, Bfx f (by omega) (by omega), B3c, Bfm h, ANa (n := f.Locals + f.Height) (by omega) (by omega)]
  obtain ⟨k, hk⟩ := B36 (show 0 ≤ f.Locals + f.Height by omega)
  rw [hk, AWs _ _ (by omega), B3c, ANa (by omega) (by omega)]
  unfold AXu
  rw [hk]
theorem Bxv {f : Aas} (h : Fb f) (t : UInt8) : AUd f t = some (if f.Locals + f.Height = 24 then (zf, 31) else (AXu f t, 0)) := by
 have hh := h.num
 unfold AUd
 rw [show (⟨f.Locals, f.Height, f.Slots⟩ : Aas) = f from rfl, Bio f, B3c, Hw (by simp [h.shp]), ANa (by omega) (by omega)]
 by_cases h24 : f.Locals + f.Height = 24
 ·rw [Mo (by rw [Agq]; omega), Mo h24]
 ·rw [Hw (by rw [Agq]; omega), Hw h24, Bp6 f (by omega) (by omega), B3c, Bfm h]
  obtain ⟨k, hk⟩ := B36 (show 0 ≤ f.Locals + f.Height by omega)
  rw [hk, AWs _ _ (by omega), B3c, ANa (by omega) (by omega)]
  unfold AXu
  rw [hk]
theorem Bpe {f : Aas} (h : Fb f) {i : Int} (h0 : 0 ≤ i) (hi : i < f.Locals) : ∃ x, AV3 f i = some (x, 0) ∧ idx f.Slots.toList i = some x ∧ f.Slots.toList[i.toNat]? = some x := by
 have hh := h.num
 obtain ⟨k, rfl⟩ := B36 h0
 have hk24 : k < 24 := by omega
 refine ⟨f.Slots[k], ?_, AWs _ _ hk24, ?_⟩
 ·unfold AV3
  rw [show (⟨f.Locals, f.Height, f.Slots⟩ : Aas) = f from rfl, Bcs f h.h, B3c, Hw (by simp [h.shp]), Hw (by rw [LX]; omega), Hw (by rw [LX]; omega), AWs _ _ hk24, B3c]
 ·rw [B35, B3e (by simpa using hk24), Vector.getElem_toList]
theorem Bu7 {f : Aas} (h : Fb f) {i : Int} (h0 : 0 ≤ i) (hi : i < f.Locals) (t : UInt8) : AX4 f i t = some (Bge f i t, 0) := by
 have hh := h.num
 obtain ⟨x, hx, hx2, _⟩ := Bpe h h0 hi
 unfold AX4
 rw [show (⟨f.Locals, f.Height, f.Slots⟩ : Aas) = f from rfl, hx, B3c]
 dsimp only
 rw [Hw (by simp), Bfx f (by omega) (by omega), B3c, Bfm h, hx2, B3c]
 rfl
def AXd : Aas → List UInt8 → Aas × Int
 | f, [] => (f, 0)
 | f, t :: g => if f.Locals + f.Height = 24 then (zf, 31) else AXd (AXu f t) g
theorem Bkc {l : List Abi} : ∀ (g : List UInt8) (f : Aas), Fb f → Bdq l f.Slots → (∀ t ∈ g, tv l t = true) → (AXd f g).2 = 0 → Fok l (AXd f g).1
 | [], f, h, ha, _, _ => ⟨h.shp, h.bare, ha⟩
 | t :: g, f, h, ha, hg, h0 => by
  unfold AXd at *
  by_cases h24 : f.Locals + f.Height = 24
  ·rw [Mo h24] at h0; cases h0
  ·rw [Hw h24] at h0 ⊢
   exact Bkc g _ (Bqn h t h24) (Bug h ha (hg t (by simp))) (fun x hx => hg x (by simp [hx])) h0
theorem Boo {body : Int × Int × Vector UInt8 24 × Int → Option ((Int × Int × Vector UInt8 24 × Int) ⊕ (Int × Int × Vector UInt8 24))} (n : Nat) {f : Aas} (h : Fb f) (hn : n ≤ f.Height)
  (hs : ∀ (g : Aas) (i : Nat), i < n → Fb g → 0 < g.Height → body (g.Locals, g.Height, g.Slots, (i : Int)) = some (.inl ((APq g 1).Locals, (APq g 1).Height, (APq g 1).Slots, ((i + 1 : Nat) : Int))))
  (he : ∀ g : Aas, body (g.Locals, g.Height, g.Slots, (n : Int)) = some (.inr (g.Locals, g.Height, g.Slots))) :
  Aot body (f.Locals, f.Height, f.Slots, 0) = some ((APq f n).Locals, (APq f n).Height, (APq f n).Slots) := by
 have hh := h.num
 refine ATa n (fun i => ((APq f i).Locals, (APq f i).Height, (APq f i).Slots, (i : Int))) (fun i hi => ?_) (he _) ?_
 ·have hp : (APq f i).Height = f.Height - i := rfl
  rw [hs (APq f i) i hi (Bi7 h i (by omega)) (by omega)]
  have e : APq (APq f i) 1 = APq f (i + 1) := Buk i (by omega)
  rw [e]
 ·rw [Buy h]; rfl
theorem Bji {body : Int × Int × Vector UInt8 24 × Int → Option ((Int × Int × Vector UInt8 24 × Int) ⊕ ((Aas × Int) ⊕ (Int × Int × Vector UInt8 24)))} (g : List UInt8) (hg : g.length ≤ 1048576)
  (hs : ∀ (f : Aas) (i : Nat) (hi : i < g.length), Fb f → body (f.Locals, f.Height, f.Slots, (i : Int)) = some (if f.Locals + f.Height = 24 then .inr (.inl (zf, 31)) else .inl ((AXu f g[i]).Locals, (AXu f g[i]).Height, (AXu f g[i]).Slots, ((i + 1 : Nat) : Int))))
  (he : ∀ f : Aas, body (f.Locals, f.Height, f.Slots, (g.length : Int)) = some (.inr (.inr (f.Locals, f.Height, f.Slots)))) :
  ∀ (k i : Nat) (f : Aas), i + k = g.length → Fb f → Aot body (f.Locals, f.Height, f.Slots, (i : Int)) = some (if (AXd f (g.drop i)).2 = 0 then .inr ((AXd f (g.drop i)).1.Locals, (AXd f (g.drop i)).1.Height, (AXd f (g.drop i)).1.Slots) else .inl (AXd f (g.drop i))) := by
 intro k
 induction k with
 | zero =>
  intro i f hi h
  have : i = g.length := by omega
  subst this
  rw [List.drop_length, Awv (he f)]
  rfl
 | succ k ih =>
  intro i f hi h
  have hi' : i < g.length := by omega
  have hb := hs f i hi' h
  rw [List.drop_eq_getElem_cons hi']
  unfold AXd
  by_cases h24 : f.Locals + f.Height = 24
  ·rw [Mo h24] at hb
   rw [Mo h24, Awv hb]
   rfl
  ·rw [Hw h24] at hb
   rw [Hw h24, AGm hb]
   exact ih (i + 1) (AXu f g[i]) (by omega) (Bqn h _ h24)
end Go.Proofs.YtfcpkcehecmcpaaGreat
namespace Go.Proofs.YtfcpkcehecmcpaaGreat
open Go Go.RowKit Go.Pv Go.Proofs.Tryz
theorem Bnp (l : List Abi) (f g : Aas) (n : Nat) : ∃ w : Vector UInt8 24, ∀ i (h : i < 24), w[i] = if i < n then AZp l f.Slots[i] g.Slots[i] else f.Slots[i] := ⟨Vector.ofFn fun i => if i.val < n then AZp l f.Slots[i] g.Slots[i] else f.Slots[i], fun i h => by simp⟩
noncomputable def Bfb (l : List Abi) (f g : Aas) (n : Nat) : Vector UInt8 24 := Classical.choose (Bnp l f g n)
theorem AY6 (l : List Abi) (f g : Aas) (n i : Nat) (h : i < 24) : (Bfb l f g n)[i] = if i < n then AZp l f.Slots[i] g.Slots[i] else f.Slots[i] := Classical.choose_spec (Bnp l f g n) i h
noncomputable def APw (l : List Abi) (f g : Aas) : Aas × Int := if f.Locals = g.Locals ∧ f.Height = g.Height then (⟨f.Locals, f.Height, Bfb l f g (f.Locals + f.Height).toNat⟩, 0) else (zf, 32)
theorem Blw (l : List Abi) {f g : Aas} {body : Vector UInt8 24 × Int → Option ((Vector UInt8 24 × Int) ⊕ Vector UInt8 24)} (n : Nat) (hn : n ≤ 24)
  (hs : ∀ (v : Vector UInt8 24) (i : Nat) (hi : i < n), body (v, (i : Int)) = some (.inl (AT6 v (i : Int) (AZp l v[i] g.Slots[i]), ((i + 1 : Nat) : Int)))) (he : ∀ v, body (v, (n : Int)) = some (.inr v)) : Aot body (f.Slots, 0) = some (Bfb l f g n) := by
 refine ATa n (fun i => (Bfb l f g i, (i : Int))) (fun i hi => ?_) (he _) ?_
 ·rw [hs _ i hi]
  congr 2
  refine Prod.ext ?_ rfl
  apply Vector.ext
  intro j hj
  dsimp only
  rw [Bbm _ _ _ _ hj, AY6 _ _ _ _ _ (show i < 24 by omega), AY6 _ _ _ _ _ hj, AY6 _ _ _ _ _ hj, Hw (show ¬ i < i by omega)]
  by_cases h : i = j
  ·subst h
   rw [Mo rfl, Mo (by omega)]
  ·rw [Hw h]
   by_cases h2 : j < i
   ·rw [Mo h2, Mo (by omega)]
   ·rw [Hw h2, Hw (by omega)]
 ·refine Prod.ext ?_ rfl
  apply Vector.ext
  intro j hj
  dsimp only
  rw [AY6 _ _ _ _ _ hj, Hw (by omega)]
theorem Bts {l : List Abi} (G : Good l) {f g : Aas} (hf : Fok l f) (hg : Fok l g) : AX1 l f g = some (APw l f g) := by
 have hh := hf.fb.num
 unfold AX1 Bao APw
 rw [show (⟨f.Locals, f.Height, f.Slots⟩ : Aas) = f from rfl, show (⟨g.Locals, g.Height, g.Slots⟩ : Aas) = g from rfl, Bhs hf, B3c, Mo (by simp), Bhs hg, B3c, Mo (by simp)]
 by_cases h1 : f.Locals = g.Locals
 ·rw [Hw (by simp [h1])]
  by_cases h2 : f.Height = g.Height
  ·rw [Hw (by simp [h2]), B3c, Hw (by simp), Mo ⟨h1, h2⟩]
   obtain ⟨n, hn⟩ := B36 (show 0 ≤ f.Locals + f.Height by omega)
   rw [Blw l n (by omega) (f := f) (g := g) (fun v i hi => ?_) (fun v => ?_), B3c, hn, B35]
   ·unfold ATw
    dsimp only
    rw [ANa (n := f.Locals + f.Height) (by omega) (by omega), hn, Mo (by rw [LX]; omega), AWs _ _ (by omega), B3c, AWs _ _ (by omega), B3c, Buq l G, B3c, B3c, wr1 (by omega)]
   ·unfold ATw
    dsimp only
    rw [ANa (n := f.Locals + f.Height) (by omega) (by omega), hn, Hw (by rw [LX]; omega)]
  ·rw [Mo (by simp [h2]), B3c, Mo (by simp), Hw (by rintro ⟨_, h⟩; exact h2 h)]
 ·rw [Mo (by simp [h1]), B3c, Mo (by simp), Hw (by rintro ⟨h, _⟩; exact h1 h)]
theorem Bs4 {l : List Abi} (G : Good l) {f g : Aas} (hf : Fok l f) (hg : Fok l g) : ATq l f g = some (APw l f g) := by
 have hh := hf.fb.num
 unfold ATq APw
 rw [show (⟨f.Locals, f.Height, f.Slots⟩ : Aas) = f from rfl, show (⟨g.Locals, g.Height, g.Slots⟩ : Aas) = g from rfl, Bfn hf, B3c, Hw (by simp), Bfn hg, B3c, Hw (by simp)]
 by_cases h1 : f.Locals = g.Locals
 ·rw [Hw (by simp [h1])]
  by_cases h2 : f.Height = g.Height
  ·rw [Hw (by simp [h2]), Mo ⟨h1, h2⟩]
   obtain ⟨n, hn⟩ := B36 (show 0 ≤ f.Locals + f.Height by omega)
   rw [Blw l n (by omega) (f := f) (g := g) (fun v i hi => ?_) (fun v => ?_), B3c, hn, B35]
   ·unfold AQv
    dsimp only
    rw [ANa (n := f.Locals + f.Height) (by omega) (by omega), hn, Mo (by rw [LX]; omega), AWs _ _ (by omega), B3c, AWs _ _ (by omega), B3c, Bua l G, B3c, B3c, wr1 (by omega)]
   ·unfold AQv
    dsimp only
    rw [ANa (n := f.Locals + f.Height) (by omega) (by omega), hn, Hw (by rw [LX]; omega)]
  ·rw [Mo (by simp [h2]), Hw (by rintro ⟨_, h⟩; exact h2 h)]
 ·rw [Mo (by simp [h1]), Hw (by rintro ⟨h, _⟩; exact h1 h)]
end Go.Proofs.YtfcpkcehecmcpaaGreat
namespace Go.Proofs.YtfcpkcehecmcpaaGreat
open Go Go.RowKit Go.Pv Go.Proofs.Tryz
theorem Bwx {n : Nat} (h : n < 34) : n = 0 ∨ n = 1 ∨ n = 2 ∨ n = 3 ∨ n = 4 ∨ n = 5 ∨ n = 6 ∨ n = 7 ∨ n = 8 ∨ n = 9 ∨ n = 10 ∨ n = 11 ∨ n = 12 ∨ n = 13 ∨ n = 14 ∨ n = 15 ∨ n = 16 ∨ n = 17 ∨ n = 18 ∨ n = 19 ∨ n = 20 ∨ n = 21 ∨ n = 22 ∨ n = 23 ∨ n = 24 ∨ n = 25 ∨ n = 26 ∨ n = 27 ∨ n = 28 ∨ n = 29 ∨ n = 30 ∨ n = 31 ∨ n = 32 ∨ n = 33 := by omega
def Bid (e : Adb) (i : Ads) : Am7 := (e.Akq[i.A.toNat]?).getD ⟨[], 0⟩
def Bc1 (e : Adb) : Am7 := (e.Akq[e.Fn.toNat]?).getD ⟨[], 0⟩
def Bmw (e : Adb) (i : Ads) : UInt8 := match (AJq e.Classes i.A)[i.B.toNat]? with
 | some f => f.ASg
 | none => 0
def AWo (t : UInt8) : List UInt8 := if t.toNat = 0 then [] else [t]
def AYt (a : Int) : UInt8 := AQt (16 + ((AQt a).toNat : Int))
def AOg (e : Adb) (i : Ads) : Int :=
 if i.Op.toNat = 21 then (if 0 ≤ i.A ∧ i.A < e.Akq.length then 0 else 71)
 else if i.Op.toNat = 23 ∨ i.Op.toNat = 30 ∨ i.Op.toNat = 31 then (if 0 ≤ i.A ∧ i.A < e.Classes.length then 0 else 72)
 else if i.Op.toNat = 24 ∨ i.Op.toNat = 25 then (if 0 ≤ i.A ∧ i.A < e.Classes.length ∧ 0 ≤ i.B ∧ i.B < (AJq e.Classes i.A).length then 0 else 72)
 else 0
def Ase (e : Adb) (i : Ads) : List UInt8 := match i.Op.toNat with
 | 5 => [254] | 6 => [255] | 7 => [255] | 8 => [255, 255]
 | 9 => [1, 1] | 10 => [1, 1] | 11 => [1, 1] | 12 => [1, 1] | 13 => [1, 1] | 15 => [1, 1]
 | 14 => [1] | 26 => [1] | 33 => [1] | 16 => [255, 255] | 17 => [2] | 20 => [2] | 18 => [253, 253]
 | 21 => (Bid e i).Ars | 22 => AWo (Bc1 e).Result
 | 24 => [AYt i.A] | 25 => [AYt i.A, Bmw e i]
 | 27 => [4] | 28 => [4, 1] | 29 => [4, 1, 1] | 30 => [253] | 31 => [253] | _ => []
def AU5 (e : Adb) (i : Ads) : List UInt8 := match i.Op.toNat with
 | 1 => [1] | 9 => [1] | 10 => [1] | 11 => [1] | 12 => [1] | 13 => [1] | 14 => [1] | 27 => [1] | 28 => [1]
 | 2 => [2] | 15 => [2] | 16 => [2] | 17 => [2] | 18 => [2] | 31 => [2]
 | 3 => [3] | 4 => [255] | 7 => [255, 255] | 8 => [255, 255]
 | 21 => AWo (Bid e i).Result | 23 => [AYt i.A] | 30 => [AYt i.A] | 24 => AWo (Bmw e i) | 26 => [4] | _ => []
theorem AR4 {α : Type} {l : List α} {i : Int} (h0 : 0 ≤ i) (h : i < l.length) (d : α) : idx l i = some ((l[i.toNat]?).getD d) := by
 obtain ⟨x, hx, hx2⟩ := Bsi h0 h
 rw [hx, hx2]; rfl
theorem Bht (t : UInt8) : ARl t = some (AWo t) := by
 unfold ARl AWo
 by_cases h : t.toNat = 0
 ·rw [Mo (by rw [h]; rfl), Mo h]
 ·rw [Hw (by rw [Agq]; omega), Hw h]
theorem Bed {e : Adb} (h : AOl e) {i : Ads} (h0 : 0 ≤ i.A) (h1 : i.A < e.Classes.length) : AN5 e.Classes i.A = some (AJq e.Classes i.A) ∧ ATn e.Classes i.A = some (AJq e.Classes i.A) :=
 ⟨Bl0 _ h.good.tab h.good.right (by have := h.good.few; omega) _ h1 h1, Bs5 _ h.good.tab h.good.right (by have := h.good.few; omega) _ h1 h1⟩
theorem Bso {e : Adb} (h : AOl e) (i : Ads) : AQw e i = some (AOg e i) := by
 unfold AQw AOg
 have b (k : Nat) : ((i.Op.toNat : Int) == (k : Int)) = decide (i.Op.toNat = k) := ABn _ k
 have b21 : ((i.Op.toNat : Int) == 21) = decide (i.Op.toNat = 21) := b 21
 have b23 : ((i.Op.toNat : Int) == 23) = decide (i.Op.toNat = 23) := b 23
 have b30 : ((i.Op.toNat : Int) == 30) = decide (i.Op.toNat = 30) := b 30
 have b31 : ((i.Op.toNat : Int) == 31) = decide (i.Op.toNat = 31) := b 31
 have b24 : ((i.Op.toNat : Int) == 24) = decide (i.Op.toNat = 24) := b 24
 have b25 : ((i.Op.toNat : Int) == 25) = decide (i.Op.toNat = 25) := b 25
 simp only [b21, b23, b30, b31, b24, b25, LX]
 by_cases h21 : i.Op.toNat = 21
 ·simp only [h21]
  by_cases h0 : i.A < 0
  ·simp [h0]; omega
  ·by_cases h1 : i.A ≥ (e.Akq.length : Int)
   ·simp [h1]
   ·have : 0 ≤ i.A ∧ i.A < e.Akq.length := by omega
    simp [h0, h1, this]
 ·by_cases hc : i.Op.toNat = 23 ∨ i.Op.toNat = 30 ∨ i.Op.toNat = 31
  ·have h24 : i.Op.toNat ≠ 24 := by omega
   have h25 : i.Op.toNat ≠ 25 := by omega
   have ho : (if i.Op.toNat = 23 then some true else if i.Op.toNat = 30 then some true else if i.Op.toNat = 31 then some true else if i.Op.toNat = 24 then some true else some (decide (i.Op.toNat = 25))) = some true := by
    rcases hc with q | q | q <;> simp [q]
   rw [Hw h21, ho, B3c, Hw h21, Mo hc, Mo rfl, Hw h24, Hw h25]
   by_cases h0 : i.A < 0
   ·rw [Mo h0, Hw (by omega)]; rfl
   ·by_cases h1 : i.A ≥ (e.Classes.length : Int)
    ·rw [Hw h0, Mo h1, Hw (by omega)]; rfl
    ·rw [Hw h0, Hw h1, Mo (by omega)]; rfl
  ·by_cases hf : i.Op.toNat = 24 ∨ i.Op.toNat = 25
   ·have ho : (if i.Op.toNat = 23 then some true else if i.Op.toNat = 30 then some true else if i.Op.toNat = 31 then some true else if i.Op.toNat = 24 then some true else some (decide (i.Op.toNat = 25))) = some true := by
     rcases hf with q | q <;> simp [q]
    rw [Hw h21, ho, B3c, Hw h21, Hw hc, Mo hf, Mo rfl]
    by_cases h0 : i.A < 0
    ·rw [Mo h0, Hw (show ¬ (0 ≤ i.A ∧ i.A < (e.Classes.length : Int) ∧ 0 ≤ i.B ∧ i.B < ((AJq e.Classes i.A).length : Int)) by omega)]; rfl
    ·by_cases h1 : i.A ≥ (e.Classes.length : Int)
     ·rw [Hw h0, Mo h1, Hw (show ¬ (0 ≤ i.A ∧ i.A < (e.Classes.length : Int) ∧ 0 ≤ i.B ∧ i.B < ((AJq e.Classes i.A).length : Int)) by omega)]; rfl
     ·rw [Hw h0, Hw h1, B3c]
      dsimp only
      rw [(Bed h (i := i) (by omega) (by omega)).1]
      by_cases h24 : i.Op.toNat = 24
      ·rw [Mo h24]
       by_cases hb : i.B < 0
       ·rw [Mo hb, Hw (show ¬ (0 ≤ i.A ∧ i.A < (e.Classes.length : Int) ∧ 0 ≤ i.B ∧ i.B < ((AJq e.Classes i.A).length : Int)) by omega)]
       ·rw [Hw hb, B3c]
        by_cases hb2 : i.B ≥ ((AJq e.Classes i.A).length : Int)
        ·rw [Mo hb2, Hw (by omega)]
        ·rw [Hw hb2, Mo (by omega)]
      ·have h25 : i.Op.toNat = 25 := by omega
       rw [Hw h24, Mo h25]
       by_cases hb : i.B < 0
       ·rw [Mo hb, Hw (show ¬ (0 ≤ i.A ∧ i.A < (e.Classes.length : Int) ∧ 0 ≤ i.B ∧ i.B < ((AJq e.Classes i.A).length : Int)) by omega)]
       ·rw [Hw hb, B3c]
        by_cases hb2 : i.B ≥ ((AJq e.Classes i.A).length : Int)
        ·rw [Mo hb2, Hw (by omega)]
        ·rw [Hw hb2, Mo (by omega)]
   ·have h24 : i.Op.toNat ≠ 24 := by omega
    have h25 : i.Op.toNat ≠ 25 := by omega
    have ho : (if i.Op.toNat = 23 then some true else if i.Op.toNat = 30 then some true else if i.Op.toNat = 31 then some true else if i.Op.toNat = 24 then some true else some (decide (i.Op.toNat = 25))) = some false := by
     rw [Hw (by omega), Hw (by omega), Hw (by omega), Hw (by omega), decide_eq_false h25]
    rw [Hw h21, ho, B3c, Hw h21, Hw hc, Hw hf, Hw (by simp), B3c]
    dsimp only
    rw [Hw h24, Hw h25]
theorem Blh {e : Adb} {i : Ads} (h0 : 0 ≤ i.B) (h1 : i.B < (AJq e.Classes i.A).length) : ∃ f, idx (AJq e.Classes i.A) i.B = some f ∧ Bmw e i = f.ASg ∧ f ∈ AJq e.Classes i.A := by
 obtain ⟨x, hx, hx2⟩ := Bsi h0 h1
 refine ⟨x, hx, ?_, B30 hx2⟩
 unfold Bmw
 rw [hx2]
theorem Bux {e : Adb} (h : AOl e) (i : Ads) (ho : i.Op.toNat < 34) (h0 : AOg e i = 0) : ATi e i = some (Ase e i) := by
 unfold ATi Ase
 unfold AOg at h0
 rcases Bwx ho with h | h | h | h | h | h | h | h | h | h | h | h | h | h | h | h | h | h | h | h | h | h | h | h | h | h | h | h | h | h | h | h | h | h
 all_goals first
  | (simp [h]; done)
  | (simp only [h]; rw [h] at h0; skip)
 ·simp at h0
  simp [AR4 h0.1 h0.2 ⟨[], 0⟩, Bid]
 ·have hf := ‹AOl e›.fn
  simp [AR4 hf.1 hf.2 ⟨[], 0⟩, Bc1, Bht]
 ·simp at h0
  simp [AO3, AYt]
 ·simp at h0
  obtain ⟨f, hx, hx2, _⟩ := Blh (e := e) h0.2.2.1 h0.2.2.2
  simp [AO3, AYt, (Bed ‹AOl e› h0.1 h0.2.1).1, hx, hx2]
theorem Bup {e : Adb} (h : AOl e) (i : Ads) (ho : i.Op.toNat < 34) (h0 : AOg e i = 0) : ATr e i = some (AU5 e i) := by
 unfold ATr AU5
 unfold AOg at h0
 rcases Bwx ho with h | h | h | h | h | h | h | h | h | h | h | h | h | h | h | h | h | h | h | h | h | h | h | h | h | h | h | h | h | h | h | h | h | h
 all_goals first
  | (simp [h]; done)
  | (simp only [h]; rw [h] at h0; skip)
 ·simp at h0
  simp [AR4 h0.1 h0.2 ⟨[], 0⟩, Bid, Bht]
 ·simp [AO3, AYt]
 ·simp at h0
  obtain ⟨f, hx, hx2, _⟩ := Blh (e := e) h0.2.2.1 h0.2.2.2
  simp [(Bed ‹AOl e› h0.1 h0.2.1).1, hx, hx2, Bht]
 ·simp [AO3, AYt]
end Go.Proofs.YtfcpkcehecmcpaaGreat
namespace Go.Proofs.YtfcpkcehecmcpaaGreat
open Go Go.RowKit Go.Pv Go.Proofs.Tryz
theorem Blj {l : List Abi} (h : l.length ≤ 32) {t : UInt8} (hs : st l t = true) : t.toNat < 48 ∧ t.toNat ≠ 0 ∧ t.toNat ≠ 3 ∧ tv l t = true := by
 unfold st at hs
 rw [B37, B37, Ale, Ale] at hs
 obtain ⟨h1, h2, h3⟩ := hs
 have h1' := h1
 unfold tv at h1'
 rw [Bool.or_eq_true, B37, LX, LX, LX] at h1'
 exact ⟨by omega, h2, h3, h1⟩
theorem Bmg {l : List Abi} (G : Good l) {c : Int} (hc : c < l.length) {f : Ar2} (hf : f ∈ AJq l c) : st l f.ASg = true := by
 unfold AJq at hf
 obtain ⟨k, hk, hk2⟩ := List.mem_flatMap.1 hf
 have hk' := List.mem_reverse.1 hk
 have hlt := (Bak G.right (c.toNat + 1) c (by omega) hc hc k hk').2
 rw [Bfc hlt] at hk2
 exact G.stored k hlt f hk2
theorem Bky {l : List Abi} (h : l.length ≤ 32) {a : Int} (h0 : 0 ≤ a) (h1 : a < l.length) : (AYt a).toNat = 16 + a.toNat ∧ AYt a = cty a.toNat ∧ tv l (AYt a) = true := by
 obtain ⟨k, rfl⟩ := B36 h0
 have hk : k < l.length := by omega
 have e : AYt (k : Int) = cty k := by
  unfold AYt cty
  rw [Bi3 (by omega)]
 rw [e, B35]
 exact ⟨Bg0 (by omega), rfl, Bv0 hk (by omega)⟩
def AXv (t : UInt8) : Aaz := if t = 255 then ⟨0, 0⟩ else if t = 254 then ⟨1, 0⟩ else if t = 253 then ⟨2, 0⟩ else ⟨4, t⟩
theorem Bby {t : UInt8} (h : t.toNat < 48) : AXv t = ⟨4, t⟩ := by
 unfold AXv
 rw [Hw (by rintro rfl; simp at h), Hw (by rintro rfl; simp at h), Hw (by rintro rfl; simp at h)]
def AQs (e : Adb) (i : Ads) : List Aaz := if i.Op.toNat = 16 then [⟨3, 0⟩, ⟨3, 0⟩] else (Ase e i).map AXv
def gvV (e : Adb) (i : Ads) : Gv := if i.Op.toNat = 7 then .dup else if i.Op.toNat = 8 then .swap else if i.Op.toNat = 4 then .const [0] else .const (AU5 e i)
theorem Brj (l : List Abi) {c : Int} (h : ¬ (0 ≤ c ∧ c < l.length)) : ATn l c = some [] := by
 unfold ATn APu
 have h1 : Aot (AJy l) (([] : List Int), c) = some (.inr []) := by
  apply Awv
  unfold AJy
  dsimp only
  by_cases h0 : c ≥ 0
  ·rw [Mo (by rw [LX]; exact h0), Hw (by rw [LX]; omega)]
  ·rw [Hw (by rw [LX]; exact h0)]
 rw [h1, B3c]
 dsimp only
 rw [B3c]
 have h2 : Aot (APp l []) (([] : List Ar2), wr ((([] : List Int).length : Int) - 1)) = some [] := by
  apply Awv
  unfold APp
  rw [show wr ((([] : List Int).length : Int) - 1) = -1 from by rw [ANa] <;> simp]
  dsimp only
  rw [Hw (by simp)]
 rw [h2, B3c]
theorem Bfl {α : Type} {l : List α} {i : Nat} {d x : α} (h : i < l.length) (hx : (l[i]?).getD d = x) : x ∈ l := by
 rw [B3e h] at hx
 rw [← hx]
 exact B3q h
theorem Bj8 {e : Adb} {i : Ads} (h0 : 0 ≤ i.A) (h1 : i.A < e.Akq.length) : Bid e i ∈ e.Akq := Bfl (by omega) rfl
theorem Bvc {e : Adb} (h : AOl e) : Bc1 e ∈ e.Akq := by
 have := h.fn
 exact Bfl (by omega) rfl
theorem Biy {e : Adb} (h : AOl e) {s : Am7} (hs : s ∈ e.Akq) : s.Ars.length ≤ 8 ∧ (∀ t ∈ s.Ars, st e.Classes t = true) ∧ (s.Result.toNat = 0 ∨ st e.Classes s.Result = true) := by
 obtain ⟨h8, h2⟩ := h.sigs s hs
 unfold Bgd at h2
 rw [B37, Bool.or_eq_true, List.all_eq_true, LX] at h2
 exact ⟨h8, h2.1, h2.2⟩
theorem Bvd {s : Am7} (h : s.Ars.length ≤ 8) : Aot (AUu s) (([] : List Aaz), 0) = some (s.Ars.map fun t => ⟨4, t⟩) := by
 refine AW5 s.Ars (fun t => (⟨4, t⟩ : Aaz)) (fun i hi acc ha => ?_) (fun acc => ?_)
 ·unfold AUu
  dsimp only
  rw [Mo (by rw [LX]; omega), Ayt hi, B3c]
  unfold AUq
  rw [B3c, AL0 (by simp; omega), B3c, wr1 (by omega)]
 ·unfold AUu
  dsimp only
  rw [Hw (by rw [LX]; omega)]
theorem Byc {l : List UInt8} (h : ∀ t ∈ l, t.toNat < 48) : l.map (fun t => (⟨4, t⟩ : Aaz)) = l.map AXv := List.map_congr_left fun t ht => (Bby (h t ht)).symm
theorem Bjq {e : Adb} (h : AOl e) (i : Ads) (hc : i.Op.toNat = 23 ∨ i.Op.toNat = 30) {w : List Aaz} (hw : AQs e i = w) (hg : gvV e i = .const [AYt i.A]) : ASz (.classed w true) e i = some (if AOg e i = 0 then (⟨AQs e i, gvV e i⟩, 0) else (⟨[], Gv.nil⟩, AOg e i)) := by
 unfold ASz AU2
 dsimp only
 have ho : AOg e i = if 0 ≤ i.A ∧ i.A < e.Classes.length then 0 else 72 := by unfold AOg; rw [Hw (by omega), Mo (by omega)]
 by_cases ha : 0 ≤ i.A ∧ i.A < e.Classes.length
 ·rw [ho, Mo ha, Mo rfl, Hw (by rw [LX]; omega), Hw (by rw [LX]; omega), Hw (by simp), hw, hg]
  rfl
 ·rw [ho, Hw ha, Hw (show ¬ (72 : Int) = 0 by omega)]
  by_cases h1 : i.A < 0
  ·rw [Mo (by rw [LX]; exact h1)]
  ·rw [Hw (by rw [LX]; exact h1), Mo (by rw [LX]; omega)]
theorem Bw9 {e : Adb} (h : AOl e) (i : Ads) (hc : i.Op.toNat = 31) {w : List Aaz} (hw : AQs e i = w) (hg : gvV e i = .const [2]) : ASz (.classed w false) e i = some (if AOg e i = 0 then (⟨AQs e i, gvV e i⟩, 0) else (⟨[], Gv.nil⟩, AOg e i)) := by
 unfold ASz AU2
 dsimp only
 have ho : AOg e i = if 0 ≤ i.A ∧ i.A < e.Classes.length then 0 else 72 := by unfold AOg; rw [Hw (by omega), Mo (by omega)]
 by_cases ha : 0 ≤ i.A ∧ i.A < e.Classes.length
 ·rw [ho, Mo ha, Mo rfl, Hw (by rw [LX]; omega), Hw (by rw [LX]; omega), Mo (by simp), hw, hg]
 ·rw [ho, Hw ha, Hw (show ¬ (72 : Int) = 0 by omega)]
  by_cases h1 : i.A < 0
  ·rw [Mo (by rw [LX]; exact h1)]
  ·rw [Hw (by rw [LX]; exact h1), Mo (by rw [LX]; omega)]
theorem Bn7 {e : Adb} (h : AOl e) (i : Ads) (hc : i.Op.toNat = 24 ∨ i.Op.toNat = 25) (b : Bool) (hb : b = decide (i.Op.toNat = 25))
  (hw : i.Op.toNat = i.Op.toNat → AQs e i = if b then [AXv (AYt i.A), AXv (Bmw e i)] else [AXv (AYt i.A)]) (hg : i.Op.toNat = i.Op.toNat → gvV e i = .const (if b then [] else AWo (Bmw e i))) : ASz (.field b) e i = some (if AOg e i = 0 then (⟨AQs e i, gvV e i⟩, 0) else (⟨[], Gv.nil⟩, AOg e i)) := by
 have hl32 := h.good.few
 unfold ASz AYz
 dsimp only
 have ho : AOg e i = if 0 ≤ i.A ∧ i.A < e.Classes.length ∧ 0 ≤ i.B ∧ i.B < (AJq e.Classes i.A).length then 0 else 72 := by unfold AOg; rw [Hw (by omega), Hw (by omega), Mo hc]
 by_cases ha : 0 ≤ i.A ∧ i.A < e.Classes.length
 ·rw [(Bed h ha.1 ha.2).2, B3c, Hw (by rw [LX]; omega), Hw (by rw [LX]; omega)]
  by_cases hB : 0 ≤ i.B ∧ i.B < (AJq e.Classes i.A).length
  ·obtain ⟨f, hf1, hf2, hf3⟩ := Blh (e := e) hB.1 hB.2
   have hft := Blj hl32 (Bmg h.good ha.2 hf3)
   have hct := Bky hl32 ha.1 ha.2
   rw [Hw (by rw [LX]; omega), Hw (by rw [LX]; omega), hf1, B3c, ho, Mo (show (0 ≤ i.A ∧ i.A < (e.Classes.length : Int) ∧ 0 ≤ i.B ∧ i.B < ((AJq e.Classes i.A).length : Int)) from ⟨ha.1, ha.2, hB.1, hB.2⟩), Mo (show (0 : Int) = 0 from rfl), hw rfl, hg rfl, hf2, Bby (t := f.ASg) hft.1, Bby (t := AYt i.A) (by omega)]
   rcases b with _ | _
   ·rw [Hw (by simp), Hw (by simp), Hw (by simp)]
    unfold AWo
    rw [Hw hft.2.1]
    rfl
   ·rw [Mo rfl, Mo rfl, Mo rfl]
    rfl
  ·rw [ho, Hw (show ¬ (0 ≤ i.A ∧ i.A < (e.Classes.length : Int) ∧ 0 ≤ i.B ∧ i.B < ((AJq e.Classes i.A).length : Int)) by omega), Hw (show ¬ (72 : Int) = 0 by omega)]
   by_cases h1 : i.B < 0
   ·rw [Mo (by rw [LX]; exact h1)]
   ·rw [Hw (by rw [LX]; exact h1), Mo (by rw [LX]; omega)]
 ·rw [ho, Brj _ ha, B3c, Hw (show ¬ (0 ≤ i.A ∧ i.A < (e.Classes.length : Int) ∧ 0 ≤ i.B ∧ i.B < ((AJq e.Classes i.A).length : Int)) by omega), Hw (show ¬ (72 : Int) = 0 by omega)]
  by_cases h1 : i.A < 0
  ·rw [Mo (by rw [LX]; exact h1)]
  ·rw [Hw (by rw [LX]; exact h1), Mo (by rw [LX]; omega)]
theorem Bwy {e : Adb} (h : AOl e) (i : Ads) (t : AOe Aaz) (ho : i.Op.toNat < 34)
  (ht : (Bae ⟨4, 1⟩ ⟨4, 2⟩ ⟨4, 4⟩)[i.Op.toNat]? = some t) : ASz t e i = some (if AOg e i = 0 then (⟨AQs e i, gvV e i⟩, 0) else (⟨[], Gv.nil⟩, AOg e i)) := by
 have hl32 := h.good.few
 rcases Bwx ho with h0 | h0 | h0 | h0 | h0 | h0 | h0 | h0 | h0 | h0 | h0 | h0 | h0 | h0 | h0 | h0 | h0 | h0 | h0 | h0 | h0 | h0 | h0 | h0 | h0 | h0 | h0 | h0 | h0 | h0 | h0 | h0 | h0 | h0
 all_goals (rw [h0] at ht; simp [Bae, Bh4, Bhc, Bii, Bil, Bb5, Bb2, Bb3, Bik, Bh3, Bgz, Bh0, Bho, Bha, Bg9, Bb0, Bh9, Bic, Bcd, Bhk, Bh6, Bhj, Bhw, Bg8, Bih, Bj9, Bkp, Bj7, Bkx, Bkz, Bj0, Bkl, Bjy, Bj2, Bkg] at ht; subst ht)
 all_goals first
  | (simp [ASz, AY2, AOg, h0, AQs, gvV, Ase, AU5, AXv]; done)
  | skip
 ·-- call
  unfold ASz Bee
  dsimp only
  have ho : AOg e i = if 0 ≤ i.A ∧ i.A < e.Akq.length then 0 else 71 := by simp [AOg, h0]
  by_cases ha : 0 ≤ i.A ∧ i.A < e.Akq.length
  ·rw [ho, Mo ha, Mo rfl, Hw (by rw [LX]; omega), Hw (by rw [LX]; omega), AR4 ha.1 ha.2 ⟨[], 0⟩, B3c]
   have hm := Biy h (Bj8 ha.1 ha.2)
   unfold Bid at hm
   rw [Bvd hm.1, B3c, Byc fun t ht => (Blj hl32 (hm.2.1 t ht)).1]
   have hw : AQs e i = ((e.Akq[i.A.toNat]?).getD ⟨[], 0⟩).Ars.map AXv := by simp [AQs, h0, Ase, Bid]
   have hg : gvV e i = .const (AWo ((e.Akq[i.A.toNat]?).getD ⟨[], 0⟩).Result) := by simp [gvV, h0, AU5, Bid]
   rw [hw, hg]
   unfold AWo
   by_cases hr : ((e.Akq[i.A.toNat]?).getD ⟨[], 0⟩).Result.toNat = 0
   ·rw [Mo (by rw [hr]; rfl), Mo hr]
   ·rw [Hw (by rw [Agq]; omega), Hw hr]
  ·rw [ho, Hw ha, Hw (show ¬ (71 : Int) = 0 by omega)]
   by_cases h1 : i.A < 0
   ·rw [Mo (by rw [LX]; exact h1)]
   ·rw [Hw (by rw [LX]; exact h1), Mo (by rw [LX]; omega)]
 ·-- return
  unfold ASz AYy Ban
  dsimp only
  have hf := h.fn
  rw [AR4 hf.1 hf.2 ⟨[], 0⟩, B3c]
  have hm := Biy h (Bvc h)
  unfold Bc1 at hm
  have hw : AQs e i = (AWo ((e.Akq[e.Fn.toNat]?).getD ⟨[], 0⟩).Result).map AXv := by simp [AQs, h0, Ase, Bc1]
  have hg : gvV e i = .const [] := by simp [gvV, h0, AU5]
  rw [hw, hg, show AOg e i = 0 by simp [AOg, h0], Mo rfl]
  unfold AWo
  by_cases hr : ((e.Akq[e.Fn.toNat]?).getD ⟨[], 0⟩).Result.toNat = 0
  ·rw [Mo (by rw [hr]; rfl), Mo hr]; rfl
  ·rw [Hw (by rw [Agq]; omega), Hw hr]
   unfold AUq
   rw [B3c, B3c, List.map_singleton, Bby (Blj hl32 (hm.2.2.resolve_left hr)).1]
 ·exact Bjq h i (by omega) (by simp [AQs, h0, Ase]) (by simp [gvV, h0, AU5])
 ·exact Bn7 h i (by omega) false (by simp [h0]) (fun _ => by simp [AQs, h0, Ase]) (fun _ => by simp [gvV, h0, AU5])
 ·exact Bn7 h i (by omega) true (by simp [h0]) (fun _ => by simp [AQs, h0, Ase]) (fun _ => by simp [gvV, h0, AU5])
 ·exact Bjq h i (by omega) (by simp [AQs, h0, Ase, AXv]) (by simp [gvV, h0, AU5])
 ·exact Bw9 h i (by omega) (by simp [AQs, h0, Ase, AXv]) (by simp [gvV, h0, AU5])
theorem Byh {e : Adb} (h : AOl e) (i : Ads) (ho : i.Op.toNat < 34) : AYp e i = some (if AOg e i = 0 then (⟨AQs e i, gvV e i⟩, 0) else (⟨[], Gv.nil⟩, AOg e i)) := by
 unfold AYp
 rw [size_eq, AU1, B3c]
 have hz : siz i.Op ≠ 0 := by unfold siz; rw [Hw (by omega)]; omega
 rw [Hw (by rw [Agq]; omega)]
 unfold step_table AUq
 rw [B3c, B3c, B3c, B3c]
 have hlen : (Bae ⟨4, 1⟩ ⟨4, 2⟩ ⟨4, 4⟩).length = 34 := by simp [Bae, Bh4, Bhc, Bii, Bil, Bb5, Bb2, Bb3, Bik, Bh3, Bgz, Bh0, Bho, Bha, Bg9, Bb0, Bh9, Bic, Bcd, Bhk, Bh6, Bhj, Bhw, Bg8, Bih, Bj9, Bkp, Bj7, Bkx, Bkz, Bj0, Bkl, Bjy, Bj2, Bkg]
 rcases ht : (Bae ⟨4, 1⟩ ⟨4, 2⟩ ⟨4, 4⟩)[i.Op.toNat]? with _ | t
 ·rw [List.getElem?_eq_none_iff, hlen] at ht; omega
 ·rw [B3c, show (⟨e.Classes, e.Akq, e.Fn⟩ : Adb) = e from rfl, show (⟨i.At, i.Op, i.A, i.B⟩ : Ads) = i from rfl, Bwy h i t ho ht, B3c]
theorem Byd (e : Adb) (i : Ads) (ho : ¬ i.Op.toNat < 34) : AYp e i = some (⟨[], Gv.nil⟩, 40) := by
 unfold AYp
 rw [size_eq, AU1, B3c]
 have hz : siz i.Op = 0 := by unfold siz; rw [Mo (by omega)]
 rw [hz, Mo (by simp)]
end Go.Proofs.YtfcpkcehecmcpaaGreat
namespace Go.Proofs.YtfcpkcehecmcpaaGreat
open Go Go.RowKit Go.Pv Go.Proofs.Tryz
def AL6 (f : Aas) (n : Nat) : List UInt8 := (f.Slots.toList.drop ((f.Locals + f.Height).toNat - n)).take n
theorem Bdf {f : Aas} (h : Fb f) {n : Nat} (hn : n ≤ f.Height) : (AL6 f n).length = n := by
 have := h.num
 unfold AL6
 rw [B3j, List.length_drop, Vector.length_toList]
 omega
theorem Bp3 {f : Aas} (h : Fb f) {n : Nat} (hn : n ≤ f.Height) {i : Nat} (hi : i < n) : (AL6 f n)[i]? = f.Slots.toList[(f.Locals + f.Height).toNat - n + i]? := by
 have := h.num
 unfold AL6
 rw [List.getElem?_take, Mo hi, List.getElem?_drop]
theorem Bwu {l : List Abi} {f : Aas} (h : Bdq l f.Slots) {n : Nat} : ∀ t ∈ AL6 f n, tv l t = true := by
 intro t ht
 unfold AL6 at ht
 have := List.mem_of_mem_drop (List.mem_of_mem_take ht)
 rw [← Bbn, List.all_eq_true] at h
 exact h t this
def Bbx (l : List Abi) (w : Aaz) (t first : UInt8) : Bool :=
 if w.kind = 1 then decide (t.toNat ≠ 0) else if w.kind = 2 then rf t else if w.kind = 3 then decide (t = first ∧ (t.toNat = 1 ∨ t.toNat = 2)) else if w.kind = 4 then decide (Le l t w.t) else true
theorem Bwt (l : List Abi) (G : Good l) (w : Aaz) (t first : UInt8) : Bb7 l w t first = some (Bbx l w t first) := by
 unfold Bb7 Bbx
 by_cases h1 : w.kind = 1
 ·rw [Mo (by rw [Agq]; exact h1), Mo h1]
  congr 1
  rw [B38, Ale, LX]
  omega
 ·rw [Hw (by rw [Agq]; exact h1), Hw h1]
  by_cases h2 : w.kind = 2
  ·rw [Mo (by rw [Agq]; exact h2), Mo h2, Bb4, B3c]
  ·rw [Hw (by rw [Agq]; exact h2), Hw h2]
   by_cases h3 : w.kind = 3
   ·rw [Mo (by rw [Agq]; exact h3), Mo h3, Bs6]
    by_cases h : t = first
    ·rw [Mo (by simpa using h)]
     by_cases h1 : t.toNat = 1
     ·rw [Mo (by rw [h1]; rfl), decide_eq_true ⟨h, Or.inl h1⟩]
     ·rw [Hw (by rw [Agq]; omega)]
      congr 1
      rw [B38, Agq, LX]
      constructor
      ·intro h2; exact ⟨h, Or.inr (by omega)⟩
      ·rintro ⟨_, h2 | h2⟩ <;> omega
    ·rw [Hw (by simpa using h), decide_eq_false (by rintro ⟨h', _⟩; exact h h')]
   ·rw [Hw (by rw [Agq]; exact h3), Hw h3]
    by_cases h4 : w.kind = 4
    ·rw [Mo (by rw [Agq]; exact h4), Mo h4, Bmo l G, B3c]
    ·rw [Hw (by rw [Agq]; exact h4), Hw h4]
def allFit (l : List Abi) (w : List Aaz) (had : List UInt8) : Bool := (List.range had.length).all fun i => Bbx l ((w[i]?).getD ⟨0, 0⟩) ((had[i]?).getD 0) ((had[0]?).getD 0)
theorem Bvu (l : List Abi) (G : Good l) {f : Aas} (h : Fb f) (w : List Aaz) : AY9 l f w = some (if f.Height < w.length then ([], 30) else if allFit l w (AL6 f w.length) = true then (AL6 f w.length, 0) else ([], 70)) := by
 have hh := h.num
 unfold AY9
 by_cases hw : f.Height < w.length
 ·rw [Mo (by rw [LX]; exact hw), Mo hw]
 ·rw [Hw (by rw [LX]; exact hw), Hw hw]
  have hlen := Bdf h (n := w.length) (by omega)
  have h1 : Aot (AT4 f w) (([] : List UInt8), 0) = some ((AL6 f w.length).map id) := by
   refine AW5 (AL6 f w.length) id (fun i hi acc ha => ?_) (fun acc => ?_)
   ·rw [hlen] at hi
    unfold AT4
    dsimp only
    rw [Mo (by rw [LX]; omega), show (⟨f.Locals, f.Height, f.Slots⟩ : Aas) = f from rfl, ANa (n := (w.length : Int) - 1) (by omega) (by omega), ANa (by omega) (by omega)]
    obtain ⟨x, hx, hx2⟩ := Bsa h (w.length - 1 - i) (by omega)
    rw [show (w.length : Int) - 1 - i = ((w.length - 1 - i : Nat) : Int) by omega, hx, B3c]
    have hg := Bp3 h (n := w.length) (by omega) hi
    rw [show (f.Locals + f.Height).toNat - w.length + i = (f.Locals + f.Height).toNat - 1 - (w.length - 1 - i) by omega, hx2] at hg
    dsimp only
    rw [AL0 (by simp; omega), B3c, wr1 (by omega)]
    rw [B3e (by omega)] at hg
    rw [Option.some.inj hg]
    rfl
   ·unfold AT4
    dsimp only
    rw [hlen, Hw (by rw [LX]; omega)]
  rw [h1, B3c, List.map_id]
  generalize hH : AL6 f w.length = had at *
  have hl := ASv (R := (List UInt8 × Int) ⊕ Unit) had.length (body := AT3 l w had) (fun i => if Bbx l ((w[i]?).getD ⟨0, 0⟩) ((had[i]?).getD 0) ((had[0]?).getD 0) = true then none else some (.inl ([], 70))) (r0 := .inr ()) (fun i hi => by
   unfold AT3
   have h0 : idx had 0 = some ((had[0]?).getD 0) := AR4 (i := 0) (by omega) (by omega) 0
   have hi' : idx had (i : Int) = some ((had[i]?).getD 0) := AR4 (i := (i : Int)) (by omega) (by omega) 0
   have hw' : idx w (i : Int) = some ((w[i]?).getD ⟨0, 0⟩) := AR4 (l := w) (i := (i : Int)) (by omega) (by omega) (⟨0, 0⟩ : Aaz)
   rw [Mo (by rw [LX]; omega), hi', B3c, hw', B3c, h0, B3c, Bwt l G, B3c, wr1 (by omega)]
   rcases Bbx l ((w[i]?).getD ⟨0, 0⟩) ((had[i]?).getD 0) ((had[0]?).getD 0) with _ | _ <;> rfl) (by
   unfold AT3
   rw [Hw (by rw [LX]; omega)])
  rw [hl, B3c]
  rcases hf : (List.range had.length).findSome? (fun i => if Bbx l ((w[i]?).getD ⟨0, 0⟩) ((had[i]?).getD 0) ((had[0]?).getD 0) = true then none else some (Sum.inl (([] : List UInt8), (70 : Int)) : (List UInt8 × Int) ⊕ Unit)) with _ | r
  ·have ha : allFit l w had = true := by
    unfold allFit
    rw [List.all_eq_true]
    intro i hi
    have := (List.findSome?_eq_none_iff.1 hf) i hi
    rcases hx : Bbx l ((w[i]?).getD ⟨0, 0⟩) ((had[i]?).getD 0) ((had[0]?).getD 0) with _ | _
    ·rw [hx] at this; simp at this
    ·rfl
   rw [Mo ha]
   rfl
  ·obtain ⟨i, hi, hr⟩ := List.exists_of_findSome?_eq_some hf
   have ha : allFit l w had ≠ true := by
    intro ha
    unfold allFit at ha
    rw [List.all_eq_true] at ha
    rw [Mo (ha i hi)] at hr
    cases hr
   rw [Hw ha]
   split at hr
   ·cases hr
   ·cases hr; rfl
def AXi (l : List Abi) (t want : UInt8) : Bool := if want = 255 then true else if want = 254 then decide (t.toNat ≠ 0) else if want = 253 then rf t else decide (Le l t want)
theorem Bqd {a : UInt8} {k : Nat} (hk : k < 256) : ((a.toNat : Int) == (k : Int)) = decide (a = UInt8.ofNat k) := by
 rw [ABn]
 rw [decide_eq_decide]
 constructor
 ·intro h
  apply UInt8.toNat_inj.1
  simp [h]
  omega
 ·rintro rfl
  simp
  omega
theorem Bto (l : List Abi) (G : Good l) (t want : UInt8) : AS2 l t want = some (AXi l t want) := by
 unfold AS2 AXi
 have e255 : ((want.toNat : Int) == 255) = decide (want = 255) := Bqd (k := 255) (by omega)
 have e254 : ((want.toNat : Int) == 254) = decide (want = 254) := Bqd (k := 254) (by omega)
 have e253 : ((want.toNat : Int) == 253) = decide (want = 253) := Bqd (k := 253) (by omega)
 rw [e255, e254, e253]
 simp only [LX]
 by_cases h1 : want = 255
 ·rw [Mo h1, Mo h1]
 ·rw [Hw h1, Hw h1]
  by_cases h2 : want = 254
  ·rw [Mo h2, Mo h2]
   congr 1
   rw [B38, Ale, LX]
   omega
  ·rw [Hw h2, Hw h2]
   by_cases h3 : want = 253
   ·rw [Mo h3, Mo h3, Bhb, B3c]
   ·rw [Hw h3, Hw h3, Bi5 l G, B3c]
theorem Bu6 (l : List Abi) (t want first : UInt8) : Bbx l (AXv want) t first = AXi l t want := by
 unfold AXv AXi Bbx
 by_cases h1 : want = 255
 ·rw [Mo h1, Mo h1]; rfl
 ·rw [Hw h1, Hw h1]
  by_cases h2 : want = 254
  ·rw [Mo h2, Mo h2]; rfl
  ·rw [Hw h2, Hw h2]
   by_cases h3 : want = 253
   ·rw [Mo h3, Mo h3]; rfl
   ·rw [Hw h3, Hw h3]; rfl
def Bc9 (l : List Abi) (w had : List UInt8) : Bool := (List.range had.length).all fun i => AXi l ((had[i]?).getD 0) ((w[i]?).getD 0)
theorem Bwp (e : Adb) (G : Good e.Classes) {f : Aas} (h : Fb f) (w : List UInt8) (hw : w.length ≤ f.Height) : Aot (ANn e f w) (([] : List UInt8), 0) = some (if Bc9 e.Classes w (AL6 f w.length) = true then .inr (AL6 f w.length) else .inl (zf, 70)) := by
 have hh := h.num
 have hlen := Bdf h (n := w.length) hw
 generalize hH : AL6 f w.length = had at *
 have step : ∀ (acc : List UInt8) (i : Nat) (hi : i < had.length), acc.length = i → ANn e f w (acc, (i : Int)) = if AXi e.Classes ((had[i]?).getD 0) ((w[i]?).getD 0) = true then some (.inl (acc ++ [(had[i]?).getD 0], ((i + 1 : Nat) : Int))) else some (.inr (.inl (zf, 70))) := by
  intro acc i hi ha
  unfold ANn
  dsimp only
  have hw' : idx w (i : Int) = some ((w[i]?).getD 0) := AR4 (i := (i : Int)) (by omega) (by omega) 0
  have hg := Bp3 h (n := w.length) hw (i := i) (by omega)
  rw [hH] at hg
  have hk : (f.Locals + f.Height).toNat - w.length + i < 24 := by omega
  have hx : idx f.Slots.toList (wr ((wr ((wr (f.Locals + f.Height)) - (w.length : Int))) + (i : Int))) = some ((had[i]?).getD 0) := by
   rw [ANa (n := f.Locals + f.Height) (by omega) (by omega), ANa (n := f.Locals + f.Height - w.length) (by omega) (by omega), ANa (by omega) (by omega)]
   rw [show f.Locals + f.Height - (w.length : Int) + (i : Int) = (((f.Locals + f.Height).toNat - w.length + i : Nat) : Int) by omega, Bnf, ← hg, B3e hi]
   rfl
  rw [Mo (by rw [LX]; omega), hw', B3c, hx, B3c, Bto _ G, B3c]
  rcases AXi e.Classes ((had[i]?).getD 0) ((w[i]?).getD 0) with _ | _
  ·rw [Mo (by simp), Hw (by simp)]
  ·rw [Hw (by simp), Mo rfl, AL0 (by simp; omega), B3c, wr1 (by omega)]
 have stop : ∀ acc, ANn e f w (acc, (had.length : Int)) = some (.inr (.inr acc)) := by
  intro acc
  unfold ANn
  dsimp only
  rw [Hw (by rw [LX]; omega)]
 have key : ∀ k i, i + k = had.length → Aot (ANn e f w) (had.take i, (i : Int)) = some (if ((List.range' i k).all fun j => AXi e.Classes ((had[j]?).getD 0) ((w[j]?).getD 0)) = true then .inr had else .inl (zf, 70)) := by
  intro k
  induction k with
  | zero =>
   intro i hi
   rw [show i = had.length by omega, Awv (stop _), B34]
   rfl
  | succ k ih =>
   intro i hi
   have hi' : i < had.length := by omega
   have hs := step (had.take i) i hi' (by rw [B3j]; omega)
   rw [List.range'_succ, List.all_cons]
   by_cases hw' : AXi e.Classes ((had[i]?).getD 0) ((w[i]?).getD 0) = true
   ·rw [Mo hw'] at hs
    rw [AGm hs, hw', Bool.true_and]
    have : had.take i ++ [(had[i]?).getD 0] = had.take (i + 1) := by
     rw [B3e hi', B3d, B3y]
    rw [this]
    exact ih (i + 1) (by omega)
   ·rw [Hw hw'] at hs
    rw [Awv hs, Hw]
    rw [B37]
    rintro ⟨h, _⟩; exact hw' h
 have := key had.length 0 (by omega)
 rw [List.take_zero] at this
 unfold Bc9
 rw [List.range_eq_range']
 exact this
end Go.Proofs.YtfcpkcehecmcpaaGreat
namespace Go.Proofs.YtfcpkcehecmcpaaGreat
open Go Go.RowKit Go.Pv Go.Proofs.Tryz
def okV (e : Adb) (i : Ads) (had : List UInt8) : Bool := Bc9 e.Classes (Ase e i) had && (decide (i.Op.toNat ≠ 16) || decide ((had[0]?).getD 0 = (had[1]?).getD 0 ∧ (((had[0]?).getD 0).toNat = 1 ∨ ((had[0]?).getD 0).toNat = 2)))
theorem all_congr {l : List Nat} {p q : Nat → Bool} (h : ∀ x ∈ l, p x = q x) : l.all p = l.all q := by
 induction l with
 | nil => rfl
 | cons a l ih => rw [List.all_cons, List.all_cons, h a (by simp), ih fun x hx => h x (by simp [hx])]
theorem ok_eq (e : Adb) (i : Ads) {had : List UInt8} (hl : had.length = (Ase e i).length) : allFit e.Classes (AQs e i) had = okV e i had := by
 unfold okV
 by_cases h : i.Op.toNat = 16
 ·have ht : Ase e i = [255, 255] := by unfold Ase; simp [h]
  rw [ht] at hl ⊢
  unfold AQs
  rw [Mo h, decide_eq_false (by simp [h]), Bool.false_or]
  match had, hl with
  | [a, b], _ =>
   unfold allFit Bc9 Bbx AXi
   rw [show (List.range ([a, b] : List UInt8).length) = [0, 1] from rfl]
   simp only [List.all_cons, List.all_nil, Bool.and_true, List.getElem?_cons_zero, List.getElem?_cons_succ, B3d]
   rw [B38]
   simp
   constructor
   ·rintro ⟨h1, h2, h3⟩; exact ⟨h2.symm, h1⟩
   ·rintro ⟨h1, h2⟩
    subst h1
    exact ⟨h2, rfl, h2⟩
 ·rw [decide_eq_true h, Bool.true_or, Bool.and_true]
  unfold allFit Bc9 AQs
  rw [Hw h]
  refine all_congr fun j hj => ?_
  have hj' : j < (Ase e i).length := by rw [B3o] at hj; omega
  rw [List.getElem?_map, B3e hj', Option.map_some, B3d, B3d, Bu6]
def AY3 (f : Aas) (i : Ads) : UInt8 := (f.Slots.toList[i.A.toNat]?).getD 0
def AWn (e : Adb) (f : Aas) (i : Ads) (had : List UInt8) : List UInt8 :=
 if i.Op.toNat = 4 then [AY3 f i] else if i.Op.toNat = 7 then [(had[0]?).getD 0, (had[0]?).getD 0] else if i.Op.toNat = 8 then [(had[1]?).getD 0, (had[0]?).getD 0] else AU5 e i
noncomputable def Bj4 (f : Aas) (i : Ads) (had gives : List UInt8) : Aas × Int :=
 if i.Op.toNat = 22 ∧ (APq f had.length).Height > 0 then (zf, 73) else AXd (if i.Op.toNat = 5 then Bge (APq f had.length) i.A ((had[0]?).getD 0) else APq f had.length) gives
noncomputable def AR1 (e : Adb) (f : Aas) (i : Ads) : Aas × Int :=
 if ¬ i.Op.toNat < 34 then (zf, 40)
 else if (i.Op.toNat = 4 ∨ i.Op.toNat = 5) ∧ ¬ (0 ≤ i.A ∧ i.A < f.Locals) then (zf, 33)
 else if AOg e i ≠ 0 then (zf, AOg e i)
 else if f.Height < (Ase e i).length then (zf, 30)
 else if okV e i (AL6 f (Ase e i).length) = false then (zf, 70)
 else if i.Op.toNat = 4 ∧ (AY3 f i).toNat = 0 then (zf, 70)
 else Bj4 f i (AL6 f (Ase e i).length) (AWn e f i (AL6 f (Ase e i).length))
theorem Bxj {e : Adb} (h : AOl e) (i : Ads) (h0 : AOg e i = 0) : (Ase e i).length ≤ 8 := by
 unfold Ase
 split <;> try (simp; done)
 ·rename_i h21
  unfold AOg at h0
  rw [Mo h21] at h0
  by_cases ha : 0 ≤ i.A ∧ i.A < e.Akq.length
  ·exact (Biy h (Bj8 ha.1 ha.2)).1
  ·rw [Hw ha] at h0; cases h0
 ·unfold AWo; split <;> simp
theorem Bp1 (e : Adb) (f : Aas) (i : Ads) (had : List UInt8) : (AWn e f i had).length ≤ 2 := by
 unfold AWn
 split
 ·simp
 ·split
  ·simp
  ·split
   ·simp
   ·unfold AU5
    split <;> try (simp; done)
    all_goals (unfold AWo; split <;> simp)
theorem Bw1 {f : Aas} (h : Fb f) {i : Ads} (h0 : 0 ≤ i.A) (h1 : i.A < f.Locals) : idx f.Slots.toList i.A = some (AY3 f i) := by
 have := h.num
 exact AR4 h0 (by simp; omega) 0
theorem Blo {f : Aas} (h : Fb f) (i : Ads) {had gives : List UInt8} (hn : had.length ≤ f.Height) (hg : gives.length ≤ 2) (h5 : i.Op.toNat = 5 → had ≠ [] ∧ 0 ≤ i.A ∧ i.A < f.Locals) : AUm f i had gives = some (Bj4 f i had gives) := by
 have hh := h.num
 unfold AUm
 rw [Boo had.length h hn (fun g k hk hg hgh => by
   obtain ⟨x, hx⟩ := B0a hg hgh
   unfold AUs
   dsimp only
   rw [Mo (by rw [LX]; omega), show (⟨g.Locals, g.Height, g.Slots⟩ : Aas) = g from rfl, hx, B3c, wr1 (by omega)]) (fun g => by
   unfold AUs
   dsimp only
   rw [Hw (by rw [LX]; omega)]), B3c]
 have hp := Bi7 h had.length hn
 have hpL : (APq f had.length).Locals = f.Locals := by unfold APq AQc; dsimp only
 unfold Bj4
 generalize APq f had.length = g at *
 dsimp only
 have e22 : ((i.Op.toNat : Int) == 22) = decide (i.Op.toNat = 22) := ABn _ 22
 have e5 : ((i.Op.toNat : Int) == 5) = decide (i.Op.toNat = 5) := ABn _ 5
 rw [e22, e5]
 by_cases h22 : i.Op.toNat = 22 ∧ g.Height > 0
 ·rw [Mo h22, Mo (by rw [LX]; exact h22.1), Mo (by rw [LX]; exact h22.2), B3c]
 ·rw [Hw h22]
  have hx : (if decide (i.Op.toNat = 22) = true then if decide (g.Height > 0) = true then some (Sum.inl (zf, (73 : Int)) : (Aas × Int) ⊕ Unit) else some (.inr ()) else some (.inr ())) = some (.inr ()) := by
   by_cases h1 : i.Op.toNat = 22
   ·rw [Mo (by rw [LX]; exact h1), Hw (by rw [LX]; exact fun h2 => h22 ⟨h1, h2⟩)]
   ·rw [Hw (by rw [LX]; exact h1)]
  rw [hx, B3c]
  dsimp only
  have hy : ∀ f2 : Aas, Fb f2 → ((Aot (ASa gives) (f2.Locals, f2.Height, f2.Slots, 0) : Option ((Aas × Int) ⊕ (Int × Int × (Vector UInt8 24))))).bind (fun o6044 => (match o6044 with | .inl p6987 => (some p6987) | .inr p6047 => (some ((⟨p6047.1, p6047.2.1, p6047.2.2⟩ : Aas), (0 : Int))))) = some (AXd f2 gives) := by
   intro f2 hf2
   have := Bji (body := ASa gives) gives (by omega) (fun f3 k hk hf3 => by
    unfold ASa
    dsimp only
    rw [Mo (by rw [LX]; omega), Ayt hk, B3c, show (⟨f3.Locals, f3.Height, f3.Slots⟩ : Aas) = f3 from rfl, Bxl hf3, B3c]
    by_cases h24 : f3.Locals + f3.Height = 24
    ·rw [Mo h24, Mo h24]; rfl
    ·rw [Hw h24, Hw h24, wr1 (by omega)]; rfl) (fun f3 => by
    unfold ASa
    dsimp only
    rw [Hw (by rw [LX]; omega)]) gives.length 0 f2 (by omega) hf2
   rw [show ((0 : Nat) : Int) = 0 from rfl, List.drop_zero] at this
   rw [this, B3c]
   rcases hq : AXd f2 gives with ⟨f3, x⟩
   by_cases hx0 : x = 0
   ·subst hx0; rfl
   ·dsimp only; rw [Hw hx0]
  by_cases h5' : i.Op.toNat = 5
  ·obtain ⟨hne, h50, h51⟩ := h5 h5'
   have hl0 : 0 < had.length := List.length_pos_iff.2 hne
   rw [Mo (by rw [LX]; exact h5'), Mo h5', show idx had 0 = some ((had[0]?).getD 0) from AR4 (i := 0) (by omega) (by omega) 0, B3c, Bu7 hp h50 (by omega), B3c, B3c]
   exact hy (Bge g i.A ((had[0]?).getD 0)) (Bm8 hp _ h50 (by omega))
  ·rw [Hw (by rw [LX]; exact h5'), Hw h5', B3c]
   exact hy g hp
theorem Bzq (e : Adb) (f : Aas) (i : Ads) {had : List UInt8} (hl : had.length = (Ase e i).length) (h4 : i.Op.toNat ≠ 4) : Gv.run (gvV e i) had = some (AWn e f i had) := by
 unfold gvV AWn
 by_cases h7 : i.Op.toNat = 7
 ·have ht : Ase e i = [255] := by unfold Ase; simp [h7]
  rw [ht] at hl
  simp only [h4, h7, if_true, if_false]
  match had, hl with
  | [a], _ => rfl
 ·by_cases h8 : i.Op.toNat = 8
  ·have ht : Ase e i = [255, 255] := by unfold Ase; simp [h8]
   rw [ht] at hl
   simp only [h4, h7, h8, if_true, if_false]
   match had, hl with
   | [a, b], _ => rfl
  ·simp only [h4, h7, h8, if_true, if_false]
   rfl
theorem Bo5 {e : Adb} {i : Ads} (h : i.Op.toNat = 4 ∨ i.Op.toNat = 5) : AOg e i = 0 := by
 unfold AOg
 rw [Hw (by omega), Hw (by omega), Hw (by omega)]
theorem Bsu {e : Adb} {i : Ads} (h : i.Op.toNat = 5) : Ase e i = [254] := by unfold Ase; simp [h]
theorem Bk9 {e : Adb} (h : AOl e) {f : Aas} (hb : Fb f) (i : Ads) (h34 : i.Op.toNat < 34) (h0 : AOg e i = 0) (hA : i.Op.toNat = 4 ∨ i.Op.toNat = 5 → 0 ≤ i.A ∧ i.A < f.Locals) :
  ((AY9 e.Classes f (AQs e i)).bind fun x464 => if (x464.2 != 0) = true then (some ((⟨0, 0, (Vector.replicate 24 (0 : UInt8))⟩ : Aas), x464.2)) else ((Gv.run (gvV e i) x464.1).bind fun x545 => if ((i.Op.toNat : Int) == 4) = true then ((AV3 f i.A).bind fun x668 => if ((x668.1.toNat : Int) == 0) = true then (some ((⟨0, 0, (Vector.replicate 24 (0 : UInt8))⟩ : Aas), 70)) else ((AUm f i x464.1 ([x668.1] : List UInt8)).bind fun x744 => some ((⟨x744.1.Locals, x744.1.Height, x744.1.Slots⟩ : Aas), x744.2))) else ((AUm f i x464.1 x545).bind fun x782 => some ((⟨x782.1.Locals, x782.1.Height, x782.1.Slots⟩ : Aas), x782.2)))) =
  some (if f.Height < (Ase e i).length then (zf, 30)
   else if okV e i (AL6 f (Ase e i).length) = false then (zf, 70)
   else if i.Op.toNat = 4 ∧ (AY3 f i).toNat = 0 then (zf, 70)
   else Bj4 f i (AL6 f (Ase e i).length) (AWn e f i (AL6 f (Ase e i).length))) := by
 have hwl : (AQs e i).length = (Ase e i).length := by
  unfold AQs
  split
  ·rename_i h16
   have : Ase e i = [255, 255] := by unfold Ase; simp [h16]
   rw [this]; rfl
  ·rw [B3g]
 have e4 : ((i.Op.toNat : Int) == 4) = decide (i.Op.toNat = 4) := ABn _ 4
 rw [Bvu _ h.good hb, B3c, hwl]
 by_cases hH : f.Height < (Ase e i).length
 ·rw [Mo hH, Mo hH, Mo (by simp)]
 ·have hlen := Bdf hb (n := (Ase e i).length) (by omega)
  rw [Hw hH, Hw hH, ok_eq e i hlen]
  rcases hok : okV e i (AL6 f (Ase e i).length) with _ | _
  ·rw [Hw (show ¬ (false = true) by simp), Mo (show false = false from rfl), Mo (by simp)]
  ·rw [Mo (show true = true from rfl), Hw (show ¬ (true = false) by simp)]
   dsimp only
   rw [Hw (by simp), e4]
   by_cases h4 : i.Op.toNat = 4
   ·obtain ⟨x, hx, hx2, hx3⟩ := Bpe hb (hA (Or.inl h4)).1 (hA (Or.inl h4)).2
    have hsl : AY3 f i = x := by unfold AY3; rw [hx3]; rfl
    have hgv : Gv.run (gvV e i) (AL6 f (Ase e i).length) = some [0] := by unfold gvV; rw [Hw (by omega), Hw (by omega), Mo h4]; rfl
    rw [hgv, B3c, Mo (by rw [LX]; exact h4), hx, B3c, hsl]
    dsimp only
    by_cases hx0 : x.toNat = 0
    ·rw [Mo (by rw [hx0]; rfl), Mo ⟨h4, hx0⟩]
    ·rw [Hw (by rw [Agq]; omega), Hw (by rintro ⟨_, q⟩; exact hx0 q), Blo hb i (by omega) (by simp) (fun q => by omega), B3c]
     unfold AWn
     rw [Mo h4, hsl]
   ·rw [Bzq e f i hlen h4, B3c, Hw (by rw [LX]; exact h4), Hw (by rintro ⟨q, _⟩; exact h4 q), Blo hb i (by omega) (Bp1 e f i _) (fun q => ⟨(by
     intro hn
     rw [hn, Bsu q] at hlen
     cases hlen), hA (Or.inr q)⟩), B3c]
theorem Bva {e : Adb} (h : AOl e) {f : Aas} (hf : Fok e.Classes f) (i : Ads) : Baz e f i = some (AR1 e f i) := by
 have hb := hf.fb
 unfold Baz
 rw [show (⟨e.Classes, e.Akq, e.Fn⟩ : Adb) = e from rfl, show (⟨f.Locals, f.Height, f.Slots⟩ : Aas) = f from rfl, show (⟨i.At, i.Op, i.A, i.B⟩ : Ads) = i from rfl, B09 e h.good.tab, Bsv e h, B3c, Hw (by simp), Bhs hf, B3c, Hw (by simp)]
 have e4 : ((i.Op.toNat : Int) == 4) = decide (i.Op.toNat = 4) := ABn _ 4
 have e5 : ((i.Op.toNat : Int) == 5) = decide (i.Op.toNat = 5) := ABn _ 5
 have ho : (if ((i.Op.toNat : Int) == 4) = true then some true else some ((i.Op.toNat : Int) == 5)) = some (decide (i.Op.toNat = 4 ∨ i.Op.toNat = 5)) := by
  rw [e4, e5]
  by_cases q : i.Op.toNat = 4
  ·rw [Mo (by rw [LX]; exact q), decide_eq_true (Or.inl q)]
  ·rw [Hw (by rw [LX]; exact q)]
   congr 1
   rw [decide_eq_decide]
   exact ⟨Or.inr, fun h => h.resolve_left q⟩
 unfold AR1
 by_cases h34 : i.Op.toNat < 34
 ·rw [Byh h i h34, B3c, ho, B3c, Hw (show ¬ ¬ i.Op.toNat < 34 from fun q => q h34)]
  by_cases hloc : i.Op.toNat = 4 ∨ i.Op.toNat = 5
  ·rw [Bo5 (e := e) hloc, Mo rfl]
   dsimp only
   rw [Mo (by rw [Agq]), Mo (by rw [LX]; exact hloc)]
   by_cases hA : 0 ≤ i.A ∧ i.A < f.Locals
   ·rw [Hw (by rw [LX]; omega), Hw (by rw [LX]; omega), B3c, Hw (by simp), Hw (show ¬ ((i.Op.toNat = 4 ∨ i.Op.toNat = 5) ∧ ¬ (0 ≤ i.A ∧ i.A < f.Locals)) from fun q => q.2 hA), Hw (show ¬ (0 : Int) ≠ 0 from fun q => q rfl)]
    exact Bk9 h hb i h34 (Bo5 hloc) (fun _ => hA)
   ·rw [Mo (show ((i.Op.toNat = 4 ∨ i.Op.toNat = 5) ∧ ¬ (0 ≤ i.A ∧ i.A < f.Locals)) from ⟨hloc, hA⟩)]
    by_cases h1 : i.A < 0
    ·rw [Mo (by rw [LX]; exact h1), B3c, Mo (by simp)]
    ·rw [Hw (by rw [LX]; exact h1), Mo (by rw [LX]; omega), B3c, Mo (by simp)]
  ·rw [Hw (show ¬ ((i.Op.toNat = 4 ∨ i.Op.toNat = 5) ∧ ¬ (0 ≤ i.A ∧ i.A < f.Locals)) from fun q => hloc q.1), decide_eq_false hloc]
   by_cases h0 : AOg e i = 0
   ·rw [Mo h0, Hw (show ¬ AOg e i ≠ 0 from fun q => q h0)]
    dsimp only
    rw [Mo (by rw [Agq]), Hw (by simp), B3c, Hw (by simp)]
    exact Bk9 h hb i h34 h0 (fun q => absurd q hloc)
   ·rw [Hw h0, Mo (show AOg e i ≠ 0 from h0)]
    dsimp only
    rw [Hw (by rw [Agq]; exact h0), B3c, Mo (by rw [Ale]; exact h0)]
 ·rw [Byd e i h34, B3c, ho, B3c, Mo h34]
  dsimp only
  rw [Hw (by simp), B3c, Mo (by simp)]
end Go.Proofs.YtfcpkcehecmcpaaGreat
namespace Go.Proofs.YtfcpkcehecmcpaaGreat
open Go Go.RowKit Go.Pv Go.Proofs.Tryz
theorem Bln {e : Adb} (h : AOl e) {f : Aas} (hb : Fb f) (i : Ads) (h34 : i.Op.toNat < 34) (h0 : AOg e i = 0) (hA : i.Op.toNat = 4 ∨ i.Op.toNat = 5 → 0 ≤ i.A ∧ i.A < f.Locals) :
  ASd e f i = some (if f.Height < (Ase e i).length then (zf, 30)
   else if okV e i (AL6 f (Ase e i).length) = false then (zf, 70)
   else if i.Op.toNat = 4 ∧ (AY3 f i).toNat = 0 then (zf, 70)
   else Bj4 f i (AL6 f (Ase e i).length) (AWn e f i (AL6 f (Ase e i).length))) := by
 have hh := hb.num
 have h8 := Bxj h i h0
 unfold ASd
 rw [show (⟨e.Classes, e.Akq, e.Fn⟩ : Adb) = e from rfl, show (⟨i.At, i.Op, i.A, i.B⟩ : Ads) = i from rfl, Bux h i h34 h0, B3c]
 by_cases hH : f.Height < (Ase e i).length
 ·rw [Mo hH, Mo (by rw [LX]; exact hH)]
 ·have hlen := Bdf hb (n := (Ase e i).length) (by omega)
  rw [Hw hH, Hw (by rw [LX]; exact hH), Bwp e h.good hb _ (by omega), B3c]
  unfold okV
  rcases hw : Bc9 e.Classes (Ase e i) (AL6 f (Ase e i).length) with _ | _
  ·rw [Hw (show ¬ (false = true) by simp), Bool.false_and, Mo (show false = false from rfl)]
  ·rw [Mo (show true = true from rfl), Bool.true_and]
   dsimp only
   have e16 : ((i.Op.toNat : Int) == 16) = decide (i.Op.toNat = 16) := ABn _ 16
   have e4 : ((i.Op.toNat : Int) == 4) = decide (i.Op.toNat = 4) := ABn _ 4
   have e7 : ((i.Op.toNat : Int) == 7) = decide (i.Op.toNat = 7) := ABn _ 7
   have e8 : ((i.Op.toNat : Int) == 8) = decide (i.Op.toNat = 8) := ABn _ 8
   have e22 : ((i.Op.toNat : Int) == 22) = decide (i.Op.toNat = 22) := ABn _ 22
   have e5 : ((i.Op.toNat : Int) == 5) = decide (i.Op.toNat = 5) := ABn _ 5
   have hx16 : ((if ((i.Op.toNat : Int) == 16) = true then ((idx (AL6 f (Ase e i).length) 0).bind fun x6938 => (idx (AL6 f (Ase e i).length) 1).bind fun x6943 => if ((x6938.toNat : Int) != (x6943.toNat : Int)) = true then (some (.inl ((⟨0, 0, (Vector.replicate 24 (0 : UInt8))⟩ : Aas), 70))) else ((idx (AL6 f (Ase e i).length) 0).bind fun x6967 => if ((x6967.toNat : Int) != 1) = true then ((idx (AL6 f (Ase e i).length) 0).bind fun x6973 => if ((x6973.toNat : Int) != 2) = true then (some (.inl ((⟨0, 0, (Vector.replicate 24 (0 : UInt8))⟩ : Aas), 70))) else (some (.inr (())))) else (some (.inr (()))))) else (some (.inr (()))) : Option ((Aas × Int) ⊕ Unit))) =
     some (if (decide (i.Op.toNat ≠ 16) || decide (((AL6 f (Ase e i).length)[0]?).getD 0 = ((AL6 f (Ase e i).length)[1]?).getD 0 ∧ ((((AL6 f (Ase e i).length)[0]?).getD 0).toNat = 1 ∨ (((AL6 f (Ase e i).length)[0]?).getD 0).toNat = 2))) = false then .inl (zf, 70) else .inr ()) := by
    rw [e16]
    by_cases q : i.Op.toNat = 16
    ·have ht : Ase e i = [255, 255] := by unfold Ase; simp [q]
     rw [ht] at hlen ⊢
     generalize AL6 f ([255, 255] : List UInt8).length = had at *
     rw [Mo (by rw [LX]; exact q), decide_eq_false (p := i.Op.toNat ≠ 16) (by simp [q]), Bool.false_or]
     match had, hlen with
     | [a, b], _ =>
      rw [show idx [a, b] 0 = some a from rfl, show idx [a, b] 1 = some b from rfl, B3c, B3c, B3c, B3c]
      simp only [List.getElem?_cons_zero, List.getElem?_cons_succ, B3d]
      by_cases h1 : a = b
      ·subst h1
       rw [Hw (by simp)]
       by_cases h2 : a.toNat = 1
       ·rw [Hw (by rw [Ale]; omega), Hw (by simp [h2])]
       ·rw [Mo (by rw [Ale]; omega)]
        by_cases h3 : a.toNat = 2
        ·rw [Hw (by rw [Ale]; omega), Hw (by simp [h3])]
        ·rw [Mo (by rw [Ale]; omega), Mo (by simp [h2, h3])]
      ·rw [Mo, Mo (by simp [h1])]
       rw [Ale]
       intro h2
       apply h1
       apply UInt8.toNat_inj.1
       omega
    ·rw [Hw (by rw [LX]; exact q), decide_eq_true (p := i.Op.toNat ≠ 16) q, Bool.true_or, Hw (by simp)]
   rw [hx16, B3c]
   generalize hok : (decide (i.Op.toNat ≠ 16) || decide (((AL6 f (Ase e i).length)[0]?).getD 0 = ((AL6 f (Ase e i).length)[1]?).getD 0 ∧ ((((AL6 f (Ase e i).length)[0]?).getD 0).toNat = 1 ∨ (((AL6 f (Ase e i).length)[0]?).getD 0).toNat = 2))) = ok
   rcases ok with _ | _
   ·rw [Mo (show false = false from rfl), Mo (show false = false from rfl)]
   ·rw [Hw (show ¬ (true = false) by simp), Hw (show ¬ (true = false) by simp)]
    dsimp only
    rw [Bup h i h34 h0, B3c, e4, e7, e8]
    have hg : ((if decide (i.Op.toNat = 4) = true then ((idx f.Slots.toList i.A).bind fun x7536 => if ((x7536.toNat : Int) == 0) = true then (some (.inl ((⟨0, 0, (Vector.replicate 24 (0 : UInt8))⟩ : Aas), 70))) else ((idx f.Slots.toList i.A).bind fun x7560 => some (.inr (([x7560] : List UInt8))))) else (if decide (i.Op.toNat = 7) = true then ((idx (AL6 f (Ase e i).length) 0).bind fun x7588 => (idx (AL6 f (Ase e i).length) 0).bind fun x7593 => some (.inr (([x7588, x7593] : List UInt8)))) else (if decide (i.Op.toNat = 8) = true then ((idx (AL6 f (Ase e i).length) 1).bind fun x7619 => (idx (AL6 f (Ase e i).length) 0).bind fun x7624 => some (.inr (([x7619, x7624] : List UInt8)))) else (some (.inr (AU5 e i))))) : Option ((Aas × Int) ⊕ ((List UInt8))))) =
      some (if i.Op.toNat = 4 ∧ (AY3 f i).toNat = 0 then .inl (zf, 70) else .inr (AWn e f i (AL6 f (Ase e i).length))) := by
     unfold AWn
     by_cases q4 : i.Op.toNat = 4
     ·have hA4 := hA (Or.inl q4)
      rw [Mo (by rw [LX]; exact q4), Bw1 hb hA4.1 hA4.2, B3c, B3c]
      by_cases hx0 : (AY3 f i).toNat = 0
      ·rw [Mo (by rw [hx0]; rfl), Mo ⟨q4, hx0⟩]
      ·rw [Hw (by rw [Agq]; omega), Hw (by rintro ⟨_, q⟩; exact hx0 q), Mo q4]
     ·rw [Hw (by rw [LX]; exact q4), Hw (show ¬ (i.Op.toNat = 4 ∧ (AY3 f i).toNat = 0) from fun q => q4 q.1), Hw q4]
      by_cases q7 : i.Op.toNat = 7
      ·have ht : Ase e i = [255] := by unfold Ase; simp [q7]
       rw [ht] at hlen ⊢
       rw [Mo (by rw [LX]; exact q7), Mo q7, show idx (AL6 f ([255] : List UInt8).length) 0 = some (((AL6 f ([255] : List UInt8).length)[0]?).getD 0) from AR4 (i := 0) (by omega) (by rw [hlen]; simp) 0]
       rfl
      ·rw [Hw (by rw [LX]; exact q7), Hw q7]
       by_cases q8 : i.Op.toNat = 8
       ·have ht : Ase e i = [255, 255] := by unfold Ase; simp [q8]
        rw [ht] at hlen ⊢
        rw [Mo (by rw [LX]; exact q8), Mo q8, show idx (AL6 f ([255, 255] : List UInt8).length) 0 = some (((AL6 f ([255, 255] : List UInt8).length)[0]?).getD 0) from AR4 (i := 0) (by omega) (by rw [hlen]; simp) 0, show idx (AL6 f ([255, 255] : List UInt8).length) 1 = some (((AL6 f ([255, 255] : List UInt8).length)[1]?).getD 0) from AR4 (i := 1) (by omega) (by rw [hlen]; simp) 0]
        rfl
       ·rw [Hw (by rw [LX]; exact q8), Hw q8]
    rw [hg, B3c]
    by_cases hbad : i.Op.toNat = 4 ∧ (AY3 f i).toNat = 0
    ·rw [Mo hbad, Mo hbad]
    ·rw [Hw hbad, Hw hbad]
     dsimp only
     rw [Boo (Ase e i).length hb (by omega) (fun g k hk hg hgh => by
       obtain ⟨x, hx⟩ := By4 hg hgh
       unfold AQu
       dsimp only
       rw [Mo (by rw [LX]; omega), show (⟨g.Locals, g.Height, g.Slots⟩ : Aas) = g from rfl, hx, B3c, wr1 (by omega)]) (fun g => by
       unfold AQu
       dsimp only
       rw [Hw (by rw [LX]; omega)]), B3c]
     unfold Bj4
     rw [hlen]
     have hp := Bi7 hb (Ase e i).length (by omega)
     have hpL : (APq f (Ase e i).length).Locals = f.Locals := by unfold APq AQc; dsimp only
     generalize APq f (Ase e i).length = g at *
     dsimp only
     rw [e22, e5]
     by_cases h22 : i.Op.toNat = 22 ∧ g.Height > 0
     ·rw [Mo h22, Mo (by rw [LX]; exact h22.1), Mo (by rw [LX]; exact h22.2), B3c]
     ·rw [Hw h22]
      have hx : (if decide (i.Op.toNat = 22) = true then if decide (g.Height > 0) = true then some (Sum.inl (zf, (73 : Int)) : (Aas × Int) ⊕ Unit) else some (.inr ()) else some (.inr ())) = some (.inr ()) := by
       by_cases h1 : i.Op.toNat = 22
       ·rw [Mo (by rw [LX]; exact h1), Hw (by rw [LX]; exact fun h2 => h22 ⟨h1, h2⟩)]
       ·rw [Hw (by rw [LX]; exact h1)]
      rw [hx, B3c]
      dsimp only
      have hgl := Bp1 e f i (AL6 f (Ase e i).length)
      generalize AWn e f i (AL6 f (Ase e i).length) = gives at *
      have hy : ∀ f2 : Aas, Fb f2 → ((Aot (AOp gives) (f2.Locals, f2.Height, f2.Slots, 0) : Option ((Aas × Int) ⊕ (Int × Int × (Vector UInt8 24))))).bind (fun o13581 => (match o13581 with | .inl p14524 => (some p14524) | .inr p13584 => (some ((⟨p13584.1, p13584.2.1, p13584.2.2⟩ : Aas), (0 : Int))))) = some (AXd f2 gives) := by
       intro f2 hf2
       have := Bji (body := AOp gives) gives (by omega) (fun f3 k hk hf3 => by
        unfold AOp
        dsimp only
        rw [Mo (by rw [LX]; omega), Ayt hk, B3c, show (⟨f3.Locals, f3.Height, f3.Slots⟩ : Aas) = f3 from rfl, Bxv hf3, B3c]
        by_cases h24 : f3.Locals + f3.Height = 24
        ·rw [Mo h24, Mo h24]; rfl
        ·rw [Hw h24, Hw h24, wr1 (by omega)]; rfl) (fun f3 => by
        unfold AOp
        dsimp only
        rw [Hw (by rw [LX]; omega)]) gives.length 0 f2 (by omega) hf2
       rw [show ((0 : Nat) : Int) = 0 from rfl, List.drop_zero] at this
       rw [this, B3c]
       rcases hq : AXd f2 gives with ⟨f3, x⟩
       by_cases hx0 : x = 0
       ·subst hx0; rfl
       ·dsimp only; rw [Hw hx0]
      by_cases h5' : i.Op.toNat = 5
      ·obtain ⟨h50, h51⟩ := hA (Or.inr h5')
       have hpn := hp.num
       rw [Bsu h5'] at hlen ⊢
       rw [Mo (by rw [LX]; exact h5'), Mo h5', show idx (AL6 f ([254] : List UInt8).length) 0 = some (((AL6 f ([254] : List UInt8).length)[0]?).getD 0) from AR4 (i := 0) (by omega) (by rw [hlen]; simp) 0, B3c, show idx g.Slots.toList i.A = some ((g.Slots.toList[i.A.toNat]?).getD 0) from AR4 h50 (by simp; omega) 0, B3c, B3c]
       exact hy (Bge g i.A (((AL6 f ([254] : List UInt8).length)[0]?).getD 0)) (Bm8 hp _ h50 (by omega))
      ·rw [Hw (by rw [LX]; exact h5'), Hw h5', B3c]
       exact hy g hp
theorem Bv2 {e : Adb} (h : AOl e) {f : Aas} (hf : Fok e.Classes f) (i : Ads) : ATj e f i = some (AR1 e f i) := by
 have hb := hf.fb
 unfold ATj
 rw [show (⟨e.Classes, e.Akq, e.Fn⟩ : Adb) = e from rfl, show (⟨f.Locals, f.Height, f.Slots⟩ : Aas) = f from rfl, show (⟨i.At, i.Op, i.A, i.B⟩ : Ads) = i from rfl, Bsv e h, B3c, Hw (by simp), Bfn hf, B3c, Hw (by simp), AU1, B3c]
 have e4 : ((i.Op.toNat : Int) == 4) = decide (i.Op.toNat = 4) := ABn _ 4
 have e5 : ((i.Op.toNat : Int) == 5) = decide (i.Op.toNat = 5) := ABn _ 5
 have ho : (if ((i.Op.toNat : Int) == 4) = true then some true else some ((i.Op.toNat : Int) == 5)) = some (decide (i.Op.toNat = 4 ∨ i.Op.toNat = 5)) := by
  rw [e4, e5]
  by_cases q : i.Op.toNat = 4
  ·rw [Mo (by rw [LX]; exact q), decide_eq_true (Or.inl q)]
  ·rw [Hw (by rw [LX]; exact q)]
   congr 1
   rw [decide_eq_decide]
   exact ⟨Or.inr, fun h => h.resolve_left q⟩
 unfold AR1
 by_cases h34 : i.Op.toNat < 34
 ·have hz : siz i.Op ≠ 0 := by unfold siz; rw [Hw (by omega)]; omega
  rw [Hw (by rw [Agq]; omega), ho, B3c, Hw (show ¬ ¬ i.Op.toNat < 34 from fun q => q h34)]
  by_cases hloc : i.Op.toNat = 4 ∨ i.Op.toNat = 5
  ·rw [Mo (by rw [LX]; exact hloc)]
   by_cases hA : 0 ≤ i.A ∧ i.A < f.Locals
   ·rw [Hw (by rw [LX]; omega), Hw (by rw [LX]; omega), Hw (show ¬ ((i.Op.toNat = 4 ∨ i.Op.toNat = 5) ∧ ¬ (0 ≤ i.A ∧ i.A < f.Locals)) from fun q => q.2 hA), Bso h i, B3c, Bo5 (e := e) hloc, Hw (by simp), Hw (show ¬ (0 : Int) ≠ 0 from fun q => q rfl), Bln h hb i h34 (Bo5 hloc) (fun _ => hA), B3c]
   ·rw [Mo (show ((i.Op.toNat = 4 ∨ i.Op.toNat = 5) ∧ ¬ (0 ≤ i.A ∧ i.A < f.Locals)) from ⟨hloc, hA⟩)]
    by_cases h1 : i.A < 0
    ·rw [Mo (by rw [LX]; exact h1)]
    ·rw [Hw (by rw [LX]; exact h1), Mo (by rw [LX]; omega)]
  ·rw [Hw (show ¬ ((i.Op.toNat = 4 ∨ i.Op.toNat = 5) ∧ ¬ (0 ≤ i.A ∧ i.A < f.Locals)) from fun q => hloc q.1), Hw (by rw [LX]; exact hloc), Bso h i, B3c]
   by_cases h0 : AOg e i = 0
   ·rw [Hw (show ¬ AOg e i ≠ 0 from fun q => q h0), Hw (by rw [Ale]; exact fun q => q h0), Bln h hb i h34 h0 (fun q => absurd q hloc), B3c]
   ·rw [Mo (show AOg e i ≠ 0 from h0), Mo (by rw [Ale]; exact h0)]
 ·have hz : siz i.Op = 0 := by unfold siz; rw [Mo (by omega)]
  rw [Mo (by rw [hz]; rfl), Mo h34]
theorem Bps {e : Adb} (h : AOl e) {f : Aas} (hf : Fok e.Classes f) (i : Ads) (h0 : AOg e i = 0) {had : List UInt8} (hh : ∀ t ∈ had, tv e.Classes t = true) : ∀ t ∈ AWn e f i had, tv e.Classes t = true := by
 have h32 := h.good.few
 have tl : ∀ k, k ≤ 5 → tv e.Classes (UInt8.ofNat k) = true := by
  intro k hk
  unfold tv
  have : (UInt8.ofNat k).toNat = k := by simp; omega
  rw [this, decide_eq_true hk, Bool.true_or]
 have hget : ∀ k : Nat, tv e.Classes ((had[k]?).getD 0) = true := by
  intro k
  rcases hx : had[k]? with _ | x
  ·exact Bai _
  ·exact hh x (B30 hx)
 unfold AWn
 split
 ·intro t ht
  rw [B3l] at ht
  subst ht
  unfold AY3
  rcases hx : f.Slots.toList[i.A.toNat]? with _ | x
  ·exact Bai _
  ·have := (Bbn _ _).2 hf.all
   rw [List.all_eq_true] at this
   exact this x (B30 hx)
 ·split
  ·intro t ht
   have : t = (had[0]?).getD 0 := by simpa using ht
   rw [this]; exact hget 0
  ·split
   ·intro t ht
    have : t = (had[1]?).getD 0 ∨ t = (had[0]?).getD 0 := by simpa using ht
    rcases this with q | q <;> (rw [q]; exact hget _)
   ·rename_i n4 n7 n8
    unfold AU5
    unfold AOg at h0
    split
    any_goals (intro t ht; rw [B3l] at ht; subst ht; first | exact tl 1 (by omega) | exact tl 2 (by omega) | exact tl 3 (by omega) | exact tl 4 (by omega))
    any_goals (rename_i q; omega)
    ·rename_i q
     rw [Mo q] at h0
     intro t ht
     unfold AWo at ht
     by_cases ha : 0 ≤ i.A ∧ i.A < e.Akq.length
     ·have hm := (Biy h (Bj8 ha.1 ha.2)).2.2
      split at ht
      ·cases ht
      ·rename_i q2
       rw [B3l] at ht
       subst ht
       exact (Blj h32 (hm.resolve_left q2)).2.2.2
     ·rw [Hw ha] at h0; cases h0
    ·rename_i q
     rw [Hw (by omega), Mo (by omega)] at h0
     intro t ht
     rw [B3l] at ht
     subst ht
     by_cases ha : 0 ≤ i.A ∧ i.A < e.Classes.length
     ·exact (Bky h32 ha.1 ha.2).2.2
     ·rw [Hw ha] at h0; cases h0
    ·rename_i q
     rw [Hw (by omega), Mo (by omega)] at h0
     intro t ht
     rw [B3l] at ht
     subst ht
     by_cases ha : 0 ≤ i.A ∧ i.A < e.Classes.length
     ·exact (Bky h32 ha.1 ha.2).2.2
     ·rw [Hw ha] at h0; cases h0
    ·rename_i q
     rw [Hw (by omega), Hw (by omega), Mo (by omega)] at h0
     intro t ht
     unfold AWo at ht
     by_cases ha : 0 ≤ i.A ∧ i.A < e.Classes.length ∧ 0 ≤ i.B ∧ i.B < (AJq e.Classes i.A).length
     ·obtain ⟨x, hx1, hx2, hx3⟩ := Blh (e := e) ha.2.2.1 ha.2.2.2
      split at ht
      ·cases ht
      ·rw [B3l] at ht
       subst ht
       rw [hx2]
       exact (Blj h32 (Bmg h.good ha.2.1 hx3)).2.2.2
     ·rw [Hw ha] at h0; cases h0
    ·intro t ht; cases ht
theorem Bdl {e : Adb} (h : AOl e) {f : Aas} (hf : Fok e.Classes f) (i : Ads) (ho : (AR1 e f i).2 = 0) : Fok e.Classes (AR1 e f i).1 ∧ i.Op.toNat < 34 ∧ AOg e i = 0 := by
 have hb := hf.fb
 unfold AR1 at *
 by_cases h34 : i.Op.toNat < 34
 ·rw [Hw (show ¬ ¬ i.Op.toNat < 34 from fun q => q h34)] at ho ⊢
  by_cases hloc : (i.Op.toNat = 4 ∨ i.Op.toNat = 5) ∧ ¬ (0 ≤ i.A ∧ i.A < f.Locals)
  ·rw [Mo hloc] at ho; cases ho
  ·rw [Hw hloc] at ho ⊢
   by_cases h0 : AOg e i = 0
   ·rw [Hw (show ¬ AOg e i ≠ 0 from fun q => q h0)] at ho ⊢
    by_cases hH : f.Height < (Ase e i).length
    ·rw [Mo hH] at ho; cases ho
    ·rw [Hw hH] at ho ⊢
     by_cases hk : okV e i (AL6 f (Ase e i).length) = false
     ·rw [Mo hk] at ho; cases ho
     ·rw [Hw hk] at ho ⊢
      by_cases hl : i.Op.toNat = 4 ∧ (AY3 f i).toNat = 0
      ·rw [Mo hl] at ho; cases ho
      ·rw [Hw hl] at ho ⊢
       refine ⟨?_, h34, h0⟩
       have hlen := Bdf hb (n := (Ase e i).length) (by omega)
       have hall : ∀ t ∈ AL6 f (Ase e i).length, tv e.Classes t = true := Bwu hf.all
       unfold Bj4 at *
       by_cases h22 : i.Op.toNat = 22 ∧ (APq f (AL6 f (Ase e i).length).length).Height > 0
       ·rw [Mo h22] at ho; cases ho
       ·rw [Hw h22] at ho ⊢
        have hp := Bi7 hb (AL6 f (Ase e i).length).length (by omega)
        have hpa := Bw7 hf.all (AL6 f (Ase e i).length).length
        have hpL : (APq f (AL6 f (Ase e i).length).length).Locals = f.Locals := by unfold APq AQc; dsimp only
        by_cases h5 : i.Op.toNat = 5
        ·rw [Mo h5] at ho ⊢
         have hA : 0 ≤ i.A ∧ i.A < f.Locals := Classical.not_not.1 fun q => hloc ⟨Or.inr h5, q⟩
         refine Bkc _ _ (Bm8 hp _ hA.1 (by omega)) (Byf hpa ?_ hA.1) (Bps h hf i h0 hall) ho
         rcases hx : (AL6 f (Ase e i).length)[0]? with _ | x
         ·exact Bai _
         ·exact hall x (B30 hx)
        ·rw [Hw h5] at ho ⊢
         exact Bkc _ _ hp hpa (Bps h hf i h0 hall) ho
   ·rw [Mo (show AOg e i ≠ 0 from h0)] at ho
    exact absurd ho h0
 ·rw [Mo h34] at ho; cases ho
end Go.Proofs.YtfcpkcehecmcpaaGreat
namespace Go.Proofs.YtfcpkcehecmcpaaGreat
open Go Go.RowKit Go.Pv Go.Proofs.Tryz
theorem Bcv : ∀ {l m : List Int}, l.Pairwise (· < ·) → m.Pairwise (· < ·) → (∀ a, a ∈ l ↔ a ∈ m) → l = m
 | [], [], _, _, _ => rfl
 | [], b :: m, _, _, h => absurd ((h b).2 (by simp)) (by simp)
 | a :: l, [], _, _, h => absurd ((h a).1 (by simp)) (by simp)
 | a :: l, b :: m, h1, h2, h => by
  rw [B33] at h1 h2
  have hab : a = b := by
   have h3 := (h a).1 (by simp)
   have h4 := (h b).2 (by simp)
   rw [B3m] at h3 h4
   rcases h3 with h3 | h3
   ·exact h3
   ·rcases h4 with h4 | h4
    ·exact h4.symm
    ·have := h2.1 a h3
     have := h1.1 b h4
     omega
  subst hab
  congr 1
  refine Bcv h1.2 h2.2 fun x => ?_
  constructor
  ·intro hx
   have := (h x).1 (List.mem_cons_of_mem _ hx)
   rw [B3m] at this
   rcases this with q | q
   ·have := h1.1 x hx; omega
   ·exact q
  ·intro hx
   have := (h x).2 (List.mem_cons_of_mem _ hx)
   rw [B3m] at this
   rcases this with q | q
   ·have := h2.1 x hx; omega
   ·exact q
theorem Bnm (l : List Int) (a : Int) : a ∈ AQx l ↔ a ∈ l := by unfold AQx; exact (List.mergeSort_perm _ _).mem_iff
theorem Boc (l : List Int) : (AQx l).length = l.length := by unfold AQx; exact (List.mergeSort_perm _ _).length_eq
theorem Bhr (l : List Int) : (AQx l).Pairwise (· ≤ ·) := by
 unfold AQx
 have := List.pairwise_mergeSort (le := fun x y : Int => decide (x ≤ y)) (fun a b c h1 h2 => by simp at *; omega) (fun a b => by simp; omega) l
 simpa using this
theorem Bd1 : ∀ {l : List Int}, l.Pairwise (· ≤ ·) → l.Nodup → l.Pairwise (· < ·)
 | [], _, _ => List.Pairwise.nil
 | a :: l, h, hn => by
  rw [B33] at h ⊢
  rw [List.nodup_cons] at hn
  refine ⟨fun b hb => ?_, Bd1 h.2 hn.2⟩
  have h1 := h.1 b hb
  have h2 : a ≠ b := by rintro rfl; exact hn.1 hb
  omega
theorem Brh {l : List Int} (h : l.Nodup) : (AQx l).Pairwise (· < ·) :=
 Bd1 (Bhr l) (by unfold AQx; exact (List.mergeSort_perm _ _).nodup_iff.2 h)
theorem Bhn (l : List Int) (hs : l.Pairwise (· ≤ ·)) : ∀ m, m ≤ l.length → (Lib.compactUpTo l.toArray m).Pairwise (· < ·) ∧ ∀ a, a ∈ Lib.compactUpTo l.toArray m ↔ a ∈ l.take m
 | 0, _ => by simp [Lib.compactUpTo]
 | m + 1, hm => by
  obtain ⟨h1, h2⟩ := Bhn l hs m (by omega)
  have hm' : m < l.length := by omega
  have hget : l.toArray[m]! = l[m] := by simp [getElem!_pos, hm']
  rw [Lib.compactUpTo_succ, hget]
  have hle : ∀ i j (hi : i < l.length) (hj : j < l.length), i ≤ j → l[i] ≤ l[j] := by
   intro i j hi hj hij
   rcases Nat.lt_or_ge i j with q | q
   ·exact List.pairwise_iff_getElem.1 hs i j hi hj q
   ·have : i = j := by omega
    subst this
    exact Int.le_refl _
  have hmem : ∀ x, x ∈ l.take (m + 1) ↔ x ∈ l.take m ∨ x = l[m] := by
   intro x
   rw [List.take_succ_eq_append_getElem hm', B3k, B3l]
  by_cases hk : Lib.keeps l.toArray m = true
  ·rw [Mo hk]
   refine ⟨?_, fun a => ?_⟩
   ·rw [B3z]
    refine ⟨h1, List.pairwise_singleton _ _, fun a ha b hb => ?_⟩
    rw [B3l] at hb
    subst hb
    have ha' := (h2 a).1 ha
    obtain ⟨i, hi, rfl⟩ := List.mem_iff_getElem.1 ha'
    rw [B3j] at hi
    rw [List.getElem_take]
    unfold Lib.keeps at hk
    rw [LX] at hk
    have hm0 : m ≠ 0 := by omega
    have hne := hk.resolve_left hm0
    have hget1 : l.toArray[m - 1]! = l[m - 1] := by simp [getElem!_pos, show m - 1 < l.length by omega]
    rw [hget, hget1] at hne
    have q1 := hle i (m - 1) (by omega) (by omega) (by omega)
    have q2 := hle (m - 1) m (by omega) hm' (by omega)
    omega
   ·rw [B3k, B3l, h2, hmem]
  ·rw [Hw hk]
   rw [B3w]
   refine ⟨h1, fun a => ?_⟩
   rw [h2, hmem]
   constructor
   ·exact Or.inl
   ·rintro (q | q)
    ·exact q
    ·unfold Lib.keeps at hk
     rw [LX, not_or, Classical.not_not] at hk
     obtain ⟨hm0, heq⟩ := hk
     have hget1 : l.toArray[m - 1]! = l[m - 1] := by simp [getElem!_pos, show m - 1 < l.length by omega]
     rw [hget, hget1] at heq
     rw [q, heq]
     rw [List.mem_iff_getElem]
     exact ⟨m - 1, by rw [B3j]; omega, by rw [List.getElem_take]⟩
theorem Be1 (l : List Int) (h : l.length ≤ 1099511627776) : ∃ r, (Bgg l).bind AZ2 = some r ∧ r.Pairwise (· < ·) ∧ ∀ a, a ∈ r ↔ a ∈ l := by
 refine ⟨Lib.compact (AQx l), ?_, ?_⟩
 ·unfold Bgg
  rw [Mo (by omega), B3c]
  unfold AZ2
  rw [Mo (by rw [Boc]; omega)]
 ·obtain ⟨h1, h2⟩ := Bhn (AQx l) (Bhr l) (AQx l).length (Nat.le_refl _)
  refine ⟨h1, fun a => ?_⟩
  have := h2 a
  rw [B34, Bnm] at this
  exact this
theorem AZ6 {κ ν : Type} [DecidableEq κ] (k k' : κ) (v : ν) : ∀ l : List (κ × ν), A92 (AQp l k v) k' = if k' = k then some v else A92 l k'
 | [] => by
  unfold AQp A92
  split <;> simp_all [A92]
 | p :: r => by
  have ih := AZ6 k k' v r
  unfold AQp
  by_cases h : k = p.1
  ·rw [Mo h]
   unfold A92
   dsimp only
   rw [← h]
   by_cases h' : k' = k
   ·rw [Mo h', Mo h']
   ·rw [Hw h', Hw h', Hw h']
  ·rw [Hw h]
   unfold A92
   rw [ih]
   by_cases h' : k' = p.1
   ·rw [Mo h', Hw (by intro q; exact h (q ▸ h')), Mo h']
   ·rw [Hw h', Hw h']
theorem AXl {κ ν : Type} [DecidableEq κ] (k : κ) : ∀ l : List (κ × ν), (A92 l k).isSome = true ↔ k ∈ l.map Prod.fst
 | [] => by simp [A92]
 | p :: r => by
  have ih := AXl k r
  unfold A92
  rw [List.map_cons, B3m]
  by_cases h : k = p.1
  ·rw [Mo h]; simp [h]
  ·rw [Hw h, ih]; simp [h]
theorem Bny {κ ν : Type} [DecidableEq κ] (k : κ) : ∀ l : List (κ × ν), ((AUg l k).map Prod.fst) = (l.map Prod.fst).erase k
 | [] => rfl
 | p :: r => by
  have ih := Bny k r
  unfold AUg
  by_cases h : k = p.1
  ·rw [Mo h, List.map_cons, ← h, List.erase_cons_head]
  ·rw [Hw h, List.map_cons, List.map_cons, List.erase_cons_tail (by simp; exact fun q => h q.symm), ih]
theorem Btc {κ ν : Type} [DecidableEq κ] {l : List (κ × ν)} (h : (l.map Prod.fst).Nodup) (k : κ) : ((AUg l k).map Prod.fst).Nodup := by rw [Bny]; exact h.erase k
theorem Bn2 {κ ν : Type} [DecidableEq κ] (k k' : κ) : ∀ l : List (κ × ν), (l.map Prod.fst).Nodup → A92 (AUg l k) k' = if k' = k then none else A92 l k'
 | [], _ => by unfold AUg A92; split <;> rfl
 | p :: r, h => by
  rw [List.map_cons, List.nodup_cons] at h
  have ih := Bn2 k k' r h.2
  unfold AUg
  by_cases hk : k = p.1
  ·rw [Mo hk]
   by_cases h' : k' = k
   ·rw [Mo h']
    rcases hx : A92 r k' with _ | v
    ·rfl
    ·have := (AXl k' r).1 (by rw [hx]; rfl)
     rw [h', hk] at this
     exact absurd this h.1
   ·rw [Hw h']
    conv => rhs; unfold A92
    rw [Hw (by rw [← hk]; exact h')]
  ·rw [Hw hk]
   unfold A92
   rw [ih]
   by_cases h' : k' = p.1
   ·rw [Mo h', Hw (by rintro rfl; exact hk h'), Mo h']
   ·rw [Hw h', Hw h']
theorem Bt4 (l : List (Int × Unit)) (n : Int) : ∃ r, Bcg ARk l n = some (.inl r) ∧ (r = n ∨ r ∈ l.map Prod.fst) ∧ r ≤ n ∧ ∀ k ∈ l.map Prod.fst, r ≤ k := by
 have key : ∀ (l : List (Int × Unit)) (n : Int), ∃ r, AZg ARk l n = some (.inl r) ∧ (r = n ∨ r ∈ l.map Prod.fst) ∧ r ≤ n ∧ ∀ k ∈ l.map Prod.fst, r ≤ k := by
  intro l
  induction l with
  | nil => intro n; exact ⟨n, rfl, Or.inl rfl, Int.le_refl _, fun k hk => by cases hk⟩
  | cons p l ih =>
   intro n
   unfold AZg ARk
   dsimp only
   obtain ⟨r, h1, h2, h3, h4⟩ := ih (if p.1 < n then p.1 else n)
   refine ⟨r, h1, ?_, ?_, ?_⟩
   ·rcases h2 with q | q
    ·rw [List.map_cons, B3m]
     by_cases hp : p.1 < n
     ·rw [Mo hp] at q; exact Or.inr (Or.inl q)
     ·rw [Hw hp] at q; exact Or.inl q
    ·exact Or.inr (by rw [List.map_cons, B3m]; exact Or.inr q)
   ·by_cases hp : p.1 < n
    ·rw [Mo hp] at h3; omega
    ·rw [Hw hp] at h3; omega
   ·intro k hk
    rw [List.map_cons, B3m] at hk
    rcases hk with q | q
    ·subst q
     by_cases hp : p.1 < n
     ·rw [Mo hp] at h3; omega
     ·rw [Hw hp] at h3; omega
    ·exact h4 k q
 obtain ⟨r, h1, h2, h3, h4⟩ := key l n
 refine ⟨r, Bft.2 fun l' hp => ?_, h2, h3, h4⟩
 obtain ⟨r', g1, g2, g3, g4⟩ := key l' n
 have hm : ∀ k, k ∈ l'.map Prod.fst ↔ k ∈ l.map Prod.fst := fun k => (hp.map _).mem_iff
 have : r' = r := by
  have a1 : r ≤ r' := by
   rcases g2 with q | q
   ·omega
   ·exact h4 _ ((hm _).1 q)
  have a2 : r' ≤ r := by
   rcases h2 with q | q
   ·omega
   ·exact g4 _ ((hm _).2 q)
  omega
 rw [g1, this]
end Go.Proofs.YtfcpkcehecmcpaaGreat
namespace Go.Proofs.YtfcpkcehecmcpaaGreat
open Go Go.RowKit Go.Pv Go.Proofs.Tryz
def upd {α : Type} (f : Nat → α) (a : Nat) (x : α) : Nat → α := fun b => if b = a then x else f b
theorem AP9 {α : Type} (f : Nat → α) (a : Nat) (x : α) : upd f a x a = x := Mo rfl
theorem upd_ne {α : Type} (f : Nat → α) {a b : Nat} (x : α) (h : b ≠ a) : upd f a x b = f b := Hw h
structure St where
 fr : Nat → Option Aas
 new : Nat → Bool
 tk : Nat → Nat
def ATz (op : UInt8) : Bool := decide (op.toNat = 19) || decide (op.toNat = 20)
def AVi (op : UInt8) : Bool := decide (op.toNat = 19) || (decide (op.toNat = 22) || decide (op.toNat = 32))
def Avy (code : List UInt8) (a : Nat) : Ads × Int := match code[a]? with
 | none => (⟨0, 0, 0, 0⟩, 51)
 | some op => dec code a op
def ATd (i : Ads) : List Nat :=
 (if ATz i.Op = true ∧ (AVi i.Op = true ∨ i.A < i.At + siz i.Op) then [i.A.toNat] else []) ++ (if AVi i.Op = true then [] else [(i.At + siz i.Op).toNat]) ++ (if ATz i.Op = true ∧ AVi i.Op = false ∧ i.A > i.At + siz i.Op then [i.A.toNat] else [])
def onV (i : Ads) (n : Nat) : List Nat × Int :=
 if ATz i.Op = true ∧ i.A ≥ n then ([], 50) else if AVi i.Op = false ∧ i.At + siz i.Op = n then ([], 51) else (ATd i, 0)
open Classical in
noncomputable def AQy (l : List Abi) (s : St) (a : Nat) (f : Aas) : St × Int := match s.fr a with
 | none => (⟨upd s.fr a (some f), upd s.new a true, s.tk⟩, 0)
 | some g => if (APw l g f).2 ≠ 0 then (s, (APw l g f).2) else if (APw l g f).1 = g then (s, 0) else (⟨upd s.fr a (some (APw l g f).1), upd s.new a true, s.tk⟩, 0)
noncomputable def AP7 (l : List Abi) (f : Aas) : St → List Nat → Int × Int × St
 | s, [] => (0, 0, s)
 | s, a :: r => if (AQy l s a f).2 ≠ 0 then (a, (AQy l s a f).2, (AQy l s a f).1) else AP7 l f (AQy l s a f).1 r
def AVd (s : St) (n a size : Nat) : Bool := (List.range (n + 1)).any fun x => decide (0 < s.tk x ∧ x ≠ a ∧ a < x + s.tk x ∧ x < a + size)
def off (s : St) (a : Nat) : St := ⟨s.fr, upd s.new a false, s.tk⟩
def lay (s : St) (a k : Nat) : St := ⟨s.fr, s.new, upd s.tk a k⟩
noncomputable def AO8 (e : Adb) (code : List UInt8) (s : St) (a : Nat) : Int × Int × St :=
 if (Avy code a).2 ≠ 0 then (a, (Avy code a).2, off s a)
 else if AVd (off s a) code.length a (siz (Avy code a).1.Op) = true then (a, 80, off s a)
 else if (AR1 e ((s.fr a).getD zf) (Avy code a).1).2 ≠ 0 then (a, (AR1 e ((s.fr a).getD zf) (Avy code a).1).2, lay (off s a) a (siz (Avy code a).1.Op))
 else if (onV (Avy code a).1 code.length).2 ≠ 0 then (a, (onV (Avy code a).1 code.length).2, lay (off s a) a (siz (Avy code a).1.Op))
 else AP7 e.Classes (AR1 e ((s.fr a).getD zf) (Avy code a).1).1 (lay (off s a) a (siz (Avy code a).1.Op)) (onV (Avy code a).1 code.length).1
def AX8 (s : St) (n : Nat) : Option Nat := (List.range (n + 1)).find? s.new
noncomputable def Bkq (e : Adb) (code : List UInt8) : Nat → St → Option (Int × Int × St)
 | 0, _ => none
 | k + 1, s => match AX8 s code.length with
  | none => some (0, 0, s)
  | some a => if (AO8 e code s a).2.1 ≠ 0 then some (AO8 e code s a) else Bkq e code k (AO8 e code s a).2.2
structure FLe (l : List Abi) (f g : Aas) : Prop where
 loc : f.Locals = g.Locals
 hgt : f.Height = g.Height
 le : ∀ j (h : j < 24), Le l f.Slots[j] g.Slots[j]
theorem FLe.refl {l : List Abi} {f : Aas} (h : Fok l f) : FLe l f f := ⟨rfl, rfl, fun j hj => Le.refl (h.all j hj)⟩
theorem Le.trans {l : List Abi} (G : Good l) {a b c : UInt8} (h : Le l a b) (h' : Le l b c) : Le l a c := by
 have ha := h.1
 have hb := h.2.1
 have hc := h'.2.1
 rw [le_iff hb hc] at h'
 rw [le_iff ha hb] at h
 rw [le_iff ha hc]
 rcases h with rfl | h | h | h | h
 ·exact h'
 ·rcases h' with rfl | h' | h' | h' | h'
  ·exact Or.inr (Or.inl h)
  ·exact Or.inr (Or.inl h')
  ·omega
  ·exact absurd h'.1 (by unfold rf; simp [h])
  ·omega
 ·rcases h' with rfl | h' | h' | h' | h'
  ·exact Or.inr (Or.inr (Or.inl h))
  ·exact Or.inr (Or.inl h')
  ·exact Or.inr (Or.inr (Or.inl ⟨h.1, h'.2⟩))
  ·exact Or.inr (Or.inr (Or.inl ⟨h.1, by unfold rf; simp [h'.2]⟩))
  ·exact Or.inr (Or.inr (Or.inl ⟨h.1, by rw [AXz]; omega⟩))
 ·rcases h' with rfl | h' | h' | h' | h'
  ·exact Or.inr (Or.inr (Or.inr (Or.inl h)))
  ·exact Or.inr (Or.inl h')
  ·omega
  ·exact Or.inr (Or.inr (Or.inr (Or.inl ⟨h.1, h'.2⟩)))
  ·omega
 ·rcases h' with rfl | h' | h' | h' | h'
  ·exact Or.inr (Or.inr (Or.inr (Or.inr h)))
  ·exact Or.inr (Or.inl h')
  ·omega
  ·exact Or.inr (Or.inr (Or.inr (Or.inl ⟨by rw [AXz]; omega, h'.2⟩)))
  ·refine Or.inr (Or.inr (Or.inr (Or.inr ⟨h.1, h'.2.1, ?_⟩)))
   have hx := (AZh ha h.1).2
   exact Bpz G.right (a.toNat - 16 + 1) ((a.toNat - 16 : Nat) : Int) (by omega) (by omega) (by omega) _ h.2.2 _ h'.2.2
theorem FLe.trans {l : List Abi} (G : Good l) {f g h : Aas} (h1 : FLe l f g) (h2 : FLe l g h) : FLe l f h := ⟨h1.loc.trans h2.loc, h1.hgt.trans h2.hgt, fun j hj => (h1.le j hj).trans G (h2.le j hj)⟩
theorem Bs2 {l : List Abi} (G : Good l) {f g : Aas} (hf : Fok l f) (hg : Fok l g) (h : (APw l f g).2 = 0) : Fok l (APw l f g).1 ∧ FLe l f (APw l f g).1 ∧ FLe l g (APw l f g).1 := by
 unfold APw at *
 by_cases h1 : f.Locals = g.Locals ∧ f.Height = g.Height
 ·rw [Mo h1]
  have hl := fun j (hj : j < 24) => Bno l G (hf.all j hj) (hg.all j hj)
  have key : ∀ j (hj : j < 24), Le l f.Slots[j] (Bfb l f g (f.Locals + f.Height).toNat)[j] ∧ Le l g.Slots[j] (Bfb l f g (f.Locals + f.Height).toNat)[j] := by
   intro j hj
   rw [AY6 _ _ _ _ _ hj]
   split
   ·exact ⟨(hl j hj).left, (hl j hj).right⟩
   ·rename_i q
    have e1 := hf.bare j hj (by omega)
    have e2 := hg.bare j hj (by rw [← h1.1, ← h1.2]; omega)
    rw [e1, e2]
    exact ⟨Le.refl (Bai l), Le.refl (Bai l)⟩
  refine ⟨⟨hf.shp, fun j hj hle => ?_, fun j hj => (key j hj).1.2.1⟩, ⟨rfl, rfl, fun j hj => (key j hj).1⟩, ⟨h1.1.symm, h1.2.symm, fun j hj => (key j hj).2⟩⟩
  dsimp only at *
  rw [AY6 _ _ _ _ _ hj, Hw (by omega)]
  exact hf.bare j hj hle
 ·rw [Hw h1] at h; cases h
def rk (l : List Abi) (t : UInt8) : Nat := ((List.range 256).filter fun u => decide (Le l t (UInt8.ofNat u))).length
theorem filter_le {α : Type} {p q : α → Bool} : ∀ {L : List α}, (∀ x ∈ L, p x = true → q x = true) → (L.filter p).length ≤ (L.filter q).length
 | [], _ => by simp
 | b :: L, h => by
  have ih := filter_le (p := p) (q := q) (L := L) (fun x hx => h x (by simp [hx]))
  have hb := h b (by simp)
  rcases hp : p b with _ | _
  ·rcases hq : q b with _ | _
   ·simp only [B3u, hp, hq, if_true, Bool.false_eq_true, if_false, B3x]; omega
   ·simp only [B3u, hp, hq, if_true, Bool.false_eq_true, if_false, B3x]; omega
  ·simp only [B3u, hp, hb hp, if_true, Bool.false_eq_true, if_false, B3x]; omega
theorem filter_lt {α : Type} {p q : α → Bool} : ∀ {L : List α}, (∀ x ∈ L, p x = true → q x = true) → (∃ x ∈ L, q x = true ∧ p x = false) → (L.filter p).length < (L.filter q).length
 | [], _, h => by obtain ⟨x, hx, _⟩ := h; cases hx
 | a :: L, h, hx => by
  have hle := filter_le (p := p) (q := q) (L := L) (fun x hx => h x (by simp [hx]))
  obtain ⟨x, hx, hq, hp⟩ := hx
  rw [B3m] at hx
  rcases hx with rfl | hx
  ·simp only [B3u, hp, hq, if_true, Bool.false_eq_true, if_false, B3x]; omega
  ·have ih := filter_lt (p := p) (q := q) (L := L) (fun x hx => h x (by simp [hx])) ⟨x, hx, hq, hp⟩
   have ha := h a (by simp)
   rcases hpa : p a with _ | _
   ·rcases hqa : q a with _ | _
    ·simp only [B3u, hpa, hqa, if_true, Bool.false_eq_true, if_false, B3x]; omega
    ·simp only [B3u, hpa, hqa, if_true, Bool.false_eq_true, if_false, B3x]; omega
   ·simp only [B3u, hpa, ha hpa, if_true, Bool.false_eq_true, if_false, B3x]; omega
theorem B1j (l : List Abi) (t : UInt8) : rk l t ≤ 256 := by
 unfold rk
 refine Nat.le_trans (B31 _ _) ?_
 rw [B32]
 exact Nat.le_refl _
theorem Bzn {l : List Abi} (G : Good l) {a b : UInt8} (h : Le l a b) : rk l b ≤ rk l a := by
 unfold rk
 refine filter_le fun x _ hx => ?_
 rw [LX] at *
 exact h.trans G hx
theorem B1p {l : List Abi} (G : Good l) {a b : UInt8} (h : Le l a b) (hne : a ≠ b) : rk l b < rk l a := by
 unfold rk
 refine filter_lt (fun x _ hx => ?_) ⟨a.toNat, ?_, ?_, ?_⟩
 ·rw [LX] at *
  exact h.trans G hx
 ·rw [B3o]; exact a.toNat_lt
 ·rw [LX, UInt8.ofNat_toNat]
  exact Le.refl h.1
 ·rw [decide_eq_false_iff_not, UInt8.ofNat_toNat]
  exact fun q => hne (h.antisymm G q)
def Bci (n : Nat) (F : Nat → Nat) : Nat := match n with
 | 0 => 0
 | n + 1 => Bci n F + F n
theorem Bnd {F G : Nat → Nat} : ∀ {n : Nat}, (∀ i, i < n → F i ≤ G i) → Bci n F ≤ Bci n G
 | 0, _ => Nat.le_refl _
 | n + 1, h => by
  have := Bnd (F := F) (G := G) (n := n) fun i hi => h i (by omega)
  have := h n (by omega)
  simp only [Bci]
  omega
theorem Bmq {F G : Nat → Nat} : ∀ {n : Nat}, (∀ i, i < n → F i ≤ G i) → (∃ i, i < n ∧ F i < G i) → Bci n F < Bci n G
 | 0, _, h => by obtain ⟨i, hi, _⟩ := h; omega
 | n + 1, h, hx => by
  obtain ⟨i, hi, hl⟩ := hx
  simp only [Bci]
  by_cases hin : i = n
  ·subst hin
   have := Bnd (F := F) (G := G) (n := i) fun j hj => h j (by omega)
   omega
  ·have := Bmq (F := F) (G := G) (n := n) (fun j hj => h j (by omega)) ⟨i, by omega, hl⟩
   have := h n (by omega)
   omega
theorem Bli {F : Nat → Nat} {k : Nat} : ∀ {n : Nat}, (∀ i, i < n → F i ≤ k) → Bci n F ≤ n * k
 | 0, _ => by simp [Bci]
 | n + 1, h => by
  have := Bli (F := F) (k := k) (n := n) fun i hi => h i (by omega)
  have := h n (by omega)
  simp only [Bci]
  rw [Nat.succ_mul]
  omega
def rkF (l : List Abi) (f : Aas) : Nat := Bci 24 fun j => rk l ((f.Slots.toList[j]?).getD 0)
theorem Bgl (f : Aas) {j : Nat} (h : j < 24) : (f.Slots.toList[j]?).getD 0 = f.Slots[j] := by
 rw [B3e (by simpa using h), B3d, Vector.getElem_toList]
theorem B03 (l : List Abi) (f : Aas) : rkF l f ≤ 6144 := Bli (k := 256) (n := 24) fun j _ => B1j l _
theorem B0o {l : List Abi} (G : Good l) {f g : Aas} (h : FLe l f g) (hne : g ≠ f) : rkF l g < rkF l f := by
 refine Bmq (fun j hj => ?_) ?_
 ·rw [Bgl f hj, Bgl g hj]
  exact Bzn G (h.le j hj)
 ·have hs : ¬ ∀ j (hj : j < 24), f.Slots[j] = g.Slots[j] := by
   intro q
   apply hne
   obtain ⟨L, H, S⟩ := f
   obtain ⟨L', H', S'⟩ := g
   have e1 := h.loc
   have e2 := h.hgt
   have e3 : S = S' := Vector.ext fun j hj => q j hj
   dsimp only at e1 e2
   rw [e1, e2, e3]
  have hs : ∃ j, ∃ hj : j < 24, f.Slots[j] ≠ g.Slots[j] := by
   refine Classical.byContradiction fun q => hs fun j hj => ?_
   exact Classical.byContradiction fun q2 => q ⟨j, hj, q2⟩
  obtain ⟨j, hj, hne'⟩ := hs
  refine ⟨j, hj, ?_⟩
  rw [Bgl f hj, Bgl g hj]
  exact B1p G (h.le j hj) hne'
def Bti : Bool → Nat
 | true => 1
 | false => 0
def frN (l : List Abi) : Option Aas → Nat
 | none => 6145
 | some f => rkF l f
def nu (l : List Abi) (s : St) (a : Nat) : Nat := 2 * frN l (s.fr a) + Bti (s.new a)
def mu (l : List Abi) (n : Nat) (s : St) : Nat := Bci (n + 1) (nu l s)
end Go.Proofs.YtfcpkcehecmcpaaGreat
namespace Go.Proofs.YtfcpkcehecmcpaaGreat
open Go Go.RowKit Go.Pv Go.Proofs.Tryz
theorem AWv {code : List UInt8} {a : Nat} (h : (Avy code a).2 = 0) : a < code.length ∧ (Avy code a).1.At = a ∧ 0 < siz (Avy code a).1.Op ∧ a + siz (Avy code a).1.Op ≤ code.length ∧ code[a]? = some (Avy code a).1.Op := by
 unfold Avy at *
 rcases hc : code[a]? with _ | op
 ·rw [hc] at h; cases h
 ·rw [hc] at h
  have ha : a < code.length := (List.getElem?_eq_some_iff.1 hc).1
  dsimp only at *
  unfold dec at *
  by_cases h0 : siz op = 0
  ·rw [Mo h0] at h; cases h
  ·rw [Hw h0] at h ⊢
   by_cases h1 : code.length < a + siz op
   ·rw [Mo h1] at h; cases h
   ·rw [Hw h1] at h ⊢
    dsimp only at *
    split at h
    ·cases h
    ·rename_i q
     rw [Hw q]
     dsimp only
     exact ⟨ha, rfl, by omega, by omega, rfl⟩
theorem Bls {i : Ads} {n a : Nat} (hA : i.At = a) (hs : a + siz i.Op ≤ n) (hn : 0 < n) (h : (onV i n).2 = 0) : (onV i n).1 = ATd i ∧ ∀ t ∈ ATd i, t < n := by
 unfold onV at *
 by_cases h1 : ATz i.Op = true ∧ i.A ≥ n
 ·rw [Mo h1] at h; cases h
 ·rw [Hw h1] at h ⊢
  by_cases h2 : AVi i.Op = false ∧ i.At + siz i.Op = n
  ·rw [Mo h2] at h; cases h
  ·rw [Hw h2]
   refine ⟨rfl, fun t ht => ?_⟩
   unfold ATd at ht
   rw [B3k, B3k] at ht
   rcases ht with (ht | ht) | ht
   ·split at ht
    ·rename_i q
     rw [B3l] at ht
     subst ht
     have : ¬ i.A ≥ n := fun q2 => h1 ⟨q.1, q2⟩
     omega
    ·cases ht
   ·split at ht
    ·cases ht
    ·rename_i q
     rw [B3l] at ht
     subst ht
     have : ¬ i.At + siz i.Op = n := fun q2 => h2 ⟨by simpa using q, q2⟩
     omega
   ·split at ht
    ·rename_i q
     rw [B3l] at ht
     subst ht
     have : ¬ i.A ≥ n := fun q2 => h1 ⟨q.1, q2⟩
     omega
    ·cases ht
structure B0k (e : Adb) (code : List UInt8) (s : St) (a : Nat) (f : Aas) : Prop where
 ins : (Avy code a).2 = 0
 app : (AR1 e f (Avy code a).1).2 = 0
 on : (onV (Avy code a).1 code.length).2 = 0
 tk : s.tk a = siz (Avy code a).1.Op
 nx : ∀ t ∈ ATd (Avy code a).1, ∃ h, s.fr t = some h ∧ FLe e.Classes (AR1 e f (Avy code a).1).1 h
structure Ba1 (e : Adb) (code : List UInt8) (st0 : Aas) (s : St) : Prop where
 fok : ∀ a f, s.fr a = some f → Fok e.Classes f
 dom : ∀ a, (s.fr a).isSome = true → a < code.length ∨ a = 0
 new : ∀ a, s.new a = true → (s.fr a).isSome = true
 tk : ∀ x, 0 < s.tk x → (s.fr x).isSome = true ∧ (Avy code x).2 = 0 ∧ s.tk x = siz (Avy code x).1.Op
 dis : ∀ x y, 0 < s.tk x → 0 < s.tk y → x < y → x + s.tk x ≤ y
 start : ∃ f, s.fr 0 = some f ∧ FLe e.Classes st0 f
structure Inv (e : Adb) (code : List UInt8) (st0 : Aas) (s : St) : Prop extends Ba1 e code st0 s where
 clo : ∀ a f, s.fr a = some f → s.new a = false → B0k e code s a f
structure Ext (l : List Abi) (s s' : St) : Prop where
 fr : ∀ b f, s.fr b = some f → ∃ f', s'.fr b = some f' ∧ FLe l f f'
 tk : s'.tk = s.tk
 same : ∀ b, s'.new b = false → s'.fr b = s.fr b ∧ s.new b = false
theorem Ext.trans {l : List Abi} (G : Good l) {s t u : St} (h : Ext l s t) (h' : Ext l t u) : Ext l s u := by
 refine ⟨fun b f hf => ?_, h'.tk.trans h.tk, fun b hb => ?_⟩
 ·obtain ⟨f1, h1, h2⟩ := h.fr b f hf
  obtain ⟨f2, h3, h4⟩ := h'.fr b f1 h1
  exact ⟨f2, h3, h2.trans G h4⟩
 ·obtain ⟨h1, h2⟩ := h'.same b hb
  obtain ⟨h3, h4⟩ := h.same b h2
  exact ⟨h1.trans h3, h4⟩
theorem Ba4 {α : Type} {o : Option α} (h : o.isSome = true) : ∃ x, o = some x := by
 rcases o with _ | x
 ·cases h
 ·exact ⟨x, rfl⟩
theorem Bm9 {e : Adb} (h : AOl e) {code : List UInt8} {st0 : Aas} {s : St} (I : Ba1 e code st0 s) {t : Nat} (ht : t < code.length) {g : Aas} (hg : Fok e.Classes g) (h0 : (AQy e.Classes s t g).2 = 0) :
  Ba1 e code st0 (AQy e.Classes s t g).1 ∧ Ext e.Classes s (AQy e.Classes s t g).1 ∧ mu e.Classes code.length (AQy e.Classes s t g).1 ≤ mu e.Classes code.length s ∧ ∃ f, (AQy e.Classes s t g).1.fr t = some f ∧ FLe e.Classes g f := by
 have G := h.good
 have base : ∀ f' : Aas, Fok e.Classes f' → (∀ f, s.fr t = some f → FLe e.Classes f f') → nu e.Classes ⟨upd s.fr t (some f'), upd s.new t true, s.tk⟩ t ≤ nu e.Classes s t →
   Ba1 e code st0 ⟨upd s.fr t (some f'), upd s.new t true, s.tk⟩ ∧ Ext e.Classes s ⟨upd s.fr t (some f'), upd s.new t true, s.tk⟩ ∧ mu e.Classes code.length ⟨upd s.fr t (some f'), upd s.new t true, s.tk⟩ ≤ mu e.Classes code.length s := by
  intro f' hf' hle hnu
  have hfr : ∀ b f, s.fr b = some f → ∃ f2, upd s.fr t (some f') b = some f2 ∧ FLe e.Classes f f2 := by
   intro b f hf
   by_cases hb : b = t
   ·subst hb
    exact ⟨f', AP9 _ _ _, hle f hf⟩
   ·exact ⟨f, by rw [upd_ne _ _ hb]; exact hf, FLe.refl (I.fok b f hf)⟩
  have hsome : ∀ b, (s.fr b).isSome = true → (upd s.fr t (some f') b).isSome = true := by
   intro b hb
   obtain ⟨f, hf⟩ := Ba4 hb
   obtain ⟨f2, hf2, _⟩ := hfr b f hf
   rw [hf2]; rfl
  refine ⟨⟨fun b f hf => ?_, fun b hb => ?_, fun b hb => ?_, fun x hx => ?_, I.dis, ?_⟩, ⟨hfr, rfl, fun b hb => ?_⟩, ?_⟩
  ·by_cases hb : b = t
   ·subst hb
    dsimp only at hf
    rw [AP9] at hf
    cases hf
    exact hf'
   ·dsimp only at hf
    rw [upd_ne _ _ hb] at hf
    exact I.fok b f hf
  ·by_cases hbt : b = t
   ·subst hbt; exact Or.inl ht
   ·dsimp only at hb
    rw [upd_ne _ _ hbt] at hb
    exact I.dom b hb
  ·by_cases hbt : b = t
   ·subst hbt
    dsimp only
    rw [AP9]; rfl
   ·dsimp only at hb
    rw [upd_ne _ _ hbt] at hb
    exact hsome b (I.new b hb)
  ·obtain ⟨h1, h2, h3⟩ := I.tk x hx
   exact ⟨hsome x h1, h2, h3⟩
  ·obtain ⟨f, hf, hfl⟩ := I.start
   obtain ⟨f2, hf2, hfl2⟩ := hfr 0 f hf
   exact ⟨f2, hf2, hfl.trans G hfl2⟩
  ·by_cases hbt : b = t
   ·subst hbt
    dsimp only at hb
    rw [AP9] at hb; cases hb
   ·dsimp only at hb ⊢
    rw [upd_ne _ _ hbt] at hb
    exact ⟨upd_ne _ _ hbt, hb⟩
  ·refine Bnd fun b _ => ?_
   by_cases hbt : b = t
   ·subst hbt; exact hnu
   ·unfold nu
    dsimp only
    rw [upd_ne _ _ hbt, upd_ne _ _ hbt]
    exact Nat.le_refl _
 have hnu1 : ∀ f', nu e.Classes ⟨upd s.fr t (some f'), upd s.new t true, s.tk⟩ t = 2 * rkF e.Classes f' + 1 := by
  intro f'
  unfold nu
  dsimp only
  rw [AP9, AP9]
  unfold frN Bti
  rfl
 unfold AQy at *
 rcases hf : s.fr t with _ | f
 ·rw [hf] at h0
  dsimp only at *
  have hn : nu e.Classes s t ≥ 12290 := by unfold nu; rw [hf]; unfold frN; dsimp only; omega
  have hr := B03 e.Classes g
  obtain ⟨b1, b2, b3⟩ := base g hg (fun f q => by rw [hf] at q; cases q) (by rw [hnu1]; omega)
  exact ⟨b1, b2, b3, g, AP9 _ _ _, FLe.refl hg⟩
 ·rw [hf] at h0
  dsimp only at *
  by_cases hm : (APw e.Classes f g).2 ≠ 0
  ·rw [Mo hm] at h0; exact absurd h0 hm
  ·rw [Hw hm] at h0 ⊢
   have hm0 : (APw e.Classes f g).2 = 0 := Classical.not_not.1 hm
   obtain ⟨m1, m2, m3⟩ := Bs2 G (I.fok t f hf) hg hm0
   by_cases hq : (APw e.Classes f g).1 = f
   ·rw [Mo hq]
    exact ⟨I, ⟨fun b f2 hf2 => ⟨f2, hf2, FLe.refl (I.fok b f2 hf2)⟩, rfl, fun b hb => ⟨rfl, hb⟩⟩, Nat.le_refl _, f, hf, by rw [← hq]; rw [hq] at m3 ⊢; exact m3⟩
   ·rw [Hw hq]
    have hr := B0o G m2 hq
    obtain ⟨b1, b2, b3⟩ := base _ m1 (fun f2 q => by rw [hf] at q; cases q; exact m2) (by
     rw [hnu1]
     unfold nu
     rw [hf]
     unfold frN
     dsimp only
     omega)
    exact ⟨b1, b2, b3, _, AP9 _ _ _, m3⟩
theorem Bpm {e : Adb} (h : AOl e) {code : List UInt8} {st0 : Aas} {g : Aas} (hg : Fok e.Classes g) : ∀ (ts : List Nat) (s : St), Ba1 e code st0 s → (∀ t ∈ ts, t < code.length) → (AP7 e.Classes g s ts).2.1 = 0 →
  Ba1 e code st0 (AP7 e.Classes g s ts).2.2 ∧ Ext e.Classes s (AP7 e.Classes g s ts).2.2 ∧ mu e.Classes code.length (AP7 e.Classes g s ts).2.2 ≤ mu e.Classes code.length s ∧ ∀ t ∈ ts, ∃ f, (AP7 e.Classes g s ts).2.2.fr t = some f ∧ FLe e.Classes g f
 | [], s, I, _, _ => ⟨I, ⟨fun b f2 hf2 => ⟨f2, hf2, FLe.refl (I.fok b f2 hf2)⟩, rfl, fun b hb => ⟨rfl, hb⟩⟩, Nat.le_refl _, fun t ht => by cases ht⟩
 | t :: ts, s, I, ht, h0 => by
  unfold AP7 at *
  by_cases hx : (AQy e.Classes s t g).2 ≠ 0
  ·rw [Mo hx] at h0; exact absurd h0 hx
  ·rw [Hw hx] at h0 ⊢
   obtain ⟨a1, a2, a3, f, a4, a5⟩ := Bm9 h I (ht t (by simp)) hg (Classical.not_not.1 hx)
   obtain ⟨b1, b2, b3, b4⟩ := Bpm h hg ts _ a1 (fun x hx => ht x (by simp [hx])) h0
   refine ⟨b1, a2.trans h.good b2, Nat.le_trans b3 a3, fun x hx => ?_⟩
   rw [B3m] at hx
   rcases hx with rfl | hx
   ·obtain ⟨f', c1, c2⟩ := b2.fr x f a4
    exact ⟨f', c1, a5.trans h.good c2⟩
   ·exact b4 x hx
theorem Bdd {s : St} {n a size : Nat} : AVd s n a size = false ↔ ∀ x, x ≤ n → 0 < s.tk x → x ≠ a → a < x + s.tk x → ¬ x < a + size := by
 unfold AVd
 rw [List.any_eq_false]
 constructor
 ·intro h x hx h1 h2 h3 h4
  have := h x (by rw [B3o]; omega)
  rw [LX] at this
  exact this ⟨h1, h2, h3, h4⟩
 ·intro h x hx
  rw [LX]
  rintro ⟨h1, h2, h3, h4⟩
  exact h x (by rw [B3o] at hx; omega) h1 h2 h3 h4
theorem Bku {e : Adb} {code : List UInt8} {st0 : Aas} {s : St} (I : Inv e code st0 s) {a : Nat} (ha : s.new a = true) (h1 : (Avy code a).2 = 0) (h2 : AVd (off s a) code.length a (siz (Avy code a).1.Op) = false) : Ba1 e code st0 (lay (off s a) a (siz (Avy code a).1.Op)) := by
 obtain ⟨f, hf⟩ := Ba4 (I.new a ha)
 have h1' := AWv h1
 have h2' := Bdd.1 h2
 have hdx : ∀ x, 0 < s.tk x → x ≤ code.length := by
  intro x hx
  rcases I.dom x (I.tk x hx).1 with q | q <;> omega
 refine ⟨I.fok, I.dom, fun b hb => ?_, fun x hx => ?_, fun x y hx hy hxy => ?_, I.start⟩
 ·unfold lay off at hb
  dsimp only at hb
  by_cases hba : b = a
  ·subst hba
   rw [AP9] at hb; cases hb
  ·rw [upd_ne _ _ hba] at hb
   exact I.new b hb
 ·unfold lay off at *
  dsimp only at *
  by_cases hba : x = a
  ·subst hba
   rw [AP9]
   exact ⟨by rw [hf]; rfl, h1, rfl⟩
  ·rw [upd_ne _ _ hba] at hx ⊢
   exact I.tk x hx
 ·unfold lay off at *
  dsimp only at *
  by_cases hxa : x = a
  ·subst hxa
   have hya : y ≠ x := by omega
   rw [AP9]
   rw [upd_ne _ _ hya] at hy
   have := h2' y (hdx y hy) hy hya (by omega)
   omega
  ·by_cases hya : y = a
   ·subst hya
    rw [upd_ne _ _ hxa] at hx ⊢
    have := fun q => h2' x (hdx x hx) hx hxa q (by omega)
    rcases Nat.lt_or_ge y (x + s.tk x) with q | q
    ·exact absurd q this
    ·exact q
   ·rw [upd_ne _ _ hxa] at hx ⊢
    rw [upd_ne _ _ hya] at hy
    exact I.dis x y hx hy hxy
theorem Bk8 {l : List Abi} {g : Aas} : ∀ (ts : List Nat) (s : St), (AP7 l g s ts).2.1 = 0 → (AP7 l g s ts).1 = 0
 | [], s, _ => rfl
 | t :: ts, s, h => by
  unfold AP7 at *
  by_cases hx : (AQy l s t g).2 ≠ 0
  ·rw [Mo hx] at h; exact absurd h hx
  ·rw [Hw hx] at h ⊢
   exact Bk8 ts _ h
theorem Bk0 {e : Adb} (h : AOl e) {code : List UInt8} {st0 : Aas} {s : St} (I : Inv e code st0 s) {a : Nat} (ha : s.new a = true) (h0 : (AO8 e code s a).2.1 = 0) :
  Inv e code st0 (AO8 e code s a).2.2 ∧ mu e.Classes code.length (AO8 e code s a).2.2 < mu e.Classes code.length s := by
 obtain ⟨f, hf⟩ := Ba4 (I.new a ha)
 have hfok := I.fok a f hf
 unfold AO8 at *
 rw [hf, B3d] at h0 ⊢
 by_cases h1 : (Avy code a).2 ≠ 0
 ·rw [Mo h1] at h0; exact absurd h0 h1
 rw [Hw h1] at h0 ⊢
 have h1' := AWv (Classical.not_not.1 h1)
 by_cases h2 : AVd (off s a) code.length a (siz (Avy code a).1.Op) = true
 ·rw [Mo h2] at h0; cases h0
 rw [Hw h2] at h0 ⊢
 have h2' := Bdd.1 (by simpa using h2)
 by_cases h3 : (AR1 e f (Avy code a).1).2 ≠ 0
 ·rw [Mo h3] at h0; exact absurd h0 h3
 rw [Hw h3] at h0 ⊢
 have h3' := Classical.not_not.1 h3
 by_cases h4 : (onV (Avy code a).1 code.length).2 ≠ 0
 ·rw [Mo h4] at h0; exact absurd h0 h4
 rw [Hw h4] at h0 ⊢
 have h4' := Classical.not_not.1 h4
 obtain ⟨on1, on2⟩ := Bls h1'.2.1 h1'.2.2.2.1 (by omega) h4'
 rw [on1] at h0 ⊢
 have happ := Bdl h hfok (Avy code a).1 h3'
 have I1 : Ba1 e code st0 (lay (off s a) a (siz (Avy code a).1.Op)) := Bku I ha (Classical.not_not.1 h1) (by simpa using h2)
 obtain ⟨c1, c2, c3, c4⟩ := Bpm h happ.1 (ATd (Avy code a).1) _ I1 on2 h0
 refine ⟨⟨c1, fun b fb hfb hnb => ?_⟩, ?_⟩
 ·obtain ⟨d1, d2⟩ := c2.same b hnb
  rw [hfb] at d1
  by_cases hba : b = a
  ·subst hba
   have hfe : fb = f := by
    have : s.fr b = some fb := d1.symm
    rw [hf] at this
    exact (Option.some.inj this).symm
   subst hfe
   refine ⟨Classical.not_not.1 h1, h3', h4', ?_, c4⟩
   rw [c2.tk]
   exact AP9 _ _ _
  ·have hnb' : s.new b = false := by
    unfold lay off at d2
    dsimp only at d2
    rw [upd_ne _ _ hba] at d2
    exact d2
   have D := I.clo b fb d1.symm hnb'
   refine ⟨D.ins, D.app, D.on, ?_, fun t ht => ?_⟩
   ·rw [c2.tk]
    have : (lay (off s a) a (siz (Avy code a).1.Op)).tk b = s.tk b := upd_ne _ _ hba
    rw [this]
    exact D.tk
   ·obtain ⟨g, g1, g2⟩ := D.nx t ht
    obtain ⟨g', g3, g4⟩ := c2.fr t g g1
    exact ⟨g', g3, g2.trans h.good g4⟩
 ·refine Nat.lt_of_le_of_lt c3 ?_
  refine Bmq (fun b hb => ?_) ⟨a, by omega, ?_⟩
  ·unfold nu lay off
   dsimp only
   by_cases hba : b = a
   ·subst hba
    rw [AP9, ha]
    simp only [Bti]
    omega
   ·rw [upd_ne _ _ hba]
    exact Nat.le_refl _
  ·unfold nu lay off
   dsimp only
   rw [AP9, ha]
   simp only [Bti]
   omega
theorem AZq {s : St} {n a : Nat} (h : AX8 s n = some a) : s.new a = true ∧ a ≤ n ∧ ∀ b, b < a → s.new b = false := by
 unfold AX8 at h
 rw [List.find?_range_eq_some] at h
 obtain ⟨h1, h2, h3⟩ := h
 rw [B3o] at h2
 exact ⟨h1, by omega, fun b hb => by have := h3 b hb; simpa using this⟩
theorem Beo {s : St} {n : Nat} (h : AX8 s n = none) : ∀ b, b ≤ n → s.new b = false := by
 unfold AX8 at h
 rw [List.find?_eq_none] at h
 intro b hb
 have := h b (by rw [B3o]; omega)
 simpa using this
theorem AL7 {e : Adb} (h : AOl e) {code : List UInt8} {st0 : Aas} : ∀ (k : Nat) (s : St), Inv e code st0 s → mu e.Classes code.length s < k → ∃ r, Bkq e code k s = some r ∧ (r.2.1 = 0 → r.1 = 0 ∧ Inv e code st0 r.2.2 ∧ ∀ b, r.2.2.new b = false)
 | 0, s, _, hk => by omega
 | k + 1, s, I, hk => by
  unfold Bkq
  rcases hl : AX8 s code.length with _ | a
  ·refine ⟨_, rfl, fun _ => ⟨rfl, I, fun b => ?_⟩⟩
   rcases hb : s.new b with _ | _
   ·rfl
   ·have := I.dom b (I.new b hb)
    have h2 := Beo hl b (by omega)
    rw [hb] at h2; cases h2
  ·dsimp only
   by_cases h0 : (AO8 e code s a).2.1 ≠ 0
   ·rw [Mo h0]
    exact ⟨_, rfl, fun q => absurd q h0⟩
   ·rw [Hw h0]
    obtain ⟨J, hm⟩ := Bk0 h I (AZq hl).1 (Classical.not_not.1 h0)
    exact AL7 h k _ J (by omega)
def st1 (f : Aas) : St := ⟨fun a => if a = 0 then some f else none, fun a => decide (a = 0), fun _ => 0⟩
theorem Bzj {e : Adb} (h : AOl e) {code : List UInt8} {f : Aas} (hf : Fok e.Classes f) : Inv e code f (st1 f) := by
 have h0 : ∀ a, (if a = 0 then some f else none : Option Aas).isSome = true → a = 0 := by
  intro a ha
  by_cases q : a = 0
  ·exact q
  ·rw [Hw q] at ha; cases ha
 unfold st1
 refine ⟨⟨fun a g hg => ?_, fun a ha => Or.inr (h0 a ha), fun a ha => ?_, fun x hx => ?_, fun x y hx => ?_, ⟨f, (Mo rfl : (if 0 = 0 then some f else none) = some f), FLe.refl hf⟩⟩, fun a g hg hn => ?_⟩
 ·dsimp only at hg
  split at hg
  ·cases hg; exact hf
  ·cases hg
 ·dsimp only at ha ⊢
  rw [LX] at ha
  rw [Mo ha]; rfl
 ·dsimp only at hx; omega
 ·dsimp only at hx; omega
 ·dsimp only at hg hn
  rw [decide_eq_false_iff_not] at hn
  rw [Hw hn] at hg; cases hg
end Go.Proofs.YtfcpkcehecmcpaaGreat
namespace Go.Proofs.YtfcpkcehecmcpaaGreat
open Go Go.RowKit Go.Pv Go.Proofs.Tryz
theorem Bla (op : UInt8) : Baw op = some (ATz op) := by
 unfold Baw ATz
 have e19 : ((op.toNat : Int) == 19) = decide (op.toNat = 19) := ABn _ 19
 have e20 : ((op.toNat : Int) == 20) = decide (op.toNat = 20) := ABn _ 20
 rw [e19, e20]
 rcases decide (op.toNat = 19) with _ | _ <;> simp
theorem Bvn (op : UInt8) : AVv op = some (ATz op) := Bla op
theorem Bom (op : UInt8) : Bb1 op = some (AVi op) := by
 unfold Bb1 AVi
 have e19 : ((op.toNat : Int) == 19) = decide (op.toNat = 19) := ABn _ 19
 have e22 : ((op.toNat : Int) == 22) = decide (op.toNat = 22) := ABn _ 22
 have e32 : ((op.toNat : Int) == 32) = decide (op.toNat = 32) := ABn _ 32
 rw [e19, e22, e32]
 rcases decide (op.toNat = 19) with _ | _ <;> rcases decide (op.toNat = 22) with _ | _ <;> simp
theorem Bw8 (op : UInt8) : AWb op = some (AVi op) := Bom op
def ints (l : List Nat) : List Int := l.map fun (t : Nat) => (t : Int)
theorem B0l {i : Ads} {n a : Nat} (hA : i.At = a) (hs : a + siz i.Op ≤ n) (hn : n ≤ 1048576) (h0 : ATz i.Op = true → 0 ≤ i.A) : AVn i (n : Int) = some (ints (onV i n).1, (onV i n).2) := by
 unfold AVn onV
 rw [AU1, B3c, Bvn, B3c, Bw8, B3c, ANa (by omega) (by omega)]
 by_cases h1 : ATz i.Op = true ∧ i.A ≥ n
 ·rw [Mo h1.1, Mo (by rw [LX]; exact h1.2), Mo h1]
  rfl
 ·rw [Hw h1]
  have hx : (if ATz i.Op = true then (if decide (i.A ≥ (n : Int)) = true then (some (Sum.inl (([] : List Int), (50 : Int)) : (List Int × Int) ⊕ Unit)) else (some (.inr ()))) else (some (.inr ()))) = some (.inr ()) := by
   by_cases hj : ATz i.Op = true
   ·rw [Mo hj, Hw (by rw [LX]; exact fun q => h1 ⟨hj, q⟩)]
   ·rw [Hw hj]
  rw [hx, B3c]
  dsimp only
  by_cases h2 : AVi i.Op = false ∧ i.At + siz i.Op = n
  ·rw [Mo (by rw [h2.1]; rfl), Mo (by rw [Agq]; exact h2.2), Mo h2]
   rfl
  ·rw [Hw h2]
   have hy : (if (!AVi i.Op) = true then (if ((i.At + (siz i.Op : Int)) == (n : Int)) = true then (some (Sum.inl (([] : List Int), (51 : Int)) : (List Int × Int) ⊕ Unit)) else (some (.inr ()))) else (some (.inr ()))) = some (.inr ()) := by
    by_cases hj : (!AVi i.Op) = true
    ·rw [Mo hj, Hw (by rw [Agq]; exact fun q => h2 ⟨by simpa using hj, q⟩)]
    ·rw [Hw hj]
   rw [hy, B3c]
   dsimp only
   unfold ATd ints
   obtain ⟨b, hb⟩ : ∃ b : Nat, i.At + (siz i.Op : Int) = b := ⟨a + siz i.Op, by omega⟩
   rw [hb]
   rcases hj : ATz i.Op with _ | _
   ·rcases he : AVi i.Op with _ | _
    ·rw [Hw (by simp), B3c, Mo (by rfl), AL0 (by simp), B3c, Hw (by simp)]
     simp
    ·rw [Hw (by simp), B3c, Hw (by simp), Hw (by simp)]
     simp
   ·obtain ⟨k, hk⟩ := B36 (h0 hj)
    rw [hk]
    rcases he : AVi i.Op with _ | _
    ·rw [Mo rfl, Hw (by simp)]
     by_cases hlt : k < b
     ·rw [Mo (by rw [LX]; omega), AL0 (by simp), B3c, B3c, Mo (by rfl), AL0 (by simp), B3c, Mo rfl, Hw (by rw [LX]; omega)]
      simp [hlt]
      omega
     ·rw [Hw (by rw [LX]; omega), B3c, Mo (by rfl), AL0 (by simp), B3c, Mo rfl]
      by_cases hgt : k > b
      ·rw [Mo (by rw [LX]; omega), AL0 (by simp), B3c]
       simp [hlt, hgt]
      ·rw [Hw (by rw [LX]; omega)]
       simp [hlt, hgt]
    ·rw [Mo rfl, Mo (by rfl), AL0 (by simp), B3c, B3c, Hw (by simp), Mo rfl]
     simp
structure AVj (n : Nat) (s : St) (R : Aiw) : Prop where
 has : R.Has.length = n + 1 ∧ ∀ a, a ≤ n → R.Has[a]? = some (s.fr a).isSome
 frame : R.Frame.length = n + 1 ∧ ∀ a, a ≤ n → ∀ f, s.fr a = some f → R.Frame[a]? = some f
 fresh : R.AJs.length = n + 1 ∧ ∀ a, a ≤ n → R.AJs[a]? = some (s.new a)
 taken : R.Taken.length = n + 1 ∧ ∀ a, a ≤ n → R.Taken[a]? = some (s.tk a : Int)
theorem Baj {α : Type} {l : List α} {n a b : Nat} {x : α} (hl : l.length = n + 1) (ha : a ≤ n) : (l.set a x)[b]? = if b = a then some x else l[b]? := by
 rw [List.getElem?_set]
 by_cases h : a = b
 ·rw [Mo h, Mo (by omega), Mo h.symm]
 ·rw [Hw h, Hw (fun q => h q.symm)]
theorem AVj.lay {n : Nat} {s : St} {R : Aiw} (h : AVj n s R) {a : Nat} (ha : a ≤ n) (f : Aas) : AVj n ⟨upd s.fr a (some f), upd s.new a true, s.tk⟩ ⟨R.Has.set a true, R.Frame.set a f, R.AJs.set a true, R.Taken⟩ := by
 refine ⟨⟨by rw [B3i]; exact h.has.1, fun b hb => ?_⟩, ⟨by rw [B3i]; exact h.frame.1, fun b hb g hg => ?_⟩, ⟨by rw [B3i]; exact h.fresh.1, fun b hb => ?_⟩, h.taken⟩
 ·dsimp only
  rw [Baj h.has.1 ha]
  by_cases q : b = a
  ·rw [Mo q, q, AP9]; rfl
  ·rw [Hw q, upd_ne _ _ q]; exact h.has.2 b hb
 ·dsimp only at *
  rw [Baj h.frame.1 ha]
  by_cases q : b = a
  ·rw [Mo q]
   rw [q, AP9] at hg
   exact hg
  ·rw [Hw q]
   rw [upd_ne _ _ q] at hg
   exact h.frame.2 b hb g hg
 ·dsimp only
  rw [Baj h.fresh.1 ha]
  by_cases q : b = a
  ·rw [Mo q, q, AP9]
  ·rw [Hw q, upd_ne _ _ q]; exact h.fresh.2 b hb
theorem Bd7 {f g : Aas} : ((f.Locals == g.Locals) && ((f.Height == g.Height) && ((f.Slots == g.Slots) && true))) = true ↔ f = g := by
 obtain ⟨L, H, S⟩ := f
 obtain ⟨L', H', S'⟩ := g
 simp
theorem AVl {α : Type} {l : List α} {a : Nat} {x : α} (h : l[a]? = some x) : idx l (a : Int) = some x := by rw [Bnf, h]
theorem Bwj {e : Adb} (h : AOl e) {n : Nat} {s : St} {R : Aiw} (hR : AVj n s R) (hs : ∀ a f, s.fr a = some f → Fok e.Classes f) {a : Nat} (ha : a ≤ n) {g : Aas} (hg : Fok e.Classes g) :
  ∃ R', ARj R e.Classes (a : Int) g = some ((AQy e.Classes s a g).2, R') ∧ AVj n (AQy e.Classes s a g).1 R' := by
 have i1 := AVl (hR.has.2 a ha)
 have i3 := AVl (hR.fresh.2 a ha)
 have i2 : ∃ f, idx R.Frame (a : Int) = some f := by
  have : a < R.Frame.length := by rw [hR.frame.1]; omega
  exact ⟨_, Ayt this⟩
 unfold ARj AQy
 rw [i1, B3c]
 rcases hf : s.fr a with _ | f
 ·obtain ⟨f0, i2⟩ := i2
  rw [Mo (by rfl), B3c, i2, B3c, i3, B3c]
  exact ⟨_, rfl, hR.lay ha g⟩
 ·have i4 := AVl (hR.frame.2 a ha f hf)
  rw [Hw (by simp), i4, B3c, show (⟨g.Locals, g.Height, g.Slots⟩ : Aas) = g from rfl, Bs4 h.good (hs a f hf) hg, B3c]
  dsimp only
  by_cases hm : (APw e.Classes f g).2 ≠ 0
  ·rw [Mo (by rw [Ale]; exact hm), Mo hm]
   exact ⟨_, rfl, hR⟩
  ·rw [Hw (by rw [Ale]; exact hm), Hw hm, B3c]
   by_cases hq : (APw e.Classes f g).1 = f
   ·rw [Hw (by rw [Bd7.2 hq]; simp), Mo hq]
    exact ⟨_, rfl, hR⟩
   ·rw [Mo, Hw hq, B3c, i3, B3c]
    ·refine ⟨_, rfl, ?_⟩
     have := hR.lay ha (APw e.Classes f g).1
     have e1 : R.Has.set a true = R.Has := by
      have h1 : R.Has[a]? = some true := by rw [hR.has.2 a ha, hf]; rfl
      obtain ⟨hlt, h2⟩ := List.getElem?_eq_some_iff.1 h1
      rw [← h2, List.set_getElem_self]
     rw [e1] at this
     exact this
    ·rw [Bool.not_eq_true', ← Bool.not_eq_true]
     exact fun q => hq (Bd7.1 q)
theorem Bn3 {e : Adb} (h : AOl e) {code : List UInt8} {st0 : Aas} {g : Aas} (hg : Fok e.Classes g) (x : List Int × Int) (hx : x.1.length ≤ 1048576) :
  ∀ (ts : List Nat) (i : Nat) (s : St) (R : Aiw), x.1.drop i = ints ts → Ba1 e code st0 s → (∀ t ∈ ts, t < code.length) → AVj code.length s R →
   ∃ o, Aot (ANg e (g, 0) x) (R.Taken, R.AJs, R.Has, R.Frame, (i : Int)) = some o ∧
    if (AP7 e.Classes g s ts).2.1 = 0 then ∃ R', o = .inr (R'.Taken, R'.AJs, R'.Has, R'.Frame) ∧ AVj code.length (AP7 e.Classes g s ts).2.2 R' else ∃ R', o = .inl ((AP7 e.Classes g s ts).1, (AP7 e.Classes g s ts).2.1, R')
 | [], i, s, R, hd, I, _, hR => by
  have hi : x.1.length ≤ i := by
   unfold ints at hd
   rw [List.map_nil, List.drop_eq_nil_iff] at hd
   exact hd
  refine ⟨_, Awv (r := .inr (R.Taken, R.AJs, R.Has, R.Frame)) ?_, ?_⟩
  ·unfold ANg
   dsimp only
   rw [Hw (by rw [LX]; omega)]
  ·unfold AP7
   rw [Mo rfl]
   exact ⟨R, rfl, hR⟩
 | t :: ts, i, s, R, hd, I, ht, hR => by
  have hi : i < x.1.length := by
   rcases Nat.lt_or_ge i x.1.length with q | q
   ·exact q
   ·rw [List.drop_eq_nil_iff.2 q] at hd; cases hd
  rw [List.drop_eq_getElem_cons hi] at hd
  unfold ints at hd
  rw [List.map_cons, List.cons.injEq] at hd
  obtain ⟨hd1, hd2⟩ := hd
  obtain ⟨R', hh, hR'⟩ := Bwj h hR I.fok (Nat.le_of_lt (ht t (by simp))) hg
  have hb : ANg e (g, 0) x (R.Taken, R.AJs, R.Has, R.Frame, (i : Int)) = if (AQy e.Classes s t g).2 ≠ 0 then some (.inr (.inl ((t : Int), (AQy e.Classes s t g).2, R'))) else some (.inl (R'.Taken, R'.AJs, R'.Has, R'.Frame, ((i + 1 : Nat) : Int))) := by
   unfold ANg
   dsimp only
   rw [Mo (by rw [LX]; omega), Ayt hi, hd1, B3c, show (⟨R.Has, R.Frame, R.AJs, R.Taken⟩ : Aiw) = R from rfl, show (⟨g.Locals, g.Height, g.Slots⟩ : Aas) = g from rfl, hh, B3c]
   dsimp only
   by_cases hq : (AQy e.Classes s t g).2 ≠ 0
   ·rw [Mo hq, Mo (by rw [Ale]; exact hq), B3c]
   ·rw [Hw hq, Hw (by rw [Ale]; exact hq), wr1 (by omega)]
  unfold AP7
  by_cases hq : (AQy e.Classes s t g).2 ≠ 0
  ·rw [Mo hq] at hb ⊢
   refine ⟨_, Awv hb, ?_⟩
   dsimp only
   rw [Hw hq]
   exact ⟨R', rfl⟩
  ·rw [Hw hq] at hb ⊢
   obtain ⟨a1, a2, a3, f, a4, a5⟩ := Bm9 h I (ht t (by simp)) hg (Classical.not_not.1 hq)
   obtain ⟨o, h1, h2⟩ := Bn3 h hg x hx ts (i + 1) _ R' hd2 a1 (fun y hy => ht y (by simp [hy])) hR'
   exact ⟨o, by rw [AGm hb]; exact h1, h2⟩
end Go.Proofs.YtfcpkcehecmcpaaGreat
namespace Go.Proofs.YtfcpkcehecmcpaaGreat
open Go Go.RowKit Go.Pv Go.Proofs.Tryz
theorem Br9 {S R : Type} (n : Nat) {body : S → Option (S ⊕ R)} (I : Nat → S → Prop) {Post : R → Prop} (hs : ∀ i s, i < n → I i s → (∃ s', body s = some (.inl s') ∧ I (i + 1) s') ∨ (∃ r, body s = some (.inr r) ∧ Post r)) (he : ∀ s, I n s → ∃ r, body s = some (.inr r) ∧ Post r) : ∀ (k i : Nat) (s : S), i + k = n → I i s → ∃ r, Aot body s = some r ∧ Post r
 | 0, i, s, hi, h => by
  have : i = n := by omega
  subst this
  obtain ⟨r, h1, h2⟩ := he s h
  exact ⟨r, Awv h1, h2⟩
 | k + 1, i, s, hi, h => by
  rcases hs i s (by omega) h with ⟨s', h1, h2⟩ | ⟨r, h1, h2⟩
  ·rw [AGm h1]
   exact Br9 n I hs he k (i + 1) s' (by omega) h2
  ·exact ⟨r, Awv h1, h2⟩
structure Byv (l : List Abi) (ps : List UInt8) (n : Int) (f : Aas) : Prop where
 fok : Fok l f
 loc : f.Locals = n
 hgt : f.Height = 0
 par : ps.length ≤ n
 few : ps.length ≤ 8
 max : n ≤ 16
 slots : ∀ j (h : j < 24), f.Slots[j] = (ps[j]?).getD 0
theorem Bqz (l : List Abi) (ps : List UInt8) (n : Int) : ∃ r, AO2 l ps n = some r ∧ (r.2 = 0 → Byv l ps n r.1) := by
 unfold AO2 ATk
 by_cases h1 : n < 0
 ·rw [Mo (by rw [LX]; exact h1), B3c, Mo (by simp)]
  exact ⟨_, rfl, fun q => by cases q⟩
 rw [Hw (by rw [LX]; exact h1)]
 by_cases h2 : n > 16
 ·rw [Mo (by rw [LX]; exact h2), B3c, Mo (by simp)]
  exact ⟨_, rfl, fun q => by cases q⟩
 rw [Hw (by rw [LX]; exact h2), B3c, Hw (by simp)]
 by_cases h3 : (ps.length : Int) > 8
 ·rw [Mo (by rw [LX]; exact h3)]
  exact ⟨_, rfl, fun q => by cases q⟩
 rw [Hw (by rw [LX]; exact h3)]
 by_cases h4 : (ps.length : Int) > n
 ·rw [Mo (by rw [LX]; exact h4)]
  exact ⟨_, rfl, fun q => by cases q⟩
 rw [Hw (by rw [LX]; exact h4)]
 dsimp only
 obtain ⟨o, ho, hP⟩ := Br9 ps.length (body := AN0 l ps) (fun i s => s.2 = (i : Int) ∧ (∀ j (h : j < 24), s.1[j] = if j < i then (ps[j]?).getD 0 else 0) ∧ (∀ j, j < i → tv l ((ps[j]?).getD 0) = true))
  (Post := fun o => match o with
   | .inl r => r.2 ≠ 0
   | .inr v => (∀ j (h : j < 24), v[j] = (ps[j]?).getD 0) ∧ Bdq l v) (fun i s hi hI => by
   obtain ⟨v, k⟩ := s
   obtain ⟨q1, q2, q3⟩ := hI
   dsimp only at q1 q2
   subst q1
   unfold AN0
   dsimp only
   rw [Mo (by rw [LX]; omega), Ayt hi, B3c, Bjl, B3c]
   rcases hst : st l ps[i] with _ | _
   ·rw [Mo (by simp)]
    exact Or.inr ⟨_, rfl, by dsimp only; omega⟩
   ·rw [Hw (by simp), AWs _ _ (by omega), B3c, wr1 (by omega)]
    refine Or.inl ⟨_, rfl, rfl, fun j hj => ?_, fun j hj => ?_⟩
    ·dsimp only
     rw [Bbm _ _ _ _ hj, q2 j hj]
     by_cases hij : i = j
     ·subst hij
      rw [Mo rfl, Mo (by omega), B3e hi, B3d]
     ·rw [Hw hij]
      by_cases hlt : j < i
      ·rw [Mo hlt, Mo (by omega)]
      ·rw [Hw hlt, Hw (by omega)]
    ·by_cases hij : j = i
     ·subst hij
      rw [B3e hi, B3d]
      unfold st at hst
      rw [B37] at hst
      exact hst.1
     ·exact q3 j (by omega)) (fun s hI => by
   obtain ⟨v, k⟩ := s
   obtain ⟨q1, q2, q3⟩ := hI
   dsimp only at q1 q2
   subst q1
   unfold AN0
   dsimp only
   rw [Hw (by rw [LX]; omega)]
   have hv : ∀ j (h : j < 24), v[j] = (ps[j]?).getD 0 := by
    intro j hj
    rw [q2 j hj]
    by_cases hlt : j < ps.length
    ·rw [Mo hlt]
    ·rw [Hw hlt, List.getElem?_eq_none (by omega)]; rfl
   refine ⟨_, rfl, hv, fun j hj => ?_⟩
   rw [hv j hj]
   by_cases hlt : j < ps.length
   ·exact q3 j hlt
   ·rw [List.getElem?_eq_none (by omega)]
    exact Bai l) ps.length 0 (Vector.replicate 24 (0 : UInt8), (0 : Int)) (by omega) ⟨rfl, fun j hj => by simp, fun j hj => by omega⟩
 rw [ho, B3c]
 rcases o with r | v
 ·exact ⟨_, rfl, fun q => absurd q hP⟩
 ·refine ⟨_, rfl, fun _ => ⟨⟨?_, fun j hj hle => ?_, hP.2⟩, rfl, rfl, by omega, by omega, by omega, hP.1⟩⟩
  ·unfold Shp
   dsimp only
   omega
  ·dsimp only at hle ⊢
   rw [hP.1 j hj, List.getElem?_eq_none (by omega)]; rfl
theorem Bv6 (e : Adb) (n : Int) (h : AS0 e.Classes) : ∃ r, AP3 e n = some r := by
 unfold AP3
 rw [Bce _ h, B3c]
 by_cases h1 : ((AZs e.Classes).2 != 0) = true
 ·rw [Mo h1]; exact ⟨_, rfl⟩
 rw [Hw h1]
 by_cases h2 : decide ((e.Akq.length : Int) > 64) = true
 ·rw [Mo h2]; exact ⟨_, rfl⟩
 rw [Hw h2]
 have h64 : e.Akq.length ≤ 64 := by rw [LX] at h2; omega
 have hl := ASv (R := Int ⊕ Unit) e.Akq.length (body := AM7 e) (fun i => (Bhl e i).map .inl) (r0 := .inr ()) (fun i hi => by
  unfold AM7 Bhl
  rw [Mo (by rw [LX]; omega), Ayt hi, B3c, B3e hi, B3c]
  dsimp only
  by_cases h8 : 8 < e.Akq[i].Ars.length
  ·rw [Mo (by rw [LX]; omega), Mo h8]; rfl
  ·rw [Hw (by rw [LX]; omega), Hw h8, Bfv _ _ (by omega), B3c, wr1 (by omega)]
   rcases Bgd e.Classes e.Akq[i] with _ | _ <;> rfl) (by
  unfold AM7
  rw [Hw (by rw [LX]; omega)])
 rw [hl, B3c]
 rcases (((List.range e.Akq.length).findSome? fun i => Option.map (Sum.inl (β := Unit)) (Bhl e i)).getD (Sum.inr ())) with r | r
 ·exact ⟨_, rfl⟩
 ·dsimp only
  by_cases h3 : decide (e.Fn < 0) = true
  ·rw [Mo h3]; exact ⟨_, rfl⟩
  rw [Hw h3]
  by_cases h4 : decide (e.Fn ≥ (e.Akq.length : Int)) = true
  ·rw [Mo h4]; exact ⟨_, rfl⟩
  rw [Hw h4]
  rw [LX] at h3 h4
  rw [AR4 (i := e.Fn) (by omega) (by omega) ⟨[], 0⟩, B3c]
  obtain ⟨r, hr, _⟩ := Bqz e.Classes (((e.Akq[e.Fn.toNat]?).getD ⟨[], 0⟩ : Am7).Ars) n
  rw [hr]
  exact ⟨_, rfl⟩
theorem Bqy {n : Nat} {s : St} {R : Aiw} (hR : AVj n s R) (hn : n ≤ 1048576) (htk : ∀ x, s.tk x ≤ 1048576) {a size : Nat} (ha : a ≤ n) (hs : size ≤ 1048576) : APs R (a : Int) (size : Int) = some (AVd s n a size) := by
 unfold APs
 have hl := ASv (R := Bool ⊕ Unit) (n + 1) (body := ANj R (a : Int) (size : Int)) (fun x => if 0 < s.tk x ∧ x ≠ a ∧ a < x + s.tk x ∧ x < a + size then some (.inl true) else none) (r0 := .inr ()) (fun x hx => by
  unfold ANj
  have i1 := AVl (hR.taken.2 x (by omega))
  have := htk x
  rw [Mo (by rw [LX, hR.taken.1]; omega), i1, B3c, B3c, wr1 (by omega), ANa (n := (x : Int) + (s.tk x : Int)) (by omega) (by omega), ANa (n := (a : Int) + (size : Int)) (by omega) (by omega)]
  by_cases h1 : 0 < s.tk x
  ·rw [Mo (by rw [LX]; omega)]
   by_cases h2 : x = a
   ·rw [Hw (by simp [h2]), Hw (by omega)]
   ·rw [Mo (by rw [Ale]; omega)]
    by_cases h3 : a < x + s.tk x
    ·rw [Mo (by rw [LX]; omega)]
     by_cases h4 : x < a + size
     ·rw [Mo (by rw [LX]; omega), Mo ⟨h1, h2, h3, h4⟩]
     ·rw [Hw (by rw [LX]; omega), Hw (by omega)]
    ·rw [Hw (by rw [LX]; omega), Hw (by omega)]
  ·rw [Hw (by rw [LX]; omega), Hw (by omega)]) (by
  unfold ANj
  rw [Hw (by rw [LX, hR.taken.1]; omega)])
 rw [hl, B3c]
 rcases hf : (List.range (n + 1)).findSome? (fun x => if 0 < s.tk x ∧ x ≠ a ∧ a < x + s.tk x ∧ x < a + size then some (Sum.inl true : Bool ⊕ Unit) else none) with _ | r
 ·have : AVd s n a size = false := by
   rw [Bdd]
   intro x hx h1 h2 h3 h4
   have := (List.findSome?_eq_none_iff.1 hf) x (by rw [B3o]; omega)
   rw [Mo ⟨h1, h2, h3, h4⟩] at this
   cases this
  rw [this]; rfl
 ·obtain ⟨x, hx, hr⟩ := List.exists_of_findSome?_eq_some hf
  have : AVd s n a size = true := by
   unfold AVd
   rw [List.any_eq_true]
   refine ⟨x, hx, ?_⟩
   rw [LX]
   by_cases q : 0 < s.tk x ∧ x ≠ a ∧ a < x + s.tk x ∧ x < a + size
   ·exact q
   ·rw [Hw q] at hr; cases hr
  rw [this]
  split at hr
  ·cases hr; rfl
  ·cases hr
theorem Ba1.B1s {e : Adb} {code : List UInt8} {st0 : Aas} {s : St} (I : Ba1 e code st0 s) (x : Nat) : s.tk x ≤ 6 := by
 rcases Nat.eq_zero_or_pos (s.tk x) with q | q
 ·omega
 ·obtain ⟨h1, h2, h3⟩ := I.tk x q
  rw [h3]
  unfold siz
  have := Bhi (Avy code x).1.Op
  split <;> omega
theorem Bkw {code : List UInt8} (hl : code.length ≤ big) {a : Nat} (ha : a < code.length) : APc code (a : Int) = some (Avy code a) ∧ AUn code (a : Int) = some (Avy code a) := by
 have : Avy code a = dec code a code[a] := by
  unfold Avy
  rw [B3e ha]
 rw [this]
 exact ⟨Bzk code hl a ha, Bya code hl a ha⟩
theorem Bmc {code : List UInt8} {a : Nat} (h : (Avy code a).2 = 0) (hj : ATz (Avy code a).1.Op = true) : 0 ≤ (Avy code a).1.A := by
 have hk := (AWv h).2.2.2.2
 unfold Avy at *
 rw [hk] at h ⊢
 generalize (match code[a]? with
  | none => ((⟨0, 0, 0, 0⟩ : Ads), (51 : Int))
  | some op => dec code a op).1.Op = op at *
 dsimp only at *
 unfold dec at *
 by_cases h0 : siz op = 0
 ·rw [Mo h0] at h; cases h
 rw [Hw h0] at h ⊢
 by_cases h1 : code.length < a + siz op
 ·rw [Mo h1] at h; cases h
 rw [Hw h1] at h ⊢
 dsimp only at *
 split at h
 ·cases h
 ·rename_i q
  rw [Hw q]
  dsimp only
  unfold sgn
  have hw : (wid op).1 ≠ 4 := by
   unfold ATz at hj
   rw [Bool.or_eq_true, LX, LX] at hj
   unfold wid
   rcases hj with q | q <;> simp [q]
  rw [Hw (by intro q; exact hw q.1)]
  omega
end Go.Proofs.YtfcpkcehecmcpaaGreat
namespace Go.Proofs.YtfcpkcehecmcpaaGreat
open Go Go.RowKit Go.Pv Go.Proofs.Tryz
theorem AVj.off {n : Nat} {s : St} {R : Aiw} (h : AVj n s R) {a : Nat} (ha : a ≤ n) : AVj n (off s a) ⟨R.Has, R.Frame, R.AJs.set a false, R.Taken⟩ := by
 refine ⟨h.has, h.frame, ⟨by rw [B3i]; exact h.fresh.1, fun b hb => ?_⟩, h.taken⟩
 unfold Proofs.YtfcpkcehecmcpaaGreat.off
 dsimp only
 rw [Baj h.fresh.1 ha]
 by_cases q : b = a
 ·rw [Mo q, q, AP9]
 ·rw [Hw q, upd_ne _ _ q]; exact h.fresh.2 b hb
theorem AVj.tk {n : Nat} {s : St} {R : Aiw} (h : AVj n s R) {a : Nat} (ha : a ≤ n) (k : Nat) : AVj n (Proofs.YtfcpkcehecmcpaaGreat.lay s a k) ⟨R.Has, R.Frame, R.AJs, R.Taken.set a (k : Int)⟩ := by
 refine ⟨h.has, h.frame, h.fresh, ⟨by rw [B3i]; exact h.taken.1, fun b hb => ?_⟩⟩
 unfold Proofs.YtfcpkcehecmcpaaGreat.lay
 dsimp only
 rw [Baj h.taken.1 ha]
 by_cases q : b = a
 ·rw [Mo q, q, AP9]
 ·rw [Hw q, upd_ne _ _ q]; exact h.taken.2 b hb
theorem Bzh (op : UInt8) : siz op ≤ 6 := by
 unfold siz
 have := Bhi op
 split <;> omega
theorem Bnt {code : List UInt8} {a : Nat} (h : ¬ a < code.length) : Avy code a = (⟨0, 0, 0, 0⟩, 51) := by
 unfold Avy
 rw [List.getElem?_eq_none (by omega)]
theorem Bur {e : Adb} (h : AOl e) {code : List UInt8} (hl : code.length ≤ 4096) {st0 : Aas} {s : St} {R : Aiw} (I : Inv e code st0 s) (hR : AVj code.length s R) {a : Nat} (ha : s.new a = true) :
  ∃ R', AQ2 R e code (a : Int) = some ((AO8 e code s a).1, (AO8 e code s a).2.1, R') ∧ ((AO8 e code s a).2.1 = 0 → AVj code.length (AO8 e code s a).2.2 R') := by
 obtain ⟨f, hf⟩ := Ba4 (I.new a ha)
 have hfok := I.fok a f hf
 have han : a ≤ code.length := by rcases I.dom a (I.new a ha) with q | q <;> omega
 unfold AQ2 AO8
 rw [AVl (hR.fresh.2 a han), B3c, B35, hf, B3d]
 by_cases hn : a < code.length
 ·rw [Hw (by rw [Agq]; omega), (Bkw (show code.length ≤ big by simp only [big]; omega) hn).1, B3c]
  by_cases h1 : (Avy code a).2 ≠ 0
  ·rw [Mo (by rw [Ale]; exact h1), Mo h1]
   exact ⟨_, rfl, fun q => absurd q h1⟩
  rw [Hw (by rw [Ale]; exact h1), Hw h1, AU1, B3c]
  have h1' := AWv (Classical.not_not.1 h1)
  rw [Bqy (hR.off han) (by omega) (fun x => Nat.le_trans (I.B1s x) (by omega)) han (Nat.le_trans (Bzh _) (by omega)), B3c]
  by_cases h2 : AVd (off s a) code.length a (siz (Avy code a).1.Op) = true
  ·rw [Mo h2, Mo h2]
   exact ⟨_, rfl, fun q => by cases q⟩
  rw [Hw h2, Hw h2, AVl (hR.taken.2 a han), B3c, AVl (hR.frame.2 a han f hf), B3c, show (⟨e.Classes, e.Akq, e.Fn⟩ : Adb) = e from rfl,
   show (⟨(Avy code a).1.At, (Avy code a).1.Op, (Avy code a).1.A, (Avy code a).1.B⟩ : Ads) = (Avy code a).1 from rfl, Bv2 h hfok, B3c]
  by_cases h3 : (AR1 e f (Avy code a).1).2 ≠ 0
  ·rw [Mo (by rw [Ale]; exact h3), Mo h3]
   exact ⟨_, rfl, fun q => absurd q h3⟩
  have h3' := Classical.not_not.1 h3
  rw [Hw (by rw [Ale]; exact h3), Hw h3, B0l h1'.2.1 h1'.2.2.2.1 (by omega) (Bmc (Classical.not_not.1 h1)), B3c]
  by_cases h4 : (onV (Avy code a).1 code.length).2 ≠ 0
  ·dsimp only
   rw [Mo (by rw [Ale]; exact h4), Mo h4]
   exact ⟨_, rfl, fun q => absurd q h4⟩
  have h4' := Classical.not_not.1 h4
  obtain ⟨on1, on2⟩ := Bls h1'.2.1 h1'.2.2.2.1 (by omega) h4'
  have happ := Bdl h hfok (Avy code a).1 h3'
  rw [Hw h4]
  dsimp only
  rw [Hw (by rw [Ale]; exact h4)]
  have I1 : Ba1 e code st0 (lay (off s a) a (siz (Avy code a).1.Op)) := Bku I ha (Classical.not_not.1 h1) (by simpa using h2)
  have hR1 : AVj code.length (lay (off s a) a (siz (Avy code a).1.Op)) ⟨R.Has, R.Frame, R.AJs.set a false, R.Taken.set a (siz (Avy code a).1.Op : Int)⟩ := (hR.off han).tk han _
  have hx8 : (ints (onV (Avy code a).1 code.length).1).length ≤ 1048576 := by
   rw [on1]
   unfold ints ATd
   rw [B3g, B3f, B3f]
   split <;> split <;> split <;> simp
  obtain ⟨o, ho1, ho2⟩ := Bn3 h happ.1 (ints (onV (Avy code a).1 code.length).1, (onV (Avy code a).1 code.length).2) hx8 (onV (Avy code a).1 code.length).1 0 _ _ (by rw [List.drop_zero]) I1 (by rw [on1]; exact on2) hR1
  have hpair : (AR1 e f (Avy code a).1) = ((AR1 e f (Avy code a).1).1, (0 : Int)) := Prod.ext rfl h3'
  rw [hpair]
  rw [show ((0 : Nat) : Int) = 0 from rfl] at ho1
  dsimp only at ho1 ⊢
  rw [ho1, B3c]
  by_cases hz : (AP7 e.Classes (AR1 e f (Avy code a).1).1 (lay (off s a) a (siz (Avy code a).1.Op)) (onV (Avy code a).1 code.length).1).2.1 = 0
  ·rw [Mo hz] at ho2
   obtain ⟨R', rfl, hR'⟩ := ho2
   refine ⟨R', ?_, fun _ => hR'⟩
   dsimp only
   rw [hz, Bk8 _ _ hz]
  ·rw [Hw hz] at ho2
   obtain ⟨R', rfl⟩ := ho2
   exact ⟨R', rfl, fun q => absurd q hz⟩
 ·rw [Mo (by rw [Agq]; omega), Bnt hn]
  dsimp only
  rw [Mo (by omega)]
  exact ⟨_, rfl, fun q => by cases q⟩
def Bdv (s : St) (n : Nat) : Int := match AX8 s n with
 | none => -1
 | some a => (a : Int)
theorem But {n : Nat} {s : St} {R : Aiw} (hR : AVj n s R) (hn : n ≤ 1048576) : AQz R = some (Bdv s n) := by
 unfold AQz
 have hl := ASv (R := Int ⊕ Unit) (n + 1) (body := ANv R) (fun x => if s.new x = true then some (.inl (x : Int)) else none) (r0 := .inr ()) (fun x hx => by
  unfold ANv
  rw [Mo (by rw [LX, hR.fresh.1]; omega), AVl (hR.fresh.2 x (by omega)), B3c, wr1 (by omega)]
  rcases s.new x with _ | _ <;> rfl) (by
  unfold ANv
  rw [Hw (by rw [LX, hR.fresh.1]; omega)])
 rw [hl, B3c]
 unfold Bdv AX8
 have key : ∀ L : List Nat, L.findSome? (fun x => if s.new x = true then some (Sum.inl (x : Int) : Int ⊕ Unit) else none) = (L.find? s.new).map fun a => Sum.inl (a : Int) := by
  intro L
  induction L with
  | nil => rfl
  | cons x L ih =>
   rw [List.findSome?_cons, List.find?_cons]
   rcases s.new x with _ | _
   ·rw [Hw (by simp)]; exact ih
   ·rw [Mo rfl]; rfl
 rw [key]
 rcases (List.range (n + 1)).find? s.new with _ | a
 ·rfl
 ·rfl
theorem Bsk {e : Adb} (h : AOl e) {code : List UInt8} (hl : code.length ≤ 4096) {st0 : Aas} : ∀ (k : Nat) (s : St) (R : Aiw) (r : Int × Int × St), Inv e code st0 s → AVj code.length s R → Bkq e code k s = some r →
  ∃ o, Aot (AOn e code) (R.Has, R.Frame, R.AJs, R.Taken, Bdv s code.length) = some o ∧ if r.2.1 = 0 then ∃ R', o = .inr (R'.Has, R'.Frame, R'.AJs, R'.Taken) ∧ AVj code.length r.2.2 R' else o = .inl ([], r.1, r.2.1)
 | 0, s, R, r, _, _, hr => by cases hr
 | k + 1, s, R, r, I, hR, hr => by
  unfold Bkq at hr
  unfold Bdv
  rcases hq : AX8 s code.length with _ | a
  ·rw [hq] at hr
   dsimp only at hr ⊢
   cases hr
   refine ⟨_, Awv (r := .inr (R.Has, R.Frame, R.AJs, R.Taken)) ?_, ?_⟩
   ·unfold AOn
    dsimp only
    rw [Hw (by simp)]
   ·dsimp only
    rw [Mo rfl]
    exact ⟨R, rfl, hR⟩
  ·rw [hq] at hr
   dsimp only at hr ⊢
   obtain ⟨R', h1, h2⟩ := Bur h hl I hR (AZq hq).1
   by_cases h0 : (AO8 e code s a).2.1 ≠ 0
   ·rw [Mo h0] at hr
    cases hr
    refine ⟨_, Awv (r := .inl ([], (AO8 e code s a).1, (AO8 e code s a).2.1)) ?_, ?_⟩
    ·unfold AOn
     dsimp only
     rw [Mo (by rw [LX]; omega), show (⟨R.Has, R.Frame, R.AJs, R.Taken⟩ : Aiw) = R from rfl, show (⟨e.Classes, e.Akq, e.Fn⟩ : Adb) = e from rfl, h1, B3c]
     dsimp only
     rw [Mo (by rw [Ale]; exact h0)]
    ·rw [Hw h0]
   ·rw [Hw h0] at hr
    have h0' := Classical.not_not.1 h0
    have hR' := h2 h0'
    obtain ⟨J, _⟩ := Bk0 h I (AZq hq).1 h0'
    obtain ⟨o, o1, o2⟩ := Bsk h hl k _ R' r J hR' hr
    refine ⟨o, ?_, o2⟩
    rw [AGm (s' := (R'.Has, R'.Frame, R'.AJs, R'.Taken, Bdv (AO8 e code s a).2.2 code.length))]
    ·exact o1
    ·unfold AOn
     dsimp only
     rw [Mo (by rw [LX]; omega), show (⟨R.Has, R.Frame, R.AJs, R.Taken⟩ : Aiw) = R from rfl, show (⟨e.Classes, e.Akq, e.Fn⟩ : Adb) = e from rfl, h1, B3c]
     dsimp only
     rw [Hw (by rw [Ale]; exact h0), show (⟨R'.Has, R'.Frame, R'.AJs, R'.Taken⟩ : Aiw) = R' from rfl, But hR' (by omega), B3c]
def AQ7 (s : St) (n : Nat) : List A1g := (List.range n).filterMap fun a => (s.fr a).map fun f => ⟨(a : Int), false, f⟩
theorem Bd9 (s : St) (i : Nat) : AQ7 s (i + 1) = AQ7 s i ++ match s.fr i with
  | none => []
  | some f => [⟨(i : Int), false, f⟩] := by
 unfold AQ7
 rw [B3v, List.filterMap_append]
 congr 1
 rcases h : s.fr i with _ | f
 ·simp [h]
 ·simp [h]
theorem Bdo (s : St) : ∀ i, (AQ7 s i).length ≤ i
 | 0 => by simp [AQ7]
 | i + 1 => by
  have := Bdo s i
  rw [Bd9, B3f]
  split <;> simp <;> omega
theorem Bw4 {code : List UInt8} (hl : code.length ≤ 4096) {s : St} {R : Aiw} (hR : AVj code.length s R) : Aot (APl code (R.Has, R.Frame, R.AJs, R.Taken)) (([] : List A1g), 0) = some (AQ7 s code.length) := by
 refine ATa code.length (fun i => (AQ7 s i, (i : Int))) (fun i hi => ?_) ?_ rfl
 ·unfold APl
  dsimp only
  rw [Mo (by rw [LX]; omega), AVl (hR.has.2 i (by omega)), B3c, Bd9, wr1 (by omega)]
  rcases hf : s.fr i with _ | f
  ·rw [Hw (by simp)]; simp
  ·have := Bdo s i
   rw [Mo (by rfl), AVl (hR.frame.2 i (by omega) f hf), B3c, AL0 (by simp; omega), B3c]
 ·unfold APl
  dsimp only
  rw [Hw (by rw [LX]; omega)]
end Go.Proofs.YtfcpkcehecmcpaaGreat
namespace Go.Proofs.YtfcpkcehecmcpaaGreat
open Go Go.RowKit Go.Pv Go.Proofs.Tryz
structure AWm (e : Adb) (code : List UInt8) (s : St) (S : Ald) : Prop where
 env : S.e = e
 code : S.code = code
 fr : ∀ k : Int, A92 S.frames k = if 0 ≤ k then s.fr k.toNat else none
 frn : (S.frames.map Prod.fst).Nodup
 fresh : ∀ k : Int, (A92 S.fresh k).isSome = true ↔ (0 ≤ k ∧ s.new k.toNat = true)
 Bdy : (S.fresh.map Prod.fst).Nodup
 taken : ∀ b x : Int, A92 S.taken b = some x ↔ ∃ y : Nat, x = y ∧ 0 < s.tk y ∧ (y : Int) ≤ b ∧ b < y + s.tk y
theorem AWm.lay {e : Adb} {code : List UInt8} {s : St} {S : Ald} (h : AWm e code s S) (a : Nat) (f : Aas) (w : Int) : AWm e code ⟨upd s.fr a (some f), upd s.new a true, s.tk⟩ ⟨S.e, S.code, AQp S.frames (a : Int) f, AQp S.fresh (a : Int) (), S.taken, w⟩ := by
 refine ⟨h.env, h.code, fun k => ?_, Bcy h.frn _ _, fun k => ?_, Bcy h.Bdy _ _, h.taken⟩
 ·dsimp only
  rw [AZ6, h.fr k]
  by_cases hk : k = (a : Int)
  ·rw [Mo hk, Mo (by omega), hk, B35, AP9]
  ·rw [Hw hk]
   by_cases h0 : 0 ≤ k
   ·rw [Mo h0, Mo h0, upd_ne _ _ (by omega)]
   ·rw [Hw h0, Hw h0]
 ·dsimp only
  rw [AZ6]
  by_cases hk : k = (a : Int)
  ·rw [Mo hk, hk, B35, AP9]
   simp
  ·rw [Hw hk, h.fresh k]
   constructor
   ·rintro ⟨h0, h1⟩
    exact ⟨h0, by rw [upd_ne _ _ (by omega)]; exact h1⟩
   ·rintro ⟨h0, h1⟩
    rw [upd_ne _ _ (by omega)] at h1
    exact ⟨h0, h1⟩
theorem Bv3 {e : Adb} (h : AOl e) {code : List UInt8} {s : St} {S : Ald} (hS : AWm e code s S) (hs : ∀ a f, s.fr a = some f → Fok e.Classes f) (a : Nat) {g : Aas} (hg : Fok e.Classes g) :
  ∃ S', ASo S (a : Int) g = some ((AQy e.Classes s a g).2, S') ∧ AWm e code (AQy e.Classes s a g).1 S' ∧ ((AQy e.Classes s a g).2 ≠ 0 → S'.A3i = a) ∧ ((AQy e.Classes s a g).2 = 0 → S'.A3i = S.A3i) := by
 have i1 := hS.fr (a : Int)
 rw [Mo (by omega), B35] at i1
 unfold ASo AQy
 rw [i1]
 rcases hf : s.fr a with _ | f
 ·rw [Hw (by simp), B3c]
  dsimp only
  rw [Mo (by rfl)]
  exact ⟨_, rfl, hS.lay a g _, fun q => absurd rfl q, fun _ => rfl⟩
 ·rw [Mo (by rfl)]
  simp only [B3d]
  rw [show (⟨f.Locals, f.Height, f.Slots⟩ : Aas) = f from rfl, show (⟨g.Locals, g.Height, g.Slots⟩ : Aas) = g from rfl, hS.env, Bts h.good (hs a f hf) hg, B3c]
  by_cases hm : (APw e.Classes f g).2 ≠ 0
  ·rw [Mo (by rw [Ale]; exact hm), Mo hm, B3c]
   exact ⟨_, rfl, ⟨rfl, hS.code, hS.fr, hS.frn, hS.fresh, hS.Bdy, hS.taken⟩, fun _ => rfl, fun q => absurd q hm⟩
  ·rw [Hw (by rw [Ale]; exact hm), Hw hm, B3c]
   dsimp only
   rw [Hw (by simp)]
   by_cases hq : (APw e.Classes f g).1 = f
   ·rw [Hw (by rw [Bd7.2 hq]; simp), Mo hq]
    exact ⟨_, rfl, ⟨rfl, hS.code, hS.fr, hS.frn, hS.fresh, hS.Bdy, hS.taken⟩, fun q => absurd rfl q, fun _ => rfl⟩
   ·rw [Mo, Hw hq]
    ·have := hS.lay a (APw e.Classes f g).1 S.A3i
     rw [hS.env] at this
     exact ⟨_, rfl, this, fun q => absurd rfl q, fun _ => rfl⟩
    ·rw [Bool.not_eq_true', ← Bool.not_eq_true]
     exact fun q => hq (Bd7.1 q)
theorem Bld {e : Adb} (h : AOl e) {code : List UInt8} {st0 : Aas} {g : Aas} (hg : Fok e.Classes g) (x : List Int) (hx : x.length ≤ 1048576) :
  ∀ (ts : List Nat) (i : Nat) (s : St) (S : Ald), x.drop i = ints ts → Ba1 e code st0 s → (∀ t ∈ ts, t < code.length) → AWm e code s S →
   ∃ o, Aot (AN7 (g, 0) x) (S.e.Classes, S.e.Akq, S.e.Fn, S.code, S.A3i, S.frames, S.fresh, S.taken, (i : Int)) = some o ∧
    if (AP7 e.Classes g s ts).2.1 = 0 then ∃ S', o = .inr (S'.e.Classes, S'.e.Akq, S'.e.Fn, S'.code, S'.A3i, S'.frames, S'.fresh, S'.taken) ∧ AWm e code (AP7 e.Classes g s ts).2.2 S' else ∃ S', o = .inl ((AP7 e.Classes g s ts).2.1, S') ∧ S'.A3i = (AP7 e.Classes g s ts).1 ∧ S'.e = e ∧ S'.code = code
 | [], i, s, S, hd, I, _, hS => by
  have hi : x.length ≤ i := by
   unfold ints at hd
   rw [List.map_nil, List.drop_eq_nil_iff] at hd
   exact hd
  refine ⟨_, Awv (r := .inr (S.e.Classes, S.e.Akq, S.e.Fn, S.code, S.A3i, S.frames, S.fresh, S.taken)) ?_, ?_⟩
  ·unfold AN7
   dsimp only
   rw [Hw (by rw [LX]; omega)]
  ·unfold AP7
   rw [Mo rfl]
   exact ⟨S, rfl, hS⟩
 | t :: ts, i, s, S, hd, I, ht, hS => by
  have hi : i < x.length := by
   rcases Nat.lt_or_ge i x.length with q | q
   ·exact q
   ·rw [List.drop_eq_nil_iff.2 q] at hd; cases hd
  rw [List.drop_eq_getElem_cons hi] at hd
  unfold ints at hd
  rw [List.map_cons, List.cons.injEq] at hd
  obtain ⟨hd1, hd2⟩ := hd
  obtain ⟨S', hh, hS', hw1, hw2⟩ := Bv3 h hS I.fok t hg
  have hb : AN7 (g, 0) x (S.e.Classes, S.e.Akq, S.e.Fn, S.code, S.A3i, S.frames, S.fresh, S.taken, (i : Int)) = if (AQy e.Classes s t g).2 ≠ 0 then some (.inr (.inl ((AQy e.Classes s t g).2, S'))) else some (.inl (S'.e.Classes, S'.e.Akq, S'.e.Fn, S'.code, S'.A3i, S'.frames, S'.fresh, S'.taken, ((i + 1 : Nat) : Int))) := by
   unfold AN7
   dsimp only
   rw [Mo (by rw [LX]; omega), Ayt hi, hd1, B3c, show (⟨(⟨S.e.Classes, S.e.Akq, S.e.Fn⟩ : Adb), S.code, S.frames, S.fresh, S.taken, S.A3i⟩ : Ald) = S from rfl, show (⟨g.Locals, g.Height, g.Slots⟩ : Aas) = g from rfl, hh, B3c]
   dsimp only
   by_cases hq : (AQy e.Classes s t g).2 ≠ 0
   ·rw [Mo hq, Mo (by rw [Ale]; exact hq)]
   ·rw [Hw hq, Hw (by rw [Ale]; exact hq), wr1 (by omega)]
  unfold AP7
  by_cases hq : (AQy e.Classes s t g).2 ≠ 0
  ·rw [Mo hq] at hb ⊢
   refine ⟨_, Awv hb, ?_⟩
   dsimp only
   rw [Hw hq]
   exact ⟨S', rfl, hw1 hq, hS'.env, hS'.code⟩
  ·rw [Hw hq] at hb ⊢
   obtain ⟨a1, a2, a3, f, a4, a5⟩ := Bm9 h I (ht t (by simp)) hg (Classical.not_not.1 hq)
   obtain ⟨o, h1, h2⟩ := Bld h hg x hx ts (i + 1) _ S' hd2 a1 (fun y hy => ht y (by simp [hy])) hS'
   exact ⟨o, by rw [AGm hb]; exact h1, h2⟩
theorem Bvj {e : Adb} {code : List UInt8} {s : St} {S : Ald} (hS : AWm e code s S) {n a k : Nat} {i : Ads} (hA : i.At = a) (hk : siz i.Op = k) (hk0 : 0 < k) (hn : a + k ≤ n) (hn2 : n ≤ 1048576) (hdom : ∀ x, 0 < s.tk x → x ≤ n) (hsame : 0 < s.tk a → s.tk a = k) :
  ∃ S', AS7 S i = some (!AVd s n a k, S') ∧ S'.e = e ∧ S'.code = code ∧ S'.A3i = S.A3i ∧ (AVd s n a k = false → AWm e code (Proofs.YtfcpkcehecmcpaaGreat.lay s a k) S') := by
 have hover : AVd s n a k = false ↔ ∀ j, j < k → ∀ x : Int, A92 S.taken ((a : Int) + j) = some x → x = a := by
  rw [Bdd]
  constructor
  ·intro h j hj x hx
   obtain ⟨y, rfl, h1, h2, h3⟩ := (hS.taken _ _).1 hx
   by_cases hya : y = a
   ·rw [hya]
   ·exact absurd (show y < a + k by omega) (h y (hdom y h1) h1 hya (by omega))
  ·intro h y hy h1 h2 h3 h4
   by_cases hle : y ≤ a
   ·have := h 0 (by omega) (y : Int) ((hS.taken _ _).2 ⟨y, rfl, h1, by omega, by omega⟩)
    omega
   ·have := h (y - a) (by omega) (y : Int) ((hS.taken _ _).2 ⟨y, rfl, h1, by omega, by omega⟩)
    omega
 have step : ∀ (T : List (Int × Int)) (j : Nat), j < k → ANi S i (T, (a : Int) + j) = if (∃ x : Int, A92 T ((a : Int) + j) = some x ∧ x ≠ a) then some (.inr (.inl (false, ⟨S.e, S.code, S.frames, S.fresh, T, S.A3i⟩))) else some (.inl (AQp T ((a : Int) + j) a, (a : Int) + (j + 1 : Nat))) := by
  intro T j hj
  unfold ANi
  rw [size_eq, AU1, B3c, hA, hk, ANa (n := (a : Int) + (k : Int)) (by omega) (by omega)]
  dsimp only
  rw [Mo (by rw [LX]; omega), ANa (by omega) (by omega)]
  rcases hx : A92 T ((a : Int) + (j : Int)) with _ | x
  ·rw [Hw (by simp), Hw (by rintro ⟨x, q, _⟩; cases q), show (a : Int) + (j : Int) + 1 = (a : Int) + ((j + 1 : Nat) : Int) by omega]
  ·rw [Mo (by rfl), B3d]
   by_cases hxa : x = a
   ·rw [Hw (by simp [hxa]), Hw (by rintro ⟨y, q, q2⟩; cases q; exact q2 hxa), show (a : Int) + (j : Int) + 1 = (a : Int) + ((j + 1 : Nat) : Int) by omega]
   ·rw [Mo (by rw [Ale]; exact hxa), Mo ⟨x, rfl, hxa⟩]
 have stop : ∀ T : List (Int × Int), ANi S i (T, (a : Int) + k) = some (.inr (.inr T)) := by
  intro T
  unfold ANi
  rw [size_eq, AU1, B3c, hA, hk, ANa (n := (a : Int) + (k : Int)) (by omega) (by omega)]
  dsimp only
  rw [Hw (by rw [LX]; omega)]
 have key : ∀ m j T, j + m = k → (∀ b : Int, A92 T b = if (a : Int) ≤ b ∧ b < a + j then some (a : Int) else A92 S.taken b) →
   ((∀ j', j ≤ j' → j' < k → ∀ x : Int, A92 S.taken ((a : Int) + j') = some x → x = a) ∧ ∃ T', Aot (ANi S i) (T, (a : Int) + j) = some (.inr T') ∧ ∀ b : Int, A92 T' b = if (a : Int) ≤ b ∧ b < a + k then some (a : Int) else A92 S.taken b) ∨
   ((∃ j', j ≤ j' ∧ j' < k ∧ ∃ x : Int, A92 S.taken ((a : Int) + j') = some x ∧ x ≠ a) ∧ ∃ T', Aot (ANi S i) (T, (a : Int) + j) = some (.inl (false, ⟨S.e, S.code, S.frames, S.fresh, T', S.A3i⟩))) := by
  intro m
  induction m with
  | zero =>
   intro j T hj hT
   have : j = k := by omega
   subst this
   exact Or.inl ⟨fun j' h1 h2 => by omega, T, Awv (stop T), hT⟩
  | succ m ih =>
   intro j T hj hT
   have hs := step T j (by omega)
   have hTj : A92 T ((a : Int) + j) = A92 S.taken ((a : Int) + j) := by rw [hT, Hw (by omega)]
   rw [hTj] at hs
   by_cases hbad : ∃ x : Int, A92 S.taken ((a : Int) + j) = some x ∧ x ≠ a
   ·rw [Mo hbad] at hs
    exact Or.inr ⟨⟨j, Nat.le_refl _, by omega, hbad⟩, T, Awv hs⟩
   ·rw [Hw hbad] at hs
    have hok : ∀ x : Int, A92 S.taken ((a : Int) + j) = some x → x = a := fun x hx => Classical.byContradiction fun q => hbad ⟨x, hx, q⟩
    rcases ih (j + 1) (AQp T ((a : Int) + j) a) (by omega) (fun b => by
     rw [AZ6, hT b]
     by_cases hb : b = (a : Int) + j
     ·rw [Mo hb, Mo (by omega)]
     ·rw [Hw hb]
      by_cases hb2 : (a : Int) ≤ b ∧ b < a + j
      ·rw [Mo hb2, Mo (by omega)]
      ·rw [Hw hb2, Hw (by omega)]) with ⟨h1, T', h2, h3⟩ | ⟨⟨j', h1, h2, h3⟩, T', h4⟩
    ·refine Or.inl ⟨fun j' q1 q2 => ?_, T', by rw [AGm hs]; exact h2, h3⟩
     by_cases hjj : j' = j
     ·subst hjj; exact hok
     ·exact h1 j' (by omega) q2
    ·exact Or.inr ⟨⟨j', by omega, h2, h3⟩, T', by rw [AGm hs]; exact h4⟩
 unfold AS7
 rw [hA]
 rcases key k 0 S.taken (by omega) (fun b => by rw [Hw (by omega)]) with ⟨h1, T', h2, h3⟩ | ⟨⟨j, h1, h2, x, h3, h4⟩, T', h5⟩
 ·have ho : AVd s n a k = false := hover.2 fun j hj => h1 j (by omega) hj
  rw [show (a : Int) + ((0 : Nat) : Int) = a by omega] at h2
  rw [h2, B3c, ho]
  refine ⟨_, rfl, hS.env, hS.code, rfl, fun _ => ⟨hS.env, hS.code, hS.fr, hS.frn, hS.fresh, hS.Bdy, fun b x => ?_⟩⟩
  dsimp only
  rw [h3 b]
  unfold Proofs.YtfcpkcehecmcpaaGreat.lay
  dsimp only
  by_cases hb : (a : Int) ≤ b ∧ b < a + k
  ·rw [Mo hb]
   constructor
   ·intro q
    cases q
    exact ⟨a, rfl, by rw [AP9]; omega, hb.1, by rw [AP9]; omega⟩
   ·rintro ⟨y, rfl, q1, q2, q3⟩
    by_cases hya : y = a
    ·rw [hya]
    ·rw [upd_ne _ _ hya] at q1 q3
     exact absurd (show y < a + k by omega) (Bdd.1 ho y (hdom y q1) q1 hya (by omega))
  ·rw [Hw hb, hS.taken]
   constructor
   ·rintro ⟨y, rfl, q1, q2, q3⟩
    by_cases hya : y = a
    ·subst hya
     have := hsame q1
     omega
    ·exact ⟨y, rfl, by rw [upd_ne _ _ hya]; exact q1, q2, by rw [upd_ne _ _ hya]; exact q3⟩
   ·rintro ⟨y, rfl, q1, q2, q3⟩
    by_cases hya : y = a
    ·subst hya
     rw [AP9] at q3
     omega
    ·rw [upd_ne _ _ hya] at q1 q3
     exact ⟨y, rfl, q1, q2, q3⟩
 ·have ho : AVd s n a k = true := by
   rcases hq : AVd s n a k with _ | _
   ·exact absurd (hover.1 hq j h2 x h3) h4
   ·rfl
  rw [show (a : Int) + ((0 : Nat) : Int) = a by omega] at h5
  rw [h5, B3c, ho]
  exact ⟨_, rfl, hS.env, hS.code, rfl, fun q => by cases q⟩
theorem Bvv {i : Ads} (h0 : ATz i.Op = true → 0 ≤ i.A) (h1 : 0 ≤ i.At) (x : Int) : x ∈ ints (ATd i) ↔ (ATz i.Op = true ∧ x = i.A) ∨ (AVi i.Op = false ∧ x = i.At + siz i.Op) := by
 obtain ⟨b, hb⟩ : ∃ b : Nat, i.At + (siz i.Op : Int) = b := ⟨(i.At + siz i.Op).toNat, by omega⟩
 unfold ints ATd
 rw [hb]
 rcases hj : ATz i.Op with _ | _
 ·rcases he : AVi i.Op with _ | _ <;> simp
 ·obtain ⟨k, hk⟩ := B36 (h0 hj)
  rw [hk]
  rcases he : AVi i.Op with _ | _
  ·by_cases hlt : k < b
   ·have : ¬ k > b := by omega
    simp [hlt, this]
   ·by_cases hgt : k > b
    ·simp [hlt, hgt, or_comm]
    ·have : k = b := by omega
     simp [this]
  ·simp
theorem Bqw {i : Ads} (h0 : ATz i.Op = true → 0 ≤ i.A) (h1 : 0 ≤ i.At) : (ints (ATd i)).Pairwise (· < ·) := by
 obtain ⟨b, hb⟩ : ∃ b : Nat, i.At + (siz i.Op : Int) = b := ⟨(i.At + siz i.Op).toNat, by omega⟩
 unfold ints ATd
 rw [hb]
 rcases hj : ATz i.Op with _ | _
 ·rcases he : AVi i.Op with _ | _ <;> simp
 ·obtain ⟨k, hk⟩ := B36 (h0 hj)
  rw [hk]
  rcases he : AVi i.Op with _ | _
  ·by_cases hlt : k < b
   ·have : ¬ k > b := by omega
    simp [hlt, this]
   ·by_cases hgt : k > b
    ·simp [hlt, hgt]
    ·simp [hlt, hgt]
  ·simp
end Go.Proofs.YtfcpkcehecmcpaaGreat
namespace Go.Proofs.YtfcpkcehecmcpaaGreat
open Go Go.RowKit Go.Pv Go.Proofs.Tryz
theorem Bx9 {l : List Int} (hl : l.length ≤ 8) {r : List Int} (hr : r.Pairwise (· < ·)) (hm : ∀ a, a ∈ r ↔ a ∈ l) : ∃ x, Bgg l = some x ∧ AZ2 x = some r := by
 obtain ⟨r', h1, h2, h3⟩ := Be1 l (by omega)
 obtain ⟨x, hx, hx2⟩ := Option.bind_eq_some_iff.1 h1
 refine ⟨x, hx, ?_⟩
 rw [hx2, Bcv h2 hr fun a => (h3 a).trans (hm a).symm]
theorem Bta {e : Adb} (h : AOl e) {code : List UInt8} (hl : code.length ≤ 4096) {st0 : Aas} {s : St} {S : Ald} (I : Inv e code st0 s) {a : Nat} (ha : s.new a = true) (hS : AWm e code (off s a) S) :
  ∃ S', ASj S (a : Int) = some ((AO8 e code s a).2.1, S') ∧ S'.e = e ∧ S'.code = code ∧ ((AO8 e code s a).2.1 = 0 → AWm e code (AO8 e code s a).2.2 S') ∧ ((AO8 e code s a).2.1 ≠ 0 → S'.A3i = (AO8 e code s a).1) := by
 obtain ⟨f, hf⟩ := Ba4 (I.new a ha)
 have hfok := I.fok a f hf
 have han : a ≤ code.length := by rcases I.dom a (I.new a ha) with q | q <;> omega
 unfold ASj AO8
 rw [hf, B3d, hS.code]
 by_cases hn : a < code.length
 ·rw [Hw (by rw [Agq]; omega), (Bkw (show code.length ≤ big by simp only [big]; omega) hn).2, B3c]
  by_cases h1 : (Avy code a).2 ≠ 0
  ·rw [Mo (by rw [Ale]; exact h1), Mo h1]
   exact ⟨_, rfl, hS.env, rfl, fun q => absurd q h1, fun _ => rfl⟩
  rw [Hw (by rw [Ale]; exact h1), Hw h1]
  have h1' := AWv (Classical.not_not.1 h1)
  have hS0 : AWm e code (off s a) ⟨⟨S.e.Classes, S.e.Akq, S.e.Fn⟩, code, S.frames, S.fresh, S.taken, (a : Int)⟩ := ⟨hS.env, rfl, hS.fr, hS.frn, hS.fresh, hS.Bdy, hS.taken⟩
  obtain ⟨S1, t1, t2, t3, t4, t5⟩ := Bvj hS0 (n := code.length) h1'.2.1 rfl h1'.2.2.1 h1'.2.2.2.1 (by omega) (fun x hx => by
   rcases I.dom x (I.tk x hx).1 with q | q <;> omega) (fun hx => (I.tk a hx).2.2)
  rw [show (⟨(Avy code a).1.At, (Avy code a).1.Op, (Avy code a).1.A, (Avy code a).1.B⟩ : Ads) = (Avy code a).1 from rfl, t1, B3c]
  dsimp only
  by_cases h2 : AVd (off s a) code.length a (siz (Avy code a).1.Op) = true
  ·rw [h2, Mo (by rfl), Mo rfl]
   exact ⟨_, rfl, t2, t3, fun q => (by cases q), fun _ => t4⟩
  have h2f : AVd (off s a) code.length a (siz (Avy code a).1.Op) = false := by simpa using h2
  have hS1 := t5 h2f
  rw [h2f, Hw (show ¬ ((!(!false)) = true) by simp), Hw (show ¬ (false = true) by simp)]
  have hfr1 : A92 S1.frames (a : Int) = some f := by
   rw [hS1.fr, Mo (by omega), B35]
   exact hf
  rw [t2, hfr1, B3d, show (⟨e.Classes, e.Akq, e.Fn⟩ : Adb) = e from rfl, Bva h hfok, B3c]
  by_cases h3 : (AR1 e f (Avy code a).1).2 ≠ 0
  ·rw [Mo (by rw [Ale]; exact h3), Mo h3]
   exact ⟨_, rfl, rfl, t3, fun q => absurd q h3, fun _ => t4⟩
  have h3' := Classical.not_not.1 h3
  rw [Hw (by rw [Ale]; exact h3), Hw h3, size_eq, AU1, B3c, Bla, B3c, Bom, t3]
  unfold onV
  by_cases h4 : ATz (Avy code a).1.Op = true ∧ (Avy code a).1.A ≥ code.length
  ·rw [Mo h4.1, Mo (by rw [LX]; exact h4.2), Mo h4, Mo (by simp), B3c]
   exact ⟨_, rfl, rfl, rfl, fun q => (by cases q), fun _ => t4⟩
  rw [Hw h4]
  obtain ⟨p, hp, hpm, hpl⟩ : ∃ p : List Int, (if ATz (Avy code a).1.Op = true then (if decide ((Avy code a).1.A ≥ (code.length : Int)) = true then (some (Sum.inl ((50 : Int), (⟨e, code, S1.frames, S1.fresh, S1.taken, S1.A3i⟩ : Ald)) : (Int × Ald) ⊕ List Int)) else ((app 17592186044416 ([] : List Int) ([(Avy code a).1.A] : List Int)).bind fun x573 => some (.inr (x573)))) else (some (.inr []))) = some (.inr p) ∧ (∀ x, x ∈ p ↔ ATz (Avy code a).1.Op = true ∧ x = (Avy code a).1.A) ∧ p.length ≤ 1 := by
   by_cases hj : ATz (Avy code a).1.Op = true
   ·rw [Mo hj, Hw (by rw [LX]; exact fun q => h4 ⟨hj, q⟩), AL0 (by simp), B3c]
    exact ⟨_, rfl, fun x => by simp [hj], by simp⟩
   ·rw [Hw hj]
    exact ⟨_, rfl, fun x => by simp [hj], by simp⟩
  rw [hp, B3c]
  dsimp only
  rw [B3c, ANa (n := (a : Int) + (siz (Avy code a).1.Op : Int)) (by omega) (by omega)]
  by_cases h5 : AVi (Avy code a).1.Op = false ∧ (Avy code a).1.At + siz (Avy code a).1.Op = code.length
  ·rw [Mo (by rw [h5.1]; rfl), Mo (by rw [Agq, ← h1'.2.1]; exact h5.2), Mo h5, Mo (by simp), B3c]
   exact ⟨_, rfl, rfl, rfl, fun q => (by cases q), fun _ => t4⟩
  rw [Hw h5, Hw (show ¬ ((ATd (Avy code a).1, (0 : Int)).2 ≠ 0) from fun q => q rfl)]
  obtain ⟨p2, hp2, hpm2, hpl2⟩ : ∃ p2 : List Int, (if (!AVi (Avy code a).1.Op) = true then (if ((a : Int) + (siz (Avy code a).1.Op : Int) == (code.length : Int)) = true then (some (Sum.inl ((51 : Int), (⟨e, code, S1.frames, S1.fresh, S1.taken, S1.A3i⟩ : Ald)) : (Int × Ald) ⊕ List Int)) else ((app 17592186044416 p ([(a : Int) + (siz (Avy code a).1.Op : Int)] : List Int)).bind fun x848 => some (.inr (x848)))) else (some (.inr p))) = some (.inr p2) ∧ (∀ x, x ∈ p2 ↔ x ∈ ints (ATd (Avy code a).1)) ∧ p2.length ≤ 2 := by
   have hnm := Bvv (i := (Avy code a).1) (Bmc (Classical.not_not.1 h1)) (by rw [h1'.2.1]; omega)
   by_cases he : AVi (Avy code a).1.Op = true
   ·rw [Hw (by simp [he])]
    refine ⟨_, rfl, fun x => ?_, by omega⟩
    rw [hpm, hnm]
    constructor
    ·exact Or.inl
    ·rintro (q | q)
     ·exact q
     ·rw [he] at q; cases q.1
   ·have he' : AVi (Avy code a).1.Op = false := by simpa using he
    rw [Mo (by simp [he']), Hw (by rw [Agq, ← h1'.2.1]; exact fun q => h5 ⟨he', q⟩), AL0 (by simp; omega), B3c]
    refine ⟨_, rfl, fun x => ?_, by simp; omega⟩
    rw [B3k, hpm, hnm, B3l, h1'.2.1]
    constructor
    ·rintro (q | q)
     ·exact Or.inl q
     ·exact Or.inr ⟨he', q⟩
    ·rintro (q | q)
     ·exact Or.inl q
     ·exact Or.inr q.2
  rw [hp2, B3c]
  dsimp only
  obtain ⟨x1, hx1, hx2⟩ := Bx9 (l := p2) (by omega) (Bqw (i := (Avy code a).1) (Bmc (Classical.not_not.1 h1)) (by rw [h1'.2.1]; omega)) (fun x => (hpm2 x).symm)
  rw [hx1, B3c, hx2, B3c]
  have happ := Bdl h hfok (Avy code a).1 h3'
  have honv : onV (Avy code a).1 code.length = (ATd (Avy code a).1, 0) := by unfold onV; rw [Hw h4, Hw h5]
  obtain ⟨_, on2⟩ := Bls h1'.2.1 h1'.2.2.2.1 (by omega) (by rw [honv])
  have I1 : Ba1 e code st0 (lay (off s a) a (siz (Avy code a).1.Op)) := Bku I ha (Classical.not_not.1 h1) h2f
  have hx8 : (ints (ATd (Avy code a).1)).length ≤ 1048576 := by
   unfold ints ATd
   rw [B3g, B3f, B3f]
   split <;> split <;> split <;> simp
  obtain ⟨o, ho1, ho2⟩ := Bld h happ.1 (ints (ATd (Avy code a).1)) hx8 (ATd (Avy code a).1) 0 _ _ (by rw [List.drop_zero]) I1 on2 hS1
  have hpair : (AR1 e f (Avy code a).1) = ((AR1 e f (Avy code a).1).1, (0 : Int)) := Prod.ext rfl h3'
  rw [hpair]
  rw [show ((0 : Nat) : Int) = 0 from rfl, t2, t3] at ho1
  dsimp only at ho1 ⊢
  rw [ho1, B3c]
  by_cases hz : (AP7 e.Classes (AR1 e f (Avy code a).1).1 (lay (off s a) a (siz (Avy code a).1.Op)) (ATd (Avy code a).1)).2.1 = 0
  ·rw [Mo hz] at ho2
   obtain ⟨S', rfl, hS'⟩ := ho2
   dsimp only
   rw [hz]
   exact ⟨S', rfl, hS'.env, hS'.code, fun _ => hS', fun q => absurd rfl q⟩
  ·rw [Hw hz] at ho2
   obtain ⟨S', rfl, hw, he1, he2⟩ := ho2
   exact ⟨S', rfl, he1, he2, fun q => absurd q hz, fun _ => hw⟩
 ·rw [Mo (by rw [Agq]; omega), Bnt hn]
  dsimp only
  rw [Mo (by omega)]
  exact ⟨_, rfl, hS.env, rfl, fun q => (by cases q), fun _ => rfl⟩
theorem AWm.off {e : Adb} {code : List UInt8} {s : St} {S : Ald} (h : AWm e code s S) (a : Nat) : AWm e code (off s a) ⟨S.e, S.code, S.frames, AUg S.fresh (a : Int), S.taken, S.A3i⟩ := by
 refine ⟨h.env, h.code, h.fr, h.frn, fun k => ?_, Btc h.Bdy _, h.taken⟩
 dsimp only
 rw [Bn2 _ _ _ h.Bdy]
 unfold Proofs.YtfcpkcehecmcpaaGreat.off
 dsimp only
 by_cases hk : k = (a : Int)
 ·rw [Mo hk, hk, B35, AP9]
  simp
 ·rw [Hw hk, h.fresh k]
  constructor
  ·rintro ⟨h0, h1⟩
   exact ⟨h0, by rw [upd_ne _ _ (by omega)]; exact h1⟩
  ·rintro ⟨h0, h1⟩
   rw [upd_ne _ _ (by omega)] at h1
   exact ⟨h0, h1⟩
theorem Bpi {e : Adb} (h : AOl e) {code : List UInt8} (hl : code.length ≤ 4096) {st0 : Aas} : ∀ (k : Nat) (s : St) (S : Ald) (r : Int × Int × St), Inv e code st0 s → AWm e code s S → Bkq e code k s = some r →
  ∃ S', Aot (ARm code) (S.e.Classes, S.e.Akq, S.e.Fn, S.code, S.A3i, S.taken, S.fresh, S.frames, 0) = some (S'.e.Classes, S'.e.Akq, S'.e.Fn, S'.code, S'.A3i, S'.frames, S'.fresh, S'.taken, r.2.1) ∧ (r.2.1 = 0 → AWm e code r.2.2 S') ∧ (r.2.1 ≠ 0 → S'.A3i = r.1)
 | 0, s, S, r, _, _, hr => by cases hr
 | k + 1, s, S, r, I, hS, hr => by
  unfold Bkq at hr
  rcases hq : AX8 s code.length with _ | a
  ·rw [hq] at hr
   dsimp only at hr
   cases hr
   have hnil : S.fresh = [] := by
    rcases hfr : S.fresh with _ | ⟨p, l⟩
    ·rfl
    ·have := (hS.fresh p.1).1 ((AXl _ _).2 (by rw [hfr]; simp))
     have hd := I.dom p.1.toNat (I.new _ this.2)
     have := Beo hq p.1.toNat (by omega)
     rw [‹0 ≤ p.1 ∧ s.new p.1.toNat = true›.2] at this
     cases this
   refine ⟨S, Awv ?_, fun _ => hS, fun q => absurd rfl q⟩
   unfold ARm
   dsimp only
   rw [hnil, Hw (by simp)]
  ·rw [hq] at hr
   dsimp only at hr
   obtain ⟨l1, l2, l3⟩ := AZq hq
   have hmem : (a : Int) ∈ S.fresh.map Prod.fst := (AXl _ _).1 ((hS.fresh a).2 ⟨by omega, by rw [B35]; exact l1⟩)
   have hpos : decide ((S.fresh.length : Int) > 0) = true := by
    rw [LX]
    rcases hfr : S.fresh with _ | ⟨p, l⟩
    ·rw [hfr] at hmem; cases hmem
    ·simp
   obtain ⟨m, m1, m2, m3, m4⟩ := Bt4 S.fresh (code.length : Int)
   have hma : m = (a : Int) := by
    have := m4 _ hmem
    rcases m2 with q | q
    ·omega
    ·obtain ⟨q1, q2⟩ := (hS.fresh m).1 ((AXl _ _).2 q)
     rcases Nat.lt_or_ge m.toNat a with q3 | q3
     ·rw [l3 _ q3] at q2; cases q2
     ·omega
   rw [hma] at m1
   obtain ⟨S', v1, v2, v3, v4, v5⟩ := Bta h hl I l1 (hS.off a)
   have hb : ARm code (S.e.Classes, S.e.Akq, S.e.Fn, S.code, S.A3i, S.taken, S.fresh, S.frames, 0) = if (AO8 e code s a).2.1 ≠ 0 then some (.inr (S'.e.Classes, S'.e.Akq, S'.e.Fn, S'.code, S'.A3i, S'.frames, S'.fresh, S'.taken, (AO8 e code s a).2.1)) else some (.inl (S'.e.Classes, S'.e.Akq, S'.e.Fn, S'.code, S'.A3i, S'.taken, S'.fresh, S'.frames, (AO8 e code s a).2.1)) := by
    unfold ARm
    dsimp only
    rw [Mo hpos, m1, B3c]
    unfold Bs9
    dsimp only
    rw [B3c, show (⟨(⟨S.e.Classes, S.e.Akq, S.e.Fn⟩ : Adb), S.code, S.frames, AUg S.fresh (a : Int), S.taken, S.A3i⟩ : Ald) = ⟨S.e, S.code, S.frames, AUg S.fresh (a : Int), S.taken, S.A3i⟩ from rfl, v1, B3c]
    by_cases h0 : (AO8 e code s a).2.1 ≠ 0
    ·rw [Mo h0, Mo (by rw [Ale]; exact h0)]
    ·rw [Hw h0, Hw (by rw [Ale]; exact h0)]
   by_cases h0 : (AO8 e code s a).2.1 ≠ 0
   ·rw [Mo h0] at hr hb
    cases hr
    exact ⟨S', Awv hb, fun q => absurd q h0, v5⟩
   ·rw [Hw h0] at hr hb
    have h0' := Classical.not_not.1 h0
    obtain ⟨J, _⟩ := Bk0 h I l1 h0'
    obtain ⟨S2, o1, o2, o3⟩ := Bpi h hl k _ S' r J (v4 h0') hr
    rw [h0'] at hb
    exact ⟨S2, by rw [AGm hb]; exact o1, o2, o3⟩
theorem Bx6 {e : Adb} {code : List UInt8} (hl : code.length ≤ 4096) {st0 : Aas} {s : St} {S : Ald} (I : Inv e code st0 s) (hS : AWm e code s S) (hne : 0 < code.length) : Bk6 S.frames = some ((AQ7 s code.length).map fun x => x.At) := by
 have hmem : ∀ k : Int, k ∈ S.frames.map Prod.fst ↔ 0 ≤ k ∧ k < code.length ∧ (s.fr k.toNat).isSome = true := by
  intro k
  rw [← AXl, hS.fr]
  by_cases h0 : 0 ≤ k
  ·rw [Mo h0]
   constructor
   ·intro q
    refine ⟨h0, ?_, q⟩
    rcases I.dom _ q with q2 | q2 <;> omega
   ·rintro ⟨_, _, q⟩; exact q
  ·rw [Hw h0]
   constructor
   ·intro q; cases q
   ·rintro ⟨q, _⟩; exact absurd q h0
 have hent : ∀ n, ((AQ7 s n).map fun x => x.At).Pairwise (· < ·) ∧ ∀ k : Int, k ∈ ((AQ7 s n).map fun x => x.At) ↔ 0 ≤ k ∧ k < n ∧ (s.fr k.toNat).isSome = true := by
  intro n
  induction n with
  | zero =>
   refine ⟨by simp [AQ7], fun k => ?_⟩
   simp [AQ7]
   omega
  | succ n ih =>
   rw [Bd9, B3r]
   rcases hf : s.fr n with _ | f
   ·simp only [List.map_nil, B3w]
    refine ⟨ih.1, fun k => ?_⟩
    rw [ih.2]
    constructor
    ·rintro ⟨q1, q2, q3⟩; exact ⟨q1, by omega, q3⟩
    ·rintro ⟨q1, q2, q3⟩
     refine ⟨q1, ?_, q3⟩
     by_cases hk : k.toNat = n
     ·rw [hk, hf] at q3; cases q3
     ·omega
   ·simp only [List.map_cons, List.map_nil]
    refine ⟨?_, fun k => ?_⟩
    ·rw [B3z]
     refine ⟨ih.1, List.pairwise_singleton _ _, fun x hx y hy => ?_⟩
     rw [B3l] at hy
     have := (ih.2 x).1 hx
     omega
    ·rw [B3k, ih.2, B3l]
     constructor
     ·rintro (⟨q1, q2, q3⟩ | q)
      ·exact ⟨q1, by omega, q3⟩
      ·subst q
       exact ⟨by omega, by omega, by rw [B35, hf]; rfl⟩
     ·rintro ⟨q1, q2, q3⟩
      by_cases hk : k = (n : Int)
      ·exact Or.inr hk
      ·exact Or.inl ⟨q1, by omega, q3⟩
 obtain ⟨he1, he2⟩ := hent code.length
 have hsort : AQx (S.frames.map Prod.fst) = ((AQ7 s code.length).map fun x => x.At) := Bcv (Brh hS.frn) he1 fun k => by rw [Bnm, hmem, he2]
 have hlen : S.frames.length ≤ 4096 := by
  have h1 := congrArg List.length hsort
  rw [Boc, B3g, B3g] at h1
  have := Bdo s code.length
  omega
 unfold Bk6
 rw [Mo, hsort]
 rw [B37, LX, List.all_eq_true]
 refine ⟨by omega, fun p hp => ?_⟩
 have := (hmem p.1).1 (List.mem_map.2 ⟨p, hp, rfl⟩)
 rw [B37, LX, LX]
 omega
theorem Bgk {s : St} {n : Nat} : ∀ x ∈ AQ7 s n, x.Dead = false ∧ 0 ≤ x.At ∧ x.At < n ∧ s.fr x.At.toNat = some x.Frame := by
 intro x hx
 unfold AQ7 at hx
 rw [List.mem_filterMap] at hx
 obtain ⟨a, ha, hx⟩ := hx
 rw [Option.map_eq_some_iff] at hx
 obtain ⟨f, hf, rfl⟩ := hx
 rw [B3o] at ha
 exact ⟨rfl, by dsimp only; omega, by dsimp only; omega, by dsimp only; rw [B35]; exact hf⟩
theorem Buj {e : Adb} {code : List UInt8} (hl : code.length ≤ 4096) {s : St} {S : Ald} (hS : AWm e code s S) : Aot (ASb S ((AQ7 s code.length).map fun x => x.At)) (([] : List A1g), 0) = some (AQ7 s code.length) := by
 have hlen := Bdo s code.length
 have := AW5 (AQ7 s code.length) id (body := ASb S ((AQ7 s code.length).map fun x => x.At)) (fun i hi acc ha => by
  unfold ASb
  dsimp only
  obtain ⟨q1, q2, q3, q4⟩ := Bgk _ (B3q hi)
  rw [B3g, Mo (by rw [LX]; omega), show idx ((AQ7 s code.length).map fun x => x.At) (i : Int) = some ((AQ7 s code.length)[i].At) from by rw [Ayt (by rw [B3g]; exact hi), List.getElem_map], B3c, hS.fr, Mo q2, q4, B3d, AL0 (by simp; omega), B3c, wr1 (by omega)]
  have : (⟨(AQ7 s code.length)[i].At, false, ⟨(AQ7 s code.length)[i].Frame.Locals, (AQ7 s code.length)[i].Frame.Height, (AQ7 s code.length)[i].Frame.Slots⟩⟩ : A1g) = (AQ7 s code.length)[i] := by
   generalize (AQ7 s code.length)[i] = x at *
   obtain ⟨A, D, F⟩ := x
   dsimp only at q1
   rw [q1]
  rw [this]
  rfl) (fun acc => by
  unfold ASb
  dsimp only
  rw [B3g, Hw (by rw [LX]; omega)])
 rw [List.map_id] at this
 exact this
end Go.Proofs.YtfcpkcehecmcpaaGreat
namespace Go.Proofs.YtfcpkcehecmcpaaGreat
open Go Go.RowKit Go.Pv Go.Proofs.Tryz
structure Bsh (e : Adb) (L : Int) (code : List UInt8) (l : List A1g) : Prop where
 env : AOl e
 few : code.length ≤ 4096
 pos : 0 < code.length
 ex : ∃ s st0, Byv e.Classes (Bc1 e).Ars L st0 ∧ Inv e code st0 s ∧ (∀ b, s.new b = false) ∧ l = AQ7 s code.length
theorem Bxk (e : Adb) (code : List UInt8) (f : Aas) (w : Int) : AWm e code (st1 f) ⟨e, code, AQp [] 0 f, AQp [] 0 (), [], w⟩ := by
 refine ⟨rfl, rfl, fun k => ?_, by simp [AQp], fun k => ?_, by simp [AQp], fun b x => ?_⟩
 ·unfold st1
  dsimp only
  rw [AZ6]
  by_cases hk : k = 0
  ·rw [Mo hk, Mo (by omega), Mo (by omega)]
  ·rw [Hw hk]
   by_cases h0 : 0 ≤ k
   ·rw [Mo h0, Hw (by omega)]; rfl
   ·rw [Hw h0]; rfl
 ·unfold st1
  dsimp only
  rw [AZ6]
  by_cases hk : k = 0
  ·rw [Mo hk, hk]; simp
  ·rw [Hw hk]
   constructor
   ·intro q; cases q
   ·rintro ⟨q1, q2⟩
    rw [LX] at q2
    omega
 ·unfold st1
  dsimp only
  constructor
  ·intro q; cases q
  ·rintro ⟨y, _, q, _⟩; omega
theorem Biv {α : Type} {n : Nat} {x : α} {a : Nat} (h : a ≤ n) : (List.replicate (n + 1) x)[a]? = some x := by
 rw [B3e (by rw [List.length_replicate]; omega), List.getElem_replicate]
theorem Bwk (n : Nat) (f : Aas) : AVj n (st1 f) ⟨(List.replicate (n + 1) false).set 0 true, (List.replicate (n + 1) zf).set 0 f, (List.replicate (n + 1) false).set 0 true, List.replicate (n + 1) 0⟩ := by
 unfold st1
 refine ⟨⟨by simp, fun a ha => ?_⟩, ⟨by simp, fun a ha g hg => ?_⟩, ⟨by simp, fun a ha => ?_⟩, ⟨by simp, fun a ha => ?_⟩⟩
 ·dsimp only
  rw [Baj (n := n) (by simp) (by omega)]
  by_cases h : a = 0
  ·rw [Mo h, Mo h]; rfl
  ·rw [Hw h, Hw h, Biv ha]; rfl
 ·dsimp only at *
  rw [Baj (n := n) (by simp) (by omega)]
  by_cases h : a = 0
  ·rw [Mo h]
   rw [Mo h] at hg
   exact hg
  ·rw [Hw h] at hg; cases hg
 ·dsimp only
  rw [Baj (n := n) (by simp) (by omega)]
  by_cases h : a = 0
  ·rw [Mo h, decide_eq_true h]
  ·rw [Hw h, decide_eq_false h, Biv ha]
 ·dsimp only
  rw [Biv ha]; rfl
theorem Bmh {α : Type} {b : Nat} {n : Nat} {x : α} (hn : n ≤ 4097) (hb : b ≤ 64) : mkO b (n : Int) x = some (List.replicate n x) := by
 unfold mkO
 rw [Mo, B35]
 refine ⟨by omega, ?_, by omega⟩
 have : (b : Int) * (n : Int) ≤ 64 * 4097 := Int.mul_le_mul (by omega) (by omega) (by omega) (by omega)
 omega
theorem Bus (e : Adb) (L : Int) (code : List UInt8) (h : AS0 e.Classes) : ∃ r, AZr e L code = some r ∧ ATl e L code = some r ∧ (r.2.2 = 0 → r.2.1 = 0 ∧ Bsh e L code r.1) := by
 obtain ⟨m, hm⟩ := Bv6 e L h
 have hm1 : Baa e L = some m := by rw [B05 e L h, hm]
 unfold AZr Ba5 ATl
 rw [show (⟨e.Classes, e.Akq, e.Fn⟩ : Adb) = e from rfl, hm, hm1, B3c, B3c]
 by_cases h0 : m ≠ 0
 ·rw [Mo (by rw [Ale]; exact h0), Mo (by rw [Ale]; exact h0), B3c]
  dsimp only
  rw [Mo (by rw [Ale]; exact h0)]
  exact ⟨_, rfl, rfl, fun q => absurd q h0⟩
 have c0 : (m != 0) = false := by rw [← Bool.not_eq_true, Ale]; exact h0
 simp only [c0, Bool.false_eq_true, if_false]
 have hm0 := Classical.not_not.1 h0
 subst hm0
 obtain ⟨hE, s0, f0, hs0, hf0⟩ := B0p e L h hm
 by_cases hl : (code.length : Int) > 4096
 ·have c1 : decide ((code.length : Int) > 4096) = true := decide_eq_true hl
  simp only [c1, if_true, B3c]
  rw [Mo (by simp)]
  exact ⟨_, rfl, rfl, fun q => (by cases q)⟩
 have c1 : decide ((code.length : Int) > 4096) = false := decide_eq_false hl
 simp only [c1, Bool.false_eq_true, if_false]
 have hl' : code.length ≤ 4096 := by omega
 have hfn := hE.fn
 have hs0' : s0 = Bc1 e := by
  have : idx e.Akq e.Fn = some (Bc1 e) := AR4 hfn.1 hfn.2 ⟨[], 0⟩
  rw [hs0] at this
  exact Option.some.inj this
 subst hs0'
 obtain ⟨r0, hr0, hB⟩ := Bqz e.Classes (Bc1 e).Ars L
 rw [hf0] at hr0
 have hr0' := Option.some.inj hr0
 rw [← hr0'] at hB
 have hB' := hB rfl
 dsimp only at hB'
 rw [hs0, B3c, start_eq, hf0, B3c]
 rw [show wr ((code.length : Int) + 1) = ((code.length + 1 : Nat) : Int) from wr1 (by omega)]
 have hi : ∀ {α : Type} (x : α), idx (List.replicate (code.length + 1) x) 0 = some x := fun x => AVl (a := 0) (Biv (by omega))
 rw [Bmh (by omega) (by omega), B3c, Bmh (by omega) (by omega), B3c, B3c, Bmh (by omega) (by omega), B3c, B3c, hf0, B3c, hi, B3c, hi, B3c, B3c]
 dsimp only
 rw [show (⟨f0.Locals, f0.Height, f0.Slots⟩ : Aas) = f0 from rfl]
 have hI := Bzj hE (code := code) hB'.fok
 obtain ⟨r, hr, hrok⟩ := AL7 hE (mu e.Classes code.length (st1 f0) + 1) (st1 f0) hI (by omega)
 obtain ⟨S', p1, p2, p3⟩ := Bpi hE hl' _ (st1 f0) _ r hI (Bxk e code f0 0) hr
 obtain ⟨o, q1, q2⟩ := Bsk hE hl' _ (st1 f0) _ r hI (Bwk code.length f0) hr
 have hleast : Bdv (st1 f0) code.length = 0 := by
  unfold Bdv
  rcases hq : AX8 (st1 f0) code.length with _ | a
  ·have := Beo hq 0 (by omega)
   unfold st1 at this
   simp at this
  ·have := (AZq hq).1
   unfold st1 at this
   dsimp only at this ⊢
   rw [LX] at this
   omega
 rw [hleast] at q1
 dsimp only at p1 q1
 rw [p1, B3c]
 rw [show ((0 : Int).toNat) = 0 from rfl]
 rw [q1, B3c]
 dsimp only
 by_cases h1 : r.2.1 ≠ 0
 ·rw [Hw h1] at q2
  rw [Mo (by rw [Ale]; exact h1), B3c]
  dsimp only
  rw [Mo (by rw [Ale]; exact h1), q2, p3 h1]
  exact ⟨_, rfl, rfl, fun q => absurd q h1⟩
 ·have h1' := Classical.not_not.1 h1
  rw [Mo h1'] at q2
  obtain ⟨R', rfl, hR'⟩ := q2
  obtain ⟨_, J, hnew⟩ := hrok h1'
  rw [Hw (by rw [Ale]; exact h1), B3c]
  dsimp only
  rw [Hw (by simp), B3c, show (⟨(⟨S'.e.Classes, S'.e.Akq, S'.e.Fn⟩ : Adb), S'.code, S'.frames, S'.fresh, S'.taken, S'.A3i⟩ : Ald) = S' from rfl]
  have hS' := p2 h1'
  have hpos : 0 < code.length := by
   obtain ⟨f, hf, _⟩ := J.start
   have D := J.clo 0 f hf (hnew 0)
   exact (AWv D.ins).1
  rw [Bx6 hl' J hS' hpos, B3c, Buj hl' hS', B3c, Bw4 hl' hR', B3c]
  exact ⟨_, rfl, rfl, fun _ => ⟨rfl, hE, hl', hpos, r.2.2, f0, hB', J, hnew, rfl⟩⟩
end Go.Proofs.YtfcpkcehecmcpaaGreat
namespace Go.Proofs.YtfcpkcehecmcpaaGreat
open Go Go.RowKit Go.Pv Go.Proofs.Tryz
def Bni (c : Abi) : Prop := c.Fields.length ≤ big
structure AV2 (m : Aha) : Prop where
 cl : m.Classes.length ≤ big
 fl : m.Funcs.length ≤ big
 tl : m.AF4.length ≤ big
 c : ∀ x ∈ m.Classes, Bni x
 f : ∀ x ∈ m.Funcs, Bp7 x
 t : ∀ x ∈ m.AF4, x.length ≤ big
theorem Bvo (l : List Ar2) (h : l.length ≤ big) : ANq l = some l := by
 unfold ANq
 rw [AL0 (by simp only [big] at h; simp; omega)]; simp
theorem Br1 (l : List Abi) (hl : l.length ≤ big) (h : ∀ x ∈ l, Bni x) : ASk l = some l := by
 unfold ASk
 rw [AW5 l id (fun i hi acc ha => by
  unfold APx
  simp only [big] at hl
  dsimp only
  rw [Mo (by simpa using hi), Ayt hi, B3c, Bvo _ (h _ (B3q hi)), B3c, AL0 (by simp; omega), B3c, wr1 (by omega)]
  rfl) (fun acc => by unfold APx; simp)]
 simp
theorem Bs3 (m : Aha) (h : AV2 m) : AS5 m = some m := by
 have hf := h.fl
 have ht := h.tl
 simp only [big] at hf ht
 unfold AS5
 rw [Br1 _ h.cl h.c, B3c, AW5 m.Funcs id (fun i hi acc ha => by
  unfold AQg
  dsimp only
  rw [Mo (by simpa using hi), Ayt hi, B3c]
  rw [show (⟨m.Funcs[i].Name, (⟨m.Funcs[i].Sig.Ars, m.Funcs[i].Sig.Result⟩ : Am7), m.Funcs[i].Locals, m.Funcs[i].Code⟩ : A7z) = m.Funcs[i] from rfl, Bxq _ (h.f _ (B3q hi)), B3c, AL0 (by simp; omega), B3c, wr1 (by omega)]
  rfl) (fun acc => by unfold AQg; simp), B3c, AW5 m.AF4 id (fun i hi acc ha => by
  unfold AQe
  dsimp only
  rw [Mo (by simpa using hi), Ayt hi, B3c, Bt9 _ (h.t _ (B3q hi)), B3c, AL0 (by simp; omega), B3c, wr1 (by omega)]
  rfl) (fun acc => by unfold AQe; simp), B3c]
 simp
theorem eqF (l : List Ar2) (h : l.length ≤ big) : AOi l l = some true := by
 simp only [big] at h
 unfold AOi
 rw [Hw (by simp), AVz l (r := .inr ()) (fun i hi => by
  unfold AM9
  rw [Mo (by simpa using hi), Ayt hi, B3c, B3c, Hw (by simp), wr1 (by omega)]) (by unfold AM9; simp)]
 rfl
theorem Br4 (l : List Abi) (hl : l.length ≤ big) (h : ∀ x ∈ l, Bni x) : AQ5 l l = some true := by
 simp only [big] at hl
 unfold AQ5
 rw [Hw (by simp), AVz l (r := .inr ()) (fun i hi => by
  unfold AOr
  rw [Mo (by simpa using hi), Ayt hi]
  simp only [B3c]
  rw [Hw (by simp), Hw (by simp), eqF _ (h _ (B3q hi)), B3c, Hw (by simp), wr1 (by omega)]) (by unfold AOr; simp)]
 rfl
theorem Bl8 (m : Aha) (h : AV2 m) : ARh m m = some true := by
 have hf := h.fl
 have ht := h.tl
 simp only [big] at hf ht
 unfold ARh
 rw [Hw (by simp), Br4 _ h.cl h.c, B3c, Hw (by simp), Hw (by simp), Hw (by simp), AVz m.Funcs (r := .inr ()) (fun i hi => by
  unfold AOy
  rw [Mo (by simpa using hi), Ayt hi]
  simp only [B3c]
  rw [Byg _ (h.f _ (B3q hi)), B3c, Hw (by simp), wr1 (by omega)]) (by unfold AOy; simp), B3c]
 dsimp only
 rw [AVz m.AF4 (r := .inr ()) (fun i hi => by
  unfold AOz
  rw [Mo (by simpa using hi), Ayt hi]
  simp only [B3c]
  rw [eqB _ (h.t _ (B3q hi)), B3c, Hw (by simp), wr1 (by omega)]) (by unfold AOz; simp)]
 rfl
theorem AV2.tab {m : Aha} (h : AV2 m) : AS0 m.Classes := ⟨h.cl, fun x hx => h.c x hx⟩
def AZu (m : Aha) (fn : Int) : Adb := ⟨m.Classes, m.Funcs.map (·.Sig), fn⟩
theorem By7 (m : Aha) (h : AV2 m) (fn : Int) : Bb6 m fn = some (if 0 ≤ fn ∧ fn < m.Funcs.length then (AZu m fn, true) else (⟨[], [], 0⟩, false)) := by
 have hcl := h.cl
 have hfl := h.fl
 simp only [big] at hcl hfl
 unfold Bb6
 by_cases h0 : fn < 0
 ·rw [Mo (by rw [LX]; exact h0), Hw (by omega)]
 ·rw [Hw (by rw [LX]; exact h0)]
  by_cases h1 : fn ≥ (m.Funcs.length : Int)
  ·rw [Mo (by rw [LX]; exact h1), Hw (by omega)]
  ·rw [Hw (by rw [LX]; exact h1), Mo (by omega), AW5 m.Classes id (fun i hi acc ha => by
    unfold AWf
    dsimp only
    rw [Mo (by rw [LX]; omega), Ayt hi, B3c, Bvo _ (h.c _ (B3q hi)), B3c, AL0 (by simp; omega), B3c, wr1 (by omega)]
    rfl) (fun acc => by unfold AWf; simp), B3c, AW5 m.Funcs (·.Sig) (fun i hi acc ha => by
    unfold AWq
    dsimp only
    rw [Mo (by rw [LX]; omega), Ayt hi, B3c, Buu _ (h.f _ (B3q hi)).1, B3c, AL0 (by simp; omega), B3c, wr1 (by omega)]) (fun acc => by unfold AWq; simp), B3c, List.map_id]
   rfl
theorem By9 (m : Aha) (h : AV2 m) (fn : Int) : AVa m fn = some (if 0 ≤ fn ∧ fn < m.Funcs.length then (AZu m fn, true) else (⟨[], [], 0⟩, false)) := by
 have hfl := h.fl
 simp only [big] at hfl
 unfold AVa
 by_cases h0 : fn < 0
 ·rw [Mo (by rw [LX]; exact h0), Hw (by omega)]
 ·rw [Hw (by rw [LX]; exact h0)]
  by_cases h1 : fn ≥ (m.Funcs.length : Int)
  ·rw [Mo (by rw [LX]; exact h1), Hw (by omega)]
  ·rw [Hw (by rw [LX]; exact h1), Mo (by omega), AW5 m.Funcs (·.Sig) (fun i hi acc ha => by
    unfold ARt
    dsimp only
    rw [Mo (by rw [LX]; omega), Ayt hi, B3c, AL0 (by simp; omega), B3c, wr1 (by omega)]) (fun acc => by unfold ARt; simp), B3c]
   rfl
def Bmr (code : List UInt8) (l : List A1g) : List Ads := l.map fun x => (Avy code x.At.toNat).1
def Bwm (l : List A1g) : Int := l.foldl (fun s x => if s < x.Frame.Height then x.Frame.Height else s) 0
def AQd (m : Aha) (fn : Int) : A7z := (m.Funcs[fn.toNat]?).getD ⟨[], ⟨[], 0⟩, 0, []⟩
structure Bvl (m : Aha) (fn : Int) (l : List Ads) : Prop where
 rng : 0 ≤ fn ∧ fn < m.Funcs.length
 ex : ∃ es, Bsh (AZu m fn) (AQd m fn).Locals (AQd m fn).Code es ∧ l = Bmr (AQd m fn).Code es
theorem Bxp (m : Aha) (h : AV2 m) (fn : Int) : ∃ r, AP2 m fn = some r ∧ Ba0 m fn = some ((if r.2.2.2 = 0 then some (⟨r.1, r.2.1⟩ : AP8) else none), r.2.2.1, r.2.2.2) ∧ (r.2.2.2 = 0 → r.2.2.1 = 0 ∧ Bvl m fn r.1) ∧ (r.2.2.2 ≠ 0 → r.2.1 = 0) := by
 unfold AP2 Ba0
 rw [show (⟨m.Name, m.Classes, m.Funcs, m.AF4⟩ : Aha) = m from rfl, By7 m h, By9 m h, B3c, B3c]
 by_cases hfn : 0 ≤ fn ∧ fn < m.Funcs.length
 ·rw [Mo hfn]
  dsimp only
  have hx : idx m.Funcs fn = some (AQd m fn) := AR4 hfn.1 hfn.2 _
  have hmem : AQd m fn ∈ m.Funcs := Bfl (by omega) rfl
  have hcode := (h.f _ hmem).2
  simp only [big] at hcode
  have c0 : ((!true) = true) = False := by simp
  simp only [c0, if_false, hx, B3c]
  rw [show (⟨(AZu m fn).Classes, (AZu m fn).Akq, (AZu m fn).Fn⟩ : Adb) = AZu m fn from rfl]
  obtain ⟨r, h1, h2, h3⟩ := Bus (AZu m fn) (AQd m fn).Locals (AQd m fn).Code h.tab
  rw [h1, h2, B3c, B3c]
  by_cases h0 : r.2.2 = 0
  ·have c1 : ((r.2.2 != 0) = true) = False := by rw [h0]; simp
   simp only [c1, if_false]
   obtain ⟨h4, h5⟩ := h3 h0
   obtain ⟨s, st0, hB, J, hnew, hl⟩ := h5.ex
   have hlen := Bdo s (AQd m fn).Code.length
   have h6 := h5.few
   rw [← hl] at hlen
   have hdec : ∀ x ∈ r.1, APc (AQd m fn).Code x.At = some ((Avy (AQd m fn).Code x.At.toNat)) ∧ AUn (AQd m fn).Code x.At = some ((Avy (AQd m fn).Code x.At.toNat)) := by
    intro x hx
    rw [hl] at hx
    obtain ⟨_, q1, q2, _⟩ := Bgk x hx
    obtain ⟨k, hk⟩ := B36 q1
    rw [hk, B35]
    exact Bkw (by simp only [big]; omega) (by omega)
   have key : ∀ (body : List Ads × Int × Int → Option ((List Ads × Int × Int) ⊕ (List Ads × Int))),
     (∀ i (hi : i < r.1.length) a b, a.length = i → body (a, b, (i : Int)) = some (.inl (a ++ [(Avy (AQd m fn).Code (r.1[i]).At.toNat).1], (if b < (r.1[i]).Frame.Height then (r.1[i]).Frame.Height else b), ((i + 1 : Nat) : Int)))) → (∀ a b, body (a, b, (r.1.length : Int)) = some (.inr (a, b))) →
     Aot body ([], 0, 0) = some (Bmr (AQd m fn).Code r.1, Bwm r.1) := by
    intro body hs he
    refine ATa r.1.length (fun i => (Bmr (AQd m fn).Code (r.1.take i), Bwm (r.1.take i), (i : Int))) (fun i hi => ?_) (by rw [B34]; exact he _ _) rfl
    rw [hs i hi _ _ (by unfold Bmr; rw [B3g, B3j]; omega), ← B3y hi]
    congr 2
    refine Prod.ext ?_ (Prod.ext ?_ rfl)
    ·unfold Bmr
     rw [B3r]; rfl
    ·unfold Bwm
     rw [List.foldl_append]; rfl
   rw [key (AT0 (AQd m fn) r) (fun i hi a b ha => by
     unfold AT0
     dsimp only
     rw [Mo (by rw [LX]; omega), Ayt hi, B3c, (hdec _ (B3q hi)).2, B3c, AL0 (by simp; omega), B3c, wr1 (by omega)]) (fun a b => by
     unfold AT0
     dsimp only
     rw [Hw (by rw [LX]; omega)]),
    key (AOw (AQd m fn) r) (fun i hi a b ha => by
     unfold AOw
     dsimp only
     rw [Mo (by rw [LX]; omega), Ayt hi, B3c, (hdec _ (B3q hi)).1, B3c, AL0 (by simp; omega), B3c, B3c, B3c, wr1 (by omega)]
     by_cases hb : r.1[i].Frame.Height > b
     ·rw [Mo (by rw [LX]; exact hb), Mo (by omega)]
     ·rw [Hw (by rw [LX]; exact hb), Hw (by omega)]) (fun a b => by
     unfold AOw
     dsimp only
     rw [Hw (by rw [LX]; omega)]), B3c, B3c]
   exact ⟨_, rfl, rfl, fun _ => ⟨rfl, hfn, r.1, h5, rfl⟩, fun q => absurd rfl q⟩
  ·have c1 : ((r.2.2 != 0) = true) = True := eq_true (Ale.2 h0)
   simp only [c1, if_true]
   refine ⟨_, rfl, ?_, fun q => absurd q h0, fun _ => rfl⟩
   dsimp only
   rw [Hw h0]
 ·rw [Hw hfn]
  dsimp only
  have c0 : ((!false) = true) = True := by simp
  simp only [c0, if_true]
  refine ⟨_, rfl, ?_, fun q => (by cases q), fun _ => rfl⟩
  dsimp only
  rw [Hw (by omega)]
end Go.Proofs.YtfcpkcehecmcpaaGreat
namespace Go.Proofs.YtfcpkcehecmcpaaGreat
open Go Go.RowKit Go.Pv Go.Proofs.Tryz
structure PL (n nf : Nat) (l : List Ads) : Prop where
 strict : (l.map fun x => x.At).Pairwise (· < ·)
 ins : ∀ x ∈ l, 0 ≤ x.At ∧ x.At + siz x.Op ≤ n ∧ 0 < siz x.Op ∧ x.Op.toNat < 34 ∧ (ATz x.Op = true → 0 ≤ x.A ∧ x.A < n) ∧ (onV x n).2 = 0
 call : ∀ x ∈ l, x.Op.toNat = 21 → 0 ≤ x.A ∧ x.A < nf
 nx : ∀ x ∈ l, ∀ t ∈ ATd x, ∃ y ∈ l, y.At = (t : Int)
 few : n ≤ 4096
 zero : ∃ x ∈ l, x.At = 0
theorem Bf1 {s : St} {n a : Nat} {f : Aas} (ha : a < n) (hf : s.fr a = some f) : (⟨(a : Int), false, f⟩ : A1g) ∈ AQ7 s n := by
 unfold AQ7
 rw [List.mem_filterMap]
 exact ⟨a, List.mem_range.2 ha, by rw [hf]; rfl⟩
theorem Ben (s : St) : ∀ n : Nat, ((AQ7 s n).map fun x => x.At).Pairwise (· < ·)
 | 0 => by simp [AQ7]
 | n + 1 => by
  rw [Bd9, B3r]
  rcases hf : s.fr n with _ | f
  ·simp only [List.map_nil, B3w]; exact Ben s n
  ·simp only [List.map_cons, List.map_nil]
   rw [B3z]
   refine ⟨Ben s n, List.pairwise_singleton _ _, fun x hx y hy => ?_⟩
   rw [B3l] at hy
   obtain ⟨z, hz, rfl⟩ := List.mem_map.1 hx
   have := Bgk z hz
   omega
theorem Bm4 {m : Aha} {fn : Int} {l : List Ads} (h : Bvl m fn l) : PL (AQd m fn).Code.length m.Funcs.length l := by
 obtain ⟨es, hI, rfl⟩ := h.ex
 obtain ⟨s, st0, hB, J, hnew, rfl⟩ := hI.ex
 have D : ∀ x ∈ AQ7 s (AQd m fn).Code.length, B0k (AZu m fn) (AQd m fn).Code s x.At.toNat x.Frame ∧ 0 ≤ x.At ∧ Fok (AZu m fn).Classes x.Frame := by
  intro x hx
  obtain ⟨_, q1, q2, q3⟩ := Bgk x hx
  exact ⟨J.clo _ _ q3 (hnew _), q1, J.fok _ _ q3⟩
 unfold Bmr
 refine ⟨?_, fun x hx => ?_, fun x hx h21 => ?_, fun x hx t ht => ?_, hI.few, ?_⟩
 ·rw [List.map_map]
  have : (AQ7 s (AQd m fn).Code.length).map ((fun x : Ads => x.At) ∘ fun x : A1g => (Avy (AQd m fn).Code x.At.toNat).1) = (AQ7 s (AQd m fn).Code.length).map fun x => x.At := by
   refine List.map_congr_left fun x hx => ?_
   obtain ⟨d, q1, _⟩ := D x hx
   have := (AWv d.ins).2.1
   dsimp only [Function.comp]
   rw [this]
   omega
  rw [this]
  exact Ben s _
 ·obtain ⟨y, hy, rfl⟩ := List.mem_map.1 hx
  obtain ⟨d, q1, q2⟩ := D y hy
  obtain ⟨i1, i2, i3, i4, i5⟩ := AWv d.ins
  have ha := Bdl hI.env q2 _ d.app
  refine ⟨by omega, by omega, i3, ha.2.1, fun hj => ⟨Bmc d.ins hj, ?_⟩, d.on⟩
  have hon := d.on
  unfold onV at hon
  by_cases hq : ATz (Avy (AQd m fn).Code y.At.toNat).1.Op = true ∧ (Avy (AQd m fn).Code y.At.toNat).1.A ≥ (AQd m fn).Code.length
  ·rw [Mo hq] at hon; cases hon
  ·have : ¬ (Avy (AQd m fn).Code y.At.toNat).1.A ≥ (AQd m fn).Code.length := fun q => hq ⟨hj, q⟩
   omega
 ·obtain ⟨y, hy, rfl⟩ := List.mem_map.1 hx
  obtain ⟨d, q1, q2⟩ := D y hy
  have ha := (Bdl hI.env q2 _ d.app).2.2
  unfold AOg at ha
  rw [Mo h21] at ha
  have hl : (AZu m fn).Akq.length = m.Funcs.length := B3g _
  rw [hl] at ha
  by_cases hq : 0 ≤ (Avy (AQd m fn).Code y.At.toNat).1.A ∧ (Avy (AQd m fn).Code y.At.toNat).1.A < m.Funcs.length
  ·exact hq
  ·rw [Hw hq] at ha; cases ha
 ·obtain ⟨y, hy, rfl⟩ := List.mem_map.1 hx
  obtain ⟨d, q1, q2⟩ := D y hy
  obtain ⟨i1, i2, i3, i4, i5⟩ := AWv d.ins
  obtain ⟨g, g1, g2⟩ := d.nx t ht
  have htn := (Bls i2 i4 hI.pos d.on).2 t ht
  refine ⟨_, List.mem_map.2 ⟨_, Bf1 htn g1, rfl⟩, ?_⟩
  have D2 := (D _ (Bf1 htn g1)).1
  have := (AWv D2.ins).2.1
  dsimp only at this ⊢
  rw [this, B35]
 ·obtain ⟨f, hf, _⟩ := J.start
  refine ⟨_, List.mem_map.2 ⟨_, Bf1 hI.pos hf, rfl⟩, ?_⟩
  have D2 := (D _ (Bf1 hI.pos hf)).1
  have := (AWv D2.ins).2.1
  dsimp only at this ⊢
  rw [this]
  rfl
theorem Blg : ∀ {l : List Int} {a n : Int}, l.Pairwise (· < ·) → (∀ x ∈ l, a ≤ x ∧ x < n) → a ≤ n → (l.length : Int) ≤ n - a
 | [], a, n, _, _, h => by simp; omega
 | x :: l, a, n, hs, hm, h => by
  rw [B33] at hs
  have hx := hm x (by simp)
  have := Blg (l := l) (a := x + 1) (n := n) hs.2 (fun y hy => ⟨by have := hs.1 y hy; omega, (hm y (by simp [hy])).2⟩) (by omega)
  rw [B3x]
  omega
theorem PL.len {n nf : Nat} {l : List Ads} (h : PL n nf l) : l.length ≤ 4096 := by
 have := Blg (a := 0) (n := n) h.strict (fun x hx => by
  obtain ⟨y, hy, rfl⟩ := List.mem_map.1 hx
  have := h.ins y hy
  omega) (by omega)
 rw [B3g] at this
 have := h.few
 omega
def AWu (l : List Ads) : List Int := (l.filter fun x => decide (x.Op.toNat = 21)).map fun x => x.A
theorem Bjp {l : List Ads} {c : Int} : c ∈ AWu l ↔ ∃ x ∈ l, x.Op.toNat = 21 ∧ x.A = c := by
 unfold AWu
 rw [B3p]
 constructor
 ·rintro ⟨x, hx, rfl⟩
  rw [B3n, LX] at hx
  exact ⟨x, hx.1, hx.2, rfl⟩
 ·rintro ⟨x, h1, h2, rfl⟩
  exact ⟨x, by rw [B3n, LX]; exact ⟨h1, h2⟩, rfl⟩
theorem Bjk (l : List Ads) : (AWu l).length ≤ l.length := by
 unfold AWu
 rw [B3g]
 exact B31 _ _
def ATg (nf : Nat) (l : List Ads) : List Int := ints ((List.range nf).filter fun g => l.any fun x => decide (x.Op.toNat = 21) && x.A == (g : Int))
theorem Blu {nf : Nat} {l : List Ads} (h : ∀ x ∈ l, x.Op.toNat = 21 → 0 ≤ x.A ∧ x.A < nf) (c : Int) : c ∈ ATg nf l ↔ c ∈ AWu l := by
 unfold ATg ints
 rw [Bjp, B3p]
 constructor
 ·rintro ⟨g, hg, rfl⟩
  rw [B3n, List.any_eq_true] at hg
  obtain ⟨_, x, hx, hx2⟩ := hg
  rw [B37, LX, Agq] at hx2
  exact ⟨x, hx, hx2⟩
 ·rintro ⟨x, hx, h1, rfl⟩
  have := h x hx h1
  refine ⟨x.A.toNat, ?_, by omega⟩
  rw [B3n, List.any_eq_true, B3o]
  refine ⟨by omega, x, hx, ?_⟩
  rw [B37, LX, Agq]
  exact ⟨h1, by omega⟩
theorem Bcp (p : Nat → Bool) : ∀ n : Nat, (ints ((List.range n).filter p)).Pairwise (· < ·)
 | 0 => by simp [ints]
 | n + 1 => by
  unfold ints at *
  rw [B3v, B3t, B3r, B3z]
  have ih := Bcp p n
  unfold ints at ih
  refine ⟨ih, ?_, fun x hx y hy => ?_⟩
  ·rw [B3u]
   split <;> simp
  ·obtain ⟨a, ha, rfl⟩ := List.mem_map.1 hx
   obtain ⟨b, hb, rfl⟩ := List.mem_map.1 hy
   rw [B3n, B3o] at ha
   rw [B3n, B3l] at hb
   omega
theorem Box (nf : Nat) (l : List Ads) : (ATg nf l).Pairwise (· < ·) := Bcp _ nf
theorem Bvi {n nf : Nat} {l : List Ads} (h : PL n nf l) (k : Int) : AUv ⟨l, k⟩ = some (ATg nf l) := by
 have hlen := h.len
 unfold AUv
 have h1 : Aot (AQl ⟨l, k⟩) (([] : List Int), 0) = some (AWu l) := by
  refine ATa l.length (fun i => (AWu (l.take i), (i : Int))) (fun i hi => ?_) (by unfold AQl; simp) rfl
  have hcl := Bjk (l.take i)
  rw [B3j] at hcl
  have hsucc : AWu (l.take (i + 1)) = AWu (l.take i) ++ (if l[i].Op.toNat = 21 then [l[i].A] else []) := by
   unfold AWu
   rw [← B3y hi, B3t, B3r]
   congr 1
   by_cases q : l[i].Op.toNat = 21
   ·rw [Mo q, B3u, Mo (by rw [LX]; exact q)]; rfl
   ·rw [Hw q, B3u, Hw (by rw [LX]; exact q)]; rfl
  unfold AQl
  dsimp only
  rw [Mo (by rw [LX]; omega), Ayt hi, B3c, hsucc, wr1 (by omega)]
  by_cases q : l[i].Op.toNat = 21
  ·rw [Mo (by rw [q]; rfl), Mo q, AL0 (by simp; omega), B3c]
  ·rw [Hw (by rw [Agq]; omega), Hw q, B3w]
 rw [h1, B3c]
 obtain ⟨r, r1, r2, r3⟩ := Be1 (AWu l) (by have := Bjk l; omega)
 obtain ⟨x, x1, x2⟩ := Option.bind_eq_some_iff.1 r1
 rw [x1, B3c, x2, B3c]
 congr 1
 exact Bcv r2 (Box nf l) fun a => (r3 a).trans (Blu h.call a).symm
theorem Bvy (m : Aha) (hm : AV2 m) (fn : Int) {r : List Ads × Int × Int × Int} (hr : AP2 m fn = some r) (h0 : r.2.2.2 = 0) (hlen : r.1.length ≤ 4096) : AQ0 m fn = some (ATg m.Funcs.length r.1, 0, 0) := by
 have hfl := hm.fl
 simp only [big] at hfl
 unfold AQ0
 rw [show (⟨m.Name, m.Classes, m.Funcs, m.AF4⟩ : Aha) = m from rfl, hr, B3c, Hw (by rw [h0]; simp)]
 have hin : ∀ (acc : List Int) (g : Nat), Aot (APf r (acc, (g : Int))) (false, 0) = some (r.1.any fun x => decide (x.Op.toNat = 21) && x.A == (g : Int)) := by
  intro acc g
  refine ATa r.1.length (fun i => ((r.1.take i).any fun x => decide (x.Op.toNat = 21) && x.A == (g : Int), (i : Int))) (fun i hi => ?_) (by unfold APf; simp) rfl
  unfold APf
  dsimp only
  rw [Mo (by rw [LX]; omega), ← B3y hi, List.any_append, Ayt hi, B3c, B3c, wr1 (by omega)]
  rcases (r.1.take i).any fun x => decide (x.Op.toNat = 21) && x.A == (g : Int) with _ | _
  ·rw [Hw (by simp)]
   by_cases q : r.1[i].Op.toNat = 21
   ·rw [Mo (by rw [q]; rfl)]
    simp [q]
   ·rw [Hw (by rw [Agq]; omega)]
    simp [q]
  ·rw [Mo rfl]
   simp
 have hout : Aot (APj m r) (([] : List Int), 0) = some (ATg m.Funcs.length r.1) := by
  refine ATa m.Funcs.length (fun i => (ATg i r.1, (i : Int))) (fun i hi => ?_) (by unfold APj; simp) rfl
  have hcl : (ATg i r.1).length ≤ i := by
   unfold ATg ints
   rw [B3g]
   exact Nat.le_trans (B31 _ _) (by rw [B32]; exact Nat.le_refl _)
  have hsucc : ATg (i + 1) r.1 = ATg i r.1 ++ (if (r.1.any fun x => decide (x.Op.toNat = 21) && x.A == (i : Int)) = true then [(i : Int)] else []) := by
   unfold ATg ints
   rw [B3v, B3t, B3r]
   congr 1
   rw [B3u]
   split <;> rfl
  unfold APj
  dsimp only
  rw [Mo (by rw [LX]; omega), hin, B3c, hsucc, wr1 (by omega)]
  split
  ·rw [AL0 (by simp; omega), B3c]
  ·rw [B3w]
 rw [hout, B3c]
end Go.Proofs.YtfcpkcehecmcpaaGreat
namespace Go.Proofs.YtfcpkcehecmcpaaGreat
open Go Go.RowKit Go.Pv Go.Proofs.Tryz
def Rep (L : List Int) (n : Nat) (g : Nat → Int) : Prop := L.length = n ∧ ∀ j, j < n → L[j]? = some (g j)
theorem Rep.set {L : List Int} {n : Nat} {g : Nat → Int} (h : Rep L n g) {k : Nat} (hk : k < n) (x : Int) : Rep (L.set k x) n (fun j => if j = k then x else g j) := by
 refine ⟨by rw [B3i]; exact h.1, fun j hj => ?_⟩
 rw [List.getElem?_set]
 dsimp only
 by_cases q : k = j
 ·rw [Mo q, Mo (by rw [h.1]; exact hk), Mo q.symm]
 ·rw [Hw q, Hw (fun q2 => q q2.symm)]
  exact h.2 j hj
end Go.Proofs.YtfcpkcehecmcpaaGreat
namespace Go.Proofs.YtfcpkcehecmcpaaGreat
open Go Go.RowKit Go.Pv Go.Proofs.Tryz
theorem Bpp (l : List Nat) : (ints l).length = l.length := B3g _
end Go.Proofs.YtfcpkcehecmcpaaGreat
namespace Go.Proofs.YtfcpkcehecmcpaaGreat
open Go Go.RowKit Go.Pv Go.Proofs.Tryz
theorem eqI (l : List Int) (h : l.length ≤ big) : ASn l l = some true := by
 simp only [big] at h
 unfold ASn
 rw [Hw (by simp), AVz l (r := .inr ()) (fun i hi => by
  unfold APz
  rw [Mo (by simpa using hi), Ayt hi, B3c, B3c, Hw (by simp), wr1 (by omega)]) (by unfold APz; simp)]
 rfl
theorem Btu (nf : Nat) (l : List Ads) : (ATg nf l).length ≤ nf := by
 unfold ATg ints
 rw [B3g]
 exact Nat.le_trans (B31 _ _) (by rw [B32]; exact Nat.le_refl _)
theorem Bja (m : Aha) (fn : Int) {r : List Ads × Int × Int × Int} (hr : AP2 m fn = some r) (h0 : r.2.2.2 ≠ 0) : AQ0 m fn = some ([], r.2.2.1, r.2.2.2) := by
 unfold AQ0
 rw [show (⟨m.Name, m.Classes, m.Funcs, m.AF4⟩ : Aha) = m from rfl, hr, B3c, Mo (Ale.2 h0)]
end Go.Proofs.YtfcpkcehecmcpaaGreat
namespace Go.Proofs.YtfcpkcehecmcpaaGreat
open Go Go.RowKit Go.Pv Go.Proofs.Tryz
def Bo7 (n : Nat) (cs : List (List Int)) : Prop := cs.length = n ∧ ∀ c ∈ cs, c.length ≤ n ∧ ∀ x ∈ c, 0 ≤ x ∧ x < n
def unm (met : List Bool) : Nat := (met.filter fun b => !b).length
theorem B0y (met : List Bool) : unm met ≤ met.length := B31 _ _
theorem Bsf : ∀ {met : List Bool} {i : Nat}, met[i]? = some false → unm (met.set i true) + 1 = unm met
 | [], i, h => by cases h
 | b :: met, 0, h => by
  rw [List.getElem?_cons_zero] at h
  cases h
  rfl
 | b :: met, i + 1, h => by
  rw [List.getElem?_cons_succ] at h
  have ih := Bsf (met := met) (i := i) h
  unfold unm at *
  rw [List.set_cons_succ, B3u, B3u]
  split
  ·rw [B3x, B3x]; omega
  ·exact ih
theorem Btv {n : Nat} (hn : n ≤ 64) {cs : List (List Int)} (hT : Bo7 n cs) : ∀ (k : Nat) (met : List Bool) (pre op : List Int), met.length = n → (∀ x ∈ op, 0 ≤ x ∧ x < n) → unm met * (n + 1) + op.length ≤ k → pre.length + unm met * (n + 1) + op.length ≤ 10000 →
  ∃ met', Aot (ARc cs) (met, op) = some met' ∧ Aot (ANh cs) (met, pre ++ op, (pre.length : Int)) = some met' ∧ met'.length = n := by
 intro k
 induction k with
 | zero =>
  intro met pre op hm ho hk hb
  have : op = [] := List.length_eq_zero_iff.1 (by omega)
  subst this
  refine ⟨met, Awv ?_, Awv ?_, hm⟩
  ·unfold ARc
   dsimp only
   rw [Hw (by simp)]
  ·unfold ANh
   dsimp only
   rw [Hw (by simp)]
 | succ k ih =>
  intro met pre op hm ho hk hb
  rcases op with _ | ⟨x, op⟩
  ·refine ⟨met, Awv ?_, Awv ?_, hm⟩
   ·unfold ARc
    dsimp only
    rw [Hw (by simp)]
   ·unfold ANh
    dsimp only
    rw [Hw (by simp)]
  ·obtain ⟨i, rfl⟩ := B36 (ho x (by simp)).1
   have hi : i < n := by have := (ho i (by simp)).2; omega
   rw [B3x] at hk hb
   have hmi : i < met.length := by omega
   have hci : i < cs.length := by rw [hT.1]; exact hi
   have hcl := hT.2 _ (B3q hci)
   have e1 : idx ((i : Int) :: op) 0 = some (i : Int) := rfl
   have e2 : AV4 ((i : Int) :: op) 1 (((i : Int) :: op).length : Int) = some op := by
    rw [Bal (by rw [B3x]; omega), B35, B34]
    rfl
   have e3 : idx (pre ++ (i : Int) :: op) (pre.length : Int) = some (i : Int) := by
    rw [Ayt (by rw [B3f, B3x]; omega)]
    simp
   have hpos : decide ((((i : Int) :: op).length : Int) > 0) = true := by rw [LX, B3x]; omega
   have hpos2 : decide ((pre.length : Int) < ((pre ++ (i : Int) :: op).length : Int)) = true := by rw [LX, B3f, B3x]; omega
   rcases hq : met[i] with _ | _
   ·have hmet := Bsf (met := met) (i := i) (by rw [B3e hmi, hq])
    obtain ⟨met', r1, r2, r3⟩ := ih (met.set i true) (pre ++ [(i : Int)]) (op ++ cs[i]) (by rw [B3i]; exact hm) (fun x hx => by
     rw [B3k] at hx
     rcases hx with hx | hx
     ·exact ho x (by simp [hx])
     ·exact hcl.2 x hx) (by
     rw [← hmet, Nat.add_mul, Nat.one_mul] at hk
     rw [B3f]
     omega) (by
     rw [← hmet, Nat.add_mul, Nat.one_mul] at hb
     rw [B3f, B3f, B3h]
     omega)
    refine ⟨met', ?_, ?_, r3⟩
    ·rw [AGm (s' := (met.set i true, op ++ cs[i]))]
     ·exact r1
     ·unfold ARc
      dsimp only
      rw [Mo hpos, e1, B3c, e2, B3c, Ayt hmi, hq, B3c, Hw (by simp), B3c, Ayt hci, B3c, AL0 (by rw [← hmet, Nat.add_mul, Nat.one_mul] at hb; omega), B3c, B35]
    ·rw [AGm (s' := (met.set i true, (pre ++ (i : Int) :: op) ++ cs[i], ((pre.length + 1 : Nat) : Int)))]
     ·have : (pre ++ (i : Int) :: op) ++ cs[i] = (pre ++ [(i : Int)]) ++ (op ++ cs[i]) := by simp
      rw [this]
      rw [B3f, B3h] at r2
      exact r2
     ·unfold ANh
      dsimp only
      rw [Mo hpos2, e3, B3c, Ayt hmi, hq, B3c, Hw (by simp)]
      simp only [B3c]
      rw [Ayt hci, B3c, AL0 (by rw [← hmet, Nat.add_mul, Nat.one_mul] at hb; rw [B3f, B3x]; omega), B3c, B35, wr1 (by omega), Ayt hmi, B3c]
   ·obtain ⟨met', r1, r2, r3⟩ := ih met (pre ++ [(i : Int)]) op hm (fun x hx => ho x (by simp [hx])) (by omega) (by rw [B3f, B3h]; omega)
    refine ⟨met', ?_, ?_, r3⟩
    ·rw [AGm (s' := (met, op))]
     ·exact r1
     ·unfold ARc
      dsimp only
      rw [Mo hpos, e1, B3c, e2, B3c, Ayt hmi, hq, B3c, Mo rfl]
    ·rw [AGm (s' := (met, pre ++ (i : Int) :: op, ((pre.length + 1 : Nat) : Int)))]
     ·have : pre ++ (i : Int) :: op = (pre ++ [(i : Int)]) ++ op := by simp
      rw [this]
      rw [B3f, B3h] at r2
      exact r2
     ·unfold ANh
      dsimp only
      rw [Mo hpos2, e3, B3c, Ayt hmi, hq, B3c, Mo rfl, wr1 (by omega)]
theorem Bpx (l : List Int) (hl : l.length ≤ 1048576) (x : Int) : APv l x = some (l.any fun y => x == y) := by
 unfold APv
 obtain ⟨r, h1, h2, _⟩ := Ba7 l (fun y => x == y) (body := AOv l x) (fun i hi => by
  unfold AOv
  rw [Mo (by rw [LX]; omega), Ayt hi, B3c, wr1 (by omega)]) (by
  unfold AOv
  rw [Hw (by rw [LX]; omega)])
 have h1' : AUh l x = some r := h1
 rw [h1', B3c, h2]
theorem Btj {n : Nat} (hn : n ≤ 64) {cs : List (List Int)} (hT : Bo7 n cs) {from_ : List Int} (hf : from_.length ≤ n ∧ ∀ x ∈ from_, 0 ≤ x ∧ x < n) : ∃ met : List Bool, met.length = n ∧
  AXo cs from_ = some (ints ((List.range n).filter fun i => (met[i]?).getD false)) ∧ (∀ i, i < n → cs[i]? = some from_ → ARw cs (i : Int) false = some met) := by
 have hu : unm (List.replicate n false) ≤ n := by
  have := B0y (List.replicate n false)
  rwa [List.length_replicate] at this
 have hmul : unm (List.replicate n false) * (n + 1) ≤ 64 * 65 := Nat.mul_le_mul (by omega) (by omega)
 obtain ⟨met, h1, h2, h3⟩ := Btv hn hT _ (List.replicate n false) [] from_ (by simp) hf.2 (Nat.le_refl _) (by simp; omega)
 have hmk : mkO 1 (cs.length : Int) false = some (List.replicate n false) := by rw [hT.1]; exact Bmh (by omega) (by omega)
 refine ⟨met, h3, ?_, fun i hi hc => ?_⟩
 ·unfold AXo AUi
  rw [hmk, B3c, AL0 (by simp; omega), B3c, B3c, List.nil_append, h1, B3c]
  have := ATa n (body := AS9 met) (r := ints ((List.range n).filter fun i => (met[i]?).getD false)) (fun k => (ints ((List.range k).filter fun i => (met[i]?).getD false), (k : Int))) (fun k hk => by
   have hlen : (ints ((List.range k).filter fun i => (met[i]?).getD false)).length ≤ k := by
    rw [Bpp]
    exact Nat.le_trans (B31 _ _) (by rw [B32]; exact Nat.le_refl _)
   have hkm : k < met.length := by omega
   have hg : (met[k]?).getD false = met[k] := by rw [B3e hkm]; rfl
   unfold AS9
   dsimp only
   rw [Mo (by rw [LX]; omega), Ayt hkm, B3c, wr1 (by omega)]
   conv => rhs; rw [B3v, B3t, B3u, hg]
   rcases met[k] with _ | _
   ·rw [Hw (by simp), Hw (by simp), List.filter_nil, B3w]
   ·rw [Mo rfl, Mo rfl, AL0 (by simp; omega), B3c]
    unfold ints
    rw [B3r]
    rfl) (by
   unfold AS9
   dsimp only
   rw [Hw (by rw [LX]; omega)]) (s0 := ([], 0)) (by simp [ints])
  rw [this, B3c]
 ·unfold ARw
  rw [hmk, B3c, AVl hc, B3c, AL0 (by simp; omega), B3c, List.nil_append]
  rw [List.nil_append] at h2
  have h2' : Aot (ANh cs) (List.replicate n false, from_, 0) = some met := h2
  rw [h2', B3c, Hw (by simp)]
theorem Btf {n : Nat} (hn : n ≤ 64) {cs : List (List Int)} (hT : Bo7 n cs) (m : Aha) (hm : m.Funcs.length = n) : ∃ out : List Int, Aot (ARe cs) (([] : List Int), 0) = some out ∧ Aot (AN3 m cs) (([] : List Int), 0) = some out ∧ out.length ≤ 1048576 := by
 have hcs := hT.1
 have key : ∀ i, i < n → ∃ (b : Bool) (B : List Int) (M : List Bool), AXo cs ((cs[i]?).getD []) = some B ∧ APv B (i : Int) = some b ∧ ARw cs (i : Int) false = some M ∧ idx M (i : Int) = some b := by
  intro i hi
  have hci : i < cs.length := by omega
  have hcg : (cs[i]?).getD [] = cs[i] := by rw [B3e hci]; rfl
  obtain ⟨met, h1, h2, h3⟩ := Btj hn hT (hT.2 _ (B3q hci))
  rw [hcg]
  refine ⟨(met[i]?).getD false, _, met, h2, ?_, h3 i hi (B3e hci), AR4 (i := (i : Int)) (by omega) (by omega) false⟩
  rw [Bpx _ (by
   rw [Bpp]
   exact Nat.le_trans (B31 _ _) (by rw [B32]; omega))]
  congr 1
  rw [B38, List.any_eq_true]
  constructor
  ·rintro ⟨x, hx, he⟩
   unfold ints at hx
   obtain ⟨j, hj, rfl⟩ := List.mem_map.1 hx
   rw [Agq] at he
   rw [B3n] at hj
   have : j = i := by omega
   subst this
   exact hj.2
  ·intro h
   refine ⟨(i : Int), ?_, by simp⟩
   unfold ints
   exact List.mem_map.2 ⟨i, by rw [B3n, B3o]; exact ⟨hi, h⟩, rfl⟩
 have main : ∀ (k i : Nat) (acc : List Int), i + k = n → acc.length ≤ i → ∃ out : List Int, Aot (ARe cs) (acc, (i : Int)) = some out ∧ Aot (AN3 m cs) (acc, (i : Int)) = some out ∧ out.length ≤ n := by
  intro k
  induction k with
  | zero =>
   intro i acc hi ha
   refine ⟨acc, Awv ?_, Awv ?_, by omega⟩
   ·unfold ARe
    dsimp only
    rw [Hw (by rw [LX]; omega)]
   ·unfold AN3
    dsimp only
    rw [Hw (by rw [LX]; omega)]
  | succ k ih =>
   intro i acc hi ha
   have hin : i < n := by omega
   obtain ⟨b, B, M, k1, k2, k3, k4⟩ := key i hin
   have hic : idx cs (i : Int) = some ((cs[i]?).getD []) := AR4 (i := (i : Int)) (by omega) (by omega) []
   have s1 : ARe cs (acc, (i : Int)) = some (.inl ((if b = true then acc ++ [(i : Int)] else acc), ((i + 1 : Nat) : Int))) := by
    unfold ARe
    dsimp only
    rw [Mo (by rw [LX]; omega), hic, B3c, k1, B3c, k2, B3c, wr1 (by omega)]
    rcases b with _ | _
    ·rw [Hw (by simp), Hw (by simp)]
    ·rw [Mo rfl, Mo rfl, AL0 (by simp; omega), B3c]
   have s2 : AN3 m cs (acc, (i : Int)) = some (.inl ((if b = true then acc ++ [(i : Int)] else acc), ((i + 1 : Nat) : Int))) := by
    unfold AN3
    dsimp only
    rw [Mo (by rw [LX]; omega), k3, B3c, k4, B3c, wr1 (by omega)]
    rcases b with _ | _
    ·rw [Hw (by simp), Hw (by simp)]
    ·rw [Mo rfl, Mo rfl, AL0 (by simp; omega), B3c]
   obtain ⟨out, o1, o2, o3⟩ := ih (i + 1) (if b = true then acc ++ [(i : Int)] else acc) (by omega) (by split <;> (try rw [B3f, B3h]) <;> omega)
   exact ⟨out, by rw [AGm s1]; exact o1, by rw [AGm s2]; exact o2, o3⟩
 obtain ⟨out, o1, o2, o3⟩ := main n 0 [] (by omega) (by simp)
 exact ⟨out, o1, o2, by omega⟩
theorem Br2 (m : Aha) (hm : AV2 m) : ∃ o, Aot (ARg m) (([] : List (List Int)), 0) = some o ∧ Aot (AN1 m) (([] : List (List Int)), 0) = some o ∧ (∀ cs, o = .inr cs → Bo7 m.Funcs.length cs ∧ m.Funcs.length ≤ 64) ∧ (∀ p, o = .inl p → p.1 = []) := by
 have hfl := hm.fl
 simp only [big] at hfl
 have main : ∀ (k i : Nat) (acc : List (List Int)), i + k = m.Funcs.length → acc.length = i → (∀ c ∈ acc, c.length ≤ m.Funcs.length ∧ ∀ x ∈ c, 0 ≤ x ∧ x < m.Funcs.length) → (0 < i → m.Funcs.length ≤ 64) →
   ∃ o, Aot (ARg m) (acc, (i : Int)) = some o ∧ Aot (AN1 m) (acc, (i : Int)) = some o ∧ (∀ cs, o = .inr cs → Bo7 m.Funcs.length cs ∧ m.Funcs.length ≤ 64) ∧ (∀ p, o = .inl p → p.1 = []) := by
  intro k
  induction k with
  | zero =>
   intro i acc hi ha hc h64
   refine ⟨.inr acc, Awv ?_, Awv ?_, fun cs h => ?_, fun p h => (by cases h)⟩
   ·unfold ARg
    dsimp only
    rw [Hw (by rw [LX]; omega)]
   ·unfold AN1
    dsimp only
    rw [Hw (by rw [LX]; omega)]
   ·cases h
    refine ⟨⟨by omega, hc⟩, ?_⟩
    by_cases h0 : 0 < i
    ·exact h64 h0
    ·omega
  | succ k ih =>
   intro i acc hi ha hc h64
   obtain ⟨r, h1, h2, h3, h4⟩ := Bxp m hm (i : Int)
   have s1 : ARg m (acc, (i : Int)) = if r.2.2.2 = 0 then some (.inl (acc ++ [ATg m.Funcs.length r.1], ((i + 1 : Nat) : Int))) else some (.inr (.inl ([], (i : Int), r.2.2.2))) := by
    unfold ARg
    dsimp only
    rw [Mo (by rw [LX]; omega), show (⟨m.Name, m.Classes, m.Funcs, m.AF4⟩ : Aha) = m from rfl, h2, B3c]
    by_cases h0 : r.2.2.2 = 0
    ·have hP := Bm4 (h3 h0).2
     rw [Mo h0]
     dsimp only
     rw [Hw (by rw [h0]; simp), Mo h0, B3c, Bvi hP, B3c, AL0 (by simp; omega), B3c, wr1 (by omega)]
    ·rw [Hw h0]
     dsimp only
     rw [Mo (Ale.2 h0), Hw h0]
   have s2 : AN1 m (acc, (i : Int)) = if r.2.2.2 = 0 then some (.inl (acc ++ [ATg m.Funcs.length r.1], ((i + 1 : Nat) : Int))) else some (.inr (.inl ([], (i : Int), r.2.2.2))) := by
    unfold AN1
    dsimp only
    rw [Mo (by rw [LX]; omega), show (⟨m.Name, m.Classes, m.Funcs, m.AF4⟩ : Aha) = m from rfl]
    by_cases h0 : r.2.2.2 = 0
    ·have hP := Bm4 (h3 h0).2
     rw [Bvy m hm _ h1 h0 hP.len, B3c, Mo h0]
     dsimp only
     rw [Hw (by simp), AL0 (by simp; omega), B3c, wr1 (by omega)]
    ·rw [Bja m _ h1 h0, B3c, Hw h0]
     dsimp only
     rw [Mo (Ale.2 h0)]
   by_cases h0 : r.2.2.2 = 0
   ·rw [Mo h0] at s1 s2
    have hR := (h3 h0).2
    have hP := Bm4 hR
    have h64' : m.Funcs.length ≤ 64 := by
     obtain ⟨es, hI, _⟩ := hR.ex
     have := hI.env.few
     have e1 : (AZu m (i : Int)).Akq.length = m.Funcs.length := B3g _
     omega
    obtain ⟨o, o1, o2, o3⟩ := ih (i + 1) (acc ++ [ATg m.Funcs.length r.1]) (by omega) (by rw [B3f, ha]; rfl) (fun c hcm => by
     rw [B3k, B3l] at hcm
     rcases hcm with q | q
     ·exact hc c q
     ·subst q
      refine ⟨Btu _ _, fun x hx => ?_⟩
      rw [Blu hP.call, Bjp] at hx
      obtain ⟨y, y1, y2, rfl⟩ := hx
      exact hP.call y y1 y2) (fun _ => h64')
    exact ⟨o, by rw [AGm s1]; exact o1, by rw [AGm s2]; exact o2, o3⟩
   ·rw [Hw h0] at s1 s2
    exact ⟨_, Awv s1, Awv s2, fun cs h => (by cases h), fun p h => (by cases h; rfl)⟩
 exact main m.Funcs.length 0 [] (by omega) rfl (fun c hc => by cases hc) (fun h => by omega)
theorem Bmv (m : Aha) (hm : AV2 m) : APy m = some true := by
 unfold APy Bbu AVq
 rw [show (⟨m.Name, m.Classes, m.Funcs, m.AF4⟩ : Aha) = m from rfl, Bs3 m hm, B3c]
 rw [show (⟨m.Name, m.Classes, m.Funcs, m.AF4⟩ : Aha) = m from rfl]
 obtain ⟨o, h1, h2, h3, h4⟩ := Br2 m hm
 rw [h1, h2, B3c, B3c]
 rcases o with p | cs
 ·dsimp only
  rw [B3c, B3c, h4 p rfl, eqI _ (by simp), B3c]
  simp [Bl8 m hm]
 ·dsimp only
  obtain ⟨hT, h64⟩ := h3 cs rfl
  obtain ⟨out, o1, o2, o3⟩ := Btf h64 hT m rfl
  rw [o1, o2]
  simp only [B3c]
  rw [eqI _ (by simp only [big]; omega), B3c]
  simp [Bl8 m hm]
end Go.Proofs.YtfcpkcehecmcpaaGreat
namespace Go.Proofs.YtfcpkcehecmcpaaGreat
open Go Go.RowKit Go.Pv Go.Proofs.Tryz
theorem Awy : slB prog 28 3 1 8 (szB 1) = true := by kernel_rfl
theorem Bmn : fnB prog 49 = true := by kernel_rfl
theorem Bwi : AU7 prog 26 4 = true := by kernel_rfl
theorem AYb : (prog.info? 26).bind (·.zero) = some (.agg ⟨[.string ⟨⟨[]⟩⟩, .slice none 0 0, .slice none 0 0, .slice none 0 0]⟩) := by kernel_rfl
theorem AUt : AUz prog 9 = true := by kernel_rfl
theorem Bp5 : AUz prog 22 = true := by kernel_rfl
theorem AOf : slB prog 22 103 3 48 (szB 3) = true := by kernel_rfl
theorem Bcb : AU7 prog 103 3 = true := by kernel_rfl
theorem Bc2 : (prog.info? 103).bind (·.zero) = some (.agg ⟨[.string ⟨⟨[]⟩⟩, .int .i64 0, .slice none 0 0]⟩) := by kernel_rfl
theorem Bfz : (prog.info? 103).map (·.size) = some 3 := by kernel_rfl
theorem AXb : faB prog 103 2 2 1 = true := by kernel_rfl
theorem AYn : AUz prog 101 = true := by kernel_rfl
theorem ASm : slB prog 101 106 2 24 (szB 2) = true := by kernel_rfl
theorem Bpl : (prog.info? 101).map (·.size) = some 1 := by kernel_rfl
theorem Bse : plB prog 26 [(0, 1), (1, 1), (2, 1), (3, 1)] = true := by kernel_rfl
theorem Bnk : (prog.info? 26).map (·.size) = some 4 := by kernel_rfl
theorem Aq8 : prog.follows .mixedOrders = true := by kernel_rfl
theorem AXp : slB prog 23 52 5 80 (szB 5) = true := by kernel_rfl
theorem AZ3 : AU7 prog 52 5 = true := by kernel_rfl
theorem Bb8 : (prog.info? 52).bind (·.zero) = some (.agg ⟨[.string ⟨⟨[]⟩⟩, .slice none 0 0, .int .u8 0, .int .i64 0, .slice none 0 0]⟩) := by kernel_rfl
theorem Bev : (prog.info? 52).map (·.size) = some 5 := by kernel_rfl
theorem Bum : faB prog 52 1 1 2 = true := by kernel_rfl
theorem AV1 : AU7 prog 50 2 = true := by kernel_rfl
theorem AYi : (prog.info? 50).bind (·.zero) = some (.agg ⟨[.slice none 0 0, .int .u8 0]⟩) := by kernel_rfl
theorem Bad : faB prog 50 0 0 1 = true := by kernel_rfl
theorem AZ0 : AUz prog 47 = true := by kernel_rfl
theorem Aqg : slB prog 47 48 1 1 (szB 1) = true := by kernel_rfl
theorem Bzb : (prog.info? 47).map (·.size) = some 1 := by kernel_rfl
theorem Bc8 : (prog.info? 50).map (·.size) = some 2 := by kernel_rfl
theorem Bj3 : AUz prog 42 = true := by kernel_rfl
theorem AO0 : slB prog 42 5 1 1 (szB 1) = true := by kernel_rfl
theorem Bmm : (prog.info? 42).map (·.size) = some 1 := by kernel_rfl
theorem Bze : (prog.info? 23).map (·.size) = some 1 := by kernel_rfl
theorem Bda : slB prog 24 42 1 24 (szB 1) = true := by kernel_rfl
theorem By3 : (prog.info? 24).map (·.size) = some 1 := by kernel_rfl
theorem AR5 : (prog.info? 110).bind (·.zero) = some (.agg ⟨[.slice none 0 0, .slice none 0 0, .int .i64 0]⟩) := by kernel_rfl
theorem Bbi : plB prog 110 [(0, 1), (1, 1), (2, 1)] = true := by kernel_rfl
theorem AV0 : (prog.info? 110).map (·.size) = some 3 := by kernel_rfl
theorem AX6 : AU7 prog 110 3 = true := by kernel_rfl
theorem Bz7 : (prog.info? 22).map (·.size) = some 1 := by kernel_rfl
theorem Bis : faB prog 50 1 1 1 = true := by kernel_rfl
theorem Aw9 : AUz prog 48 = true := by kernel_rfl
theorem Bsn : plB prog 50 [(0, 1), (1, 1)] = true := by kernel_rfl
theorem APh : slB prog 108 50 2 32 (szB 2) = true := by kernel_rfl
theorem Bpy : (prog.info? 108).map (·.size) = some 1 := by kernel_rfl
theorem AAd : AUz prog 3 = true := by kernel_rfl
theorem AW7 : faB prog 103 0 0 1 = true := by kernel_rfl
theorem Bbk : slB prog 218 9 1 16 (szB 1) = true := by kernel_rfl
theorem Bwe : fnB prog 155 = true := by kernel_rfl
theorem ATe : faB prog 103 1 1 1 = true := by kernel_rfl
theorem Bs7 : (prog.info? 218).bind (·.zero) = some (.slice none 0 0) := by kernel_rfl
theorem Bca : AU7 prog 106 2 = true := by kernel_rfl
theorem Bfs : (prog.info? 106).bind (·.zero) = some (.agg ⟨[.string ⟨⟨[]⟩⟩, .int .u8 0]⟩) := by kernel_rfl
theorem Bk3 : (prog.info? 106).map (·.size) = some 2 := by kernel_rfl
theorem Bmi : faB prog 106 0 0 1 = true := by kernel_rfl
theorem Bpd : (prog.info? 218).map (·.size) = some 1 := by kernel_rfl
theorem Bx3 : fnB prog 180 = true := by kernel_rfl
theorem Bgh : faB prog 106 1 1 1 = true := by kernel_rfl
theorem Bp4 : fnB prog 128 = true := by kernel_rfl
theorem Ajp : (prog.info? 118).bind (·.zero) = some (.agg ⟨(.int .i64 0 :: .int .i64 0 :: ev8 (Vector.replicate 24 (0 : UInt8)))⟩) := by kernel_rfl
theorem ACi : plB prog 118 [(0, 1), (1, 1), (2, 24)] = true := by kernel_rfl
theorem Amy : (prog.info? 118).map (·.size) = some 26 := by kernel_rfl
theorem Aoi : AU7 prog 118 26 = true := by kernel_rfl
theorem ANo : arB prog 116 48 24 1 = true := by kernel_rfl
theorem AWk : (prog.info? 48).map (·.size) = some 1 := by kernel_rfl
theorem AUo : Key prog 3 (Value.int .i64) := Key.int underlying3
theorem Bf8 : (prog.info? 179).bind (·.zero) = some (.agg ⟨[]⟩) := by kernel_rfl
theorem Bkr : plB prog 179 [] = true := by kernel_rfl
theorem Bxe : plB prog 154 [(0, 3), (3, 1), (4, 1), (5, 1), (6, 1), (7, 1)] = true := by kernel_rfl
theorem Btn : (prog.info? 154).bind (·.zero) = some (.agg ⟨[.slice none 0 0, .slice none 0 0, .int .i64 0, .slice none 0 0, .map none, .map none, .map none, .int .i64 0]⟩) := by kernel_rfl
theorem AYu : (prog.info? 3).map (·.size) = some 1 := by kernel_rfl
theorem APa : (prog.info? 79).bind (·.zero) = some (.agg ⟨[.int .i64 0, .int .u8 0, .int .i64 0, .int .i64 0]⟩) := by kernel_rfl
theorem Biw : plB prog 79 [(0, 1), (1, 1), (2, 1), (3, 1)] = true := by kernel_rfl
theorem AOo : (prog.info? 79).map (·.size) = some 4 := by kernel_rfl
theorem AQ3 : AU7 prog 79 4 = true := by kernel_rfl
theorem AZa : AUz prog 5 = true := by kernel_rfl
theorem Bvr : (prog.info? 42).bind (·.zero) = some (.slice none 0 0) := by kernel_rfl
theorem Bul : faB prog 79 1 1 1 = true := by kernel_rfl
theorem Br5 : fnB prog 75 = true := by kernel_rfl
theorem Bt7 : faB prog 79 2 2 1 = true := by kernel_rfl
theorem Bz0 : fnB prog 74 = true := by kernel_rfl
theorem B06 : (prog.info? 3).bind (·.zero) = some ((Value.int .i64) (0 : Int)) := by kernel_rfl
theorem Bkt : (prog.info? 118).bind (·.zero) = some (.agg ⟨(.int .i64 0 :: .int .i64 0 :: ev8 (Vector.replicate 24 (0 : UInt8)))⟩) := by kernel_rfl
theorem Bq0 : fnB prog 182 = true := by kernel_rfl
theorem Bmj : faB prog 118 1 1 1 = true := by kernel_rfl
theorem Bo6 : fnB prog 183 = true := by kernel_rfl
theorem Bxx : fnB prog 184 = true := by kernel_rfl
theorem Bm3 : prog.cellsOf 48 = 1 := by kernel_rfl
theorem AX3 : AU7 prog 116 24 = true := by kernel_rfl
theorem Bki : (prog.fieldsOf 118).toList = [(⟨ "Locals", 3, 0, false, "", "", 0⟩ : Field), (⟨ "Height", 3, 1, false, "", "", 8⟩ : Field), (⟨ "Slots", 116, 2, false, "", "", 16⟩ : Field)] := by kernel_rfl
theorem Bbr : Bnh prog 118 = true := by kernel_rfl
theorem AMl : (prog.info? 226).bind (·.zero) = some (.agg ⟨[.slice none 0 0, .nilFunc]⟩) := by kernel_rfl
theorem AQ1 : plB prog 226 [(0, 1), (1, 1)] = true := by kernel_rfl
theorem AP4 : (prog.info? 226).map (·.size) = some 2 := by kernel_rfl
theorem AO9 : AU7 prog 226 2 = true := by kernel_rfl
theorem Bl3 : (prog.info? 249).bind (·.zero) = some (.agg ⟨[.nilFunc, .nilFunc, .nilFunc, .nilFunc, .nilFunc, .nilFunc, .nilFunc, .nilFunc, .nilFunc, .nilFunc, .nilFunc, .nilFunc, .nilFunc, .nilFunc, .nilFunc, .nilFunc, .nilFunc, .nilFunc, .nilFunc, .nilFunc, .nilFunc, .nilFunc, .nilFunc, .nilFunc, .nilFunc, .nilFunc, .nilFunc, .nilFunc, .nilFunc, .nilFunc, .nilFunc, .nilFunc, .nilFunc, .nilFunc]⟩) := by kernel_rfl
theorem APd : (prog.info? 253).bind (·.zero) = some (.agg ⟨[.int .i64 0, .int .u8 0]⟩) := by kernel_rfl
theorem AT5 : plB prog 253 [(0, 1), (1, 1)] = true := by kernel_rfl
theorem Bgi : (prog.info? 253).map (·.size) = some 2 := by kernel_rfl
theorem Bnw : AU7 prog 253 2 = true := by kernel_rfl
theorem AG7 : slB prog 224 253 2 16 (szB 2) = true := by kernel_rfl
theorem ANk : fnB prog 201 = true := by kernel_rfl
theorem Btr : (prog.info? 142).bind (·.zero) = some (.nilFunc) := by kernel_rfl
theorem Bx5 : (prog.info? 142).map (·.size) = some 1 := by kernel_rfl
theorem Bn4 : AUz prog 142 = true := by kernel_rfl
theorem ANp : fnB prog 202 = true := by kernel_rfl
theorem AF3 : arB prog 249 248 34 1 = true := by kernel_rfl
theorem AGd : (prog.info? 248).map (·.size) = some 1 := by kernel_rfl
theorem Bko : fnB prog 208 = true := by kernel_rfl
theorem Bq1 : fnB prog 209 = true := by kernel_rfl
theorem Bn8 : AU7 prog 249 34 = true := by kernel_rfl
theorem Bye : (prog.info? 249).map (·.size) = some 34 := by kernel_rfl
theorem Bxr : fnB prog 185 = true := by kernel_rfl
theorem Bu3 : AUz prog 248 = true := by kernel_rfl
theorem Bbo : AUz prog 4 = true := by kernel_rfl
theorem Buz : (prog.info? 28).bind (·.zero) = some (.slice none 0 0) := by kernel_rfl
theorem Bf0 : AUz prog 28 = true := by kernel_rfl
theorem Bzx : (prog.info? 28).map (·.size) = some 1 := by kernel_rfl
theorem Bwq : fnB prog 100 = true := by kernel_rfl
theorem AFl : (prog.info? 4).bind (·.zero) = some (.bool false) := by kernel_rfl
theorem AYa : (prog.info? 4).map (·.size) = some 1 := by kernel_rfl
theorem Bw3 : fnB prog 219 = true := by kernel_rfl
theorem Bxn : fnB prog 187 = true := by kernel_rfl
theorem Bsc : fnB prog 50 = true := by kernel_rfl
theorem Buh : (prog.info? 48).bind (·.zero) = some (.int .u8 0) := by kernel_rfl
theorem AP6 : (prog.info? 3).bind (·.zero) = some (.int .i64 0) := by kernel_rfl
theorem Bx1 : fnB prog 212 = true := by kernel_rfl
theorem Bzd : fnB prog 73 = true := by kernel_rfl
theorem Byk : fnB prog 106 = true := by kernel_rfl
theorem Bwh : fnB prog 107 = true := by kernel_rfl
theorem Bz5 : fnB prog 72 = true := by kernel_rfl
theorem Bqe : plB prog 120 [(0, 1), (1, 1), (2, 26)] = true := by kernel_rfl
theorem Bf9 : (prog.info? 120).bind (·.zero) = some (.agg ⟨(.int .i64 0 :: .bool false :: .int .i64 0 :: .int .i64 0 :: ev8 (Vector.replicate 24 (0 : UInt8)))⟩) := by kernel_rfl
theorem AYo : slB prog 113 120 28 56 (szB 28) = true := by kernel_rfl
theorem B0c : plB prog 81 [(0, 1), (1, 1)] = true := by kernel_rfl
theorem Bu1 : (prog.info? 81).bind (·.zero) = some (.agg ⟨[.slice none 0 0, .int .i64 0]⟩) := by kernel_rfl
theorem Bu2 : AU7 prog 120 28 = true := by kernel_rfl
theorem Bxt : (prog.info? 120).map (·.size) = some 28 := by kernel_rfl
theorem Btp : faB prog 120 0 0 1 = true := by kernel_rfl
theorem Bab : slB prog 75 79 4 32 (szB 4) = true := by kernel_rfl
theorem By6 : (prog.info? 75).map (·.size) = some 1 := by kernel_rfl
theorem Bmf : faB prog 120 2 2 26 = true := by kernel_rfl
theorem Bah : slB prog 64 28 1 24 (szB 1) = true := by kernel_rfl
theorem A73 : slB prog 44 4 1 1 (szB 1) = true := by kernel_rfl
theorem Bkn : fnB prog 169 = true := by kernel_rfl
theorem Bx0 : fnB prog 120 = true := by kernel_rfl
theorem Bzy : fnB prog 81 = true := by kernel_rfl
theorem AOh : slB prog 162 118 26 40 (szB 26) = true := by kernel_rfl
theorem Bqb : plB prog 164 [(0, 1), (1, 1), (2, 1), (3, 1)] = true := by kernel_rfl
theorem AN8 : (prog.info? 164).bind (·.zero) = some (.agg ⟨[.slice none 0 0, .slice none 0 0, .slice none 0 0, .slice none 0 0]⟩) := by kernel_rfl
theorem Bw6 : (prog.info? 164).map (·.size) = some 4 := by kernel_rfl
theorem Bz3 : fnB prog 84 = true := by kernel_rfl
theorem Bwn : (prog.fieldsOf 106).toList = [(⟨ "Name", 9, 0, false, "", "", 0⟩ : Field), (⟨ "Type", 48, 1, false, "", "", 16⟩ : Field)] := by kernel_rfl
theorem Bph : Bnh prog 106 = true := by kernel_rfl
theorem Bzw : fnB prog 53 = true := by kernel_rfl
theorem B0b : fnB prog 32 = true := by kernel_rfl
theorem Bz4 : fnB prog 33 = true := by kernel_rfl
theorem Bwr : fnB prog 214 = true := by kernel_rfl
theorem Bw5 : fnB prog 203 = true := by kernel_rfl
theorem Bx7 : fnB prog 204 = true := by kernel_rfl
theorem Bwo : fnB prog 215 = true := by kernel_rfl
theorem Bwz : fnB prog 205 = true := by kernel_rfl
theorem Bxo : fnB prog 206 = true := by kernel_rfl
theorem Bwf : fnB prog 216 = true := by kernel_rfl
theorem Bxm : fnB prog 218 = true := by kernel_rfl
end Go.Proofs.YtfcpkcehecmcpaaGreat
namespace Go.Proofs.YtfcpkcehecmcpaaGreat
open Go Go.RowKit Go.Pv Go.Proofs.Tryz
def tab : Tab := ⟨[(26, 0, 0, 1), (26, 1, 1, 1), (26, 2, 2, 1), (26, 3, 3, 1), (50, 0, 0, 1), (50, 1, 1, 1), (52, 0, 0, 1), (52, 1, 1, 2), (52, 2, 3, 1), (52, 3, 4, 1), (79, 0, 0, 1), (79, 1, 1, 1), (79, 2, 2, 1), (79, 3, 3, 1), (81, 0, 0, 1), (81, 1, 1, 1), (103, 0, 0, 1), (103, 1, 1, 1), (103, 2, 2, 1), (106, 0, 0, 1), (106, 1, 1, 1), (110, 0, 0, 1), (110, 1, 1, 1), (110, 2, 2, 1), (118, 0, 0, 1), (118, 1, 1, 1), (118, 2, 2, 24), (120, 0, 0, 1), (120, 2, 2, 26), (154, 0, 0, 3), (154, 1, 3, 1), (154, 2, 4, 1), (154, 3, 5, 1), (154, 4, 6, 1), (154, 5, 7, 1), (164, 0, 0, 1), (164, 1, 1, 1), (164, 2, 2, 1), (164, 3, 3, 1), (226, 0, 0, 1), (226, 1, 1, 1), (253, 0, 0, 1), (253, 1, 1, 1)], [8, 9, 10, 11, 12, 13, 14, 15, 16, 17, 18, 23, 24, 25, 26, 27, 28, 29, 30, 31, 33, 34, 35, 36, 44, 45, 46, 47, 48, 51, 52, 54, 55, 56, 57, 58, 59, 60, 67, 70, 71, 74, 75, 76, 79, 80, 81, 82, 83, 84, 85, 86, 87, 88, 89, 90, 91, 92, 93, 94, 99, 100, 101, 103, 104, 105, 119, 121, 122, 123, 124, 125, 126, 127, 128, 129, 130, 131, 132, 133, 134, 135, 143, 144, 145, 146, 147, 148, 149, 150, 151, 152, 153, 154, 155, 156, 157, 158, 159, 160, 161, 162, 163, 164, 165, 167, 168, 170, 171, 172, 173, 174, 175, 176, 177, 178, 179, 180, 181, 182, 183, 184, 186, 188, 189, 190, 191, 192, 193, 194, 195, 196, 197, 198, 199, 200, 207, 210, 211, 212, 213, 217, 219], [3, 4, 5, 9, 22, 23, 24, 28, 42, 44, 47, 48, 75, 101, 108, 142, 150, 151, 152, 162, 218, 224, 248], [(26, 4), (50, 2), (52, 5), (79, 4), (103, 3), (106, 2), (110, 3), (116, 24), (118, 26), (120, 28), (164, 4), (226, 2), (249, 34), (253, 2)]⟩
instance : AWl prog := ⟨tab, by kernel_rfl⟩
end Go.Proofs.YtfcpkcehecmcpaaGreat
namespace Go.Proofs.YtfcpkcehecmcpaaGreat
end Go.Proofs.YtfcpkcehecmcpaaGreat
namespace Go.Proofs.YtfcpkcehecmcpaaGreat
open Go Go.RowKit Go.Pv Go.Proofs.Tryz Go.Shelf Go.Proofs
def Bou : Go.Shelf.Ren := ⟨fun | 189 => 49 | 125 => 78 | 257 => 77 | 128 => 117 | 129 => 118 | 294 => 108 | 295 => 109 | 296 => 110 | 297 => 111 | 298 => 112 | 299 => 113 | 216 => 114 | 300 => 115 | 301 => 116 | 328 => 137 | 329 => 138 | 330 => 139 | 331 => 140 | 332 => 141 | 215 => 142 | 343 => 166 | n => n, fun | 28 => 28 | 3 => 3 | 46 => 41 | 0 => 0 | 51 => 191 | 53 => 193 | 4 => 4 | 183 => 183 | 182 => 182 | 131 => 188 | 5 => 5 | 9 => 9 | 218 => 205 | 222 => 209 | 228 => 235 | 229 => 156 | n => n, fun | n => n⟩
theorem Bg2 : Go.Proofs.Lays.n189 prog Bou where
 mixed := by kernel_rfl
 f125 := func78.trans (congrArg some (by kernel_rfl))
 f128 := func117.trans (congrArg some (by kernel_rfl))
 f129 := func118.trans (congrArg some (by kernel_rfl))
 f189 := func49.trans (congrArg some (by kernel_rfl))
 f215 := func142.trans (congrArg some (by kernel_rfl))
 f216 := func114.trans (congrArg some (by kernel_rfl))
 f257 := func77.trans (congrArg some (by kernel_rfl))
 f294 := func108.trans (congrArg some (by kernel_rfl))
 f295 := func109.trans (congrArg some (by kernel_rfl))
 f296 := func110.trans (congrArg some (by kernel_rfl))
 f297 := func111.trans (congrArg some (by kernel_rfl))
 f298 := func112.trans (congrArg some (by kernel_rfl))
 f299 := func113.trans (congrArg some (by kernel_rfl))
 f300 := func115.trans (congrArg some (by kernel_rfl))
 f301 := func116.trans (congrArg some (by kernel_rfl))
 f328 := func137.trans (congrArg some (by kernel_rfl))
 f329 := func138.trans (congrArg some (by kernel_rfl))
 f330 := func139.trans (congrArg some (by kernel_rfl))
 f331 := func140.trans (congrArg some (by kernel_rfl))
 f332 := func141.trans (congrArg some (by kernel_rfl))
 f343 := func166.trans (congrArg some (by kernel_rfl))
 t0 := underlying0
 a0 := Tryz.isAgg0
 z0 := Tryz.sizeOf0
 v0 := Tryz.zeroValue0
 t3 := underlying3
 a3 := Tryz.isAgg3
 z3 := Tryz.sizeOf3
 v3 := Tryz.zeroValue3
 t4 := underlying4
 a4 := Tryz.isAgg4
 z4 := Tryz.sizeOf4
 v4 := Tryz.zeroValue4
 t5 := underlying5
 a5 := Tryz.isAgg5
 z5 := Tryz.sizeOf5
 v5 := Tryz.zeroValue5
 t9 := underlying9
 a9 := Tryz.isAgg9
 z9 := Tryz.sizeOf9
 v9 := Tryz.zeroValue9
 t28 := underlying28
 a28 := Tryz.isAgg28
 z28 := Tryz.sizeOf28
 v28 := Tryz.zeroValue28
 t46 := underlying41
 a46 := Tryz.isAgg41
 z46 := Tryz.sizeOf41
 v46 := Tryz.zeroValue41
 t51 := underlying191
 a51 := Tryz.isAgg191
 z51 := Tryz.sizeOf191
 v51 := Tryz.zeroValue191
 t53 := underlying193
 a53 := Tryz.isAgg193
 z53 := Tryz.sizeOf193
 v53 := Tryz.zeroValue193
 t131 := underlying188
 a131 := Tryz.isAgg188
 z131 := Tryz.sizeOf188
 v131 := Tryz.zeroValue188
 t182 := underlying182
 a182 := Tryz.isAgg182
 z182 := Tryz.sizeOf182
 v182 := Tryz.zeroValue182
 t183 := underlying183
 a183 := Tryz.isAgg183
 z183 := Tryz.sizeOf183
 v183 := Tryz.zeroValue183
 t218 := underlying205
 a218 := Tryz.isAgg205
 z218 := Tryz.sizeOf205
 v218 := Tryz.zeroValue205
 t222 := underlying209
 a222 := Tryz.isAgg209
 z222 := Tryz.sizeOf209
 v222 := Tryz.zeroValue209
 t228 := underlying235
 a228 := Tryz.isAgg235
 z228 := Tryz.sizeOf235
 v228 := Tryz.zeroValue235
 t229 := underlying156
 a229 := Tryz.isAgg156
 z229 := Tryz.sizeOf156
 v229 := Tryz.zeroValue156
def Bjx : Go.Shelf.Ren := ⟨fun | 20 => 50 | n => n, fun | 22 => 28 | 3 => 3 | 4 => 4 | 0 => 0 | n => n, fun | n => n⟩
theorem Bhu : Go.Proofs.Lays2.n20 prog Bjx where
 mixed := by kernel_rfl
 f20 := func50.trans (congrArg some (by kernel_rfl))
 t0 := underlying0
 a0 := Tryz.isAgg0
 z0 := Tryz.sizeOf0
 v0 := Tryz.zeroValue0
 t3 := underlying3
 a3 := Tryz.isAgg3
 z3 := Tryz.sizeOf3
 v3 := Tryz.zeroValue3
 t4 := underlying4
 a4 := Tryz.isAgg4
 z4 := Tryz.sizeOf4
 v4 := Tryz.zeroValue4
 t22 := underlying28
 a22 := Tryz.isAgg28
 z22 := Tryz.sizeOf28
 v22 := Tryz.zeroValue28
 i3 := by kernel_rfl
def Bl1 : Go.Shelf.Ren := ⟨fun | 7 => 73 | 10 => 107 | n => n, fun | 23 => 150 | 26 => 3 | 3 => 118 | 28 => 148 | 0 => 0 | 27 => 147 | 33 => 89 | 4 => 4 | n => n, fun | n => n⟩
theorem Bju : Go.Proofs.SlLaysZI.n7 prog Bl1 where
 mixed := by kernel_rfl
 f7 := ⟨"maps.Keys[map[int]proviso/api.Frame,int,proviso/api.Frame]", by decide, func73.trans (congrArg some (by kernel_rfl))⟩
 f10 := ⟨"maps.Keys[map[int]proviso/api.Frame,int,proviso/api.Frame]$1", by decide, func107.trans (congrArg some (by kernel_rfl))⟩
 t0 := underlying0
 a0 := Tryz.isAgg0
 z0 := Tryz.sizeOf0
 v0 := Tryz.zeroValue0
 t4 := underlying4
 a4 := Tryz.isAgg4
 z4 := Tryz.sizeOf4
 v4 := Tryz.zeroValue4
 t23 := underlying150
 a23 := Tryz.isAgg150
 z23 := Tryz.sizeOf150
 v23 := Tryz.zeroValue150
 t26 := underlying3
 a26 := Tryz.isAgg3
 z26 := Tryz.sizeOf3
 v26 := Tryz.zeroValue3
 t27 := underlying147
 a27 := Tryz.isAgg147
 z27 := Tryz.sizeOf147
 v27 := Tryz.zeroValue147
 t28 := underlying148
 a28 := Tryz.isAgg148
 z28 := Tryz.sizeOf148
 v28 := Tryz.zeroValue148
 t33 := underlying89
 a33 := Tryz.isAgg89
 z33 := Tryz.sizeOf89
 v33 := Tryz.zeroValue89
def Blb : Go.Shelf.Ren := ⟨fun | 6 => 72 | 8 => 106 | 9 => 49 | 11 => 136 | 13 => 78 | 12 => 77 | 23 => 117 | 24 => 118 | 14 => 108 | 15 => 109 | 16 => 110 | 17 => 111 | 18 => 112 | 19 => 113 | 20 => 114 | 21 => 115 | 22 => 116 | 25 => 137 | 26 => 138 | 27 => 139 | 28 => 140 | 29 => 141 | 30 => 142 | 31 => 166 | n => n, fun | 26 => 3 | 28 => 148 | 24 => 28 | 0 => 0 | 3 => 3 | 37 => 41 | 48 => 191 | 50 => 193 | 4 => 4 | 40 => 183 | 39 => 182 | 45 => 188 | 5 => 5 | 9 => 9 | 51 => 205 | 55 => 209 | 57 => 235 | 58 => 156 | 33 => 89 | n => n, fun | n => n⟩
theorem Brm : Go.Proofs.SlLaysZI.n6 prog Blb where
 mixed := by kernel_rfl
 f6 := ⟨"slices.Sorted[int]", by decide, func72.trans (congrArg some (by kernel_rfl))⟩
 f8 := ⟨"slices.Collect[int]", by decide, func106.trans (congrArg some (by kernel_rfl))⟩
 f11 := ⟨"slices.AppendSeq[[]int,int]", by decide, func136.trans (congrArg some (by kernel_rfl))⟩
 t0 := underlying0
 a0 := Tryz.isAgg0
 z0 := Tryz.sizeOf0
 v0 := Tryz.zeroValue0
 t24 := underlying28
 a24 := Tryz.isAgg28
 z24 := Tryz.sizeOf28
 v24 := Tryz.zeroValue28
 t26 := underlying3
 a26 := Tryz.isAgg3
 z26 := Tryz.sizeOf3
 v26 := Tryz.zeroValue3
 t28 := underlying148
 a28 := Tryz.isAgg148
 z28 := Tryz.sizeOf148
 v28 := Tryz.zeroValue148
 i26 := by kernel_rfl
end Go.Proofs.YtfcpkcehecmcpaaGreat
