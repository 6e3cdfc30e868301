/- Texts merged (3). -/
import Derived.Test.YtfcpkcehecmcpaaGreatKb
set_option linter.unusedVariables false
set_option linter.unusedSimpArgs false
open Option renaming bind_some → AQg, getD_some → AQh, map_some → AQi
open List renaming getElem?_eq_getElem → AQj, length_append → AQk, length_map → AQl, length_singleton → AQm, length_set → AQn, length_take → AQo, mem_append → AQp, mem_singleton → AQq, mem_cons → AQr, mem_filter → AQs, mem_range → AQt, mem_map → AQu, getElem_mem → AQv, map_append → AQw, filter_append → AQx, filter_cons → AQy, range_succ → AQz, append_nil → AQ0, nil_append → AQ1, length_cons → AQ2, take_append_getElem → AQ3, append_assoc → AQ4, pairwise_append → AQ5, mem_of_getElem? → AQ6, length_filter_le → AQ7, length_range → AQ8, pairwise_cons → AQ9, getElem_take → ARa, take_length → ARb
open Int renaming toNat_natCast → ARc, eq_ofNat_of_zero_le → ARd
open Bool renaming and_eq_true → ARe, eq_iff_iff → ARf
namespace Go.Proofs.YtfcpkcehecmcpaaGreat
open Go Go.RowKit Go.Pv
def Shp (f : B0) : Prop := 0 ≤ f.Locals ∧ f.Locals ≤ 16 ∧ 0 ≤ f.Height ∧ f.Locals + f.Height ≤ 24
instance (f : B0) : Decidable (Shp f) := by unfold Shp; infer_instance
theorem Awk (f : B0) (h : -9223372036854775808 ≤ f.Height ∧ f.Height ≤ 9223372036854775807) : Ak4 f = some (decide (Shp f)) := by
 unfold Ak4
 have hS : Shp f ↔ (0 ≤ f.Locals ∧ f.Locals ≤ 16 ∧ 0 ≤ f.Height ∧ f.Locals + f.Height ≤ 24) := Iff.rfl
 by_cases h1 : 0 ≤ f.Locals
 ·rw [Bu (by rw [AS]; omega)]
  by_cases h2 : f.Locals ≤ 16
  ·rw [Bu (by rw [AS]; omega)]
   by_cases h3 : 0 ≤ f.Height
   ·rw [Bu (by rw [AS]; omega), Aec (by omega) (by omega)]
    congr 1
    rw [decide_eq_decide, hS]
    omega
   ·rw [A7 (by rw [AS]; omega), decide_eq_false (by rw [hS]; omega)]
  ·rw [A7 (by rw [AS]; omega), decide_eq_false (by rw [hS]; omega)]
 ·rw [A7 (by rw [AS]; omega), decide_eq_false (by rw [hS]; omega)]
theorem A0y (f : B0) : Aiy f = some (decide (Shp f)) := by
 unfold Aiy
 have hS : Shp f ↔ (0 ≤ f.Locals ∧ f.Locals ≤ 16 ∧ 0 ≤ f.Height ∧ f.Locals + f.Height ≤ 24) := Iff.rfl
 by_cases h1 : 0 ≤ f.Locals
 ·rw [Bu (by rw [AS]; omega)]
  by_cases h2 : f.Locals ≤ 16
  ·rw [Bu (by rw [AS]; omega)]
   by_cases h3 : 0 ≤ f.Height
   ·rw [Bu (by rw [AS]; omega)]
    by_cases h4 : f.Height ≤ 24
    ·rw [Bu (by rw [AS]; omega), Aec (by omega) (by omega)]
     congr 1
     rw [decide_eq_decide, hS]
     omega
    ·rw [A7 (by rw [AS]; omega), decide_eq_false (by rw [hS]; omega)]
   ·rw [A7 (by rw [AS]; omega), decide_eq_false (by rw [hS]; omega)]
  ·rw [A7 (by rw [AS]; omega), decide_eq_false (by rw [hS]; omega)]
 ·rw [A7 (by rw [AS]; omega), decide_eq_false (by rw [hS]; omega)]
theorem AAx (v : Vector UInt8 24) (n : Nat) : ∃ w : Vector UInt8 24, ∀ i (h : i < 24), w[i] = if i < n then v[i] else 0 := ⟨Vector.ofFn fun i => if i.val < n then v[i] else 0, fun i h => by simp⟩
noncomputable def A3d (v : Vector UInt8 24) (n : Nat) : Vector UInt8 24 := Classical.choose (AAx v n)
theorem Am3 (v : Vector UInt8 24) (n i : Nat) (h : i < 24) : (A3d v n)[i] = if i < n then v[i] else 0 := Classical.choose_spec (AAx v n) i h
noncomputable def Ah7 (f : B0) : B0 := ⟨f.Locals, f.Height, A3d f.Slots (f.Locals + f.Height).toNat⟩
theorem A0i (f : B0) (h0 : 0 ≤ f.Locals + f.Height) (h : f.Locals + f.Height ≤ 24) : Am1 f = some (Ah7 f) := by
 unfold Am1 Ah7
 rw [Aec (by omega) (by omega), Aud (by simp; omega), AQg]
 have : vcp (Vector.replicate 24 (0 : UInt8)) f.Slots (f.Locals + f.Height).toNat = A3d f.Slots (f.Locals + f.Height).toNat := by
  apply Vector.ext
  intro j hj
  unfold vcp
  rw [Am3 _ _ _ hj, Vector.getElem_ofFn]
  simp
 rw [this]
theorem A90 (f : B0) (h0 : 0 ≤ f.Locals + f.Height) (h : f.Locals + f.Height ≤ 24) : Ak0 f = some (Ah7 f) := by
 unfold Ak0 Ah7
 rw [Aec (by omega) (by omega)]
 obtain ⟨n, hn⟩ := ARd h0
 rw [hn, ARc]
 have hn24 : n ≤ 24 := by omega
 have key : ∀ k i (v : Vector UInt8 24), i + k = 24 → n ≤ i → (∀ j (hj : j < 24), j < i → v[j] = (A3d f.Slots n)[j]) → (∀ j (hj : j < 24), ¬ j < i → True) → Aa4 Ah0 (v, (i : Int)) = some (A3d f.Slots n) := by
  intro k
  induction k with
  | zero =>
   intro i v hi hni hv _
   have hv' : v = A3d f.Slots n := Vector.ext fun j hj => hv j hj (by omega)
   rw [← hv', Ada (r := v)]
   ·unfold Ah0
    dsimp only
    rw [A7 (by rw [AS]; omega)]
  | succ k ih =>
   intro i v hi hni hv _
   have hi24 : i < v.toList.length := by simp; omega
   rw [Afd (s' := (Amj v (i : Int) 0, ((i + 1 : Nat) : Int)))]
   ·refine ih (i + 1) _ (by omega) (by omega) (fun j hj hji => ?_) (fun _ _ _ => trivial)
    unfold Amj
    rw [Vector.getElem_setIfInBounds, ARc]
    by_cases hij : i = j
    ·rw [Bu hij, Am3 _ _ _ hj, A7 (by omega)]
    ·rw [A7 hij]; exact hv j hj (by omega)
   ·unfold Ah0
    dsimp only
    rw [Bu (by rw [AS]; omega), Ac8 hi24, AQg, wr1 (by omega)]
 rw [key (24 - n) n f.Slots (by omega) (by omega) (fun j hj hji => by rw [Am3 _ _ _ hj, Bu hji]) (fun _ _ _ => trivial), AQg]
end Go.Proofs.YtfcpkcehecmcpaaGreat
namespace Go.Proofs.YtfcpkcehecmcpaaGreat
open Go Go.RowKit Go.Pv
def AH9 (f : B0) : Prop := (-9223372036854775808 ≤ f.Locals ∧ f.Locals ≤ 9223372036854775807) ∧ (-9223372036854775808 ≤ f.Height ∧ f.Height ≤ 9223372036854775807)
noncomputable def Az0 (l : List BV) (f : B0) : Int := if ¬ Shp f then 32 else if (Ah7 f).Slots ≠ f.Slots then 32 else if f.Slots.toList.all (tv l) = true then 0 else 22
theorem Atj (l : List BV) : tv l 0 = true := by unfold tv; rfl
theorem AEi (l : List BV) (f : B0) (h : AH9 f) : Alv l f = some (Az0 l f) := by
 unfold Alv Az0
 rw [show (⟨f.Locals, f.Height, f.Slots⟩ : B0) = f from rfl, Awk f h.2, AQg]
 by_cases hs : Shp f
 ·rw [A7 (by simp [hs]), A7 (by simp [hs])]
  have hs' := hs
  unfold Shp at hs'
  rw [A0i f (by omega) (by omega), AQg]
  have he : ((Ah7 f).Locals == f.Locals && ((Ah7 f).Height == f.Height && ((Ah7 f).Slots == f.Slots && true))) = decide ((Ah7 f).Slots = f.Slots) := by
   have hL : (Ah7 f).Locals = f.Locals := by unfold Ah7; dsimp only
   have hH : (Ah7 f).Height = f.Height := by unfold Ah7; dsimp only
   rw [hL, hH]
   generalize (Ah7 f).Slots = B
   generalize f.Slots = C
   rw [ARf, AS]
   simp
  rw [he]
  by_cases hb : (Ah7 f).Slots = f.Slots
  ·rw [decide_eq_true hb, A7 (by simp), A7 (by simp [hb])]
   have hl := Ak7 (R := Int ⊕ Unit) 24 (body := Akq l f) (fun i => (Aqp f.Slots.toList (fun t => !tv l t) i).map fun _ => .inl 22) (r0 := .inr ()) (fun i hi => by
    have hi' : i < f.Slots.toList.length := by simp; omega
    unfold Akq
    rw [Bu (by rw [AS]; omega), Ac8 hi', AQg, Apw, AQg, wr1 (by omega), Atb hi']
    split <;> rfl) (by
    unfold Akq
    rw [A7 (by rw [AS]; omega)])
   rw [hl, AQg, Aop]
   have hn := Axk f.Slots.toList fun t => !tv l t
   rw [Vector.length_toList] at hn
   rcases hf : (List.range 24).findSome? (Aqp f.Slots.toList fun t => !tv l t) with _ | r
   ·have ha : f.Slots.toList.all (tv l) = true := by
     have := hn.1 hf
     rw [List.all_eq_true]
     intro t ht
     rw [List.any_eq_false] at this
     simpa using this t ht
    rw [Bu ha]; rfl
   ·have ha : f.Slots.toList.all (tv l) ≠ true := by
     intro hb2
     rw [List.all_eq_true] at hb2
     have : (f.Slots.toList.any fun t => !tv l t) = false := by
      rw [List.any_eq_false]
      intro t ht; simp [hb2 t ht]
     rw [hn.2 this] at hf; cases hf
    rw [A7 ha]; rfl
  ·rw [decide_eq_false hb, Bu (by simp), Bu hb]
 ·rw [Bu (by simp [hs]), Bu hs]
end Go.Proofs.YtfcpkcehecmcpaaGreat
namespace Go.Proofs.YtfcpkcehecmcpaaGreat
open Go Go.RowKit Go.Pv
theorem Av6 {R : Type} (n : Nat) {body : Int → Option (Int ⊕ R)} (P : Nat → Option R) {r0 : R} (hs : ∀ i, i < n → body (i : Int) = match P i with | some r => some (.inr r) | none => some (.inl ((i + 1 : Nat) : Int))) (he : body (n : Int) = some (.inr r0)) :
  ∀ k i, i + k = n → (∃ r, (∃ j, i ≤ j ∧ j < n ∧ P j = some r) ∧ Aa4 body (i : Int) = some r) ∨ ((∀ j, i ≤ j → j < n → P j = none) ∧ Aa4 body (i : Int) = some r0) := by
 intro k
 induction k with
 | zero => intro i hi; right; exact ⟨fun j h1 h2 => by omega, Ada (by rw [show i = n by omega]; exact he)⟩
 | succ k ih =>
  intro i hi
  have hb := hs i (by omega)
  rcases hP : P i with _ | r
  ·rw [hP] at hb
   rw [Afd hb]
   rcases ih (i + 1) (by omega) with ⟨r, ⟨j, h1, h2, h3⟩, h4⟩ | ⟨h1, h2⟩
   ·exact Or.inl ⟨r, ⟨j, by omega, h2, h3⟩, h4⟩
   ·refine Or.inr ⟨fun j hj hjn => ?_, h2⟩
    by_cases h : j = i
    ·rw [h, hP]
    ·exact h1 j (by omega) hjn
  ·rw [hP] at hb
   exact Or.inl ⟨r, ⟨i, Nat.le_refl i, by omega, hP⟩, Ada hb⟩
def Axi (l : List BV) (v : Vector UInt8 24) : Prop := ∀ j (h : j < 24), tv l v[j] = true
theorem Auw (l : List BV) (v : Vector UInt8 24) : v.toList.all (tv l) = true ↔ Axi l v := by
 rw [List.all_eq_true]
 constructor
 ·intro h j hj
  exact h _ (by rw [← Vector.getElem_toList (by simpa using hj)]; exact AQv _)
 ·intro h x hx
  obtain ⟨i, hi, rfl⟩ := List.mem_iff_getElem.1 hx
  rw [Vector.getElem_toList]
  exact h i (by simpa using hi)
structure Fok (l : List BV) (f : B0) : Prop where
 shp : Shp f
 bare : ∀ j (h : j < 24), (f.Locals + f.Height).toNat ≤ j → f.Slots[j] = 0
 all : Axi l f.Slots
theorem Avg (f : B0) : (Ah7 f).Slots = f.Slots ↔ ∀ j (h : j < 24), (f.Locals + f.Height).toNat ≤ j → f.Slots[j] = 0 := by
 unfold Ah7
 dsimp only
 constructor
 ·intro h j hj hle
  have := Am3 f.Slots (f.Locals + f.Height).toNat j hj
  rw [A7 (by omega)] at this
  rw [← this]
  congr 1
  exact h.symm
 ·intro h
  apply Vector.ext
  intro j hj
  rw [Am3 _ _ _ hj]
  split
  ·rfl
  ·exact (h j hj (by omega)).symm
theorem A70 (l : List BV) (f : B0) : Az0 l f = 0 ↔ Fok l f := by
 unfold Az0
 by_cases h1 : Shp f
 ·rw [A7 (by simp [h1])]
  by_cases h2 : (Ah7 f).Slots = f.Slots
  ·rw [A7 (by simp [h2])]
   by_cases h3 : f.Slots.toList.all (tv l) = true
   ·rw [Bu h3]
    exact ⟨fun _ => ⟨h1, (Avg f).1 h2, (Auw l _).1 h3⟩, fun _ => rfl⟩
   ·rw [A7 h3]
    exact ⟨fun h => (by cases h), fun h => absurd ((Auw l _).2 h.all) h3⟩
  ·rw [Bu h2]
   exact ⟨fun h => (by cases h), fun h => absurd ((Avg f).2 h.bare) h2⟩
 ·rw [Bu h1]
  exact ⟨fun h => (by cases h), fun h => absurd h.shp h1⟩
theorem Fok.int {l : List BV} {f : B0} (h : Fok l f) : AH9 f := by
 have := h.shp
 unfold Shp at this
 unfold AH9
 omega
theorem A2x {l : List BV} {f : B0} (h : Fok l f) : Alv l f = some 0 := by
 rw [AEi l f h.int, (A70 l f).2 h]
theorem AEn (l : List BV) (f : B0) : Ahp l f = some (Az0 l f) := by
 unfold Ahp
 rw [show (⟨f.Locals, f.Height, f.Slots⟩ : B0) = f from rfl, A0y f, AQg]
 by_cases hs : Shp f
 ·rw [A7 (by simp [hs])]
  have hs' := hs
  unfold Shp at hs'
  obtain ⟨n, hn⟩ := ARd (show 0 ≤ f.Locals + f.Height by omega)
  have hn24 : n ≤ 24 := by omega
  rw [hn, A99 (by omega)]
  have hl0 := Av6 (R := Int ⊕ Unit) 24 (body := Ahh f) (fun i => if h : i < 24 then (if f.Slots[i] = 0 then none else some (.inl 32)) else none) (r0 := .inr ()) (fun i hi => by
   have hi' : i < f.Slots.toList.length := by simp; omega
   unfold Ahh
   rw [Bu (by rw [AS]; omega), Ac8 hi', AQg, wr1 (by omega), dif_pos hi, Vector.getElem_toList]
   by_cases h0 : f.Slots[i] = 0
   ·rw [Bu h0, A7 (by rw [h0]; simp)]
   ·rw [A7 h0, Bu]
    rw [Aas]
    intro h
    apply h0
    apply UInt8.toNat_inj.1
    simpa using h) (by
   unfold Ahh
   rw [A7 (by rw [AS]; omega)]) (24 - n) n (by omega)
  rcases hl0 with ⟨r, ⟨j, hj1, hj2, hj3⟩, hl⟩ | ⟨hb, hl⟩
  ·rw [dif_pos hj2] at hj3
   have h0 : f.Slots[j] ≠ 0 := by intro h; rw [Bu h] at hj3; cases hj3
   rw [A7 h0] at hj3
   cases hj3
   rw [hl, AQg]
   have hc : Az0 l f = 32 := by
    unfold Az0
    rw [A7 (by simp [hs]), Bu]
    intro h
    exact h0 ((Avg f).1 h j hj2 (by rw [hn, ARc]; exact hj1))
   rw [hc]
  ·rw [hl, AQg]
   have hb' : ∀ j (h : j < 24), (f.Locals + f.Height).toNat ≤ j → f.Slots[j] = 0 := by
    intro j hj hle
    rw [hn, ARc] at hle
    have := hb j hle hj
    rw [dif_pos hj] at this
    by_cases h0 : f.Slots[j] = 0
    ·exact h0
    ·rw [A7 h0] at this; cases this
   have hl1 := Av6 (R := Int ⊕ Unit) n (body := Ahi l f) (fun i => if h : i < 24 then (if tv l f.Slots[i] = true then none else some (.inl 22)) else none) (r0 := .inr ()) (fun i hi => by
    have hi' : i < f.Slots.toList.length := by simp; omega
    have hi24 : i < 24 := by omega
    unfold Ahi
    rw [hn, A99 (by omega), Bu (by rw [AS]; omega), Ac8 hi', AQg, Arn, AQg, wr1 (by omega), dif_pos hi24, Vector.getElem_toList]
    rcases ht : tv l f.Slots[i] with _ | _
    ·rfl
    ·rfl) (by
    unfold Ahi
    rw [hn, A99 (by omega), A7 (by rw [AS]; omega)]) n 0 (by omega)
   have he : (Ah7 f).Slots = f.Slots := (Avg f).2 hb'
   unfold Az0
   rw [A7 (by simp [hs]), A7 (by simp [he])]
   rcases hl1 with ⟨r, ⟨j, hj1, hj2, hj3⟩, hl⟩ | ⟨ha, hl⟩
   ·have hj24 : j < 24 := by omega
    rw [dif_pos hj24] at hj3
    have h0 : tv l f.Slots[j] ≠ true := by intro h; rw [Bu h] at hj3; cases hj3
    rw [A7 h0] at hj3
    cases hj3
    rw [show ((0 : Nat) : Int) = 0 from rfl] at hl
    rw [hl, AQg, A7]
    intro h
    exact h0 ((Auw l _).1 h j hj24)
   ·rw [show ((0 : Nat) : Int) = 0 from rfl] at hl
    rw [hl, AQg, Bu]
    rw [Auw]
    intro j hj
    by_cases hjn : j < n
    ·have := ha j (by omega) hjn
     rw [dif_pos hj] at this
     by_cases h0 : tv l f.Slots[j] = true
     ·exact h0
     ·rw [A7 h0] at this; cases this
    ·rw [hb' j hj (by rw [hn, ARc]; omega)]
     exact Atj l
 ·rw [Bu (by simp [hs])]
  unfold Az0
  rw [Bu hs]
theorem A0e {l : List BV} {f : B0} (h : Fok l f) : Ahp l f = some 0 := by
 rw [AEn, (A70 l f).2 h]
end Go.Proofs.YtfcpkcehecmcpaaGreat
namespace Go.Proofs.YtfcpkcehecmcpaaGreat
open Go Go.RowKit Go.Pv
abbrev zf : B0 := ⟨0, 0, Vector.replicate 24 (0 : UInt8)⟩
structure Fb (f : B0) : Prop where
 shp : Shp f
 bare : ∀ j (h : j < 24), (f.Locals + f.Height).toNat ≤ j → f.Slots[j] = 0
theorem Fok.fb {l : List BV} {f : B0} (h : Fok l f) : Fb f := ⟨h.shp, h.bare⟩
theorem Fb.num {f : B0} (h : Fb f) : 0 ≤ f.Locals ∧ f.Locals ≤ 16 ∧ 0 ≤ f.Height ∧ f.Locals + f.Height ≤ 24 := h.shp
theorem Au1 (v : Vector UInt8 24) (i : Nat) (x : UInt8) (j : Nat) (hj : j < 24) : (Amj v (i : Int) x)[j] = if i = j then x else v[j] := by
 unfold Amj
 rw [Vector.getElem_setIfInBounds, ARc]
theorem Apk (v : Vector UInt8 24) (i : Nat) (h : i < 24) : idx v.toList (i : Int) = some v[i] := by
 rw [Ac8 (by simpa using h), Vector.getElem_toList]
theorem A0c {f : B0} (h : Fb f) : Ah7 f = f := by
 have := (Avg f).2 h.bare
 obtain ⟨L, H, S⟩ := f
 unfold Ah7 at *
 dsimp only at *
 rw [this]
noncomputable def Ahm (f : B0) (n : Nat) : B0 := Ah7 ⟨f.Locals, f.Height - n, f.Slots⟩
theorem AEu {f : B0} (h : Fb f) : Ahm f 0 = f := by
 unfold Ahm
 rw [show f.Height - ((0 : Nat) : Int) = f.Height by omega]
 exact A0c h
theorem A23 {f : B0} (h : Fb f) (n : Nat) (hn : n ≤ f.Height) : Fb (Ahm f n) := by
 have hh := h.num
 refine ⟨?_, fun j hj hle => ?_⟩
 ·unfold Shp Ahm Ah7
  dsimp only
  omega
 ·unfold Ahm Ah7 at *
  dsimp only at *
  rw [Am3 _ _ _ hj, A7 (by omega)]
theorem AH4 {l : List BV} {f : B0} (h : Axi l f.Slots) (n : Nat) : Axi l (Ahm f n).Slots := by
 intro j hj
 unfold Ahm Ah7
 dsimp only
 rw [Am3 _ _ _ hj]
 split
 ·exact h j hj
 ·exact Atj l
theorem AF3 {f : B0} (n : Nat) (hn : 0 ≤ f.Locals + f.Height - (n + 1)) : Ah7 ⟨(Ahm f n).Locals, (Ahm f n).Height - 1, (Ahm f n).Slots⟩ = Ahm f (n + 1) := by
 unfold Ahm Ah7
 dsimp only
 congr 1
 ·omega
 ·apply Vector.ext
  intro j hj
  rw [Am3 _ _ _ hj, Am3 _ _ _ hj, Am3 _ _ _ hj]
  by_cases h1 : j < (f.Locals + (f.Height - ((n + 1 : Nat) : Int))).toNat
  ·rw [Bu (by omega), Bu h1, Bu (by omega)]
  ·rw [A7 (by omega), A7 h1]
def Aqu (f : B0) (t : UInt8) : B0 := ⟨f.Locals, f.Height + 1, Amj f.Slots (f.Locals + f.Height) t⟩
def A0a (f : B0) (i : Int) (t : UInt8) : B0 := ⟨f.Locals, f.Height, Amj f.Slots i t⟩
theorem ABi {f : B0} (h : Fb f) (t : UInt8) (hn : f.Locals + f.Height ≠ 24) : Fb (Aqu f t) := by
 have hh := h.num
 obtain ⟨n, hn'⟩ := ARd (show 0 ≤ f.Locals + f.Height by omega)
 refine ⟨?_, fun j hj hle => ?_⟩
 ·unfold Shp Aqu
  dsimp only
  omega
 ·unfold Aqu at *
  dsimp only at *
  rw [hn', Au1 _ _ _ _ hj, A7 (by omega)]
  exact h.bare j hj (by omega)
theorem AGl {l : List BV} {f : B0} (hb : Fb f) (h : Axi l f.Slots) {t : UInt8} (ht : tv l t = true) : Axi l (Aqu f t).Slots := by
 have hh := hb.num
 obtain ⟨n, hn'⟩ := ARd (show 0 ≤ f.Locals + f.Height by omega)
 intro j hj
 unfold Aqu
 dsimp only
 rw [hn', Au1 _ _ _ _ hj]
 split
 ·exact ht
 ·exact h j hj
theorem A68 {f : B0} (h : Fb f) (t : UInt8) {i : Int} (h0 : 0 ≤ i) (hi : i < f.Locals) : Fb (A0a f i t) := by
 have hh := h.num
 obtain ⟨n, rfl⟩ := ARd h0
 refine ⟨?_, fun j hj hle => ?_⟩
 ·unfold Shp A0a
  dsimp only
  omega
 ·unfold A0a at *
  dsimp only at *
  rw [Au1 _ _ _ _ hj, A7 (by omega)]
  exact h.bare j hj hle
theorem AIe {l : List BV} {f : B0} (h : Axi l f.Slots) {t : UInt8} (ht : tv l t = true) {i : Int} (h0 : 0 ≤ i) : Axi l (A0a f i t).Slots := by
 obtain ⟨n, rfl⟩ := ARd h0
 intro j hj
 unfold A0a
 dsimp only
 rw [Au1 _ _ _ _ hj]
 split
 ·exact ht
 ·exact h j hj
theorem Fb.h {f : B0} (h : Fb f) : -9223372036854775808 ≤ f.Height ∧ f.Height ≤ 9223372036854775807 := by have := h.num; omega
theorem AC8 {f : B0} (h : Fb f) (n : Nat) (hn : n < f.Height) : ∃ x, Ar0 f (n : Int) = some (x, 0) ∧ f.Slots.toList[(f.Locals + f.Height).toNat - 1 - n]? = some x := by
 have hh := h.num
 obtain ⟨k, hk⟩ := ARd (show 0 ≤ f.Locals + f.Height - 1 - n by omega)
 have hk24 : k < 24 := by omega
 refine ⟨f.Slots[k], ?_, ?_⟩
 ·unfold Ar0
  rw [show (⟨f.Locals, f.Height, f.Slots⟩ : B0) = f from rfl, Awk f h.h, AQg, A7 (by simp [h.shp]), A7 (by rw [AS]; omega), A7 (by rw [AS]; omega)]
  rw [Aec (n := f.Locals + f.Height) (by omega) (by omega), Aec (n := f.Locals + f.Height - 1) (by omega) (by omega), Aec (by omega) (by omega), hk, Apk _ _ hk24, AQg]
 ·rw [show (f.Locals + f.Height).toNat - 1 - n = k by omega, AQj (by simpa using hk24), Vector.getElem_toList]
theorem ALo {f : B0} (h : Fb f) (hn : 0 < f.Height) : ∃ x, At6 f = some (Ahm f 1, x, 0) := by
 have hh := h.num
 obtain ⟨x, hx, _⟩ := AC8 h 0 (by omega)
 refine ⟨x, ?_⟩
 unfold At6
 rw [show (⟨f.Locals, f.Height, f.Slots⟩ : B0) = f from rfl, show (0 : Int) = ((0 : Nat) : Int) from rfl, hx, AQg]
 dsimp only
 rw [A7 (by simp), Aec (by omega) (by omega), A0i _ (by dsimp only; omega) (by dsimp only; omega), AQg]
 rfl
theorem ALr {f : B0} (h : Fb f) (hn : 0 < f.Height) : ∃ x, Ani f = some (Ahm f 1, x, 0) := by
 have hh := h.num
 obtain ⟨k, hk⟩ := ARd (show 0 ≤ f.Locals + f.Height - 1 by omega)
 have hk24 : k < 24 := by omega
 refine ⟨f.Slots[k], ?_⟩
 unfold Ani
 rw [show (⟨f.Locals, f.Height, f.Slots⟩ : B0) = f from rfl, A0y f, AQg, A7 (by simp [h.shp]), A7 (by rw [JY]; omega)]
 rw [Aec (n := f.Locals + f.Height) (by omega) (by omega), Aec (n := f.Locals + f.Height - 1) (by omega) (by omega), hk, Apk _ _ hk24, AQg, Aec (by omega) (by omega), A90 _ (by dsimp only; omega) (by dsimp only; omega), AQg]
 rfl
theorem AJy {f : B0} (h : Fb f) (t : UInt8) : Asu f t = some (if f.Locals + f.Height = 24 then (zf, 31) else (Aqu f t, 0)) := by
 have hh := h.num
 unfold Asu
 rw [show (⟨f.Locals, f.Height, f.Slots⟩ : B0) = f from rfl, Awk f h.h, AQg, A7 (by simp [h.shp]), Aec (by omega) (by omega)]
 by_cases h24 : f.Locals + f.Height = 24
 ·rw [Bu (by rw [JY]; omega), Bu h24]
 ·rw [A7 (by rw [JY]; omega), A7 h24, A0i f (by omega) (by omega), AQg, A0c h, Aec (n := f.Locals + f.Height) (by omega) (by omega)]
  obtain ⟨k, hk⟩ := ARd (show 0 ≤ f.Locals + f.Height by omega)
  rw [hk, Apk _ _ (by omega), AQg, Aec (by omega) (by omega)]
  unfold Aqu
  rw [hk]
theorem AHz {f : B0} (h : Fb f) (t : UInt8) : Amq f t = some (if f.Locals + f.Height = 24 then (zf, 31) else (Aqu f t, 0)) := by
 have hh := h.num
 unfold Amq
 rw [show (⟨f.Locals, f.Height, f.Slots⟩ : B0) = f from rfl, A0y f, AQg, A7 (by simp [h.shp]), Aec (by omega) (by omega)]
 by_cases h24 : f.Locals + f.Height = 24
 ·rw [Bu (by rw [JY]; omega), Bu h24]
 ·rw [A7 (by rw [JY]; omega), A7 h24, A90 f (by omega) (by omega), AQg, A0c h]
  obtain ⟨k, hk⟩ := ARd (show 0 ≤ f.Locals + f.Height by omega)
  rw [hk, Apk _ _ (by omega), AQg, Aec (by omega) (by omega)]
  unfold Aqu
  rw [hk]
theorem AAw {f : B0} (h : Fb f) {i : Int} (h0 : 0 ≤ i) (hi : i < f.Locals) : ∃ x, Aoo f i = some (x, 0) ∧ idx f.Slots.toList i = some x ∧ f.Slots.toList[i.toNat]? = some x := by
 have hh := h.num
 obtain ⟨k, rfl⟩ := ARd h0
 have hk24 : k < 24 := by omega
 refine ⟨f.Slots[k], ?_, Apk _ _ hk24, ?_⟩
 ·unfold Aoo
  rw [show (⟨f.Locals, f.Height, f.Slots⟩ : B0) = f from rfl, Awk f h.h, AQg, A7 (by simp [h.shp]), A7 (by rw [AS]; omega), A7 (by rw [AS]; omega), Apk _ _ hk24, AQg]
 ·rw [ARc, AQj (by simpa using hk24), Vector.getElem_toList]
theorem AGb {f : B0} (h : Fb f) {i : Int} (h0 : 0 ≤ i) (hi : i < f.Locals) (t : UInt8) : Ara f i t = some (A0a f i t, 0) := by
 have hh := h.num
 obtain ⟨x, hx, hx2, _⟩ := AAw h h0 hi
 unfold Ara
 rw [show (⟨f.Locals, f.Height, f.Slots⟩ : B0) = f from rfl, hx, AQg]
 dsimp only
 rw [A7 (by simp), A0i f (by omega) (by omega), AQg, A0c h, hx2, AQg]
 rfl
def Ap3 : B0 → List UInt8 → B0 × Int
 | f, [] => (f, 0)
 | f, t :: g => if f.Locals + f.Height = 24 then (zf, 31) else Ap3 (Aqu f t) g
theorem A4r {l : List BV} : ∀ (g : List UInt8) (f : B0), Fb f → Axi l f.Slots → (∀ t ∈ g, tv l t = true) → (Ap3 f g).2 = 0 → Fok l (Ap3 f g).1
 | [], f, h, ha, _, _ => ⟨h.shp, h.bare, ha⟩
 | t :: g, f, h, ha, hg, h0 => by
  unfold Ap3 at *
  by_cases h24 : f.Locals + f.Height = 24
  ·rw [Bu h24] at h0; cases h0
  ·rw [A7 h24] at h0 ⊢
   exact A4r g _ (ABi h t h24) (AGl h ha (hg t (by simp))) (fun x hx => hg x (by simp [hx])) h0
theorem A8o {body : Int × Int × Vector UInt8 24 × Int → Option ((Int × Int × Vector UInt8 24 × Int) ⊕ (Int × Int × Vector UInt8 24))} (n : Nat) {f : B0} (h : Fb f) (hn : n ≤ f.Height)
  (hs : ∀ (g : B0) (i : Nat), i < n → Fb g → 0 < g.Height → body (g.Locals, g.Height, g.Slots, (i : Int)) = some (.inl ((Ahm g 1).Locals, (Ahm g 1).Height, (Ahm g 1).Slots, ((i + 1 : Nat) : Int))))
  (he : ∀ g : B0, body (g.Locals, g.Height, g.Slots, (n : Int)) = some (.inr (g.Locals, g.Height, g.Slots))) :
  Aa4 body (f.Locals, f.Height, f.Slots, 0) = some ((Ahm f n).Locals, (Ahm f n).Height, (Ahm f n).Slots) := by
 have hh := h.num
 refine Akf n (fun i => ((Ahm f i).Locals, (Ahm f i).Height, (Ahm f i).Slots, (i : Int))) (fun i hi => ?_) (he _) ?_
 ·have hp : (Ahm f i).Height = f.Height - i := rfl
  rw [hs (Ahm f i) i hi (A23 h i (by omega)) (by omega)]
  have e : Ahm (Ahm f i) 1 = Ahm f (i + 1) := AF3 i (by omega)
  rw [e]
 ·rw [AEu h]; rfl
theorem A3x {body : Int × Int × Vector UInt8 24 × Int → Option ((Int × Int × Vector UInt8 24 × Int) ⊕ ((B0 × Int) ⊕ (Int × Int × Vector UInt8 24)))} (g : List UInt8) (hg : g.length ≤ 1048576)
  (hs : ∀ (f : B0) (i : Nat) (hi : i < g.length), Fb f → body (f.Locals, f.Height, f.Slots, (i : Int)) = some (if f.Locals + f.Height = 24 then .inr (.inl (zf, 31)) else .inl ((Aqu f g[i]).Locals, (Aqu f g[i]).Height, (Aqu f g[i]).Slots, ((i + 1 : Nat) : Int))))
  (he : ∀ f : B0, body (f.Locals, f.Height, f.Slots, (g.length : Int)) = some (.inr (.inr (f.Locals, f.Height, f.Slots)))) :
  ∀ (k i : Nat) (f : B0), i + k = g.length → Fb f → Aa4 body (f.Locals, f.Height, f.Slots, (i : Int)) = some (if (Ap3 f (g.drop i)).2 = 0 then .inr ((Ap3 f (g.drop i)).1.Locals, (Ap3 f (g.drop i)).1.Height, (Ap3 f (g.drop i)).1.Slots) else .inl (Ap3 f (g.drop i))) := by
 intro k
 induction k with
 | zero =>
  intro i f hi h
  have : i = g.length := by omega
  subst this
  rw [List.drop_length, Ada (he f)]
  rfl
 | succ k ih =>
  intro i f hi h
  have hi' : i < g.length := by omega
  have hb := hs f i hi' h
  rw [List.drop_eq_getElem_cons hi']
  unfold Ap3
  by_cases h24 : f.Locals + f.Height = 24
  ·rw [Bu h24] at hb
   rw [Bu h24, Ada hb]
   rfl
  ·rw [A7 h24] at hb
   rw [A7 h24, Afd hb]
   exact ih (i + 1) (Aqu f g[i]) (by omega) (ABi h _ h24)
end Go.Proofs.YtfcpkcehecmcpaaGreat
namespace Go.Proofs.YtfcpkcehecmcpaaGreat
open Go Go.RowKit Go.Pv
theorem A78 (l : List BV) (f g : B0) (n : Nat) : ∃ w : Vector UInt8 24, ∀ i (h : i < 24), w[i] = if i < n then Asp l f.Slots[i] g.Slots[i] else f.Slots[i] := ⟨Vector.ofFn fun i => if i.val < n then Asp l f.Slots[i] g.Slots[i] else f.Slots[i], fun i h => by simp⟩
noncomputable def Azd (l : List BV) (f g : B0) (n : Nat) : Vector UInt8 24 := Classical.choose (A78 l f g n)
theorem Ar7 (l : List BV) (f g : B0) (n i : Nat) (h : i < 24) : (Azd l f g n)[i] = if i < n then Asp l f.Slots[i] g.Slots[i] else f.Slots[i] := Classical.choose_spec (A78 l f g n) i h
noncomputable def Ahw (l : List BV) (f g : B0) : B0 × Int := if f.Locals = g.Locals ∧ f.Height = g.Height then (⟨f.Locals, f.Height, Azd l f g (f.Locals + f.Height).toNat⟩, 0) else (zf, 32)
theorem A6r (l : List BV) {f g : B0} {body : Vector UInt8 24 × Int → Option ((Vector UInt8 24 × Int) ⊕ Vector UInt8 24)} (n : Nat) (hn : n ≤ 24)
  (hs : ∀ (v : Vector UInt8 24) (i : Nat) (hi : i < n), body (v, (i : Int)) = some (.inl (Amj v (i : Int) (Asp l v[i] g.Slots[i]), ((i + 1 : Nat) : Int)))) (he : ∀ v, body (v, (n : Int)) = some (.inr v)) : Aa4 body (f.Slots, 0) = some (Azd l f g n) := by
 refine Akf n (fun i => (Azd l f g i, (i : Int))) (fun i hi => ?_) (he _) ?_
 ·rw [hs _ i hi]
  congr 2
  refine Prod.ext ?_ rfl
  apply Vector.ext
  intro j hj
  dsimp only
  rw [Au1 _ _ _ _ hj, Ar7 _ _ _ _ _ (show i < 24 by omega), Ar7 _ _ _ _ _ hj, Ar7 _ _ _ _ _ hj, A7 (show ¬ i < i by omega)]
  by_cases h : i = j
  ·subst h
   rw [Bu rfl, Bu (by omega)]
  ·rw [A7 h]
   by_cases h2 : j < i
   ·rw [Bu h2, Bu (by omega)]
   ·rw [A7 h2, A7 (by omega)]
 ·refine Prod.ext ?_ rfl
  apply Vector.ext
  intro j hj
  dsimp only
  rw [Ar7 _ _ _ _ _ hj, A7 (by omega)]
theorem AD1 {l : List BV} (G : Good l) {f g : B0} (hf : Fok l f) (hg : Fok l g) : Arp l f g = some (Ahw l f g) := by
 have hh := hf.fb.num
 unfold Arp Att Ahw
 rw [show (⟨f.Locals, f.Height, f.Slots⟩ : B0) = f from rfl, show (⟨g.Locals, g.Height, g.Slots⟩ : B0) = g from rfl, A2x hf, AQg, Bu (by simp), A2x hg, AQg, Bu (by simp)]
 by_cases h1 : f.Locals = g.Locals
 ·rw [A7 (by simp [h1])]
  by_cases h2 : f.Height = g.Height
  ·rw [A7 (by simp [h2]), AQg, A7 (by simp), Bu ⟨h1, h2⟩]
   obtain ⟨n, hn⟩ := ARd (show 0 ≤ f.Locals + f.Height by omega)
   rw [A6r l n (by omega) (f := f) (g := g) (fun v i hi => ?_) (fun v => ?_), AQg, hn, ARc]
   ·unfold Al9
    dsimp only
    rw [Aec (n := f.Locals + f.Height) (by omega) (by omega), hn, Bu (by rw [AS]; omega), Apk _ _ (by omega), AQg, Apk _ _ (by omega), AQg, AFl l G, AQg, AQg, wr1 (by omega)]
   ·unfold Al9
    dsimp only
    rw [Aec (n := f.Locals + f.Height) (by omega) (by omega), hn, A7 (by rw [AS]; omega)]
  ·rw [Bu (by simp [h2]), AQg, Bu (by simp), A7 (by rintro ⟨_, h⟩; exact h2 h)]
 ·rw [Bu (by simp [h1]), AQg, Bu (by simp), A7 (by rintro ⟨h, _⟩; exact h1 h)]
theorem ADr {l : List BV} (G : Good l) {f g : B0} (hf : Fok l f) (hg : Fok l g) : Alz l f g = some (Ahw l f g) := by
 have hh := hf.fb.num
 unfold Alz Ahw
 rw [show (⟨f.Locals, f.Height, f.Slots⟩ : B0) = f from rfl, show (⟨g.Locals, g.Height, g.Slots⟩ : B0) = g from rfl, A0e hf, AQg, A7 (by simp), A0e hg, AQg, A7 (by simp)]
 by_cases h1 : f.Locals = g.Locals
 ·rw [A7 (by simp [h1])]
  by_cases h2 : f.Height = g.Height
  ·rw [A7 (by simp [h2]), Bu ⟨h1, h2⟩]
   obtain ⟨n, hn⟩ := ARd (show 0 ≤ f.Locals + f.Height by omega)
   rw [A6r l n (by omega) (f := f) (g := g) (fun v i hi => ?_) (fun v => ?_), AQg, hn, ARc]
   ·unfold Ait
    dsimp only
    rw [Aec (n := f.Locals + f.Height) (by omega) (by omega), hn, Bu (by rw [AS]; omega), Apk _ _ (by omega), AQg, Apk _ _ (by omega), AQg, AE2 l G, AQg, AQg, wr1 (by omega)]
   ·unfold Ait
    dsimp only
    rw [Aec (n := f.Locals + f.Height) (by omega) (by omega), hn, A7 (by rw [AS]; omega)]
  ·rw [Bu (by simp [h2]), A7 (by rintro ⟨_, h⟩; exact h2 h)]
 ·rw [Bu (by simp [h1]), A7 (by rintro ⟨h, _⟩; exact h1 h)]
end Go.Proofs.YtfcpkcehecmcpaaGreat
namespace Go.Proofs.YtfcpkcehecmcpaaGreat
open Go Go.RowKit Go.Pv
theorem AJv {n : Nat} (h : n < 34) : n = 0 ∨ n = 1 ∨ n = 2 ∨ n = 3 ∨ n = 4 ∨ n = 5 ∨ n = 6 ∨ n = 7 ∨ n = 8 ∨ n = 9 ∨ n = 10 ∨ n = 11 ∨ n = 12 ∨ n = 13 ∨ n = 14 ∨ n = 15 ∨ n = 16 ∨ n = 17 ∨ n = 18 ∨ n = 19 ∨ n = 20 ∨ n = 21 ∨ n = 22 ∨ n = 23 ∨ n = 24 ∨ n = 25 ∨ n = 26 ∨ n = 27 ∨ n = 28 ∨ n = 29 ∨ n = 30 ∨ n = 31 ∨ n = 32 ∨ n = 33 := by omega
def A1u (e : GG) (i : CO) : Aa6 := (e.OS[i.A.toNat]?).getD ⟨[], 0⟩
def Awr (e : GG) : Aa6 := (e.OS[e.Fn.toNat]?).getD ⟨[], 0⟩
def A7k (e : GG) (i : CO) : UInt8 := match (Aee e.Classes i.A)[i.B.toNat]? with
 | some f => f.Akl
 | none => 0
def Ape (t : UInt8) : List UInt8 := if t.toNat = 0 then [] else [t]
def Aq2 (a : Int) : UInt8 := Aiq (16 + ((Aiq a).toNat : Int))
def Af3 (e : GG) (i : CO) : Int :=
 if i.Op.toNat = 21 then (if 0 ≤ i.A ∧ i.A < e.OS.length then 0 else 71)
 else if i.Op.toNat = 23 ∨ i.Op.toNat = 30 ∨ i.Op.toNat = 31 then (if 0 ≤ i.A ∧ i.A < e.Classes.length then 0 else 72)
 else if i.Op.toNat = 24 ∨ i.Op.toNat = 25 then (if 0 ≤ i.A ∧ i.A < e.Classes.length ∧ 0 ≤ i.B ∧ i.B < (Aee e.Classes i.A).length then 0 else 72)
 else 0
def Aco (e : GG) (i : CO) : List UInt8 := match i.Op.toNat with
 | 5 => [254] | 6 => [255] | 7 => [255] | 8 => [255, 255]
 | 9 => [1, 1] | 10 => [1, 1] | 11 => [1, 1] | 12 => [1, 1] | 13 => [1, 1] | 15 => [1, 1]
 | 14 => [1] | 26 => [1] | 33 => [1] | 16 => [255, 255] | 17 => [2] | 20 => [2] | 18 => [253, 253]
 | 21 => (A1u e i).Abs | 22 => Ape (Awr e).Result
 | 24 => [Aq2 i.A] | 25 => [Aq2 i.A, A7k e i]
 | 27 => [4] | 28 => [4, 1] | 29 => [4, 1, 1] | 30 => [253] | 31 => [253] | _ => []
def Anc (e : GG) (i : CO) : List UInt8 := match i.Op.toNat with
 | 1 => [1] | 9 => [1] | 10 => [1] | 11 => [1] | 12 => [1] | 13 => [1] | 14 => [1] | 27 => [1] | 28 => [1]
 | 2 => [2] | 15 => [2] | 16 => [2] | 17 => [2] | 18 => [2] | 31 => [2]
 | 3 => [3] | 4 => [255] | 7 => [255, 255] | 8 => [255, 255]
 | 21 => Ape (A1u e i).Result | 23 => [Aq2 i.A] | 30 => [Aq2 i.A] | 24 => Ape (A7k e i) | 26 => [4] | _ => []
theorem Akd {α : Type} {l : List α} {i : Int} (h0 : 0 ≤ i) (h : i < l.length) (d : α) : idx l i = some ((l[i.toNat]?).getD d) := by
 obtain ⟨x, hx, hx2⟩ := ACu h0 h
 rw [hx, hx2]; rfl
theorem A06 (t : UInt8) : Ajh t = some (Ape t) := by
 unfold Ajh Ape
 by_cases h : t.toNat = 0
 ·rw [Bu (by rw [h]; rfl), Bu h]
 ·rw [A7 (by rw [JY]; omega), A7 h]
theorem Ax5 {e : GG} (h : Af9 e) {i : CO} (h0 : 0 ≤ i.A) (h1 : i.A < e.Classes.length) : Afq e.Classes i.A = some (Aee e.Classes i.A) ∧ Alq e.Classes i.A = some (Aee e.Classes i.A) :=
 ⟨A55 _ h.good.tab h.good.right (by have := h.good.few; omega) _ h1 h1, AD3 _ h.good.tab h.good.right (by have := h.good.few; omega) _ h1 h1⟩
theorem AC7 {e : GG} (h : Af9 e) (i : CO) : Ais e i = some (Af3 e i) := by
 unfold Ais Af3
 have b (k : Nat) : ((i.Op.toNat : Int) == (k : Int)) = decide (i.Op.toNat = k) := Adu _ k
 have b21 : ((i.Op.toNat : Int) == 21) = decide (i.Op.toNat = 21) := b 21
 have b23 : ((i.Op.toNat : Int) == 23) = decide (i.Op.toNat = 23) := b 23
 have b30 : ((i.Op.toNat : Int) == 30) = decide (i.Op.toNat = 30) := b 30
 have b31 : ((i.Op.toNat : Int) == 31) = decide (i.Op.toNat = 31) := b 31
 have b24 : ((i.Op.toNat : Int) == 24) = decide (i.Op.toNat = 24) := b 24
 have b25 : ((i.Op.toNat : Int) == 25) = decide (i.Op.toNat = 25) := b 25
 simp only [b21, b23, b30, b31, b24, b25, AS]
 by_cases h21 : i.Op.toNat = 21
 ·simp only [h21]
  by_cases h0 : i.A < 0
  ·simp [h0]; omega
  ·by_cases h1 : i.A ≥ (e.OS.length : Int)
   ·simp [h1]
   ·have : 0 ≤ i.A ∧ i.A < e.OS.length := by omega
    simp [h0, h1, this]
 ·by_cases hc : i.Op.toNat = 23 ∨ i.Op.toNat = 30 ∨ i.Op.toNat = 31
  ·have h24 : i.Op.toNat ≠ 24 := by omega
   have h25 : i.Op.toNat ≠ 25 := by omega
   have ho : (if i.Op.toNat = 23 then some true else if i.Op.toNat = 30 then some true else if i.Op.toNat = 31 then some true else if i.Op.toNat = 24 then some true else some (decide (i.Op.toNat = 25))) = some true := by
    rcases hc with q | q | q <;> simp [q]
   rw [A7 h21, ho, AQg, A7 h21, Bu hc, Bu rfl, A7 h24, A7 h25]
   by_cases h0 : i.A < 0
   ·rw [Bu h0, A7 (by omega)]; rfl
   ·by_cases h1 : i.A ≥ (e.Classes.length : Int)
    ·rw [A7 h0, Bu h1, A7 (by omega)]; rfl
    ·rw [A7 h0, A7 h1, Bu (by omega)]; rfl
  ·by_cases hf : i.Op.toNat = 24 ∨ i.Op.toNat = 25
   ·have ho : (if i.Op.toNat = 23 then some true else if i.Op.toNat = 30 then some true else if i.Op.toNat = 31 then some true else if i.Op.toNat = 24 then some true else some (decide (i.Op.toNat = 25))) = some true := by
     rcases hf with q | q <;> simp [q]
    rw [A7 h21, ho, AQg, A7 h21, A7 hc, Bu hf, Bu rfl]
    by_cases h0 : i.A < 0
    ·rw [Bu h0, A7 (show ¬ (0 ≤ i.A ∧ i.A < (e.Classes.length : Int) ∧ 0 ≤ i.B ∧ i.B < ((Aee e.Classes i.A).length : Int)) by omega)]; rfl
    ·by_cases h1 : i.A ≥ (e.Classes.length : Int)
     ·rw [A7 h0, Bu h1, A7 (show ¬ (0 ≤ i.A ∧ i.A < (e.Classes.length : Int) ∧ 0 ≤ i.B ∧ i.B < ((Aee e.Classes i.A).length : Int)) by omega)]; rfl
     ·rw [A7 h0, A7 h1, AQg]
      dsimp only
      rw [(Ax5 h (i := i) (by omega) (by omega)).1]
      by_cases h24 : i.Op.toNat = 24
      ·rw [Bu h24]
       by_cases hb : i.B < 0
       ·rw [Bu hb, A7 (show ¬ (0 ≤ i.A ∧ i.A < (e.Classes.length : Int) ∧ 0 ≤ i.B ∧ i.B < ((Aee e.Classes i.A).length : Int)) by omega)]
       ·rw [A7 hb, AQg]
        by_cases hb2 : i.B ≥ ((Aee e.Classes i.A).length : Int)
        ·rw [Bu hb2, A7 (by omega)]
        ·rw [A7 hb2, Bu (by omega)]
      ·have h25 : i.Op.toNat = 25 := by omega
       rw [A7 h24, Bu h25]
       by_cases hb : i.B < 0
       ·rw [Bu hb, A7 (show ¬ (0 ≤ i.A ∧ i.A < (e.Classes.length : Int) ∧ 0 ≤ i.B ∧ i.B < ((Aee e.Classes i.A).length : Int)) by omega)]
       ·rw [A7 hb, AQg]
        by_cases hb2 : i.B ≥ ((Aee e.Classes i.A).length : Int)
        ·rw [Bu hb2, A7 (by omega)]
        ·rw [A7 hb2, Bu (by omega)]
   ·have h24 : i.Op.toNat ≠ 24 := by omega
    have h25 : i.Op.toNat ≠ 25 := by omega
    have ho : (if i.Op.toNat = 23 then some true else if i.Op.toNat = 30 then some true else if i.Op.toNat = 31 then some true else if i.Op.toNat = 24 then some true else some (decide (i.Op.toNat = 25))) = some false := by
     rw [A7 (by omega), A7 (by omega), A7 (by omega), A7 (by omega), decide_eq_false h25]
    rw [A7 h21, ho, AQg, A7 h21, A7 hc, A7 hf, A7 (by simp), AQg]
    dsimp only
    rw [A7 h24, A7 h25]
theorem A6k {e : GG} {i : CO} (h0 : 0 ≤ i.B) (h1 : i.B < (Aee e.Classes i.A).length) : ∃ f, idx (Aee e.Classes i.A) i.B = some f ∧ A7k e i = f.Akl ∧ f ∈ Aee e.Classes i.A := by
 obtain ⟨x, hx, hx2⟩ := ACu h0 h1
 refine ⟨x, hx, ?_, AQ6 hx2⟩
 unfold A7k
 rw [hx2]
theorem AFd {e : GG} (h : Af9 e) (i : CO) (ho : i.Op.toNat < 34) (h0 : Af3 e i = 0) : Al0 e i = some (Aco e i) := by
 unfold Al0 Aco
 unfold Af3 at h0
 rcases AJv ho with h | h | h | h | h | h | h | h | h | h | h | h | h | h | h | h | h | h | h | h | h | h | h | h | h | h | h | h | h | h | h | h | h | h
 all_goals first
  | (simp [h]; done)
  | (simp only [h]; rw [h] at h0; skip)
 ·simp at h0
  simp [Akd h0.1 h0.2 ⟨[], 0⟩, A1u]
 ·have hf := ‹Af9 e›.fn
  simp [Akd hf.1 hf.2 ⟨[], 0⟩, Awr, A06]
 ·simp at h0
  simp [Agn, Aq2]
 ·simp at h0
  obtain ⟨f, hx, hx2, _⟩ := A6k (e := e) h0.2.2.1 h0.2.2.2
  simp [Agn, Aq2, (Ax5 ‹Af9 e› h0.1 h0.2.1).1, hx, hx2]
theorem AGh {e : GG} (h : Af9 e) (i : CO) (ho : i.Op.toNat < 34) (h0 : Af3 e i = 0) : Al3 e i = some (Anc e i) := by
 unfold Al3 Anc
 unfold Af3 at h0
 rcases AJv ho with h | h | h | h | h | h | h | h | h | h | h | h | h | h | h | h | h | h | h | h | h | h | h | h | h | h | h | h | h | h | h | h | h | h
 all_goals first
  | (simp [h]; done)
  | (simp only [h]; rw [h] at h0; skip)
 ·simp at h0
  simp [Akd h0.1 h0.2 ⟨[], 0⟩, A1u, A06]
 ·simp [Agn, Aq2]
 ·simp at h0
  obtain ⟨f, hx, hx2, _⟩ := A6k (e := e) h0.2.2.1 h0.2.2.2
  simp [(Ax5 ‹Af9 e› h0.1 h0.2.1).1, hx, hx2, A06]
 ·simp [Agn, Aq2]
end Go.Proofs.YtfcpkcehecmcpaaGreat
namespace Go.Proofs.YtfcpkcehecmcpaaGreat
open Go Go.RowKit Go.Pv
theorem A5x {l : List BV} (h : l.length ≤ 32) {t : UInt8} (hs : st l t = true) : t.toNat < 48 ∧ t.toNat ≠ 0 ∧ t.toNat ≠ 3 ∧ tv l t = true := by
 unfold st at hs
 rw [ARe, ARe, Aas, Aas] at hs
 obtain ⟨h1, h2, h3⟩ := hs
 have h1' := h1
 unfold tv at h1'
 rw [Bool.or_eq_true, ARe, AS, AS, AS] at h1'
 exact ⟨by omega, h2, h3, h1⟩
theorem A5k {l : List BV} (G : Good l) {c : Int} (hc : c < l.length) {f : Acg} (hf : f ∈ Aee l c) : st l f.Akl = true := by
 unfold Aee at hf
 obtain ⟨k, hk, hk2⟩ := List.mem_flatMap.1 hf
 have hk' := List.mem_reverse.1 hk
 have hlt := (Ath G.right (c.toNat + 1) c (by omega) hc hc k hk').2
 rw [Ay1 hlt] at hk2
 exact G.stored k hlt f hk2
theorem A4w {l : List BV} (h : l.length ≤ 32) {a : Int} (h0 : 0 ≤ a) (h1 : a < l.length) : (Aq2 a).toNat = 16 + a.toNat ∧ Aq2 a = cty a.toNat ∧ tv l (Aq2 a) = true := by
 obtain ⟨k, rfl⟩ := ARd h0
 have hk : k < l.length := by omega
 have e : Aq2 (k : Int) = cty k := by
  unfold Aq2 cty
  rw [A3a (by omega)]
 rw [e, ARc]
 exact ⟨A2r (by omega), rfl, AGf hk (by omega)⟩
def Aqt (t : UInt8) : BQ := if t = 255 then ⟨0, 0⟩ else if t = 254 then ⟨1, 0⟩ else if t = 253 then ⟨2, 0⟩ else ⟨4, t⟩
theorem Au7 {t : UInt8} (h : t.toNat < 48) : Aqt t = ⟨4, t⟩ := by
 unfold Aqt
 rw [A7 (by rintro rfl; simp at h), A7 (by rintro rfl; simp at h), A7 (by rintro rfl; simp at h)]
def Aip (e : GG) (i : CO) : List BQ := if i.Op.toNat = 16 then [⟨3, 0⟩, ⟨3, 0⟩] else (Aco e i).map Aqt
def gvV (e : GG) (i : CO) : Gv := if i.Op.toNat = 7 then .dup else if i.Op.toNat = 8 then .swap else if i.Op.toNat = 4 then .const [0] else .const (Anc e i)
theorem ACa (l : List BV) {c : Int} (h : ¬ (0 ≤ c ∧ c < l.length)) : Alq l c = some [] := by
 unfold Alq Aht
 have h1 : Aa4 (Aej l) (([] : List Int), c) = some (.inr []) := by
  apply Ada
  unfold Aej
  dsimp only
  by_cases h0 : c ≥ 0
  ·rw [Bu (by rw [AS]; exact h0), A7 (by rw [AS]; omega)]
  ·rw [A7 (by rw [AS]; exact h0)]
 rw [h1, AQg]
 dsimp only
 rw [AQg]
 have h2 : Aa4 (Ahl l []) (([] : List Acg), wr ((([] : List Int).length : Int) - 1)) = some [] := by
  apply Ada
  unfold Ahl
  rw [show wr ((([] : List Int).length : Int) - 1) = -1 from by rw [Aec] <;> simp]
  dsimp only
  rw [A7 (by simp)]
 rw [h2, AQg]
theorem Az3 {α : Type} {l : List α} {i : Nat} {d x : α} (h : i < l.length) (hx : (l[i]?).getD d = x) : x ∈ l := by
 rw [AQj h] at hx
 rw [← hx]
 exact AQv h
theorem A4l {e : GG} {i : CO} (h0 : 0 ≤ i.A) (h1 : i.A < e.OS.length) : A1u e i ∈ e.OS := Az3 (by omega) rfl
theorem AHf {e : GG} (h : Af9 e) : Awr e ∈ e.OS := by
 have := h.fn
 exact Az3 (by omega) rfl
theorem A28 {e : GG} (h : Af9 e) {s : Aa6} (hs : s ∈ e.OS) : s.Abs.length ≤ 8 ∧ (∀ t ∈ s.Abs, st e.Classes t = true) ∧ (s.Result.toNat = 0 ∨ st e.Classes s.Result = true) := by
 obtain ⟨h8, h2⟩ := h.sigs s hs
 unfold Az7 at h2
 rw [ARe, Bool.or_eq_true, List.all_eq_true, AS] at h2
 exact ⟨h8, h2.1, h2.2⟩
theorem AF0 {s : Aa6} (h : s.Abs.length ≤ 8) : Aa4 (Anp s) (([] : List BQ), 0) = some (s.Abs.map fun t => ⟨4, t⟩) := by
 refine Ap0 s.Abs (fun t => (⟨4, t⟩ : BQ)) (fun i hi acc ha => ?_) (fun acc => ?_)
 ·unfold Anp
  dsimp only
  rw [Bu (by rw [AS]; omega), Ac8 hi, AQg]
  unfold Am5
  rw [AQg, Ae6 (by simp; omega), AQg, wr1 (by omega)]
 ·unfold Anp
  dsimp only
  rw [A7 (by rw [AS]; omega)]
theorem AIm {l : List UInt8} (h : ∀ t ∈ l, t.toNat < 48) : l.map (fun t => (⟨4, t⟩ : BQ)) = l.map Aqt := List.map_congr_left fun t ht => (Au7 (h t ht)).symm
theorem A3w {e : GG} (h : Af9 e) (i : CO) (hc : i.Op.toNat = 23 ∨ i.Op.toNat = 30) {w : List BQ} (hw : Aip e i = w) (hg : gvV e i = .const [Aq2 i.A]) : Ak5 (.classed w true) e i = some (if Af3 e i = 0 then (⟨Aip e i, gvV e i⟩, 0) else (⟨[], Gv.nil⟩, Af3 e i)) := by
 unfold Ak5 Anh
 dsimp only
 have ho : Af3 e i = if 0 ≤ i.A ∧ i.A < e.Classes.length then 0 else 72 := by unfold Af3; rw [A7 (by omega), Bu (by omega)]
 by_cases ha : 0 ≤ i.A ∧ i.A < e.Classes.length
 ·rw [ho, Bu ha, Bu rfl, A7 (by rw [AS]; omega), A7 (by rw [AS]; omega), A7 (by simp), hw, hg]
  rfl
 ·rw [ho, A7 ha, A7 (show ¬ (72 : Int) = 0 by omega)]
  by_cases h1 : i.A < 0
  ·rw [Bu (by rw [AS]; exact h1)]
  ·rw [A7 (by rw [AS]; exact h1), Bu (by rw [AS]; omega)]
theorem AJj {e : GG} (h : Af9 e) (i : CO) (hc : i.Op.toNat = 31) {w : List BQ} (hw : Aip e i = w) (hg : gvV e i = .const [2]) : Ak5 (.classed w false) e i = some (if Af3 e i = 0 then (⟨Aip e i, gvV e i⟩, 0) else (⟨[], Gv.nil⟩, Af3 e i)) := by
 unfold Ak5 Anh
 dsimp only
 have ho : Af3 e i = if 0 ≤ i.A ∧ i.A < e.Classes.length then 0 else 72 := by unfold Af3; rw [A7 (by omega), Bu (by omega)]
 by_cases ha : 0 ≤ i.A ∧ i.A < e.Classes.length
 ·rw [ho, Bu ha, Bu rfl, A7 (by rw [AS]; omega), A7 (by rw [AS]; omega), Bu (by simp), hw, hg]
 ·rw [ho, A7 ha, A7 (show ¬ (72 : Int) = 0 by omega)]
  by_cases h1 : i.A < 0
  ·rw [Bu (by rw [AS]; exact h1)]
  ·rw [A7 (by rw [AS]; exact h1), Bu (by rw [AS]; omega)]
theorem A8d {e : GG} (h : Af9 e) (i : CO) (hc : i.Op.toNat = 24 ∨ i.Op.toNat = 25) (b : Bool) (hb : b = decide (i.Op.toNat = 25))
  (hw : i.Op.toNat = i.Op.toNat → Aip e i = if b then [Aqt (Aq2 i.A), Aqt (A7k e i)] else [Aqt (Aq2 i.A)]) (hg : i.Op.toNat = i.Op.toNat → gvV e i = .const (if b then [] else Ape (A7k e i))) : Ak5 (.field b) e i = some (if Af3 e i = 0 then (⟨Aip e i, gvV e i⟩, 0) else (⟨[], Gv.nil⟩, Af3 e i)) := by
 have hl32 := h.good.few
 unfold Ak5 Ar6
 dsimp only
 have ho : Af3 e i = if 0 ≤ i.A ∧ i.A < e.Classes.length ∧ 0 ≤ i.B ∧ i.B < (Aee e.Classes i.A).length then 0 else 72 := by unfold Af3; rw [A7 (by omega), A7 (by omega), Bu hc]
 by_cases ha : 0 ≤ i.A ∧ i.A < e.Classes.length
 ·rw [(Ax5 h ha.1 ha.2).2, AQg, A7 (by rw [AS]; omega), A7 (by rw [AS]; omega)]
  by_cases hB : 0 ≤ i.B ∧ i.B < (Aee e.Classes i.A).length
  ·obtain ⟨f, hf1, hf2, hf3⟩ := A6k (e := e) hB.1 hB.2
   have hft := A5x hl32 (A5k h.good ha.2 hf3)
   have hct := A4w hl32 ha.1 ha.2
   rw [A7 (by rw [AS]; omega), A7 (by rw [AS]; omega), hf1, AQg, ho, Bu (show (0 ≤ i.A ∧ i.A < (e.Classes.length : Int) ∧ 0 ≤ i.B ∧ i.B < ((Aee e.Classes i.A).length : Int)) from ⟨ha.1, ha.2, hB.1, hB.2⟩), Bu (show (0 : Int) = 0 from rfl), hw rfl, hg rfl, hf2, Au7 (t := f.Akl) hft.1, Au7 (t := Aq2 i.A) (by omega)]
   rcases b with _ | _
   ·rw [A7 (by simp), A7 (by simp), A7 (by simp)]
    unfold Ape
    rw [A7 hft.2.1]
    rfl
   ·rw [Bu rfl, Bu rfl, Bu rfl]
    rfl
  ·rw [ho, A7 (show ¬ (0 ≤ i.A ∧ i.A < (e.Classes.length : Int) ∧ 0 ≤ i.B ∧ i.B < ((Aee e.Classes i.A).length : Int)) by omega), A7 (show ¬ (72 : Int) = 0 by omega)]
   by_cases h1 : i.B < 0
   ·rw [Bu (by rw [AS]; exact h1)]
   ·rw [A7 (by rw [AS]; exact h1), Bu (by rw [AS]; omega)]
 ·rw [ho, ACa _ ha, AQg, A7 (show ¬ (0 ≤ i.A ∧ i.A < (e.Classes.length : Int) ∧ 0 ≤ i.B ∧ i.B < ((Aee e.Classes i.A).length : Int)) by omega), A7 (show ¬ (72 : Int) = 0 by omega)]
  by_cases h1 : i.A < 0
  ·rw [Bu (by rw [AS]; exact h1)]
  ·rw [A7 (by rw [AS]; exact h1), Bu (by rw [AS]; omega)]
theorem AJr {e : GG} (h : Af9 e) (i : CO) (t : Af0 BQ) (ho : i.Op.toNat < 34)
  (ht : (Atn ⟨4, 1⟩ ⟨4, 2⟩ ⟨4, 4⟩)[i.Op.toNat]? = some t) : Ak5 t e i = some (if Af3 e i = 0 then (⟨Aip e i, gvV e i⟩, 0) else (⟨[], Gv.nil⟩, Af3 e i)) := by
 have hl32 := h.good.few
 rcases AJv ho with h0 | h0 | h0 | h0 | h0 | h0 | h0 | h0 | h0 | h0 | h0 | h0 | h0 | h0 | h0 | h0 | h0 | h0 | h0 | h0 | h0 | h0 | h0 | h0 | h0 | h0 | h0 | h0 | h0 | h0 | h0 | h0 | h0 | h0
 all_goals (rw [h0] at ht; simp [Atn, A1w, A2g, A1i, A1q, Avq, Avw, Avh, A2q, A2o, A1m, A2y, A1y, A15, A13, Avp, A1v, A18, Avn, A1b, A03, A0z, A07, A2w, A2t, A5i, A4p, A4o, A5b, A4q, A41, A48, A47, A4y, A49] at ht; subst ht)
 all_goals first
  | (simp [Ak5, Asb, Af3, h0, Aip, gvV, Aco, Anc, Aqt]; done)
  | skip
 ·-- call
  unfold Ak5 Axx
  dsimp only
  have ho : Af3 e i = if 0 ≤ i.A ∧ i.A < e.OS.length then 0 else 71 := by simp [Af3, h0]
  by_cases ha : 0 ≤ i.A ∧ i.A < e.OS.length
  ·rw [ho, Bu ha, Bu rfl, A7 (by rw [AS]; omega), A7 (by rw [AS]; omega), Akd ha.1 ha.2 ⟨[], 0⟩, AQg]
   have hm := A28 h (A4l ha.1 ha.2)
   unfold A1u at hm
   rw [AF0 hm.1, AQg, AIm fun t ht => (A5x hl32 (hm.2.1 t ht)).1]
   have hw : Aip e i = ((e.OS[i.A.toNat]?).getD ⟨[], 0⟩).Abs.map Aqt := by simp [Aip, h0, Aco, A1u]
   have hg : gvV e i = .const (Ape ((e.OS[i.A.toNat]?).getD ⟨[], 0⟩).Result) := by simp [gvV, h0, Anc, A1u]
   rw [hw, hg]
   unfold Ape
   by_cases hr : ((e.OS[i.A.toNat]?).getD ⟨[], 0⟩).Result.toNat = 0
   ·rw [Bu (by rw [hr]; rfl), Bu hr]
   ·rw [A7 (by rw [JY]; omega), A7 hr]
  ·rw [ho, A7 ha, A7 (show ¬ (71 : Int) = 0 by omega)]
   by_cases h1 : i.A < 0
   ·rw [Bu (by rw [AS]; exact h1)]
   ·rw [A7 (by rw [AS]; exact h1), Bu (by rw [AS]; omega)]
 ·-- return
  unfold Ak5 Asd Aue
  dsimp only
  have hf := h.fn
  rw [Akd hf.1 hf.2 ⟨[], 0⟩, AQg]
  have hm := A28 h (AHf h)
  unfold Awr at hm
  have hw : Aip e i = (Ape ((e.OS[e.Fn.toNat]?).getD ⟨[], 0⟩).Result).map Aqt := by simp [Aip, h0, Aco, Awr]
  have hg : gvV e i = .const [] := by simp [gvV, h0, Anc]
  rw [hw, hg, show Af3 e i = 0 by simp [Af3, h0], Bu rfl]
  unfold Ape
  by_cases hr : ((e.OS[e.Fn.toNat]?).getD ⟨[], 0⟩).Result.toNat = 0
  ·rw [Bu (by rw [hr]; rfl), Bu hr]; rfl
  ·rw [A7 (by rw [JY]; omega), A7 hr]
   unfold Am5
   rw [AQg, AQg, List.map_singleton, Au7 (A5x hl32 (hm.2.2.resolve_left hr)).1]
 ·exact A3w h i (by omega) (by simp [Aip, h0, Aco]) (by simp [gvV, h0, Anc])
 ·exact A8d h i (by omega) false (by simp [h0]) (fun _ => by simp [Aip, h0, Aco]) (fun _ => by simp [gvV, h0, Anc])
 ·exact A8d h i (by omega) true (by simp [h0]) (fun _ => by simp [Aip, h0, Aco]) (fun _ => by simp [gvV, h0, Anc])
 ·exact A3w h i (by omega) (by simp [Aip, h0, Aco, Aqt]) (by simp [gvV, h0, Anc])
 ·exact AJj h i (by omega) (by simp [Aip, h0, Aco, Aqt]) (by simp [gvV, h0, Anc])
theorem AHm {e : GG} (h : Af9 e) (i : CO) (ho : i.Op.toNat < 34) : Aq5 e i = some (if Af3 e i = 0 then (⟨Aip e i, gvV e i⟩, 0) else (⟨[], Gv.nil⟩, Af3 e i)) := by
 unfold Aq5
 rw [size_eq, Amg, AQg]
 have hz : siz i.Op ≠ 0 := by unfold siz; rw [A7 (by omega)]; omega
 rw [A7 (by rw [JY]; omega)]
 unfold step_table Am5
 rw [AQg, AQg, AQg, AQg]
 have hlen : (Atn ⟨4, 1⟩ ⟨4, 2⟩ ⟨4, 4⟩).length = 34 := by simp [Atn, A1w, A2g, A1i, A1q, Avq, Avw, Avh, A2q, A2o, A1m, A2y, A1y, A15, A13, Avp, A1v, A18, Avn, A1b, A03, A0z, A07, A2w, A2t, A5i, A4p, A4o, A5b, A4q, A41, A48, A47, A4y, A49]
 rcases ht : (Atn ⟨4, 1⟩ ⟨4, 2⟩ ⟨4, 4⟩)[i.Op.toNat]? with _ | t
 ·rw [List.getElem?_eq_none_iff, hlen] at ht; omega
 ·rw [AQg, show (⟨e.Classes, e.OS, e.Fn⟩ : GG) = e from rfl, show (⟨i.At, i.Op, i.A, i.B⟩ : CO) = i from rfl, AJr h i t ho ht, AQg]
theorem AJt (e : GG) (i : CO) (ho : ¬ i.Op.toNat < 34) : Aq5 e i = some (⟨[], Gv.nil⟩, 40) := by
 unfold Aq5
 rw [size_eq, Amg, AQg]
 have hz : siz i.Op = 0 := by unfold siz; rw [Bu (by omega)]
 rw [hz, Bu (by simp)]
end Go.Proofs.YtfcpkcehecmcpaaGreat
namespace Go.Proofs.YtfcpkcehecmcpaaGreat
open Go Go.RowKit Go.Pv
def Aen (f : B0) (n : Nat) : List UInt8 := (f.Slots.toList.drop ((f.Locals + f.Height).toNat - n)).take n
theorem Axj {f : B0} (h : Fb f) {n : Nat} (hn : n ≤ f.Height) : (Aen f n).length = n := by
 have := h.num
 unfold Aen
 rw [AQo, List.length_drop, Vector.length_toList]
 omega
theorem A9t {f : B0} (h : Fb f) {n : Nat} (hn : n ≤ f.Height) {i : Nat} (hi : i < n) : (Aen f n)[i]? = f.Slots.toList[(f.Locals + f.Height).toNat - n + i]? := by
 have := h.num
 unfold Aen
 rw [List.getElem?_take, Bu hi, List.getElem?_drop]
theorem AJw {l : List BV} {f : B0} (h : Axi l f.Slots) {n : Nat} : ∀ t ∈ Aen f n, tv l t = true := by
 intro t ht
 unfold Aen at ht
 have := List.mem_of_mem_drop (List.mem_of_mem_take ht)
 rw [← Auw, List.all_eq_true] at h
 exact h t this
def Au9 (l : List BV) (w : BQ) (t first : UInt8) : Bool :=
 if w.kind = 1 then decide (t.toNat ≠ 0) else if w.kind = 2 then rf t else if w.kind = 3 then decide (t = first ∧ (t.toNat = 1 ∨ t.toNat = 2)) else if w.kind = 4 then decide (Le l t w.t) else true
theorem AIt (l : List BV) (G : Good l) (w : BQ) (t first : UInt8) : Avf l w t first = some (Au9 l w t first) := by
 unfold Avf Au9
 by_cases h1 : w.kind = 1
 ·rw [Bu (by rw [JY]; exact h1), Bu h1]
  congr 1
  rw [ARf, Aas, AS]
  omega
 ·rw [A7 (by rw [JY]; exact h1), A7 h1]
  by_cases h2 : w.kind = 2
  ·rw [Bu (by rw [JY]; exact h2), Bu h2, Avv, AQg]
  ·rw [A7 (by rw [JY]; exact h2), A7 h2]
   by_cases h3 : w.kind = 3
   ·rw [Bu (by rw [JY]; exact h3), Bu h3, AD8]
    by_cases h : t = first
    ·rw [Bu (by simpa using h)]
     by_cases h1 : t.toNat = 1
     ·rw [Bu (by rw [h1]; rfl), decide_eq_true ⟨h, Or.inl h1⟩]
     ·rw [A7 (by rw [JY]; omega)]
      congr 1
      rw [ARf, JY, AS]
      constructor
      ·intro h2; exact ⟨h, Or.inr (by omega)⟩
      ·rintro ⟨_, h2 | h2⟩ <;> omega
    ·rw [A7 (by simpa using h), decide_eq_false (by rintro ⟨h', _⟩; exact h h')]
   ·rw [A7 (by rw [JY]; exact h3), A7 h3]
    by_cases h4 : w.kind = 4
    ·rw [Bu (by rw [JY]; exact h4), Bu h4, A60 l G, AQg]
    ·rw [A7 (by rw [JY]; exact h4), A7 h4]
def allFit (l : List BV) (w : List BQ) (had : List UInt8) : Bool := (List.range had.length).all fun i => Au9 l ((w[i]?).getD ⟨0, 0⟩) ((had[i]?).getD 0) ((had[0]?).getD 0)
theorem AGw (l : List BV) (G : Good l) {f : B0} (h : Fb f) (w : List BQ) : Ar1 l f w = some (if f.Height < w.length then ([], 30) else if allFit l w (Aen f w.length) = true then (Aen f w.length, 0) else ([], 70)) := by
 have hh := h.num
 unfold Ar1
 by_cases hw : f.Height < w.length
 ·rw [Bu (by rw [AS]; exact hw), Bu hw]
 ·rw [A7 (by rw [AS]; exact hw), A7 hw]
  have hlen := Axj h (n := w.length) (by omega)
  have h1 : Aa4 (Ami f w) (([] : List UInt8), 0) = some ((Aen f w.length).map id) := by
   refine Ap0 (Aen f w.length) id (fun i hi acc ha => ?_) (fun acc => ?_)
   ·rw [hlen] at hi
    unfold Ami
    dsimp only
    rw [Bu (by rw [AS]; omega), show (⟨f.Locals, f.Height, f.Slots⟩ : B0) = f from rfl, Aec (n := (w.length : Int) - 1) (by omega) (by omega), Aec (by omega) (by omega)]
    obtain ⟨x, hx, hx2⟩ := AC8 h (w.length - 1 - i) (by omega)
    rw [show (w.length : Int) - 1 - i = ((w.length - 1 - i : Nat) : Int) by omega, hx, AQg]
    have hg := A9t h (n := w.length) (by omega) hi
    rw [show (f.Locals + f.Height).toNat - w.length + i = (f.Locals + f.Height).toNat - 1 - (w.length - 1 - i) by omega, hx2] at hg
    dsimp only
    rw [Ae6 (by simp; omega), AQg, wr1 (by omega)]
    rw [AQj (by omega)] at hg
    rw [Option.some.inj hg]
    rfl
   ·unfold Ami
    dsimp only
    rw [hlen, A7 (by rw [AS]; omega)]
  rw [h1, AQg, List.map_id]
  generalize hH : Aen f w.length = had at *
  have hl := Ak7 (R := (List UInt8 × Int) ⊕ Unit) had.length (body := Amo l w had) (fun i => if Au9 l ((w[i]?).getD ⟨0, 0⟩) ((had[i]?).getD 0) ((had[0]?).getD 0) = true then none else some (.inl ([], 70))) (r0 := .inr ()) (fun i hi => by
   unfold Amo
   have h0 : idx had 0 = some ((had[0]?).getD 0) := Akd (i := 0) (by omega) (by omega) 0
   have hi' : idx had (i : Int) = some ((had[i]?).getD 0) := Akd (i := (i : Int)) (by omega) (by omega) 0
   have hw' : idx w (i : Int) = some ((w[i]?).getD ⟨0, 0⟩) := Akd (l := w) (i := (i : Int)) (by omega) (by omega) (⟨0, 0⟩ : BQ)
   rw [Bu (by rw [AS]; omega), hi', AQg, hw', AQg, h0, AQg, AIt l G, AQg, wr1 (by omega)]
   rcases Au9 l ((w[i]?).getD ⟨0, 0⟩) ((had[i]?).getD 0) ((had[0]?).getD 0) with _ | _ <;> rfl) (by
   unfold Amo
   rw [A7 (by rw [AS]; omega)])
  rw [hl, AQg]
  rcases hf : (List.range had.length).findSome? (fun i => if Au9 l ((w[i]?).getD ⟨0, 0⟩) ((had[i]?).getD 0) ((had[0]?).getD 0) = true then none else some (Sum.inl (([] : List UInt8), (70 : Int)) : (List UInt8 × Int) ⊕ Unit)) with _ | r
  ·have ha : allFit l w had = true := by
    unfold allFit
    rw [List.all_eq_true]
    intro i hi
    have := (List.findSome?_eq_none_iff.1 hf) i hi
    rcases hx : Au9 l ((w[i]?).getD ⟨0, 0⟩) ((had[i]?).getD 0) ((had[0]?).getD 0) with _ | _
    ·rw [hx] at this; simp at this
    ·rfl
   rw [Bu ha]
   rfl
  ·obtain ⟨i, hi, hr⟩ := List.exists_of_findSome?_eq_some hf
   have ha : allFit l w had ≠ true := by
    intro ha
    unfold allFit at ha
    rw [List.all_eq_true] at ha
    rw [Bu (ha i hi)] at hr
    cases hr
   rw [A7 ha]
   split at hr
   ·cases hr
   ·cases hr; rfl
def Aql (l : List BV) (t want : UInt8) : Bool := if want = 255 then true else if want = 254 then decide (t.toNat ≠ 0) else if want = 253 then rf t else decide (Le l t want)
theorem ABj {a : UInt8} {k : Nat} (hk : k < 256) : ((a.toNat : Int) == (k : Int)) = decide (a = UInt8.ofNat k) := by
 rw [Adu]
 rw [decide_eq_decide]
 constructor
 ·intro h
  apply UInt8.toNat_inj.1
  simp [h]
  omega
 ·rintro rfl
  simp
  omega
theorem AD2 (l : List BV) (G : Good l) (t want : UInt8) : Alg l t want = some (Aql l t want) := by
 unfold Alg Aql
 have e255 : ((want.toNat : Int) == 255) = decide (want = 255) := ABj (k := 255) (by omega)
 have e254 : ((want.toNat : Int) == 254) = decide (want = 254) := ABj (k := 254) (by omega)
 have e253 : ((want.toNat : Int) == 253) = decide (want = 253) := ABj (k := 253) (by omega)
 rw [e255, e254, e253]
 simp only [AS]
 by_cases h1 : want = 255
 ·rw [Bu h1, Bu h1]
 ·rw [A7 h1, A7 h1]
  by_cases h2 : want = 254
  ·rw [Bu h2, Bu h2]
   congr 1
   rw [ARf, Aas, AS]
   omega
  ·rw [A7 h2, A7 h2]
   by_cases h3 : want = 253
   ·rw [Bu h3, Bu h3, A1d, AQg]
   ·rw [A7 h3, A7 h3, A27 l G, AQg]
theorem AFv (l : List BV) (t want first : UInt8) : Au9 l (Aqt want) t first = Aql l t want := by
 unfold Aqt Aql Au9
 by_cases h1 : want = 255
 ·rw [Bu h1, Bu h1]; rfl
 ·rw [A7 h1, A7 h1]
  by_cases h2 : want = 254
  ·rw [Bu h2, Bu h2]; rfl
  ·rw [A7 h2, A7 h2]
   by_cases h3 : want = 253
   ·rw [Bu h3, Bu h3]; rfl
   ·rw [A7 h3, A7 h3]; rfl
def Awx (l : List BV) (w had : List UInt8) : Bool := (List.range had.length).all fun i => Aql l ((had[i]?).getD 0) ((w[i]?).getD 0)
theorem AJb (e : GG) (G : Good e.Classes) {f : B0} (h : Fb f) (w : List UInt8) (hw : w.length ≤ f.Height) : Aa4 (Ae5 e f w) (([] : List UInt8), 0) = some (if Awx e.Classes w (Aen f w.length) = true then .inr (Aen f w.length) else .inl (zf, 70)) := by
 have hh := h.num
 have hlen := Axj h (n := w.length) hw
 generalize hH : Aen f w.length = had at *
 have step : ∀ (acc : List UInt8) (i : Nat) (hi : i < had.length), acc.length = i → Ae5 e f w (acc, (i : Int)) = if Aql e.Classes ((had[i]?).getD 0) ((w[i]?).getD 0) = true then some (.inl (acc ++ [(had[i]?).getD 0], ((i + 1 : Nat) : Int))) else some (.inr (.inl (zf, 70))) := by
  intro acc i hi ha
  unfold Ae5
  dsimp only
  have hw' : idx w (i : Int) = some ((w[i]?).getD 0) := Akd (i := (i : Int)) (by omega) (by omega) 0
  have hg := A9t h (n := w.length) hw (i := i) (by omega)
  rw [hH] at hg
  have hk : (f.Locals + f.Height).toNat - w.length + i < 24 := by omega
  have hx : idx f.Slots.toList (wr ((wr ((wr (f.Locals + f.Height)) - (w.length : Int))) + (i : Int))) = some ((had[i]?).getD 0) := by
   rw [Aec (n := f.Locals + f.Height) (by omega) (by omega), Aec (n := f.Locals + f.Height - w.length) (by omega) (by omega), Aec (by omega) (by omega)]
   rw [show f.Locals + f.Height - (w.length : Int) + (i : Int) = (((f.Locals + f.Height).toNat - w.length + i : Nat) : Int) by omega, A65, ← hg, AQj hi]
   rfl
  rw [Bu (by rw [AS]; omega), hw', AQg, hx, AQg, AD2 _ G, AQg]
  rcases Aql e.Classes ((had[i]?).getD 0) ((w[i]?).getD 0) with _ | _
  ·rw [Bu (by simp), A7 (by simp)]
  ·rw [A7 (by simp), Bu rfl, Ae6 (by simp; omega), AQg, wr1 (by omega)]
 have stop : ∀ acc, Ae5 e f w (acc, (had.length : Int)) = some (.inr (.inr acc)) := by
  intro acc
  unfold Ae5
  dsimp only
  rw [A7 (by rw [AS]; omega)]
 have key : ∀ k i, i + k = had.length → Aa4 (Ae5 e f w) (had.take i, (i : Int)) = some (if ((List.range' i k).all fun j => Aql e.Classes ((had[j]?).getD 0) ((w[j]?).getD 0)) = true then .inr had else .inl (zf, 70)) := by
  intro k
  induction k with
  | zero =>
   intro i hi
   rw [show i = had.length by omega, Ada (stop _), ARb]
   rfl
  | succ k ih =>
   intro i hi
   have hi' : i < had.length := by omega
   have hs := step (had.take i) i hi' (by rw [AQo]; omega)
   rw [List.range'_succ, List.all_cons]
   by_cases hw' : Aql e.Classes ((had[i]?).getD 0) ((w[i]?).getD 0) = true
   ·rw [Bu hw'] at hs
    rw [Afd hs, hw', Bool.true_and]
    have : had.take i ++ [(had[i]?).getD 0] = had.take (i + 1) := by
     rw [AQj hi', AQh, AQ3]
    rw [this]
    exact ih (i + 1) (by omega)
   ·rw [A7 hw'] at hs
    rw [Ada hs, A7]
    rw [ARe]
    rintro ⟨h, _⟩; exact hw' h
 have := key had.length 0 (by omega)
 rw [List.take_zero] at this
 unfold Awx
 rw [List.range_eq_range']
 exact this
end Go.Proofs.YtfcpkcehecmcpaaGreat
namespace Go.Proofs.YtfcpkcehecmcpaaGreat
open Go Go.RowKit Go.Pv
def okV (e : GG) (i : CO) (had : List UInt8) : Bool := Awx e.Classes (Aco e i) had && (decide (i.Op.toNat ≠ 16) || decide ((had[0]?).getD 0 = (had[1]?).getD 0 ∧ (((had[0]?).getD 0).toNat = 1 ∨ ((had[0]?).getD 0).toNat = 2)))
theorem all_congr {l : List Nat} {p q : Nat → Bool} (h : ∀ x ∈ l, p x = q x) : l.all p = l.all q := by
 induction l with
 | nil => rfl
 | cons a l ih => rw [List.all_cons, List.all_cons, h a (by simp), ih fun x hx => h x (by simp [hx])]
theorem ok_eq (e : GG) (i : CO) {had : List UInt8} (hl : had.length = (Aco e i).length) : allFit e.Classes (Aip e i) had = okV e i had := by
 unfold okV
 by_cases h : i.Op.toNat = 16
 ·have ht : Aco e i = [255, 255] := by unfold Aco; simp [h]
  rw [ht] at hl ⊢
  unfold Aip
  rw [Bu h, decide_eq_false (by simp [h]), Bool.false_or]
  match had, hl with
  | [a, b], _ =>
   unfold allFit Awx Au9 Aql
   rw [show (List.range ([a, b] : List UInt8).length) = [0, 1] from rfl]
   simp only [List.all_cons, List.all_nil, Bool.and_true, List.getElem?_cons_zero, List.getElem?_cons_succ, AQh]
   rw [ARf]
   simp
   constructor
   ·rintro ⟨h1, h2, h3⟩; exact ⟨h2.symm, h1⟩
   ·rintro ⟨h1, h2⟩
    subst h1
    exact ⟨h2, rfl, h2⟩
 ·rw [decide_eq_true h, Bool.true_or, Bool.and_true]
  unfold allFit Awx Aip
  rw [A7 h]
  refine all_congr fun j hj => ?_
  have hj' : j < (Aco e i).length := by rw [AQt] at hj; omega
  rw [List.getElem?_map, AQj hj', AQi, AQh, AQh, AFv]
def Ar9 (f : B0) (i : CO) : UInt8 := (f.Slots.toList[i.A.toNat]?).getD 0
def Apj (e : GG) (f : B0) (i : CO) (had : List UInt8) : List UInt8 :=
 if i.Op.toNat = 4 then [Ar9 f i] else if i.Op.toNat = 7 then [(had[0]?).getD 0, (had[0]?).getD 0] else if i.Op.toNat = 8 then [(had[1]?).getD 0, (had[0]?).getD 0] else Anc e i
noncomputable def A4g (f : B0) (i : CO) (had gives : List UInt8) : B0 × Int :=
 if i.Op.toNat = 22 ∧ (Ahm f had.length).Height > 0 then (zf, 73) else Ap3 (if i.Op.toNat = 5 then A0a (Ahm f had.length) i.A ((had[0]?).getD 0) else Ahm f had.length) gives
noncomputable def Aj4 (e : GG) (f : B0) (i : CO) : B0 × Int :=
 if ¬ i.Op.toNat < 34 then (zf, 40)
 else if (i.Op.toNat = 4 ∨ i.Op.toNat = 5) ∧ ¬ (0 ≤ i.A ∧ i.A < f.Locals) then (zf, 33)
 else if Af3 e i ≠ 0 then (zf, Af3 e i)
 else if f.Height < (Aco e i).length then (zf, 30)
 else if okV e i (Aen f (Aco e i).length) = false then (zf, 70)
 else if i.Op.toNat = 4 ∧ (Ar9 f i).toNat = 0 then (zf, 70)
 else A4g f i (Aen f (Aco e i).length) (Apj e f i (Aen f (Aco e i).length))
theorem AIa {e : GG} (h : Af9 e) (i : CO) (h0 : Af3 e i = 0) : (Aco e i).length ≤ 8 := by
 unfold Aco
 split <;> try (simp; done)
 ·rename_i h21
  unfold Af3 at h0
  rw [Bu h21] at h0
  by_cases ha : 0 ≤ i.A ∧ i.A < e.OS.length
  ·exact (A28 h (A4l ha.1 ha.2)).1
  ·rw [A7 ha] at h0; cases h0
 ·unfold Ape; split <;> simp
theorem AA2 (e : GG) (f : B0) (i : CO) (had : List UInt8) : (Apj e f i had).length ≤ 2 := by
 unfold Apj
 split
 ·simp
 ·split
  ·simp
  ·split
   ·simp
   ·unfold Anc
    split <;> try (simp; done)
    all_goals (unfold Ape; split <;> simp)
theorem AIw {f : B0} (h : Fb f) {i : CO} (h0 : 0 ≤ i.A) (h1 : i.A < f.Locals) : idx f.Slots.toList i.A = some (Ar9 f i) := by
 have := h.num
 exact Akd h0 (by simp; omega) 0
theorem A5z {f : B0} (h : Fb f) (i : CO) {had gives : List UInt8} (hn : had.length ≤ f.Height) (hg : gives.length ≤ 2) (h5 : i.Op.toNat = 5 → had ≠ [] ∧ 0 ≤ i.A ∧ i.A < f.Locals) : Am2 f i had gives = some (A4g f i had gives) := by
 have hh := h.num
 unfold Am2
 rw [A8o had.length h hn (fun g k hk hg hgh => by
   obtain ⟨x, hx⟩ := ALo hg hgh
   unfold Ana
   dsimp only
   rw [Bu (by rw [AS]; omega), show (⟨g.Locals, g.Height, g.Slots⟩ : B0) = g from rfl, hx, AQg, wr1 (by omega)]) (fun g => by
   unfold Ana
   dsimp only
   rw [A7 (by rw [AS]; omega)]), AQg]
 have hp := A23 h had.length hn
 have hpL : (Ahm f had.length).Locals = f.Locals := by unfold Ahm Ah7; dsimp only
 unfold A4g
 generalize Ahm f had.length = g at *
 dsimp only
 have e22 : ((i.Op.toNat : Int) == 22) = decide (i.Op.toNat = 22) := Adu _ 22
 have e5 : ((i.Op.toNat : Int) == 5) = decide (i.Op.toNat = 5) := Adu _ 5
 rw [e22, e5]
 by_cases h22 : i.Op.toNat = 22 ∧ g.Height > 0
 ·rw [Bu h22, Bu (by rw [AS]; exact h22.1), Bu (by rw [AS]; exact h22.2), AQg]
 ·rw [A7 h22]
  have hx : (if decide (i.Op.toNat = 22) = true then if decide (g.Height > 0) = true then some (Sum.inl (zf, (73 : Int)) : (B0 × Int) ⊕ Unit) else some (.inr ()) else some (.inr ())) = some (.inr ()) := by
   by_cases h1 : i.Op.toNat = 22
   ·rw [Bu (by rw [AS]; exact h1), A7 (by rw [AS]; exact fun h2 => h22 ⟨h1, h2⟩)]
   ·rw [A7 (by rw [AS]; exact h1)]
  rw [hx, AQg]
  dsimp only
  have hy : ∀ f2 : B0, Fb f2 → ((Aa4 (Akb gives) (f2.Locals, f2.Height, f2.Slots, 0) : Option ((B0 × Int) ⊕ (Int × Int × (Vector UInt8 24))))).bind (fun o6044 => (match o6044 with | .inl p6987 => (some p6987) | .inr p6047 => (some ((⟨p6047.1, p6047.2.1, p6047.2.2⟩ : B0), (0 : Int))))) = some (Ap3 f2 gives) := by
   intro f2 hf2
   have := A3x (body := Akb gives) gives (by omega) (fun f3 k hk hf3 => by
    unfold Akb
    dsimp only
    rw [Bu (by rw [AS]; omega), Ac8 hk, AQg, show (⟨f3.Locals, f3.Height, f3.Slots⟩ : B0) = f3 from rfl, AJy hf3, AQg]
    by_cases h24 : f3.Locals + f3.Height = 24
    ·rw [Bu h24, Bu h24]; rfl
    ·rw [A7 h24, A7 h24, wr1 (by omega)]; rfl) (fun f3 => by
    unfold Akb
    dsimp only
    rw [A7 (by rw [AS]; omega)]) gives.length 0 f2 (by omega) hf2
   rw [show ((0 : Nat) : Int) = 0 from rfl, List.drop_zero] at this
   rw [this, AQg]
   rcases hq : Ap3 f2 gives with ⟨f3, x⟩
   by_cases hx0 : x = 0
   ·subst hx0; rfl
   ·dsimp only; rw [A7 hx0]
  by_cases h5' : i.Op.toNat = 5
  ·obtain ⟨hne, h50, h51⟩ := h5 h5'
   have hl0 : 0 < had.length := List.length_pos_iff.2 hne
   rw [Bu (by rw [AS]; exact h5'), Bu h5', show idx had 0 = some ((had[0]?).getD 0) from Akd (i := 0) (by omega) (by omega) 0, AQg, AGb hp h50 (by omega), AQg, AQg]
   exact hy (A0a g i.A ((had[0]?).getD 0)) (A68 hp _ h50 (by omega))
  ·rw [A7 (by rw [AS]; exact h5'), A7 h5', AQg]
   exact hy g hp
theorem AKf (e : GG) (f : B0) (i : CO) {had : List UInt8} (hl : had.length = (Aco e i).length) (h4 : i.Op.toNat ≠ 4) : Gv.run (gvV e i) had = some (Apj e f i had) := by
 unfold gvV Apj
 by_cases h7 : i.Op.toNat = 7
 ·have ht : Aco e i = [255] := by unfold Aco; simp [h7]
  rw [ht] at hl
  simp only [h4, h7, if_true, if_false]
  match had, hl with
  | [a], _ => rfl
 ·by_cases h8 : i.Op.toNat = 8
  ·have ht : Aco e i = [255, 255] := by unfold Aco; simp [h8]
   rw [ht] at hl
   simp only [h4, h7, h8, if_true, if_false]
   match had, hl with
   | [a, b], _ => rfl
  ·simp only [h4, h7, h8, if_true, if_false]
   rfl
theorem A9g {e : GG} {i : CO} (h : i.Op.toNat = 4 ∨ i.Op.toNat = 5) : Af3 e i = 0 := by
 unfold Af3
 rw [A7 (by omega), A7 (by omega), A7 (by omega)]
theorem ACt {e : GG} {i : CO} (h : i.Op.toNat = 5) : Aco e i = [254] := by unfold Aco; simp [h]
theorem A56 {e : GG} (h : Af9 e) {f : B0} (hb : Fb f) (i : CO) (h34 : i.Op.toNat < 34) (h0 : Af3 e i = 0) (hA : i.Op.toNat = 4 ∨ i.Op.toNat = 5 → 0 ≤ i.A ∧ i.A < f.Locals) :
  ((Ar1 e.Classes f (Aip e i)).bind fun x464 => if (x464.2 != 0) = true then (some ((⟨0, 0, (Vector.replicate 24 (0 : UInt8))⟩ : B0), x464.2)) else ((Gv.run (gvV e i) x464.1).bind fun x545 => if ((i.Op.toNat : Int) == 4) = true then ((Aoo f i.A).bind fun x668 => if ((x668.1.toNat : Int) == 0) = true then (some ((⟨0, 0, (Vector.replicate 24 (0 : UInt8))⟩ : B0), 70)) else ((Am2 f i x464.1 ([x668.1] : List UInt8)).bind fun x744 => some ((⟨x744.1.Locals, x744.1.Height, x744.1.Slots⟩ : B0), x744.2))) else ((Am2 f i x464.1 x545).bind fun x782 => some ((⟨x782.1.Locals, x782.1.Height, x782.1.Slots⟩ : B0), x782.2)))) =
  some (if f.Height < (Aco e i).length then (zf, 30)
   else if okV e i (Aen f (Aco e i).length) = false then (zf, 70)
   else if i.Op.toNat = 4 ∧ (Ar9 f i).toNat = 0 then (zf, 70)
   else A4g f i (Aen f (Aco e i).length) (Apj e f i (Aen f (Aco e i).length))) := by
 have hwl : (Aip e i).length = (Aco e i).length := by
  unfold Aip
  split
  ·rename_i h16
   have : Aco e i = [255, 255] := by unfold Aco; simp [h16]
   rw [this]; rfl
  ·rw [AQl]
 have e4 : ((i.Op.toNat : Int) == 4) = decide (i.Op.toNat = 4) := Adu _ 4
 rw [AGw _ h.good hb, AQg, hwl]
 by_cases hH : f.Height < (Aco e i).length
 ·rw [Bu hH, Bu hH, Bu (by simp)]
 ·have hlen := Axj hb (n := (Aco e i).length) (by omega)
  rw [A7 hH, A7 hH, ok_eq e i hlen]
  rcases hok : okV e i (Aen f (Aco e i).length) with _ | _
  ·rw [A7 (show ¬ (false = true) by simp), Bu (show false = false from rfl), Bu (by simp)]
  ·rw [Bu (show true = true from rfl), A7 (show ¬ (true = false) by simp)]
   dsimp only
   rw [A7 (by simp), e4]
   by_cases h4 : i.Op.toNat = 4
   ·obtain ⟨x, hx, hx2, hx3⟩ := AAw hb (hA (Or.inl h4)).1 (hA (Or.inl h4)).2
    have hsl : Ar9 f i = x := by unfold Ar9; rw [hx3]; rfl
    have hgv : Gv.run (gvV e i) (Aen f (Aco e i).length) = some [0] := by unfold gvV; rw [A7 (by omega), A7 (by omega), Bu h4]; rfl
    rw [hgv, AQg, Bu (by rw [AS]; exact h4), hx, AQg, hsl]
    dsimp only
    by_cases hx0 : x.toNat = 0
    ·rw [Bu (by rw [hx0]; rfl), Bu ⟨h4, hx0⟩]
    ·rw [A7 (by rw [JY]; omega), A7 (by rintro ⟨_, q⟩; exact hx0 q), A5z hb i (by omega) (by simp) (fun q => by omega), AQg]
     unfold Apj
     rw [Bu h4, hsl]
   ·rw [AKf e f i hlen h4, AQg, A7 (by rw [AS]; exact h4), A7 (by rintro ⟨q, _⟩; exact h4 q), A5z hb i (by omega) (AA2 e f i _) (fun q => ⟨(by
     intro hn
     rw [hn, ACt q] at hlen
     cases hlen), hA (Or.inr q)⟩), AQg]
theorem AEx {e : GG} (h : Af9 e) {f : B0} (hf : Fok e.Classes f) (i : CO) : Aug e f i = some (Aj4 e f i) := by
 have hb := hf.fb
 unfold Aug
 rw [show (⟨e.Classes, e.OS, e.Fn⟩ : GG) = e from rfl, show (⟨f.Locals, f.Height, f.Slots⟩ : B0) = f from rfl, show (⟨i.At, i.Op, i.A, i.B⟩ : CO) = i from rfl, ALy e h.good.tab, AC1 e h, AQg, A7 (by simp), A2x hf, AQg, A7 (by simp)]
 have e4 : ((i.Op.toNat : Int) == 4) = decide (i.Op.toNat = 4) := Adu _ 4
 have e5 : ((i.Op.toNat : Int) == 5) = decide (i.Op.toNat = 5) := Adu _ 5
 have ho : (if ((i.Op.toNat : Int) == 4) = true then some true else some ((i.Op.toNat : Int) == 5)) = some (decide (i.Op.toNat = 4 ∨ i.Op.toNat = 5)) := by
  rw [e4, e5]
  by_cases q : i.Op.toNat = 4
  ·rw [Bu (by rw [AS]; exact q), decide_eq_true (Or.inl q)]
  ·rw [A7 (by rw [AS]; exact q)]
   congr 1
   rw [decide_eq_decide]
   exact ⟨Or.inr, fun h => h.resolve_left q⟩
 unfold Aj4
 by_cases h34 : i.Op.toNat < 34
 ·rw [AHm h i h34, AQg, ho, AQg, A7 (show ¬ ¬ i.Op.toNat < 34 from fun q => q h34)]
  by_cases hloc : i.Op.toNat = 4 ∨ i.Op.toNat = 5
  ·rw [A9g (e := e) hloc, Bu rfl]
   dsimp only
   rw [Bu (by rw [JY]), Bu (by rw [AS]; exact hloc)]
   by_cases hA : 0 ≤ i.A ∧ i.A < f.Locals
   ·rw [A7 (by rw [AS]; omega), A7 (by rw [AS]; omega), AQg, A7 (by simp), A7 (show ¬ ((i.Op.toNat = 4 ∨ i.Op.toNat = 5) ∧ ¬ (0 ≤ i.A ∧ i.A < f.Locals)) from fun q => q.2 hA), A7 (show ¬ (0 : Int) ≠ 0 from fun q => q rfl)]
    exact A56 h hb i h34 (A9g hloc) (fun _ => hA)
   ·rw [Bu (show ((i.Op.toNat = 4 ∨ i.Op.toNat = 5) ∧ ¬ (0 ≤ i.A ∧ i.A < f.Locals)) from ⟨hloc, hA⟩)]
    by_cases h1 : i.A < 0
    ·rw [Bu (by rw [AS]; exact h1), AQg, Bu (by simp)]
    ·rw [A7 (by rw [AS]; exact h1), Bu (by rw [AS]; omega), AQg, Bu (by simp)]
  ·rw [A7 (show ¬ ((i.Op.toNat = 4 ∨ i.Op.toNat = 5) ∧ ¬ (0 ≤ i.A ∧ i.A < f.Locals)) from fun q => hloc q.1), decide_eq_false hloc]
   by_cases h0 : Af3 e i = 0
   ·rw [Bu h0, A7 (show ¬ Af3 e i ≠ 0 from fun q => q h0)]
    dsimp only
    rw [Bu (by rw [JY]), A7 (by simp), AQg, A7 (by simp)]
    exact A56 h hb i h34 h0 (fun q => absurd q hloc)
   ·rw [A7 h0, Bu (show Af3 e i ≠ 0 from h0)]
    dsimp only
    rw [A7 (by rw [JY]; exact h0), AQg, Bu (by rw [Aas]; exact h0)]
 ·rw [AJt e i h34, AQg, ho, AQg, Bu h34]
  dsimp only
  rw [A7 (by simp), AQg, Bu (by simp)]
end Go.Proofs.YtfcpkcehecmcpaaGreat
namespace Go.Proofs.YtfcpkcehecmcpaaGreat
open Go Go.RowKit Go.Pv
theorem A6d {e : GG} (h : Af9 e) {f : B0} (hb : Fb f) (i : CO) (h34 : i.Op.toNat < 34) (h0 : Af3 e i = 0) (hA : i.Op.toNat = 4 ∨ i.Op.toNat = 5 → 0 ≤ i.A ∧ i.A < f.Locals) :
  Aka e f i = some (if f.Height < (Aco e i).length then (zf, 30)
   else if okV e i (Aen f (Aco e i).length) = false then (zf, 70)
   else if i.Op.toNat = 4 ∧ (Ar9 f i).toNat = 0 then (zf, 70)
   else A4g f i (Aen f (Aco e i).length) (Apj e f i (Aen f (Aco e i).length))) := by
 have hh := hb.num
 have h8 := AIa h i h0
 unfold Aka
 rw [show (⟨e.Classes, e.OS, e.Fn⟩ : GG) = e from rfl, show (⟨i.At, i.Op, i.A, i.B⟩ : CO) = i from rfl, AFd h i h34 h0, AQg]
 by_cases hH : f.Height < (Aco e i).length
 ·rw [Bu hH, Bu (by rw [AS]; exact hH)]
 ·have hlen := Axj hb (n := (Aco e i).length) (by omega)
  rw [A7 hH, A7 (by rw [AS]; exact hH), AJb e h.good hb _ (by omega), AQg]
  unfold okV
  rcases hw : Awx e.Classes (Aco e i) (Aen f (Aco e i).length) with _ | _
  ·rw [A7 (show ¬ (false = true) by simp), Bool.false_and, Bu (show false = false from rfl)]
  ·rw [Bu (show true = true from rfl), Bool.true_and]
   dsimp only
   have e16 : ((i.Op.toNat : Int) == 16) = decide (i.Op.toNat = 16) := Adu _ 16
   have e4 : ((i.Op.toNat : Int) == 4) = decide (i.Op.toNat = 4) := Adu _ 4
   have e7 : ((i.Op.toNat : Int) == 7) = decide (i.Op.toNat = 7) := Adu _ 7
   have e8 : ((i.Op.toNat : Int) == 8) = decide (i.Op.toNat = 8) := Adu _ 8
   have e22 : ((i.Op.toNat : Int) == 22) = decide (i.Op.toNat = 22) := Adu _ 22
   have e5 : ((i.Op.toNat : Int) == 5) = decide (i.Op.toNat = 5) := Adu _ 5
   have hx16 : ((if ((i.Op.toNat : Int) == 16) = true then ((idx (Aen f (Aco e i).length) 0).bind fun x6938 => (idx (Aen f (Aco e i).length) 1).bind fun x6943 => if ((x6938.toNat : Int) != (x6943.toNat : Int)) = true then (some (.inl ((⟨0, 0, (Vector.replicate 24 (0 : UInt8))⟩ : B0), 70))) else ((idx (Aen f (Aco e i).length) 0).bind fun x6967 => if ((x6967.toNat : Int) != 1) = true then ((idx (Aen f (Aco e i).length) 0).bind fun x6973 => if ((x6973.toNat : Int) != 2) = true then (some (.inl ((⟨0, 0, (Vector.replicate 24 (0 : UInt8))⟩ : B0), 70))) else (some (.inr (())))) else (some (.inr (()))))) else (some (.inr (()))) : Option ((B0 × Int) ⊕ Unit))) =
     some (if (decide (i.Op.toNat ≠ 16) || decide (((Aen f (Aco e i).length)[0]?).getD 0 = ((Aen f (Aco e i).length)[1]?).getD 0 ∧ ((((Aen f (Aco e i).length)[0]?).getD 0).toNat = 1 ∨ (((Aen f (Aco e i).length)[0]?).getD 0).toNat = 2))) = false then .inl (zf, 70) else .inr ()) := by
    rw [e16]
    by_cases q : i.Op.toNat = 16
    ·have ht : Aco e i = [255, 255] := by unfold Aco; simp [q]
     rw [ht] at hlen ⊢
     generalize Aen f ([255, 255] : List UInt8).length = had at *
     rw [Bu (by rw [AS]; exact q), decide_eq_false (p := i.Op.toNat ≠ 16) (by simp [q]), Bool.false_or]
     match had, hlen with
     | [a, b], _ =>
      rw [show idx [a, b] 0 = some a from rfl, show idx [a, b] 1 = some b from rfl, AQg, AQg, AQg, AQg]
      simp only [List.getElem?_cons_zero, List.getElem?_cons_succ, AQh]
      by_cases h1 : a = b
      ·subst h1
       rw [A7 (by simp)]
       by_cases h2 : a.toNat = 1
       ·rw [A7 (by rw [Aas]; omega), A7 (by simp [h2])]
       ·rw [Bu (by rw [Aas]; omega)]
        by_cases h3 : a.toNat = 2
        ·rw [A7 (by rw [Aas]; omega), A7 (by simp [h3])]
        ·rw [Bu (by rw [Aas]; omega), Bu (by simp [h2, h3])]
      ·rw [Bu, Bu (by simp [h1])]
       rw [Aas]
       intro h2
       apply h1
       apply UInt8.toNat_inj.1
       omega
    ·rw [A7 (by rw [AS]; exact q), decide_eq_true (p := i.Op.toNat ≠ 16) q, Bool.true_or, A7 (by simp)]
   rw [hx16, AQg]
   generalize hok : (decide (i.Op.toNat ≠ 16) || decide (((Aen f (Aco e i).length)[0]?).getD 0 = ((Aen f (Aco e i).length)[1]?).getD 0 ∧ ((((Aen f (Aco e i).length)[0]?).getD 0).toNat = 1 ∨ (((Aen f (Aco e i).length)[0]?).getD 0).toNat = 2))) = ok
   rcases ok with _ | _
   ·rw [Bu (show false = false from rfl), Bu (show false = false from rfl)]
   ·rw [A7 (show ¬ (true = false) by simp), A7 (show ¬ (true = false) by simp)]
    dsimp only
    rw [AGh h i h34 h0, AQg, e4, e7, e8]
    have hg : ((if decide (i.Op.toNat = 4) = true then ((idx f.Slots.toList i.A).bind fun x7536 => if ((x7536.toNat : Int) == 0) = true then (some (.inl ((⟨0, 0, (Vector.replicate 24 (0 : UInt8))⟩ : B0), 70))) else ((idx f.Slots.toList i.A).bind fun x7560 => some (.inr (([x7560] : List UInt8))))) else (if decide (i.Op.toNat = 7) = true then ((idx (Aen f (Aco e i).length) 0).bind fun x7588 => (idx (Aen f (Aco e i).length) 0).bind fun x7593 => some (.inr (([x7588, x7593] : List UInt8)))) else (if decide (i.Op.toNat = 8) = true then ((idx (Aen f (Aco e i).length) 1).bind fun x7619 => (idx (Aen f (Aco e i).length) 0).bind fun x7624 => some (.inr (([x7619, x7624] : List UInt8)))) else (some (.inr (Anc e i))))) : Option ((B0 × Int) ⊕ ((List UInt8))))) =
      some (if i.Op.toNat = 4 ∧ (Ar9 f i).toNat = 0 then .inl (zf, 70) else .inr (Apj e f i (Aen f (Aco e i).length))) := by
     unfold Apj
     by_cases q4 : i.Op.toNat = 4
     ·have hA4 := hA (Or.inl q4)
      rw [Bu (by rw [AS]; exact q4), AIw hb hA4.1 hA4.2, AQg, AQg]
      by_cases hx0 : (Ar9 f i).toNat = 0
      ·rw [Bu (by rw [hx0]; rfl), Bu ⟨q4, hx0⟩]
      ·rw [A7 (by rw [JY]; omega), A7 (by rintro ⟨_, q⟩; exact hx0 q), Bu q4]
     ·rw [A7 (by rw [AS]; exact q4), A7 (show ¬ (i.Op.toNat = 4 ∧ (Ar9 f i).toNat = 0) from fun q => q4 q.1), A7 q4]
      by_cases q7 : i.Op.toNat = 7
      ·have ht : Aco e i = [255] := by unfold Aco; simp [q7]
       rw [ht] at hlen ⊢
       rw [Bu (by rw [AS]; exact q7), Bu q7, show idx (Aen f ([255] : List UInt8).length) 0 = some (((Aen f ([255] : List UInt8).length)[0]?).getD 0) from Akd (i := 0) (by omega) (by rw [hlen]; simp) 0]
       rfl
      ·rw [A7 (by rw [AS]; exact q7), A7 q7]
       by_cases q8 : i.Op.toNat = 8
       ·have ht : Aco e i = [255, 255] := by unfold Aco; simp [q8]
        rw [ht] at hlen ⊢
        rw [Bu (by rw [AS]; exact q8), Bu q8, show idx (Aen f ([255, 255] : List UInt8).length) 0 = some (((Aen f ([255, 255] : List UInt8).length)[0]?).getD 0) from Akd (i := 0) (by omega) (by rw [hlen]; simp) 0, show idx (Aen f ([255, 255] : List UInt8).length) 1 = some (((Aen f ([255, 255] : List UInt8).length)[1]?).getD 0) from Akd (i := 1) (by omega) (by rw [hlen]; simp) 0]
        rfl
       ·rw [A7 (by rw [AS]; exact q8), A7 q8]
    rw [hg, AQg]
    by_cases hbad : i.Op.toNat = 4 ∧ (Ar9 f i).toNat = 0
    ·rw [Bu hbad, Bu hbad]
    ·rw [A7 hbad, A7 hbad]
     dsimp only
     rw [A8o (Aco e i).length hb (by omega) (fun g k hk hg hgh => by
       obtain ⟨x, hx⟩ := ALr hg hgh
       unfold Aiu
       dsimp only
       rw [Bu (by rw [AS]; omega), show (⟨g.Locals, g.Height, g.Slots⟩ : B0) = g from rfl, hx, AQg, wr1 (by omega)]) (fun g => by
       unfold Aiu
       dsimp only
       rw [A7 (by rw [AS]; omega)]), AQg]
     unfold A4g
     rw [hlen]
     have hp := A23 hb (Aco e i).length (by omega)
     have hpL : (Ahm f (Aco e i).length).Locals = f.Locals := by unfold Ahm Ah7; dsimp only
     generalize Ahm f (Aco e i).length = g at *
     dsimp only
     rw [e22, e5]
     by_cases h22 : i.Op.toNat = 22 ∧ g.Height > 0
     ·rw [Bu h22, Bu (by rw [AS]; exact h22.1), Bu (by rw [AS]; exact h22.2), AQg]
     ·rw [A7 h22]
      have hx : (if decide (i.Op.toNat = 22) = true then if decide (g.Height > 0) = true then some (Sum.inl (zf, (73 : Int)) : (B0 × Int) ⊕ Unit) else some (.inr ()) else some (.inr ())) = some (.inr ()) := by
       by_cases h1 : i.Op.toNat = 22
       ·rw [Bu (by rw [AS]; exact h1), A7 (by rw [AS]; exact fun h2 => h22 ⟨h1, h2⟩)]
       ·rw [A7 (by rw [AS]; exact h1)]
      rw [hx, AQg]
      dsimp only
      have hgl := AA2 e f i (Aen f (Aco e i).length)
      generalize Apj e f i (Aen f (Aco e i).length) = gives at *
      have hy : ∀ f2 : B0, Fb f2 → ((Aa4 (Agb gives) (f2.Locals, f2.Height, f2.Slots, 0) : Option ((B0 × Int) ⊕ (Int × Int × (Vector UInt8 24))))).bind (fun o13581 => (match o13581 with | .inl p14524 => (some p14524) | .inr p13584 => (some ((⟨p13584.1, p13584.2.1, p13584.2.2⟩ : B0), (0 : Int))))) = some (Ap3 f2 gives) := by
       intro f2 hf2
       have := A3x (body := Agb gives) gives (by omega) (fun f3 k hk hf3 => by
        unfold Agb
        dsimp only
        rw [Bu (by rw [AS]; omega), Ac8 hk, AQg, show (⟨f3.Locals, f3.Height, f3.Slots⟩ : B0) = f3 from rfl, AHz hf3, AQg]
        by_cases h24 : f3.Locals + f3.Height = 24
        ·rw [Bu h24, Bu h24]; rfl
        ·rw [A7 h24, A7 h24, wr1 (by omega)]; rfl) (fun f3 => by
        unfold Agb
        dsimp only
        rw [A7 (by rw [AS]; omega)]) gives.length 0 f2 (by omega) hf2
       rw [show ((0 : Nat) : Int) = 0 from rfl, List.drop_zero] at this
       rw [this, AQg]
       rcases hq : Ap3 f2 gives with ⟨f3, x⟩
       by_cases hx0 : x = 0
       ·subst hx0; rfl
       ·dsimp only; rw [A7 hx0]
      by_cases h5' : i.Op.toNat = 5
      ·obtain ⟨h50, h51⟩ := hA (Or.inr h5')
       have hpn := hp.num
       rw [ACt h5'] at hlen ⊢
       rw [Bu (by rw [AS]; exact h5'), Bu h5', show idx (Aen f ([254] : List UInt8).length) 0 = some (((Aen f ([254] : List UInt8).length)[0]?).getD 0) from Akd (i := 0) (by omega) (by rw [hlen]; simp) 0, AQg, show idx g.Slots.toList i.A = some ((g.Slots.toList[i.A.toNat]?).getD 0) from Akd h50 (by simp; omega) 0, AQg, AQg]
       exact hy (A0a g i.A (((Aen f ([254] : List UInt8).length)[0]?).getD 0)) (A68 hp _ h50 (by omega))
      ·rw [A7 (by rw [AS]; exact h5'), A7 h5', AQg]
       exact hy g hp
theorem AFr {e : GG} (h : Af9 e) {f : B0} (hf : Fok e.Classes f) (i : CO) : Al4 e f i = some (Aj4 e f i) := by
 have hb := hf.fb
 unfold Al4
 rw [show (⟨e.Classes, e.OS, e.Fn⟩ : GG) = e from rfl, show (⟨f.Locals, f.Height, f.Slots⟩ : B0) = f from rfl, show (⟨i.At, i.Op, i.A, i.B⟩ : CO) = i from rfl, AC1 e h, AQg, A7 (by simp), A0e hf, AQg, A7 (by simp), Amg, AQg]
 have e4 : ((i.Op.toNat : Int) == 4) = decide (i.Op.toNat = 4) := Adu _ 4
 have e5 : ((i.Op.toNat : Int) == 5) = decide (i.Op.toNat = 5) := Adu _ 5
 have ho : (if ((i.Op.toNat : Int) == 4) = true then some true else some ((i.Op.toNat : Int) == 5)) = some (decide (i.Op.toNat = 4 ∨ i.Op.toNat = 5)) := by
  rw [e4, e5]
  by_cases q : i.Op.toNat = 4
  ·rw [Bu (by rw [AS]; exact q), decide_eq_true (Or.inl q)]
  ·rw [A7 (by rw [AS]; exact q)]
   congr 1
   rw [decide_eq_decide]
   exact ⟨Or.inr, fun h => h.resolve_left q⟩
 unfold Aj4
 by_cases h34 : i.Op.toNat < 34
 ·have hz : siz i.Op ≠ 0 := by unfold siz; rw [A7 (by omega)]; omega
  rw [A7 (by rw [JY]; omega), ho, AQg, A7 (show ¬ ¬ i.Op.toNat < 34 from fun q => q h34)]
  by_cases hloc : i.Op.toNat = 4 ∨ i.Op.toNat = 5
  ·rw [Bu (by rw [AS]; exact hloc)]
   by_cases hA : 0 ≤ i.A ∧ i.A < f.Locals
   ·rw [A7 (by rw [AS]; omega), A7 (by rw [AS]; omega), A7 (show ¬ ((i.Op.toNat = 4 ∨ i.Op.toNat = 5) ∧ ¬ (0 ≤ i.A ∧ i.A < f.Locals)) from fun q => q.2 hA), AC7 h i, AQg, A9g (e := e) hloc, A7 (by simp), A7 (show ¬ (0 : Int) ≠ 0 from fun q => q rfl), A6d h hb i h34 (A9g hloc) (fun _ => hA), AQg]
   ·rw [Bu (show ((i.Op.toNat = 4 ∨ i.Op.toNat = 5) ∧ ¬ (0 ≤ i.A ∧ i.A < f.Locals)) from ⟨hloc, hA⟩)]
    by_cases h1 : i.A < 0
    ·rw [Bu (by rw [AS]; exact h1)]
    ·rw [A7 (by rw [AS]; exact h1), Bu (by rw [AS]; omega)]
  ·rw [A7 (show ¬ ((i.Op.toNat = 4 ∨ i.Op.toNat = 5) ∧ ¬ (0 ≤ i.A ∧ i.A < f.Locals)) from fun q => hloc q.1), A7 (by rw [AS]; exact hloc), AC7 h i, AQg]
   by_cases h0 : Af3 e i = 0
   ·rw [A7 (show ¬ Af3 e i ≠ 0 from fun q => q h0), A7 (by rw [Aas]; exact fun q => q h0), A6d h hb i h34 h0 (fun q => absurd q hloc), AQg]
   ·rw [Bu (show Af3 e i ≠ 0 from h0), Bu (by rw [Aas]; exact h0)]
 ·have hz : siz i.Op = 0 := by unfold siz; rw [Bu (by omega)]
  rw [Bu (by rw [hz]; rfl), Bu h34]
theorem ABd {e : GG} (h : Af9 e) {f : B0} (hf : Fok e.Classes f) (i : CO) (h0 : Af3 e i = 0) {had : List UInt8} (hh : ∀ t ∈ had, tv e.Classes t = true) : ∀ t ∈ Apj e f i had, tv e.Classes t = true := by
 have h32 := h.good.few
 have tl : ∀ k, k ≤ 5 → tv e.Classes (UInt8.ofNat k) = true := by
  intro k hk
  unfold tv
  have : (UInt8.ofNat k).toNat = k := by simp; omega
  rw [this, decide_eq_true hk, Bool.true_or]
 have hget : ∀ k : Nat, tv e.Classes ((had[k]?).getD 0) = true := by
  intro k
  rcases hx : had[k]? with _ | x
  ·exact Atj _
  ·exact hh x (AQ6 hx)
 unfold Apj
 split
 ·intro t ht
  rw [AQq] at ht
  subst ht
  unfold Ar9
  rcases hx : f.Slots.toList[i.A.toNat]? with _ | x
  ·exact Atj _
  ·have := (Auw _ _).2 hf.all
   rw [List.all_eq_true] at this
   exact this x (AQ6 hx)
 ·split
  ·intro t ht
   have : t = (had[0]?).getD 0 := by simpa using ht
   rw [this]; exact hget 0
  ·split
   ·intro t ht
    have : t = (had[1]?).getD 0 ∨ t = (had[0]?).getD 0 := by simpa using ht
    rcases this with q | q <;> (rw [q]; exact hget _)
   ·rename_i n4 n7 n8
    unfold Anc
    unfold Af3 at h0
    split
    any_goals (intro t ht; rw [AQq] at ht; subst ht; first | exact tl 1 (by omega) | exact tl 2 (by omega) | exact tl 3 (by omega) | exact tl 4 (by omega))
    any_goals (rename_i q; omega)
    ·rename_i q
     rw [Bu q] at h0
     intro t ht
     unfold Ape at ht
     by_cases ha : 0 ≤ i.A ∧ i.A < e.OS.length
     ·have hm := (A28 h (A4l ha.1 ha.2)).2.2
      split at ht
      ·cases ht
      ·rename_i q2
       rw [AQq] at ht
       subst ht
       exact (A5x h32 (hm.resolve_left q2)).2.2.2
     ·rw [A7 ha] at h0; cases h0
    ·rename_i q
     rw [A7 (by omega), Bu (by omega)] at h0
     intro t ht
     rw [AQq] at ht
     subst ht
     by_cases ha : 0 ≤ i.A ∧ i.A < e.Classes.length
     ·exact (A4w h32 ha.1 ha.2).2.2
     ·rw [A7 ha] at h0; cases h0
    ·rename_i q
     rw [A7 (by omega), Bu (by omega)] at h0
     intro t ht
     rw [AQq] at ht
     subst ht
     by_cases ha : 0 ≤ i.A ∧ i.A < e.Classes.length
     ·exact (A4w h32 ha.1 ha.2).2.2
     ·rw [A7 ha] at h0; cases h0
    ·rename_i q
     rw [A7 (by omega), A7 (by omega), Bu (by omega)] at h0
     intro t ht
     unfold Ape at ht
     by_cases ha : 0 ≤ i.A ∧ i.A < e.Classes.length ∧ 0 ≤ i.B ∧ i.B < (Aee e.Classes i.A).length
     ·obtain ⟨x, hx1, hx2, hx3⟩ := A6k (e := e) ha.2.2.1 ha.2.2.2
      split at ht
      ·cases ht
      ·rw [AQq] at ht
       subst ht
       rw [hx2]
       exact (A5x h32 (A5k h.good ha.2.1 hx3)).2.2.2
     ·rw [A7 ha] at h0; cases h0
    ·intro t ht; cases ht
theorem Aw2 {e : GG} (h : Af9 e) {f : B0} (hf : Fok e.Classes f) (i : CO) (ho : (Aj4 e f i).2 = 0) : Fok e.Classes (Aj4 e f i).1 ∧ i.Op.toNat < 34 ∧ Af3 e i = 0 := by
 have hb := hf.fb
 unfold Aj4 at *
 by_cases h34 : i.Op.toNat < 34
 ·rw [A7 (show ¬ ¬ i.Op.toNat < 34 from fun q => q h34)] at ho ⊢
  by_cases hloc : (i.Op.toNat = 4 ∨ i.Op.toNat = 5) ∧ ¬ (0 ≤ i.A ∧ i.A < f.Locals)
  ·rw [Bu hloc] at ho; cases ho
  ·rw [A7 hloc] at ho ⊢
   by_cases h0 : Af3 e i = 0
   ·rw [A7 (show ¬ Af3 e i ≠ 0 from fun q => q h0)] at ho ⊢
    by_cases hH : f.Height < (Aco e i).length
    ·rw [Bu hH] at ho; cases ho
    ·rw [A7 hH] at ho ⊢
     by_cases hk : okV e i (Aen f (Aco e i).length) = false
     ·rw [Bu hk] at ho; cases ho
     ·rw [A7 hk] at ho ⊢
      by_cases hl : i.Op.toNat = 4 ∧ (Ar9 f i).toNat = 0
      ·rw [Bu hl] at ho; cases ho
      ·rw [A7 hl] at ho ⊢
       refine ⟨?_, h34, h0⟩
       have hlen := Axj hb (n := (Aco e i).length) (by omega)
       have hall : ∀ t ∈ Aen f (Aco e i).length, tv e.Classes t = true := AJw hf.all
       unfold A4g at *
       by_cases h22 : i.Op.toNat = 22 ∧ (Ahm f (Aen f (Aco e i).length).length).Height > 0
       ·rw [Bu h22] at ho; cases ho
       ·rw [A7 h22] at ho ⊢
        have hp := A23 hb (Aen f (Aco e i).length).length (by omega)
        have hpa := AH4 hf.all (Aen f (Aco e i).length).length
        have hpL : (Ahm f (Aen f (Aco e i).length).length).Locals = f.Locals := by unfold Ahm Ah7; dsimp only
        by_cases h5 : i.Op.toNat = 5
        ·rw [Bu h5] at ho ⊢
         have hA : 0 ≤ i.A ∧ i.A < f.Locals := Classical.not_not.1 fun q => hloc ⟨Or.inr h5, q⟩
         refine A4r _ _ (A68 hp _ hA.1 (by omega)) (AIe hpa ?_ hA.1) (ABd h hf i h0 hall) ho
         rcases hx : (Aen f (Aco e i).length)[0]? with _ | x
         ·exact Atj _
         ·exact hall x (AQ6 hx)
        ·rw [A7 h5] at ho ⊢
         exact A4r _ _ hp hpa (ABd h hf i h0 hall) ho
   ·rw [Bu (show Af3 e i ≠ 0 from h0)] at ho
    exact absurd ho h0
 ·rw [Bu h34] at ho; cases ho
end Go.Proofs.YtfcpkcehecmcpaaGreat
namespace Go.Proofs.YtfcpkcehecmcpaaGreat
open Go Go.RowKit Go.Pv
theorem Arz : ∀ {l m : List Int}, l.Pairwise (· < ·) → m.Pairwise (· < ·) → (∀ a, a ∈ l ↔ a ∈ m) → l = m
 | [], [], _, _, _ => rfl
 | [], b :: m, _, _, h => absurd ((h b).2 (by simp)) (by simp)
 | a :: l, [], _, _, h => absurd ((h a).1 (by simp)) (by simp)
 | a :: l, b :: m, h1, h2, h => by
  rw [AQ9] at h1 h2
  have hab : a = b := by
   have h3 := (h a).1 (by simp)
   have h4 := (h b).2 (by simp)
   rw [AQr] at h3 h4
   rcases h3 with h3 | h3
   ·exact h3
   ·rcases h4 with h4 | h4
    ·exact h4.symm
    ·have := h2.1 a h3
     have := h1.1 b h4
     omega
  subst hab
  congr 1
  refine Arz h1.2 h2.2 fun x => ?_
  constructor
  ·intro hx
   have := (h x).1 (List.mem_cons_of_mem _ hx)
   rw [AQr] at this
   rcases this with q | q
   ·have := h1.1 x hx; omega
   ·exact q
  ·intro hx
   have := (h x).2 (List.mem_cons_of_mem _ hx)
   rw [AQr] at this
   rcases this with q | q
   ·have := h2.1 x hx; omega
   ·exact q
theorem Atl (l : List Int) (a : Int) : a ∈ Ag3 l ↔ a ∈ l := by unfold Ag3; exact (List.mergeSort_perm _ _).mem_iff
theorem Avj (l : List Int) : (Ag3 l).length = l.length := by unfold Ag3; exact (List.mergeSort_perm _ _).length_eq
theorem A1k (l : List Int) : (Ag3 l).Pairwise (· ≤ ·) := by
 unfold Ag3
 have := List.pairwise_mergeSort (le := fun x y : Int => decide (x ≤ y)) (fun a b c h1 h2 => by simp at *; omega) (fun a b => by simp; omega) l
 simpa using this
theorem Ayc : ∀ {l : List Int}, l.Pairwise (· ≤ ·) → l.Nodup → l.Pairwise (· < ·)
 | [], _, _ => List.Pairwise.nil
 | a :: l, h, hn => by
  rw [AQ9] at h ⊢
  rw [List.nodup_cons] at hn
  refine ⟨fun b hb => ?_, Ayc h.2 hn.2⟩
  have h1 := h.1 b hb
  have h2 : a ≠ b := by rintro rfl; exact hn.1 hb
  omega
theorem Asv {l : List Int} (h : l.Nodup) : (Ag3 l).Pairwise (· < ·) :=
 Ayc (A1k l) (by unfold Ag3; exact (List.mergeSort_perm _ _).nodup_iff.2 h)
theorem A1h (l : List Int) (hs : l.Pairwise (· ≤ ·)) : ∀ m, m ≤ l.length → (Lib.compactUpTo l.toArray m).Pairwise (· < ·) ∧ ∀ a, a ∈ Lib.compactUpTo l.toArray m ↔ a ∈ l.take m
 | 0, _ => by simp [Lib.compactUpTo]
 | m + 1, hm => by
  obtain ⟨h1, h2⟩ := A1h l hs m (by omega)
  have hm' : m < l.length := by omega
  have hget : l.toArray[m]! = l[m] := by simp [getElem!_pos, hm']
  rw [Lib.compactUpTo_succ, hget]
  have hle : ∀ i j (hi : i < l.length) (hj : j < l.length), i ≤ j → l[i] ≤ l[j] := by
   intro i j hi hj hij
   rcases Nat.lt_or_ge i j with q | q
   ·exact List.pairwise_iff_getElem.1 hs i j hi hj q
   ·have : i = j := by omega
    subst this
    exact Int.le_refl _
  have hmem : ∀ x, x ∈ l.take (m + 1) ↔ x ∈ l.take m ∨ x = l[m] := by
   intro x
   rw [List.take_succ_eq_append_getElem hm', AQp, AQq]
  by_cases hk : Lib.keeps l.toArray m = true
  ·rw [Bu hk]
   refine ⟨?_, fun a => ?_⟩
   ·rw [AQ5]
    refine ⟨h1, List.pairwise_singleton _ _, fun a ha b hb => ?_⟩
    rw [AQq] at hb
    subst hb
    have ha' := (h2 a).1 ha
    obtain ⟨i, hi, rfl⟩ := List.mem_iff_getElem.1 ha'
    rw [AQo] at hi
    rw [ARa]
    unfold Lib.keeps at hk
    rw [AS] at hk
    have hm0 : m ≠ 0 := by omega
    have hne := hk.resolve_left hm0
    have hget1 : l.toArray[m - 1]! = l[m - 1] := by simp [getElem!_pos, show m - 1 < l.length by omega]
    rw [hget, hget1] at hne
    have q1 := hle i (m - 1) (by omega) (by omega) (by omega)
    have q2 := hle (m - 1) m (by omega) hm' (by omega)
    omega
   ·rw [AQp, AQq, h2, hmem]
  ·rw [A7 hk]
   rw [AQ0]
   refine ⟨h1, fun a => ?_⟩
   rw [h2, hmem]
   constructor
   ·exact Or.inl
   ·rintro (q | q)
    ·exact q
    ·unfold Lib.keeps at hk
     rw [AS, not_or, Classical.not_not] at hk
     obtain ⟨hm0, heq⟩ := hk
     have hget1 : l.toArray[m - 1]! = l[m - 1] := by simp [getElem!_pos, show m - 1 < l.length by omega]
     rw [hget, hget1] at heq
     rw [q, heq]
     rw [List.mem_iff_getElem]
     exact ⟨m - 1, by rw [AQo]; omega, by rw [ARa]⟩
theorem Azf (l : List Int) (h : l.length ≤ 1099511627776) : ∃ r, (Awg l).bind As5 = some r ∧ r.Pairwise (· < ·) ∧ ∀ a, a ∈ r ↔ a ∈ l := by
 refine ⟨Lib.compact (Ag3 l), ?_, ?_⟩
 ·unfold Awg
  rw [Bu (by omega), AQg]
  unfold As5
  rw [Bu (by rw [Avj]; omega)]
 ·obtain ⟨h1, h2⟩ := A1h (Ag3 l) (A1k l) (Ag3 l).length (Nat.le_refl _)
  refine ⟨h1, fun a => ?_⟩
  have := h2 a
  rw [ARb, Atl] at this
  exact this
theorem Apy {κ ν : Type} [DecidableEq κ] (k k' : κ) (v : ν) : ∀ l : List (κ × ν), Adq (Ae7 l k v) k' = if k' = k then some v else Adq l k'
 | [] => by
  unfold Ae7 Adq
  split <;> simp_all [Adq]
 | p :: r => by
  have ih := Apy k k' v r
  unfold Ae7
  by_cases h : k = p.1
  ·rw [Bu h]
   unfold Adq
   dsimp only
   rw [← h]
   by_cases h' : k' = k
   ·rw [Bu h', Bu h']
   ·rw [A7 h', A7 h', A7 h']
  ·rw [A7 h]
   unfold Adq
   rw [ih]
   by_cases h' : k' = p.1
   ·rw [Bu h', A7 (by intro q; exact h (q ▸ h')), Bu h']
   ·rw [A7 h', A7 h']
theorem Aov {κ ν : Type} [DecidableEq κ] (k : κ) : ∀ l : List (κ × ν), (Adq l k).isSome = true ↔ k ∈ l.map Prod.fst
 | [] => by simp [Adq]
 | p :: r => by
  have ih := Aov k r
  unfold Adq
  rw [List.map_cons, AQr]
  by_cases h : k = p.1
  ·rw [Bu h]; simp [h]
  ·rw [A7 h, ih]; simp [h]
theorem A8u {κ ν : Type} [DecidableEq κ] (k : κ) : ∀ l : List (κ × ν), ((Amz l k).map Prod.fst) = (l.map Prod.fst).erase k
 | [] => rfl
 | p :: r => by
  have ih := A8u k r
  unfold Amz
  by_cases h : k = p.1
  ·rw [Bu h, List.map_cons, ← h, List.erase_cons_head]
  ·rw [A7 h, List.map_cons, List.map_cons, List.erase_cons_tail (by simp; exact fun q => h q.symm), ih]
theorem AEk {κ ν : Type} [DecidableEq κ] {l : List (κ × ν)} (h : (l.map Prod.fst).Nodup) (k : κ) : ((Amz l k).map Prod.fst).Nodup := by rw [A8u]; exact h.erase k
theorem A8k {κ ν : Type} [DecidableEq κ] (k k' : κ) : ∀ l : List (κ × ν), (l.map Prod.fst).Nodup → Adq (Amz l k) k' = if k' = k then none else Adq l k'
 | [], _ => by unfold Amz Adq; split <;> rfl
 | p :: r, h => by
  rw [List.map_cons, List.nodup_cons] at h
  have ih := A8k k k' r h.2
  unfold Amz
  by_cases hk : k = p.1
  ·rw [Bu hk]
   by_cases h' : k' = k
   ·rw [Bu h']
    rcases hx : Adq r k' with _ | v
    ·rfl
    ·have := (Aov k' r).1 (by rw [hx]; rfl)
     rw [h', hk] at this
     exact absurd this h.1
   ·rw [A7 h']
    conv => rhs; unfold Adq
    rw [A7 (by rw [← hk]; exact h')]
  ·rw [A7 hk]
   unfold Adq
   rw [ih]
   by_cases h' : k' = p.1
   ·rw [Bu h', A7 (by rintro rfl; exact hk h'), Bu h']
   ·rw [A7 h', A7 h']
theorem AI1 {κ ν : Type} [DecidableEq κ] (l : List (κ × ν)) (k : κ) (v : ν) : (Ae7 l k v).length ≤ l.length + 1 := by
 induction l with
 | nil => simp [Ae7]
 | cons p r ih =>
  unfold Ae7
  split
  ·simp
  ·simp; omega
theorem AE5 (l : List (Int × Unit)) (n : Int) : ∃ r, Avl Aji l n = some (.inl r) ∧ (r = n ∨ r ∈ l.map Prod.fst) ∧ r ≤ n ∧ ∀ k ∈ l.map Prod.fst, r ≤ k := by
 have key : ∀ (l : List (Int × Unit)) (n : Int), ∃ r, Ash Aji l n = some (.inl r) ∧ (r = n ∨ r ∈ l.map Prod.fst) ∧ r ≤ n ∧ ∀ k ∈ l.map Prod.fst, r ≤ k := by
  intro l
  induction l with
  | nil => intro n; exact ⟨n, rfl, Or.inl rfl, Int.le_refl _, fun k hk => by cases hk⟩
  | cons p l ih =>
   intro n
   unfold Ash Aji
   dsimp only
   obtain ⟨r, h1, h2, h3, h4⟩ := ih (if p.1 < n then p.1 else n)
   refine ⟨r, h1, ?_, ?_, ?_⟩
   ·rcases h2 with q | q
    ·rw [List.map_cons, AQr]
     by_cases hp : p.1 < n
     ·rw [Bu hp] at q; exact Or.inr (Or.inl q)
     ·rw [A7 hp] at q; exact Or.inl q
    ·exact Or.inr (by rw [List.map_cons, AQr]; exact Or.inr q)
   ·by_cases hp : p.1 < n
    ·rw [Bu hp] at h3; omega
    ·rw [A7 hp] at h3; omega
   ·intro k hk
    rw [List.map_cons, AQr] at hk
    rcases hk with q | q
    ·subst q
     by_cases hp : p.1 < n
     ·rw [Bu hp] at h3; omega
     ·rw [A7 hp] at h3; omega
    ·exact h4 k q
 obtain ⟨r, h1, h2, h3, h4⟩ := key l n
 refine ⟨r, Azr.2 fun l' hp => ?_, h2, h3, h4⟩
 obtain ⟨r', g1, g2, g3, g4⟩ := key l' n
 have hm : ∀ k, k ∈ l'.map Prod.fst ↔ k ∈ l.map Prod.fst := fun k => (hp.map _).mem_iff
 have : r' = r := by
  have a1 : r ≤ r' := by
   rcases g2 with q | q
   ·omega
   ·exact h4 _ ((hm _).1 q)
  have a2 : r' ≤ r := by
   rcases h2 with q | q
   ·omega
   ·exact g4 _ ((hm _).2 q)
  omega
 rw [g1, this]
end Go.Proofs.YtfcpkcehecmcpaaGreat
namespace Go.Proofs.YtfcpkcehecmcpaaGreat
open Go Go.RowKit Go.Pv
def upd {α : Type} (f : Nat → α) (a : Nat) (x : α) : Nat → α := fun b => if b = a then x else f b
theorem Ah4 {α : Type} (f : Nat → α) (a : Nat) (x : α) : upd f a x a = x := Bu rfl
theorem upd_ne {α : Type} (f : Nat → α) {a b : Nat} (x : α) (h : b ≠ a) : upd f a x b = f b := A7 h
structure St where
 fr : Nat → Option B0
 new : Nat → Bool
 tk : Nat → Nat
def Ala (op : UInt8) : Bool := decide (op.toNat = 19) || decide (op.toNat = 20)
def Amy (op : UInt8) : Bool := decide (op.toNat = 19) || (decide (op.toNat = 22) || decide (op.toNat = 32))
def Acv (code : List UInt8) (a : Nat) : CO × Int := match code[a]? with
 | none => (⟨0, 0, 0, 0⟩, 51)
 | some op => dec code a op
def Adv (i : CO) : List Nat :=
 (if Ala i.Op = true ∧ (Amy i.Op = true ∨ i.A < i.At + siz i.Op) then [i.A.toNat] else []) ++ (if Amy i.Op = true then [] else [(i.At + siz i.Op).toNat]) ++ (if Ala i.Op = true ∧ Amy i.Op = false ∧ i.A > i.At + siz i.Op then [i.A.toNat] else [])
def onV (i : CO) (n : Nat) : List Nat × Int :=
 if Ala i.Op = true ∧ i.A ≥ n then ([], 50) else if Amy i.Op = false ∧ i.At + siz i.Op = n then ([], 51) else (Adv i, 0)
open Classical in
noncomputable def Aiv (l : List BV) (s : St) (a : Nat) (f : B0) : St × Int := match s.fr a with
 | none => (⟨upd s.fr a (some f), upd s.new a true, s.tk⟩, 0)
 | some g => if (Ahw l g f).2 ≠ 0 then (s, (Ahw l g f).2) else if (Ahw l g f).1 = g then (s, 0) else (⟨upd s.fr a (some (Ahw l g f).1), upd s.new a true, s.tk⟩, 0)
noncomputable def Ah5 (l : List BV) (f : B0) : St → List Nat → Int × Int × St
 | s, [] => (0, 0, s)
 | s, a :: r => if (Aiv l s a f).2 ≠ 0 then (a, (Aiv l s a f).2, (Aiv l s a f).1) else Ah5 l f (Aiv l s a f).1 r
def An1 (s : St) (n a size : Nat) : Bool := (List.range (n + 1)).any fun x => decide (0 < s.tk x ∧ x ≠ a ∧ a < x + s.tk x ∧ x < a + size)
def off (s : St) (a : Nat) : St := ⟨s.fr, upd s.new a false, s.tk⟩
def lay (s : St) (a k : Nat) : St := ⟨s.fr, s.new, upd s.tk a k⟩
noncomputable def Agz (e : GG) (code : List UInt8) (s : St) (a : Nat) : Int × Int × St :=
 if (Acv code a).2 ≠ 0 then (a, (Acv code a).2, off s a)
 else if An1 (off s a) code.length a (siz (Acv code a).1.Op) = true then (a, 80, off s a)
 else if (Aj4 e ((s.fr a).getD zf) (Acv code a).1).2 ≠ 0 then (a, (Aj4 e ((s.fr a).getD zf) (Acv code a).1).2, lay (off s a) a (siz (Acv code a).1.Op))
 else if (onV (Acv code a).1 code.length).2 ≠ 0 then (a, (onV (Acv code a).1 code.length).2, lay (off s a) a (siz (Acv code a).1.Op))
 else Ah5 e.Classes (Aj4 e ((s.fr a).getD zf) (Acv code a).1).1 (lay (off s a) a (siz (Acv code a).1.Op)) (onV (Acv code a).1 code.length).1
def Aq8 (s : St) (n : Nat) : Option Nat := (List.range (n + 1)).find? s.new
noncomputable def A4d (e : GG) (code : List UInt8) : Nat → St → Option (Int × Int × St)
 | 0, _ => none
 | k + 1, s => match Aq8 s code.length with
  | none => some (0, 0, s)
  | some a => if (Agz e code s a).2.1 ≠ 0 then some (Agz e code s a) else A4d e code k (Agz e code s a).2.2
structure FLe (l : List BV) (f g : B0) : Prop where
 loc : f.Locals = g.Locals
 hgt : f.Height = g.Height
 le : ∀ j (h : j < 24), Le l f.Slots[j] g.Slots[j]
theorem FLe.refl {l : List BV} {f : B0} (h : Fok l f) : FLe l f f := ⟨rfl, rfl, fun j hj => Le.refl (h.all j hj)⟩
theorem Le.trans {l : List BV} (G : Good l) {a b c : UInt8} (h : Le l a b) (h' : Le l b c) : Le l a c := by
 have ha := h.1
 have hb := h.2.1
 have hc := h'.2.1
 rw [le_iff hb hc] at h'
 rw [le_iff ha hb] at h
 rw [le_iff ha hc]
 rcases h with rfl | h | h | h | h
 ·exact h'
 ·rcases h' with rfl | h' | h' | h' | h'
  ·exact Or.inr (Or.inl h)
  ·exact Or.inr (Or.inl h')
  ·omega
  ·exact absurd h'.1 (by unfold rf; simp [h])
  ·omega
 ·rcases h' with rfl | h' | h' | h' | h'
  ·exact Or.inr (Or.inr (Or.inl h))
  ·exact Or.inr (Or.inl h')
  ·exact Or.inr (Or.inr (Or.inl ⟨h.1, h'.2⟩))
  ·exact Or.inr (Or.inr (Or.inl ⟨h.1, by unfold rf; simp [h'.2]⟩))
  ·exact Or.inr (Or.inr (Or.inl ⟨h.1, by rw [Aq7]; omega⟩))
 ·rcases h' with rfl | h' | h' | h' | h'
  ·exact Or.inr (Or.inr (Or.inr (Or.inl h)))
  ·exact Or.inr (Or.inl h')
  ·omega
  ·exact Or.inr (Or.inr (Or.inr (Or.inl ⟨h.1, h'.2⟩)))
  ·omega
 ·rcases h' with rfl | h' | h' | h' | h'
  ·exact Or.inr (Or.inr (Or.inr (Or.inr h)))
  ·exact Or.inr (Or.inl h')
  ·omega
  ·exact Or.inr (Or.inr (Or.inr (Or.inl ⟨by rw [Aq7]; omega, h'.2⟩)))
  ·refine Or.inr (Or.inr (Or.inr (Or.inr ⟨h.1, h'.2.1, ?_⟩)))
   have hx := (Ass ha h.1).2
   exact A9w G.right (a.toNat - 16 + 1) ((a.toNat - 16 : Nat) : Int) (by omega) (by omega) (by omega) _ h.2.2 _ h'.2.2
theorem FLe.trans {l : List BV} (G : Good l) {f g h : B0} (h1 : FLe l f g) (h2 : FLe l g h) : FLe l f h := ⟨h1.loc.trans h2.loc, h1.hgt.trans h2.hgt, fun j hj => (h1.le j hj).trans G (h2.le j hj)⟩
theorem AEl {l : List BV} (G : Good l) {f g : B0} (hf : Fok l f) (hg : Fok l g) (h : (Ahw l f g).2 = 0) : Fok l (Ahw l f g).1 ∧ FLe l f (Ahw l f g).1 ∧ FLe l g (Ahw l f g).1 := by
 unfold Ahw at *
 by_cases h1 : f.Locals = g.Locals ∧ f.Height = g.Height
 ·rw [Bu h1]
  have hl := fun j (hj : j < 24) => A8j l G (hf.all j hj) (hg.all j hj)
  have key : ∀ j (hj : j < 24), Le l f.Slots[j] (Azd l f g (f.Locals + f.Height).toNat)[j] ∧ Le l g.Slots[j] (Azd l f g (f.Locals + f.Height).toNat)[j] := by
   intro j hj
   rw [Ar7 _ _ _ _ _ hj]
   split
   ·exact ⟨(hl j hj).left, (hl j hj).right⟩
   ·rename_i q
    have e1 := hf.bare j hj (by omega)
    have e2 := hg.bare j hj (by rw [← h1.1, ← h1.2]; omega)
    rw [e1, e2]
    exact ⟨Le.refl (Atj l), Le.refl (Atj l)⟩
  refine ⟨⟨hf.shp, fun j hj hle => ?_, fun j hj => (key j hj).1.2.1⟩, ⟨rfl, rfl, fun j hj => (key j hj).1⟩, ⟨h1.1.symm, h1.2.symm, fun j hj => (key j hj).2⟩⟩
  dsimp only at *
  rw [Ar7 _ _ _ _ _ hj, A7 (by omega)]
  exact hf.bare j hj hle
 ·rw [A7 h1] at h; cases h
def rk (l : List BV) (t : UInt8) : Nat := ((List.range 256).filter fun u => decide (Le l t (UInt8.ofNat u))).length
theorem filter_le {α : Type} {p q : α → Bool} : ∀ {L : List α}, (∀ x ∈ L, p x = true → q x = true) → (L.filter p).length ≤ (L.filter q).length
 | [], _ => by simp
 | b :: L, h => by
  have ih := filter_le (p := p) (q := q) (L := L) (fun x hx => h x (by simp [hx]))
  have hb := h b (by simp)
  rcases hp : p b with _ | _
  ·rcases hq : q b with _ | _
   ·simp only [AQy, hp, hq, if_true, Bool.false_eq_true, if_false, AQ2]; omega
   ·simp only [AQy, hp, hq, if_true, Bool.false_eq_true, if_false, AQ2]; omega
  ·simp only [AQy, hp, hb hp, if_true, Bool.false_eq_true, if_false, AQ2]; omega
theorem filter_lt {α : Type} {p q : α → Bool} : ∀ {L : List α}, (∀ x ∈ L, p x = true → q x = true) → (∃ x ∈ L, q x = true ∧ p x = false) → (L.filter p).length < (L.filter q).length
 | [], _, h => by obtain ⟨x, hx, _⟩ := h; cases hx
 | a :: L, h, hx => by
  have hle := filter_le (p := p) (q := q) (L := L) (fun x hx => h x (by simp [hx]))
  obtain ⟨x, hx, hq, hp⟩ := hx
  rw [AQr] at hx
  rcases hx with rfl | hx
  ·simp only [AQy, hp, hq, if_true, Bool.false_eq_true, if_false, AQ2]; omega
  ·have ih := filter_lt (p := p) (q := q) (L := L) (fun x hx => h x (by simp [hx])) ⟨x, hx, hq, hp⟩
   have ha := h a (by simp)
   rcases hpa : p a with _ | _
   ·rcases hqa : q a with _ | _
    ·simp only [AQy, hpa, hqa, if_true, Bool.false_eq_true, if_false, AQ2]; omega
    ·simp only [AQy, hpa, hqa, if_true, Bool.false_eq_true, if_false, AQ2]; omega
   ·simp only [AQy, hpa, ha hpa, if_true, Bool.false_eq_true, if_false, AQ2]; omega
theorem AOs (l : List BV) (t : UInt8) : rk l t ≤ 256 := by
 unfold rk
 refine Nat.le_trans (AQ7 _ _) ?_
 rw [AQ8]
 exact Nat.le_refl _
theorem AKw {l : List BV} (G : Good l) {a b : UInt8} (h : Le l a b) : rk l b ≤ rk l a := by
 unfold rk
 refine filter_le fun x _ hx => ?_
 rw [AS] at *
 exact h.trans G hx
theorem AOp {l : List BV} (G : Good l) {a b : UInt8} (h : Le l a b) (hne : a ≠ b) : rk l b < rk l a := by
 unfold rk
 refine filter_lt (fun x _ hx => ?_) ⟨a.toNat, ?_, ?_, ?_⟩
 ·rw [AS] at *
  exact h.trans G hx
 ·rw [AQt]; exact a.toNat_lt
 ·rw [AS, UInt8.ofNat_toNat]
  exact Le.refl h.1
 ·rw [decide_eq_false_iff_not, UInt8.ofNat_toNat]
  exact fun q => hne (h.antisymm G q)
def Ak9 (n : Nat) (F : Nat → Nat) : Nat := match n with
 | 0 => 0
 | n + 1 => Ak9 n F + F n
theorem A7u {F G : Nat → Nat} : ∀ {n : Nat}, (∀ i, i < n → F i ≤ G i) → Ak9 n F ≤ Ak9 n G
 | 0, _ => Nat.le_refl _
 | n + 1, h => by
  have := A7u (F := F) (G := G) (n := n) fun i hi => h i (by omega)
  have := h n (by omega)
  simp only [Ak9]
  omega
theorem A7q {F G : Nat → Nat} : ∀ {n : Nat}, (∀ i, i < n → F i ≤ G i) → (∃ i, i < n ∧ F i < G i) → Ak9 n F < Ak9 n G
 | 0, _, h => by obtain ⟨i, hi, _⟩ := h; omega
 | n + 1, h, hx => by
  obtain ⟨i, hi, hl⟩ := hx
  simp only [Ak9]
  by_cases hin : i = n
  ·subst hin
   have := A7u (F := F) (G := G) (n := i) fun j hj => h j (by omega)
   omega
  ·have := A7q (F := F) (G := G) (n := n) (fun j hj => h j (by omega)) ⟨i, by omega, hl⟩
   have := h n (by omega)
   omega
theorem Azi {F : Nat → Nat} {k : Nat} : ∀ {n : Nat}, (∀ i, i < n → F i ≤ k) → Ak9 n F ≤ n * k
 | 0, _ => by simp [Ak9]
 | n + 1, h => by
  have := Azi (F := F) (k := k) (n := n) fun i hi => h i (by omega)
  have := h n (by omega)
  simp only [Ak9]
  rw [Nat.succ_mul]
  omega
def rkF (l : List BV) (f : B0) : Nat := Ak9 24 fun j => rk l ((f.Slots.toList[j]?).getD 0)
theorem Azt (f : B0) {j : Nat} (h : j < 24) : (f.Slots.toList[j]?).getD 0 = f.Slots[j] := by
 rw [AQj (by simpa using h), AQh, Vector.getElem_toList]
theorem ALx (l : List BV) (f : B0) : rkF l f ≤ 6144 := Azi (k := 256) (n := 24) fun j _ => AOs l _
theorem AMd {l : List BV} (G : Good l) {f g : B0} (h : FLe l f g) (hne : g ≠ f) : rkF l g < rkF l f := by
 refine A7q (fun j hj => ?_) ?_
 ·rw [Azt f hj, Azt g hj]
  exact AKw G (h.le j hj)
 ·have hs : ¬ ∀ j (hj : j < 24), f.Slots[j] = g.Slots[j] := by
   intro q
   apply hne
   obtain ⟨L, H, S⟩ := f
   obtain ⟨L', H', S'⟩ := g
   have e1 := h.loc
   have e2 := h.hgt
   have e3 : S = S' := Vector.ext fun j hj => q j hj
   dsimp only at e1 e2
   rw [e1, e2, e3]
  have hs : ∃ j, ∃ hj : j < 24, f.Slots[j] ≠ g.Slots[j] := by
   refine Classical.byContradiction fun q => hs fun j hj => ?_
   exact Classical.byContradiction fun q2 => q ⟨j, hj, q2⟩
  obtain ⟨j, hj, hne'⟩ := hs
  refine ⟨j, hj, ?_⟩
  rw [Azt f hj, Azt g hj]
  exact AOp G (h.le j hj) hne'
def AEf : Bool → Nat
 | true => 1
 | false => 0
def frN (l : List BV) : Option B0 → Nat
 | none => 6145
 | some f => rkF l f
def nu (l : List BV) (s : St) (a : Nat) : Nat := 2 * frN l (s.fr a) + AEf (s.new a)
def mu (l : List BV) (n : Nat) (s : St) : Nat := Ak9 (n + 1) (nu l s)
end Go.Proofs.YtfcpkcehecmcpaaGreat
namespace Go.Proofs.YtfcpkcehecmcpaaGreat
open Go Go.RowKit Go.Pv
theorem Apr {code : List UInt8} {a : Nat} (h : (Acv code a).2 = 0) : a < code.length ∧ (Acv code a).1.At = a ∧ 0 < siz (Acv code a).1.Op ∧ a + siz (Acv code a).1.Op ≤ code.length ∧ code[a]? = some (Acv code a).1.Op := by
 unfold Acv at *
 rcases hc : code[a]? with _ | op
 ·rw [hc] at h; cases h
 ·rw [hc] at h
  have ha : a < code.length := (List.getElem?_eq_some_iff.1 hc).1
  dsimp only at *
  unfold dec at *
  by_cases h0 : siz op = 0
  ·rw [Bu h0] at h; cases h
  ·rw [A7 h0] at h ⊢
   by_cases h1 : code.length < a + siz op
   ·rw [Bu h1] at h; cases h
   ·rw [A7 h1] at h ⊢
    dsimp only at *
    split at h
    ·cases h
    ·rename_i q
     rw [A7 q]
     dsimp only
     exact ⟨ha, rfl, by omega, by omega, rfl⟩
theorem A08 {i : CO} {n a : Nat} (hA : i.At = a) (hs : a + siz i.Op ≤ n) (hn : 0 < n) (h : (onV i n).2 = 0) : (onV i n).1 = Adv i ∧ ∀ t ∈ Adv i, t < n := by
 unfold onV at *
 by_cases h1 : Ala i.Op = true ∧ i.A ≥ n
 ·rw [Bu h1] at h; cases h
 ·rw [A7 h1] at h ⊢
  by_cases h2 : Amy i.Op = false ∧ i.At + siz i.Op = n
  ·rw [Bu h2] at h; cases h
  ·rw [A7 h2]
   refine ⟨rfl, fun t ht => ?_⟩
   unfold Adv at ht
   rw [AQp, AQp] at ht
   rcases ht with (ht | ht) | ht
   ·split at ht
    ·rename_i q
     rw [AQq] at ht
     subst ht
     have : ¬ i.A ≥ n := fun q2 => h1 ⟨q.1, q2⟩
     omega
    ·cases ht
   ·split at ht
    ·cases ht
    ·rename_i q
     rw [AQq] at ht
     subst ht
     have : ¬ i.At + siz i.Op = n := fun q2 => h2 ⟨by simpa using q, q2⟩
     omega
   ·split at ht
    ·rename_i q
     rw [AQq] at ht
     subst ht
     have : ¬ i.A ≥ n := fun q2 => h1 ⟨q.1, q2⟩
     omega
    ·cases ht
structure AL0 (e : GG) (code : List UInt8) (s : St) (a : Nat) (f : B0) : Prop where
 ins : (Acv code a).2 = 0
 app : (Aj4 e f (Acv code a).1).2 = 0
 on : (onV (Acv code a).1 code.length).2 = 0
 tk : s.tk a = siz (Acv code a).1.Op
 nx : ∀ t ∈ Adv (Acv code a).1, ∃ h, s.fr t = some h ∧ FLe e.Classes (Aj4 e f (Acv code a).1).1 h
structure Atz (e : GG) (code : List UInt8) (st0 : B0) (s : St) : Prop where
 fok : ∀ a f, s.fr a = some f → Fok e.Classes f
 dom : ∀ a, (s.fr a).isSome = true → a < code.length ∨ a = 0
 new : ∀ a, s.new a = true → (s.fr a).isSome = true
 tk : ∀ x, 0 < s.tk x → (s.fr x).isSome = true ∧ (Acv code x).2 = 0 ∧ s.tk x = siz (Acv code x).1.Op
 dis : ∀ x y, 0 < s.tk x → 0 < s.tk y → x < y → x + s.tk x ≤ y
 start : ∃ f, s.fr 0 = some f ∧ FLe e.Classes st0 f
structure Inv (e : GG) (code : List UInt8) (st0 : B0) (s : St) : Prop extends Atz e code st0 s where
 clo : ∀ a f, s.fr a = some f → s.new a = false → AL0 e code s a f
structure Ext (l : List BV) (s s' : St) : Prop where
 fr : ∀ b f, s.fr b = some f → ∃ f', s'.fr b = some f' ∧ FLe l f f'
 tk : s'.tk = s.tk
 same : ∀ b, s'.new b = false → s'.fr b = s.fr b ∧ s.new b = false
theorem Ext.trans {l : List BV} (G : Good l) {s t u : St} (h : Ext l s t) (h' : Ext l t u) : Ext l s u := by
 refine ⟨fun b f hf => ?_, h'.tk.trans h.tk, fun b hb => ?_⟩
 ·obtain ⟨f1, h1, h2⟩ := h.fr b f hf
  obtain ⟨f2, h3, h4⟩ := h'.fr b f1 h1
  exact ⟨f2, h3, h2.trans G h4⟩
 ·obtain ⟨h1, h2⟩ := h'.same b hb
  obtain ⟨h3, h4⟩ := h.same b h2
  exact ⟨h1.trans h3, h4⟩
theorem Auj {α : Type} {o : Option α} (h : o.isSome = true) : ∃ x, o = some x := by
 rcases o with _ | x
 ·cases h
 ·exact ⟨x, rfl⟩
theorem A7s {e : GG} (h : Af9 e) {code : List UInt8} {st0 : B0} {s : St} (I : Atz e code st0 s) {t : Nat} (ht : t < code.length) {g : B0} (hg : Fok e.Classes g) (h0 : (Aiv e.Classes s t g).2 = 0) :
  Atz e code st0 (Aiv e.Classes s t g).1 ∧ Ext e.Classes s (Aiv e.Classes s t g).1 ∧ mu e.Classes code.length (Aiv e.Classes s t g).1 ≤ mu e.Classes code.length s ∧ ∃ f, (Aiv e.Classes s t g).1.fr t = some f ∧ FLe e.Classes g f := by
 have G := h.good
 have base : ∀ f' : B0, Fok e.Classes f' → (∀ f, s.fr t = some f → FLe e.Classes f f') → nu e.Classes ⟨upd s.fr t (some f'), upd s.new t true, s.tk⟩ t ≤ nu e.Classes s t →
   Atz e code st0 ⟨upd s.fr t (some f'), upd s.new t true, s.tk⟩ ∧ Ext e.Classes s ⟨upd s.fr t (some f'), upd s.new t true, s.tk⟩ ∧ mu e.Classes code.length ⟨upd s.fr t (some f'), upd s.new t true, s.tk⟩ ≤ mu e.Classes code.length s := by
  intro f' hf' hle hnu
  have hfr : ∀ b f, s.fr b = some f → ∃ f2, upd s.fr t (some f') b = some f2 ∧ FLe e.Classes f f2 := by
   intro b f hf
   by_cases hb : b = t
   ·subst hb
    exact ⟨f', Ah4 _ _ _, hle f hf⟩
   ·exact ⟨f, by rw [upd_ne _ _ hb]; exact hf, FLe.refl (I.fok b f hf)⟩
  have hsome : ∀ b, (s.fr b).isSome = true → (upd s.fr t (some f') b).isSome = true := by
   intro b hb
   obtain ⟨f, hf⟩ := Auj hb
   obtain ⟨f2, hf2, _⟩ := hfr b f hf
   rw [hf2]; rfl
  refine ⟨⟨fun b f hf => ?_, fun b hb => ?_, fun b hb => ?_, fun x hx => ?_, I.dis, ?_⟩, ⟨hfr, rfl, fun b hb => ?_⟩, ?_⟩
  ·by_cases hb : b = t
   ·subst hb
    dsimp only at hf
    rw [Ah4] at hf
    cases hf
    exact hf'
   ·dsimp only at hf
    rw [upd_ne _ _ hb] at hf
    exact I.fok b f hf
  ·by_cases hbt : b = t
   ·subst hbt; exact Or.inl ht
   ·dsimp only at hb
    rw [upd_ne _ _ hbt] at hb
    exact I.dom b hb
  ·by_cases hbt : b = t
   ·subst hbt
    dsimp only
    rw [Ah4]; rfl
   ·dsimp only at hb
    rw [upd_ne _ _ hbt] at hb
    exact hsome b (I.new b hb)
  ·obtain ⟨h1, h2, h3⟩ := I.tk x hx
   exact ⟨hsome x h1, h2, h3⟩
  ·obtain ⟨f, hf, hfl⟩ := I.start
   obtain ⟨f2, hf2, hfl2⟩ := hfr 0 f hf
   exact ⟨f2, hf2, hfl.trans G hfl2⟩
  ·by_cases hbt : b = t
   ·subst hbt
    dsimp only at hb
    rw [Ah4] at hb; cases hb
   ·dsimp only at hb ⊢
    rw [upd_ne _ _ hbt] at hb
    exact ⟨upd_ne _ _ hbt, hb⟩
  ·refine A7u fun b _ => ?_
   by_cases hbt : b = t
   ·subst hbt; exact hnu
   ·unfold nu
    dsimp only
    rw [upd_ne _ _ hbt, upd_ne _ _ hbt]
    exact Nat.le_refl _
 have hnu1 : ∀ f', nu e.Classes ⟨upd s.fr t (some f'), upd s.new t true, s.tk⟩ t = 2 * rkF e.Classes f' + 1 := by
  intro f'
  unfold nu
  dsimp only
  rw [Ah4, Ah4]
  unfold frN AEf
  rfl
 unfold Aiv at *
 rcases hf : s.fr t with _ | f
 ·rw [hf] at h0
  dsimp only at *
  have hn : nu e.Classes s t ≥ 12290 := by unfold nu; rw [hf]; unfold frN; dsimp only; omega
  have hr := ALx e.Classes g
  obtain ⟨b1, b2, b3⟩ := base g hg (fun f q => by rw [hf] at q; cases q) (by rw [hnu1]; omega)
  exact ⟨b1, b2, b3, g, Ah4 _ _ _, FLe.refl hg⟩
 ·rw [hf] at h0
  dsimp only at *
  by_cases hm : (Ahw e.Classes f g).2 ≠ 0
  ·rw [Bu hm] at h0; exact absurd h0 hm
  ·rw [A7 hm] at h0 ⊢
   have hm0 : (Ahw e.Classes f g).2 = 0 := Classical.not_not.1 hm
   obtain ⟨m1, m2, m3⟩ := AEl G (I.fok t f hf) hg hm0
   by_cases hq : (Ahw e.Classes f g).1 = f
   ·rw [Bu hq]
    exact ⟨I, ⟨fun b f2 hf2 => ⟨f2, hf2, FLe.refl (I.fok b f2 hf2)⟩, rfl, fun b hb => ⟨rfl, hb⟩⟩, Nat.le_refl _, f, hf, by rw [← hq]; rw [hq] at m3 ⊢; exact m3⟩
   ·rw [A7 hq]
    have hr := AMd G m2 hq
    obtain ⟨b1, b2, b3⟩ := base _ m1 (fun f2 q => by rw [hf] at q; cases q; exact m2) (by
     rw [hnu1]
     unfold nu
     rw [hf]
     unfold frN
     dsimp only
     omega)
    exact ⟨b1, b2, b3, _, Ah4 _ _ _, m3⟩
theorem A97 {e : GG} (h : Af9 e) {code : List UInt8} {st0 : B0} {g : B0} (hg : Fok e.Classes g) : ∀ (ts : List Nat) (s : St), Atz e code st0 s → (∀ t ∈ ts, t < code.length) → (Ah5 e.Classes g s ts).2.1 = 0 →
  Atz e code st0 (Ah5 e.Classes g s ts).2.2 ∧ Ext e.Classes s (Ah5 e.Classes g s ts).2.2 ∧ mu e.Classes code.length (Ah5 e.Classes g s ts).2.2 ≤ mu e.Classes code.length s ∧ ∀ t ∈ ts, ∃ f, (Ah5 e.Classes g s ts).2.2.fr t = some f ∧ FLe e.Classes g f
 | [], s, I, _, _ => ⟨I, ⟨fun b f2 hf2 => ⟨f2, hf2, FLe.refl (I.fok b f2 hf2)⟩, rfl, fun b hb => ⟨rfl, hb⟩⟩, Nat.le_refl _, fun t ht => by cases ht⟩
 | t :: ts, s, I, ht, h0 => by
  unfold Ah5 at *
  by_cases hx : (Aiv e.Classes s t g).2 ≠ 0
  ·rw [Bu hx] at h0; exact absurd h0 hx
  ·rw [A7 hx] at h0 ⊢
   obtain ⟨a1, a2, a3, f, a4, a5⟩ := A7s h I (ht t (by simp)) hg (Classical.not_not.1 hx)
   obtain ⟨b1, b2, b3, b4⟩ := A97 h hg ts _ a1 (fun x hx => ht x (by simp [hx])) h0
   refine ⟨b1, a2.trans h.good b2, Nat.le_trans b3 a3, fun x hx => ?_⟩
   rw [AQr] at hx
   rcases hx with rfl | hx
   ·obtain ⟨f', c1, c2⟩ := b2.fr x f a4
    exact ⟨f', c1, a5.trans h.good c2⟩
   ·exact b4 x hx
theorem Axa {s : St} {n a size : Nat} : An1 s n a size = false ↔ ∀ x, x ≤ n → 0 < s.tk x → x ≠ a → a < x + s.tk x → ¬ x < a + size := by
 unfold An1
 rw [List.any_eq_false]
 constructor
 ·intro h x hx h1 h2 h3 h4
  have := h x (by rw [AQt]; omega)
  rw [AS] at this
  exact this ⟨h1, h2, h3, h4⟩
 ·intro h x hx
  rw [AS]
  rintro ⟨h1, h2, h3, h4⟩
  exact h x (by rw [AQt] at hx; omega) h1 h2 h3 h4
theorem A45 {e : GG} {code : List UInt8} {st0 : B0} {s : St} (I : Inv e code st0 s) {a : Nat} (ha : s.new a = true) (h1 : (Acv code a).2 = 0) (h2 : An1 (off s a) code.length a (siz (Acv code a).1.Op) = false) : Atz e code st0 (lay (off s a) a (siz (Acv code a).1.Op)) := by
 obtain ⟨f, hf⟩ := Auj (I.new a ha)
 have h1' := Apr h1
 have h2' := Axa.1 h2
 have hdx : ∀ x, 0 < s.tk x → x ≤ code.length := by
  intro x hx
  rcases I.dom x (I.tk x hx).1 with q | q <;> omega
 refine ⟨I.fok, I.dom, fun b hb => ?_, fun x hx => ?_, fun x y hx hy hxy => ?_, I.start⟩
 ·unfold lay off at hb
  dsimp only at hb
  by_cases hba : b = a
  ·subst hba
   rw [Ah4] at hb; cases hb
  ·rw [upd_ne _ _ hba] at hb
   exact I.new b hb
 ·unfold lay off at *
  dsimp only at *
  by_cases hba : x = a
  ·subst hba
   rw [Ah4]
   exact ⟨by rw [hf]; rfl, h1, rfl⟩
  ·rw [upd_ne _ _ hba] at hx ⊢
   exact I.tk x hx
 ·unfold lay off at *
  dsimp only at *
  by_cases hxa : x = a
  ·subst hxa
   have hya : y ≠ x := by omega
   rw [Ah4]
   rw [upd_ne _ _ hya] at hy
   have := h2' y (hdx y hy) hy hya (by omega)
   omega
  ·by_cases hya : y = a
   ·subst hya
    rw [upd_ne _ _ hxa] at hx ⊢
    have := fun q => h2' x (hdx x hx) hx hxa q (by omega)
    rcases Nat.lt_or_ge y (x + s.tk x) with q | q
    ·exact absurd q this
    ·exact q
   ·rw [upd_ne _ _ hxa] at hx ⊢
    rw [upd_ne _ _ hya] at hy
    exact I.dis x y hx hy hxy
theorem A5p {l : List BV} {g : B0} : ∀ (ts : List Nat) (s : St), (Ah5 l g s ts).2.1 = 0 → (Ah5 l g s ts).1 = 0
 | [], s, _ => rfl
 | t :: ts, s, h => by
  unfold Ah5 at *
  by_cases hx : (Aiv l s t g).2 ≠ 0
  ·rw [Bu hx] at h; exact absurd h hx
  ·rw [A7 hx] at h ⊢
   exact A5p ts _ h
theorem A4t {e : GG} (h : Af9 e) {code : List UInt8} {st0 : B0} {s : St} (I : Inv e code st0 s) {a : Nat} (ha : s.new a = true) (h0 : (Agz e code s a).2.1 = 0) :
  Inv e code st0 (Agz e code s a).2.2 ∧ mu e.Classes code.length (Agz e code s a).2.2 < mu e.Classes code.length s := by
 obtain ⟨f, hf⟩ := Auj (I.new a ha)
 have hfok := I.fok a f hf
 unfold Agz at *
 rw [hf, AQh] at h0 ⊢
 by_cases h1 : (Acv code a).2 ≠ 0
 ·rw [Bu h1] at h0; exact absurd h0 h1
 rw [A7 h1] at h0 ⊢
 have h1' := Apr (Classical.not_not.1 h1)
 by_cases h2 : An1 (off s a) code.length a (siz (Acv code a).1.Op) = true
 ·rw [Bu h2] at h0; cases h0
 rw [A7 h2] at h0 ⊢
 have h2' := Axa.1 (by simpa using h2)
 by_cases h3 : (Aj4 e f (Acv code a).1).2 ≠ 0
 ·rw [Bu h3] at h0; exact absurd h0 h3
 rw [A7 h3] at h0 ⊢
 have h3' := Classical.not_not.1 h3
 by_cases h4 : (onV (Acv code a).1 code.length).2 ≠ 0
 ·rw [Bu h4] at h0; exact absurd h0 h4
 rw [A7 h4] at h0 ⊢
 have h4' := Classical.not_not.1 h4
 obtain ⟨on1, on2⟩ := A08 h1'.2.1 h1'.2.2.2.1 (by omega) h4'
 rw [on1] at h0 ⊢
 have happ := Aw2 h hfok (Acv code a).1 h3'
 have I1 : Atz e code st0 (lay (off s a) a (siz (Acv code a).1.Op)) := A45 I ha (Classical.not_not.1 h1) (by simpa using h2)
 obtain ⟨c1, c2, c3, c4⟩ := A97 h happ.1 (Adv (Acv code a).1) _ I1 on2 h0
 refine ⟨⟨c1, fun b fb hfb hnb => ?_⟩, ?_⟩
 ·obtain ⟨d1, d2⟩ := c2.same b hnb
  rw [hfb] at d1
  by_cases hba : b = a
  ·subst hba
   have hfe : fb = f := by
    have : s.fr b = some fb := d1.symm
    rw [hf] at this
    exact (Option.some.inj this).symm
   subst hfe
   refine ⟨Classical.not_not.1 h1, h3', h4', ?_, c4⟩
   rw [c2.tk]
   exact Ah4 _ _ _
  ·have hnb' : s.new b = false := by
    unfold lay off at d2
    dsimp only at d2
    rw [upd_ne _ _ hba] at d2
    exact d2
   have D := I.clo b fb d1.symm hnb'
   refine ⟨D.ins, D.app, D.on, ?_, fun t ht => ?_⟩
   ·rw [c2.tk]
    have : (lay (off s a) a (siz (Acv code a).1.Op)).tk b = s.tk b := upd_ne _ _ hba
    rw [this]
    exact D.tk
   ·obtain ⟨g, g1, g2⟩ := D.nx t ht
    obtain ⟨g', g3, g4⟩ := c2.fr t g g1
    exact ⟨g', g3, g2.trans h.good g4⟩
 ·refine Nat.lt_of_le_of_lt c3 ?_
  refine A7q (fun b hb => ?_) ⟨a, by omega, ?_⟩
  ·unfold nu lay off
   dsimp only
   by_cases hba : b = a
   ·subst hba
    rw [Ah4, ha]
    simp only [AEf]
    omega
   ·rw [upd_ne _ _ hba]
    exact Nat.le_refl _
  ·unfold nu lay off
   dsimp only
   rw [Ah4, ha]
   simp only [AEf]
   omega
theorem Asx {s : St} {n a : Nat} (h : Aq8 s n = some a) : s.new a = true ∧ a ≤ n ∧ ∀ b, b < a → s.new b = false := by
 unfold Aq8 at h
 rw [List.find?_range_eq_some] at h
 obtain ⟨h1, h2, h3⟩ := h
 rw [AQt] at h2
 exact ⟨h1, by omega, fun b hb => by have := h3 b hb; simpa using this⟩
theorem Ayg {s : St} {n : Nat} (h : Aq8 s n = none) : ∀ b, b ≤ n → s.new b = false := by
 unfold Aq8 at h
 rw [List.find?_eq_none] at h
 intro b hb
 have := h b (by rw [AQt]; omega)
 simpa using this
theorem Aem {e : GG} (h : Af9 e) {code : List UInt8} {st0 : B0} : ∀ (k : Nat) (s : St), Inv e code st0 s → mu e.Classes code.length s < k → ∃ r, A4d e code k s = some r ∧ (r.2.1 = 0 → r.1 = 0 ∧ Inv e code st0 r.2.2 ∧ ∀ b, r.2.2.new b = false)
 | 0, s, _, hk => by omega
 | k + 1, s, I, hk => by
  unfold A4d
  rcases hl : Aq8 s code.length with _ | a
  ·refine ⟨_, rfl, fun _ => ⟨rfl, I, fun b => ?_⟩⟩
   rcases hb : s.new b with _ | _
   ·rfl
   ·have := I.dom b (I.new b hb)
    have h2 := Ayg hl b (by omega)
    rw [hb] at h2; cases h2
  ·dsimp only
   by_cases h0 : (Agz e code s a).2.1 ≠ 0
   ·rw [Bu h0]
    exact ⟨_, rfl, fun q => absurd q h0⟩
   ·rw [A7 h0]
    obtain ⟨J, hm⟩ := A4t h I (Asx hl).1 (Classical.not_not.1 h0)
    exact Aem h k _ J (by omega)
def st1 (f : B0) : St := ⟨fun a => if a = 0 then some f else none, fun a => decide (a = 0), fun _ => 0⟩
theorem ALp {e : GG} (h : Af9 e) {code : List UInt8} {f : B0} (hf : Fok e.Classes f) : Inv e code f (st1 f) := by
 have h0 : ∀ a, (if a = 0 then some f else none : Option B0).isSome = true → a = 0 := by
  intro a ha
  by_cases q : a = 0
  ·exact q
  ·rw [A7 q] at ha; cases ha
 unfold st1
 refine ⟨⟨fun a g hg => ?_, fun a ha => Or.inr (h0 a ha), fun a ha => ?_, fun x hx => ?_, fun x y hx => ?_, ⟨f, (Bu rfl : (if 0 = 0 then some f else none) = some f), FLe.refl hf⟩⟩, fun a g hg hn => ?_⟩
 ·dsimp only at hg
  split at hg
  ·cases hg; exact hf
  ·cases hg
 ·dsimp only at ha ⊢
  rw [AS] at ha
  rw [Bu ha]; rfl
 ·dsimp only at hx; omega
 ·dsimp only at hx; omega
 ·dsimp only at hg hn
  rw [decide_eq_false_iff_not] at hn
  rw [A7 hn] at hg; cases hg
end Go.Proofs.YtfcpkcehecmcpaaGreat
namespace Go.Proofs.YtfcpkcehecmcpaaGreat
open Go Go.RowKit Go.Pv
theorem A0k (op : UInt8) : Aqc op = some (Ala op) := by
 unfold Aqc Ala
 have e19 : ((op.toNat : Int) == 19) = decide (op.toNat = 19) := Adu _ 19
 have e20 : ((op.toNat : Int) == 20) = decide (op.toNat = 20) := Adu _ 20
 rw [e19, e20]
 rcases decide (op.toNat = 19) with _ | _ <;> simp
theorem AGx (op : UInt8) : Aod op = some (Ala op) := A0k op
theorem A12 (op : UInt8) : Atq op = some (Amy op) := by
 unfold Atq Amy
 have e19 : ((op.toNat : Int) == 19) = decide (op.toNat = 19) := Adu _ 19
 have e22 : ((op.toNat : Int) == 22) = decide (op.toNat = 22) := Adu _ 22
 have e32 : ((op.toNat : Int) == 32) = decide (op.toNat = 32) := Adu _ 32
 rw [e19, e22, e32]
 rcases decide (op.toNat = 19) with _ | _ <;> rcases decide (op.toNat = 22) with _ | _ <;> simp
theorem AI6 (op : UInt8) : Ao2 op = some (Amy op) := A12 op
def ints (l : List Nat) : List Int := l.map fun (t : Nat) => (t : Int)
theorem AG7 {i : CO} {n a : Nat} (hA : i.At = a) (hs : a + siz i.Op ≤ n) (hn : n ≤ 1048576) (h0 : Ala i.Op = true → 0 ≤ i.A) : Al7 i (n : Int) = some (ints (onV i n).1, (onV i n).2) := by
 unfold Al7 onV
 rw [Amg, AQg, AGx, AQg, AI6, AQg, Aec (by omega) (by omega)]
 by_cases h1 : Ala i.Op = true ∧ i.A ≥ n
 ·rw [Bu h1.1, Bu (by rw [AS]; exact h1.2), Bu h1]
  rfl
 ·rw [A7 h1]
  have hx : (if Ala i.Op = true then (if decide (i.A ≥ (n : Int)) = true then (some (Sum.inl (([] : List Int), (50 : Int)) : (List Int × Int) ⊕ Unit)) else (some (.inr ()))) else (some (.inr ()))) = some (.inr ()) := by
   by_cases hj : Ala i.Op = true
   ·rw [Bu hj, A7 (by rw [AS]; exact fun q => h1 ⟨hj, q⟩)]
   ·rw [A7 hj]
  rw [hx, AQg]
  dsimp only
  by_cases h2 : Amy i.Op = false ∧ i.At + siz i.Op = n
  ·rw [Bu (by rw [h2.1]; rfl), Bu (by rw [JY]; exact h2.2), Bu h2]
   rfl
  ·rw [A7 h2]
   have hy : (if (!Amy i.Op) = true then (if ((i.At + (siz i.Op : Int)) == (n : Int)) = true then (some (Sum.inl (([] : List Int), (51 : Int)) : (List Int × Int) ⊕ Unit)) else (some (.inr ()))) else (some (.inr ()))) = some (.inr ()) := by
    by_cases hj : (!Amy i.Op) = true
    ·rw [Bu hj, A7 (by rw [JY]; exact fun q => h2 ⟨by simpa using hj, q⟩)]
    ·rw [A7 hj]
   rw [hy, AQg]
   dsimp only
   unfold Adv ints
   obtain ⟨b, hb⟩ : ∃ b : Nat, i.At + (siz i.Op : Int) = b := ⟨a + siz i.Op, by omega⟩
   rw [hb]
   rcases hj : Ala i.Op with _ | _
   ·rcases he : Amy i.Op with _ | _
    ·rw [A7 (by simp), AQg, Bu (by rfl), Ae6 (by simp), AQg, A7 (by simp)]
     simp
    ·rw [A7 (by simp), AQg, A7 (by simp), A7 (by simp)]
     simp
   ·obtain ⟨k, hk⟩ := ARd (h0 hj)
    rw [hk]
    rcases he : Amy i.Op with _ | _
    ·rw [Bu rfl, A7 (by simp)]
     by_cases hlt : k < b
     ·rw [Bu (by rw [AS]; omega), Ae6 (by simp), AQg, AQg, Bu (by rfl), Ae6 (by simp), AQg, Bu rfl, A7 (by rw [AS]; omega)]
      simp [hlt]
      omega
     ·rw [A7 (by rw [AS]; omega), AQg, Bu (by rfl), Ae6 (by simp), AQg, Bu rfl]
      by_cases hgt : k > b
      ·rw [Bu (by rw [AS]; omega), Ae6 (by simp), AQg]
       simp [hlt, hgt]
      ·rw [A7 (by rw [AS]; omega)]
       simp [hlt, hgt]
    ·rw [Bu rfl, Bu (by rfl), Ae6 (by simp), AQg, AQg, A7 (by simp), Bu rfl]
     simp
structure An4 (n : Nat) (s : St) (R : LX) : Prop where
 has : R.Has.length = n + 1 ∧ ∀ a, a ≤ n → R.Has[a]? = some (s.fr a).isSome
 frame : R.Frame.length = n + 1 ∧ ∀ a, a ≤ n → ∀ f, s.fr a = some f → R.Frame[a]? = some f
 fresh : R.Aeg.length = n + 1 ∧ ∀ a, a ≤ n → R.Aeg[a]? = some (s.new a)
 taken : R.Taken.length = n + 1 ∧ ∀ a, a ≤ n → R.Taken[a]? = some (s.tk a : Int)
theorem Atm {α : Type} {l : List α} {n a b : Nat} {x : α} (hl : l.length = n + 1) (ha : a ≤ n) : (l.set a x)[b]? = if b = a then some x else l[b]? := by
 rw [List.getElem?_set]
 by_cases h : a = b
 ·rw [Bu h, Bu (by omega), Bu h.symm]
 ·rw [A7 h, A7 (fun q => h q.symm)]
theorem An4.lay {n : Nat} {s : St} {R : LX} (h : An4 n s R) {a : Nat} (ha : a ≤ n) (f : B0) : An4 n ⟨upd s.fr a (some f), upd s.new a true, s.tk⟩ ⟨R.Has.set a true, R.Frame.set a f, R.Aeg.set a true, R.Taken⟩ := by
 refine ⟨⟨by rw [AQn]; exact h.has.1, fun b hb => ?_⟩, ⟨by rw [AQn]; exact h.frame.1, fun b hb g hg => ?_⟩, ⟨by rw [AQn]; exact h.fresh.1, fun b hb => ?_⟩, h.taken⟩
 ·dsimp only
  rw [Atm h.has.1 ha]
  by_cases q : b = a
  ·rw [Bu q, q, Ah4]; rfl
  ·rw [A7 q, upd_ne _ _ q]; exact h.has.2 b hb
 ·dsimp only at *
  rw [Atm h.frame.1 ha]
  by_cases q : b = a
  ·rw [Bu q]
   rw [q, Ah4] at hg
   exact hg
  ·rw [A7 q]
   rw [upd_ne _ _ q] at hg
   exact h.frame.2 b hb g hg
 ·dsimp only
  rw [Atm h.fresh.1 ha]
  by_cases q : b = a
  ·rw [Bu q, q, Ah4]
  ·rw [A7 q, upd_ne _ _ q]; exact h.fresh.2 b hb
theorem Axw {f g : B0} : ((f.Locals == g.Locals) && ((f.Height == g.Height) && ((f.Slots == g.Slots) && true))) = true ↔ f = g := by
 obtain ⟨L, H, S⟩ := f
 obtain ⟨L', H', S'⟩ := g
 simp
theorem Ajb {α : Type} {l : List α} {a : Nat} {x : α} (h : l[a]? = some x) : idx l (a : Int) = some x := by rw [A65, h]
theorem AIy {e : GG} (h : Af9 e) {n : Nat} {s : St} {R : LX} (hR : An4 n s R) (hs : ∀ a f, s.fr a = some f → Fok e.Classes f) {a : Nat} (ha : a ≤ n) {g : B0} (hg : Fok e.Classes g) :
  ∃ R', Ajf R e.Classes (a : Int) g = some ((Aiv e.Classes s a g).2, R') ∧ An4 n (Aiv e.Classes s a g).1 R' := by
 have i1 := Ajb (hR.has.2 a ha)
 have i3 := Ajb (hR.fresh.2 a ha)
 have i2 : ∃ f, idx R.Frame (a : Int) = some f := by
  have : a < R.Frame.length := by rw [hR.frame.1]; omega
  exact ⟨_, Ac8 this⟩
 unfold Ajf Aiv
 rw [i1, AQg]
 rcases hf : s.fr a with _ | f
 ·obtain ⟨f0, i2⟩ := i2
  rw [Bu (by rfl), AQg, i2, AQg, i3, AQg]
  exact ⟨_, rfl, hR.lay ha g⟩
 ·have i4 := Ajb (hR.frame.2 a ha f hf)
  rw [A7 (by simp), i4, AQg, show (⟨g.Locals, g.Height, g.Slots⟩ : B0) = g from rfl, ADr h.good (hs a f hf) hg, AQg]
  dsimp only
  by_cases hm : (Ahw e.Classes f g).2 ≠ 0
  ·rw [Bu (by rw [Aas]; exact hm), Bu hm]
   exact ⟨_, rfl, hR⟩
  ·rw [A7 (by rw [Aas]; exact hm), A7 hm, AQg]
   by_cases hq : (Ahw e.Classes f g).1 = f
   ·rw [A7 (by rw [Axw.2 hq]; simp), Bu hq]
    exact ⟨_, rfl, hR⟩
   ·rw [Bu, A7 hq, AQg, i3, AQg]
    ·refine ⟨_, rfl, ?_⟩
     have := hR.lay ha (Ahw e.Classes f g).1
     have e1 : R.Has.set a true = R.Has := by
      have h1 : R.Has[a]? = some true := by rw [hR.has.2 a ha, hf]; rfl
      obtain ⟨hlt, h2⟩ := List.getElem?_eq_some_iff.1 h1
      rw [← h2, List.set_getElem_self]
     rw [e1] at this
     exact this
    ·rw [Bool.not_eq_true', ← Bool.not_eq_true]
     exact fun q => hq (Axw.1 q)
theorem A8t {e : GG} (h : Af9 e) {code : List UInt8} {st0 : B0} {g : B0} (hg : Fok e.Classes g) (x : List Int × Int) (hx : x.1.length ≤ 1048576) :
  ∀ (ts : List Nat) (i : Nat) (s : St) (R : LX), x.1.drop i = ints ts → Atz e code st0 s → (∀ t ∈ ts, t < code.length) → An4 code.length s R →
   ∃ o, Aa4 (Aet e (g, 0) x) (R.Taken, R.Aeg, R.Has, R.Frame, (i : Int)) = some o ∧
    if (Ah5 e.Classes g s ts).2.1 = 0 then ∃ R', o = .inr (R'.Taken, R'.Aeg, R'.Has, R'.Frame) ∧ An4 code.length (Ah5 e.Classes g s ts).2.2 R' else ∃ R', o = .inl ((Ah5 e.Classes g s ts).1, (Ah5 e.Classes g s ts).2.1, R')
 | [], i, s, R, hd, I, _, hR => by
  have hi : x.1.length ≤ i := by
   unfold ints at hd
   rw [List.map_nil, List.drop_eq_nil_iff] at hd
   exact hd
  refine ⟨_, Ada (r := .inr (R.Taken, R.Aeg, R.Has, R.Frame)) ?_, ?_⟩
  ·unfold Aet
   dsimp only
   rw [A7 (by rw [AS]; omega)]
  ·unfold Ah5
   rw [Bu rfl]
   exact ⟨R, rfl, hR⟩
 | t :: ts, i, s, R, hd, I, ht, hR => by
  have hi : i < x.1.length := by
   rcases Nat.lt_or_ge i x.1.length with q | q
   ·exact q
   ·rw [List.drop_eq_nil_iff.2 q] at hd; cases hd
  rw [List.drop_eq_getElem_cons hi] at hd
  unfold ints at hd
  rw [List.map_cons, List.cons.injEq] at hd
  obtain ⟨hd1, hd2⟩ := hd
  obtain ⟨R', hh, hR'⟩ := AIy h hR I.fok (Nat.le_of_lt (ht t (by simp))) hg
  have hb : Aet e (g, 0) x (R.Taken, R.Aeg, R.Has, R.Frame, (i : Int)) = if (Aiv e.Classes s t g).2 ≠ 0 then some (.inr (.inl ((t : Int), (Aiv e.Classes s t g).2, R'))) else some (.inl (R'.Taken, R'.Aeg, R'.Has, R'.Frame, ((i + 1 : Nat) : Int))) := by
   unfold Aet
   dsimp only
   rw [Bu (by rw [AS]; omega), Ac8 hi, hd1, AQg, show (⟨R.Has, R.Frame, R.Aeg, R.Taken⟩ : LX) = R from rfl, show (⟨g.Locals, g.Height, g.Slots⟩ : B0) = g from rfl, hh, AQg]
   dsimp only
   by_cases hq : (Aiv e.Classes s t g).2 ≠ 0
   ·rw [Bu hq, Bu (by rw [Aas]; exact hq), AQg]
   ·rw [A7 hq, A7 (by rw [Aas]; exact hq), wr1 (by omega)]
  unfold Ah5
  by_cases hq : (Aiv e.Classes s t g).2 ≠ 0
  ·rw [Bu hq] at hb ⊢
   refine ⟨_, Ada hb, ?_⟩
   dsimp only
   rw [A7 hq]
   exact ⟨R', rfl⟩
  ·rw [A7 hq] at hb ⊢
   obtain ⟨a1, a2, a3, f, a4, a5⟩ := A7s h I (ht t (by simp)) hg (Classical.not_not.1 hq)
   obtain ⟨o, h1, h2⟩ := A8t h hg x hx ts (i + 1) _ R' hd2 a1 (fun y hy => ht y (by simp [hy])) hR'
   exact ⟨o, by rw [Afd hb]; exact h1, h2⟩
end Go.Proofs.YtfcpkcehecmcpaaGreat
namespace Go.Proofs.YtfcpkcehecmcpaaGreat
open Go Go.RowKit Go.Pv
theorem Ay4 {S R : Type} (n : Nat) {body : S → Option (S ⊕ R)} (I : Nat → S → Prop) {Post : R → Prop} (hs : ∀ i s, i < n → I i s → (∃ s', body s = some (.inl s') ∧ I (i + 1) s') ∨ (∃ r, body s = some (.inr r) ∧ Post r)) (he : ∀ s, I n s → ∃ r, body s = some (.inr r) ∧ Post r) : ∀ (k i : Nat) (s : S), i + k = n → I i s → ∃ r, Aa4 body s = some r ∧ Post r
 | 0, i, s, hi, h => by
  have : i = n := by omega
  subst this
  obtain ⟨r, h1, h2⟩ := he s h
  exact ⟨r, Ada h1, h2⟩
 | k + 1, i, s, hi, h => by
  rcases hs i s (by omega) h with ⟨s', h1, h2⟩ | ⟨r, h1, h2⟩
  ·rw [Afd h1]
   exact Ay4 n I hs he k (i + 1) s' (by omega) h2
  ·exact ⟨r, Ada h1, h2⟩
structure AJ0 (l : List BV) (ps : List UInt8) (n : Int) (f : B0) : Prop where
 fok : Fok l f
 loc : f.Locals = n
 hgt : f.Height = 0
 par : ps.length ≤ n
 few : ps.length ≤ 8
 max : n ≤ 16
 slots : ∀ j (h : j < 24), f.Slots[j] = (ps[j]?).getD 0
theorem A9i (l : List BV) (ps : List UInt8) (n : Int) : ∃ r, Ags l ps n = some r ∧ (r.2 = 0 → AJ0 l ps n r.1) := by
 unfold Ags Alu
 by_cases h1 : n < 0
 ·rw [Bu (by rw [AS]; exact h1), AQg, Bu (by simp)]
  exact ⟨_, rfl, fun q => by cases q⟩
 rw [A7 (by rw [AS]; exact h1)]
 by_cases h2 : n > 16
 ·rw [Bu (by rw [AS]; exact h2), AQg, Bu (by simp)]
  exact ⟨_, rfl, fun q => by cases q⟩
 rw [A7 (by rw [AS]; exact h2), AQg, A7 (by simp)]
 by_cases h3 : (ps.length : Int) > 8
 ·rw [Bu (by rw [AS]; exact h3)]
  exact ⟨_, rfl, fun q => by cases q⟩
 rw [A7 (by rw [AS]; exact h3)]
 by_cases h4 : (ps.length : Int) > n
 ·rw [Bu (by rw [AS]; exact h4)]
  exact ⟨_, rfl, fun q => by cases q⟩
 rw [A7 (by rw [AS]; exact h4)]
 dsimp only
 obtain ⟨o, ho, hP⟩ := Ay4 ps.length (body := Afn l ps) (fun i s => s.2 = (i : Int) ∧ (∀ j (h : j < 24), s.1[j] = if j < i then (ps[j]?).getD 0 else 0) ∧ (∀ j, j < i → tv l ((ps[j]?).getD 0) = true))
  (Post := fun o => match o with
   | .inl r => r.2 ≠ 0
   | .inr v => (∀ j (h : j < 24), v[j] = (ps[j]?).getD 0) ∧ Axi l v) (fun i s hi hI => by
   obtain ⟨v, k⟩ := s
   obtain ⟨q1, q2, q3⟩ := hI
   dsimp only at q1 q2
   subst q1
   unfold Afn
   dsimp only
   rw [Bu (by rw [AS]; omega), Ac8 hi, AQg, A35, AQg]
   rcases hst : st l ps[i] with _ | _
   ·rw [Bu (by simp)]
    exact Or.inr ⟨_, rfl, by dsimp only; omega⟩
   ·rw [A7 (by simp), Apk _ _ (by omega), AQg, wr1 (by omega)]
    refine Or.inl ⟨_, rfl, rfl, fun j hj => ?_, fun j hj => ?_⟩
    ·dsimp only
     rw [Au1 _ _ _ _ hj, q2 j hj]
     by_cases hij : i = j
     ·subst hij
      rw [Bu rfl, Bu (by omega), AQj hi, AQh]
     ·rw [A7 hij]
      by_cases hlt : j < i
      ·rw [Bu hlt, Bu (by omega)]
      ·rw [A7 hlt, A7 (by omega)]
    ·by_cases hij : j = i
     ·subst hij
      rw [AQj hi, AQh]
      unfold st at hst
      rw [ARe] at hst
      exact hst.1
     ·exact q3 j (by omega)) (fun s hI => by
   obtain ⟨v, k⟩ := s
   obtain ⟨q1, q2, q3⟩ := hI
   dsimp only at q1 q2
   subst q1
   unfold Afn
   dsimp only
   rw [A7 (by rw [AS]; omega)]
   have hv : ∀ j (h : j < 24), v[j] = (ps[j]?).getD 0 := by
    intro j hj
    rw [q2 j hj]
    by_cases hlt : j < ps.length
    ·rw [Bu hlt]
    ·rw [A7 hlt, List.getElem?_eq_none (by omega)]; rfl
   refine ⟨_, rfl, hv, fun j hj => ?_⟩
   rw [hv j hj]
   by_cases hlt : j < ps.length
   ·exact q3 j hlt
   ·rw [List.getElem?_eq_none (by omega)]
    exact Atj l) ps.length 0 (Vector.replicate 24 (0 : UInt8), (0 : Int)) (by omega) ⟨rfl, fun j hj => by simp, fun j hj => by omega⟩
 rw [ho, AQg]
 rcases o with r | v
 ·exact ⟨_, rfl, fun q => absurd q hP⟩
 ·refine ⟨_, rfl, fun _ => ⟨⟨?_, fun j hj hle => ?_, hP.2⟩, rfl, rfl, by omega, by omega, by omega, hP.1⟩⟩
  ·unfold Shp
   dsimp only
   omega
  ·dsimp only at hle ⊢
   rw [hP.1 j hj, List.getElem?_eq_none (by omega)]; rfl
theorem AG6 (e : GG) (n : Int) (h : Alb e.Classes) : ∃ r, Ah1 e n = some r := by
 unfold Ah1
 rw [Avy _ h, AQg]
 by_cases h1 : ((Asy e.Classes).2 != 0) = true
 ·rw [Bu h1]; exact ⟨_, rfl⟩
 rw [A7 h1]
 by_cases h2 : decide ((e.OS.length : Int) > 64) = true
 ·rw [Bu h2]; exact ⟨_, rfl⟩
 rw [A7 h2]
 have h64 : e.OS.length ≤ 64 := by rw [AS] at h2; omega
 have hl := Ak7 (R := Int ⊕ Unit) e.OS.length (body := Aep e) (fun i => (A2v e i).map .inl) (r0 := .inr ()) (fun i hi => by
  unfold Aep A2v
  rw [Bu (by rw [AS]; omega), Ac8 hi, AQg, AQj hi, AQg]
  dsimp only
  by_cases h8 : 8 < e.OS[i].Abs.length
  ·rw [Bu (by rw [AS]; omega), Bu h8]; rfl
  ·rw [A7 (by rw [AS]; omega), A7 h8, Az6 _ _ (by omega), AQg, wr1 (by omega)]
   rcases Az7 e.Classes e.OS[i] with _ | _ <;> rfl) (by
  unfold Aep
  rw [A7 (by rw [AS]; omega)])
 rw [hl, AQg]
 rcases (((List.range e.OS.length).findSome? fun i => Option.map (Sum.inl (β := Unit)) (A2v e i)).getD (Sum.inr ())) with r | r
 ·exact ⟨_, rfl⟩
 ·dsimp only
  by_cases h3 : decide (e.Fn < 0) = true
  ·rw [Bu h3]; exact ⟨_, rfl⟩
  rw [A7 h3]
  by_cases h4 : decide (e.Fn ≥ (e.OS.length : Int)) = true
  ·rw [Bu h4]; exact ⟨_, rfl⟩
  rw [A7 h4]
  rw [AS] at h3 h4
  rw [Akd (i := e.Fn) (by omega) (by omega) ⟨[], 0⟩, AQg]
  obtain ⟨r, hr, _⟩ := A9i e.Classes (((e.OS[e.Fn.toNat]?).getD ⟨[], 0⟩ : Aa6).Abs) n
  rw [hr]
  exact ⟨_, rfl⟩
theorem AAh {n : Nat} {s : St} {R : LX} (hR : An4 n s R) (hn : n ≤ 1048576) (htk : ∀ x, s.tk x ≤ 1048576) {a size : Nat} (ha : a ≤ n) (hs : size ≤ 1048576) : Aho R (a : Int) (size : Int) = some (An1 s n a size) := by
 unfold Aho
 have hl := Ak7 (R := Bool ⊕ Unit) (n + 1) (body := Aev R (a : Int) (size : Int)) (fun x => if 0 < s.tk x ∧ x ≠ a ∧ a < x + s.tk x ∧ x < a + size then some (.inl true) else none) (r0 := .inr ()) (fun x hx => by
  unfold Aev
  have i1 := Ajb (hR.taken.2 x (by omega))
  have := htk x
  rw [Bu (by rw [AS, hR.taken.1]; omega), i1, AQg, AQg, wr1 (by omega), Aec (n := (x : Int) + (s.tk x : Int)) (by omega) (by omega), Aec (n := (a : Int) + (size : Int)) (by omega) (by omega)]
  by_cases h1 : 0 < s.tk x
  ·rw [Bu (by rw [AS]; omega)]
   by_cases h2 : x = a
   ·rw [A7 (by simp [h2]), A7 (by omega)]
   ·rw [Bu (by rw [Aas]; omega)]
    by_cases h3 : a < x + s.tk x
    ·rw [Bu (by rw [AS]; omega)]
     by_cases h4 : x < a + size
     ·rw [Bu (by rw [AS]; omega), Bu ⟨h1, h2, h3, h4⟩]
     ·rw [A7 (by rw [AS]; omega), A7 (by omega)]
    ·rw [A7 (by rw [AS]; omega), A7 (by omega)]
  ·rw [A7 (by rw [AS]; omega), A7 (by omega)]) (by
  unfold Aev
  rw [A7 (by rw [AS, hR.taken.1]; omega)])
 rw [hl, AQg]
 rcases hf : (List.range (n + 1)).findSome? (fun x => if 0 < s.tk x ∧ x ≠ a ∧ a < x + s.tk x ∧ x < a + size then some (Sum.inl true : Bool ⊕ Unit) else none) with _ | r
 ·have : An1 s n a size = false := by
   rw [Axa]
   intro x hx h1 h2 h3 h4
   have := (List.findSome?_eq_none_iff.1 hf) x (by rw [AQt]; omega)
   rw [Bu ⟨h1, h2, h3, h4⟩] at this
   cases this
  rw [this]; rfl
 ·obtain ⟨x, hx, hr⟩ := List.exists_of_findSome?_eq_some hf
  have : An1 s n a size = true := by
   unfold An1
   rw [List.any_eq_true]
   refine ⟨x, hx, ?_⟩
   rw [AS]
   by_cases q : 0 < s.tk x ∧ x ≠ a ∧ a < x + s.tk x ∧ x < a + size
   ·exact q
   ·rw [A7 q] at hr; cases hr
  rw [this]
  split at hr
  ·cases hr; rfl
  ·cases hr
theorem Atz.AOv {e : GG} {code : List UInt8} {st0 : B0} {s : St} (I : Atz e code st0 s) (x : Nat) : s.tk x ≤ 6 := by
 rcases Nat.eq_zero_or_pos (s.tk x) with q | q
 ·omega
 ·obtain ⟨h1, h2, h3⟩ := I.tk x q
  rw [h3]
  unfold siz
  have := A2n (Acv code x).1.Op
  split <;> omega
theorem A5g {code : List UInt8} (hl : code.length ≤ big) {a : Nat} (ha : a < code.length) : Ag2 code (a : Int) = some (Acv code a) ∧ Am4 code (a : Int) = some (Acv code a) := by
 have : Acv code a = dec code a code[a] := by
  unfold Acv
  rw [AQj ha]
 rw [this]
 exact ⟨AKm code hl a ha, AJl code hl a ha⟩
theorem A52 {code : List UInt8} {a : Nat} (h : (Acv code a).2 = 0) (hj : Ala (Acv code a).1.Op = true) : 0 ≤ (Acv code a).1.A := by
 have hk := (Apr h).2.2.2.2
 unfold Acv at *
 rw [hk] at h ⊢
 generalize (match code[a]? with
  | none => ((⟨0, 0, 0, 0⟩ : CO), (51 : Int))
  | some op => dec code a op).1.Op = op at *
 dsimp only at *
 unfold dec at *
 by_cases h0 : siz op = 0
 ·rw [Bu h0] at h; cases h
 rw [A7 h0] at h ⊢
 by_cases h1 : code.length < a + siz op
 ·rw [Bu h1] at h; cases h
 rw [A7 h1] at h ⊢
 dsimp only at *
 split at h
 ·cases h
 ·rename_i q
  rw [A7 q]
  dsimp only
  unfold sgn
  have hw : (wid op).1 ≠ 4 := by
   unfold Ala at hj
   rw [Bool.or_eq_true, AS, AS] at hj
   unfold wid
   rcases hj with q | q <;> simp [q]
  rw [A7 (by intro q; exact hw q.1)]
  omega
end Go.Proofs.YtfcpkcehecmcpaaGreat
namespace Go.Proofs.YtfcpkcehecmcpaaGreat
open Go Go.RowKit Go.Pv
theorem An4.off {n : Nat} {s : St} {R : LX} (h : An4 n s R) {a : Nat} (ha : a ≤ n) : An4 n (off s a) ⟨R.Has, R.Frame, R.Aeg.set a false, R.Taken⟩ := by
 refine ⟨h.has, h.frame, ⟨by rw [AQn]; exact h.fresh.1, fun b hb => ?_⟩, h.taken⟩
 unfold Proofs.YtfcpkcehecmcpaaGreat.off
 dsimp only
 rw [Atm h.fresh.1 ha]
 by_cases q : b = a
 ·rw [Bu q, q, Ah4]
 ·rw [A7 q, upd_ne _ _ q]; exact h.fresh.2 b hb
theorem An4.tk {n : Nat} {s : St} {R : LX} (h : An4 n s R) {a : Nat} (ha : a ≤ n) (k : Nat) : An4 n (Proofs.YtfcpkcehecmcpaaGreat.lay s a k) ⟨R.Has, R.Frame, R.Aeg, R.Taken.set a (k : Int)⟩ := by
 refine ⟨h.has, h.frame, h.fresh, ⟨by rw [AQn]; exact h.taken.1, fun b hb => ?_⟩⟩
 unfold Proofs.YtfcpkcehecmcpaaGreat.lay
 dsimp only
 rw [Atm h.taken.1 ha]
 by_cases q : b = a
 ·rw [Bu q, q, Ah4]
 ·rw [A7 q, upd_ne _ _ q]; exact h.taken.2 b hb
theorem ALh (op : UInt8) : siz op ≤ 6 := by
 unfold siz
 have := A2n op
 split <;> omega
theorem A8b {code : List UInt8} {a : Nat} (h : ¬ a < code.length) : Acv code a = (⟨0, 0, 0, 0⟩, 51) := by
 unfold Acv
 rw [List.getElem?_eq_none (by omega)]
theorem AFj {e : GG} (h : Af9 e) {code : List UInt8} (hl : code.length ≤ 4096) {st0 : B0} {s : St} {R : LX} (I : Inv e code st0 s) (hR : An4 code.length s R) {a : Nat} (ha : s.new a = true) :
  ∃ R', Ai1 R e code (a : Int) = some ((Agz e code s a).1, (Agz e code s a).2.1, R') ∧ ((Agz e code s a).2.1 = 0 → An4 code.length (Agz e code s a).2.2 R') := by
 obtain ⟨f, hf⟩ := Auj (I.new a ha)
 have hfok := I.fok a f hf
 have han : a ≤ code.length := by rcases I.dom a (I.new a ha) with q | q <;> omega
 unfold Ai1 Agz
 rw [Ajb (hR.fresh.2 a han), AQg, ARc, hf, AQh]
 by_cases hn : a < code.length
 ·rw [A7 (by rw [JY]; omega), (A5g (show code.length ≤ big by simp only [big]; omega) hn).1, AQg]
  by_cases h1 : (Acv code a).2 ≠ 0
  ·rw [Bu (by rw [Aas]; exact h1), Bu h1]
   exact ⟨_, rfl, fun q => absurd q h1⟩
  rw [A7 (by rw [Aas]; exact h1), A7 h1, Amg, AQg]
  have h1' := Apr (Classical.not_not.1 h1)
  rw [AAh (hR.off han) (by omega) (fun x => Nat.le_trans (I.AOv x) (by omega)) han (Nat.le_trans (ALh _) (by omega)), AQg]
  by_cases h2 : An1 (off s a) code.length a (siz (Acv code a).1.Op) = true
  ·rw [Bu h2, Bu h2]
   exact ⟨_, rfl, fun q => by cases q⟩
  rw [A7 h2, A7 h2, Ajb (hR.taken.2 a han), AQg, Ajb (hR.frame.2 a han f hf), AQg, show (⟨e.Classes, e.OS, e.Fn⟩ : GG) = e from rfl,
   show (⟨(Acv code a).1.At, (Acv code a).1.Op, (Acv code a).1.A, (Acv code a).1.B⟩ : CO) = (Acv code a).1 from rfl, AFr h hfok, AQg]
  by_cases h3 : (Aj4 e f (Acv code a).1).2 ≠ 0
  ·rw [Bu (by rw [Aas]; exact h3), Bu h3]
   exact ⟨_, rfl, fun q => absurd q h3⟩
  have h3' := Classical.not_not.1 h3
  rw [A7 (by rw [Aas]; exact h3), A7 h3, AG7 h1'.2.1 h1'.2.2.2.1 (by omega) (A52 (Classical.not_not.1 h1)), AQg]
  by_cases h4 : (onV (Acv code a).1 code.length).2 ≠ 0
  ·dsimp only
   rw [Bu (by rw [Aas]; exact h4), Bu h4]
   exact ⟨_, rfl, fun q => absurd q h4⟩
  have h4' := Classical.not_not.1 h4
  obtain ⟨on1, on2⟩ := A08 h1'.2.1 h1'.2.2.2.1 (by omega) h4'
  have happ := Aw2 h hfok (Acv code a).1 h3'
  rw [A7 h4]
  dsimp only
  rw [A7 (by rw [Aas]; exact h4)]
  have I1 : Atz e code st0 (lay (off s a) a (siz (Acv code a).1.Op)) := A45 I ha (Classical.not_not.1 h1) (by simpa using h2)
  have hR1 : An4 code.length (lay (off s a) a (siz (Acv code a).1.Op)) ⟨R.Has, R.Frame, R.Aeg.set a false, R.Taken.set a (siz (Acv code a).1.Op : Int)⟩ := (hR.off han).tk han _
  have hx8 : (ints (onV (Acv code a).1 code.length).1).length ≤ 1048576 := by
   rw [on1]
   unfold ints Adv
   rw [AQl, AQk, AQk]
   split <;> split <;> split <;> simp
  obtain ⟨o, ho1, ho2⟩ := A8t h happ.1 (ints (onV (Acv code a).1 code.length).1, (onV (Acv code a).1 code.length).2) hx8 (onV (Acv code a).1 code.length).1 0 _ _ (by rw [List.drop_zero]) I1 (by rw [on1]; exact on2) hR1
  have hpair : (Aj4 e f (Acv code a).1) = ((Aj4 e f (Acv code a).1).1, (0 : Int)) := Prod.ext rfl h3'
  rw [hpair]
  rw [show ((0 : Nat) : Int) = 0 from rfl] at ho1
  dsimp only at ho1 ⊢
  rw [ho1, AQg]
  by_cases hz : (Ah5 e.Classes (Aj4 e f (Acv code a).1).1 (lay (off s a) a (siz (Acv code a).1.Op)) (onV (Acv code a).1 code.length).1).2.1 = 0
  ·rw [Bu hz] at ho2
   obtain ⟨R', rfl, hR'⟩ := ho2
   refine ⟨R', ?_, fun _ => hR'⟩
   dsimp only
   rw [hz, A5p _ _ hz]
  ·rw [A7 hz] at ho2
   obtain ⟨R', rfl⟩ := ho2
   exact ⟨R', rfl, fun q => absurd q hz⟩
 ·rw [Bu (by rw [JY]; omega), A8b hn]
  dsimp only
  rw [Bu (by omega)]
  exact ⟨_, rfl, fun q => by cases q⟩
def Axl (s : St) (n : Nat) : Int := match Aq8 s n with
 | none => -1
 | some a => (a : Int)
theorem AF4 {n : Nat} {s : St} {R : LX} (hR : An4 n s R) (hn : n ≤ 1048576) : Ai5 R = some (Axl s n) := by
 unfold Ai5
 have hl := Ak7 (R := Int ⊕ Unit) (n + 1) (body := Afg R) (fun x => if s.new x = true then some (.inl (x : Int)) else none) (r0 := .inr ()) (fun x hx => by
  unfold Afg
  rw [Bu (by rw [AS, hR.fresh.1]; omega), Ajb (hR.fresh.2 x (by omega)), AQg, wr1 (by omega)]
  rcases s.new x with _ | _ <;> rfl) (by
  unfold Afg
  rw [A7 (by rw [AS, hR.fresh.1]; omega)])
 rw [hl, AQg]
 unfold Axl Aq8
 have key : ∀ L : List Nat, L.findSome? (fun x => if s.new x = true then some (Sum.inl (x : Int) : Int ⊕ Unit) else none) = (L.find? s.new).map fun a => Sum.inl (a : Int) := by
  intro L
  induction L with
  | nil => rfl
  | cons x L ih =>
   rw [List.findSome?_cons, List.find?_cons]
   rcases s.new x with _ | _
   ·rw [A7 (by simp)]; exact ih
   ·rw [Bu rfl]; rfl
 rw [key]
 rcases (List.range (n + 1)).find? s.new with _ | a
 ·rfl
 ·rfl
theorem ACz {e : GG} (h : Af9 e) {code : List UInt8} (hl : code.length ≤ 4096) {st0 : B0} : ∀ (k : Nat) (s : St) (R : LX) (r : Int × Int × St), Inv e code st0 s → An4 code.length s R → A4d e code k s = some r →
  ∃ o, Aa4 (Agc e code) (R.Has, R.Frame, R.Aeg, R.Taken, Axl s code.length) = some o ∧ if r.2.1 = 0 then ∃ R', o = .inr (R'.Has, R'.Frame, R'.Aeg, R'.Taken) ∧ An4 code.length r.2.2 R' else o = .inl ([], r.1, r.2.1)
 | 0, s, R, r, _, _, hr => by cases hr
 | k + 1, s, R, r, I, hR, hr => by
  unfold A4d at hr
  unfold Axl
  rcases hq : Aq8 s code.length with _ | a
  ·rw [hq] at hr
   dsimp only at hr ⊢
   cases hr
   refine ⟨_, Ada (r := .inr (R.Has, R.Frame, R.Aeg, R.Taken)) ?_, ?_⟩
   ·unfold Agc
    dsimp only
    rw [A7 (by simp)]
   ·dsimp only
    rw [Bu rfl]
    exact ⟨R, rfl, hR⟩
  ·rw [hq] at hr
   dsimp only at hr ⊢
   obtain ⟨R', h1, h2⟩ := AFj h hl I hR (Asx hq).1
   by_cases h0 : (Agz e code s a).2.1 ≠ 0
   ·rw [Bu h0] at hr
    cases hr
    refine ⟨_, Ada (r := .inl ([], (Agz e code s a).1, (Agz e code s a).2.1)) ?_, ?_⟩
    ·unfold Agc
     dsimp only
     rw [Bu (by rw [AS]; omega), show (⟨R.Has, R.Frame, R.Aeg, R.Taken⟩ : LX) = R from rfl, show (⟨e.Classes, e.OS, e.Fn⟩ : GG) = e from rfl, h1, AQg]
     dsimp only
     rw [Bu (by rw [Aas]; exact h0)]
    ·rw [A7 h0]
   ·rw [A7 h0] at hr
    have h0' := Classical.not_not.1 h0
    have hR' := h2 h0'
    obtain ⟨J, _⟩ := A4t h I (Asx hq).1 h0'
    obtain ⟨o, o1, o2⟩ := ACz h hl k _ R' r J hR' hr
    refine ⟨o, ?_, o2⟩
    rw [Afd (s' := (R'.Has, R'.Frame, R'.Aeg, R'.Taken, Axl (Agz e code s a).2.2 code.length))]
    ·exact o1
    ·unfold Agc
     dsimp only
     rw [Bu (by rw [AS]; omega), show (⟨R.Has, R.Frame, R.Aeg, R.Taken⟩ : LX) = R from rfl, show (⟨e.Classes, e.OS, e.Fn⟩ : GG) = e from rfl, h1, AQg]
     dsimp only
     rw [A7 (by rw [Aas]; exact h0), show (⟨R'.Has, R'.Frame, R'.Aeg, R'.Taken⟩ : LX) = R' from rfl, AF4 hR' (by omega), AQg]
def Ai3 (s : St) (n : Nat) : List Ac9 := (List.range n).filterMap fun a => (s.fr a).map fun f => ⟨(a : Int), false, f⟩
theorem Ax6 (s : St) (i : Nat) : Ai3 s (i + 1) = Ai3 s i ++ match s.fr i with
  | none => []
  | some f => [⟨(i : Int), false, f⟩] := by
 unfold Ai3
 rw [AQz, List.filterMap_append]
 congr 1
 rcases h : s.fr i with _ | f
 ·simp [h]
 ·simp [h]
theorem Axp (s : St) : ∀ i, (Ai3 s i).length ≤ i
 | 0 => by simp [Ai3]
 | i + 1 => by
  have := Axp s i
  rw [Ax6, AQk]
  split <;> simp <;> omega
theorem AJc {code : List UInt8} (hl : code.length ≤ 4096) {s : St} {R : LX} (hR : An4 code.length s R) : Aa4 (Ag7 code (R.Has, R.Frame, R.Aeg, R.Taken)) (([] : List Ac9), 0) = some (Ai3 s code.length) := by
 refine Akf code.length (fun i => (Ai3 s i, (i : Int))) (fun i hi => ?_) ?_ rfl
 ·unfold Ag7
  dsimp only
  rw [Bu (by rw [AS]; omega), Ajb (hR.has.2 i (by omega)), AQg, Ax6, wr1 (by omega)]
  rcases hf : s.fr i with _ | f
  ·rw [A7 (by simp)]; simp
  ·have := Axp s i
   rw [Bu (by rfl), Ajb (hR.frame.2 i (by omega) f hf), AQg, Ae6 (by simp; omega), AQg]
 ·unfold Ag7
  dsimp only
  rw [A7 (by rw [AS]; omega)]
end Go.Proofs.YtfcpkcehecmcpaaGreat
namespace Go.Proofs.YtfcpkcehecmcpaaGreat
open Go Go.RowKit Go.Pv
structure Ao9 (e : GG) (code : List UInt8) (s : St) (S : Aae) : Prop where
 env : S.e = e
 code : S.code = code
 fr : ∀ k : Int, Adq S.frames k = if 0 ≤ k then s.fr k.toNat else none
 frn : (S.frames.map Prod.fst).Nodup
 fresh : ∀ k : Int, (Adq S.fresh k).isSome = true ↔ (0 ≤ k ∧ s.new k.toNat = true)
 Axt : (S.fresh.map Prod.fst).Nodup
 taken : ∀ b x : Int, Adq S.taken b = some x ↔ ∃ y : Nat, x = y ∧ 0 < s.tk y ∧ (y : Int) ≤ b ∧ b < y + s.tk y
theorem Ao9.lay {e : GG} {code : List UInt8} {s : St} {S : Aae} (h : Ao9 e code s S) (a : Nat) (f : B0) (w : Int) : Ao9 e code ⟨upd s.fr a (some f), upd s.new a true, s.tk⟩ ⟨S.e, S.code, Ae7 S.frames (a : Int) f, Ae7 S.fresh (a : Int) (), S.taken, w⟩ := by
 refine ⟨h.env, h.code, fun k => ?_, Aua h.frn _ _, fun k => ?_, Aua h.Axt _ _, h.taken⟩
 ·dsimp only
  rw [Apy, h.fr k]
  by_cases hk : k = (a : Int)
  ·rw [Bu hk, Bu (by omega), hk, ARc, Ah4]
  ·rw [A7 hk]
   by_cases h0 : 0 ≤ k
   ·rw [Bu h0, Bu h0, upd_ne _ _ (by omega)]
   ·rw [A7 h0, A7 h0]
 ·dsimp only
  rw [Apy]
  by_cases hk : k = (a : Int)
  ·rw [Bu hk, hk, ARc, Ah4]
   simp
  ·rw [A7 hk, h.fresh k]
   constructor
   ·rintro ⟨h0, h1⟩
    exact ⟨h0, by rw [upd_ne _ _ (by omega)]; exact h1⟩
   ·rintro ⟨h0, h1⟩
    rw [upd_ne _ _ (by omega)] at h1
    exact ⟨h0, h1⟩
theorem AE0 {e : GG} (h : Af9 e) {code : List UInt8} {s : St} {S : Aae} (hS : Ao9 e code s S) (hs : ∀ a f, s.fr a = some f → Fok e.Classes f) (a : Nat) {g : B0} (hg : Fok e.Classes g) :
  ∃ S', Akz S (a : Int) g = some ((Aiv e.Classes s a g).2, S') ∧ Ao9 e code (Aiv e.Classes s a g).1 S' ∧ ((Aiv e.Classes s a g).2 ≠ 0 → S'.Ade = a) ∧ ((Aiv e.Classes s a g).2 = 0 → S'.Ade = S.Ade) := by
 have i1 := hS.fr (a : Int)
 rw [Bu (by omega), ARc] at i1
 unfold Akz Aiv
 rw [i1]
 rcases hf : s.fr a with _ | f
 ·rw [A7 (by simp), AQg]
  dsimp only
  rw [Bu (by rfl)]
  exact ⟨_, rfl, hS.lay a g _, fun q => absurd rfl q, fun _ => rfl⟩
 ·rw [Bu (by rfl)]
  simp only [AQh]
  rw [show (⟨f.Locals, f.Height, f.Slots⟩ : B0) = f from rfl, show (⟨g.Locals, g.Height, g.Slots⟩ : B0) = g from rfl, hS.env, AD1 h.good (hs a f hf) hg, AQg]
  by_cases hm : (Ahw e.Classes f g).2 ≠ 0
  ·rw [Bu (by rw [Aas]; exact hm), Bu hm, AQg]
   exact ⟨_, rfl, ⟨rfl, hS.code, hS.fr, hS.frn, hS.fresh, hS.Axt, hS.taken⟩, fun _ => rfl, fun q => absurd q hm⟩
  ·rw [A7 (by rw [Aas]; exact hm), A7 hm, AQg]
   dsimp only
   rw [A7 (by simp)]
   by_cases hq : (Ahw e.Classes f g).1 = f
   ·rw [A7 (by rw [Axw.2 hq]; simp), Bu hq]
    exact ⟨_, rfl, ⟨rfl, hS.code, hS.fr, hS.frn, hS.fresh, hS.Axt, hS.taken⟩, fun q => absurd rfl q, fun _ => rfl⟩
   ·rw [Bu, A7 hq]
    ·have := hS.lay a (Ahw e.Classes f g).1 S.Ade
     rw [hS.env] at this
     exact ⟨_, rfl, this, fun q => absurd rfl q, fun _ => rfl⟩
    ·rw [Bool.not_eq_true', ← Bool.not_eq_true]
     exact fun q => hq (Axw.1 q)
theorem A6l {e : GG} (h : Af9 e) {code : List UInt8} {st0 : B0} {g : B0} (hg : Fok e.Classes g) (x : List Int) (hx : x.length ≤ 1048576) :
  ∀ (ts : List Nat) (i : Nat) (s : St) (S : Aae), x.drop i = ints ts → Atz e code st0 s → (∀ t ∈ ts, t < code.length) → Ao9 e code s S →
   ∃ o, Aa4 (Afs (g, 0) x) (S.e.Classes, S.e.OS, S.e.Fn, S.code, S.Ade, S.frames, S.fresh, S.taken, (i : Int)) = some o ∧
    if (Ah5 e.Classes g s ts).2.1 = 0 then ∃ S', o = .inr (S'.e.Classes, S'.e.OS, S'.e.Fn, S'.code, S'.Ade, S'.frames, S'.fresh, S'.taken) ∧ Ao9 e code (Ah5 e.Classes g s ts).2.2 S' else ∃ S', o = .inl ((Ah5 e.Classes g s ts).2.1, S') ∧ S'.Ade = (Ah5 e.Classes g s ts).1 ∧ S'.e = e ∧ S'.code = code
 | [], i, s, S, hd, I, _, hS => by
  have hi : x.length ≤ i := by
   unfold ints at hd
   rw [List.map_nil, List.drop_eq_nil_iff] at hd
   exact hd
  refine ⟨_, Ada (r := .inr (S.e.Classes, S.e.OS, S.e.Fn, S.code, S.Ade, S.frames, S.fresh, S.taken)) ?_, ?_⟩
  ·unfold Afs
   dsimp only
   rw [A7 (by rw [AS]; omega)]
  ·unfold Ah5
   rw [Bu rfl]
   exact ⟨S, rfl, hS⟩
 | t :: ts, i, s, S, hd, I, ht, hS => by
  have hi : i < x.length := by
   rcases Nat.lt_or_ge i x.length with q | q
   ·exact q
   ·rw [List.drop_eq_nil_iff.2 q] at hd; cases hd
  rw [List.drop_eq_getElem_cons hi] at hd
  unfold ints at hd
  rw [List.map_cons, List.cons.injEq] at hd
  obtain ⟨hd1, hd2⟩ := hd
  obtain ⟨S', hh, hS', hw1, hw2⟩ := AE0 h hS I.fok t hg
  have hb : Afs (g, 0) x (S.e.Classes, S.e.OS, S.e.Fn, S.code, S.Ade, S.frames, S.fresh, S.taken, (i : Int)) = if (Aiv e.Classes s t g).2 ≠ 0 then some (.inr (.inl ((Aiv e.Classes s t g).2, S'))) else some (.inl (S'.e.Classes, S'.e.OS, S'.e.Fn, S'.code, S'.Ade, S'.frames, S'.fresh, S'.taken, ((i + 1 : Nat) : Int))) := by
   unfold Afs
   dsimp only
   rw [Bu (by rw [AS]; omega), Ac8 hi, hd1, AQg, show (⟨(⟨S.e.Classes, S.e.OS, S.e.Fn⟩ : GG), S.code, S.frames, S.fresh, S.taken, S.Ade⟩ : Aae) = S from rfl, show (⟨g.Locals, g.Height, g.Slots⟩ : B0) = g from rfl, hh, AQg]
   dsimp only
   by_cases hq : (Aiv e.Classes s t g).2 ≠ 0
   ·rw [Bu hq, Bu (by rw [Aas]; exact hq)]
   ·rw [A7 hq, A7 (by rw [Aas]; exact hq), wr1 (by omega)]
  unfold Ah5
  by_cases hq : (Aiv e.Classes s t g).2 ≠ 0
  ·rw [Bu hq] at hb ⊢
   refine ⟨_, Ada hb, ?_⟩
   dsimp only
   rw [A7 hq]
   exact ⟨S', rfl, hw1 hq, hS'.env, hS'.code⟩
  ·rw [A7 hq] at hb ⊢
   obtain ⟨a1, a2, a3, f, a4, a5⟩ := A7s h I (ht t (by simp)) hg (Classical.not_not.1 hq)
   obtain ⟨o, h1, h2⟩ := A6l h hg x hx ts (i + 1) _ S' hd2 a1 (fun y hy => ht y (by simp [hy])) hS'
   exact ⟨o, by rw [Afd hb]; exact h1, h2⟩
theorem AGz {e : GG} {code : List UInt8} {s : St} {S : Aae} (hS : Ao9 e code s S) {n a k : Nat} {i : CO} (hA : i.At = a) (hk : siz i.Op = k) (hk0 : 0 < k) (hn : a + k ≤ n) (hn2 : n ≤ 1048576) (hdom : ∀ x, 0 < s.tk x → x ≤ n) (hsame : 0 < s.tk a → s.tk a = k) :
  ∃ S', Ald S i = some (!An1 s n a k, S') ∧ S'.e = e ∧ S'.code = code ∧ S'.Ade = S.Ade ∧ (An1 s n a k = false → Ao9 e code (Proofs.YtfcpkcehecmcpaaGreat.lay s a k) S') := by
 have hover : An1 s n a k = false ↔ ∀ j, j < k → ∀ x : Int, Adq S.taken ((a : Int) + j) = some x → x = a := by
  rw [Axa]
  constructor
  ·intro h j hj x hx
   obtain ⟨y, rfl, h1, h2, h3⟩ := (hS.taken _ _).1 hx
   by_cases hya : y = a
   ·rw [hya]
   ·exact absurd (show y < a + k by omega) (h y (hdom y h1) h1 hya (by omega))
  ·intro h y hy h1 h2 h3 h4
   by_cases hle : y ≤ a
   ·have := h 0 (by omega) (y : Int) ((hS.taken _ _).2 ⟨y, rfl, h1, by omega, by omega⟩)
    omega
   ·have := h (y - a) (by omega) (y : Int) ((hS.taken _ _).2 ⟨y, rfl, h1, by omega, by omega⟩)
    omega
 have step : ∀ (T : List (Int × Int)) (j : Nat), j < k → Aeu S i (T, (a : Int) + j) = if (∃ x : Int, Adq T ((a : Int) + j) = some x ∧ x ≠ a) then some (.inr (.inl (false, ⟨S.e, S.code, S.frames, S.fresh, T, S.Ade⟩))) else some (.inl (Ae7 T ((a : Int) + j) a, (a : Int) + (j + 1 : Nat))) := by
  intro T j hj
  unfold Aeu
  rw [size_eq, Amg, AQg, hA, hk, Aec (n := (a : Int) + (k : Int)) (by omega) (by omega)]
  dsimp only
  rw [Bu (by rw [AS]; omega), Aec (by omega) (by omega)]
  rcases hx : Adq T ((a : Int) + (j : Int)) with _ | x
  ·rw [A7 (by simp), A7 (by rintro ⟨x, q, _⟩; cases q), show (a : Int) + (j : Int) + 1 = (a : Int) + ((j + 1 : Nat) : Int) by omega]
  ·rw [Bu (by rfl), AQh]
   by_cases hxa : x = a
   ·rw [A7 (by simp [hxa]), A7 (by rintro ⟨y, q, q2⟩; cases q; exact q2 hxa), show (a : Int) + (j : Int) + 1 = (a : Int) + ((j + 1 : Nat) : Int) by omega]
   ·rw [Bu (by rw [Aas]; exact hxa), Bu ⟨x, rfl, hxa⟩]
 have stop : ∀ T : List (Int × Int), Aeu S i (T, (a : Int) + k) = some (.inr (.inr T)) := by
  intro T
  unfold Aeu
  rw [size_eq, Amg, AQg, hA, hk, Aec (n := (a : Int) + (k : Int)) (by omega) (by omega)]
  dsimp only
  rw [A7 (by rw [AS]; omega)]
 have key : ∀ m j T, j + m = k → (∀ b : Int, Adq T b = if (a : Int) ≤ b ∧ b < a + j then some (a : Int) else Adq S.taken b) →
   ((∀ j', j ≤ j' → j' < k → ∀ x : Int, Adq S.taken ((a : Int) + j') = some x → x = a) ∧ ∃ T', Aa4 (Aeu S i) (T, (a : Int) + j) = some (.inr T') ∧ ∀ b : Int, Adq T' b = if (a : Int) ≤ b ∧ b < a + k then some (a : Int) else Adq S.taken b) ∨
   ((∃ j', j ≤ j' ∧ j' < k ∧ ∃ x : Int, Adq S.taken ((a : Int) + j') = some x ∧ x ≠ a) ∧ ∃ T', Aa4 (Aeu S i) (T, (a : Int) + j) = some (.inl (false, ⟨S.e, S.code, S.frames, S.fresh, T', S.Ade⟩))) := by
  intro m
  induction m with
  | zero =>
   intro j T hj hT
   have : j = k := by omega
   subst this
   exact Or.inl ⟨fun j' h1 h2 => by omega, T, Ada (stop T), hT⟩
  | succ m ih =>
   intro j T hj hT
   have hs := step T j (by omega)
   have hTj : Adq T ((a : Int) + j) = Adq S.taken ((a : Int) + j) := by rw [hT, A7 (by omega)]
   rw [hTj] at hs
   by_cases hbad : ∃ x : Int, Adq S.taken ((a : Int) + j) = some x ∧ x ≠ a
   ·rw [Bu hbad] at hs
    exact Or.inr ⟨⟨j, Nat.le_refl _, by omega, hbad⟩, T, Ada hs⟩
   ·rw [A7 hbad] at hs
    have hok : ∀ x : Int, Adq S.taken ((a : Int) + j) = some x → x = a := fun x hx => Classical.byContradiction fun q => hbad ⟨x, hx, q⟩
    rcases ih (j + 1) (Ae7 T ((a : Int) + j) a) (by omega) (fun b => by
     rw [Apy, hT b]
     by_cases hb : b = (a : Int) + j
     ·rw [Bu hb, Bu (by omega)]
     ·rw [A7 hb]
      by_cases hb2 : (a : Int) ≤ b ∧ b < a + j
      ·rw [Bu hb2, Bu (by omega)]
      ·rw [A7 hb2, A7 (by omega)]) with ⟨h1, T', h2, h3⟩ | ⟨⟨j', h1, h2, h3⟩, T', h4⟩
    ·refine Or.inl ⟨fun j' q1 q2 => ?_, T', by rw [Afd hs]; exact h2, h3⟩
     by_cases hjj : j' = j
     ·subst hjj; exact hok
     ·exact h1 j' (by omega) q2
    ·exact Or.inr ⟨⟨j', by omega, h2, h3⟩, T', by rw [Afd hs]; exact h4⟩
 unfold Ald
 rw [hA]
 rcases key k 0 S.taken (by omega) (fun b => by rw [A7 (by omega)]) with ⟨h1, T', h2, h3⟩ | ⟨⟨j, h1, h2, x, h3, h4⟩, T', h5⟩
 ·have ho : An1 s n a k = false := hover.2 fun j hj => h1 j (by omega) hj
  rw [show (a : Int) + ((0 : Nat) : Int) = a by omega] at h2
  rw [h2, AQg, ho]
  refine ⟨_, rfl, hS.env, hS.code, rfl, fun _ => ⟨hS.env, hS.code, hS.fr, hS.frn, hS.fresh, hS.Axt, fun b x => ?_⟩⟩
  dsimp only
  rw [h3 b]
  unfold Proofs.YtfcpkcehecmcpaaGreat.lay
  dsimp only
  by_cases hb : (a : Int) ≤ b ∧ b < a + k
  ·rw [Bu hb]
   constructor
   ·intro q
    cases q
    exact ⟨a, rfl, by rw [Ah4]; omega, hb.1, by rw [Ah4]; omega⟩
   ·rintro ⟨y, rfl, q1, q2, q3⟩
    by_cases hya : y = a
    ·rw [hya]
    ·rw [upd_ne _ _ hya] at q1 q3
     exact absurd (show y < a + k by omega) (Axa.1 ho y (hdom y q1) q1 hya (by omega))
  ·rw [A7 hb, hS.taken]
   constructor
   ·rintro ⟨y, rfl, q1, q2, q3⟩
    by_cases hya : y = a
    ·subst hya
     have := hsame q1
     omega
    ·exact ⟨y, rfl, by rw [upd_ne _ _ hya]; exact q1, q2, by rw [upd_ne _ _ hya]; exact q3⟩
   ·rintro ⟨y, rfl, q1, q2, q3⟩
    by_cases hya : y = a
    ·subst hya
     rw [Ah4] at q3
     omega
    ·rw [upd_ne _ _ hya] at q1 q3
     exact ⟨y, rfl, q1, q2, q3⟩
 ·have ho : An1 s n a k = true := by
   rcases hq : An1 s n a k with _ | _
   ·exact absurd (hover.1 hq j h2 x h3) h4
   ·rfl
  rw [show (a : Int) + ((0 : Nat) : Int) = a by omega] at h5
  rw [h5, AQg, ho]
  exact ⟨_, rfl, hS.env, hS.code, rfl, fun q => by cases q⟩
theorem A8c {i : CO} (h0 : Ala i.Op = true → 0 ≤ i.A) (h1 : 0 ≤ i.At) (x : Int) : x ∈ ints (Adv i) ↔ (Ala i.Op = true ∧ x = i.A) ∨ (Amy i.Op = false ∧ x = i.At + siz i.Op) := by
 obtain ⟨b, hb⟩ : ∃ b : Nat, i.At + (siz i.Op : Int) = b := ⟨(i.At + siz i.Op).toNat, by omega⟩
 unfold ints Adv
 rw [hb]
 rcases hj : Ala i.Op with _ | _
 ·rcases he : Amy i.Op with _ | _ <;> simp
 ·obtain ⟨k, hk⟩ := ARd (h0 hj)
  rw [hk]
  rcases he : Amy i.Op with _ | _
  ·by_cases hlt : k < b
   ·have : ¬ k > b := by omega
    simp [hlt, this]
   ·by_cases hgt : k > b
    ·simp [hlt, hgt, or_comm]
    ·have : k = b := by omega
     simp [this]
  ·simp
theorem Aw7 {i : CO} (h0 : Ala i.Op = true → 0 ≤ i.A) (h1 : 0 ≤ i.At) : (ints (Adv i)).Pairwise (· < ·) := by
 obtain ⟨b, hb⟩ : ∃ b : Nat, i.At + (siz i.Op : Int) = b := ⟨(i.At + siz i.Op).toNat, by omega⟩
 unfold ints Adv
 rw [hb]
 rcases hj : Ala i.Op with _ | _
 ·rcases he : Amy i.Op with _ | _ <;> simp
 ·obtain ⟨k, hk⟩ := ARd (h0 hj)
  rw [hk]
  rcases he : Amy i.Op with _ | _
  ·by_cases hlt : k < b
   ·have : ¬ k > b := by omega
    simp [hlt, this]
   ·by_cases hgt : k > b
    ·simp [hlt, hgt]
    ·simp [hlt, hgt]
  ·simp
end Go.Proofs.YtfcpkcehecmcpaaGreat
namespace Go.Proofs.YtfcpkcehecmcpaaGreat
open Go Go.RowKit Go.Pv
theorem AH5 {l : List Int} (hl : l.length ≤ 8) {r : List Int} (hr : r.Pairwise (· < ·)) (hm : ∀ a, a ∈ r ↔ a ∈ l) : ∃ x, Awg l = some x ∧ As5 x = some r := by
 obtain ⟨r', h1, h2, h3⟩ := Azf l (by omega)
 obtain ⟨x, hx, hx2⟩ := Option.bind_eq_some_iff.1 h1
 refine ⟨x, hx, ?_⟩
 rw [hx2, Arz h2 hr fun a => (h3 a).trans (hm a).symm]
theorem AD7 {e : GG} (h : Af9 e) {code : List UInt8} (hl : code.length ≤ 4096) {st0 : B0} {s : St} {S : Aae} (I : Inv e code st0 s) {a : Nat} (ha : s.new a = true) (hS : Ao9 e code (off s a) S) :
  ∃ S', Akp S (a : Int) = some ((Agz e code s a).2.1, S') ∧ S'.e = e ∧ S'.code = code ∧ ((Agz e code s a).2.1 = 0 → Ao9 e code (Agz e code s a).2.2 S') ∧ ((Agz e code s a).2.1 ≠ 0 → S'.Ade = (Agz e code s a).1) := by
 obtain ⟨f, hf⟩ := Auj (I.new a ha)
 have hfok := I.fok a f hf
 have han : a ≤ code.length := by rcases I.dom a (I.new a ha) with q | q <;> omega
 unfold Akp Agz
 rw [hf, AQh, hS.code]
 by_cases hn : a < code.length
 ·rw [A7 (by rw [JY]; omega), (A5g (show code.length ≤ big by simp only [big]; omega) hn).2, AQg]
  by_cases h1 : (Acv code a).2 ≠ 0
  ·rw [Bu (by rw [Aas]; exact h1), Bu h1]
   exact ⟨_, rfl, hS.env, rfl, fun q => absurd q h1, fun _ => rfl⟩
  rw [A7 (by rw [Aas]; exact h1), A7 h1]
  have h1' := Apr (Classical.not_not.1 h1)
  have hS0 : Ao9 e code (off s a) ⟨⟨S.e.Classes, S.e.OS, S.e.Fn⟩, code, S.frames, S.fresh, S.taken, (a : Int)⟩ := ⟨hS.env, rfl, hS.fr, hS.frn, hS.fresh, hS.Axt, hS.taken⟩
  obtain ⟨S1, t1, t2, t3, t4, t5⟩ := AGz hS0 (n := code.length) h1'.2.1 rfl h1'.2.2.1 h1'.2.2.2.1 (by omega) (fun x hx => by
   rcases I.dom x (I.tk x hx).1 with q | q <;> omega) (fun hx => (I.tk a hx).2.2)
  rw [show (⟨(Acv code a).1.At, (Acv code a).1.Op, (Acv code a).1.A, (Acv code a).1.B⟩ : CO) = (Acv code a).1 from rfl, t1, AQg]
  dsimp only
  by_cases h2 : An1 (off s a) code.length a (siz (Acv code a).1.Op) = true
  ·rw [h2, Bu (by rfl), Bu rfl]
   exact ⟨_, rfl, t2, t3, fun q => (by cases q), fun _ => t4⟩
  have h2f : An1 (off s a) code.length a (siz (Acv code a).1.Op) = false := by simpa using h2
  have hS1 := t5 h2f
  rw [h2f, A7 (show ¬ ((!(!false)) = true) by simp), A7 (show ¬ (false = true) by simp)]
  have hfr1 : Adq S1.frames (a : Int) = some f := by
   rw [hS1.fr, Bu (by omega), ARc]
   exact hf
  rw [t2, hfr1, AQh, show (⟨e.Classes, e.OS, e.Fn⟩ : GG) = e from rfl, AEx h hfok, AQg]
  by_cases h3 : (Aj4 e f (Acv code a).1).2 ≠ 0
  ·rw [Bu (by rw [Aas]; exact h3), Bu h3]
   exact ⟨_, rfl, rfl, t3, fun q => absurd q h3, fun _ => t4⟩
  have h3' := Classical.not_not.1 h3
  rw [A7 (by rw [Aas]; exact h3), A7 h3, size_eq, Amg, AQg, A0k, AQg, A12, t3]
  unfold onV
  by_cases h4 : Ala (Acv code a).1.Op = true ∧ (Acv code a).1.A ≥ code.length
  ·rw [Bu h4.1, Bu (by rw [AS]; exact h4.2), Bu h4, Bu (by simp), AQg]
   exact ⟨_, rfl, rfl, rfl, fun q => (by cases q), fun _ => t4⟩
  rw [A7 h4]
  obtain ⟨p, hp, hpm, hpl⟩ : ∃ p : List Int, (if Ala (Acv code a).1.Op = true then (if decide ((Acv code a).1.A ≥ (code.length : Int)) = true then (some (Sum.inl ((50 : Int), (⟨e, code, S1.frames, S1.fresh, S1.taken, S1.Ade⟩ : Aae)) : (Int × Aae) ⊕ List Int)) else ((app 17592186044416 ([] : List Int) ([(Acv code a).1.A] : List Int)).bind fun x573 => some (.inr (x573)))) else (some (.inr []))) = some (.inr p) ∧ (∀ x, x ∈ p ↔ Ala (Acv code a).1.Op = true ∧ x = (Acv code a).1.A) ∧ p.length ≤ 1 := by
   by_cases hj : Ala (Acv code a).1.Op = true
   ·rw [Bu hj, A7 (by rw [AS]; exact fun q => h4 ⟨hj, q⟩), Ae6 (by simp), AQg]
    exact ⟨_, rfl, fun x => by simp [hj], by simp⟩
   ·rw [A7 hj]
    exact ⟨_, rfl, fun x => by simp [hj], by simp⟩
  rw [hp, AQg]
  dsimp only
  rw [AQg, Aec (n := (a : Int) + (siz (Acv code a).1.Op : Int)) (by omega) (by omega)]
  by_cases h5 : Amy (Acv code a).1.Op = false ∧ (Acv code a).1.At + siz (Acv code a).1.Op = code.length
  ·rw [Bu (by rw [h5.1]; rfl), Bu (by rw [JY, ← h1'.2.1]; exact h5.2), Bu h5, Bu (by simp), AQg]
   exact ⟨_, rfl, rfl, rfl, fun q => (by cases q), fun _ => t4⟩
  rw [A7 h5, A7 (show ¬ ((Adv (Acv code a).1, (0 : Int)).2 ≠ 0) from fun q => q rfl)]
  obtain ⟨p2, hp2, hpm2, hpl2⟩ : ∃ p2 : List Int, (if (!Amy (Acv code a).1.Op) = true then (if ((a : Int) + (siz (Acv code a).1.Op : Int) == (code.length : Int)) = true then (some (Sum.inl ((51 : Int), (⟨e, code, S1.frames, S1.fresh, S1.taken, S1.Ade⟩ : Aae)) : (Int × Aae) ⊕ List Int)) else ((app 17592186044416 p ([(a : Int) + (siz (Acv code a).1.Op : Int)] : List Int)).bind fun x848 => some (.inr (x848)))) else (some (.inr p))) = some (.inr p2) ∧ (∀ x, x ∈ p2 ↔ x ∈ ints (Adv (Acv code a).1)) ∧ p2.length ≤ 2 := by
   have hnm := A8c (i := (Acv code a).1) (A52 (Classical.not_not.1 h1)) (by rw [h1'.2.1]; omega)
   by_cases he : Amy (Acv code a).1.Op = true
   ·rw [A7 (by simp [he])]
    refine ⟨_, rfl, fun x => ?_, by omega⟩
    rw [hpm, hnm]
    constructor
    ·exact Or.inl
    ·rintro (q | q)
     ·exact q
     ·rw [he] at q; cases q.1
   ·have he' : Amy (Acv code a).1.Op = false := by simpa using he
    rw [Bu (by simp [he']), A7 (by rw [JY, ← h1'.2.1]; exact fun q => h5 ⟨he', q⟩), Ae6 (by simp; omega), AQg]
    refine ⟨_, rfl, fun x => ?_, by simp; omega⟩
    rw [AQp, hpm, hnm, AQq, h1'.2.1]
    constructor
    ·rintro (q | q)
     ·exact Or.inl q
     ·exact Or.inr ⟨he', q⟩
    ·rintro (q | q)
     ·exact Or.inl q
     ·exact Or.inr q.2
  rw [hp2, AQg]
  dsimp only
  obtain ⟨x1, hx1, hx2⟩ := AH5 (l := p2) (by omega) (Aw7 (i := (Acv code a).1) (A52 (Classical.not_not.1 h1)) (by rw [h1'.2.1]; omega)) (fun x => (hpm2 x).symm)
  rw [hx1, AQg, hx2, AQg]
  have happ := Aw2 h hfok (Acv code a).1 h3'
  have honv : onV (Acv code a).1 code.length = (Adv (Acv code a).1, 0) := by unfold onV; rw [A7 h4, A7 h5]
  obtain ⟨_, on2⟩ := A08 h1'.2.1 h1'.2.2.2.1 (by omega) (by rw [honv])
  have I1 : Atz e code st0 (lay (off s a) a (siz (Acv code a).1.Op)) := A45 I ha (Classical.not_not.1 h1) h2f
  have hx8 : (ints (Adv (Acv code a).1)).length ≤ 1048576 := by
   unfold ints Adv
   rw [AQl, AQk, AQk]
   split <;> split <;> split <;> simp
  obtain ⟨o, ho1, ho2⟩ := A6l h happ.1 (ints (Adv (Acv code a).1)) hx8 (Adv (Acv code a).1) 0 _ _ (by rw [List.drop_zero]) I1 on2 hS1
  have hpair : (Aj4 e f (Acv code a).1) = ((Aj4 e f (Acv code a).1).1, (0 : Int)) := Prod.ext rfl h3'
  rw [hpair]
  rw [show ((0 : Nat) : Int) = 0 from rfl, t2, t3] at ho1
  dsimp only at ho1 ⊢
  rw [ho1, AQg]
  by_cases hz : (Ah5 e.Classes (Aj4 e f (Acv code a).1).1 (lay (off s a) a (siz (Acv code a).1.Op)) (Adv (Acv code a).1)).2.1 = 0
  ·rw [Bu hz] at ho2
   obtain ⟨S', rfl, hS'⟩ := ho2
   dsimp only
   rw [hz]
   exact ⟨S', rfl, hS'.env, hS'.code, fun _ => hS', fun q => absurd rfl q⟩
  ·rw [A7 hz] at ho2
   obtain ⟨S', rfl, hw, he1, he2⟩ := ho2
   exact ⟨S', rfl, he1, he2, fun q => absurd q hz, fun _ => hw⟩
 ·rw [Bu (by rw [JY]; omega), A8b hn]
  dsimp only
  rw [Bu (by omega)]
  exact ⟨_, rfl, hS.env, rfl, fun q => (by cases q), fun _ => rfl⟩
theorem Ao9.off {e : GG} {code : List UInt8} {s : St} {S : Aae} (h : Ao9 e code s S) (a : Nat) : Ao9 e code (off s a) ⟨S.e, S.code, S.frames, Amz S.fresh (a : Int), S.taken, S.Ade⟩ := by
 refine ⟨h.env, h.code, h.fr, h.frn, fun k => ?_, AEk h.Axt _, h.taken⟩
 dsimp only
 rw [A8k _ _ _ h.Axt]
 unfold Proofs.YtfcpkcehecmcpaaGreat.off
 dsimp only
 by_cases hk : k = (a : Int)
 ·rw [Bu hk, hk, ARc, Ah4]
  simp
 ·rw [A7 hk, h.fresh k]
  constructor
  ·rintro ⟨h0, h1⟩
   exact ⟨h0, by rw [upd_ne _ _ (by omega)]; exact h1⟩
  ·rintro ⟨h0, h1⟩
   rw [upd_ne _ _ (by omega)] at h1
   exact ⟨h0, h1⟩
theorem AAd {e : GG} (h : Af9 e) {code : List UInt8} (hl : code.length ≤ 4096) {st0 : B0} : ∀ (k : Nat) (s : St) (S : Aae) (r : Int × Int × St), Inv e code st0 s → Ao9 e code s S → A4d e code k s = some r →
  ∃ S', Aa4 (Ajl code) (S.e.Classes, S.e.OS, S.e.Fn, S.code, S.Ade, S.taken, S.fresh, S.frames, 0) = some (S'.e.Classes, S'.e.OS, S'.e.Fn, S'.code, S'.Ade, S'.frames, S'.fresh, S'.taken, r.2.1) ∧ (r.2.1 = 0 → Ao9 e code r.2.2 S') ∧ (r.2.1 ≠ 0 → S'.Ade = r.1)
 | 0, s, S, r, _, _, hr => by cases hr
 | k + 1, s, S, r, I, hS, hr => by
  unfold A4d at hr
  rcases hq : Aq8 s code.length with _ | a
  ·rw [hq] at hr
   dsimp only at hr
   cases hr
   have hnil : S.fresh = [] := by
    rcases hfr : S.fresh with _ | ⟨p, l⟩
    ·rfl
    ·have := (hS.fresh p.1).1 ((Aov _ _).2 (by rw [hfr]; simp))
     have hd := I.dom p.1.toNat (I.new _ this.2)
     have := Ayg hq p.1.toNat (by omega)
     rw [‹0 ≤ p.1 ∧ s.new p.1.toNat = true›.2] at this
     cases this
   refine ⟨S, Ada ?_, fun _ => hS, fun q => absurd rfl q⟩
   unfold Ajl
   dsimp only
   rw [hnil, A7 (by simp)]
  ·rw [hq] at hr
   dsimp only at hr
   obtain ⟨l1, l2, l3⟩ := Asx hq
   have hmem : (a : Int) ∈ S.fresh.map Prod.fst := (Aov _ _).1 ((hS.fresh a).2 ⟨by omega, by rw [ARc]; exact l1⟩)
   have hpos : decide ((S.fresh.length : Int) > 0) = true := by
    rw [AS]
    rcases hfr : S.fresh with _ | ⟨p, l⟩
    ·rw [hfr] at hmem; cases hmem
    ·simp
   obtain ⟨m, m1, m2, m3, m4⟩ := AE5 S.fresh (code.length : Int)
   have hma : m = (a : Int) := by
    have := m4 _ hmem
    rcases m2 with q | q
    ·omega
    ·obtain ⟨q1, q2⟩ := (hS.fresh m).1 ((Aov _ _).2 q)
     rcases Nat.lt_or_ge m.toNat a with q3 | q3
     ·rw [l3 _ q3] at q2; cases q2
     ·omega
   rw [hma] at m1
   obtain ⟨S', v1, v2, v3, v4, v5⟩ := AD7 h hl I l1 (hS.off a)
   have hb : Ajl code (S.e.Classes, S.e.OS, S.e.Fn, S.code, S.Ade, S.taken, S.fresh, S.frames, 0) = if (Agz e code s a).2.1 ≠ 0 then some (.inr (S'.e.Classes, S'.e.OS, S'.e.Fn, S'.code, S'.Ade, S'.frames, S'.fresh, S'.taken, (Agz e code s a).2.1)) else some (.inl (S'.e.Classes, S'.e.OS, S'.e.Fn, S'.code, S'.Ade, S'.taken, S'.fresh, S'.frames, (Agz e code s a).2.1)) := by
    unfold Ajl
    dsimp only
    rw [Bu hpos, m1, AQg]
    unfold AD9
    dsimp only
    rw [AQg, show (⟨(⟨S.e.Classes, S.e.OS, S.e.Fn⟩ : GG), S.code, S.frames, Amz S.fresh (a : Int), S.taken, S.Ade⟩ : Aae) = ⟨S.e, S.code, S.frames, Amz S.fresh (a : Int), S.taken, S.Ade⟩ from rfl, v1, AQg]
    by_cases h0 : (Agz e code s a).2.1 ≠ 0
    ·rw [Bu h0, Bu (by rw [Aas]; exact h0)]
    ·rw [A7 h0, A7 (by rw [Aas]; exact h0)]
   by_cases h0 : (Agz e code s a).2.1 ≠ 0
   ·rw [Bu h0] at hr hb
    cases hr
    exact ⟨S', Ada hb, fun q => absurd q h0, v5⟩
   ·rw [A7 h0] at hr hb
    have h0' := Classical.not_not.1 h0
    obtain ⟨J, _⟩ := A4t h I l1 h0'
    obtain ⟨S2, o1, o2, o3⟩ := AAd h hl k _ S' r J (v4 h0') hr
    rw [h0'] at hb
    exact ⟨S2, by rw [Afd hb]; exact o1, o2, o3⟩
theorem AIk {e : GG} {code : List UInt8} (hl : code.length ≤ 4096) {st0 : B0} {s : St} {S : Aae} (I : Inv e code st0 s) (hS : Ao9 e code s S) (hne : 0 < code.length) : A54 S.frames = some ((Ai3 s code.length).map fun x => x.At) := by
 have hmem : ∀ k : Int, k ∈ S.frames.map Prod.fst ↔ 0 ≤ k ∧ k < code.length ∧ (s.fr k.toNat).isSome = true := by
  intro k
  rw [← Aov, hS.fr]
  by_cases h0 : 0 ≤ k
  ·rw [Bu h0]
   constructor
   ·intro q
    refine ⟨h0, ?_, q⟩
    rcases I.dom _ q with q2 | q2 <;> omega
   ·rintro ⟨_, _, q⟩; exact q
  ·rw [A7 h0]
   constructor
   ·intro q; cases q
   ·rintro ⟨q, _⟩; exact absurd q h0
 have hent : ∀ n, ((Ai3 s n).map fun x => x.At).Pairwise (· < ·) ∧ ∀ k : Int, k ∈ ((Ai3 s n).map fun x => x.At) ↔ 0 ≤ k ∧ k < n ∧ (s.fr k.toNat).isSome = true := by
  intro n
  induction n with
  | zero =>
   refine ⟨by simp [Ai3], fun k => ?_⟩
   simp [Ai3]
   omega
  | succ n ih =>
   rw [Ax6, AQw]
   rcases hf : s.fr n with _ | f
   ·simp only [List.map_nil, AQ0]
    refine ⟨ih.1, fun k => ?_⟩
    rw [ih.2]
    constructor
    ·rintro ⟨q1, q2, q3⟩; exact ⟨q1, by omega, q3⟩
    ·rintro ⟨q1, q2, q3⟩
     refine ⟨q1, ?_, q3⟩
     by_cases hk : k.toNat = n
     ·rw [hk, hf] at q3; cases q3
     ·omega
   ·simp only [List.map_cons, List.map_nil]
    refine ⟨?_, fun k => ?_⟩
    ·rw [AQ5]
     refine ⟨ih.1, List.pairwise_singleton _ _, fun x hx y hy => ?_⟩
     rw [AQq] at hy
     have := (ih.2 x).1 hx
     omega
    ·rw [AQp, ih.2, AQq]
     constructor
     ·rintro (⟨q1, q2, q3⟩ | q)
      ·exact ⟨q1, by omega, q3⟩
      ·subst q
       exact ⟨by omega, by omega, by rw [ARc, hf]; rfl⟩
     ·rintro ⟨q1, q2, q3⟩
      by_cases hk : k = (n : Int)
      ·exact Or.inr hk
      ·exact Or.inl ⟨q1, by omega, q3⟩
 obtain ⟨he1, he2⟩ := hent code.length
 have hsort : Ag3 (S.frames.map Prod.fst) = ((Ai3 s code.length).map fun x => x.At) := Arz (Asv hS.frn) he1 fun k => by rw [Atl, hmem, he2]
 have hlen : S.frames.length ≤ 4096 := by
  have h1 := congrArg List.length hsort
  rw [Avj, AQl, AQl] at h1
  have := Axp s code.length
  omega
 unfold A54
 rw [Bu, hsort]
 rw [ARe, AS, List.all_eq_true]
 refine ⟨by omega, fun p hp => ?_⟩
 have := (hmem p.1).1 (List.mem_map.2 ⟨p, hp, rfl⟩)
 rw [ARe, AS, AS]
 omega
theorem Azq {s : St} {n : Nat} : ∀ x ∈ Ai3 s n, x.Dead = false ∧ 0 ≤ x.At ∧ x.At < n ∧ s.fr x.At.toNat = some x.Frame := by
 intro x hx
 unfold Ai3 at hx
 rw [List.mem_filterMap] at hx
 obtain ⟨a, ha, hx⟩ := hx
 rw [Option.map_eq_some_iff] at hx
 obtain ⟨f, hf, rfl⟩ := hx
 rw [AQt] at ha
 exact ⟨rfl, by dsimp only; omega, by dsimp only; omega, by dsimp only; rw [ARc]; exact hf⟩
theorem AEw {e : GG} {code : List UInt8} (hl : code.length ≤ 4096) {s : St} {S : Aae} (hS : Ao9 e code s S) : Aa4 (Akj S ((Ai3 s code.length).map fun x => x.At)) (([] : List Ac9), 0) = some (Ai3 s code.length) := by
 have hlen := Axp s code.length
 have := Ap0 (Ai3 s code.length) id (body := Akj S ((Ai3 s code.length).map fun x => x.At)) (fun i hi acc ha => by
  unfold Akj
  dsimp only
  obtain ⟨q1, q2, q3, q4⟩ := Azq _ (AQv hi)
  rw [AQl, Bu (by rw [AS]; omega), show idx ((Ai3 s code.length).map fun x => x.At) (i : Int) = some ((Ai3 s code.length)[i].At) from by rw [Ac8 (by rw [AQl]; exact hi), List.getElem_map], AQg, hS.fr, Bu q2, q4, AQh, Ae6 (by simp; omega), AQg, wr1 (by omega)]
  have : (⟨(Ai3 s code.length)[i].At, false, ⟨(Ai3 s code.length)[i].Frame.Locals, (Ai3 s code.length)[i].Frame.Height, (Ai3 s code.length)[i].Frame.Slots⟩⟩ : Ac9) = (Ai3 s code.length)[i] := by
   generalize (Ai3 s code.length)[i] = x at *
   obtain ⟨A, D, F⟩ := x
   dsimp only at q1
   rw [q1]
  rw [this]
  rfl) (fun acc => by
  unfold Akj
  dsimp only
  rw [AQl, A7 (by rw [AS]; omega)])
 rw [List.map_id] at this
 exact this
end Go.Proofs.YtfcpkcehecmcpaaGreat
namespace Go.Proofs.YtfcpkcehecmcpaaGreat
open Go Go.RowKit Go.Pv
structure ADe (e : GG) (L : Int) (code : List UInt8) (l : List Ac9) : Prop where
 env : Af9 e
 few : code.length ≤ 4096
 pos : 0 < code.length
 ex : ∃ s st0, AJ0 e.Classes (Awr e).Abs L st0 ∧ Inv e code st0 s ∧ (∀ b, s.new b = false) ∧ l = Ai3 s code.length
theorem AH3 (e : GG) (code : List UInt8) (f : B0) (w : Int) : Ao9 e code (st1 f) ⟨e, code, Ae7 [] 0 f, Ae7 [] 0 (), [], w⟩ := by
 refine ⟨rfl, rfl, fun k => ?_, by simp [Ae7], fun k => ?_, by simp [Ae7], fun b x => ?_⟩
 ·unfold st1
  dsimp only
  rw [Apy]
  by_cases hk : k = 0
  ·rw [Bu hk, Bu (by omega), Bu (by omega)]
  ·rw [A7 hk]
   by_cases h0 : 0 ≤ k
   ·rw [Bu h0, A7 (by omega)]; rfl
   ·rw [A7 h0]; rfl
 ·unfold st1
  dsimp only
  rw [Apy]
  by_cases hk : k = 0
  ·rw [Bu hk, hk]; simp
  ·rw [A7 hk]
   constructor
   ·intro q; cases q
   ·rintro ⟨q1, q2⟩
    rw [AS] at q2
    omega
 ·unfold st1
  dsimp only
  constructor
  ·intro q; cases q
  ·rintro ⟨y, _, q, _⟩; omega
theorem A3i {α : Type} {n : Nat} {x : α} {a : Nat} (h : a ≤ n) : (List.replicate (n + 1) x)[a]? = some x := by
 rw [AQj (by rw [List.length_replicate]; omega), List.getElem_replicate]
theorem AIj (n : Nat) (f : B0) : An4 n (st1 f) ⟨(List.replicate (n + 1) false).set 0 true, (List.replicate (n + 1) zf).set 0 f, (List.replicate (n + 1) false).set 0 true, List.replicate (n + 1) 0⟩ := by
 unfold st1
 refine ⟨⟨by simp, fun a ha => ?_⟩, ⟨by simp, fun a ha g hg => ?_⟩, ⟨by simp, fun a ha => ?_⟩, ⟨by simp, fun a ha => ?_⟩⟩
 ·dsimp only
  rw [Atm (n := n) (by simp) (by omega)]
  by_cases h : a = 0
  ·rw [Bu h, Bu h]; rfl
  ·rw [A7 h, A7 h, A3i ha]; rfl
 ·dsimp only at *
  rw [Atm (n := n) (by simp) (by omega)]
  by_cases h : a = 0
  ·rw [Bu h]
   rw [Bu h] at hg
   exact hg
  ·rw [A7 h] at hg; cases hg
 ·dsimp only
  rw [Atm (n := n) (by simp) (by omega)]
  by_cases h : a = 0
  ·rw [Bu h, decide_eq_true h]
  ·rw [A7 h, decide_eq_false h, A3i ha]
 ·dsimp only
  rw [A3i ha]; rfl
theorem A58 {α : Type} {b : Nat} {n : Nat} {x : α} (hn : n ≤ 4097) (hb : b ≤ 64) : mkO b (n : Int) x = some (List.replicate n x) := by
 unfold mkO
 rw [Bu, ARc]
 refine ⟨by omega, ?_, by omega⟩
 have : (b : Int) * (n : Int) ≤ 64 * 4097 := Int.mul_le_mul (by omega) (by omega) (by omega) (by omega)
 omega
theorem AG8 (e : GG) (L : Int) (code : List UInt8) (h : Alb e.Classes) : ∃ r, Asr e L code = some r ∧ Al1 e L code = some r ∧ (r.2.2 = 0 → r.2.1 = 0 ∧ ADe e L code r.1) := by
 obtain ⟨m, hm⟩ := AG6 e L h
 have hm1 : Ato e L = some m := by rw [AL6 e L h, hm]
 unfold Asr At4 Al1
 rw [show (⟨e.Classes, e.OS, e.Fn⟩ : GG) = e from rfl, hm, hm1, AQg, AQg]
 by_cases h0 : m ≠ 0
 ·rw [Bu (by rw [Aas]; exact h0), Bu (by rw [Aas]; exact h0), AQg]
  dsimp only
  rw [Bu (by rw [Aas]; exact h0)]
  exact ⟨_, rfl, rfl, fun q => absurd q h0⟩
 have c0 : (m != 0) = false := by rw [← Bool.not_eq_true, Aas]; exact h0
 simp only [c0, Bool.false_eq_true, if_false]
 have hm0 := Classical.not_not.1 h0
 subst hm0
 obtain ⟨hE, s0, f0, hs0, hf0⟩ := AN2 e L h hm
 by_cases hl : (code.length : Int) > 4096
 ·have c1 : decide ((code.length : Int) > 4096) = true := decide_eq_true hl
  simp only [c1, if_true, AQg]
  rw [Bu (by simp)]
  exact ⟨_, rfl, rfl, fun q => (by cases q)⟩
 have c1 : decide ((code.length : Int) > 4096) = false := decide_eq_false hl
 simp only [c1, Bool.false_eq_true, if_false]
 have hl' : code.length ≤ 4096 := by omega
 have hfn := hE.fn
 have hs0' : s0 = Awr e := by
  have : idx e.OS e.Fn = some (Awr e) := Akd hfn.1 hfn.2 ⟨[], 0⟩
  rw [hs0] at this
  exact Option.some.inj this
 subst hs0'
 obtain ⟨r0, hr0, hB⟩ := A9i e.Classes (Awr e).Abs L
 rw [hf0] at hr0
 have hr0' := Option.some.inj hr0
 rw [← hr0'] at hB
 have hB' := hB rfl
 dsimp only at hB'
 rw [hs0, AQg, start_eq, hf0, AQg]
 rw [show wr ((code.length : Int) + 1) = ((code.length + 1 : Nat) : Int) from wr1 (by omega)]
 have hi : ∀ {α : Type} (x : α), idx (List.replicate (code.length + 1) x) 0 = some x := fun x => Ajb (a := 0) (A3i (by omega))
 rw [A58 (by omega) (by omega), AQg, A58 (by omega) (by omega), AQg, AQg, A58 (by omega) (by omega), AQg, AQg, hf0, AQg, hi, AQg, hi, AQg, AQg]
 dsimp only
 rw [show (⟨f0.Locals, f0.Height, f0.Slots⟩ : B0) = f0 from rfl]
 have hI := ALp hE (code := code) hB'.fok
 obtain ⟨r, hr, hrok⟩ := Aem hE (mu e.Classes code.length (st1 f0) + 1) (st1 f0) hI (by omega)
 obtain ⟨S', p1, p2, p3⟩ := AAd hE hl' _ (st1 f0) _ r hI (AH3 e code f0 0) hr
 obtain ⟨o, q1, q2⟩ := ACz hE hl' _ (st1 f0) _ r hI (AIj code.length f0) hr
 have hleast : Axl (st1 f0) code.length = 0 := by
  unfold Axl
  rcases hq : Aq8 (st1 f0) code.length with _ | a
  ·have := Ayg hq 0 (by omega)
   unfold st1 at this
   simp at this
  ·have := (Asx hq).1
   unfold st1 at this
   dsimp only at this ⊢
   rw [AS] at this
   omega
 rw [hleast] at q1
 dsimp only at p1 q1
 rw [p1, AQg]
 rw [show ((0 : Int).toNat) = 0 from rfl]
 rw [q1, AQg]
 dsimp only
 by_cases h1 : r.2.1 ≠ 0
 ·rw [A7 h1] at q2
  rw [Bu (by rw [Aas]; exact h1), AQg]
  dsimp only
  rw [Bu (by rw [Aas]; exact h1), q2, p3 h1]
  exact ⟨_, rfl, rfl, fun q => absurd q h1⟩
 ·have h1' := Classical.not_not.1 h1
  rw [Bu h1'] at q2
  obtain ⟨R', rfl, hR'⟩ := q2
  obtain ⟨_, J, hnew⟩ := hrok h1'
  rw [A7 (by rw [Aas]; exact h1), AQg]
  dsimp only
  rw [A7 (by simp), AQg, show (⟨(⟨S'.e.Classes, S'.e.OS, S'.e.Fn⟩ : GG), S'.code, S'.frames, S'.fresh, S'.taken, S'.Ade⟩ : Aae) = S' from rfl]
  have hS' := p2 h1'
  have hpos : 0 < code.length := by
   obtain ⟨f, hf, _⟩ := J.start
   have D := J.clo 0 f hf (hnew 0)
   exact (Apr D.ins).1
  rw [AIk hl' J hS' hpos, AQg, AEw hl' hS', AQg, AJc hl' hR', AQg]
  exact ⟨_, rfl, rfl, fun _ => ⟨rfl, hE, hl', hpos, r.2.2, f0, hB', J, hnew, rfl⟩⟩
end Go.Proofs.YtfcpkcehecmcpaaGreat
namespace Go.Proofs.YtfcpkcehecmcpaaGreat
open Go Go.RowKit Go.Pv
def A7p (c : BV) : Prop := c.Fields.length ≤ big
structure Aom (m : LK) : Prop where
 cl : m.Classes.length ≤ big
 fl : m.Funcs.length ≤ big
 tl : m.Adm.length ≤ big
 c : ∀ x ∈ m.Classes, A7p x
 f : ∀ x ∈ m.Funcs, A9s x
 t : ∀ x ∈ m.Adm, x.length ≤ big
theorem AHe (l : List Acg) (h : l.length ≤ big) : Afa l = some l := by
 unfold Afa
 rw [Ae6 (by simp only [big] at h; simp; omega)]; simp
theorem ABx (l : List BV) (hl : l.length ≤ big) (h : ∀ x ∈ l, A7p x) : Akx l = some l := by
 unfold Akx
 rw [Ap0 l id (fun i hi acc ha => by
  unfold Ahv
  simp only [big] at hl
  dsimp only
  rw [Bu (by simpa using hi), Ac8 hi, AQg, AHe _ (h _ (AQv hi)), AQg, Ae6 (by simp; omega), AQg, wr1 (by omega)]
  rfl) (fun acc => by unfold Ahv; simp)]
 simp
theorem ADs (m : LK) (h : Aom m) : Alc m = some m := by
 have hf := h.fl
 have ht := h.tl
 simp only [big] at hf ht
 unfold Alc
 rw [ABx _ h.cl h.c, AQg, Ap0 m.Funcs id (fun i hi acc ha => by
  unfold Aic
  dsimp only
  rw [Bu (by simpa using hi), Ac8 hi, AQg]
  rw [show (⟨m.Funcs[i].Name, (⟨m.Funcs[i].Sig.Abs, m.Funcs[i].Sig.Result⟩ : Aa6), m.Funcs[i].Locals, m.Funcs[i].Code⟩ : Adh) = m.Funcs[i] from rfl, AJf _ (h.f _ (AQv hi)), AQg, Ae6 (by simp; omega), AQg, wr1 (by omega)]
  rfl) (fun acc => by unfold Aic; simp), AQg, Ap0 m.Adm id (fun i hi acc ha => by
  unfold Aid
  dsimp only
  rw [Bu (by simpa using hi), Ac8 hi, AQg, AFp _ (h.t _ (AQv hi)), AQg, Ae6 (by simp; omega), AQg, wr1 (by omega)]
  rfl) (fun acc => by unfold Aid; simp), AQg]
 simp
theorem eqF (l : List Acg) (h : l.length ≤ big) : Af6 l l = some true := by
 simp only [big] at h
 unfold Af6
 rw [A7 (by simp), Aog l (r := .inr ()) (fun i hi => by
  unfold Aeq
  rw [Bu (by simpa using hi), Ac8 hi, AQg, AQg, A7 (by simp), wr1 (by omega)]) (by unfold Aeq; simp)]
 rfl
theorem AB5 (l : List BV) (hl : l.length ≤ big) (h : ∀ x ∈ l, A7p x) : Aix l l = some true := by
 simp only [big] at hl
 unfold Aix
 rw [A7 (by simp), Aog l (r := .inr ()) (fun i hi => by
  unfold Agf
  rw [Bu (by simpa using hi), Ac8 hi]
  simp only [AQg]
  rw [A7 (by simp), A7 (by simp), eqF _ (h _ (AQv hi)), AQg, A7 (by simp), wr1 (by omega)]) (by unfold Agf; simp)]
 rfl
theorem A51 (m : LK) (h : Aom m) : Ajg m m = some true := by
 have hf := h.fl
 have ht := h.tl
 simp only [big] at hf ht
 unfold Ajg
 rw [A7 (by simp), AB5 _ h.cl h.c, AQg, A7 (by simp), A7 (by simp), A7 (by simp), Aog m.Funcs (r := .inr ()) (fun i hi => by
  unfold Agk
  rw [Bu (by simpa using hi), Ac8 hi]
  simp only [AQg]
  rw [AIz _ (h.f _ (AQv hi)), AQg, A7 (by simp), wr1 (by omega)]) (by unfold Agk; simp), AQg]
 dsimp only
 rw [Aog m.Adm (r := .inr ()) (fun i hi => by
  unfold Agl
  rw [Bu (by simpa using hi), Ac8 hi]
  simp only [AQg]
  rw [eqB _ (h.t _ (AQv hi)), AQg, A7 (by simp), wr1 (by omega)]) (by unfold Agl; simp)]
 rfl
theorem Aom.tab {m : LK} (h : Aom m) : Alb m.Classes := ⟨h.cl, fun x hx => h.c x hx⟩
def At7 (m : LK) (fn : Int) : GG := ⟨m.Classes, m.Funcs.map (·.Sig), fn⟩
theorem AK1 (m : LK) (h : Aom m) (fn : Int) : Avi m fn = some (if 0 ≤ fn ∧ fn < m.Funcs.length then (At7 m fn, true) else (⟨[], [], 0⟩, false)) := by
 have hcl := h.cl
 have hfl := h.fl
 simp only [big] at hcl hfl
 unfold Avi
 by_cases h0 : fn < 0
 ·rw [Bu (by rw [AS]; exact h0), A7 (by omega)]
 ·rw [A7 (by rw [AS]; exact h0)]
  by_cases h1 : fn ≥ (m.Funcs.length : Int)
  ·rw [Bu (by rw [AS]; exact h1), A7 (by omega)]
  ·rw [A7 (by rw [AS]; exact h1), Bu (by omega), Ap0 m.Classes id (fun i hi acc ha => by
    unfold Apl
    dsimp only
    rw [Bu (by rw [AS]; omega), Ac8 hi, AQg, AHe _ (h.c _ (AQv hi)), AQg, Ae6 (by simp; omega), AQg, wr1 (by omega)]
    rfl) (fun acc => by unfold Apl; simp), AQg, Ap0 m.Funcs (·.Sig) (fun i hi acc ha => by
    unfold Apd
    dsimp only
    rw [Bu (by rw [AS]; omega), Ac8 hi, AQg, AG5 _ (h.f _ (AQv hi)).1, AQg, Ae6 (by simp; omega), AQg, wr1 (by omega)]) (fun acc => by unfold Apd; simp), AQg, List.map_id]
   rfl
theorem AK0 (m : LK) (h : Aom m) (fn : Int) : Anq m fn = some (if 0 ≤ fn ∧ fn < m.Funcs.length then (At7 m fn, true) else (⟨[], [], 0⟩, false)) := by
 have hfl := h.fl
 simp only [big] at hfl
 unfold Anq
 by_cases h0 : fn < 0
 ·rw [Bu (by rw [AS]; exact h0), A7 (by omega)]
 ·rw [A7 (by rw [AS]; exact h0)]
  by_cases h1 : fn ≥ (m.Funcs.length : Int)
  ·rw [Bu (by rw [AS]; exact h1), A7 (by omega)]
  ·rw [A7 (by rw [AS]; exact h1), Bu (by omega), Ap0 m.Funcs (·.Sig) (fun i hi acc ha => by
    unfold Ajs
    dsimp only
    rw [Bu (by rw [AS]; omega), Ac8 hi, AQg, Ae6 (by simp; omega), AQg, wr1 (by omega)]) (fun acc => by unfold Ajs; simp), AQg]
   rfl
def A7d (code : List UInt8) (l : List Ac9) : List CO := l.map fun x => (Acv code x.At.toNat).1
def AHj (l : List Ac9) : Int := l.foldl (fun s x => if s < x.Frame.Height then x.Frame.Height else s) 0
def Agy (m : LK) (fn : Int) : Adh := (m.Funcs[fn.toNat]?).getD ⟨[], ⟨[], 0⟩, 0, []⟩
structure AAi (m : LK) (fn : Int) (l : List CO) : Prop where
 rng : 0 ≤ fn ∧ fn < m.Funcs.length
 ex : ∃ es, ADe (At7 m fn) (Agy m fn).Locals (Agy m fn).Code es ∧ l = A7d (Agy m fn).Code es
theorem AIp (m : LK) (h : Aom m) (fn : Int) : ∃ r, Afe m fn = some r ∧ Ap9 m fn = some ((if r.2.2.2 = 0 then some (⟨r.1, r.2.1⟩ : Ads) else none), r.2.2.1, r.2.2.2) ∧ (r.2.2.2 = 0 → r.2.2.1 = 0 ∧ AAi m fn r.1) ∧ (r.2.2.2 ≠ 0 → r.2.1 = 0) := by
 unfold Afe Ap9
 rw [show (⟨m.Name, m.Classes, m.Funcs, m.Adm⟩ : LK) = m from rfl, AK1 m h, AK0 m h, AQg, AQg]
 by_cases hfn : 0 ≤ fn ∧ fn < m.Funcs.length
 ·rw [Bu hfn]
  dsimp only
  have hx : idx m.Funcs fn = some (Agy m fn) := Akd hfn.1 hfn.2 _
  have hmem : Agy m fn ∈ m.Funcs := Az3 (by omega) rfl
  have hcode := (h.f _ hmem).2
  simp only [big] at hcode
  have c0 : ((!true) = true) = False := by simp
  simp only [c0, if_false, hx, AQg]
  rw [show (⟨(At7 m fn).Classes, (At7 m fn).OS, (At7 m fn).Fn⟩ : GG) = At7 m fn from rfl]
  obtain ⟨r, h1, h2, h3⟩ := AG8 (At7 m fn) (Agy m fn).Locals (Agy m fn).Code h.tab
  rw [h1, h2, AQg, AQg]
  by_cases h0 : r.2.2 = 0
  ·have c1 : ((r.2.2 != 0) = true) = False := by rw [h0]; simp
   simp only [c1, if_false]
   obtain ⟨h4, h5⟩ := h3 h0
   obtain ⟨s, st0, hB, J, hnew, hl⟩ := h5.ex
   have hlen := Axp s (Agy m fn).Code.length
   have h6 := h5.few
   rw [← hl] at hlen
   have hdec : ∀ x ∈ r.1, Ag2 (Agy m fn).Code x.At = some ((Acv (Agy m fn).Code x.At.toNat)) ∧ Am4 (Agy m fn).Code x.At = some ((Acv (Agy m fn).Code x.At.toNat)) := by
    intro x hx
    rw [hl] at hx
    obtain ⟨_, q1, q2, _⟩ := Azq x hx
    obtain ⟨k, hk⟩ := ARd q1
    rw [hk, ARc]
    exact A5g (by simp only [big]; omega) (by omega)
   have key : ∀ (body : List CO × Int × Int → Option ((List CO × Int × Int) ⊕ (List CO × Int))),
     (∀ i (hi : i < r.1.length) a b, a.length = i → body (a, b, (i : Int)) = some (.inl (a ++ [(Acv (Agy m fn).Code (r.1[i]).At.toNat).1], (if b < (r.1[i]).Frame.Height then (r.1[i]).Frame.Height else b), ((i + 1 : Nat) : Int)))) → (∀ a b, body (a, b, (r.1.length : Int)) = some (.inr (a, b))) →
     Aa4 body ([], 0, 0) = some (A7d (Agy m fn).Code r.1, AHj r.1) := by
    intro body hs he
    refine Akf r.1.length (fun i => (A7d (Agy m fn).Code (r.1.take i), AHj (r.1.take i), (i : Int))) (fun i hi => ?_) (by rw [ARb]; exact he _ _) rfl
    rw [hs i hi _ _ (by unfold A7d; rw [AQl, AQo]; omega), ← AQ3 hi]
    congr 2
    refine Prod.ext ?_ (Prod.ext ?_ rfl)
    ·unfold A7d
     rw [AQw]; rfl
    ·unfold AHj
     rw [List.foldl_append]; rfl
   rw [key (Aml (Agy m fn) r) (fun i hi a b ha => by
     unfold Aml
     dsimp only
     rw [Bu (by rw [AS]; omega), Ac8 hi, AQg, (hdec _ (AQv hi)).2, AQg, Ae6 (by simp; omega), AQg, wr1 (by omega)]) (fun a b => by
     unfold Aml
     dsimp only
     rw [A7 (by rw [AS]; omega)]),
    key (Agj (Agy m fn) r) (fun i hi a b ha => by
     unfold Agj
     dsimp only
     rw [Bu (by rw [AS]; omega), Ac8 hi, AQg, (hdec _ (AQv hi)).1, AQg, Ae6 (by simp; omega), AQg, AQg, AQg, wr1 (by omega)]
     by_cases hb : r.1[i].Frame.Height > b
     ·rw [Bu (by rw [AS]; exact hb), Bu (by omega)]
     ·rw [A7 (by rw [AS]; exact hb), A7 (by omega)]) (fun a b => by
     unfold Agj
     dsimp only
     rw [A7 (by rw [AS]; omega)]), AQg, AQg]
   exact ⟨_, rfl, rfl, fun _ => ⟨rfl, hfn, r.1, h5, rfl⟩, fun q => absurd rfl q⟩
  ·have c1 : ((r.2.2 != 0) = true) = True := eq_true (Aas.2 h0)
   simp only [c1, if_true]
   refine ⟨_, rfl, ?_, fun q => absurd q h0, fun _ => rfl⟩
   dsimp only
   rw [A7 h0]
 ·rw [A7 hfn]
  dsimp only
  have c0 : ((!false) = true) = True := by simp
  simp only [c0, if_true]
  refine ⟨_, rfl, ?_, fun q => (by cases q), fun _ => rfl⟩
  dsimp only
  rw [A7 (by omega)]
end Go.Proofs.YtfcpkcehecmcpaaGreat
namespace Go.Proofs.YtfcpkcehecmcpaaGreat
open Go Go.RowKit Go.Pv
structure PL (n nf : Nat) (l : List CO) : Prop where
 strict : (l.map fun x => x.At).Pairwise (· < ·)
 ins : ∀ x ∈ l, 0 ≤ x.At ∧ x.At + siz x.Op ≤ n ∧ 0 < siz x.Op ∧ x.Op.toNat < 34 ∧ (Ala x.Op = true → 0 ≤ x.A ∧ x.A < n) ∧ (onV x n).2 = 0
 call : ∀ x ∈ l, x.Op.toNat = 21 → 0 ≤ x.A ∧ x.A < nf
 nx : ∀ x ∈ l, ∀ t ∈ Adv x, ∃ y ∈ l, y.At = (t : Int)
 few : n ≤ 4096
 zero : ∃ x ∈ l, x.At = 0
theorem Azx {s : St} {n a : Nat} {f : B0} (ha : a < n) (hf : s.fr a = some f) : (⟨(a : Int), false, f⟩ : Ac9) ∈ Ai3 s n := by
 unfold Ai3
 rw [List.mem_filterMap]
 exact ⟨a, List.mem_range.2 ha, by rw [hf]; rfl⟩
theorem Ayo (s : St) : ∀ n : Nat, ((Ai3 s n).map fun x => x.At).Pairwise (· < ·)
 | 0 => by simp [Ai3]
 | n + 1 => by
  rw [Ax6, AQw]
  rcases hf : s.fr n with _ | f
  ·simp only [List.map_nil, AQ0]; exact Ayo s n
  ·simp only [List.map_cons, List.map_nil]
   rw [AQ5]
   refine ⟨Ayo s n, List.pairwise_singleton _ _, fun x hx y hy => ?_⟩
   rw [AQq] at hy
   obtain ⟨z, hz, rfl⟩ := List.mem_map.1 hx
   have := Azq z hz
   omega
theorem ADi {m : LK} {fn : Int} {l : List CO} (h : AAi m fn l) : PL (Agy m fn).Code.length m.Funcs.length l := by
 obtain ⟨es, hI, rfl⟩ := h.ex
 obtain ⟨s, st0, hB, J, hnew, rfl⟩ := hI.ex
 have D : ∀ x ∈ Ai3 s (Agy m fn).Code.length, AL0 (At7 m fn) (Agy m fn).Code s x.At.toNat x.Frame ∧ 0 ≤ x.At ∧ Fok (At7 m fn).Classes x.Frame := by
  intro x hx
  obtain ⟨_, q1, q2, q3⟩ := Azq x hx
  exact ⟨J.clo _ _ q3 (hnew _), q1, J.fok _ _ q3⟩
 unfold A7d
 refine ⟨?_, fun x hx => ?_, fun x hx h21 => ?_, fun x hx t ht => ?_, hI.few, ?_⟩
 ·rw [List.map_map]
  have : (Ai3 s (Agy m fn).Code.length).map ((fun x : CO => x.At) ∘ fun x : Ac9 => (Acv (Agy m fn).Code x.At.toNat).1) = (Ai3 s (Agy m fn).Code.length).map fun x => x.At := by
   refine List.map_congr_left fun x hx => ?_
   obtain ⟨d, q1, _⟩ := D x hx
   have := (Apr d.ins).2.1
   dsimp only [Function.comp]
   rw [this]
   omega
  rw [this]
  exact Ayo s _
 ·obtain ⟨y, hy, rfl⟩ := List.mem_map.1 hx
  obtain ⟨d, q1, q2⟩ := D y hy
  obtain ⟨i1, i2, i3, i4, i5⟩ := Apr d.ins
  have ha := Aw2 hI.env q2 _ d.app
  refine ⟨by omega, by omega, i3, ha.2.1, fun hj => ⟨A52 d.ins hj, ?_⟩, d.on⟩
  have hon := d.on
  unfold onV at hon
  by_cases hq : Ala (Acv (Agy m fn).Code y.At.toNat).1.Op = true ∧ (Acv (Agy m fn).Code y.At.toNat).1.A ≥ (Agy m fn).Code.length
  ·rw [Bu hq] at hon; cases hon
  ·have : ¬ (Acv (Agy m fn).Code y.At.toNat).1.A ≥ (Agy m fn).Code.length := fun q => hq ⟨hj, q⟩
   omega
 ·obtain ⟨y, hy, rfl⟩ := List.mem_map.1 hx
  obtain ⟨d, q1, q2⟩ := D y hy
  have ha := (Aw2 hI.env q2 _ d.app).2.2
  unfold Af3 at ha
  rw [Bu h21] at ha
  have hl : (At7 m fn).OS.length = m.Funcs.length := AQl _
  rw [hl] at ha
  by_cases hq : 0 ≤ (Acv (Agy m fn).Code y.At.toNat).1.A ∧ (Acv (Agy m fn).Code y.At.toNat).1.A < m.Funcs.length
  ·exact hq
  ·rw [A7 hq] at ha; cases ha
 ·obtain ⟨y, hy, rfl⟩ := List.mem_map.1 hx
  obtain ⟨d, q1, q2⟩ := D y hy
  obtain ⟨i1, i2, i3, i4, i5⟩ := Apr d.ins
  obtain ⟨g, g1, g2⟩ := d.nx t ht
  have htn := (A08 i2 i4 hI.pos d.on).2 t ht
  refine ⟨_, List.mem_map.2 ⟨_, Azx htn g1, rfl⟩, ?_⟩
  have D2 := (D _ (Azx htn g1)).1
  have := (Apr D2.ins).2.1
  dsimp only at this ⊢
  rw [this, ARc]
 ·obtain ⟨f, hf, _⟩ := J.start
  refine ⟨_, List.mem_map.2 ⟨_, Azx hI.pos hf, rfl⟩, ?_⟩
  have D2 := (D _ (Azx hI.pos hf)).1
  have := (Apr D2.ins).2.1
  dsimp only at this ⊢
  rw [this]
  rfl
theorem Az1 : ∀ {l : List Int} {a n : Int}, l.Pairwise (· < ·) → (∀ x ∈ l, a ≤ x ∧ x < n) → a ≤ n → (l.length : Int) ≤ n - a
 | [], a, n, _, _, h => by simp; omega
 | x :: l, a, n, hs, hm, h => by
  rw [AQ9] at hs
  have hx := hm x (by simp)
  have := Az1 (l := l) (a := x + 1) (n := n) hs.2 (fun y hy => ⟨by have := hs.1 y hy; omega, (hm y (by simp [hy])).2⟩) (by omega)
  rw [AQ2]
  omega
theorem PL.len {n nf : Nat} {l : List CO} (h : PL n nf l) : l.length ≤ 4096 := by
 have := Az1 (a := 0) (n := n) h.strict (fun x hx => by
  obtain ⟨y, hy, rfl⟩ := List.mem_map.1 hx
  have := h.ins y hy
  omega) (by omega)
 rw [AQl] at this
 have := h.few
 omega
def Apq (l : List CO) : List Int := (l.filter fun x => decide (x.Op.toNat = 21)).map fun x => x.A
theorem ACc {l : List CO} {c : Int} : c ∈ Apq l ↔ ∃ x ∈ l, x.Op.toNat = 21 ∧ x.A = c := by
 unfold Apq
 rw [AQu]
 constructor
 ·rintro ⟨x, hx, rfl⟩
  rw [AQs, AS] at hx
  exact ⟨x, hx.1, hx.2, rfl⟩
 ·rintro ⟨x, h1, h2, rfl⟩
  exact ⟨x, by rw [AQs, AS]; exact ⟨h1, h2⟩, rfl⟩
theorem A3y (l : List CO) : (Apq l).length ≤ l.length := by
 unfold Apq
 rw [AQl]
 exact AQ7 _ _
def Aob (nf : Nat) (l : List CO) : List Int := ints ((List.range nf).filter fun g => l.any fun x => decide (x.Op.toNat = 21) && x.A == (g : Int))
theorem ADx {nf : Nat} {l : List CO} (h : ∀ x ∈ l, x.Op.toNat = 21 → 0 ≤ x.A ∧ x.A < nf) (c : Int) : c ∈ Aob nf l ↔ c ∈ Apq l := by
 unfold Aob ints
 rw [ACc, AQu]
 constructor
 ·rintro ⟨g, hg, rfl⟩
  rw [AQs, List.any_eq_true] at hg
  obtain ⟨_, x, hx, hx2⟩ := hg
  rw [ARe, AS, JY] at hx2
  exact ⟨x, hx, hx2⟩
 ·rintro ⟨x, hx, h1, rfl⟩
  have := h x hx h1
  refine ⟨x.A.toNat, ?_, by omega⟩
  rw [AQs, List.any_eq_true, AQt]
  refine ⟨by omega, x, hx, ?_⟩
  rw [ARe, AS, JY]
  exact ⟨h1, by omega⟩
theorem Awd (p : Nat → Bool) : ∀ n : Nat, (ints ((List.range n).filter p)).Pairwise (· < ·)
 | 0 => by simp [ints]
 | n + 1 => by
  unfold ints at *
  rw [AQz, AQx, AQw, AQ5]
  have ih := Awd p n
  unfold ints at ih
  refine ⟨ih, ?_, fun x hx y hy => ?_⟩
  ·rw [AQy]
   split <;> simp
  ·obtain ⟨a, ha, rfl⟩ := List.mem_map.1 hx
   obtain ⟨b, hb, rfl⟩ := List.mem_map.1 hy
   rw [AQs, AQt] at ha
   rw [AQs, AQq] at hb
   omega
theorem A9a (nf : Nat) (l : List CO) : (Aob nf l).Pairwise (· < ·) := Awd _ nf
theorem AGg {n nf : Nat} {l : List CO} (h : PL n nf l) (k : Int) : Anl ⟨l, k⟩ = some (Aob nf l) := by
 have hlen := h.len
 unfold Anl
 have h1 : Aa4 (Aim ⟨l, k⟩) (([] : List Int), 0) = some (Apq l) := by
  refine Akf l.length (fun i => (Apq (l.take i), (i : Int))) (fun i hi => ?_) (by unfold Aim; simp) rfl
  have hcl := A3y (l.take i)
  rw [AQo] at hcl
  have hsucc : Apq (l.take (i + 1)) = Apq (l.take i) ++ (if l[i].Op.toNat = 21 then [l[i].A] else []) := by
   unfold Apq
   rw [← AQ3 hi, AQx, AQw]
   congr 1
   by_cases q : l[i].Op.toNat = 21
   ·rw [Bu q, AQy, Bu (by rw [AS]; exact q)]; rfl
   ·rw [A7 q, AQy, A7 (by rw [AS]; exact q)]; rfl
  unfold Aim
  dsimp only
  rw [Bu (by rw [AS]; omega), Ac8 hi, AQg, hsucc, wr1 (by omega)]
  by_cases q : l[i].Op.toNat = 21
  ·rw [Bu (by rw [q]; rfl), Bu q, Ae6 (by simp; omega), AQg]
  ·rw [A7 (by rw [JY]; omega), A7 q, AQ0]
 rw [h1, AQg]
 obtain ⟨r, r1, r2, r3⟩ := Azf (Apq l) (by have := A3y l; omega)
 obtain ⟨x, x1, x2⟩ := Option.bind_eq_some_iff.1 r1
 rw [x1, AQg, x2, AQg]
 congr 1
 exact Arz r2 (A9a nf l) fun a => (r3 a).trans (ADx h.call a).symm
theorem AF2 (m : LK) (hm : Aom m) (fn : Int) {r : List CO × Int × Int × Int} (hr : Afe m fn = some r) (h0 : r.2.2.2 = 0) (hlen : r.1.length ≤ 4096) : Aiw m fn = some (Aob m.Funcs.length r.1, 0, 0) := by
 have hfl := hm.fl
 simp only [big] at hfl
 unfold Aiw
 rw [show (⟨m.Name, m.Classes, m.Funcs, m.Adm⟩ : LK) = m from rfl, hr, AQg, A7 (by rw [h0]; simp)]
 have hin : ∀ (acc : List Int) (g : Nat), Aa4 (Ag8 r (acc, (g : Int))) (false, 0) = some (r.1.any fun x => decide (x.Op.toNat = 21) && x.A == (g : Int)) := by
  intro acc g
  refine Akf r.1.length (fun i => ((r.1.take i).any fun x => decide (x.Op.toNat = 21) && x.A == (g : Int), (i : Int))) (fun i hi => ?_) (by unfold Ag8; simp) rfl
  unfold Ag8
  dsimp only
  rw [Bu (by rw [AS]; omega), ← AQ3 hi, List.any_append, Ac8 hi, AQg, AQg, wr1 (by omega)]
  rcases (r.1.take i).any fun x => decide (x.Op.toNat = 21) && x.A == (g : Int) with _ | _
  ·rw [A7 (by simp)]
   by_cases q : r.1[i].Op.toNat = 21
   ·rw [Bu (by rw [q]; rfl)]
    simp [q]
   ·rw [A7 (by rw [JY]; omega)]
    simp [q]
  ·rw [Bu rfl]
   simp
 have hout : Aa4 (Ahg m r) (([] : List Int), 0) = some (Aob m.Funcs.length r.1) := by
  refine Akf m.Funcs.length (fun i => (Aob i r.1, (i : Int))) (fun i hi => ?_) (by unfold Ahg; simp) rfl
  have hcl : (Aob i r.1).length ≤ i := by
   unfold Aob ints
   rw [AQl]
   exact Nat.le_trans (AQ7 _ _) (by rw [AQ8]; exact Nat.le_refl _)
  have hsucc : Aob (i + 1) r.1 = Aob i r.1 ++ (if (r.1.any fun x => decide (x.Op.toNat = 21) && x.A == (i : Int)) = true then [(i : Int)] else []) := by
   unfold Aob ints
   rw [AQz, AQx, AQw]
   congr 1
   rw [AQy]
   split <;> rfl
  unfold Ahg
  dsimp only
  rw [Bu (by rw [AS]; omega), hin, AQg, hsucc, wr1 (by omega)]
  split
  ·rw [Ae6 (by simp; omega), AQg]
  ·rw [AQ0]
 rw [hout, AQg]
end Go.Proofs.YtfcpkcehecmcpaaGreat
namespace Go.Proofs.YtfcpkcehecmcpaaGreat
open Go Go.RowKit Go.Pv
theorem PL.uniq {n nf : Nat} {l : List CO} (h : PL n nf l) {i j : Nat} (hi : i < l.length) (hj : j < l.length) (he : l[i].At = l[j].At) : i = j := by
 have hs := List.pairwise_iff_getElem.1 h.strict
 rcases Nat.lt_trichotomy i j with q | q | q
 ·have := hs i j (by rw [AQl]; exact hi) (by rw [AQl]; exact hj) q
  rw [List.getElem_map, List.getElem_map] at this
  omega
 ·exact q
 ·have := hs j i (by rw [AQl]; exact hj) (by rw [AQl]; exact hi) q
  rw [List.getElem_map, List.getElem_map] at this
  omega
def plc (l : List CO) (t : Int) : Nat := l.findIdx fun y => y.At == t
theorem Aw9 {l : List CO} {t : Int} (h : ∃ y ∈ l, y.At = t) : ∃ hp : plc l t < l.length, l[plc l t].At = t := by
 obtain ⟨y, hy, he⟩ := h
 have hp : plc l t < l.length := List.findIdx_lt_length_of_exists ⟨y, hy, by rw [JY]; exact he⟩
 refine ⟨hp, ?_⟩
 have := List.findIdx_getElem (p := fun y : CO => y.At == t) (w := hp)
 rw [JY] at this
 exact this
theorem AHc {n nf : Nat} {l : List CO} (h : PL n nf l) (k : Int) {t : Int} (ht : ∃ y ∈ l, y.At = t) : Aj9 ⟨l, k⟩ t = some (plc l t : Int) := by
 have hlen := h.len
 obtain ⟨hp, he⟩ := Aw9 ht
 unfold Aj9 Aek
 dsimp only
 rcases Av6 (R := Int ⊕ Unit) l.length (body := Ac2 l t) (fun i => if h : i < l.length then (if l[i].At = t then some (.inl (i : Int)) else none) else none) (r0 := .inr ()) (fun i hi => by
   unfold Ac2 Amw
   rw [Bu (by rw [AS]; omega), Ac8 hi, AQg, AQg, wr1 (by omega), dif_pos hi]
   by_cases q : l[i].At = t
   ·rw [Bu (by rw [JY]; exact q), Bu q]
   ·rw [A7 (by rw [JY]; exact q), A7 q]) (by
   unfold Ac2
   rw [A7 (by rw [AS]; omega)]) l.length 0 (by omega) with ⟨r, ⟨j, _, hj, hP⟩, hl⟩ | ⟨hn, _⟩
 ·rw [dif_pos hj] at hP
  by_cases q : l[j].At = t
  ·rw [Bu q] at hP
   cases hP
   rw [show ((0 : Nat) : Int) = 0 from rfl] at hl
   rw [hl, AQg]
   dsimp only
   rw [AQg, h.uniq hp hj (he.trans q.symm)]
  ·rw [A7 q] at hP; cases hP
 ·have := hn (plc l t) (by omega) hp
  rw [dif_pos hp, Bu he] at this
  cases this
theorem AJp {n nf : Nat} {l : List CO} (h : PL n nf l) {x : CO} (hx : x ∈ l) : Aq0 x = some (ints (Adv x)) := by
 obtain ⟨a1, a2, a3, a4, a5, a6⟩ := h.ins x hx
 have hfew := h.few
 have hm := A8c (i := x) (fun q => (a5 q).1) a1
 have hst := Aw7 (i := x) (fun q => (a5 q).1) a1
 unfold Aq0
 rw [show (⟨x.At, x.Op, x.A, x.B⟩ : CO) = x from rfl, size_eq, Amg, AQg, A7 (by rw [JY]; omega)]
 have hpl : Asm x = some true := by
  unfold Asm
  rw [Bu (by rw [AS]; omega), decide_eq_true (by omega)]
 have hri : ∀ (mp : List (Int × Int)), mp.length ≤ 2 → (mp.map Prod.fst).Nodup → (∀ c, c ∈ mp.map Prod.fst ↔ (Ala x.Op = true ∧ c = x.A) ∨ (Amy x.Op = false ∧ c = x.At + siz x.Op)) → Ajp mp = some (ints (Adv x)) := by
  intro mp h1 h2 h3
  unfold Ajp
  rw [Bu (by omega), Arz (Asv h2) hst fun c => by rw [Atl, h3, hm]]
 rw [hpl, AQg, A7 (by simp), A12, AQg, AQg, A0k, AQg, AQg, Aec (n := x.At + (siz x.Op : Int)) (by omega) (by omega)]
 have nd1 : ((Ae7 ([] : List (Int × Int)) (x.At + (siz x.Op : Int)) 1).map Prod.fst).Nodup := by simp [Ae7]
 rcases he : Amy x.Op with _ | _
 ·rw [Bu (by rfl)]
  rcases hj : Ala x.Op with _ | _
  ·rw [A7 (by simp), hri _ (by simp [Ae7]) nd1 (fun c => by simp [Ae7, he, hj]), AQg]
  ·rw [Bu rfl, hri _ (Nat.le_trans (AI1 _ _ _) (by simp [Ae7])) (Aua nd1 _ _) (fun c => by
    rw [← Aov, Apy, Apy]
    by_cases q1 : c = x.A
    ·simp [q1, he, hj]
    ·rw [A7 q1]
     by_cases q2 : c = x.At + (siz x.Op : Int)
     ·simp [q2, he, hj]
     ·simp [q1, q2, he, hj, Adq]), AQg]
 ·rw [A7 (by simp)]
  rcases hj : Ala x.Op with _ | _
  ·rw [A7 (by simp), hri [] (by simp) (by simp) (fun c => by simp [he, hj]), AQg]
  ·rw [Bu rfl, hri _ (by simp [Ae7]) (by simp [Ae7]) (fun c => by simp [Ae7, he, hj]), AQg]
def scV (l : List CO) (i : Nat) : List Nat := match l[i]? with
 | none => []
 | some x => (Adv x).map fun (t : Nat) => plc l (t : Int)
theorem At9 {l : List CO} {i : Nat} (hi : i < l.length) : scV l i = (Adv l[i]).map fun (t : Nat) => plc l (t : Int) := by
 unfold scV
 rw [AQj hi]
theorem Ayb (x : CO) : (Adv x).length ≤ 3 := by
 unfold Adv
 rw [AQk, AQk]
 split <;> split <;> split <;> simp
theorem A25 (l : List CO) (i : Nat) : (scV l i).length ≤ 3 := by
 unfold scV
 split
 ·simp
 ·rw [AQl]; exact Ayb _
theorem Avk {n nf : Nat} {l : List CO} (h : PL n nf l) {i : Nat} : ∀ j ∈ scV l i, j < l.length := by
 intro j hj
 unfold scV at hj
 rcases hx : l[i]? with _ | x
 ·rw [hx] at hj; cases hj
 ·rw [hx] at hj
  obtain ⟨t, ht, rfl⟩ := List.mem_map.1 hj
  exact (Aw9 (h.nx x (AQ6 hx) t ht)).1
theorem Atd {n nf : Nat} {l : List CO} (h : PL n nf l) (i : Nat) : (scV l i).Nodup := by
 unfold scV
 rcases hx : l[i]? with _ | x
 ·exact List.nodup_nil
 ·have hmem := AQ6 hx
  obtain ⟨a1, a2, a3, a4, a5, a6⟩ := h.ins x hmem
  have hst := Aw7 (i := x) (fun q => (a5 q).1) a1
  unfold ints at hst
  rw [List.pairwise_map] at hst
  dsimp only
  rw [List.nodup_iff_pairwise_ne, List.pairwise_map]
  refine List.Pairwise.imp_of_mem (fun ha hb hab => ?_) hst
  rename_i a b
  intro heq
  obtain ⟨p1, p2⟩ := Aw9 (h.nx x hmem a ha)
  obtain ⟨q1, q2⟩ := Aw9 (h.nx x hmem b hb)
  have : l[plc l (a : Int)].At = l[plc l (b : Int)].At := by congr 1; simp only [heq]
  rw [p2, q2] at this
  omega
theorem AAt {n nf : Nat} {l : List CO} (h : PL n nf l) {i : Nat} (hi : i < l.length) : Ame l (i : Int) (n : Int) = some (ints (scV l i)) := by
 have hlen := h.len
 have hfew := h.few
 obtain ⟨a1, a2, a3, a4, a5, a6⟩ := h.ins l[i] (AQv hi)
 obtain ⟨a, ha⟩ := ARd a1
 obtain ⟨o1, o2⟩ := A08 (n := n) ha (by omega) (by omega) a6
 unfold Ame
 rw [Ac8 hi, AQg, AG7 (n := n) ha (by omega) (by omega) (fun q => (a5 q).1), AQg, o1]
 have hin : ∀ (acc : List Int) (r : Nat) (hr : r < (Adv l[i]).length), acc.length ≤ 1000 → Aa4 (Ahq l (ints (Adv l[i]), (onV l[i] n).2) (acc, (r : Int))) (acc, 0) = some (acc ++ [(plc l ((Adv l[i])[r] : Int) : Int)]) := by
  intro acc r hr hacc
  have hx : ∃ y ∈ l, y.At = ((Adv l[i])[r] : Int) := h.nx _ (AQv hi) _ (AQv hr)
  obtain ⟨p1, p2⟩ := Aw9 hx
  have hfil : ∀ k, k ≤ l.length → ((List.range k).filter fun j => decide (((l[j]?).map (·.At)) = some ((Adv l[i])[r] : Int))) = if plc l ((Adv l[i])[r] : Int) < k then [plc l ((Adv l[i])[r] : Int)] else [] := by
   intro k
   induction k with
   | zero => intro _; simp
   | succ k ih =>
    intro hk
    rw [AQz, AQx, ih (by omega), AQy]
    have hgk : l[k]? = some l[k] := AQj (by omega)
    by_cases q : k = plc l ((Adv l[i])[r] : Int)
    ·have : l[k].At = ((Adv l[i])[r] : Int) := by
      have : l[k] = l[plc l ((Adv l[i])[r] : Int)] := by congr 1
      rw [this, p2]
     rw [A7 (show ¬ plc l ((Adv l[i])[r] : Int) < k by omega), Bu (show decide (Option.map (fun x : CO => x.At) l[k]? = some ((Adv l[i])[r] : Int)) = true by rw [AS, hgk, AQi, this]), Bu (by omega), ← q]
     rfl
    ·have : ¬ l[k].At = ((Adv l[i])[r] : Int) := fun q2 => q (h.uniq (by omega) p1 (q2.trans p2.symm))
     rw [A7 (show ¬ (decide (Option.map (fun x : CO => x.At) l[k]? = some ((Adv l[i])[r] : Int)) = true) by rw [AS, hgk, AQi]; exact fun q2 => this (Option.some.inj q2))]
     by_cases q3 : plc l ((Adv l[i])[r] : Int) < k
     ·rw [Bu q3, Bu (by omega)]; simp
     ·rw [A7 q3, A7 (by omega)]; simp
  have := Akf l.length (body := Ahq l (ints (Adv l[i]), (onV l[i] n).2) (acc, (r : Int))) (r := acc ++ ints ((List.range l.length).filter fun j => decide (((l[j]?).map (·.At)) = some ((Adv l[i])[r] : Int)))) (fun k => (acc ++ ints ((List.range k).filter fun j => decide (((l[j]?).map (·.At)) = some ((Adv l[i])[r] : Int))), (k : Int))) (fun k hk => by
   unfold Ahq
   dsimp only
   have hgk : l[k]? = some l[k] := AQj hk
   have hir : idx (ints (Adv l[i])) (r : Int) = some ((Adv l[i])[r] : Int) := by
    unfold ints
    rw [Ac8 (by rw [AQl]; exact hr), List.getElem_map]
   have hl1 := hfil k (by omega)
   have hlen1 : (ints ((List.range k).filter fun j => decide (((l[j]?).map (·.At)) = some ((Adv l[i])[r] : Int)))).length ≤ 1 := by
    unfold ints
    rw [AQl, hl1]
    split <;> simp
   rw [Bu (by rw [AS]; omega), Ac8 hk, AQg, hir, AQg, wr1 (by omega)]
   conv => rhs; rw [AQz, AQx, AQy]
   by_cases q : l[k].At = ((Adv l[i])[r] : Int)
   ·rw [Bu (by rw [JY]; exact q), Ae6 (by rw [AQk, AQm]; omega), AQg, Bu (by rw [AS, hgk, AQi, q])]
    unfold ints
    rw [AQw, AQ4]
    rfl
   ·rw [A7 (by rw [JY]; exact q), A7 (by rw [AS, hgk, AQi]; exact fun q2 => q (Option.some.inj q2))]
    rw [List.filter_nil, AQ0]) (by
   unfold Ahq
   dsimp only
   rw [A7 (by rw [AS]; omega)]) (s0 := (acc, 0)) (by simp [ints])
  rw [this, hfil _ (Nat.le_refl _), Bu p1]
  rfl
 have hn3 := Ayb l[i]
 have := Akf (Adv l[i]).length (body := Aiz l (ints (Adv l[i]), (onV l[i] n).2)) (r := ints (scV l i)) (fun r => (ints (((Adv l[i]).take r).map fun (t : Nat) => plc l (t : Int)), (r : Int))) (fun r hr => by
  unfold Aiz
  dsimp only
  rw [Bu (by rw [AS]; unfold ints; rw [AQl]; omega), hin _ r hr (by unfold ints; rw [AQl, AQl, AQo]; omega), AQg, wr1 (by omega), ← AQ3 hr]
  unfold ints
  rw [AQw, AQw]
  rfl) (by
  unfold Aiz
  dsimp only
  rw [A7 (by rw [AS]; unfold ints; rw [AQl]; omega), ARb, At9 hi]) (s0 := (([] : List Int), 0)) (by simp [ints])
 rw [this, AQg]
end Go.Proofs.YtfcpkcehecmcpaaGreat
namespace Go.Proofs.YtfcpkcehecmcpaaGreat
open Go Go.RowKit Go.Pv
inductive Zz (n : Nat) (sc : Nat → List Nat) : Nat → Prop
 | mk (j : Nat) (hj : j < n) (h : ∀ i, i < n → j ∈ sc i → Zz n sc i) : Zz n sc j
def dgT (sc : Nat → List Nat) (D : List Nat) (j i : Nat) : Nat := if i ∈ D then 0 else if j ∈ sc i then 1 else 0
def dg (n : Nat) (sc : Nat → List Nat) (D : List Nat) (j : Nat) : Nat := Ak9 n (dgT sc D j)
structure Axc (n : Nat) (sc : Nat → List Nat) (D O : List Nat) (g : Nat → Int) : Prop where
 nd : (D ++ O).Nodup
 lt : ∀ x ∈ D ++ O, x < n
 cnt : ∀ j, j < n → g j = (dg n sc D j : Int)
 zero : ∀ j, j < n → (g j = 0 ↔ j ∈ D ++ O)
 z : ∀ j ∈ D ++ O, Zz n sc j
theorem A8r {F : Nat → Nat} : ∀ {n : Nat}, Ak9 n F = 0 ↔ ∀ i, i < n → F i = 0
 | 0 => by simp [Ak9]
 | n + 1 => by
  have ih := A8r (F := F) (n := n)
  simp only [Ak9]
  constructor
  ·intro h i hi
   by_cases q : i = n
   ·subst q; omega
   ·exact ih.1 (by omega) i (by omega)
  ·intro h
   have := ih.2 fun i hi => h i (by omega)
   have := h n (by omega)
   omega
theorem Azo {F G : Nat → Nat} : ∀ {n : Nat}, (∀ i, i < n → F i = G i) → Ak9 n F = Ak9 n G
 | 0, _ => rfl
 | n + 1, h => by
  simp only [Ak9]
  rw [Azo (n := n) fun i hi => h i (by omega), h n (by omega)]
theorem ADb {F G : Nat → Nat} {x c : Nat} : ∀ {n : Nat}, x < n → (∀ i, i < n → i ≠ x → F i = G i) → F x = G x + c → Ak9 n F = Ak9 n G + c
 | n + 1, hx, h, hc => by
  simp only [Ak9]
  by_cases q : x = n
  ·subst q
   rw [Azo (n := x) (F := F) (G := G) fun i hi => h i (by omega) (by omega), hc]
   omega
  ·rw [ADb (n := n) (x := x) (c := c) (by omega) (fun i hi => h i (by omega)) hc, h n (by omega) (by omega)]
   omega
theorem A3j {n : Nat} {sc : Nat → List Nat} {D : List Nat} {j : Nat} : dg n sc D j = 0 ↔ ∀ i, i < n → j ∈ sc i → i ∈ D := by
 unfold dg
 rw [A8r]
 unfold dgT
 constructor
 ·intro h i hi hj
  have := h i hi
  by_cases q : i ∈ D
  ·exact q
  ·rw [A7 q, Bu hj] at this; cases this
 ·intro h i hi
  by_cases q : i ∈ D
  ·rw [Bu q]
  ·rw [A7 q, A7 (fun q2 => q (h i hi q2))]
theorem Axc.step {n : Nat} {sc : Nat → List Nat} {D O : List Nat} {g : Nat → Int} (K : Axc n sc D O g) (hnd : ∀ i, (sc i).Nodup) (hlt : ∀ i, ∀ j ∈ sc i, j < n) {x : Nat} {O' : List Nat} (hp : O.Perm (x :: O')) :
  Axc n sc (D ++ [x]) (O' ++ (sc x).filter fun j => decide (g j = 1)) (fun j => g j - if j ∈ sc x then 1 else 0) := by
 have hxO : x ∈ O := hp.mem_iff.2 (by simp)
 have hx := K.lt x (by simp [hxO])
 have hnd0 := K.nd
 rw [List.nodup_append] at hnd0
 obtain ⟨n1, n2, n3⟩ := hnd0
 have hxD : x ∉ D := fun q => n3 x q x hxO rfl
 have hO' : ∀ y, y ∈ O ↔ y = x ∨ y ∈ O' := fun y => by rw [hp.mem_iff, AQr]
 have hcons : (x :: O').Nodup := hp.nodup_iff.1 n2
 rw [List.nodup_cons] at hcons
 have hg1 : ∀ j, j ∈ sc x → 1 ≤ g j := by
  intro j hj
  have hj' := hlt x j hj
  rw [K.cnt j hj']
  have : dg n sc D j ≠ 0 := fun q => hxD (A3j.1 q x hx hj)
  omega
 have hcnt : ∀ j, j < n → g j - (if j ∈ sc x then 1 else 0) = (dg n sc (D ++ [x]) j : Int) := by
  intro j hj
  have : dg n sc D j = dg n sc (D ++ [x]) j + (if j ∈ sc x then 1 else 0) := by
   unfold dg
   refine ADb hx (fun i hi hne => ?_) ?_
   ·unfold dgT
    by_cases q : i ∈ D
    ·rw [Bu q, Bu (show i ∈ D ++ [x] by simp [q])]
    ·rw [A7 q, A7 (show ¬ i ∈ D ++ [x] by simp [q, hne])]
   ·unfold dgT
    rw [A7 hxD, Bu (show x ∈ D ++ [x] by simp)]
    omega
  rw [K.cnt j hj, this]
  split <;> omega
 have hz : ∀ j, j < n → (g j - (if j ∈ sc x then 1 else 0) = 0 ↔ j ∈ (D ++ [x]) ++ (O' ++ (sc x).filter fun j => decide (g j = 1))) := by
  intro j hj
  have hz0 := K.zero j hj
  rw [AQp] at hz0
  rw [AQp, AQp, AQp, AQq, AQs, AS]
  by_cases q : j ∈ sc x
  ·have := hg1 j q
   rw [Bu q]
   constructor
   ·intro h
    exact Or.inr (Or.inr ⟨q, by omega⟩)
   ·rintro ((h | h) | h | h)
    ·have := hz0.2 (Or.inl h); omega
    ·subst h
     have := hz0.2 (Or.inr hxO); omega
    ·have := hz0.2 (Or.inr ((hO' j).2 (Or.inr h))); omega
    ·omega
  ·rw [A7 q]
   constructor
   ·intro h
    rcases hz0.1 (by omega) with h | h
    ·exact Or.inl (Or.inl h)
    ·rcases (hO' j).1 h with h | h
     ·exact Or.inl (Or.inr h)
     ·exact Or.inr (Or.inl h)
   ·rintro ((h | h) | h | h)
    ·have := hz0.2 (Or.inl h); omega
    ·subst h
     have := hz0.2 (Or.inr hxO); omega
    ·have := hz0.2 (Or.inr ((hO' j).2 (Or.inr h))); omega
    ·exact absurd h.1 q
 have hold : ∀ j, j ∈ (D ++ [x]) ++ O' ↔ j ∈ D ++ O := by
  intro j
  rw [AQp, AQp, AQp, AQq, hO']
  constructor
  ·rintro ((h | h) | h)
   ·exact Or.inl h
   ·exact Or.inr (Or.inl h)
   ·exact Or.inr (Or.inr h)
  ·rintro (h | h | h)
   ·exact Or.inl (Or.inl h)
   ·exact Or.inl (Or.inr h)
   ·exact Or.inr h
 refine ⟨?_, fun y hy => ?_, hcnt, hz, fun y hy => ?_⟩
 ·rw [← AQ4, List.nodup_append]
  refine ⟨?_, (hnd x).filter _, fun a ha b hb hab => ?_⟩
  ·rw [AQ4, List.nodup_append]
   refine ⟨n1, ?_, fun a ha b hb hab => ?_⟩
   ·rw [List.singleton_append, List.nodup_cons]; exact hcons
   ·rw [List.singleton_append, AQr, ← hO'] at hb
    exact n3 a ha b hb hab
  ·subst hab
   rw [AQs, AS] at hb
   have := (K.zero a (hlt x a hb.1)).2 ((hold a).1 ha)
   omega
 ·rw [← AQ4, AQp] at hy
  rcases hy with h | h
  ·exact K.lt y ((hold y).1 h)
  ·rw [AQs] at h
   exact hlt x y h.1
 ·have hy' := hy
  rw [← AQ4, AQp] at hy
  rcases hy with h | h
  ·exact K.z y ((hold y).1 h)
  ·rw [AQs] at h
   have hyn := hlt x y h.1
   have h0 := (hz y hyn).2 hy'
   rw [hcnt y hyn] at h0
   refine Zz.mk y hyn fun i hi hji => ?_
   have := A3j.1 (show dg n sc (D ++ [x]) y = 0 by omega) i hi hji
   rw [AQp, AQq] at this
   rcases this with q | q
   ·exact K.z i (by simp [q])
   ·subst q
    exact K.z i (by simp [hxO])
theorem Axc.fin {n : Nat} {sc : Nat → List Nat} {D : List Nat} {g : Nat → Int} (K : Axc n sc D [] g) (j : Nat) : j ∈ D ↔ Zz n sc j := by
 constructor
 ·intro h
  exact K.z j (by simp [h])
 ·intro h
  induction h with
  | mk j hj h ih =>
   have : g j = 0 := by
    rw [K.cnt j hj]
    have : dg n sc D j = 0 := A3j.2 fun i hi hji => ih i hi hji
    omega
   have := (K.zero j hj).1 this
   rw [AQ0] at this
   exact this
theorem Az4 {l : List Nat} (h : l.Nodup) : (ints l).Nodup := by
 unfold ints
 rw [List.nodup_iff_pairwise_ne, List.pairwise_map]
 rw [List.nodup_iff_pairwise_ne] at h
 exact h.imp fun hab q => hab (by omega)
theorem AJi {l m : List Nat} (hl : l.Nodup) (hm : m.Nodup) (h : ∀ j, j ∈ l ↔ j ∈ m) : l.length = m.length := by
 have := Arz (Asv (Az4 hl)) (Asv (Az4 hm)) fun a => by
  rw [Atl, Atl]
  unfold ints
  rw [AQu, AQu]
  constructor
  ·rintro ⟨j, hj, rfl⟩; exact ⟨j, (h j).1 hj, rfl⟩
  ·rintro ⟨j, hj, rfl⟩; exact ⟨j, (h j).2 hj, rfl⟩
 have := congrArg List.length this
 rw [Avj, Avj] at this
 unfold ints at this
 rw [AQl, AQl] at this
 exact this
theorem AOa {l : List Nat} {n : Nat} (hl : l.Nodup) (h : ∀ x ∈ l, x < n) : l.length ≤ n := by
 have := Az1 (a := 0) (n := n) (Asv (Az4 hl)) (fun x hx => by
  rw [Atl] at hx
  unfold ints at hx
  obtain ⟨j, hj, rfl⟩ := List.mem_map.1 hx
  have := h j hj
  omega) (by omega)
 rw [Avj] at this
 unfold ints at this
 rw [AQl] at this
 omega
def Rep (L : List Int) (n : Nat) (g : Nat → Int) : Prop := L.length = n ∧ ∀ j, j < n → L[j]? = some (g j)
theorem Rep.set {L : List Int} {n : Nat} {g : Nat → Int} (h : Rep L n g) {k : Nat} (hk : k < n) (x : Int) : Rep (L.set k x) n (fun j => if j = k then x else g j) := by
 refine ⟨by rw [AQn]; exact h.1, fun j hj => ?_⟩
 rw [List.getElem?_set]
 dsimp only
 by_cases q : k = j
 ·rw [Bu q, Bu (by rw [h.1]; exact hk), Bu q.symm]
 ·rw [A7 q, A7 (fun q2 => q q2.symm)]
  exact h.2 j hj
theorem Rep.congr {L : List Int} {n : Nat} {g g' : Nat → Int} (h : Rep L n g) (he : ∀ j, j < n → g j = g' j) : Rep L n g' := ⟨h.1, fun j hj => by rw [h.2 j hj, he j hj]⟩
theorem ABe {n : Nat} (sc : List Nat) (hnd : sc.Nodup) (hlt : ∀ j ∈ sc, j < n) {body : List Int × Int → Option ((List Int × Int) ⊕ List Int)} {g : Nat → Int} (hg : ∀ j, j < n → 0 ≤ g j ∧ g j ≤ 1000000)
  (hs : ∀ (r : Nat) (hr : r < sc.length) (L : List Int) (x : Int), L.length = n → L[sc[r]]? = some x → body (L, (r : Int)) = some (.inl (L.set sc[r] (wr (x + 1)), ((r + 1 : Nat) : Int)))) (he : ∀ L, body (L, (sc.length : Int)) = some (.inr L)) {L : List Int} (hL : Rep L n g) :
  ∃ L', Aa4 body (L, 0) = some L' ∧ Rep L' n (fun j => g j + if j ∈ sc then 1 else 0) := by
 obtain ⟨r, h1, h2⟩ := Ay4 sc.length (body := body) (fun i s => s.2 = (i : Int) ∧ Rep s.1 n (fun j => g j + if j ∈ sc.take i then 1 else 0)) (Post := fun L' => Rep L' n (fun j => g j + if j ∈ sc then 1 else 0)) (fun i s hi hI => by
  obtain ⟨L1, k⟩ := s
  obtain ⟨q1, q2⟩ := hI
  dsimp only at q1 q2
  subst q1
  have hsi := hlt _ (AQv hi)
  have hmem : ∀ j, j ∈ sc.take (i + 1) ↔ j ∈ sc.take i ∨ j = sc[i] := fun j => by rw [← AQ3 hi, AQp, AQq]
  have hnot : sc[i] ∉ sc.take i := by
   intro hm
   obtain ⟨j, hj, he⟩ := List.mem_iff_getElem.1 hm
   rw [AQo] at hj
   rw [ARa] at he
   have := (List.pairwise_iff_getElem.1 (List.nodup_iff_pairwise_ne.1 hnd)) j i (by omega) hi (by omega)
   exact this he
  have hget := q2.2 _ hsi
  dsimp only at hget
  rw [A7 hnot] at hget
  have hb := hg _ hsi
  refine Or.inl ⟨_, hs i hi L1 _ q2.1 hget, rfl, ?_⟩
  rw [Aec (by omega) (by omega)]
  refine (q2.set hsi _).congr fun j hj => ?_
  by_cases q : j = sc[i]
  ·rw [Bu q, q, Bu ((hmem _).2 (Or.inr rfl))]
   omega
  ·rw [A7 q]
   by_cases q3 : j ∈ sc.take i
   ·rw [Bu q3, Bu ((hmem _).2 (Or.inl q3))]
   ·rw [A7 q3, A7 (fun q5 => ((hmem _).1 q5).elim q3 q)]) (fun s hI => by
  obtain ⟨L1, k⟩ := s
  obtain ⟨q1, q2⟩ := hI
  dsimp only at q1 q2
  subst q1
  rw [ARb] at q2
  exact ⟨_, he L1, q2⟩) sc.length 0 (L, 0) (by omega) ⟨rfl, hL.congr fun j hj => by simp⟩
 exact ⟨r, h1, h2⟩
theorem A95 {n : Nat} (sc : List Nat) (hnd : sc.Nodup) (hlt : ∀ j ∈ sc, j < n) (h3 : sc.length ≤ 3) {body : List Int × List Int × Int → Option ((List Int × List Int × Int) ⊕ (List Int × List Int))} {g : Nat → Int} (hg : ∀ j, j < n → 0 ≤ g j ∧ g j ≤ 1000000)
  (hs : ∀ (r : Nat) (hr : r < sc.length) (L O : List Int) (x : Int), L.length = n → O.length ≤ 10000 → L[sc[r]]? = some x → body (L, O, (r : Int)) = some (.inl (L.set sc[r] (wr (x - 1)), (if wr (x - 1) = 0 then O ++ [(sc[r] : Int)] else O), ((r + 1 : Nat) : Int)))) (he : ∀ L O, body (L, O, (sc.length : Int)) = some (.inr (L, O))) {L O : List Int} (hL : Rep L n g) (hO : O.length ≤ 8000) :
  ∃ L', Aa4 body (L, O, 0) = some (L', O ++ ints (sc.filter fun j => decide (g j = 1))) ∧ Rep L' n (fun j => g j - if j ∈ sc then 1 else 0) := by
 obtain ⟨r, h1, h2⟩ := Ay4 sc.length (body := body) (fun i s => s.2.2 = (i : Int) ∧ Rep s.1 n (fun j => g j - if j ∈ sc.take i then 1 else 0) ∧ s.2.1 = O ++ ints ((sc.take i).filter fun j => decide (g j = 1))) (Post := fun p => Rep p.1 n (fun j => g j - if j ∈ sc then 1 else 0) ∧ p.2 = O ++ ints (sc.filter fun j => decide (g j = 1))) (fun i s hi hI => by
  obtain ⟨L1, O1, k⟩ := s
  obtain ⟨q1, q2, q4⟩ := hI
  dsimp only at q1 q2 q4
  subst q1
  subst q4
  have hsi := hlt _ (AQv hi)
  have hmem : ∀ j, j ∈ sc.take (i + 1) ↔ j ∈ sc.take i ∨ j = sc[i] := fun j => by rw [← AQ3 hi, AQp, AQq]
  have hnot : sc[i] ∉ sc.take i := by
   intro hm
   obtain ⟨j, hj, he⟩ := List.mem_iff_getElem.1 hm
   rw [AQo] at hj
   rw [ARa] at he
   have := (List.pairwise_iff_getElem.1 (List.nodup_iff_pairwise_ne.1 hnd)) j i (by omega) hi (by omega)
   exact this he
  have hget := q2.2 _ hsi
  dsimp only at hget
  rw [A7 hnot] at hget
  have hb := hg _ hsi
  have hOl : (O ++ ints ((sc.take i).filter fun j => decide (g j = 1))).length ≤ 10000 := by
   rw [AQk]
   unfold ints
   rw [AQl]
   have := AQ7 (fun j => decide (g j = 1)) (sc.take i)
   rw [AQo] at this
   omega
  refine Or.inl ⟨_, hs i hi L1 _ _ q2.1 hOl hget, rfl, ?_, ?_⟩
  ·rw [Aec (by omega) (by omega)]
   refine (q2.set hsi _).congr fun j hj => ?_
   by_cases q : j = sc[i]
   ·rw [Bu q, q, Bu ((hmem _).2 (Or.inr rfl))]
    omega
   ·rw [A7 q]
    by_cases q3 : j ∈ sc.take i
    ·rw [Bu q3, Bu ((hmem _).2 (Or.inl q3))]
    ·rw [A7 q3, A7 (fun q5 => ((hmem _).1 q5).elim q3 q)]
  ·rw [Aec (by omega) (by omega)]
   dsimp only
   rw [← AQ3 hi, AQx, AQy]
   by_cases q : g sc[i] = 1
   ·rw [Bu (by omega), Bu (by rw [AS]; exact q)]
    unfold ints
    rw [AQw, AQ4]
    rfl
   ·rw [A7 (by omega), A7 (by rw [AS]; exact q), List.filter_nil, AQ0]) (fun s hI => by
  obtain ⟨L1, O1, k⟩ := s
  obtain ⟨q1, q2, q4⟩ := hI
  dsimp only at q1 q2 q4
  subst q1
  rw [ARb] at q2 q4
  exact ⟨_, he L1 O1, q2, q4⟩) sc.length 0 (L, O, 0) (by omega) ⟨rfl, hL.congr fun j hj => by simp, by simp [ints]⟩
 obtain ⟨L', O'⟩ := r
 dsimp only at h2
 rw [h2.2] at h1
 exact ⟨L', h1, h2.1⟩
end Go.Proofs.YtfcpkcehecmcpaaGreat
namespace Go.Proofs.YtfcpkcehecmcpaaGreat
open Go Go.RowKit Go.Pv
def A4a (sc : Nat → List Nat) (j i : Nat) : Nat := if j ∈ sc i then 1 else 0
theorem AE9 (sc : Nat → List Nat) (j : Nat) : ∀ i, Ak9 i (A4a sc j) ≤ i
 | 0 => Nat.le_refl _
 | i + 1 => by
  have := AE9 sc j i
  simp only [Ak9]
  unfold A4a at *
  split <;> omega
theorem AL3 (n : Nat) (sc : Nat → List Nat) (j : Nat) : Ak9 n (A4a sc j) = dg n sc [] j := by
 unfold dg
 refine Azo fun i _ => ?_
 unfold A4a dgT
 rw [A7 (show ¬ i ∈ ([] : List Nat) by simp)]
theorem AC6 {n : Nat} (h : n ≤ 4096) : mkO 8 (n : Int) (0 : Int) = some (List.replicate n 0) := A58 (by omega) (by omega)
theorem AO5 (n : Nat) (sc : Nat → List Nat) : Rep (List.replicate n 0) n (fun j => (Ak9 0 (A4a sc j) : Int)) := by
 refine ⟨by simp, fun j hj => ?_⟩
 rw [AQj (by simpa using hj), List.getElem_replicate]
 rfl
theorem A5m {n nf k : Nat} {l : List CO} (h : PL n nf l) (hk : k = l.length) {body : List Int × Int → Option ((List Int × Int) ⊕ List Int)}
  (hs : ∀ (i : Nat) (hi : i < l.length) (L : List Int) (g : Nat → Int), (∀ j, j < l.length → 0 ≤ g j ∧ g j ≤ 1000000) → Rep L l.length g → ∃ L', body (L, (i : Int)) = some (.inl (L', ((i + 1 : Nat) : Int))) ∧ Rep L' l.length (fun j => g j + if j ∈ scV l i then 1 else 0)) (he : ∀ L, body (L, (l.length : Int)) = some (.inr L)) :
  ∃ L, Aa4 body (List.replicate k 0, 0) = some L ∧ Rep L l.length (fun j => (dg l.length (scV l) [] j : Int)) := by
 subst hk
 have hlen := h.len
 obtain ⟨r, h1, h2⟩ := Ay4 l.length (body := body) (fun i s => s.2 = (i : Int) ∧ Rep s.1 l.length (fun j => (Ak9 i (A4a (scV l) j) : Int))) (Post := fun L => Rep L l.length (fun j => (dg l.length (scV l) [] j : Int))) (fun i s hi hI => by
  obtain ⟨L1, q⟩ := s
  obtain ⟨q1, q2⟩ := hI
  dsimp only at q1 q2
  subst q1
  obtain ⟨L', b1, b2⟩ := hs i hi L1 _ (fun j _ => ⟨by omega, by have := AE9 (scV l) j i; omega⟩) q2
  refine Or.inl ⟨_, b1, rfl, b2.congr fun j hj => ?_⟩
  simp only [Ak9]
  unfold A4a
  split <;> omega) (fun s hI => by
  obtain ⟨L1, q⟩ := s
  obtain ⟨q1, q2⟩ := hI
  dsimp only at q1 q2
  subst q1
  exact ⟨_, he L1, q2.congr fun j _ => by rw [AL3]⟩) l.length 0 (List.replicate l.length 0, 0) (by omega) ⟨rfl, AO5 _ _⟩
 exact ⟨r, h1, h2⟩
def Avd (n : Nat) (g : Nat → Int) : List Nat := (List.range n).filter fun i => decide (g i = 0)
theorem A8m {n : Nat} (hn : n ≤ 4096) {g : Nat → Int} {L : List Int} (hL : Rep L n g) {body : List Int × Int → Option ((List Int × Int) ⊕ List Int)}
  (hs : ∀ (i : Nat) (hi : i < n) (acc : List Int) (x : Int), L[i]? = some x → acc.length ≤ 10000 → body (acc, (i : Int)) = some (.inl ((if x = 0 then acc ++ [(i : Int)] else acc), ((i + 1 : Nat) : Int)))) (he : ∀ acc, body (acc, (n : Int)) = some (.inr acc)) : Aa4 body ([], 0) = some (ints (Avd n g)) := by
 refine Akf n (fun i => (ints (Avd i g), (i : Int))) (fun i hi => ?_) (he _) rfl
 have hlen : (ints (Avd i g)).length ≤ i := by
  unfold ints Avd
  rw [AQl]
  exact Nat.le_trans (AQ7 _ _) (by rw [AQ8]; exact Nat.le_refl _)
 rw [hs i hi _ _ (hL.2 i hi) (by omega)]
 congr 2
 refine Prod.ext ?_ rfl
 dsimp only
 unfold Avd ints
 rw [AQz, AQx, AQw, AQy]
 by_cases q : g i = 0
 ·rw [Bu q, Bu (by rw [AS]; exact q)]; rfl
 ·rw [A7 q, A7 (by rw [AS]; exact q), List.filter_nil, List.map_nil, AQ0]
theorem AJ1 (n : Nat) (sc : Nat → List Nat) : Axc n sc [] (Avd n fun j => (dg n sc [] j : Int)) (fun j => (dg n sc [] j : Int)) := by
 have hm : ∀ j, j ∈ Avd n (fun j => (dg n sc [] j : Int)) ↔ j < n ∧ dg n sc [] j = 0 := by
  intro j
  unfold Avd
  rw [AQs, AQt, AS]
  dsimp only
  constructor
  ·rintro ⟨a, b⟩; exact ⟨a, by omega⟩
  ·rintro ⟨a, b⟩; exact ⟨a, by omega⟩
 refine ⟨?_, fun x hx => ?_, fun j hj => rfl, fun j hj => ?_, fun j hj => ?_⟩
 ·rw [AQ1]
  exact List.nodup_range.filter _
 ·rw [AQ1, hm] at hx
  exact hx.1
 ·rw [AQ1, hm]
  constructor
  ·intro q; exact ⟨hj, by omega⟩
  ·rintro ⟨_, q⟩; omega
 ·rw [AQ1, hm] at hj
  exact Zz.mk j hj.1 fun i hi hji => by
   have := A3j.1 hj.2 i hi hji
   cases this
theorem AOr (n : Nat) (sc : Nat → List Nat) (D : List Nat) (j : Nat) : dg n sc D j ≤ n := by
 have := Azi (F := dgT sc D j) (k := 1) (n := n) fun i _ => by
  unfold dgT
  split
  ·omega
  ·split <;> omega
 unfold dg
 omega
theorem Axc.small {n : Nat} {sc : Nat → List Nat} {D O : List Nat} {g : Nat → Int} (K : Axc n sc D O g) (hn : n ≤ 4096) : (∀ j, j < n → 0 ≤ g j ∧ g j ≤ 1000000) ∧ D.length + O.length ≤ n := by
 constructor
 ·intro j hj
  rw [K.cnt j hj]
  have := AOr n sc D j
  omega
 ·have := AOa K.nd K.lt
  rw [AQk] at this
  exact this
theorem AEj {n nf : Nat} {l : List CO} (h : PL n nf l) {body : List Int × Int × List Int → Option ((List Int × Int × List Int) ⊕ Int)}
  (hs : ∀ (L : List Int) (d : Nat) (O' : List Nat) (x : Nat) (g : Nat → Int), d ≤ 10000 → (O'.length) ≤ 7000 → x < l.length → (∀ j, j < l.length → 0 ≤ g j ∧ g j ≤ 1000000) → Rep L l.length g → ∃ L', body (L, (d : Int), ints (O' ++ [x])) = some (.inl (L', ((d + 1 : Nat) : Int), ints (O' ++ (scV l x).filter fun j => decide (g j = 1)))) ∧ Rep L' l.length (fun j => g j - if j ∈ scV l x then 1 else 0)) (he : ∀ L (d : Int), body (L, d, []) = some (.inr d)) :
  ∀ (m : Nat) (D O : List Nat) (g : Nat → Int) (L : List Int), l.length ≤ D.length + m → Axc l.length (scV l) D O g → Rep L l.length g → ∃ D' : List Nat, Aa4 body (L, (D.length : Int), ints O) = some (D'.length : Int) ∧ D'.Nodup ∧ ∀ j, j ∈ D' ↔ Zz l.length (scV l) j := by
 have hlen := h.len
 intro m
 induction m with
 | zero =>
  intro D O g L hm K hL
  have hsm := (K.small hlen).2
  have : O = [] := List.length_eq_zero_iff.1 (by omega)
  subst this
  exact ⟨D, Ada (he _ _), by have := K.nd; rwa [AQ0] at this, K.fin⟩
 | succ m ih =>
  intro D O g L hm K hL
  obtain ⟨hg, hsm⟩ := K.small hlen
  rcases List.eq_nil_or_concat O with rfl | ⟨O', x, rfl⟩
  ·exact ⟨D, Ada (he _ _), by have := K.nd; rwa [AQ0] at this, K.fin⟩
  ·rw [List.concat_eq_append] at *
   rw [AQk, AQm] at hsm
   have hx := K.lt x (by simp)
   obtain ⟨L', b1, b2⟩ := hs L D.length O' x g (by omega) (by omega) hx hg hL
   have K' := K.step (Atd h) (fun i => Avk h) (x := x) (O' := O') List.perm_append_comm
   obtain ⟨D', c1, c2⟩ := ih (D ++ [x]) _ _ L' (by rw [AQk, AQm]; omega) K' b2
   rw [AQk, AQm] at c1
   exact ⟨D', by rw [Afd b1]; exact c1, c2⟩
theorem ADm {n nf : Nat} {l : List CO} (h : PL n nf l) {body : List Int × List Int × Int → Option ((List Int × List Int × Int) ⊕ List Int)}
  (hs : ∀ (L : List Int) (D O' : List Nat) (x : Nat) (g : Nat → Int), (D ++ x :: O').length ≤ 7000 → x < l.length → (∀ j, j < l.length → 0 ≤ g j ∧ g j ≤ 1000000) → Rep L l.length g → ∃ L', body (L, ints (D ++ x :: O'), (D.length : Int)) = some (.inl (L', ints (D ++ x :: O') ++ ints ((scV l x).filter fun j => decide (g j = 1)), ((D.length + 1 : Nat) : Int))) ∧ Rep L' l.length (fun j => g j - if j ∈ scV l x then 1 else 0)) (he : ∀ L (N : List Int), N.length ≤ 10000 → body (L, N, (N.length : Int)) = some (.inr N)) :
  ∀ (m : Nat) (D O : List Nat) (g : Nat → Int) (L : List Int), l.length ≤ D.length + m → Axc l.length (scV l) D O g → Rep L l.length g → ∃ D' : List Nat, Aa4 body (L, ints (D ++ O), (D.length : Int)) = some (ints D') ∧ D'.Nodup ∧ ∀ j, j ∈ D' ↔ Zz l.length (scV l) j := by
 have hlen := h.len
 have Aew : ∀ (D : List Nat) (g : Nat → Int) (L : List Int), Axc l.length (scV l) D [] g → ∃ D' : List Nat, Aa4 body (L, ints (D ++ []), (D.length : Int)) = some (ints D') ∧ D'.Nodup ∧ ∀ j, j ∈ D' ↔ Zz l.length (scV l) j := by
  intro D g L K
  have hsm := (K.small hlen).2
  rw [AQ0]
  have := he L (ints D) (by unfold ints; rw [AQl]; simp at hsm; omega)
  unfold ints at this
  rw [AQl] at this
  exact ⟨D, Ada this, by have := K.nd; rwa [AQ0] at this, K.fin⟩
 intro m
 induction m with
 | zero =>
  intro D O g L hm K hL
  have hsm := (K.small hlen).2
  have : O = [] := List.length_eq_zero_iff.1 (by omega)
  subst this
  exact Aew D g L K
 | succ m ih =>
  intro D O g L hm K hL
  obtain ⟨hg, hsm⟩ := K.small hlen
  rcases O with _ | ⟨x, O'⟩
  ·exact Aew D g L K
  ·have hx := K.lt x (by simp)
   obtain ⟨L', b1, b2⟩ := hs L D O' x g (by rw [AQk]; omega) hx hg hL
   have K' := K.step (Atd h) (fun i => Avk h) (x := x) (O' := O') (List.Perm.refl _)
   obtain ⟨D', c1, c2⟩ := ih (D ++ [x]) _ _ L' (by rw [AQk, AQm]; omega) K' b2
   rw [AQk, AQm] at c1
   refine ⟨D', ?_, c2⟩
   rw [Afd b1]
   have he : ints ((D ++ [x]) ++ (O' ++ (scV l x).filter fun j => decide (g j = 1))) = ints (D ++ x :: O') ++ ints ((scV l x).filter fun j => decide (g j = 1)) := by
    unfold ints
    rw [← AQw]
    congr 1
    simp
   rw [he] at c1
   exact c1
theorem Au0 {l : List Nat} {r : Nat} (hr : r < l.length) : idx (ints l) (r : Int) = some (l[r] : Int) := by
 unfold ints
 rw [Ac8 (by rw [AQl]; exact hr), List.getElem_map]
theorem Akw (l : List Nat) : (ints l).length = l.length := AQl _
theorem AC3 {n nf : Nat} {l : List CO} (h : PL n nf l) {i : Nat} (hi : i < l.length) : Aq0 l[i] = some (ints (Adv l[i])) := AJp h (AQv hi)
theorem AHb {n nf : Nat} {l : List CO} (h : PL n nf l) (k : Int) : ∃ D : List Nat, Ank ⟨l, k⟩ = some (decide ((D.length : Int) < l.length)) ∧ D.Nodup ∧ ∀ j, j ∈ D ↔ Zz l.length (scV l) j := by
 have hlen := h.len
 have hpl : ∀ {i : Nat} (hi : i < l.length) {r : Nat} (hr : r < (Adv l[i]).length), Aj9 ⟨l, k⟩ ((Adv l[i])[r] : Int) = some (plc l ((Adv l[i])[r] : Int) : Int) := fun {i} hi {r} hr => AHc h k (h.nx _ (AQv hi) _ (AQv hr))
 unfold Ank
 rw [AC6 hlen, AQg]
 obtain ⟨L0, l1, l2⟩ := A5m h rfl (body := Aii ⟨l, k⟩) (fun i hi L g hg hL => by
  obtain ⟨L', a1, a2⟩ := ABe (scV l i) (Atd h i) (Avk h) (body := Ail ⟨l, k⟩ (ints (Adv l[i]))) hg (fun r hr L x hLl hx => by
   rw [At9 hi, AQl] at hr
   have hsr : (scV l i)[r]'(by rw [At9 hi, AQl]; exact hr) = plc l ((Adv l[i])[r] : Int) := by simp only [At9 hi, List.getElem_map]
   rw [hsr] at hx ⊢
   unfold Ail
   dsimp only
   have hn3 := Ayb l[i]
   rw [Akw, Bu (by rw [AS]; omega), Au0 hr, AQg, hpl hi hr, AQg, Ajb hx, AQg, AQg, ARc, wr1 (by omega)]) (fun L => by
   unfold Ail
   dsimp only
   rw [Akw, At9 hi, AQl, A7 (by rw [AS]; omega)]) hL
  refine ⟨L', ?_, a2⟩
  unfold Aii
  dsimp only
  rw [Bu (by rw [AS]; omega), Ac8 hi, AQg, show (⟨l[i].At, l[i].Op, l[i].A, l[i].B⟩ : CO) = l[i] from rfl, AC3 h hi, AQg, a1, AQg, wr1 (by omega)]) (fun L => by
  unfold Aii
  dsimp only
  rw [A7 (by rw [AS]; omega)])
 dsimp only
 rw [l1, AQg, A8m hlen l2 (fun i hi acc x hx hacc => by
  unfold Ajt
  dsimp only
  rw [Bu (by rw [AS, l2.1]; omega), Ajb hx, AQg, wr1 (by omega)]
  by_cases q : x = 0
  ·rw [Bu (by rw [JY]; exact q), Bu q, Ae6 (by simp; omega), AQg]
  ·rw [A7 (by rw [JY]; exact q), A7 q]) (fun acc => by
  unfold Ajt
  dsimp only
  rw [A7 (by rw [AS, l2.1]; omega)]), AQg]
 obtain ⟨D, d1, d2⟩ := AEj h (body := Ag0 ⟨l, k⟩) (fun L d O' x g hd hO hx hg hL => by
  obtain ⟨L', a1, a2⟩ := A95 (scV l x) (Atd h x) (Avk h) (A25 l x) (body := Aik ⟨l, k⟩ (ints (Adv l[x]))) hg (fun r hr L O y hLl hOl hy => by
   rw [At9 hx, AQl] at hr
   have hsr : (scV l x)[r]'(by rw [At9 hx, AQl]; exact hr) = plc l ((Adv l[x])[r] : Int) := by simp only [At9 hx, List.getElem_map]
   rw [hsr] at hy ⊢
   have hpl2 : plc l ((Adv l[x])[r] : Int) < l.length := by rw [← hsr]; exact Avk h _ (AQv _)
   unfold Aik
   dsimp only
   have hn3 := Ayb l[x]
   have hset : idx (L.set (plc l ((Adv l[x])[r] : Int)) (wr (y - 1))) (plc l ((Adv l[x])[r] : Int) : Int) = some (wr (y - 1)) := Ajb (by rw [List.getElem?_set, Bu rfl, Bu (by omega)])
   rw [Akw, Bu (by rw [AS]; omega), Au0 hr, AQg, hpl hx hr, AQg, Ajb hy, AQg, AQg, ARc, hset, AQg, wr1 (by omega)]
   by_cases q : wr (y - 1) = 0
   ·rw [Bu (by rw [JY]; exact q), Bu q, Ae6 (by simp; omega), AQg]
   ·rw [A7 (by rw [JY]; exact q), A7 q]) (fun L O => by
   unfold Aik
   dsimp only
   rw [Akw, At9 hx, AQl, A7 (by rw [AS]; omega)]) hL (O := ints O') (by rw [Akw]; omega)
  refine ⟨L', ?_, a2⟩
  unfold Ag0
  dsimp only
  have e1 : (ints (O' ++ [x])).length = O'.length + 1 := by rw [Akw, AQk]; rfl
  have e2 : ints (O' ++ [x]) = ints O' ++ [(x : Int)] := by unfold ints; rw [AQw]; rfl
  rw [e1, Bu (by rw [AS]; omega), show wr (((O'.length + 1 : Nat) : Int) - 1) = (O'.length : Int) from by rw [Aec (by omega) (by omega)]; omega]
  have e3 : idx (ints (O' ++ [x])) (O'.length : Int) = some (x : Int) := by
   rw [Au0 (by rw [AQk]; simp)]
   simp
  have e4 : Aok (ints (O' ++ [x])) 0 (O'.length : Int) = some (ints O') := by
   rw [Aud (by rw [e1]; omega), e2]
   congr 1
   rw [ARc, show ((0 : Int).toNat) = 0 from rfl, List.drop_zero, List.take_left' (Akw O')]
  rw [e3, AQg, e4, AQg, Ac8 hx, AQg, AC3 h hx, AQg, a1, AQg, wr1 (by omega)]
  unfold ints
  rw [AQw]) (fun L d => by
  unfold Ag0
  dsimp only
  rw [A7 (by simp)]) l.length [] _ _ L0 (by simp) (AJ1 _ _) l2
 have d1' : Aa4 (Ag0 ⟨l, k⟩) (L0, 0, ints (Avd l.length fun j => (dg l.length (scV l) [] j : Int))) = some (D.length : Int) := d1
 rw [d1', AQg]
 exact ⟨D, rfl, d2⟩
end Go.Proofs.YtfcpkcehecmcpaaGreat
namespace Go.Proofs.YtfcpkcehecmcpaaGreat
open Go Go.RowKit Go.Pv
theorem AGe (m : LK) (hm : Aom m) (fn : Int) {r : List CO × Int × Int × Int} (hr : Afe m fn = some r) (h0 : r.2.2.2 = 0) (hR : AAi m fn r.1) : ∃ D : List Nat, Ai4 m fn = some (decide ((D.length : Int) < r.1.length), 0, 0) ∧ D.Nodup ∧ ∀ j, j ∈ D ↔ Zz r.1.length (scV r.1) j := by
 have h := ADi hR
 have hlen := h.len
 unfold Ai4
 rw [show (⟨m.Name, m.Classes, m.Funcs, m.Adm⟩ : LK) = m from rfl, hr, AQg, A7 (by rw [h0]; simp), show idx m.Funcs fn = some (Agy m fn) from Akd hR.rng.1 hR.rng.2 _, AQg, AC6 hlen, AQg]
 obtain ⟨L0, l1, l2⟩ := A5m h rfl (body := Ahe r (Agy m fn)) (fun i hi L g hg hL => by
  obtain ⟨L', a1, a2⟩ := ABe (scV r.1 i) (Atd h i) (Avk h) (body := Ahj (ints (scV r.1 i))) hg (fun k hk L x hLl hx => by
   unfold Ahj
   dsimp only
   have hn3 := A25 r.1 i
   rw [Akw, Bu (by rw [AS]; omega), Au0 hk, AQg, AQg, Ajb hx, AQg, AQg, ARc, wr1 (by omega)]) (fun L => by
   unfold Ahj
   dsimp only
   rw [Akw, A7 (by rw [AS]; omega)]) hL
  refine ⟨L', ?_, a2⟩
  unfold Ahe
  dsimp only
  rw [Bu (by rw [AS]; omega), AAt h hi, AQg, a1, AQg, wr1 (by omega)]) (fun L => by
  unfold Ahe
  dsimp only
  rw [A7 (by rw [AS]; omega)])
 rw [l1, AQg, A8m hlen l2 (fun i hi acc x hx hacc => by
  unfold Air
  dsimp only
  rw [Bu (by rw [AS]; omega), Ajb hx, AQg, wr1 (by omega)]
  by_cases q : x = 0
  ·rw [Bu (by rw [JY]; exact q), Bu q, Ae6 (by simp; omega), AQg]
  ·rw [A7 (by rw [JY]; exact q), A7 q]) (fun acc => by
  unfold Air
  dsimp only
  rw [A7 (by rw [AS]; omega)]), AQg]
 obtain ⟨D, d1, d2⟩ := ADm h (body := Age r (Agy m fn)) (fun L D O' x g hO hx hg hL => by
  obtain ⟨L', a1, a2⟩ := A95 (scV r.1 x) (Atd h x) (Avk h) (A25 r.1 x) (body := Ahd (ints (scV r.1 x))) hg (fun k hk L O y hLl hOl hy => by
   have hpl2 : (scV r.1 x)[k] < r.1.length := Avk h _ (AQv _)
   unfold Ahd
   dsimp only
   have hn3 := A25 r.1 x
   have hset : idx (L.set ((scV r.1 x)[k]) (wr (y - 1))) ((scV r.1 x)[k] : Int) = some (wr (y - 1)) := Ajb (by rw [List.getElem?_set, Bu rfl, Bu (by omega)])
   rw [Akw, Bu (by rw [AS]; omega), Au0 hk]
   simp only [AQg]
   rw [Ajb hy]
   simp only [AQg, ARc]
   rw [hset, AQg, wr1 (by omega)]
   by_cases q : wr (y - 1) = 0
   ·rw [Bu (by rw [JY]; exact q), Bu q, Ae6 (by simp; omega), AQg]
   ·rw [A7 (by rw [JY]; exact q), A7 q]) (fun L O => by
   unfold Ahd
   dsimp only
   rw [Akw, A7 (by rw [AS]; omega)]) hL (O := ints (D ++ x :: O')) (by rw [Akw]; omega)
  refine ⟨L', ?_, a2⟩
  unfold Age
  dsimp only
  have e3 : idx (ints (D ++ x :: O')) (D.length : Int) = some (x : Int) := by
   rw [Au0 (by rw [AQk, AQ2]; omega)]
   simp
  rw [Akw, Bu (by rw [AS, AQk, AQ2]; omega), e3, AQg, AAt h hx, AQg, a1, AQg, wr1 (by rw [AQk] at hO; omega)]) (fun L N hN => by
  unfold Age
  dsimp only
  rw [A7 (by rw [AS]; omega)]) r.1.length [] _ _ L0 (by simp) (AJ1 _ _) l2
 have d1' : Aa4 (Age r (Agy m fn)) (L0, ints (Avd r.1.length fun j => (dg r.1.length (scV r.1) [] j : Int)), 0) = some (ints D) := d1
 rw [d1', AQg, Akw]
 exact ⟨D, rfl, d2⟩
theorem eqI (l : List Int) (h : l.length ≤ big) : Akr l l = some true := by
 simp only [big] at h
 unfold Akr
 rw [A7 (by simp), Aog l (r := .inr ()) (fun i hi => by
  unfold Ahs
  rw [Bu (by simpa using hi), Ac8 hi, AQg, AQg, A7 (by simp), wr1 (by omega)]) (by unfold Ahs; simp)]
 rfl
theorem AEe (nf : Nat) (l : List CO) : (Aob nf l).length ≤ nf := by
 unfold Aob ints
 rw [AQl]
 exact Nat.le_trans (AQ7 _ _) (by rw [AQ8]; exact Nat.le_refl _)
theorem A3l (m : LK) (fn : Int) {r : List CO × Int × Int × Int} (hr : Afe m fn = some r) (h0 : r.2.2.2 ≠ 0) : Aiw m fn = some ([], r.2.2.1, r.2.2.2) := by
 unfold Aiw
 rw [show (⟨m.Name, m.Classes, m.Funcs, m.Adm⟩ : LK) = m from rfl, hr, AQg, Bu (Aas.2 h0)]
theorem A7r (m : LK) (fn : Int) (hm : Aom m) : Ahr m fn = some true := by
 have hfl := hm.fl
 obtain ⟨r, h1, h2, h3, h4⟩ := AIp m hm fn
 unfold Ahr Avc Aul Avb An0
 rw [show (⟨m.Name, m.Classes, m.Funcs, m.Adm⟩ : LK) = m from rfl, ADs m hm, AQg]
 rw [show (⟨m.Name, m.Classes, m.Funcs, m.Adm⟩ : LK) = m from rfl, h1, h2]
 simp only [AQg]
 by_cases h0 : r.2.2.2 = 0
 ·obtain ⟨h5, h6⟩ := h3 h0
  have hP := ADi h6
  have hlen := hP.len
  rw [AF2 m hm fn h1 h0 hlen]
  obtain ⟨D1, a1, a2, a3⟩ := AHb hP r.2.1
  obtain ⟨D2, b1, b2, b3⟩ := AGe m hm fn h1 h0 h6
  rw [b1]
  have c1 : (((0 : Int) != 0) = true) = False := by simp
  simp only [h0, c1, if_false, if_true, AQg]
  rw [show (⟨r.1, r.2.1⟩ : Ads) = ⟨r.1, r.2.1⟩ from rfl, AGg hP, a1, AJi a2 b2 fun j => (a3 j).trans (b3 j).symm]
  simp only [c1, if_false, AQg]
  have hcl := AEe m.Funcs.length r.1
  rw [eqI _ (by simp only [big] at *; omega), AQg, h5]
  simp [A51 m hm]
 ·have c1 : ((r.2.2.2 != 0) = true) = True := eq_true (Aas.2 h0)
  have hL : Ai4 m fn = some (false, r.2.2.1, r.2.2.2) := by
   unfold Ai4
   rw [show (⟨m.Name, m.Classes, m.Funcs, m.Adm⟩ : LK) = m from rfl, h1, AQg, Bu (Aas.2 h0)]
  rw [A3l m fn h1 h0, hL]
  simp only [c1, if_true, AQg]
  rw [eqI _ (by simp), AQg, h4 h0]
  simp [A51 m hm]
end Go.Proofs.YtfcpkcehecmcpaaGreat
