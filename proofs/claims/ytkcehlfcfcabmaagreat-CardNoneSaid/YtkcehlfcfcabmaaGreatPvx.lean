/- Maps gone through in whatever order; pointers that may be nil. -/
import Derived.Test.YtkcehlfcfcabmaaGreatPvu
import Derived.Test.YtkcehlfcfcabmaaGreatPvo
set_option linter.unusedVariables false
set_option linter.unusedSimpArgs false
namespace Go.Pv
open Go Go.RowKit

section
variable {α S R : Type}
/-- One behind the other, until one says the end. -/
def runL (body : α → S → Option (S ⊕ R)) : List α → S → Option (S ⊕ R)
  | [], s => some (.inl s)
  | p :: l, s => match body p s with
    | none => none
    | some (.inl s') => runL body l s'
    | some (.inr r) => some (.inr r)
open Classical in
/-- What comes of it in whatever order; none, if the order plays a part. -/
noncomputable def rangeO (body : α → S → Option (S ⊕ R)) (l : List α) (s : S) : Option (S ⊕ R) :=
  if h : ∃ r, ∀ l', l'.Perm l → runL body l' s = some r then some (Classical.choose h) else none
theorem rangeO_iff {body : α → S → Option (S ⊕ R)} {l : List α} {s : S} {r : S ⊕ R} : rangeO body l s = some r ↔ ∀ l', l'.Perm l → runL body l' s = some r := by
  unfold rangeO
  constructor
  · intro h
    split at h
    · rename_i hx
      cases h
      exact Classical.choose_spec hx
    · cases h
  · intro h
    rw [dif_pos ⟨r, h⟩]
    have h1 := Classical.choose_spec (p := fun r => ∀ l', l'.Perm l → runL body l' s = some r) ⟨r, h⟩
    have h2 := h1 l (List.Perm.refl l)
    rw [h l (List.Perm.refl l)] at h2
    exact h2.symm
def rngK (f : S → Option R) : S ⊕ R → Option R
  | .inl s => f s
  | .inr x => some x
theorem rng_r {f : S → Option R} {o : S ⊕ R} {q r : R} (h : rngK f o = some q) (e : o = .inr r) : r = q := by
  subst e
  exact Option.some.inj h
theorem rng_d {f : S → Option R} {o : S ⊕ R} {q : R} {s : S} (h : rngK f o = some q) (e : o = .inl s) : f s = some q := by
  subst e
  exact h
theorem runL_append (body : α → S → Option (S ⊕ R)) : ∀ (l m : List α) (s : S), runL body (l ++ m) s = (runL body l s).bind fun o => match o with
    | .inl s' => runL body m s'
    | .inr r => some (.inr r)
  | [], m, s => rfl
  | p :: l, m, s => by
    simp only [List.cons_append, runL]
    rcases body p s with _ | ⟨s' | r⟩
    · rfl
    · exact runL_append body l m s'
    · rfl
theorem rng_done {body : α → S → Option (S ⊕ R)} {l : List α} {s0 s : S} {r : S ⊕ R} {js : List Nat} (H : rangeO body l s0 = some r) (hj : js.Perm (List.range l.length)) (hr : runL body (pick l js) s0 = some (.inl s)) : r = .inl s := by
  have h1 := rangeO_iff.1 H _ (pick_perm hj)
  rw [hr] at h1
  exact (Option.some.inj h1).symm
theorem rng_step {body : α → S → Option (S ⊕ R)} {l : List α} {s0 s : S} {r : S ⊕ R} {js : List Nat} {j : Nat} {p : α} (H : rangeO body l s0 = some r) (hr : runL body (pick l js) s0 = some (.inl s))
    (hn : (js ++ [j]).Nodup) (hl : ∀ i ∈ js ++ [j], i < l.length) (hp : l[j]? = some p) :
    ∃ o, body p s = some o ∧ (∀ r', o = .inr r' → r = .inr r') ∧ (∀ s', o = .inl s' → runL body (pick l (js ++ [j])) s0 = some (.inl s')) := by
  have h1 := rangeO_iff.1 H _ (pick_perm (rest_perm hn hl))
  unfold pick at h1
  rw [List.filterMap_append] at h1
  have h2 : List.filterMap (fun j => l[j]?) (js ++ [j]) = pick l js ++ [p] := pick_snoc hp
  rw [h2, List.append_assoc, runL_append, hr] at h1
  simp only [Option.bind_some, List.cons_append, List.nil_append, runL] at h1
  rw [pick_snoc hp]
  rcases hb : body p s with _ | ⟨s' | r'⟩
  · rw [hb] at h1; cases h1
  · refine ⟨_, rfl, fun r' h => (by cases h), fun s'' h => ?_⟩
    cases h
    rw [runL_append, hr]
    simp only [Option.bind_some, runL, hb]
  · rw [hb] at h1
    refine ⟨_, rfl, fun r'' h => ?_, fun s'' h => (by cases h)⟩
    cases h
    exact (Option.some.inj h1).symm
theorem nodup_len {js : List Nat} {n : Nat} (hn : js.Nodup) (hl : ∀ j ∈ js, j < n) : js.length ≤ n := by
  have := (rest_perm hn hl).length_eq
  rw [List.length_append, List.length_range] at this
  omega
theorem count_down : ∀ k : Nat, loopO (fun s : Nat => if s = 0 then some (.inr ()) else some (.inl (s - 1))) k = some ()
  | 0 => by rw [loopO_eq]; rfl
  | k + 1 => by
    rw [loopO_eq, if_neg (by omega)]
    exact count_down k
/-- The walk of a loop over a map. -/
theorem wp_rng {P : Program} {c : Code} {Q : Exit → Act → World → Prop} {a : Act} {w : World} {l : List α} (body : α → S → Option (S ⊕ R)) (I : List Nat → S → Act → World → Prop) {s0 : S} {r : S ⊕ R}
    (H : rangeO body l s0 = some r) (h0 : I [] s0 a w)
    (round : ∀ js s a w, I js s a w → (js.Perm (List.range l.length) → r = .inl s) →
      (∀ j p, l[j]? = some p → (js ++ [j]).Nodup → (∀ i ∈ js ++ [j], i < l.length) → ∃ o, body p s = some o ∧ (∀ r', o = .inr r' → r = .inr r')) →
      c.wp P (Exit.then (fun a' w' => ∃ j p s', l[j]? = some p ∧ (js ++ [j]).Nodup ∧ (∀ i ∈ js ++ [j], i < l.length) ∧ body p s = some (.inl s') ∧ I (js ++ [j]) s' a' w') Q) a w) : (Code.loop c).wp P Q a w := by
  refine wp_lp (S := Nat) (R := Unit) (fun s => if s = 0 then some (.inr ()) else some (.inl (s - 1))) (fun k a w => ∃ js s, js.Nodup ∧ (∀ j ∈ js, j < l.length) ∧ js.length + k = l.length ∧ runL body (pick l js) s0 = some (.inl s) ∧ I js s a w) (count_down l.length)
    ⟨[], s0, by simp, by simp, by simp, rfl, h0⟩ ?_
  rintro k a w ⟨js, s, hn, hl, hk, hr, hI⟩ o ho _
  refine wp_mono (round js s a w hI (fun hp => rng_done H hp hr) (fun j p hp hn' hl' => ?_)) ?_
  · obtain ⟨o, h1, h2, _⟩ := rng_step H hr hn' hl' hp
    exact ⟨o, h1, h2⟩
  · intro e a' w' h
    cases e with
    | normal =>
      obtain ⟨j, p, s', hp, hn', hl', hb, hI'⟩ := h
      have hlen := nodup_len hn' hl'
      rw [List.length_append, List.length_singleton] at hlen
      rw [if_neg (by omega)] at ho
      cases ho
      obtain ⟨o, h1, _, h3⟩ := rng_step H hr hn' hl' hp
      rw [hb] at h1
      cases h1
      exact ⟨k - 1, rfl, js ++ [j], s', hn', hl', by simp; omega, h3 _ rfl, hI'⟩
    | exit id => exact h
    | goto l => exact h
    | ret => exact h
    | panic ch => exact h
    | outgrown => exact h
end

theorem Rd.l {α : Type} {T : Ty α} {w : World} {F : List Nat} {v : Value} {l : List α} (h : Rd T w F v l) : ∃ G, slRd T w G v l := by
  obtain ⟨G, h1, _⟩ := h
  exact ⟨G, h1⟩
section
variable {S : Type} {w0 w : World} {F0 : List Nat} {ps qs : List Ck} {v : Value} {o : Option S} {s : S} {Q : S → List Ck → Prop}
/-- A pointer that may be nil, and what lies behind it if it is not. -/
def OptC (v : Value) (o : Option S) (Q : S → List Ck → Prop) : Ck := Any fun qs => (o = none ∧ v = .pointer none ∧ qs = []) ∨ ∃ s, o = some s ∧ Q s qs
theorem SL.opt_none (hs : SL w0 F0 w ps) : SL w0 F0 w (OptC (S := S) (.pointer none) none Q :: ps) := SL.any_in (qs := []) (.inl ⟨rfl, rfl, rfl⟩) hs
theorem SL.opt_some (h : Q s qs) (hs : SL w0 F0 w (qs ++ ps)) : SL w0 F0 w (OptC v (some s) Q :: ps) := SL.any_in (.inr ⟨s, rfl, h⟩) hs
theorem SL.opt_out (hs : SL w0 F0 w (OptC v o Q :: ps)) (ho : o = some s) : ∃ qs, Q s qs ∧ SL w0 F0 w (qs ++ ps) := by
  subst ho
  obtain ⟨qs, (⟨h, _⟩ | ⟨s', h, hq⟩), h2⟩ := SL.any_out hs
  · cases h
  · cases h
    exact ⟨qs, hq, h2⟩
end
end Go.Pv
