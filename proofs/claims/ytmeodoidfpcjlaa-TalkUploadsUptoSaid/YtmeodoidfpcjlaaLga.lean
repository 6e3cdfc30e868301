/- Plain laws of loops with places. -/
import Derived.Test.YtmeodoidfpcjlaaLwa
set_option linter.unusedVariables false
set_option linter.unusedSimpArgs false
namespace Go.Proofs.Ytmeodoidfpcjlaa
open Go Go.RowKit Go.Pv
/-! ### Loops -/
theorem loop_at {S R : Type} (n : Nat) {body : S → Option (S ⊕ R)} (st : Nat → S) {r : R} (hs : ∀ i, i < n → body (st i) = some (.inl (st (i + 1)))) (he : body (st n) = some (.inr r)) {s0 : S} (h0 : s0 = st 0) : loopO body s0 = some r := by
  subst h0
  have key : ∀ k i, i + k = n → loopO body (st i) = some r := by
    intro k
    induction k with
    | zero => intro i hi; have : i = n := by omega
              subst this; exact loopO_stop he
    | succ k ih => intro i hi; rw [loopO_step (hs i (by omega))]; exact ih (i + 1) (by omega)
  exact key n 0 (by omega)
theorem loop_inv {S R : Type} (n : Nat) {body : S → Option (S ⊕ R)} (I : Nat → S → Prop) {Post : R → Prop} (hs : ∀ i s, i < n → I i s → ∃ s', body s = some (.inl s') ∧ I (i + 1) s') (he : ∀ s, I n s → ∃ r, body s = some (.inr r) ∧ Post r) {s : S} (h0 : I 0 s) :
    ∃ r, loopO body s = some r ∧ Post r := by
  have key : ∀ k i s, i + k = n → I i s → ∃ r, loopO body s = some r ∧ Post r := by
    intro k
    induction k with
    | zero =>
      intro i s hi h
      have : i = n := by omega
      subst this
      obtain ⟨r, h1, h2⟩ := he s h
      exact ⟨r, loopO_stop h1, h2⟩
    | succ k ih =>
      intro i s hi h
      obtain ⟨s', h1, h2⟩ := hs i s (by omega) h
      rw [loopO_step h1]
      exact ih (i + 1) s' (by omega) h2
  exact key n 0 s (by omega) h0
theorem app_ok {α : Type} {lim : Nat} {l m : List α} (h : l.length + m.length ≤ lim) : app lim l m = some (l ++ m) := by unfold app; rw [if_pos h]
theorem cut_ok {α : Type} {l : List α} {lo hi : Int} (h : 0 ≤ lo ∧ lo ≤ hi ∧ hi ≤ l.length) : cutL l lo hi = some ((l.take hi.toNat).drop lo.toNat) := by unfold cutL; rw [if_pos h]
theorem idx_nat {α : Type} {l : List α} {i : Nat} : idx l (i : Int) = l[i]? := by unfold idx; rw [if_pos (by omega)]; simp
theorem idx_at {α : Type} {l : List α} {i : Nat} (h : i < l.length) : idx l (i : Int) = some l[i] := by rw [idx_nat, List.getElem?_eq_getElem h]
theorem idx_int {α : Type} {l : List α} {i : Int} (h0 : 0 ≤ i) (h : i < l.length) : ∃ x, idx l i = some x ∧ l[i.toNat]? = some x := by
  refine ⟨l[i.toNat]'(by omega), ?_, List.getElem?_eq_getElem _⟩
  unfold idx
  rw [if_pos h0]
  exact List.getElem?_eq_getElem _
theorem wr1 {i : Nat} (h : i < 4611686018427387904) : wr ((i : Int) + 1) = ((i + 1 : Nat) : Int) := by rw [wr_id] <;> omega
theorem take_succ_map {α β : Type} (f : α → β) (l : List α) (i : Nat) (h : i < l.length) : (l.take (i + 1)).map f = (l.take i).map f ++ [f l[i]] := by
  rw [List.take_add_one, List.getElem?_eq_getElem h, List.map_append]; rfl
/-- A loop that makes a list, one element a round. -/
theorem loop_map {α β : Type} (l : List α) (f : α → β) {body : List β × Int → Option ((List β × Int) ⊕ List β)} (hs : ∀ i (h : i < l.length) acc, acc.length = i → body (acc, (i : Int)) = some (.inl (acc ++ [f l[i]], ((i + 1 : Nat) : Int)))) (he : ∀ acc, body (acc, (l.length : Int)) = some (.inr acc)) :
    loopO body ([], 0) = some (l.map f) := by
  have := loop_at l.length (body := body) (fun i => ((l.take i).map f, (i : Int))) (r := l.map f) (fun i hi => by
    rw [hs i hi _ (by simp; omega), take_succ_map f l i hi]) (by simp only [List.take_length]; exact he _) (s0 := ([], 0)) (by simp)
  exact this
/-- A loop that finds nothing. -/
theorem loop_none {α R : Type} (l : List α) {body : Int → Option (Int ⊕ R)} {r : R} (hs : ∀ i (h : i < l.length), body (i : Int) = some (.inl ((i + 1 : Nat) : Int))) (he : body (l.length : Int) = some (.inr r)) : loopO body 0 = some r :=
  loop_at l.length (body := body) (fun i => (i : Int)) hs he rfl
theorem or_some (b c : Bool) : (if b = true then some b else some c) = some (b || c) := by cases b <;> simp

abbrev big : Nat := 1048576
end Go.Proofs.Ytmeodoidfpcjlaa
