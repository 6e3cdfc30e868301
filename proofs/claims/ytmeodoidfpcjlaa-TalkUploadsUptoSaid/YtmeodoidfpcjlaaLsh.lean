/- Plain laws of the shelf: marks are found again; OptOwn. -/
import Derived.Test.YtmeodoidfpcjlaaLga
import Derived.Test.YtmeodoidfpcjlaaDf
set_option linter.unusedVariables false
set_option linter.unusedSimpArgs false
namespace Go.Proofs.Ytmeodoidfpcjlaa
open Go Go.RowKit Go.Pv
theorem marks_length {α : Type} (f : Nat → α) : ∀ (L : List (List α)) (i : Nat), (marks f i L).length = L.length
  | [], _ => rfl
  | _ :: L, i => by simp [marks, marks_length f L (i + 1)]
theorem mores_length {α : Type} (f : Nat → α) : ∀ (L : List (List α)) (i : Nat), (mores f i L).length = L.length
  | [], _ => rfl
  | _ :: L, i => by simp [mores, mores_length f L (i + 1)]
theorem marks_all {α : Type} (f : Nat → α) : ∀ (L : List (List α)) (i j : Nat) (l : List α), (marks f i L)[j]? = some l → ∀ x ∈ l, x = f (i + j)
  | [], _, _, _, h => by simp [marks] at h
  | y :: L, i, 0, l, h => by
    simp only [marks, List.getElem?_cons_zero, Option.some.injEq] at h
    subst h
    intro x hx
    exact (List.mem_replicate.1 hx).2
  | y :: L, i, j + 1, l, h => by
    simp only [marks, List.getElem?_cons_succ] at h
    intro x hx
    rw [marks_all f L (i + 1) j l h x hx]
    congr 1
    omega
theorem mores_all {α : Type} (f : Nat → α) : ∀ (L : List (List α)) (i j : Nat) (l : List α), (mores f i (marks f i L))[j]? = some l → ∀ x ∈ l, x = f (i + j)
  | [], _, _, _, h => by simp [marks, mores] at h
  | y :: L, i, 0, l, h => by
    simp only [marks, mores, List.getElem?_cons_zero, Option.some.injEq] at h
    subst h
    intro x hx
    rw [List.mem_append] at hx
    rcases hx with hx | hx <;> exact (List.mem_replicate.1 hx).2
  | y :: L, i, j + 1, l, h => by
    simp only [marks, mores, List.getElem?_cons_succ] at h
    intro x hx
    rw [mores_all f L (i + 1) j l h x hx]
    congr 1
    omega
theorem own_law (a : S_provisoplain_Shelf) (h1 : ∀ l ∈ a.bytes, l.length ≤ big) (h2 : ∀ l ∈ a.ints, l.length ≤ big) (h3 : a.bytes.length ≤ 1048576000) (h4 : a.ints.length ≤ 1048576000) : provisoplain_Shelf_Own a = some true := by
  simp only [big] at h1 h2
  have len1 : ∀ l ∈ marks fB 0 a.bytes, l.length ≤ 1048576 := fun l hl => by
    obtain ⟨y, hy, e⟩ := marks_len fB a.bytes 0 l hl
    rw [e]; exact h1 y hy
  have len2 : ∀ l ∈ marks fI 0 a.ints, l.length ≤ 1048576 := fun l hl => by
    obtain ⟨y, hy, e⟩ := marks_len fI a.ints 0 l hl
    rw [e]; exact h2 y hy
  have mlen {α : Type} (f : Nat → α) : ∀ (L : List (List α)) (i : Nat), (∀ l ∈ L, l.length ≤ 1048576) → ∀ l ∈ mores f i L, l.length ≤ 1048656 := by
    intro L
    induction L with
    | nil => intro i _ l h; cases h
    | cons y L ih =>
      intro i hL l h
      rcases List.mem_cons.1 h with rfl | h
      · have := hL y (by simp)
        simp
        omega
      · exact ih (i + 1) (fun l hl => hL l (by simp [hl])) l h
  unfold provisoplain_Shelf_Own
  rw [if_pos ⟨fun l hl => by have := h1 l hl; omega, fun l hl => by have := h2 l hl; omega, h3, h4⟩]
  unfold provisoplain_Shelf_marked_bpp
  rw [loop_none (marks fB 0 a.bytes) (r := .inr ()) (fun i hi => by
    have hg := List.getElem?_eq_getElem hi
    have hi2 : i < (mores fB 0 (marks fB 0 a.bytes)).length := by rw [mores_length]; exact hi
    have hi3 : i < 1048576000 := by rw [marks_length] at hi; omega
    have hg2 := List.getElem?_eq_getElem hi2
    have hl := len1 _ (List.getElem_mem hi)
    have hl2 := mlen fB _ 0 len1 _ (List.getElem_mem hi2)
    have ha := marks_all fB a.bytes 0 i _ hg
    have ha2 := mores_all fB a.bytes 0 i _ hg2
    unfold provisoplain_Shelf_marked_bpp_b2
    dsimp only
    rw [if_pos (by simpa using hi), idx_at hi, Option.bind_some]
    rw [loop_none ((marks fB 0 a.bytes)[i]) (r := .inr ()) (fun k hk => by
      have := ha _ (List.getElem_mem hk)
      unfold provisoplain_Shelf_marked_bpp_b0
      rw [if_pos (by simpa using hk), idx_at hk, Option.bind_some, this, Nat.zero_add]
      unfold provisoplain_mark
      rw [Option.bind_some, if_neg (by simp [fB]), wr1 (by omega)]) (by unfold provisoplain_Shelf_marked_bpp_b0; simp), Option.bind_some]
    dsimp only
    rw [idx_at hi2, Option.bind_some]
    rw [loop_none ((mores fB 0 (marks fB 0 a.bytes))[i]) (r := .inr ()) (fun k hk => by
      have := ha2 _ (List.getElem_mem hk)
      unfold provisoplain_Shelf_marked_bpp_b1
      rw [if_pos (by simpa using hk), idx_at hk, Option.bind_some, this, Nat.zero_add]
      unfold provisoplain_mark
      rw [Option.bind_some, if_neg (by simp [fB]), wr1 (by omega)]) (by unfold provisoplain_Shelf_marked_bpp_b1; simp), Option.bind_some]
    dsimp only
    rw [wr1 (by omega)]) (by unfold provisoplain_Shelf_marked_bpp_b2; simp), Option.bind_some]
  dsimp only
  rw [loop_none (marks fI 0 a.ints) (r := .inr ()) (fun i hi => by
    have hg := List.getElem?_eq_getElem hi
    have hi2 : i < (mores fI 0 (marks fI 0 a.ints)).length := by rw [mores_length]; exact hi
    have hi3 : i < 1048576000 := by rw [marks_length] at hi; omega
    have hg2 := List.getElem?_eq_getElem hi2
    have hl := len2 _ (List.getElem_mem hi)
    have hl2 := mlen fI _ 0 len2 _ (List.getElem_mem hi2)
    have ha := marks_all fI a.ints 0 i _ hg
    have ha2 := mores_all fI a.ints 0 i _ hg2
    unfold provisoplain_Shelf_marked_bpp_b5
    dsimp only
    rw [if_pos (by simpa using hi), idx_at hi, Option.bind_some]
    rw [loop_none ((marks fI 0 a.ints)[i]) (r := .inr ()) (fun k hk => by
      have := ha _ (List.getElem_mem hk)
      unfold provisoplain_Shelf_marked_bpp_b3
      rw [if_pos (by simpa using hk), idx_at hk, Option.bind_some, this, Nat.zero_add]
      unfold provisoplain_mark
      rw [Option.bind_some, if_neg (by simp [fI]), wr1 (by omega)]) (by unfold provisoplain_Shelf_marked_bpp_b3; simp), Option.bind_some]
    dsimp only
    rw [idx_at hi2, Option.bind_some]
    rw [loop_none ((mores fI 0 (marks fI 0 a.ints))[i]) (r := .inr ()) (fun k hk => by
      have := ha2 _ (List.getElem_mem hk)
      unfold provisoplain_Shelf_marked_bpp_b4
      rw [if_pos (by simpa using hk), idx_at hk, Option.bind_some, this, Nat.zero_add]
      unfold provisoplain_mark
      rw [Option.bind_some, if_neg (by simp [fI]), wr1 (by omega)]) (by unfold provisoplain_Shelf_marked_bpp_b4; simp), Option.bind_some]
    dsimp only
    rw [wr1 (by omega)]) (by unfold provisoplain_Shelf_marked_bpp_b5; simp), Option.bind_some]
end Go.Proofs.Ytmeodoidfpcjlaa
