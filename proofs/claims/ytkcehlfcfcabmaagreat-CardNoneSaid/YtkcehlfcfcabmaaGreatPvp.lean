/- Rows whose elements borrow. -/
import Derived.Test.YtkcehlfcfcabmaaGreatPvm
set_option linter.unusedVariables false
set_option linter.unusedSimpArgs false
namespace Go.Pv
open Go Go.RowKit

/-- A slice that reads over a base. -/
def Ty.brow {α : Type} (w0 : World) (F0 : List Nat) (T : Ty α) : Ty (List α) where
  sz := 1
  rd _ _ l cs := ∃ v, cs = [v] ∧ Rd T w0 F0 v l
  own _ F l cs := (∃ v, cs = [v] ∧ Rd T w0 F0 v l) ∧ F = []
  rd_len := by rintro w G l cs ⟨v, rfl, h⟩; rfl
  rd_one := by
    rintro w G l cs ⟨v, rfl, G', ⟨A, c, rfl, _⟩, _⟩ u hu
    rw [List.mem_singleton] at hu
    rw [hu]
    rfl
  rd_loc h _ := h
  rd_mono h _ := h
  own_loc h _ := h
  own_lt h k hk := by rw [h.2] at hk; cases hk
  own_rd h := h.1
/-- The blocks of a base. -/
def baseG (w0 : World) (F0 : List Nat) : List Nat := (List.range w0.heap.size).filter fun k => decide (k ∉ F0)
theorem mem_baseG {w0 : World} {F0 : List Nat} {k : Nat} : k ∈ baseG w0 F0 ↔ k < w0.heap.size ∧ k ∉ F0 := by simp [baseG]
/-- What A reads B reads too, over a base. -/
structure Conv {α : Type} (w0 : World) (F0 : List Nat) (A B : Ty α) : Prop where
  sz : A.sz = B.sz
  rd : ∀ w G x cs, Fm w0 F0 w → A.rd w G x cs → B.rd w (G ++ baseG w0 F0) x cs
section
variable {α β : Type} {w0 w : World} {F0 : List Nat}
theorem Conv.refl (A : Ty α) : Conv w0 F0 A A := ⟨rfl, fun w G x cs _ h => A.rd_mono h (fun k hk => List.mem_append_left _ hk)⟩
theorem Conv.pair {A A' : Ty α} {B B' : Ty β} (h1 : Conv w0 F0 A A') (h2 : Conv w0 F0 B B') : Conv w0 F0 (A.pair B) (A'.pair B') :=
  ⟨by show A.sz + B.sz = A'.sz + B'.sz; rw [h1.sz, h2.sz], fun w G x cs hf ⟨c, d, e, a1, a2⟩ => ⟨c, d, e, h1.rd _ _ _ _ hf a1, h2.rd _ _ _ _ hf a2⟩⟩
theorem Conv.iso {A A' : Ty α} (f : β → α) (h1 : Conv w0 F0 A A') : Conv w0 F0 (A.iso f) (A'.iso f) := ⟨h1.sz, fun w G x cs hf h => h1.rd w G (f x) cs hf h⟩
theorem Conv.row {A B : Ty α} (h : Conv w0 F0 A B) {G : List Nat} {v : Value} {l : List α} (hf : Fm w0 F0 w) (hr : slRd A w G v l) : slRd B w (G ++ baseG w0 F0) v l := by
  obtain ⟨a, c, h1, h2, h3⟩ := hr
  refine ⟨a, c, h1, h2, fun i x hx => ?_⟩
  obtain ⟨ad, cs, b1, b2, b3, b4⟩ := h3 i x hx
  exact ⟨ad, cs, b1, List.mem_append_left _ b2, by rw [← h.sz]; exact b3, h.rd _ _ _ _ hf b4⟩
theorem Conv.slice {A B : Ty α} (h : Conv w0 F0 A B) : Conv w0 F0 A.slice B.slice := ⟨rfl, fun w G x cs hf ⟨v, e, hv⟩ => ⟨v, e, h.row hf hv⟩⟩
theorem Conv.brow (T : Ty α) : Conv w0 F0 (Ty.brow w0 F0 T) T.slice := ⟨rfl, fun w G x cs hf ⟨v, e, G', h1, h2⟩ => ⟨v, e, (h1.loc fun k hk => hf.block k (h2 k hk).1 (h2 k hk).2).mono fun k hk => List.mem_append_right _ (mem_baseG.mpr (h2 k hk))⟩⟩
/-- A row of one's own whose elements borrow, handed on to be read. -/
theorem SL.rd0c {A B : Ty α} {v : Value} {l : List α} {ps : List Ck} (hs : SL w0 F0 w ps) (hm : Sl A v l ∈ ps) (h : Conv w0 F0 A B) : Rd B w [] v l := by
  obtain ⟨G, hG, hlt⟩ := hs.rd0 hm
  exact ⟨_, h.row hs.fm hG, fun k hk => by
    rcases List.mem_append.mp hk with hk | hk
    · exact hlt k hk
    · exact ⟨Nat.lt_of_lt_of_le (mem_baseG.mp hk).1 hs.fm.size, by simp⟩⟩
/-- What borrows needs no memory of its own. -/
theorem SL.dbrow {T : Ty α} {w1 : World} {F1 : List Nat} {v : Value} {l : List α} {ps : List Ck} (hs : SL w0 F0 w ps) (h : Rd T w1 F1 v l) : SL w0 F0 w (Dt (Ty.brow w1 F1 T) l [v] :: ps) :=
  hs.re fun F hF => ⟨F, ⟨[], F, rfl, ⟨⟨v, rfl, h⟩, rfl⟩, hF, by simp⟩, fun _ => Iff.rfl⟩
/-- An element's borrowed leaf. -/
theorem brow_rd {T : Ty α} {w1 : World} {F1 : List Nat} {G : List Nat} {l : List α} {cs : List Value} (h : (Ty.brow w1 F1 T).rd w G l cs) : ∃ v, cs = [v] ∧ Rd T w1 F1 v l := h
/-- The same, told over a base. -/
theorem SL.up {wb w w1 : World} {Fb F : List Nat} {ps : List Ck} (hb : Fm wb Fb w) (hB : ∀ k ∈ F, k ∈ Fb ∨ wb.heap.size ≤ k) (s : SL w F w1 ps) : SL wb Fb w1 ps := by
  obtain ⟨G, hs, hG⟩ := s.st
  exact ⟨hb.trans s.fm hB, G, hs, fun k hk => by
    rcases hG k hk with h | h
    · exact hB k h
    · exact .inr (Nat.le_trans hb.size h)⟩
theorem up_mem {wb w : World} {Fb F G : List Nat} (hb : Fm wb Fb w) (hB : ∀ k ∈ F, k ∈ Fb ∨ wb.heap.size ≤ k) (h : ∀ k ∈ G, k ∈ F ∨ w.heap.size ≤ k) : ∀ k ∈ G, k ∈ Fb ∨ wb.heap.size ≤ k := fun k hk => by
  rcases h k hk with h | h
  · exact hB k h
  · exact .inr (Nat.le_trans hb.size h)
theorem nil_mem {Fb : List Nat} {n : Nat} : ∀ k ∈ ([] : List Nat), k ∈ Fb ∨ n ≤ k := fun k hk => by cases hk
theorem Rd.conv {A B : Ty α} {wb : World} {Fb F : List Nat} {v : Value} {l : List α} (h : Rd A w F v l) (hf : Fm wb Fb w) (hF : ∀ k ∈ F, k ∈ Fb ∨ wb.heap.size ≤ k) (c : Conv wb Fb A B) : Rd B w F v l := by
  obtain ⟨G, hG, hlt⟩ := h
  exact ⟨_, c.row hf hG, fun k hk => by
    rcases List.mem_append.mp hk with hk | hk
    · exact hlt k hk
    · obtain ⟨h1, h2⟩ := mem_baseG.mp hk
      exact ⟨Nat.lt_of_lt_of_le h1 hf.size, fun hin => by rcases hF k hin with h | h; exact h2 h; omega⟩⟩
theorem SL.undbrow {T : Ty α} {w1 : World} {F1 : List Nat} {l : List α} {cs : List Value} {ps : List Ck} (hs : SL w0 F0 w (Dt (Ty.brow w1 F1 T) l cs :: ps)) : ∃ v, cs = [v] ∧ Rd T w1 F1 v l ∧ SL w0 F0 w ps := by
  obtain ⟨F, ⟨F1', F2, e, ⟨⟨v, rfl, h⟩, _⟩, h2, hd⟩, hF⟩ := hs.st
  exact ⟨v, rfl, h, hs.drop⟩
end
/-! ### Rows that are the call's own, or what came in -/
section
variable {α : Type} {T : Ty α} {w0 wb w : World} {F0 Fb F : List Nat} {v : Value} {l : List α} {ps rest : List Ck}
def Mx (T : Ty α) (wb : World) (Fb : List Nat) (v : Value) (l : List α) : Ck :=
  ⟨fun w F => slOwn T w F v l ∨ (F = [] ∧ Rd T wb Fb v l), fun h hk => h.imp (fun h => h.loc hk) id, fun h k hk => by
    rcases h with h | ⟨rfl, _⟩
    · exact h.lt k hk
    · cases hk⟩
theorem SL.mx_own (hs : SL w0 F0 w (Sl T v l :: ps)) : SL w0 F0 w (Mx T wb Fb v l :: ps) := hs.re fun F hF => by
  obtain ⟨F1, F2, e, h1, h2, hd⟩ := hF
  exact ⟨F, ⟨F1, F2, e, .inl h1, h2, hd⟩, fun _ => Iff.rfl⟩
theorem SL.mx_rdb (hs : SL w0 F0 w ps) (h : Rd T wb Fb v l) : SL w0 F0 w (Mx T wb Fb v l :: ps) := hs.re fun F hF => ⟨F, ⟨[], F, rfl, .inr ⟨rfl, h⟩, hF, by simp⟩, fun _ => Iff.rfl⟩
theorem rd_of_mx (hm : Mx T wb Fb v l ∈ rest) (hG : ∃ G, Star rest w G ∧ ∀ k ∈ F, k ∉ G) (hf : Fm wb Fb w) (hF : ∀ k ∈ F, k ∈ Fb ∨ wb.heap.size ≤ k) : Rd T w F v l := by
  obtain ⟨G, h1, h2⟩ := hG
  obtain ⟨G', h3, h4⟩ := star_mem hm h1
  rcases h3 with h5 | ⟨_, G2, h6, h7⟩
  · exact ⟨G', slOwn.rd h5, fun k hk => ⟨slOwn.lt h5 k hk, fun hin => h2 k hin (h4 k hk)⟩⟩
  · exact ⟨G2, h6.loc fun k hk => hf.block k (h7 k hk).1 (h7 k hk).2, fun k hk => ⟨Nat.lt_of_lt_of_le (h7 k hk).1 hf.size, fun hin => by
      rcases hF k hin with h | h
      · exact (h7 k hk).2 h
      · have := (h7 k hk).1; omega⟩⟩
theorem SL.mx_rd0 (hs : SL wb Fb w ps) (hm : Mx T wb Fb v l ∈ ps) : Rd T w [] v l := by
  obtain ⟨F, h1, _⟩ := hs.st
  exact rd_of_mx hm ⟨F, h1, by simp⟩ hs.fm nil_mem
theorem SL.mx_rd (hs : SL wb Fb w ps) (hm : Mx T wb Fb v l ∈ ps) : ∃ G, slRd T w G v l := by
  obtain ⟨G, h, _⟩ := hs.mx_rd0 hm
  exact ⟨G, h⟩
end
end Go.Pv
