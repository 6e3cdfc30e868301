/- Memory: chunks of it with their footprints, and what a world is beside the one in which a call began. -/
import Derived.Test.YtkcehlfcfcabmaaGreatPva
import Derived.Laws.Append
import Derived.Laws.CopyRow
set_option linter.unusedVariables false
set_option linter.unusedSimpArgs false
namespace Go.Pv
open Go Go.RowKit

theorem block_add (a : Addr) (n : Nat) : (a.add n).block = a.block := by unfold Addr.add; split <;> rfl
theorem add_add' (a : Addr) (i j : Nat) : (a.add i).add j = a.add (i + j) := by
  unfold Addr.add
  by_cases hi : i = 0 <;> by_cases hj : j = 0 <;> simp [hi, hj, Nat.add_assoc]
theorem add_mk (g o n : Nat) : (⟨g, o, none⟩ : Addr).add n = ⟨g, o + n, none⟩ := by
  unfold Addr.add
  by_cases h : n = 0 <;> simp [h]
theorem cell_lt {w : World} {a : Addr} {u : Value} (h : w.cell? a = some u) : a.block < w.heap.size := by
  rcases Nat.lt_or_ge a.block w.heap.size with h1 | h1
  · exact h1
  · unfold World.cell? at h; rw [Array.getElem?_eq_none h1] at h; cases h
theorem heap_lt {w : World} {k : Nat} {o : Obj} (h : w.heap[k]? = some o) : k < w.heap.size := by
  rcases Nat.lt_or_ge k w.heap.size with h1 | h1
  · exact h1
  · rw [Array.getElem?_eq_none h1] at h; cases h
theorem cell_congr {w w' : World} {a : Addr} (h : w'.heap[a.block]? = w.heap[a.block]?) : w'.cell? a = w.cell? a := by simp [World.cell?, h]

/-! ### Frames of worlds -/
/-- Outside of the blocks F0 what was there when the call began (w0) is as it was. -/
structure Fm (w0 : World) (F0 : List Nat) (w : World) : Prop where
  os : w.os = w0.os
  tape : w.tape = w0.tape
  output : w.output = w0.output
  size : w0.heap.size ≤ w.heap.size
  block : ∀ k, k < w0.heap.size → k ∉ F0 → w.heap[k]? = w0.heap[k]?

theorem Fm.refl (w : World) (F : List Nat) : Fm w F w := ⟨rfl, rfl, rfl, Nat.le_refl _, fun _ _ _ => rfl⟩
theorem Fm.trans {w0 w w1 : World} {F0 F1 : List Nat} (h : Fm w0 F0 w) (h1 : Fm w F1 w1) (hF : ∀ k ∈ F1, k ∈ F0 ∨ w0.heap.size ≤ k) : Fm w0 F0 w1 :=
  ⟨h1.os.trans h.os, h1.tape.trans h.tape, h1.output.trans h.output, Nat.le_trans h.size h1.size, fun k hk hn => by
    rw [h1.block k (Nat.lt_of_lt_of_le hk h.size) (fun hin => by rcases hF k hin with h2 | h2; exact hn h2; omega)]
    exact h.block k hk hn⟩
theorem Fm.below {w0 w : World} (h : Fm w0 [] w) : Below w0.heap.size w0 w := ⟨h.os, h.tape, h.output, h.size, fun k hk => h.block k hk (by simp)⟩
theorem Fm.drew (w : World) (F : List Nat) : Fm w F w.drew := ⟨rfl, rfl, rfl, Nat.le_refl _, fun _ _ _ => rfl⟩
theorem Fm.alloc (w : World) (F : List Nat) (o : Obj) : Fm w F (w.alloc o) := ⟨rfl, rfl, rfl, by simp, fun k hk _ => Below.heap_alloc w o k hk⟩
/-- One block has turned. -/
theorem Fm.one {w w' : World} {g : Nat} (h1 : w'.os = w.os) (h2 : w'.tape = w.tape) (h3 : w'.output = w.output) (h4 : w'.heap.size = w.heap.size) (h5 : ∀ k, k ≠ g → w'.heap[k]? = w.heap[k]?) : Fm w [g] w' :=
  ⟨h1, h2, h3, by omega, fun k _ hn => h5 k (by simpa using hn)⟩

/-! ### Chunks -/
/-- Something that holds of memory by the blocks of its footprint alone. -/
structure Ck where
  P : World → List Nat → Prop
  loc : ∀ {w w' F}, P w F → (∀ k ∈ F, w'.heap[k]? = w.heap[k]?) → P w' F
  lt : ∀ {w F}, P w F → ∀ k ∈ F, k < w.heap.size

def Star : List Ck → World → List Nat → Prop
  | [], _, F => F = []
  | p :: ps, w, F => ∃ F1 F2, F = F1 ++ F2 ∧ p.P w F1 ∧ Star ps w F2 ∧ ∀ k ∈ F1, k ∉ F2

theorem Star.loc : ∀ {ps : List Ck} {w w' : World} {F : List Nat}, Star ps w F → (∀ k ∈ F, w'.heap[k]? = w.heap[k]?) → Star ps w' F
  | [], _, _, _, h, _ => h
  | p :: ps, w, w', F, ⟨F1, F2, e, h1, h2, hd⟩, hk => ⟨F1, F2, e, p.loc h1 (fun k hk' => hk k (by simp [e, hk'])), Star.loc h2 (fun k hk' => hk k (by simp [e, hk'])), hd⟩
theorem Star.lt : ∀ {ps : List Ck} {w : World} {F : List Nat}, Star ps w F → ∀ k ∈ F, k < w.heap.size
  | [], _, _, h, k, hk => by rw [h] at hk; cases hk
  | p :: ps, w, F, ⟨F1, F2, e, h1, h2, _⟩, k, hk => by
    rw [e, List.mem_append] at hk
    rcases hk with hk | hk
    · exact p.lt h1 k hk
    · exact Star.lt h2 k hk
theorem Star.append : ∀ {ps qs : List Ck} {w : World} {F : List Nat}, Star (ps ++ qs) w F ↔ ∃ F1 F2, F = F1 ++ F2 ∧ Star ps w F1 ∧ Star qs w F2 ∧ ∀ k ∈ F1, k ∉ F2
  | [], qs, w, F => by
    constructor
    · intro h; exact ⟨[], F, rfl, rfl, h, by simp⟩
    · rintro ⟨F1, F2, e, h1, h2, _⟩
      rw [show F1 = [] from h1, List.nil_append] at e
      subst e
      exact h2
  | p :: ps, qs, w, F => by
    constructor
    · rintro ⟨F1, F2, e, h1, h2, hd⟩
      obtain ⟨G1, G2, e', h3, h4, hd'⟩ := Star.append.1 h2
      subst e' e
      exact ⟨F1 ++ G1, G2, by simp, ⟨F1, G1, rfl, h1, h3, fun k hk hk' => hd k hk (by simp [hk'])⟩, h4, fun k hk hk' => by
        rw [List.mem_append] at hk
        rcases hk with hk | hk
        · exact hd k hk (by simp [hk'])
        · exact hd' k hk hk'⟩
    · rintro ⟨F1, F2, e, ⟨G1, G2, e', h1, h2, hd⟩, h3, hd'⟩
      subst e' e
      exact ⟨G1, G2 ++ F2, by simp, h1, Star.append.2 ⟨G2, F2, rfl, h2, h3, fun k hk => hd' k (by simp [hk])⟩, fun k hk hk' => by
        rw [List.mem_append] at hk'
        rcases hk' with hk' | hk'
        · exact hd k hk hk'
        · exact hd' k (by simp [hk]) hk'⟩
theorem Star.one {p : Ck} {w : World} {F : List Nat} (h : p.P w F) : Star [p] w F := ⟨F, [], by simp, h, rfl, by simp⟩
theorem Star.of_one {p : Ck} {w : World} {F : List Nat} (h : Star [p] w F) : p.P w F := by
  obtain ⟨F1, F2, e, h1, h2, _⟩ := h
  rw [show F2 = [] from h2, List.append_nil] at e
  subst e
  exact h1
theorem Star.swap {p q : Ck} {ps : List Ck} {w : World} {F : List Nat} (h : Star (p :: q :: ps) w F) : ∃ F', Star (q :: p :: ps) w F' ∧ ∀ k, k ∈ F' ↔ k ∈ F := by
  obtain ⟨F1, F2, e, h1, ⟨G1, G2, e', h2, h3, hd'⟩, hd⟩ := h
  subst e' e
  refine ⟨G1 ++ (F1 ++ G2), ⟨G1, F1 ++ G2, rfl, h2, ⟨F1, G2, rfl, h1, h3, fun k hk hk' => hd k hk (by simp [hk'])⟩, fun k hk hk' => ?_⟩, fun k => by simp only [List.mem_append]; exact or_left_comm⟩
  rw [List.mem_append] at hk'
  rcases hk' with hk' | hk'
  · exact hd k hk' (by simp [hk])
  · exact hd' k hk hk'
theorem Star.cons_iff {p : Ck} {ps qs : List Ck} {w : World} (h : ∀ F, Star ps w F → ∃ F', Star qs w F' ∧ ∀ k, k ∈ F' ↔ k ∈ F) {F : List Nat} (hs : Star (p :: ps) w F) :
    ∃ F', Star (p :: qs) w F' ∧ ∀ k, k ∈ F' ↔ k ∈ F := by
  obtain ⟨F1, F2, e, h1, h2, hd⟩ := hs
  obtain ⟨F2', h3, h4⟩ := h F2 h2
  subst e
  exact ⟨F1 ++ F2', ⟨F1, F2', rfl, h1, h3, fun k hk hk' => hd k hk ((h4 k).1 hk')⟩, fun k => by simp [h4]⟩

/-- The world w beside w0: outside F0 what was there is as it was; the chunks ps hold, each by blocks of its own, which are of F0 or new. -/
structure SL (w0 : World) (F0 : List Nat) (w : World) (ps : List Ck) : Prop where
  fm : Fm w0 F0 w
  st : ∃ F, Star ps w F ∧ ∀ k ∈ F, k ∈ F0 ∨ w0.heap.size ≤ k

section
variable {w0 w w' : World} {F0 : List Nat} {p q : Ck} {ps qs rest : List Ck}
theorem SL.init (w : World) (F : List Nat) (h : Star ps w F) : SL w F w ps := ⟨Fm.refl w F, F, h, fun _ hk => .inl hk⟩
theorem SL.init0 (w : World) : SL w [] w [] := ⟨Fm.refl w [], [], rfl, by simp⟩
theorem SL.re (h : SL w0 F0 w ps) (hp : ∀ F, Star ps w F → ∃ F', Star qs w F' ∧ ∀ k, k ∈ F' ↔ k ∈ F) : SL w0 F0 w qs := by
  obtain ⟨F, hs, hF⟩ := h.st
  obtain ⟨F', hs', hi⟩ := hp F hs
  exact ⟨h.fm, F', hs', fun k hk => hF k ((hi k).1 hk)⟩
theorem SL.f1 {a b : Ck} {r : List Ck} (h : SL w0 F0 w (a :: b :: r)) : SL w0 F0 w (b :: a :: r) := h.re fun _ hs => Star.swap hs
theorem star_f2 {a b c : Ck} {r : List Ck} {F : List Nat} (h : Star (a :: b :: c :: r) w F) : ∃ F', Star (c :: a :: b :: r) w F' ∧ ∀ k, k ∈ F' ↔ k ∈ F := by
  obtain ⟨F1, h1, i1⟩ := Star.cons_iff (fun _ hs => Star.swap hs) h
  obtain ⟨F2, h2, i2⟩ := Star.swap h1
  exact ⟨F2, h2, fun k => (i2 k).trans (i1 k)⟩
theorem SL.f2 {a b c : Ck} {r : List Ck} (h : SL w0 F0 w (a :: b :: c :: r)) : SL w0 F0 w (c :: a :: b :: r) := h.re fun _ hs => star_f2 hs
theorem star_f3 {a b c d : Ck} {r : List Ck} {F : List Nat} (h : Star (a :: b :: c :: d :: r) w F) : ∃ F', Star (d :: a :: b :: c :: r) w F' ∧ ∀ k, k ∈ F' ↔ k ∈ F := by
  obtain ⟨F1, h1, i1⟩ := Star.cons_iff (fun _ hs => star_f2 hs) h
  obtain ⟨F2, h2, i2⟩ := Star.swap h1
  exact ⟨F2, h2, fun k => (i2 k).trans (i1 k)⟩
theorem SL.f3 {a b c d : Ck} {r : List Ck} (h : SL w0 F0 w (a :: b :: c :: d :: r)) : SL w0 F0 w (d :: a :: b :: c :: r) := h.re fun _ hs => star_f3 hs
theorem star_f4 {a b c d e : Ck} {r : List Ck} {F : List Nat} (h : Star (a :: b :: c :: d :: e :: r) w F) : ∃ F', Star (e :: a :: b :: c :: d :: r) w F' ∧ ∀ k, k ∈ F' ↔ k ∈ F := by
  obtain ⟨F1, h1, i1⟩ := Star.cons_iff (fun _ hs => star_f3 hs) h
  obtain ⟨F2, h2, i2⟩ := Star.swap h1
  exact ⟨F2, h2, fun k => (i2 k).trans (i1 k)⟩
theorem SL.f4 {a b c d e : Ck} {r : List Ck} (h : SL w0 F0 w (a :: b :: c :: d :: e :: r)) : SL w0 F0 w (e :: a :: b :: c :: d :: r) := h.re fun _ hs => star_f4 hs
theorem star_f5 {a b c d e f : Ck} {r : List Ck} {F : List Nat} (h : Star (a :: b :: c :: d :: e :: f :: r) w F) : ∃ F', Star (f :: a :: b :: c :: d :: e :: r) w F' ∧ ∀ k, k ∈ F' ↔ k ∈ F := by
  obtain ⟨F1, h1, i1⟩ := Star.cons_iff (fun _ hs => star_f4 hs) h
  obtain ⟨F2, h2, i2⟩ := Star.swap h1
  exact ⟨F2, h2, fun k => (i2 k).trans (i1 k)⟩
theorem SL.f5 {a b c d e f : Ck} {r : List Ck} (h : SL w0 F0 w (a :: b :: c :: d :: e :: f :: r)) : SL w0 F0 w (f :: a :: b :: c :: d :: e :: r) := h.re fun _ hs => star_f5 hs

/-- A chunk is forgotten. -/
theorem SL.drop (h : SL w0 F0 w (p :: ps)) : SL w0 F0 w ps := by
  obtain ⟨F, ⟨F1, F2, e, h1, h2, hd⟩, hF⟩ := h.st
  exact ⟨h.fm, F2, h2, fun k hk => hF k (by simp [e, hk])⟩
theorem SL.rot {a : Ck} (h : SL w0 F0 w (a :: ps)) : SL w0 F0 w (ps ++ [a]) := h.re fun F hs => by
  obtain ⟨F1, F2, e, h1, h2, hd⟩ := hs
  subst e
  exact ⟨F2 ++ F1, Star.append.2 ⟨F2, F1, rfl, h2, Star.one h1, fun k hk hk' => hd k hk' hk⟩, fun k => by simp only [List.mem_append]; exact or_comm⟩

/-- The chunks ps are taken out of the rest: whatever is done to their blocks and to new ones, the rest stays. -/
theorem SL.open_ (h : SL w0 F0 w (ps ++ rest)) : ∃ F, Star ps w F ∧ (∀ k ∈ F, k ∈ F0 ∨ w0.heap.size ≤ k) ∧ (∃ G, Star rest w G ∧ ∀ k ∈ F, k ∉ G) ∧
    ∀ w' qs, SL w F w' qs → SL w0 F0 w' (qs ++ rest) := by
  obtain ⟨F, hs, hF⟩ := h.st
  obtain ⟨F1, F2, e, h1, h2, hd⟩ := Star.append.1 hs
  subst e
  refine ⟨F1, h1, fun k hk => hF k (by simp [hk]), ⟨F2, h2, hd⟩, fun w' qs hq => ?_⟩
  obtain ⟨G, hg, hG⟩ := hq.st
  have hlt := Star.lt h2
  refine ⟨h.fm.trans hq.fm (fun k hk => hF k (by simp [hk])), G ++ F2, Star.append.2 ⟨G, F2, rfl, hg, Star.loc h2 (fun k hk => hq.fm.block k (hlt k hk) (fun hin => hd k hin hk)), fun k hk hk' => ?_⟩, fun k hk => ?_⟩
  · rcases hG k hk with h3 | h3
    · exact hd k h3 hk'
    · have := hlt k hk'; omega
  · rw [List.mem_append] at hk
    rcases hk with hk | hk
    · rcases hG k hk with h3 | h3
      · exact hF k (by simp [h3])
      · right; have := h.fm.size; omega
    · exact hF k (by simp [hk])

/-- A step that turns no block of the chunks: new blocks, draws. -/
theorem SL.add (h : SL w0 F0 w ps) (hq : SL w [] w' qs) : SL w0 F0 w' (qs ++ ps) := by
  obtain ⟨F, hs, _, _, hk⟩ := SL.open_ (ps := []) (rest := ps) (by simpa using h)
  rw [show F = [] from hs] at hk
  exact hk w' qs hq
theorem SL.drew (h : SL w0 F0 w ps) : SL w0 F0 w.drew ps := by
  have := h.add (w' := w.drew) (qs := []) ⟨Fm.drew w [], [], rfl, by simp⟩
  simpa using this
theorem SL.trans0 (h : SL w0 F0 w []) (hq : SL w [] w' qs) : SL w0 F0 w' qs := by simpa using h.add hq
end

/-! ### Kinds of data -/
/-- How data of a type lies in cells: rd: to be read (by the blocks G at most); own: in rows of its own. -/
structure Ty (α : Type) where
  sz : Nat
  rd : World → List Nat → α → List Value → Prop
  own : World → List Nat → α → List Value → Prop
  rd_len : ∀ {w G x cs}, rd w G x cs → cs.length = sz
  rd_one : ∀ {w G x cs}, rd w G x cs → ∀ u ∈ cs, u.oneCell' = true
  rd_loc : ∀ {w w' G x cs}, rd w G x cs → (∀ k ∈ G, w'.heap[k]? = w.heap[k]?) → rd w' G x cs
  rd_mono : ∀ {w G G' x cs}, rd w G x cs → (∀ k ∈ G, k ∈ G') → rd w G' x cs
  own_loc : ∀ {w w' F x cs}, own w F x cs → (∀ k ∈ F, w'.heap[k]? = w.heap[k]?) → own w' F x cs
  own_lt : ∀ {w F x cs}, own w F x cs → ∀ k ∈ F, k < w.heap.size
  own_rd : ∀ {w F x cs}, own w F x cs → rd w F x cs

namespace Ty
/-- One cell, no memory. -/
def scalar {α : Type} (enc : α → Value) (h1 : ∀ x, (enc x).oneCell' = true) : Ty α where
  sz := 1
  rd _ _ x cs := cs = [enc x]
  own _ F x cs := cs = [enc x] ∧ F = []
  rd_len h := by rw [h]; rfl
  rd_one h u hu := by rw [h] at hu; simp only [List.mem_singleton] at hu; rw [hu]; exact h1 _
  rd_loc h _ := h
  rd_mono h _ := h
  own_loc h _ := h
  own_lt h k hk := by rw [h.2] at hk; cases hk
  own_rd h := h.1
def int (k : IntKind) : Ty Int := scalar (Value.int k) (fun _ => rfl)
def bool : Ty Bool := scalar Value.bool (fun _ => rfl)
def u8 : Ty UInt8 := scalar (fun b => Value.int .u8 (b.toNat : Int)) (fun _ => rfl)
def u32 : Ty UInt32 := scalar (fun b => Value.int .u32 (b.toNat : Int)) (fun _ => rfl)
def u64 : Ty UInt64 := scalar (fun b => Value.int .u64 (b.toNat : Int)) (fun _ => rfl)
def str : Ty (List UInt8) := scalar (fun s => Value.string ⟨⟨s⟩⟩) (fun _ => rfl)

/-- Two behind one another. -/
def pair {α β : Type} (A : Ty α) (B : Ty β) : Ty (α × β) where
  sz := A.sz + B.sz
  rd w G x cs := ∃ c d, cs = c ++ d ∧ A.rd w G x.1 c ∧ B.rd w G x.2 d
  own w F x cs := ∃ c d F1 F2, cs = c ++ d ∧ F = F1 ++ F2 ∧ A.own w F1 x.1 c ∧ B.own w F2 x.2 d ∧ ∀ k ∈ F1, k ∉ F2
  rd_len := by rintro w G x cs ⟨c, d, rfl, h1, h2⟩; rw [List.length_append, A.rd_len h1, B.rd_len h2]
  rd_one := by
    rintro w G x cs ⟨c, d, rfl, h1, h2⟩ u hu
    rw [List.mem_append] at hu
    rcases hu with hu | hu
    · exact A.rd_one h1 u hu
    · exact B.rd_one h2 u hu
  rd_loc := by rintro w w' G x cs ⟨c, d, rfl, h1, h2⟩ hk; exact ⟨c, d, rfl, A.rd_loc h1 hk, B.rd_loc h2 hk⟩
  rd_mono := by rintro w G G' x cs ⟨c, d, rfl, h1, h2⟩ hk; exact ⟨c, d, rfl, A.rd_mono h1 hk, B.rd_mono h2 hk⟩
  own_loc := by
    rintro w w' F x cs ⟨c, d, F1, F2, rfl, rfl, h1, h2, hd⟩ hk
    exact ⟨c, d, F1, F2, rfl, rfl, A.own_loc h1 (fun k h => hk k (by simp [h])), B.own_loc h2 (fun k h => hk k (by simp [h])), hd⟩
  own_lt := by
    rintro w F x cs ⟨c, d, F1, F2, rfl, rfl, h1, h2, hd⟩ k hk
    rw [List.mem_append] at hk
    rcases hk with hk | hk
    · exact A.own_lt h1 k hk
    · exact B.own_lt h2 k hk
  own_rd := by
    rintro w F x cs ⟨c, d, F1, F2, rfl, rfl, h1, h2, hd⟩
    exact ⟨c, d, rfl, A.rd_mono (A.own_rd h1) (fun k h => by simp [h]), B.rd_mono (B.own_rd h2) (fun k h => by simp [h])⟩
/-- Under another name. -/
def iso {α β : Type} (A : Ty α) (f : β → α) : Ty β where
  sz := A.sz
  rd w G x cs := A.rd w G (f x) cs
  own w F x cs := A.own w F (f x) cs
  rd_len := A.rd_len
  rd_one := A.rd_one
  rd_loc := A.rd_loc
  rd_mono := A.rd_mono
  own_loc := A.own_loc
  own_lt := A.own_lt
  own_rd := A.own_rd
end Ty

/-- Cells from an address on. -/
def Cells (w : World) (ad : Addr) (cs : List Value) : Prop := ∀ j u, cs[j]? = some u → w.cell? (ad.add j) = some u

/-- v reads as the list l. -/
def slRd {α : Type} (T : Ty α) (w : World) (G : List Nat) (v : Value) (l : List α) : Prop :=
  ∃ A c, v = .slice A l.length c ∧ l.length ≤ c ∧ ∀ i x, l[i]? = some x → ∃ ad cs, A = some ad ∧ ad.block ∈ G ∧ Cells w (ad.add (i * T.sz)) cs ∧ T.rd w G x cs

/-- Elements one behind another, each with rows of its own. -/
def Els {α : Type} (T : Ty α) (w : World) : List Nat → List α → List Value → Prop
  | F, [], cs => cs = [] ∧ F = []
  | F, x :: l, cs => ∃ c d F1 F2, cs = c ++ d ∧ F = F1 ++ F2 ∧ T.own w F1 x c ∧ Els T w F2 l d ∧ ∀ k ∈ F1, k ∉ F2

/-- A row of n elements, of sz cells each, in a block of its own (or none: nil), that holds the cells xs. -/
def rowOwn (sz : Nat) (w : World) (F : List Nat) (v : Value) (n : Nat) (xs : List Value) : Prop :=
  xs.length = n * sz ∧ ((v = .slice none 0 0 ∧ n = 0 ∧ F = []) ∨
    ∃ g o cap cur e fz, v = .slice (some ⟨g, o, none⟩) n cap ∧ F = [g] ∧ w.heap[g]? = some (.cells cur e fz) ∧ n ≤ cap ∧ o + cap * sz ≤ cur.size ∧ (∀ j, j < cur.size → ¬ (fz.1 ≤ j ∧ j < fz.2)) ∧
      ∀ j u, xs[j]? = some u → cur[o + j]? = some u)

def slOwn {α : Type} (T : Ty α) (w : World) (F : List Nat) (v : Value) (l : List α) : Prop :=
  ∃ cs F1 F2, F = F1 ++ F2 ∧ rowOwn T.sz w F1 v l.length cs ∧ Els T w F2 l cs ∧ ∀ k ∈ F1, k ∉ F2

section
variable {α : Type} {T : Ty α} {w w' : World} {G G' F : List Nat} {v : Value} {l : List α}
theorem Cells.loc {ad : Addr} {cs : List Value} (h : Cells w ad cs) (hk : w'.heap[ad.block]? = w.heap[ad.block]?) : Cells w' ad cs := fun j u hu => by
  rw [cell_congr (w := w) (by rw [block_add]; exact hk)]
  exact h j u hu
theorem slRd.loc (h : slRd T w G v l) (hk : ∀ k ∈ G, w'.heap[k]? = w.heap[k]?) : slRd T w' G v l := by
  obtain ⟨A, c, hv, hc, hi⟩ := h
  refine ⟨A, c, hv, hc, fun i x hx => ?_⟩
  obtain ⟨ad, cs, h1, h2, h3, h4⟩ := hi i x hx
  exact ⟨ad, cs, h1, h2, h3.loc (by rw [block_add]; exact hk _ h2), T.rd_loc h4 hk⟩
theorem slRd.mono (h : slRd T w G v l) (hk : ∀ k ∈ G, k ∈ G') : slRd T w G' v l := by
  obtain ⟨A, c, hv, hc, hi⟩ := h
  refine ⟨A, c, hv, hc, fun i x hx => ?_⟩
  obtain ⟨ad, cs, h1, h2, h3, h4⟩ := hi i x hx
  exact ⟨ad, cs, h1, hk _ h2, h3, T.rd_mono h4 hk⟩
theorem Els.loc : ∀ {F : List Nat} {l : List α} {cs : List Value}, Els T w F l cs → (∀ k ∈ F, w'.heap[k]? = w.heap[k]?) → Els T w' F l cs
  | _, [], _, h, _ => h
  | _, x :: l, _, ⟨c, d, F1, F2, e1, e2, h1, h2, hd⟩, hk => ⟨c, d, F1, F2, e1, e2, T.own_loc h1 (fun k h => hk k (by simp [e2, h])), Els.loc h2 (fun k h => hk k (by simp [e2, h])), hd⟩
theorem Els.lt : ∀ {F : List Nat} {l : List α} {cs : List Value}, Els T w F l cs → ∀ k ∈ F, k < w.heap.size
  | _, [], _, h, k, hk => by rw [h.2] at hk; cases hk
  | _, x :: l, _, ⟨c, d, F1, F2, e1, e2, h1, h2, hd⟩, k, hk => by
    rw [e2, List.mem_append] at hk
    rcases hk with hk | hk
    · exact T.own_lt h1 k hk
    · exact Els.lt h2 k hk
theorem Els.len : ∀ {F : List Nat} {l : List α} {cs : List Value}, Els T w F l cs → cs.length = l.length * T.sz
  | _, [], _, h => by rw [h.1]; simp
  | _, x :: l, _, ⟨c, d, F1, F2, e1, e2, h1, h2, hd⟩ => by
    rw [e1, List.length_append, T.rd_len (T.own_rd h1), h2.len, List.length_cons, Nat.add_mul]; omega
theorem Els.at_ : ∀ {F : List Nat} {l : List α} {cs : List Value}, Els T w F l cs → ∀ i x, l[i]? = some x → ∃ c F1, T.own w F1 x c ∧ (∀ k ∈ F1, k ∈ F) ∧ ∀ j u, c[j]? = some u → cs[i * T.sz + j]? = some u
  | _, [], _, _, i, x, hx => by simp at hx
  | _, y :: l, _, ⟨c, d, F1, F2, e1, e2, h1, h2, hd⟩, 0, x, hx => by
    simp only [List.getElem?_cons_zero, Option.some.injEq] at hx
    subst hx
    refine ⟨c, F1, h1, fun k hk => by simp [e2, hk], fun j u hu => ?_⟩
    rw [e1, Nat.zero_mul, Nat.zero_add, List.getElem?_append_left (List.getElem?_eq_some_iff.1 hu).1]
    exact hu
  | _, y :: l, _, ⟨c, d, F1, F2, e1, e2, h1, h2, hd⟩, i + 1, x, hx => by
    simp only [List.getElem?_cons_succ] at hx
    obtain ⟨c', F', h3, h4, h5⟩ := Els.at_ h2 i x hx
    refine ⟨c', F', h3, fun k hk => by simp [e2, h4 k hk], fun j u hu => ?_⟩
    have hl := T.rd_len (T.own_rd h1)
    rw [e1, List.getElem?_append_right (by rw [hl, Nat.add_mul]; omega), ← h5 j u hu]
    congr 1
    rw [hl, Nat.add_mul]; omega
theorem Els.append : ∀ {F : List Nat} {l m : List α} {cs : List Value}, (∃ c d F1 F2, cs = c ++ d ∧ F = F1 ++ F2 ∧ Els T w F1 l c ∧ Els T w F2 m d ∧ ∀ k ∈ F1, k ∉ F2) → Els T w F (l ++ m) cs
  | _, [], m, _, ⟨c, d, F1, F2, e1, e2, h1, h2, hd⟩ => by
    obtain ⟨rfl, rfl⟩ := h1
    simp only [List.nil_append] at e1 e2 ⊢
    subst e1 e2
    exact h2
  | _, x :: l, m, _, ⟨c, d, F1, F2, e1, e2, ⟨c1, c2, G1, G2, e3, e4, h3, h4, hd'⟩, h2, hd⟩ => by
    subst e1 e2 e3 e4
    refine ⟨c1, c2 ++ d, G1, G2 ++ F2, by simp, by simp, h3, Els.append ⟨c2, d, G2, F2, rfl, rfl, h4, h2, fun k hk => hd k (by simp [hk])⟩, fun k hk hk' => ?_⟩
    rw [List.mem_append] at hk'
    rcases hk' with hk' | hk'
    · exact hd' k hk hk'
    · exact hd k (by simp [hk]) hk'
theorem Els.one {x : α} {cs : List Value} (h : T.own w F x cs) : Els T w F [x] cs := ⟨cs, [], F, [], by simp, by simp, h, ⟨rfl, rfl⟩, by simp⟩

theorem rowOwn.loc {sz n : Nat} {xs : List Value} (h : rowOwn sz w F v n xs) (hk : ∀ k ∈ F, w'.heap[k]? = w.heap[k]?) : rowOwn sz w' F v n xs := by
  refine ⟨h.1, ?_⟩
  rcases h.2 with h2 | ⟨g, o, cap, cur, e, fz, h1, h2, h3, h4⟩
  · exact .inl h2
  · exact .inr ⟨g, o, cap, cur, e, fz, h1, h2, by rw [hk g (by simp [h2])]; exact h3, h4⟩
theorem rowOwn.lt {sz n : Nat} {xs : List Value} (h : rowOwn sz w F v n xs) : ∀ k ∈ F, k < w.heap.size := by
  intro k hk
  rcases h.2 with ⟨_, _, h2⟩ | ⟨g, o, cap, cur, e, fz, h1, h2, h3, h4⟩
  · rw [h2] at hk; cases hk
  · rw [h2, List.mem_singleton] at hk; subst hk; exact heap_lt h3
theorem rowOwn.cells {sz n : Nat} {xs : List Value} (h : rowOwn sz w F v n xs) : ∃ A c, v = .slice A n c ∧ n ≤ c ∧ ∀ j u, xs[j]? = some u → ∃ ad, A = some ad ∧ ad.block ∈ F ∧ w.cell? (ad.add j) = some u := by
  rcases h.2 with ⟨h1, h2, _⟩ | ⟨g, o, cap, cur, e, fz, h1, h2, h3, h4, h5, h6, h7⟩
  · subst h2
    have hx : xs = [] := List.eq_nil_of_length_eq_zero (by simpa using h.1)
    subst hx
    exact ⟨none, 0, h1, Nat.le_refl _, fun j u hu => by simp at hu⟩
  · exact ⟨_, cap, h1, h4, fun j u hu => ⟨_, rfl, by simp [h2], by rw [add_mk]; simp [World.cell?, h3, h7 j u hu]⟩⟩

theorem slOwn.loc (h : slOwn T w F v l) (hk : ∀ k ∈ F, w'.heap[k]? = w.heap[k]?) : slOwn T w' F v l := by
  obtain ⟨cs, F1, F2, e, h1, h2, hd⟩ := h
  exact ⟨cs, F1, F2, e, h1.loc (fun k h => hk k (by simp [e, h])), h2.loc (fun k h => hk k (by simp [e, h])), hd⟩
theorem slOwn.lt (h : slOwn T w F v l) : ∀ k ∈ F, k < w.heap.size := by
  obtain ⟨cs, F1, F2, e, h1, h2, hd⟩ := h
  intro k hk
  rw [e, List.mem_append] at hk
  rcases hk with hk | hk
  · exact h1.lt k hk
  · exact h2.lt k hk
theorem slOwn.rd (h : slOwn T w F v l) : slRd T w F v l := by
  obtain ⟨cs, F1, F2, e, h1, h2, hd⟩ := h
  obtain ⟨A, c, hv, hc, hcell⟩ := h1.cells
  refine ⟨A, c, hv, hc, fun i x hx => ?_⟩
  obtain ⟨c', F', h3, h4, h5⟩ := h2.at_ i x hx
  have hl := T.rd_len (T.own_rd h3)
  have hil : i < l.length := (List.getElem?_eq_some_iff.1 hx).1
  rcases Nat.eq_zero_or_pos T.sz with hz | hz
  · -- no cells: any address of the row
    rw [hz] at hl
    have : c' = [] := List.eq_nil_of_length_eq_zero hl
    subst this
    rcases h1.2 with ⟨_, h0, _⟩ | ⟨g, o, cap, cur, e', fz, g1, g2, g3, g4, g5, g6, g7⟩
    · omega
    · have : A = some ⟨g, o, none⟩ := by rw [g1] at hv; injection hv with hv; exact hv.symm
      exact ⟨_, [], this, by simp [e, g2], fun j u hu => by simp at hu, T.rd_mono (T.own_rd h3) (fun k hk => by simp [e, h4 k hk])⟩
  · have h0 : 0 < c'.length := by omega
    obtain ⟨ad, had, hb, _⟩ := hcell (i * T.sz + 0) (c'[0]) (h5 0 _ (List.getElem?_eq_getElem h0))
    refine ⟨ad, c', had, by simp [e, hb], fun j u hu => ?_, T.rd_mono (T.own_rd h3) (fun k hk => by simp [e, h4 k hk])⟩
    obtain ⟨ad', had', _, hc'⟩ := hcell (i * T.sz + j) u (h5 j u hu)
    rw [had] at had'
    cases had'
    rw [add_add']
    exact hc'
theorem slOwn.nil (w : World) : slOwn T w [] (.slice none 0 0) [] := ⟨[], [], [], rfl, ⟨by simp, .inl ⟨rfl, rfl, rfl⟩⟩, ⟨rfl, rfl⟩, by simp⟩
end

/-- A slice type. -/
def Ty.slice {α : Type} (T : Ty α) : Ty (List α) where
  sz := 1
  rd w G l cs := ∃ v, cs = [v] ∧ slRd T w G v l
  own w F l cs := ∃ v, cs = [v] ∧ slOwn T w F v l
  rd_len := by rintro w G l cs ⟨v, rfl, h⟩; rfl
  rd_one := by
    rintro w G l cs ⟨v, rfl, A, c, rfl, _⟩ u hu
    rw [List.mem_singleton] at hu
    rw [hu]
    rfl
  rd_loc := by rintro w w' G l cs ⟨v, rfl, h⟩ hk; exact ⟨v, rfl, h.loc hk⟩
  rd_mono := by rintro w G G' l cs ⟨v, rfl, h⟩ hk; exact ⟨v, rfl, h.mono hk⟩
  own_loc := by rintro w w' F l cs ⟨v, rfl, h⟩ hk; exact ⟨v, rfl, h.loc hk⟩
  own_lt := by rintro w F l cs ⟨v, rfl, h⟩; exact h.lt
  own_rd := by rintro w F l cs ⟨v, rfl, h⟩; exact ⟨v, rfl, h.rd⟩

/-- The chunk of a row of the call's own. -/
def Sl {α : Type} (T : Ty α) (v : Value) (l : List α) : Ck := ⟨fun w F => slOwn T w F v l, fun h hk => h.loc hk, fun h => h.lt⟩
/-- The chunk of a block that is known whole. -/
def Blk (g : Nat) (t : TypeId) (cs : List Value) : Ck := ⟨fun w F => F = [g] ∧ w.heap[g]? = some (.cells cs.toArray t (0, 0)), fun h hk => ⟨h.1, by rw [hk g (by simp [h.1])]; exact h.2⟩,
  fun h k hk => by rw [h.1, List.mem_singleton] at hk; subst hk; exact heap_lt h.2⟩
/-- The chunk of data in cells of whatever kind. -/
def Dt {α : Type} (T : Ty α) (x : α) (cs : List Value) : Ck := ⟨fun w F => T.own w F x cs, fun h hk => T.own_loc h hk, fun h => T.own_lt h⟩

/-- Read in the world in which the call began, outside of what it may write. -/
def Rd {α : Type} (T : Ty α) (w0 : World) (F0 : List Nat) (v : Value) (l : List α) : Prop := ∃ G, slRd T w0 G v l ∧ ∀ k ∈ G, k < w0.heap.size ∧ k ∉ F0

section
variable {α : Type} {T : Ty α} {w0 w w' : World} {F0 F : List Nat} {v : Value} {l : List α} {ps rest : List Ck}
/-- What was read then is read now. -/
theorem Rd.now (h : Rd T w0 F0 v l) (hs : SL w0 F0 w ps) : ∃ G, slRd T w G v l ∧ ∀ k ∈ G, k < w0.heap.size ∧ k ∉ F0 := by
  obtain ⟨G, h1, h2⟩ := h
  exact ⟨G, h1.loc (fun k hk => hs.fm.block k (h2 k hk).1 (h2 k hk).2), h2⟩
/-- What is read is read by a callee that writes F (of what this call may write, or new). -/
theorem Rd.pass (h : Rd T w0 F0 v l) (hs : SL w0 F0 w ps) (hF : ∀ k ∈ F, k ∈ F0 ∨ w0.heap.size ≤ k) : Rd T w F v l := by
  obtain ⟨G, h1, h2⟩ := h.now hs
  refine ⟨G, h1, fun k hk => ⟨Nat.lt_of_lt_of_le (h2 k hk).1 hs.fm.size, fun hin => ?_⟩⟩
  rcases hF k hin with h3 | h3
  · exact (h2 k hk).2 h3
  · have := (h2 k hk).1; omega
theorem Rd.pass0 (h : Rd T w0 F0 v l) (hs : SL w0 F0 w ps) : Rd T w [] v l := h.pass hs (by simp)
theorem star_mem : ∀ {ps : List Ck} {p : Ck} {w : World} {F : List Nat}, p ∈ ps → Star ps w F → ∃ G, p.P w G ∧ ∀ k ∈ G, k ∈ F
  | q :: ps, p, w, F, hm, ⟨F1, F2, e, h1, h2, hd⟩ => by
    rcases List.mem_cons.1 hm with rfl | hm
    · exact ⟨F1, h1, fun k hk => by simp [e, hk]⟩
    · obtain ⟨G, h3, h4⟩ := star_mem hm h2
      exact ⟨G, h3, fun k hk => by simp [e, h4 k hk]⟩
theorem SL.own_rd (hs : SL w0 F0 w ps) (hm : Sl T v l ∈ ps) : ∃ G, slRd T w G v l := by
  obtain ⟨F, h1, _⟩ := hs.st
  obtain ⟨G, h3, _⟩ := star_mem hm h1
  exact ⟨G, slOwn.rd h3⟩
theorem rd_of_own (hm : Sl T v l ∈ rest) (hG : ∃ G, Star rest w G ∧ ∀ k ∈ F, k ∉ G) : Rd T w F v l := by
  obtain ⟨G, h1, h2⟩ := hG
  obtain ⟨G', h3, h4⟩ := star_mem hm h1
  have h5 : slOwn T w G' v l := h3
  exact ⟨G', h5.rd, fun k hk => ⟨h5.lt k hk, fun hin => h2 k hin (h4 k hk)⟩⟩
theorem SL.rd0 (hs : SL w0 F0 w ps) (hm : Sl T v l ∈ ps) : Rd T w [] v l := by
  obtain ⟨F, h1, _⟩ := hs.st
  exact rd_of_own hm ⟨F, h1, by simp⟩
end
end Go.Pv
