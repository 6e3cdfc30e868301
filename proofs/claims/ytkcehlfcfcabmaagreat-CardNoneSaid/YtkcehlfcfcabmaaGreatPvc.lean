/- Operations on memory: what they yield, and what the chunks are behind them. -/
import Derived.Test.YtkcehlfcfcabmaaGreatPvb
import Derived.Laws.OwnMore
set_option linter.unusedVariables false
set_option linter.unusedSimpArgs false
namespace Go.Pv
open Go Go.RowKit

/-! ### Facts of a program's types, asked by the kernel -/
def slB (P : Program) (t e sz bytes : Nat) (z : Value → Bool) : Bool :=
  match P.underlying t, P.info? e with
  | some (.slice e'), some i => e' == e && i.size == sz && i.bytes == bytes && (match i.zero with | some v => z v | none => false) && !(match P.underlying t with | some (.int _) => true | _ => false)
  | _, _ => false
def nagB (P : Program) (t : Nat) : Bool := match P.underlying t with | some (.struct _) | some (.array _ _) => false | some _ => true | none => false
def aggB (P : Program) (t n : Nat) : Bool := match P.underlying t, P.info? t with | some (.struct _), some i | some (.array _ _), some i => i.size == n | _, _ => false
def faB (P : Program) (s f off sz : Nat) : Bool := match P.underlying s with
  | some (.struct fs) => match fs[f]? with
    | some fd => fd.offset == off && sz != 0 && (match P.info? fd.type with | some i => i.size == sz | none => false)
    | none => false
  | _ => false

theorem slB_spec {P : Program} {t e sz bytes : Nat} {z : Value → Bool} (h : slB P t e sz bytes z = true) : P.underlying t = some (.slice e) ∧ ∃ i v, P.info? e = some i ∧ i.size = sz ∧ i.bytes = bytes ∧ i.zero = some v ∧ z v = true := by
  unfold slB at h
  split at h
  · rename_i e' i h1 h2
    simp only [Bool.and_eq_true, beq_iff_eq] at h
    obtain ⟨⟨⟨⟨rfl, h3⟩, h4⟩, h5⟩, _⟩ := h
    split at h5
    · rename_i v hv
      exact ⟨h1, i, v, h2, h3, h4, hv, h5⟩
    · cases h5
  · cases h
theorem nagB_spec {P : Program} {t : Nat} (h : nagB P t = true) (w : World) : (isAgg t).run P w = .ok false w := by
  unfold nagB at h
  rcases hu : P.underlying t with _ | u
  · rw [hu] at h; cases h
  · rw [hu] at h
    unfold isAgg
    simp only [Sem.run_bind, run_underlying hu, Result.andThen_ok]
    cases u <;> first | rfl | (simp at h)
theorem aggB_spec {P : Program} {t n : Nat} (h : aggB P t n = true) (w : World) : (isAgg t).run P w = .ok true w ∧ (sizeOf t).run P w = .ok n w := by
  unfold aggB at h
  split at h
  · rename_i fs i h1 h2
    exact ⟨by simp [isAgg, run_underlying h1], by simp [sizeOf, typeInfo, h2, beq_iff_eq.1 h]⟩
  · rename_i k e i h1 h2
    exact ⟨by simp [isAgg, run_underlying h1], by simp [sizeOf, typeInfo, h2, beq_iff_eq.1 h]⟩
  · cases h
theorem faB_spec {P : Program} {s f off sz : Nat} (h : faB P s f off sz = true) : ∃ fs fd i, P.underlying s = some (.struct fs) ∧ fs[f]? = some fd ∧ fd.offset = off ∧ P.info? fd.type = some i ∧ i.size = sz ∧ sz ≠ 0 := by
  unfold faB at h
  split at h
  · rename_i fs h1
    split at h
    · rename_i fd h2
      simp only [Bool.and_eq_true, beq_iff_eq, bne_iff_ne] at h
      obtain ⟨⟨h3, h4⟩, h5⟩ := h
      split at h5
      · rename_i i h6
        exact ⟨fs, fd, i, h1, h2, h3, h6, beq_iff_eq.1 h5, h4⟩
      · cases h5
    · cases h
  · cases h

section
variable {P : Program} {w : World} {m : List (Nat × Value)} {dd : Option Tmp} {ty : TypeId} {pos : String} {aft : Array Edge} {g : Option (Nat × Bool)} {x y : Operand}

/-! ### Builtins on values -/
theorem ex_len {t e : TypeId} {v : Value} {n : Nat} (hx : ev m x = some v) (ht : P.underlying t = some (.slice e)) (hv : ∃ A c, v = .slice A n c) :
    EX P w m ⟨dd, .call { callee := .builtin .len, args := #[x], argTypes := #[t] }, ty, pos, aft, g⟩ (.int .i64 (n : Int)) w := fun a _ hF => by
  obtain ⟨A, c, rfl⟩ := hv
  simp [execOp, resolve, invoke, builtin, hF.eval hx, Builtin.len_, run_underlying ht, goInt]
theorem ex_len_str {t : TypeId} {s : List UInt8} (hx : ev m x = some (.string ⟨⟨s⟩⟩)) (ht : P.underlying t = some .string) :
    EX P w m ⟨dd, .call { callee := .builtin .len, args := #[x], argTypes := #[t] }, ty, pos, aft, g⟩ (.int .i64 (s.length : Int)) w := fun a _ hF => by
  simp [execOp, resolve, invoke, builtin, hF.eval hx, Builtin.len_, run_underlying ht, goInt]
  rfl
theorem ex_min2 {ts : Array TypeId} {k : IntKind} {p q : Int} (hx : ev m x = some (.int k p)) (hy : ev m y = some (.int k q)) :
    EX P w m ⟨dd, .call { callee := .builtin .min, args := #[x, y], argTypes := ts }, ty, pos, aft, g⟩ (.int k (if q < p then q else p)) w := fun a _ hF => by
  simp [execOp, resolve, invoke, builtin, hF.eval hx, hF.eval hy, Builtin.min_, Builtin.min2]
theorem ex_max2 {ts : Array TypeId} {k : IntKind} {p q : Int} (hx : ev m x = some (.int k p)) (hy : ev m y = some (.int k q)) :
    EX P w m ⟨dd, .call { callee := .builtin .max, args := #[x, y], argTypes := ts }, ty, pos, aft, g⟩ (.int k (if p < q then q else p)) w := fun a _ hF => by
  simp [execOp, resolve, invoke, builtin, hF.eval hx, hF.eval hy, Builtin.max_, Builtin.max2]

/-! ### Addresses, loads -/
theorem ex_fa {s f off sz : Nat} {ad : Addr} (hb : faB P s f off sz = true) (hx : ev m x = some (.pointer (some ad))) :
    EX P w m ⟨dd, .fieldAddr s x f, ty, pos, aft, g⟩ (.pointer (some (ad.add off))) w := fun a _ hF => by
  obtain ⟨fs, fd, i, h1, h2, h3, h4, h5, h6⟩ := faB_spec hb
  subst h3 h5
  simp [execOp, hF.eval hx, Instr.fieldAt, run_underlying h1, h2, Instr.sureAddr, fieldPlace, sizeOf, typeInfo, h4, h6]
/-- The field's address within a block, or within an element. -/
theorem ex_fab {s f off sz gb o o' : Nat} (hb : faB P s f off sz = true) (hx : ev m x = some (.pointer (some ⟨gb, o, none⟩))) (ho : o + off = o') :
    EX P w m ⟨dd, .fieldAddr s x f, ty, pos, aft, g⟩ (.pointer (some ⟨gb, o', none⟩)) w := by
  have := ex_fa (w := w) (dd := dd) (ty := ty) (pos := pos) (aft := aft) (g := g) hb hx
  rw [add_mk, ho] at this
  exact this
theorem ex_fae {s f off sz o o' : Nat} {ad : Addr} (hb : faB P s f off sz = true) (hx : ev m x = some (.pointer (some (ad.add o)))) (ho : o + off = o') :
    EX P w m ⟨dd, .fieldAddr s x f, ty, pos, aft, g⟩ (.pointer (some (ad.add o'))) w := by
  have := ex_fa (w := w) (dd := dd) (ty := ty) (pos := pos) (aft := aft) (g := g) hb hx
  rw [add_add', ho] at this
  exact this
theorem ex_ld {t : TypeId} {ad : Addr} {u : Value} (hb : nagB P t = true) (hx : ev m x = some (.pointer (some ad))) (hc : w.cell? ad = some u) :
    EX P w m ⟨dd, .load t x, ty, pos, aft, g⟩ u w := fun a _ hF => by
  simp [execOp, hF.eval hx, Instr.loadAt, Instr.sureAddr, loadVar, nagB_spec hb, load, Sem.run, hc]
theorem ex_ldagg {t n : Nat} {ad : Addr} {cs : List Value} (hb : aggB P t n = true) (hx : ev m x = some (.pointer (some ad))) (hc : Cells w ad cs) (hl : cs.length = n) :
    EX P w m ⟨dd, .load t x, ty, pos, aft, g⟩ (.agg ⟨cs⟩) w := fun a _ hF => by
  subst hl
  have h1 := run_loadCells_list (P := P) w ad cs hc
  simp only [execOp, hF.eval hx]
  simp [Instr.loadAt, Instr.sureAddr, loadVar, aggB_spec hb, h1]
theorem Cells.at_ {ad : Addr} {cs : List Value} (h : Cells w ad cs) {o : Nat} {u : Value} (hu : cs[o]? = some u) : w.cell? (ad.add o) = some u := h o u hu
theorem Cells.sub {ad : Addr} {cs ds : List Value} (h : Cells w ad cs) (o : Nat) (hd : ∀ j u, ds[j]? = some u → cs[o + j]? = some u) : Cells w (ad.add o) ds := fun j u hu => by
  rw [add_add']; exact h _ _ (hd j u hu)

/-- The address of element i of a slice value. -/
def IxA (P : Program) (t : TypeId) (v : Value) (i : Int) (ad : Addr) : Prop :=
  ∀ (w : World) (m : List (Nat × Value)) (x y : Operand) (k : IntKind) (dd : Option Tmp) (ty : TypeId) (pos : String) (aft : Array Edge) (g : Option (Nat × Bool)), ev m x = some v → ev m y = some (.int k i) →
    EX P w m ⟨dd, .indexAddr t x y, ty, pos, aft, g⟩ (.pointer (some ad)) w

/-- Element i, if it is there. -/
def idx {α : Type} (l : List α) (i : Int) : Option α := if 0 ≤ i then l[i.toNat]? else none
theorem idx_some {α : Type} {l : List α} {i : Int} {x : α} (h : idx l i = some x) : 0 ≤ i ∧ i < l.length ∧ l[i.toNat]? = some x := by
  unfold idx at h
  split at h
  · have := (List.getElem?_eq_some_iff.1 h).1
    exact ⟨by omega, by omega, h⟩
  · cases h

theorem idx_ok {α : Type} {T : Ty α} {G : List Nat} {v : Value} {l : List α} {t e sz bytes : Nat} {z : Value → Bool} {i : Int} {x : α} (h : slRd T w G v l) (hb : slB P t e sz bytes z = true) (hz : T.sz = sz)
    (hx : idx l i = some x) : ∃ ad cs, IxA P t v i ad ∧ Cells w ad cs ∧ T.rd w G x cs ∧ ad.block ∈ G := by
  obtain ⟨h0, h1, h2⟩ := idx_some hx
  obtain ⟨A, c, rfl, hc, hi⟩ := h
  obtain ⟨ad, cs, rfl, hG, h3, h4⟩ := hi _ x h2
  obtain ⟨hu, ti, zv, h5, h6, _⟩ := slB_spec hb
  refine ⟨ad.add (i.toNat * T.sz), cs, fun w m x y k dd ty pos aft g hx hy a _ hF => ?_, h3, h4, by rw [block_add]; exact hG⟩
  have e1 : (0 ≤ i ∧ i < (l.length : Int)) := ⟨h0, h1⟩
  simp [execOp, hF.eval hx, hF.eval hy, Instr.indexAt, asIntOf, run_underlying hu, e1, sizeOf, typeInfo, h5, h6, hz]

/-- A scalar element. -/
theorem idx_s {α : Type} {enc : α → Value} {h1 : ∀ x, (enc x).oneCell' = true} {G : List Nat} {v : Value} {l : List α} {t e bytes : Nat} {z : Value → Bool} {i : Int} {x : α} (h : slRd (Ty.scalar enc h1) w G v l)
    (hb : slB P t e 1 bytes z = true) (hx : idx l i = some x) : ∃ ad, IxA P t v i ad ∧ w.cell? ad = some (enc x) := by
  obtain ⟨ad, cs, h2, h3, h4, _⟩ := idx_ok h hb rfl hx
  have h5 : cs = [enc x] := h4
  subst h5
  have := h3 0 _ rfl
  rw [show ad.add 0 = ad from rfl] at this
  exact ⟨ad, h2, this⟩

/-! ### Slicing -/
/-- The cut of a slice value. -/
def cutL {α : Type} (l : List α) (lo hi : Int) : Option (List α) := if 0 ≤ lo ∧ lo ≤ hi ∧ hi ≤ l.length then some ((l.take hi.toNat).drop lo.toNat) else none
theorem cutL_some {α : Type} {l r : List α} {lo hi : Int} (h : cutL l lo hi = some r) : (0 ≤ lo ∧ lo ≤ hi ∧ hi ≤ l.length) ∧ r = (l.take hi.toNat).drop lo.toNat := by
  unfold cutL at h
  split at h
  · rename_i h1; cases h; exact ⟨h1, rfl⟩
  · cases h
/-- What slicing by lo and hi (none: from the begin, to the end) yields. -/
def ScA (P : Program) (t : TypeId) (v : Value) (lo hi : Option Int) (v' : Value) : Prop :=
  ∀ (w : World) (m : List (Nat × Value)) (x : Operand) (l h : Option Operand) (k k' : IntKind) (dd : Option Tmp) (ty : TypeId) (pos : String) (aft : Array Edge) (g : Option (Nat × Bool)), ev m x = some v →
    (match l, lo with | none, none => True | some y, some p => ev m y = some (.int k p) | _, _ => False) → (match h, hi with | none, none => True | some y, some p => ev m y = some (.int k' p) | _, _ => False) →
    EX P w m ⟨dd, .slice t x l h none, ty, pos, aft, g⟩ v' w

theorem run_slice {t e : TypeId} {ti : TypeInfo} {A : Option Addr} {n c : Nat} {lo hi : Int} {l h : Option Value} (ht : P.underlying t = some (.slice e)) (hi' : P.info? e = some ti) (h0 : 0 ≤ lo) (h1 : lo ≤ hi) (h2 : hi ≤ n) (h3 : n ≤ c)
    (hl : (l = none ∧ lo = 0) ∨ ∃ k, l = some (.int k lo)) (hh : (h = none ∧ hi = n) ∨ ∃ k, h = some (.int k hi)) :
    (Instr.sliceAt t (.slice A n c) l h none).run P w = .ok (.slice (if c = lo.toNat then A else A.map (·.add (lo.toNat * ti.size))) (hi.toNat - lo.toNat) (c - lo.toNat)) w := by
  have e1 : (0 ≤ hi ∧ hi ≤ (c : Int)) := by omega
  have e2 : (0 ≤ lo ∧ lo ≤ hi) := by omega
  have e3 : ((hi.toNat : Nat) : Int) = hi := by omega
  have e4 : (0 ≤ lo ∧ lo ≤ ((hi.toNat : Nat) : Int)) := by omega
  have e5 : ¬ (max hi 0 < lo) := by omega
  rcases hl with ⟨rfl, rfl⟩ | ⟨k, rfl⟩ <;> rcases hh with ⟨rfl, rfl⟩ | ⟨k', rfl⟩ <;>
    simp [Instr.sliceAt, Instr.slice, run_underlying ht, Instr.sliceBounds, Instr.sliceBound, asIntOf, sizeOf, typeInfo, hi', e1, e2, e4, e5, h0, h1, h2]

theorem slice_rd {α : Type} {T : Ty α} {G : List Nat} {v : Value} {l r : List α} {t e sz bytes : Nat} {z : Value → Bool} {lo hi : Int} (h : slRd T w G v l) (hb : slB P t e sz bytes z = true) (hz : T.sz = sz) (hr : cutL l lo hi = some r)
    (lo' hi' : Option Int) (hlo : lo' = some lo ∨ (lo' = none ∧ lo = 0)) (hhi : hi' = some hi ∨ (hi' = none ∧ hi = l.length)) :
    ∃ v', ScA P t v lo' hi' v' ∧ ∀ w1 G1, slRd T w1 G1 v l → slRd T w1 G1 v' r := by
  obtain ⟨⟨h0, h1, h2⟩, rfl⟩ := cutL_some hr
  obtain ⟨A, c, rfl, hc, _⟩ := h
  obtain ⟨hu, ti, zv, h5, h6, _⟩ := slB_spec hb
  refine ⟨.slice (if c = lo.toNat then A else A.map (·.add (lo.toNat * ti.size))) (hi.toNat - lo.toNat) (c - lo.toNat), fun w m x l' h' k k' dd ty pos aft g hx hl' hh' a _ hF => ?_, fun w1 G1 h => ?_⟩
  · have hL : (l'.map a.eval = none ∧ lo = 0) ∨ ∃ k, l'.map a.eval = some (.int k lo) := by
      rcases hlo with rfl | ⟨rfl, rfl⟩
      · cases l' with
        | none => exact hl'.elim
        | some y => exact .inr ⟨k, by rw [Option.map_some, hF.eval hl']⟩
      · cases l' with
        | none => exact .inl ⟨rfl, rfl⟩
        | some y => exact hl'.elim
    have hH : (h'.map a.eval = none ∧ hi = l.length) ∨ ∃ k, h'.map a.eval = some (.int k hi) := by
      rcases hhi with rfl | ⟨rfl, rfl⟩
      · cases h' with
        | none => exact hh'.elim
        | some y => exact .inr ⟨k', by rw [Option.map_some, hF.eval hh']⟩
      · cases h' with
        | none => exact .inl ⟨rfl, rfl⟩
        | some y => exact hh'.elim
    have := run_slice (P := P) (w := w) (A := A) (c := c) hu h5 h0 h1 h2 hc hL hH
    simp only [execOp, hF.eval hx, Option.map_none]
    simp [this]
  · obtain ⟨A', c', hv, hc', hcell⟩ := h
    injection hv with hA hn hcc
    subst hA hcc
    refine ⟨_, _, by congr 1; simp; omega, by simp; omega, fun i x hx => ?_⟩
    rw [List.getElem?_drop, List.getElem?_take] at hx
    split at hx
    · rename_i hlt
      obtain ⟨ad, cs, rfl, hG, h3, h4⟩ := hcell _ x hx
      have hil := (List.getElem?_eq_some_iff.1 hx).1
      rw [if_neg (by omega)]
      refine ⟨_, cs, rfl, by rw [block_add]; exact hG, ?_, h4⟩
      rw [add_add', h6, ← hz, ← Nat.add_mul]
      exact h3
    · cases hx

end
end Go.Pv
