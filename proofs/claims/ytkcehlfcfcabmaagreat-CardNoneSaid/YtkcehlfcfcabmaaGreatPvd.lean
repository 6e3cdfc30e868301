/- Operations that turn memory: what they leave of the chunks. -/
import Derived.Test.YtkcehlfcfcabmaaGreatPvc
set_option linter.unusedVariables false
set_option linter.unusedSimpArgs false
namespace Go.Pv
open Go Go.RowKit

section
variable {P : Program}
theorem run_storeCells_fz (g o : Nat) (t : TypeId) (fz : Nat × Nat) : ∀ (vs : List Value) (i : Nat) (cur : Array Value) (w : World), w.heap[g]? = some (.cells cur t fz) → (∀ j, j < cur.size → ¬ (fz.1 ≤ j ∧ j < fz.2)) → o + i + vs.length ≤ cur.size → (∀ v ∈ vs, v.oneCell' = true) →
    (storeCells ⟨g, o, none⟩ vs i).run P w = .ok () (w.setRow g (cur.toList.take (o + i) ++ vs ++ cur.toList.drop (o + i + vs.length)).toArray)
  | [], i, cur, w, hg, _, _, _ => by
    simp only [storeCells, List.append_nil, List.length_nil, Nat.add_zero, List.take_append_drop, Array.toArray_toList]
    rw [setRow_self w g cur t fz hg]
    rfl
  | v :: rest, i, cur, w, hg, hz, hl, h1 => by
    have hi : o + i < cur.size := by simp at hl; omega
    have hadd : (⟨g, o, none⟩ : Addr).add i = ⟨g, o + i, none⟩ := add_mk g o i
    have hcell : w.cell? ⟨g, o + i, none⟩ = some cur[o + i] := by simp [World.cell?, hg, hi]
    have hfro : w.frozen? ⟨g, o + i, none⟩ = false := by
      have := hz _ hi
      simp [World.frozen?, hg]
      omega
    have hst : (store ((⟨g, o, none⟩ : Addr).add i) v).run P w = .ok () (w.setRow g (cur.setIfInBounds (o + i) v)) := by
      rw [hadd, run_store P w _ v _ (h1 v (by simp)), hcell]
      simp [hfro, setCell_eq_setRow w g (o + i) cur t fz v hg]
    have ih := run_storeCells_fz g o t fz rest (i + 1) (cur.setIfInBounds (o + i) v) (w.setRow g (cur.setIfInBounds (o + i) v)) (setRow_heap w g cur _ t _ hg) (by simpa using hz) (by simp at hl ⊢; omega) (fun x hx => h1 x (by simp [hx]))
    simp only [storeCells, Sem.run_bind, hst, Result.andThen_ok, ih, setRow_setRow]
    congr 3
    have e := list_seg_step cur.toList (o + i) v rest (by simp at hl ⊢; omega)
    simpa [Array.toList_setIfInBounds, Nat.add_assoc] using e

/-- Cells that are read at the address of a slice value. -/
def RCells (w : World) (A : Option Addr) (xs : List Value) : Prop := ∀ j u, xs[j]? = some u → ∃ ad, A = some ad ∧ w.cell? (ad.add j) = some u
theorem RCells.none_ {w : World} {xs : List Value} (h : RCells w none xs) : xs = [] := by
  cases xs with
  | nil => rfl
  | cons x l => obtain ⟨ad, h1, _⟩ := h 0 x rfl; cases h1
theorem RCells.some_ {w : World} {ad : Addr} {xs : List Value} (h : RCells w (some ad) xs) : ∀ j u, xs[j]? = some u → w.cell? (ad.add j) = some u := fun j u hu => by
  obtain ⟨ad', h1, h2⟩ := h j u hu
  cases h1
  exact h2

theorem seg_getElem {l news : List Value} {o n : Nat} {xs : List Value} (hx : xs.length = n) (h : ∀ j u, xs[j]? = some u → l[o + j]? = some u) (hfit : o + n + news.length ≤ l.length) :
    ∀ j u, (xs ++ news)[j]? = some u → (l.take (o + n) ++ news ++ l.drop (o + n + news.length))[o + j]? = some u := by
  intro j u hu
  rw [List.append_assoc]
  by_cases hj : j < n
  · rw [List.getElem?_append_left (by omega)] at hu
    rw [List.getElem?_append_left (by simp; omega), List.getElem?_take, if_pos (by omega)]
    exact h j u hu
  · rw [List.getElem?_append_right (by omega), hx] at hu
    have hlt := (List.getElem?_eq_some_iff.1 hu).1
    rw [List.getElem?_append_right (by simp; omega), List.getElem?_append_left (by simp; omega)]
    rw [← hu]
    congr 1
    simp
    omega

theorem run_append_row {w : World} {t e sz bytes ty : Nat} {z : Value → Bool} (hb : slB P t e sz bytes z = true) (hz : ∀ v, z v = true → v.cells.size = sz) (hsz : 0 < sz)
    {F : List Nat} {v : Value} {n : Nat} {xs : List Value} (h : rowOwn sz w F v n xs) {A : Option Addr} {m c : Nat} {news : List Value} (hl : news.length = m * sz) (hnews : RCells w A news) (h1 : ∀ u ∈ news, u.oneCell' = true)
    (hbytes : (n + m) * bytes ≤ 140737488355328) (h63 : n + m ≤ 9223372036854775807) :
    ∃ v' w' F', (Builtin.append_ #[t, t] ty #[v, .slice A m c]).run P w = .ok v' w' ∧ rowOwn sz w' F' v' (n + m) (xs ++ news) ∧ Fm w F w' ∧ (∀ k ∈ F', k ∈ F ∨ w.heap.size ≤ k) := by
  obtain ⟨ht, i, zv, hi, h2, h3, h4, h5⟩ := slB_spec hb
  have hzs := hz _ h5
  subst h2 h3
  have hlen : (xs ++ news).length = (n + m) * i.size := by rw [List.length_append, h.1, hl, Nat.add_mul]
  -- what the growing arm leaves, whatever was there before
  have grown : ∀ (old : Nat), old < n + m → ∀ F : List Nat,
      rowOwn i.size (w.drew.alloc (.cells (xs.toArray ++ news.toArray ++ Builtin.zeroCells zv.cells (grownCap w (n + m) old e - (n + m))) e)) [w.heap.size]
        (.slice (some ⟨w.heap.size, 0, none⟩) (n + m) (grownCap w (n + m) old e)) (n + m) (xs ++ news) ∧
      Fm w F (w.drew.alloc (.cells (xs.toArray ++ news.toArray ++ Builtin.zeroCells zv.cells (grownCap w (n + m) old e - (n + m))) e)) := by
    intro old ho F
    have hge := grownCap_ge w (n + m) old e
    refine ⟨⟨hlen, .inr ⟨w.heap.size, 0, _, _, e, (0, 0), rfl, rfl, heap_alloc_new w.drew _, hge, ?_, by simp, ?_⟩⟩, (Fm.drew w F).trans (Fm.alloc _ F _) (fun k hk => .inl hk)⟩
    · simp only [Array.size_append, List.size_toArray, size_zeroCells, hzs, h.1, hl, ← Nat.add_mul, Nat.zero_add]
      exact Nat.mul_le_mul_right _ (by omega)
    · intro j u hu
      have hj := (List.getElem?_eq_some_iff.1 hu).1
      rw [Nat.zero_add, Array.getElem?_append_left (by simpa using hj)]
      simpa using hu
  by_cases hm : m = 0
  · subst hm
    have hn : news = [] := List.eq_nil_of_length_eq_zero (by simpa using hl)
    subst hn
    have hf : (Builtin.firstCells i.size 0 (.slice A 0 c)).run P w = .ok #[] w := by
      cases A <;> simp [Builtin.firstCells, loadCells, loadCellsFrom]
    have hcap : ∃ A' cap, v = .slice A' n cap ∧ n ≤ cap := by
      rcases h.2 with ⟨rfl, rfl, rfl⟩ | ⟨g, o, cap, cur, e', fz, rfl, rfl, hg, hnc, _⟩
      · exact ⟨_, _, rfl, Nat.le_refl _⟩
      · exact ⟨_, _, rfl, hnc⟩
    obtain ⟨A', cap, rfl, hnc⟩ := hcap
    refine ⟨.slice A' n cap, w, F, ?_, by simpa using h, Fm.refl w F, fun k hk => .inl hk⟩
    cases A' <;> simp [Builtin.append_, run_underlying ht, sizeOf, typeInfo, hi, Builtin.lenOf, hf, hnc, storeCells]
  · have hA : ∃ ad, A = some ad := by
      cases A with
      | some ad => exact ⟨ad, rfl⟩
      | none =>
        have hn := hnews.none_
        rw [hn] at hl
        have : 0 < m * i.size := Nat.mul_pos (by omega) hsz
        simp at hl
        omega
    obtain ⟨a, rfl⟩ := hA
    have hnews := hnews.some_
    rcases h.2 with ⟨rfl, rfl, rfl⟩ | ⟨g, o, cap, cur, e', fz, rfl, rfl, hg, hnc, hoc, hfz, htake⟩
    · have hx : xs = [] := List.eq_nil_of_length_eq_zero (by simpa using h.1)
      subst hx
      have hr := run_append_nil (P := P) w t ty e i zv ht hi h4 a m c news hl hnews (by omega) (by omega) (by simp only [Nat.zero_add] at hbytes; omega)
      have hgr := grown 0 (by omega) []
      simp only [Nat.zero_add, List.nil_append, Array.empty_append] at hgr ⊢
      exact ⟨_, _, _, hr, hgr.1, hgr.2, by simp⟩
    · by_cases hroom : n + m ≤ cap
      · have hfit : o + n * i.size + news.length ≤ cur.size := by
          have := Nat.mul_le_mul_right i.size hroom
          rw [Nat.add_mul, ← hl] at this
          omega
        have hst := run_storeCells_fz (P := P) g (o + n * i.size) e' fz news 0 cur w hg hfz (by simpa using hfit) h1
        simp only [Nat.add_zero] at hst
        have hf := run_firstCells_some (P := P) w i.size m a m c news hl hnews
        have hr : (Builtin.append_ #[t, t] ty #[Value.slice (some ⟨g, o, none⟩) n cap, .slice (some a) m c]).run P w =
            .ok (.slice (some ⟨g, o, none⟩) (n + m) cap) (w.setRow g (cur.toList.take (o + n * i.size) ++ news ++ cur.toList.drop (o + n * i.size + news.length)).toArray) := by
          simp [Builtin.append_, run_underlying ht, sizeOf, typeInfo, hi, Builtin.lenOf, hroom, hf, add_mk, hst]
        refine ⟨_, _, [g], hr, ⟨hlen, .inr ⟨g, o, cap, _, e', fz, rfl, rfl, setRow_heap w g cur _ e' _ hg, hroom, ?_, ?_, ?_⟩⟩,
          Fm.one rfl rfl rfl (by simp) (fun k hk => setRow_other w g k _ hk), fun k hk => .inl hk⟩
        · simp only [List.size_toArray, List.length_append, List.length_take, List.length_drop, Array.length_toList]
          omega
        · intro j hj
          apply hfz
          simp only [List.size_toArray, List.length_append, List.length_take, List.length_drop, Array.length_toList] at hj
          omega
        · intro j u hu
          have := seg_getElem (l := cur.toList) (o := o) h.1 (fun j u hu => by rw [Array.getElem?_toList]; exact htake j u hu) (by simpa using hfit) j u hu
          simpa using this
      · have holds : ∀ j u, xs[j]? = some u → w.cell? ((⟨g, o, none⟩ : Addr).add j) = some u := fun j u hu => by rw [add_mk]; simp [World.cell?, hg, htake j u hu]
        have hr := run_append_grow (P := P) w t ty e i zv ht hi h4 ⟨g, o, none⟩ n cap xs h.1 holds a m c news hl hnews (by omega) (by omega) (growslice_fits (by omega) hbytes)
        have hgr := grown cap (by omega) [g]
        exact ⟨_, _, _, hr, hgr.1, hgr.2, fun k hk => .inr (by simp at hk; omega)⟩
end

/-! ### Kinds without memory -/
/-- The cells of a value tell it, and no memory is needed. -/
structure Flat {α : Type} (T : Ty α) (enc : α → List Value) : Prop where
  rd : ∀ {w G x cs}, T.rd w G x cs ↔ cs = enc x
  own : ∀ {w F x cs}, T.own w F x cs ↔ cs = enc x ∧ F = []
theorem Flat.scalar {α : Type} (enc : α → Value) (h1 : ∀ x, (enc x).oneCell' = true) : Flat (Ty.scalar enc h1) (fun x => [enc x]) := ⟨Iff.rfl, Iff.rfl⟩
theorem Flat.iso {α β : Type} {A : Ty α} {enc : α → List Value} (h : Flat A enc) (f : β → α) : Flat (A.iso f) (fun x => enc (f x)) := ⟨h.rd, h.own⟩
theorem Flat.pair {α β : Type} {A : Ty α} {B : Ty β} {ea : α → List Value} {eb : β → List Value} (h : Flat A ea) (h' : Flat B eb) : Flat (A.pair B) (fun x => ea x.1 ++ eb x.2) := by
  refine ⟨?_, ?_⟩
  · intro w G x cs
    constructor
    · rintro ⟨c, d, rfl, h1, h2⟩; rw [h.rd.1 h1, h'.rd.1 h2]
    · rintro rfl; exact ⟨_, _, rfl, h.rd.2 rfl, h'.rd.2 rfl⟩
  · intro w F x cs
    constructor
    · rintro ⟨c, d, F1, F2, rfl, rfl, h1, h2, hd⟩
      obtain ⟨rfl, rfl⟩ := h.own.1 h1
      obtain ⟨rfl, rfl⟩ := h'.own.1 h2
      exact ⟨rfl, rfl⟩
    · rintro ⟨rfl, rfl⟩; exact ⟨_, _, [], [], rfl, rfl, h.own.2 ⟨rfl, rfl⟩, h'.own.2 ⟨rfl, rfl⟩, by simp⟩
theorem Flat.int (k : IntKind) : Flat (Ty.int k) (fun x => [.int k x]) := Flat.scalar _ _
theorem Flat.u8 : Flat Ty.u8 (fun x => [.int .u8 (x.toNat : Int)]) := Flat.scalar _ _
theorem Flat.bool : Flat Ty.bool (fun x => [.bool x]) := Flat.scalar _ _
theorem Flat.str : Flat Ty.str (fun x => [.string ⟨⟨x⟩⟩]) := Flat.scalar _ _

section
variable {α : Type} {T : Ty α} {enc : α → List Value}
theorem Flat.len (h : Flat T enc) (x : α) : (enc x).length = T.sz := T.rd_len (w := default) (G := []) (h.rd.2 rfl)
theorem Flat.one (h : Flat T enc) (x : α) : ∀ u ∈ enc x, u.oneCell' = true := T.rd_one (w := default) (G := []) (h.rd.2 rfl)
theorem Flat.els (h : Flat T enc) {w : World} : ∀ {l : List α} {F : List Nat} {cs : List Value}, Els T w F l cs ↔ cs = l.flatMap enc ∧ F = []
  | [], F, cs => by simp [Els]
  | x :: l, F, cs => by
    constructor
    · rintro ⟨c, d, F1, F2, rfl, rfl, h1, h2, hd⟩
      obtain ⟨rfl, rfl⟩ := h.own.1 h1
      obtain ⟨rfl, rfl⟩ := h.els.1 h2
      exact ⟨by simp, rfl⟩
    · rintro ⟨rfl, rfl⟩
      exact ⟨enc x, l.flatMap enc, [], [], by simp, rfl, h.own.2 ⟨rfl, rfl⟩, h.els.2 ⟨rfl, rfl⟩, by simp⟩
theorem Flat.slOwn (h : Flat T enc) {w : World} {F : List Nat} {v : Value} {l : List α} : slOwn T w F v l ↔ rowOwn T.sz w F v l.length (l.flatMap enc) := by
  constructor
  · rintro ⟨cs, F1, F2, rfl, h1, h2, hd⟩
    obtain ⟨rfl, rfl⟩ := h.els.1 h2
    simpa using h1
  · intro h1
    exact ⟨_, F, [], by simp, h1, h.els.2 ⟨rfl, rfl⟩, by simp⟩
theorem flat_len (h : Flat T enc) (l : List α) : (l.flatMap enc).length = l.length * T.sz := by
  have := (h.els (w := default) (l := l) (F := [])).2 ⟨rfl, rfl⟩
  exact this.len
theorem flat_one (h : Flat T enc) (l : List α) : ∀ u ∈ l.flatMap enc, u.oneCell' = true := by
  intro u hu
  rw [List.mem_flatMap] at hu
  obtain ⟨x, _, hx⟩ := hu
  exact h.one x u hx
theorem flat_at (h : Flat T enc) (l : List α) {j : Nat} {u : Value} (hu : (l.flatMap enc)[j]? = some u) (hsz : 0 < T.sz) : ∃ x, l[j / T.sz]? = some x ∧ (enc x)[j % T.sz]? = some u := by
  have hE := (h.els (w := default) (l := l) (F := [])).2 ⟨rfl, rfl⟩
  have hj := (List.getElem?_eq_some_iff.1 hu).1
  rw [flat_len h] at hj
  have hq : j / T.sz < l.length := Nat.div_lt_of_lt_mul (by rw [Nat.mul_comm]; exact hj)
  have hx := List.getElem?_eq_getElem hq
  obtain ⟨c, F1, h1, _, h3⟩ := hE.at_ _ _ hx
  obtain ⟨rfl, _⟩ := h.own.1 h1
  refine ⟨_, hx, ?_⟩
  have hm : j % T.sz < (enc (l[j / T.sz])).length := by rw [h.len]; exact Nat.mod_lt _ hsz
  have h4 := h3 (j % T.sz) _ (List.getElem?_eq_getElem hm)
  rw [show j / T.sz * T.sz + j % T.sz = j from by rw [Nat.mul_comm]; exact Nat.div_add_mod j T.sz] at h4
  rw [hu] at h4
  rw [List.getElem?_eq_getElem hm, ← h4]
theorem slRd.cells (h : Flat T enc) (hsz : 0 < T.sz) {w : World} {G : List Nat} {v : Value} {l : List α} (hr : slRd T w G v l) : ∃ A c, v = .slice A l.length c ∧ RCells w A (l.flatMap enc) := by
  obtain ⟨A, c, hv, hc, hi⟩ := hr
  refine ⟨A, c, hv, fun j u hu => ?_⟩
  obtain ⟨x, hx, hxu⟩ := flat_at h l hu hsz
  obtain ⟨ad, cs, rfl, _, h3, h4⟩ := hi _ x hx
  rw [h.rd.1 h4] at h3
  refine ⟨ad, rfl, ?_⟩
  have := h3 _ _ hxu
  rw [add_add', show j / T.sz * T.sz + j % T.sz = j from by rw [Nat.mul_comm]; exact Nat.div_add_mod j T.sz] at this
  exact this
end

/-! ### Steps -/
section
variable {P : Program} {w0 w : World} {F0 : List Nat} {ps rest : List Ck} {m : List (Nat × Value)} {n d : Nat} {ty : TypeId} {pos : String} {aft : Array Edge} {x y : Operand} {ops : Array Oper} {Q : Exit → Act → World → Prop} {a : Act} {l' : List Oper}

theorem SL.newblk (hs : SL w0 F0 w ps) (cs : List Value) (t : TypeId) : SL w0 F0 (w.alloc (.cells ⟨cs⟩ t)) (Blk w.heap.size t cs :: ps) :=
  hs.add (qs := [Blk w.heap.size t cs]) ⟨Fm.alloc w [] _, [w.heap.size], Star.one (p := Blk w.heap.size t cs) ⟨rfl, heap_alloc_new w _⟩, fun k hk => .inr (by simp at hk; omega)⟩
/-- A variable in memory. -/
theorem st_box {t : TypeId} {v : Value} {cs : List Value} (hF : Fr a n m) (hs : SL w0 F0 w ps) (hx : ev m x = some v) (hc : v.cells = ⟨cs⟩) (hlt : Nat.blt d n = true)
    (k : ∀ g w a, Fr a n ((d, .pointer (some ⟨g, 0, none⟩)) :: m) → SL w0 F0 w (Blk g t cs :: ps) → wpList P ops Q l' a w) : wpList P ops Q (⟨some d, .box t x, ty, pos, aft, none⟩ :: l') a w := by
  refine st_op hF (v := .pointer (some ⟨w.heap.size, 0, none⟩)) (w' := w.alloc (.cells ⟨cs⟩ t)) (fun a n hF => ?_) rfl rfl hlt fun a hF => ?_
  · simp [execOp, hF.eval hx, Instr.box, newVar, newRow, hc, newObj, Sem.run]
  · exact k _ _ a hF (hs.newblk cs t)
theorem st_alloc {t : TypeId} {v : Value} {cs : List Value} (hF : Fr a n m) (hs : SL w0 F0 w ps) (hz : (P.info? t).bind (·.zero) = some v) (hc : v.cells = ⟨cs⟩) (hlt : Nat.blt d n = true)
    (k : ∀ g w a, Fr a n ((d, .pointer (some ⟨g, 0, none⟩)) :: m) → SL w0 F0 w (Blk g t cs :: ps) → wpList P ops Q l' a w) : wpList P ops Q (⟨some d, .alloc t, ty, pos, aft, none⟩ :: l') a w := by
  obtain ⟨i, hi, hz⟩ := Option.bind_eq_some_iff.1 hz
  refine st_op hF (v := .pointer (some ⟨w.heap.size, 0, none⟩)) (w' := w.alloc (.cells ⟨cs⟩ t)) (fun a n hF => ?_) rfl rfl hlt fun a hF => ?_
  · simp [execOp, Instr.alloc, zeroValue, typeInfo, hi, hz, newVar, newRow, hc, newObj, Sem.run]
  · exact k _ _ a hF (hs.newblk cs t)

/-- A cell of a block that is known. -/
theorem SL.blk_cell {g : Nat} {t : TypeId} {cs : List Value} (hs : SL w0 F0 w ps) (hm : Blk g t cs ∈ ps) {o : Nat} {u : Value} (hu : cs[o]? = some u) : w.cell? ⟨g, o, none⟩ = some u := by
  obtain ⟨F, h1, _⟩ := hs.st
  obtain ⟨G, ⟨_, h3⟩, _⟩ := star_mem hm h1
  simp [World.cell?, h3, hu]
theorem SL.blk_cells {g : Nat} {t : TypeId} {cs : List Value} (hs : SL w0 F0 w ps) (hm : Blk g t cs ∈ ps) {o : Nat} {ds : List Value} (hd : ∀ j u, ds[j]? = some u → cs[o + j]? = some u) : Cells w ⟨g, o, none⟩ ds := fun j u hu => by
  rw [add_mk]
  exact hs.blk_cell hm (hd j u hu)

theorem run_storeVar1 {t : TypeId} {ad : Addr} {v u : Value} {i : TypeInfo} (hi : P.info? t = some i) (hsz : i.size = 1) (hv : v.cells = #[v]) (h1 : v.oneCell' = true) (hc : w.cell? ad = some u) (hf : w.frozen? ad = false) :
    (storeVar t ad v).run P w = .ok () (w.setCell ad v) := by
  have hst : (store ad v).run P w = .ok () (w.setCell ad v) := by
    rw [run_store P w _ v _ h1, hc]
    simp [hf]
  simp [storeVar, sizeOf, typeInfo, hi, hsz, hv, storeCells]
  rw [show ad.add 0 = ad from rfl, hst]

/-- A store of one cell into the block at the head. -/
theorem st_store {g t t' o : Nat} {cs : List Value} {v u : Value} (hF : Fr a n m) (hs : SL w0 F0 w (Blk g t cs :: ps)) (hx : ev m x = some (.pointer (some ⟨g, o, none⟩))) (hy : ev m y = some v)
    (hi : (P.info? t').map (·.size) = some 1) (hv : v.cells = #[v]) (h1 : v.oneCell' = true) (hu : cs[o]? = some u)
    (k : ∀ w a, Fr a n m → SL w0 F0 w (Blk g t (cs.set o v) :: ps) → wpList P ops Q l' a w) : wpList P ops Q (⟨none, .store t' x y, ty, pos, aft, none⟩ :: l') a w := by
  obtain ⟨i, hi, hsz⟩ := Option.map_eq_some_iff.1 hi
  obtain ⟨F, hst, hF0, _, hcl⟩ := SL.open_ (ps := [Blk g t cs]) hs
  obtain ⟨rfl, hg⟩ := Star.of_one hst
  have hc := hs.blk_cell (List.mem_cons_self) hu
  have hf : w.frozen? ⟨g, o, none⟩ = false := by simp [World.frozen?, hg]
  have hr := run_storeVar1 (P := P) hi hsz hv h1 hc hf
  refine st_opu hF (w' := w.setCell ⟨g, o, none⟩ v) (fun a n hF => ?_) rfl rfl fun a hF => k _ a hF (hcl _ [_] ⟨Fm.one rfl rfl rfl (by simp [World.setCell]) (fun k hk => Below.heap_setCell w _ v k hk), [g], Star.one ⟨rfl, ?_⟩, fun k hk => .inl hk⟩)
  · simp [execOp, hF.eval hx, hF.eval hy, Instr.storeAt, Instr.sureAddr, hr]
  · simp [World.setCell, Array.getElem?_modify, hg, List.set_toArray]

/-! #### Slices made -/
theorem fold_seg : ∀ (l : List Value) (k o : Nat) (cells : List Value), o + k + l.length ≤ cells.length →
    (l.zipIdx k).foldl (fun (cs : Array Value) (p : Value × Nat) => cs.setIfInBounds (o + p.2) p.1) cells.toArray = (cells.take (o + k) ++ l ++ cells.drop (o + k + l.length)).toArray
  | [], k, o, cells, h => by simp
  | v :: r, k, o, cells, h => by
    simp only [List.zipIdx_cons, List.foldl_cons, List.setIfInBounds_toArray]
    rw [fold_seg r (k + 1) o (cells.set (o + k) v) (by simp at h ⊢; omega)]
    have e := list_seg_step cells (o + k) v r (by simp at h; omega)
    simp only [List.length_cons]
    rw [← e]
    simp [Nat.add_assoc]
theorem fill_seq {sz : Nat} : ∀ (vs : List Value) (i : Nat) (cells : List Value), (∀ v ∈ vs, v.cells.size = sz) → (i + vs.length) * sz = cells.length →
    Instr.fill (fun i => some (i * sz, sz)) cells.toArray ((vs.zipIdx i).map fun p => (p.2, p.1)) = some (cells.take (i * sz) ++ vs.flatMap (fun v => v.cells.toList)).toArray
  | [], i, cells, _, hl => by
    simp only [List.length_nil, Nat.add_zero] at hl
    simp [Instr.fill, hl]
  | v :: r, i, cells, h, hl => by
    have hv := h v (by simp)
    have hfit : (i + 1) * sz ≤ cells.length := by
      rw [← hl, List.length_cons]
      exact Nat.mul_le_mul_right _ (by omega)
    rw [Nat.succ_mul] at hfit
    have h1 : ¬ (v.cells.size ≠ sz) := by simpa using hv
    have h2 : ¬ (cells.length < i * sz + sz) := by omega
    have hfold := fold_seg v.cells.toList 0 (i * sz) cells (by simp [hv]; omega)
    have hsz : v.cells.toList.length = sz := by simpa using hv
    simp only [Nat.add_zero, hsz] at hfold
    have hconv : v.cells.zipIdx.foldl (fun (cs : Array Value) (p : Value × Nat) => cs.setIfInBounds (i * sz + p.2) p.1) cells.toArray = (cells.take (i * sz) ++ v.cells.toList ++ cells.drop (i * sz + sz)).toArray := by
      rw [← hfold, ← Array.foldl_toList, Array.toList_zipIdx]
    simp only [List.zipIdx_cons, List.map_cons, Instr.fill]
    simp only [hv, List.size_toArray, ne_eq, not_true_eq_false, decide_false, Bool.false_or, gt_iff_lt, decide_eq_true_eq, h2, if_false, Bool.false_eq_true, decide_eq_false_iff_not]
    have ih := fill_seq r (i + 1) (cells.take (i * sz) ++ v.cells.toList ++ cells.drop (i * sz + sz)) (fun u hu => h u (by simp [hu])) (by
      simp only [List.length_append, List.length_take, List.length_drop, hsz]
      rw [List.length_cons] at hl
      rw [show i + 1 + r.length = i + (r.length + 1) by omega, hl]
      omega)
    refine Eq.trans (congrArg (fun z => Instr.fill (fun i => some (i * sz, sz)) z ((r.zipIdx (i + 1)).map fun p => (p.2, p.1))) hconv) (ih.trans ?_)
    congr 2
    rw [List.flatMap_cons, ← List.append_assoc]
    congr 1
    rw [List.take_append_of_le_length (by simp [hsz, Nat.succ_mul]; omega)]
    rw [List.take_of_length_le (by simp [hsz, Nat.succ_mul]; omega)]
end
end Go.Pv
