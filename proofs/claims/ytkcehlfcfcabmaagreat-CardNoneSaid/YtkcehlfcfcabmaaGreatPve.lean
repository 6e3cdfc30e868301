/- Slices made, cut, appended to, stored into; calls; structs. -/
import Derived.Test.YtkcehlfcfcabmaaGreatPvd
set_option linter.unusedVariables false
set_option linter.unusedSimpArgs false
namespace Go.Pv
open Go Go.RowKit

def szB (sz : Nat) (v : Value) : Bool := v.cells.size == sz
theorem szB_spec {sz : Nat} : ∀ v, szB sz v = true → v.cells.size = sz := fun v h => by simpa [szB] using h

section
variable {P : Program} {w0 w : World} {F0 : List Nat} {ps rest : List Ck} {m : List (Nat × Value)} {n d : Nat} {ty : TypeId} {pos : String} {aft : Array Edge} {x y : Operand} {ops : Array Oper} {Q : Exit → Act → World → Prop} {a : Act} {l' : List Oper}
variable {α : Type} {T : Ty α} {enc : α → List Value}

theorem SL.nilSl (hs : SL w0 F0 w ps) : SL w0 F0 w (Sl T (.slice none 0 0) [] :: ps) := by
  obtain ⟨F, h1, h2⟩ := hs.st
  exact ⟨hs.fm, F, ⟨[], F, rfl, slOwn.nil w, h1, by simp⟩, h2⟩
/-- The value of a row of one's own is a slice of its length. -/
theorem slRd.form {G : List Nat} {v : Value} {l : List α} (h : slRd T w G v l) : ∃ A c, v = .slice A l.length c := by
  obtain ⟨A, c, hv, _⟩ := h
  exact ⟨A, c, hv⟩
theorem Rd.form {v : Value} {l : List α} (h : Rd T w0 F0 v l) : ∃ A c, v = .slice A l.length c := by
  obtain ⟨G, h, _⟩ := h
  exact h.form
theorem SL.form {v : Value} {l : List α} (hs : SL w0 F0 w ps) (hm : Sl T v l ∈ ps) : ∃ A c, v = .slice A l.length c := by
  obtain ⟨G, h⟩ := hs.own_rd hm
  exact h.form
theorem form_cells {v : Value} {k : Nat} (h : ∃ A c, v = .slice A k c) : v.cells = #[v] := by
  obtain ⟨A, c, rfl⟩ := h
  rfl
theorem form_one {v : Value} {k : Nat} (h : ∃ A c, v = .slice A k c) : v.oneCell' = true := by
  obtain ⟨A, c, rfl⟩ := h
  rfl

theorem SL.newrow {cells : List Value} {l : List α} {e : TypeId} {k : Nat} (hs : SL w0 F0 w (ps ++ rest)) (hl : cells.length = k * T.sz) (hk : l.length = k) (hE : ∀ F, Star ps w F → Els T w F l cells) :
    SL w0 F0 (w.alloc (.cells ⟨cells⟩ e)) (Sl T (.slice (some ⟨w.heap.size, 0, none⟩) k k) l :: rest) := by
  obtain ⟨F, h1, hF0, _, hcl⟩ := SL.open_ hs
  have hEl := hE F h1
  refine hcl _ [Sl T (.slice (some ⟨w.heap.size, 0, none⟩) k k) l] ⟨Fm.alloc w F _, [w.heap.size] ++ F, Star.one (p := Sl T _ l) ⟨cells, [w.heap.size], F, rfl, ⟨by rw [hk]; exact hl, .inr ⟨w.heap.size, 0, k, ⟨cells⟩, e, (0, 0), by rw [hk], rfl, heap_alloc_new w _, by omega, ?_, by simp, ?_⟩⟩, ?_, ?_⟩, ?_⟩
  · simp [hl]
  · intro j u hu; simpa using hu
  · exact hEl.loc (fun k hk => Below.heap_alloc w _ k (hEl.lt k hk))
  · intro k hk hk'
    rw [List.mem_singleton] at hk
    have := hEl.lt k hk'
    omega
  · intro k hk
    simp only [List.cons_append, List.nil_append, List.mem_cons] at hk
    rcases hk with rfl | hk
    · right; exact Nat.le_refl _
    · exact .inl hk

theorem run_buildSlice {t e sz bytes len : Nat} {z : Value → Bool} (hb : slB P t e sz bytes z = true) (hle : len * sz ≤ 16777216) {vs : List Value} (hlen : vs.length = len) (hv : ∀ v ∈ vs, v.cells.size = sz) :
    (Instr.buildSlice t len ((vs.zipIdx).map fun p => (p.2, p.1)).toArray).run P w = .ok (.slice (some ⟨w.heap.size, 0, none⟩) len len) (w.alloc (.cells ⟨vs.flatMap fun v => v.cells.toList⟩ e)) := by
  obtain ⟨ht, i, zv, hi, h2, h3, h4, h5⟩ := slB_spec hb
  subst h2
  have h6 : ¬ (16777216 < len * i.size) := by omega
  have hfill : ∀ A : Array Value, A.size = len * i.size → Instr.fill (fun j => some (j * i.size, i.size)) A ((vs.zipIdx).map fun p => (p.2, p.1)) = some (vs.flatMap (fun v => v.cells.toList)).toArray := by
    intro A hA
    have := fill_seq (sz := i.size) vs 0 A.toList hv (by simp [hlen, hA])
    rw [Array.toArray_toList] at this
    simp only [Nat.zero_mul, List.take_zero, List.nil_append] at this
    exact this
  by_cases h0 : len * i.size = 0
  · simp only [Instr.buildSlice, Sem.run_bind, run_underlying ht, Result.andThen_ok]
    have := hfill (Array.map (fun x => default) (Array.range 0)) (by simp [h0])
    simp [sizeOf, typeInfo, hi, h0, this, newRow, newObj, Sem.run]
  · simp only [Instr.buildSlice, Sem.run_bind, run_underlying ht, Result.andThen_ok]
    have := hfill (Array.map (fun x => zv.cells[x % zv.cells.size]!) (Array.range (len * i.size))) (by simp)
    simp [sizeOf, typeInfo, hi, h0, h6, zeroValue, h4, this, newRow, newObj, Sem.run]

theorem evs_len : ∀ {l : List Operand} {vs : List Value}, evs m l = some vs → vs.length = l.length
  | [], vs, h => by simp only [evs, Option.some.injEq] at h; rw [← h]; rfl
  | x :: r, vs, h => by
    simp only [evs] at h
    split at h
    · split at h
      · rename_i l hl
        cases h
        simp [evs_len hl]
      · cases h
    · cases h

theorem zip_parts (ρ : Operand → Value) : ∀ (l : List (Nat × Operand)) (k : Nat), (l.map Prod.fst) = List.range' k l.length → (l.map fun p => (p.1, ρ p.2)) = (((l.map Prod.snd).map ρ).zipIdx k).map fun p => (p.2, p.1)
  | [], _, _ => rfl
  | (i, x) :: r, k, h => by
    simp only [List.map_cons, List.length_cons, List.range'_succ, List.cons.injEq] at h
    obtain ⟨rfl, h⟩ := h
    simp only [List.map_cons, List.zipIdx_cons]
    rw [zip_parts ρ r (i + 1) h]

/-- A slice literal of elements without memory of their own. -/
theorem st_bslice (hFl : Flat T enc) (l : List α) {t e sz bytes len : Nat} {parts : List (Nat × Operand)} {vs : List Value} (hF : Fr a n m) (hs : SL w0 F0 w ps) (hb : slB P t e sz bytes (szB sz) = true) (hsz : T.sz = sz)
    (hle : Nat.ble (len * sz) 16777216 = true) (hp : parts.map Prod.fst = List.range' 0 len) (hpl : parts.length = len) (hev : evs m (parts.map Prod.snd) = some vs) (hv : ∀ v ∈ vs, v.cells.size = sz)
    (hl : (vs.flatMap fun v => v.cells.toList) = l.flatMap enc) (hll : l.length = len) (hlt : Nat.blt d n = true)
    (k : ∀ v w a, Fr a n ((d, v) :: m) → SL w0 F0 w (Sl T v l :: ps) → wpList P ops Q l' a w) : wpList P ops Q (⟨some d, .buildSlice t len parts.toArray, ty, pos, aft, none⟩ :: l') a w := by
  have hvl : vs.length = len := by rw [evs_len hev, List.length_map, hpl]
  subst hsz
  have hr := run_buildSlice (P := P) (w := w) hb (Nat.le_of_ble_eq_true hle) hvl hv
  refine st_op hF (v := .slice (some ⟨w.heap.size, 0, none⟩) len len) (fun a n hF => ?_) rfl rfl hlt fun a hF => k _ _ a hF (SL.newrow (ps := []) hs (e := e) (k := len) (cells := vs.flatMap fun v => v.cells.toList) (by rw [hl, flat_len hFl, hll]) hll (fun F hF' => ?_))
  · have h1 := hF.evals hev
    have h2 := zip_parts a.eval parts 0 (by rw [hp, hpl])
    simp only [execOp, List.map_toArray]
    rw [h2, h1]
    simp [hr]
  · rw [show F = [] from hF', hl]
    exact hFl.els.2 ⟨rfl, rfl⟩

/-- A slice literal of one element that has memory of its own. -/
theorem st_bslice1 {xx : α} {cs : List Value} {t e sz bytes : Nat} {v : Value} (hF : Fr a n m) (hs : SL w0 F0 w (Dt T xx cs :: ps)) (hb : slB P t e sz bytes (szB sz) = true) (hsz : T.sz = sz)
    (hle : Nat.ble (1 * sz) 16777216 = true) (hx : ev m x = some v) (hv : v.cells = ⟨cs⟩) (hlt : Nat.blt d n = true)
    (k : ∀ v w a, Fr a n ((d, v) :: m) → SL w0 F0 w (Sl T v [xx] :: ps) → wpList P ops Q l' a w) : wpList P ops Q (⟨some d, .buildSlice t 1 #[(0, x)], ty, pos, aft, none⟩ :: l') a w := by
  subst hsz
  obtain ⟨F, h1, _⟩ := hs.st
  have hcs : cs.length = T.sz := by
    obtain ⟨F1, F2, _, h2, _⟩ := h1
    exact T.rd_len (T.own_rd h2)
  have hr := run_buildSlice (P := P) (w := w) (len := 1) (vs := [v]) hb (Nat.le_of_ble_eq_true hle) rfl (by simp [hv, hcs])
  simp only [List.flatMap_cons, List.flatMap_nil, List.append_nil, hv] at hr
  refine st_op hF (v := .slice (some ⟨w.heap.size, 0, none⟩) 1 1) (fun a n hF => ?_) rfl rfl hlt fun a hF => k _ _ a hF (SL.newrow (ps := [Dt T xx cs]) hs (e := e) (k := 1) (cells := cs) (by omega) rfl (fun F hF' => Els.one (Star.of_one hF')))
  · have hr' : (Instr.buildSlice t 1 #[(0, v)]).run P w = .ok (.slice (some ⟨w.heap.size, 0, none⟩) 1 1) (w.alloc (.cells ⟨cs⟩ e)) := hr
    simp only [execOp, List.map_toArray, List.map_cons, List.map_nil, hF.eval hx]
    simp [hr']

/-! #### append -/
/-- append, where no memory bears more: none. -/
def app {α : Type} (lim : Nat) (l m : List α) : Option (List α) := if l.length + m.length ≤ lim then some (l ++ m) else none
theorem app_some {lim : Nat} {l r s : List α} (h : app lim l r = some s) : l.length + r.length ≤ lim ∧ s = l ++ r := by
  unfold app at h
  split at h
  · rename_i h1; cases h; exact ⟨h1, rfl⟩
  · cases h

theorem st_append_rd (hFl : Flat T enc) {v u : Value} {l r s : List α} {G : List Nat} {t e sz bytes lim : Nat} (hF : Fr a n m) (hs : SL w0 F0 w (Sl T v l :: ps)) (hb : slB P t e sz bytes (szB sz) = true) (hsz : T.sz = sz) (h0 : Nat.blt 0 sz = true)
    (hx : ev m x = some v) (hy : ev m y = some u) (hr : slRd T w G u r) (hlim : Nat.ble (lim * bytes) 140737488355328 = true) (hlim' : Nat.ble lim 9223372036854775807 = true) (happ : app lim l r = some s) (hlt : Nat.blt d n = true)
    (k : ∀ v w a, Fr a n ((d, v) :: m) → SL w0 F0 w (Sl T v s :: ps) → wpList P ops Q l' a w) :
    wpList P ops Q (⟨some d, .call { callee := .builtin .append, args := #[x, y], argTypes := #[t, t] }, ty, pos, aft, none⟩ :: l') a w := by
  subst hsz
  have h0 : 0 < T.sz := by simpa [Nat.blt_eq] using h0
  obtain ⟨h1, rfl⟩ := app_some happ
  obtain ⟨A, c, rfl, hcells⟩ := slRd.cells hFl h0 hr
  obtain ⟨F, hst, hF0, _, hcl⟩ := SL.open_ (ps := [Sl T v l]) hs
  have hrow := hFl.slOwn.1 (Star.of_one hst)
  have hlim := Nat.le_of_ble_eq_true hlim
  obtain ⟨v', w', F', hrun, hrow', hfm, hF'⟩ := run_append_row (ty := ty) (c := c) hb szB_spec h0 hrow (flat_len hFl r) hcells (flat_one hFl r) (Nat.le_trans (Nat.mul_le_mul_right _ h1) hlim) (Nat.le_trans h1 (Nat.le_of_ble_eq_true hlim'))
  refine st_op hF (v := v') (w' := w') (fun a n hF => ?_) rfl rfl hlt fun a hF => k _ _ a hF (hcl w' [Sl T v' (l ++ r)] ⟨hfm, F', Star.one (p := Sl T v' (l ++ r)) (hFl.slOwn.2 ?_), hF'⟩)
  · simp [execOp, resolve, invoke, builtin, hF.eval hx, hF.eval hy, hrun]
  · rw [List.flatMap_append, List.length_append]
    exact hrow'

/-- append of a row that is given up: its elements' own memory goes with them. -/
theorem st_append_own {v u : Value} {l r s : List α} {t e sz bytes lim : Nat} (hF : Fr a n m) (hs : SL w0 F0 w (Sl T v l :: Sl T u r :: ps)) (hb : slB P t e sz bytes (szB sz) = true) (hsz : T.sz = sz) (h0 : Nat.blt 0 sz = true)
    (hx : ev m x = some v) (hy : ev m y = some u) (hlim : Nat.ble (lim * bytes) 140737488355328 = true) (hlim' : Nat.ble lim 9223372036854775807 = true) (happ : app lim l r = some s) (hlt : Nat.blt d n = true)
    (k : ∀ v w a, Fr a n ((d, v) :: m) → SL w0 F0 w (Sl T v s :: ps) → wpList P ops Q l' a w) :
    wpList P ops Q (⟨some d, .call { callee := .builtin .append, args := #[x, y], argTypes := #[t, t] }, ty, pos, aft, none⟩ :: l') a w := by
  subst hsz
  have h0 : 0 < T.sz := by simpa [Nat.blt_eq] using h0
  obtain ⟨h1, rfl⟩ := app_some happ
  obtain ⟨F, hst, hF0, _, hcl⟩ := SL.open_ (ps := [Sl T v l, Sl T u r]) hs
  obtain ⟨F1, F2, rfl, ⟨cs, G1, G2, rfl, hrow, hE, hd1⟩, h2, hd⟩ := hst
  obtain ⟨ds, H1, H2, rfl, hrow2, hE2, hd2⟩ := Star.of_one h2
  obtain ⟨A, c, rfl, hc, hcell⟩ := hrow2.cells
  have hlim := Nat.le_of_ble_eq_true hlim
  have hone : ∀ {F : List Nat} {l : List α} {cs : List Value}, Els T w F l cs → ∀ u ∈ cs, u.oneCell' = true := by
    intro F l
    induction l generalizing F with
    | nil => intro cs h u hu; rw [h.1] at hu; cases hu
    | cons x l ih =>
      rintro cs ⟨c, d, F1, F2, rfl, rfl, h3, h4, _⟩ u hu
      rw [List.mem_append] at hu
      rcases hu with hu | hu
      · exact T.rd_one (T.own_rd h3) u hu
      · exact ih h4 u hu
  obtain ⟨v', w', F', hrun, hrow', hfm, hF'⟩ := run_append_row (ty := ty) hb szB_spec h0 hrow hrow2.1 (A := A) (c := c) (fun j u hu => by obtain ⟨ad, h5, _, h6⟩ := hcell j u hu; exact ⟨ad, h5, h6⟩) (hone hE2) (Nat.le_trans (Nat.mul_le_mul_right _ h1) hlim) (Nat.le_trans h1 (Nat.le_of_ble_eq_true hlim'))
  have hE' : Els T w' G2 l cs := hE.loc (fun k hk => hfm.block k (hE.lt k hk) (fun hin => hd1 k hin hk))
  have hE2' : Els T w' H2 r ds := hE2.loc (fun k hk => hfm.block k (hE2.lt k hk) (fun hin => hd k (by simp [hin]) (by simp [hk])))
  refine st_op hF (v := v') (w' := w') (fun a n hF => ?_) rfl rfl hlt fun a hF => k _ _ a hF (hcl w' [Sl T v' (l ++ r)]
    ⟨⟨hfm.os, hfm.tape, hfm.output, hfm.size, fun k hk hn => hfm.block k hk (fun hin => hn (by simp [hin]))⟩, F' ++ (G2 ++ H2), Star.one (p := Sl T v' (l ++ r)) ⟨cs ++ ds, F', G2 ++ H2, rfl, by rw [List.length_append]; exact hrow', Els.append ⟨cs, ds, G2, H2, rfl, rfl, hE', hE2', fun k hk hk' => hd k (by simp [hk]) (by simp [hk'])⟩, fun k hk hk' => ?_⟩, fun k hk => ?_⟩)
  · simp [execOp, resolve, invoke, builtin, hF.eval hx, hF.eval hy, hrun]
  · rw [List.mem_append] at hk'
    rcases hF' k hk with h5 | h5
    · rcases hk' with h6 | h6
      · exact hd1 k h5 h6
      · exact hd k (by simp [h5]) (by simp [h6])
    · rcases hk' with h6 | h6
      · have := hE.lt k h6; omega
      · have := hE2.lt k h6; omega
  · rw [List.mem_append] at hk
    rcases hk with hk | hk
    · rcases hF' k hk with h5 | h5
      · left; simp [h5]
      · right; exact h5
    · left
      rw [List.mem_append] at hk
      rcases hk with hk | hk <;> simp [hk]

/-! #### Calls -/
def fnB (P : Program) (f : Nat) : Bool := match P.funcs[f]? with | some fn => fn.name != "runtime.NumGoroutine" && fn.body.isSome | none => false
/-- What a call that returns leaves. -/
def Ret (S : Value → World → Prop) : Ending → World → Prop := fun e w => ∃ v, e = .returned v ∧ S v w
theorem run_callFunc {f : Nat} (h : fnB P f = true) (args : Array Value) : (callFunc f args).run P w = .ok (.enter f args) w := by
  unfold fnB at h
  split at h
  · rename_i fn hfn
    simp only [Bool.and_eq_true, bne_iff_ne] at h
    obtain ⟨h1, h2⟩ := h
    have h3 : fn.body.isNone = false := by cases hb : fn.body <;> simp_all
    simp [callFunc, hfn, h1]
    intro h4
    rw [h4] at h2
    cases h2
  · cases h
theorem st_call {f : Nat} {args : List Operand} {ats : Array TypeId} {vs : List Value} {S : Value → World → Prop} (hF : Fr a n m) (hf : fnB P f = true) (hargs : evs m args = some vs) (hc : Calls P f vs.toArray w (Ret S)) (hlt : Nat.blt d n = true)
    (k : ∀ v w a, S v w → Fr a n ((d, v) :: m) → wpList P ops Q l' a w) : wpList P ops Q (⟨some d, .call { callee := .value (.func f), args := args.toArray, argTypes := ats }, ty, pos, aft, none⟩ :: l') a w :=
  wpList_plain rfl fun K hK => by
    unfold Oper.wp
    have h1 : (execOp a.eval ⟨some d, .call { callee := .value (.func f), args := args.toArray, argTypes := ats }, ty, pos, aft, none⟩).run P w = .ok (.enter f vs.toArray) w := by
      have h2 := hF.evals hargs
      simp [execOp, resolve, Deferred.ofValue, Act.eval, invoke, h2, run_callFunc hf]
    rw [h1, Oper.upon_enter]
    refine hc.mono ?_
    rintro e w' ⟨v, rfl, hS⟩
    exact hK _ _ (k v w' _ hS (hF.put d v hlt))
theorem st_call0 {f : Nat} {args : List Operand} {ats : Array TypeId} {vs : List Value} {S : Value → World → Prop} (hF : Fr a n m) (hf : fnB P f = true) (hargs : evs m args = some vs) (hc : Calls P f vs.toArray w (Ret S))
    (k : ∀ v w a, S v w → Fr a n m → wpList P ops Q l' a w) : wpList P ops Q (⟨none, .call { callee := .value (.func f), args := args.toArray, argTypes := ats }, ty, pos, aft, none⟩ :: l') a w :=
  wpList_plain rfl fun K hK => by
    unfold Oper.wp
    have h1 : (execOp a.eval ⟨none, .call { callee := .value (.func f), args := args.toArray, argTypes := ats }, ty, pos, aft, none⟩).run P w = .ok (.enter f vs.toArray) w := by
      have h2 := hF.evals hargs
      simp [execOp, resolve, Deferred.ofValue, Act.eval, invoke, h2, run_callFunc hf]
    rw [h1, Oper.upon_enter]
    refine hc.mono ?_
    rintro e w' ⟨v, rfl, hS⟩
    exact hK _ _ (k v w' _ hS hF)
end
end Go.Pv
