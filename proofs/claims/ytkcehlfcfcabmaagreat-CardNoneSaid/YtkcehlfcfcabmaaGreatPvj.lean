/- Arguments opened into plain data; the row's last step. -/
import Derived.Test.YtkcehlfcfcabmaaGreatPvi
import Derived.Test.YtkcehlfcfcabmaaGreatRows
import Derived.WalkKit
import Derived.ProofKit
import Derived.OpenShut
import Derived.JoinedCond
import Derived.ReadAgain
import Derived.Deep.Slices
set_option linter.unusedVariables false
set_option linter.unusedSimpArgs false
namespace Go.Pv
open Go Go.RowKit Go.ChangeShapes Go.WideShapes

/-! ### Bulk -/
abbrev bulk {H : Type} (d : DataW H) : Nat := Go.Proofs.YtkcehlfcfcabmaaGreat.Rows.uptoBulk d
abbrev bulkAll {H : Type} (l : List (DataW H)) : Nat := Go.Proofs.YtkcehlfcfcabmaaGreat.Rows.uptoBulkAll l
theorem one_le_bulk {H : Type} (d : DataW H) : 1 ≤ bulk d := by
  cases d with
  | lit l => cases l <;> simp [bulk, Go.Proofs.YtkcehlfcfcabmaaGreat.Rows.uptoBulk]
  | _ => simp [bulk, Go.Proofs.YtkcehlfcfcabmaaGreat.Rows.uptoBulk]
theorem part_bulk {H : Type} {d : DataW H} : ∀ {l : List (DataW H)}, d ∈ l → bulk d ≤ bulkAll l
  | x :: r, h => by
    simp only [bulkAll, Go.Proofs.YtkcehlfcfcabmaaGreat.Rows.uptoBulkAll]
    rcases List.mem_cons.1 h with e | e
    · subst e; simp [bulk]
    · have := part_bulk e; simp only [bulk, bulkAll] at this ⊢; omega
theorem length_bulk {H : Type} : ∀ l : List (DataW H), l.length ≤ bulkAll l
  | [] => Nat.zero_le _
  | x :: r => by
    have := length_bulk r
    have := one_le_bulk x
    simp only [bulk, bulkAll, Go.Proofs.YtkcehlfcfcabmaaGreat.Rows.uptoBulkAll, List.length_cons] at *
    omega
theorem bulk_slice {H : Type} (e s : List (DataW H)) : bulkAll e + bulkAll s + 1 = bulk (.slice e s) := by simp [bulk, bulkAll, Go.Proofs.YtkcehlfcfcabmaaGreat.Rows.uptoBulk]
theorem bulk_agg {H : Type} (e : List (DataW H)) : bulkAll e + 1 = bulk (.agg e) := by simp [bulk, bulkAll, Go.Proofs.YtkcehlfcfcabmaaGreat.Rows.uptoBulk]
theorem bulk_str {H : Type} (l : List UInt8) : bulk (DataW.lit (H := H) (.string l)) = l.length + 1 := by simp [bulk, Go.Proofs.YtkcehlfcfcabmaaGreat.Rows.uptoBulk]

/-! ### Readings -/
abbrev allOf (w : World) : List Nat := List.range w.heap.size
structure Opn {α : Type} (P : Program) (T : Ty α) (t : TypeId) (ok : Nat → α → Prop) : Prop where
  sz : P.cellsOf t = T.sz
  rd : ∀ {H : Type} {enc : TypeId × Value → H} {w : World} {n : Nat} {cs : List Value} {x : DataW H × List MemPlace}, DataW.trod enc P w 0 (fun _ => true) true n t cs = some x → ∃ a, T.rd w (allOf w) a cs ∧ ok (bulk x.1) a
  mono : ∀ {B B' : Nat} {a : α}, B ≤ B' → ok B a → ok B' a
def okI (k : IntKind) (B : Nat) (n : Int) : Prop := k.min ≤ n ∧ n ≤ k.max
def okT {α : Type} (B : Nat) (a : α) : Prop := True
def okS (B : Nat) (s : List UInt8) : Prop := s.length ≤ B
def okL {α : Type} (ok : Nat → α → Prop) (B : Nat) (l : List α) : Prop := l.length ≤ B ∧ ∀ x ∈ l, ok B x
def okP {α β : Type} (oa : Nat → α → Prop) (ob : Nat → β → Prop) (B : Nat) (x : α × β) : Prop := oa B x.1 ∧ ob B x.2
def okF {α β : Type} (f : β → α) (oa : Nat → α → Prop) (B : Nat) (x : β) : Prop := oa B (f x)
section
variable {P : Program} {α β : Type}
theorem wf_int {k : IntKind} {n : Int} (h : (Lit.int k n).wf = true) : k.min ≤ n ∧ n ≤ k.max := by simpa [Lit.wf] using h
theorem Opn.int {t : TypeId} {k : IntKind} (hu : P.underlying t = some (.int k)) (hc : P.cellsOf t = 1) : Opn P (Ty.int k) t (okI k) :=
  ⟨hc, fun h => by
    obtain ⟨n, rfl, rfl, hw⟩ := DataW.trod_int hu h
    exact ⟨n, rfl, wf_int hw⟩, fun _ h => h⟩
theorem u8_of {n : Int} (h : IntKind.u8.min ≤ n ∧ n ≤ IntKind.u8.max) : n = ((UInt8.ofNat n.toNat).toNat : Int) := by
  have h1 : (IntKind.u8.min : Int) = 0 := rfl
  have h2 : (IntKind.u8.max : Int) = 255 := rfl
  rw [h1, h2] at h
  have : (UInt8.ofNat n.toNat).toNat = n.toNat := by
    rw [UInt8.toNat_ofNat']
    omega
  omega
theorem Opn.u8 {t : TypeId} (hu : P.underlying t = some (.int .u8)) (hc : P.cellsOf t = 1) : Opn P Ty.u8 t okT :=
  ⟨hc, fun h => by
    obtain ⟨n, rfl, rfl, hw⟩ := DataW.trod_int hu h
    refine ⟨UInt8.ofNat n.toNat, ?_, trivial⟩
    show [Value.int .u8 n] = [Value.int .u8 ((UInt8.ofNat n.toNat).toNat : Int)]
    rw [← u8_of (wf_int hw)], fun _ h => h⟩
theorem Opn.bool {t : TypeId} (hu : P.underlying t = some .bool) (hc : P.cellsOf t = 1) : Opn P Ty.bool t okT :=
  ⟨hc, fun h => by
    obtain ⟨b, rfl, rfl⟩ := DataW.trod_bool hu h
    exact ⟨b, rfl, trivial⟩, fun _ h => h⟩
theorem Opn.str {t : TypeId} (hu : P.underlying t = some .string) (hc : P.cellsOf t = 1) : Opn P Ty.str t okS :=
  ⟨hc, fun h => by
    obtain ⟨s, rfl, rfl, hs⟩ := DataW.trod_string hu h
    refine ⟨s.data.toList, ?_, ?_⟩
    · show [Value.string s] = [Value.string ⟨⟨s.data.toList⟩⟩]
      rfl
    · unfold okS
      rw [bulk_str]
      omega, fun h1 h2 => Nat.le_trans h2 h1⟩
theorem list_of {p : Nat → α → Prop} : ∀ {n : Nat}, (∀ i, i < n → ∃ a, p i a) → ∃ l : List α, l.length = n ∧ ∀ i x, l[i]? = some x → p i x
  | 0, _ => ⟨[], rfl, fun i x h => by simp at h⟩
  | n + 1, h => by
    obtain ⟨l, h1, h2⟩ := list_of (n := n) (fun i hi => h i (Nat.lt_succ_of_lt hi))
    obtain ⟨a, ha⟩ := h n (Nat.lt_succ_self n)
    refine ⟨l ++ [a], by simp [h1], fun i x hx => ?_⟩
    by_cases hi : i < n
    · rw [List.getElem?_append_left (by omega)] at hx
      exact h2 i x hx
    · rw [List.getElem?_append_right (by omega)] at hx
      have : i - l.length = 0 := by
        have := (List.getElem?_eq_some_iff.1 hx).1
        simp at this
        omega
      rw [this] at hx
      simp at hx
      subst hx
      rw [show i = n by omega]
      exact ha
theorem cells_of {w : World} {a : Addr} {n : Nat} {cs : List Value} (h : w.cells? 0 a n = some cs) : Cells w a cs := by
  obtain ⟨_, h1, h2⟩ := World.cells?_some h
  intro j u hu
  have hj := (List.getElem?_eq_some_iff.1 hu).1
  have := h2 j (by omega)
  rw [hu] at this
  exact this
theorem Opn.slice {T : Ty α} {t e : TypeId} {ok : Nat → α → Prop} (O : Opn P T e ok) (hu : P.underlying t = some (.slice e)) (hc : P.cellsOf t = 1) (h0 : Nat.blt 0 T.sz = true) : Opn P (Ty.slice T) t (okL ok) :=
  ⟨hc, fun {H enc w n cs x} h => by
    have h0 : 0 < T.sz := by simpa [Nat.blt_eq] using h0
    rcases Go.Deep.open_slice hu h with ⟨rfl, rfl⟩ | ⟨a, len, cap, m, n', D, Pl, rfl, _, hl, _, hm, rfl, hi⟩
    · exact ⟨[], ⟨_, rfl, none, 0, rfl, Nat.le_refl _, fun i x h => by simp at h⟩, Nat.zero_le _, fun x h => by cases h⟩
    · simp only [if_true] at hm
      subst hm
      have hel : ∀ i, i < len → ∃ y : α, ∃ cs', Cells w (a.add (i * T.sz)) cs' ∧ T.rd w (allOf w) y cs' ∧ ok (bulk (D i)) y := fun i hlt => by
        obtain ⟨cs', h1, h2⟩ := hi i (by omega)
        rw [O.sz] at h1
        obtain ⟨y, h3, h4⟩ := O.rd h2
        exact ⟨y, cs', cells_of h1, h3, h4⟩
      obtain ⟨l, hlen, hl2⟩ := list_of hel
      have hb : bulkAll ((List.range len).map D) + 1 ≤ bulk (DataW.slice (H := H) ((List.range len).map D) ((List.range (m - len)).map fun j => D (len + j))) := by
        rw [← bulk_slice]; omega
      refine ⟨l, ⟨_, rfl, some a, m, by rw [hlen], by omega, fun i y hy => ?_⟩, ?_, fun y hy => ?_⟩
      · obtain ⟨cs', h3, h4, _⟩ := hl2 i y hy
        have hlen' := T.rd_len h4
        have hcell := h3 0 _ (List.getElem?_eq_getElem (by omega))
        refine ⟨a, cs', rfl, ?_, h3, h4⟩
        have := cell_lt hcell
        rw [block_add, block_add] at this
        exact List.mem_range.2 this
      · have := length_bulk ((List.range len).map D)
        simp only [List.length_map, List.length_range] at this
        simp only [hlen]
        omega
      · obtain ⟨i, hy⟩ := List.getElem?_of_mem hy
        have hlt := (List.getElem?_eq_some_iff.1 hy).1
        obtain ⟨_, _, _, h5⟩ := hl2 i y hy
        have h6 := part_bulk (H := H) (d := D i) (l := (List.range len).map D) (List.mem_map.2 ⟨i, List.mem_range.2 (by omega), rfl⟩)
        exact O.mono (by dsimp only; omega) h5, fun hB ⟨h1, h2⟩ => ⟨Nat.le_trans h1 hB, fun x hx => O.mono hB (h2 x hx)⟩⟩

/-- Fields one behind another. -/
def FsR {H : Type} (enc : TypeId × Value → H) (P : Program) (w : World) (n : Nat) : List TypeId → List Value → List (DataW H × List MemPlace) → Prop
  | [], cs, xs => cs = [] ∧ xs = []
  | t :: ts, cs, xs => ∃ y ys, xs = y :: ys ∧ DataW.trod enc P w 0 (fun _ => true) true n t (cs.take (P.cellsOf t)) = some y ∧ FsR enc P w n ts (cs.drop (P.cellsOf t)) ys
def fsB (P : Program) : Nat → List Field → Nat → Bool
  | o, [], k => o == k
  | o, f :: fs, k => f.offset == o && fsB P (o + P.cellsOf f.type) fs k
theorem fsR_of {H : Type} {enc : TypeId × Value → H} {w : World} {n : Nat} {cs : List Value} : ∀ {fs : List Field} {o : Nat} {xs : List (DataW H × List MemPlace)}, fsB P o fs cs.length = true → xs.length = fs.length →
    (∀ (i : Nat) (f : Field), fs[i]? = some f → DataW.trod enc P w 0 (fun _ => true) true n f.type ((cs.drop f.offset).take (P.cellsOf f.type)) = xs[i]?) → FsR enc P w n (fs.map (·.type)) (cs.drop o) xs
  | [], o, xs, h, hl, _ => by
    simp only [fsB, beq_iff_eq] at h
    refine ⟨by rw [h]; simp, List.eq_nil_of_length_eq_zero hl⟩
  | f :: fs, o, xs, h, hl, hx => by
    simp only [fsB, Bool.and_eq_true, beq_iff_eq] at h
    obtain ⟨h1, h2⟩ := h
    cases xs with
    | nil => simp at hl
    | cons y ys =>
      have h3 := hx 0 f rfl
      rw [h1] at h3
      refine ⟨y, ys, rfl, h3, ?_⟩
      rw [List.drop_drop]
      exact fsR_of h2 (by simpa using hl) (fun i f' hf' => by
        have := hx (i + 1) f' (by simpa using hf')
        simpa using this)
structure OpnF (P : Program) (T : Ty α) (ts : List TypeId) (ok : Nat → α → Prop) : Prop where
  sz : (ts.map P.cellsOf).sum = T.sz
  rd : ∀ {H : Type} {enc : TypeId × Value → H} {w : World} {n : Nat} {cs : List Value} {xs : List (DataW H × List MemPlace)}, FsR enc P w n ts cs xs → ∃ a, T.rd w (allOf w) a cs ∧ ok (bulkAll (xs.map (·.1))) a
  mono : ∀ {B B' : Nat} {a : α}, B ≤ B' → ok B a → ok B' a
theorem OpnF.one {T : Ty α} {t : TypeId} {ok : Nat → α → Prop} (O : Opn P T t ok) : OpnF P T [t] ok :=
  ⟨by simp [O.sz], fun {H enc w n cs xs} h => by
    obtain ⟨y, ys, rfl, h1, h2, rfl⟩ := h
    obtain ⟨a, h3, h4⟩ := O.rd h1
    have h5 : cs.take (P.cellsOf t) = cs := by
      have := List.take_append_drop (P.cellsOf t) cs
      rw [h2, List.append_nil] at this
      exact this
    rw [h5] at h3
    refine ⟨a, h3, O.mono ?_ h4⟩
    exact part_bulk (by simp), O.mono⟩
theorem OpnF.cons {A : Ty α} {B : Ty β} {t : TypeId} {ts : List TypeId} {oa : Nat → α → Prop} {ob : Nat → β → Prop} (O : Opn P A t oa) (O' : OpnF P B ts ob) : OpnF P (A.pair B) (t :: ts) (okP oa ob) :=
  ⟨by simp [O.sz, O'.sz, Ty.pair], fun {H enc w n cs xs} h => by
    obtain ⟨y, ys, rfl, h1, h2⟩ := h
    obtain ⟨a, h3, h4⟩ := O.rd h1
    obtain ⟨b, h5, h6⟩ := O'.rd h2
    refine ⟨(a, b), ⟨_, _, (List.take_append_drop (P.cellsOf t) cs).symm, h3, h5⟩, O.mono (part_bulk (by simp)) h4, O'.mono ?_ h6⟩
    simp only [List.map_cons, bulkAll, Go.Proofs.YtkcehlfcfcabmaaGreat.Rows.uptoBulkAll]
    omega, fun hB h => ⟨O.mono hB h.1, O'.mono hB h.2⟩⟩
def stB (P : Program) (t : TypeId) (ts : List TypeId) : Bool := match P.underlying t with
  | some (.struct fs) => fs.toList.map (·.type) == ts && fsB P 0 fs.toList (P.cellsOf t)
  | _ => false
theorem stB_spec {t : TypeId} {ts : List TypeId} (h : stB P t ts = true) : ∃ fs, P.underlying t = some (.struct fs) ∧ fs.toList.map (·.type) = ts ∧ fsB P 0 fs.toList (P.cellsOf t) = true := by
  unfold stB at h
  split at h
  · rename_i fs h1
    simp only [Bool.and_eq_true, beq_iff_eq] at h
    exact ⟨fs, h1, h⟩
  · cases h
theorem Opn.struct {A : Ty α} {t : TypeId} {ts : List TypeId} {oa : Nat → α → Prop} (O : OpnF P A ts oa) (hb : stB P t ts = true) (hc : P.cellsOf t = A.sz) (f : β → α) (g : α → β) (hfg : ∀ y, f (g y) = y) : Opn P (A.iso f) t (okF f oa) :=
  ⟨hc, fun {H enc w n cs x} h => by
    obtain ⟨fs, hu, h1, h2⟩ := stB_spec hb
    obtain ⟨xs, n', rfl, rfl, hl, hn, hx⟩ := DataW.trod_struct hu h
    have h3 := fsR_of (fs := fs.toList) (o := 0) (xs := xs) (by rw [hl]; exact h2) (by simpa using hn) (fun i f hf => hx i f (by simpa using hf))
    rw [h1] at h3
    obtain ⟨a, h4, h5⟩ := O.rd h3
    refine ⟨g a, ?_, ?_⟩
    · show A.rd w _ (f (g a)) cs
      rw [hfg]
      exact h4
    · show oa _ (f (g a))
      rw [hfg]
      refine O.mono ?_ h5
      rw [← bulk_agg]
      omega, fun hB h => O.mono hB h⟩

/-! ### Arguments -/
section
variable {H : Type} {enc : TypeId × Value → H} {w : World} {base : Nat} {t : TypeId} {v : Value} {d : DataW H} {p : List MemPlace}
theorem arg_int {k : IntKind} (hu : P.underlying t = some (.int k)) (hv : Value.okWide P w .any base t v) (hd : DataW.Trod enc P w 0 (fun _ => true) true t v d p) : ∃ n, v = .int k n ∧ k.min ≤ n ∧ n ≤ k.max := by
  obtain ⟨n, rfl, _, _, hw⟩ := open_int hu hv hd
  exact ⟨n, rfl, wf_int hw⟩
theorem arg_intv {k : IntKind} {ts : Array TypeId} {vs : Array Value} (hval : ∀ (j : Nat) t v, ts[j]? = some t → vs[j]? = some v → Value.okWide P w .any base t v) (j : Nat) (ht : ts[j]? = some t) (hv : vs[j]? = some v) (hu : P.underlying t = some (.int k)) (hd : DataW.Trod enc P w 0 (fun _ => true) true t v d p) : ∃ n, v = .int k n ∧ k.min ≤ n ∧ n ≤ k.max :=
  arg_int hu (hval j t v ht hv) hd
theorem arg_u8 (hu : P.underlying t = some (.int .u8)) (hv : Value.okWide P w .any base t v) (hd : DataW.Trod enc P w 0 (fun _ => true) true t v d p) : ∃ b : UInt8, v = .int .u8 (b.toNat : Int) := by
  obtain ⟨n, rfl, _, _, hw⟩ := open_int hu hv hd
  exact ⟨_, by rw [← u8_of (wf_int hw)]⟩
theorem arg_bool (hu : P.underlying t = some .bool) (hv : Value.okWide P w .any base t v) (hd : DataW.Trod enc P w 0 (fun _ => true) true t v d p) : ∃ b : Bool, v = .bool b := by
  obtain ⟨b, rfl, _⟩ := open_bool hu hv hd
  exact ⟨b, rfl⟩
theorem arg_str (hu : P.underlying t = some .string) (hv : Value.okWide P w .any base t v) (hd : DataW.Trod enc P w 0 (fun _ => true) true t v d p) : ∃ s : List UInt8, v = .string ⟨⟨s⟩⟩ ∧ s.length ≤ bulk d := by
  obtain ⟨s, rfl⟩ := okWide_string hu hv
  obtain ⟨fuel, hf⟩ := hd
  obtain ⟨s', h1, h2, _⟩ := DataW.trod_string hu hf
  simp only [Value.cells, List.cons.injEq, and_true, Value.string.injEq] at h1
  subst h1
  simp only [Prod.mk.injEq] at h2
  exact ⟨s.data.toList, rfl, by rw [h2.1, bulk_str]; omega⟩
theorem arg_sl {T : Ty α} {e : TypeId} {ok : Nat → α → Prop} (O : Opn P (Ty.slice T) t (okL ok)) (hu : P.underlying t = some (.slice e)) (hv : Value.okWide P w .any base t v) (hd : DataW.Trod enc P w 0 (fun _ => true) true t v d p) : ∃ l, Rd T w [] v l ∧ okL ok (bulk d) l := by
  obtain ⟨A, k, c, rfl⟩ := okWide_slice hu hv
  obtain ⟨fuel, hf⟩ := hd
  obtain ⟨l, ⟨v', h1, h2⟩, h3⟩ := O.rd hf
  simp only [Value.cells, List.cons.injEq, and_true] at h1
  subst h1
  exact ⟨l, ⟨_, h2, fun k hk => ⟨List.mem_range.1 hk, by simp⟩⟩, h3⟩
theorem arg_st {T : Ty α} {fs : Array Field} {ok : Nat → α → Prop} (O : Opn P T t ok) (hu : P.underlying t = some (.struct fs)) (hv : Value.okWide P w .any base t v) (hd : DataW.Trod enc P w 0 (fun _ => true) true t v d p) :
    ∃ x cs, v = .agg ⟨cs⟩ ∧ T.rd w (allOf w) x cs ∧ (∀ k ∈ allOf w, k < w.heap.size ∧ k ∉ ([] : List Nat)) ∧ ok (bulk d) x := by
  obtain ⟨cs, rfl, _⟩ := okWide_struct hu hv
  obtain ⟨fuel, hf⟩ := hd
  obtain ⟨x, h1, h2⟩ := O.rd hf
  exact ⟨x, cs.toList, rfl, h1, fun k hk => ⟨List.mem_range.1 hk, by simp⟩, h2⟩
end

/-! ### The last step: the call answers true, and has left what was there -/
theorem sameAt_of {W W' : World} (hf : Fm W [] W') {p : MemPlace} (hp : p.block < W.heap.size) : W.sameAt W' p := by
  have h := hf.block p.block hp (by simp)
  cases p with
  | cell b o => exact cell_congr (a := ⟨b, o, none⟩) h
  | map b => exact h
theorem trodAll_carry' {H : Type} {enc : TypeId × Value → H} {W W' : World} {sp : Nat → Bool} : ∀ {ts : List TypeId} {vs : List Value} {ds : List (DataW H)} {ps : List MemPlace}, DataW.TrodAll enc P W 0 sp true ts vs ds ps → (∀ p ∈ ps, W.sameAt W' p) → DataW.TrodAll enc P W' 0 sp true ts vs ds ps
  | [], vs, ds, ps, h, _ => by
    obtain ⟨rfl, rfl, rfl⟩ := trodAll_nil h
    exact rfl
  | t :: ts, vs, ds, ps, h, hs => by
    obtain ⟨v, vs', d, ds', p, q, rfl, rfl, rfl, ⟨n, h1⟩, h2⟩ := trodAll_cons h
    exact ⟨p, q, ⟨n, DataW.trod_carry n _ _ _ h1 (fun p hp => hs p (by simp [hp]))⟩, trodAll_carry' h2 (fun p hp => hs p (by simp [hp])), rfl⟩
theorem post_true {H : Type} {enc : TypeId × Value → H} {f : Func} {s : ChangeSpec} {apart fresh handsOn again : Bool} {W W' : World} {args : Array Value} {ds gs : List (DataW H)} {before : List MemPlace} {tb : TypeId}
    (K : Kids P (· < P.types.size)) (hz : ∀ t e, t < P.types.size → P.underlying t = some (.slice e) → 0 < P.cellsOf e) (hpar : ∀ t ∈ f.params.toList, t < P.types.size) (hvars : s.vars = []) (hres : f.resultTypes = #[tb]) (hb : P.underlying tb = some .bool)
    (hW : DataW.Whole enc P f.params.toList s.vars apart W args.toList ds gs before) (hfn : s.fn H (ds ++ gs) = { results := [.lit (.bool true)], args := ds }) (hfm : Fm W [] W') : s.post enc P f apart fresh handsOn again W args (.bool true) W' := by
  have hlt := hW.lt
  have hW0 := hW
  obtain ⟨p, q, hA, hV, rfl, hfz, hnd⟩ := hW
  rw [hvars] at hV
  obtain ⟨rfl, rfl⟩ := trodVars_none hV
  have hsame : ∀ x ∈ p, W.sameAt W' x := fun x hx => sameAt_of hfm (hlt x (by simp [hx]))
  have hA' := trodAll_carry' hA hsame
  have hargs : ∀ sp : Nat → Bool, (∀ x ∈ p, sp x.block = true) → DataW.TrodAll enc P W' 0 sp true f.params.toList args.toList ds p := fun sp hsp => DataW.TrodAll.respare K hz hpar hA' hsp
  have hr : ∀ (b : Nat) (sp : Nat → Bool) (hd : Bool), DataW.TrodAll enc P W' b sp hd f.resultTypes.toList ((Value.bool true).resultList f.resultTypes.size) [.lit (.bool true)] [] := fun b sp hd => by
    rw [hres]
    exact trodAll_cons_mk (shut_bool hb true) trodAll_mk0
  have hold : ∀ x ∈ p, (fun b => decide (b < W.heap.size)) x.block = true := fun x hx => by simpa using hlt x (by simp [hx])
  have hk : ∀ may, W.keptBut W' may := fun may => ⟨hfm.os, hfm.output, fun i hi => by rw [hfm.block i hi (by simp)]; exact (World.keptBut_refl W may).2.2 i hi⟩
  have e1 : (s.fn H (ds ++ [])).results = [.lit (.bool true)] := by rw [hfn]
  have e2 : (s.fn H (ds ++ [])).args = ds := by rw [hfn]
  have e3 : (s.fn H (ds ++ [])).vars = [] := by rw [hfn]
  refine ⟨ds, [], p ++ [], [], p, [], hW0, by rw [e1]; exact hr _ _ _, by rw [e2]; exact hargs _ hold, by rw [hvars, e3]; rfl,
    hk _, fun _ => ⟨ok_one hres rfl (okWide_bool_mk hb true), _, [], ([] ++ p) ++ [], ⟨[] ++ p, [], trodAll_append (hargs _ (fun _ _ => rfl)) (hr _ _ _), by rw [hvars]; rfl, rfl, ?_, ?_⟩, ?_⟩⟩
  · intro b off hp
    have hp' : MemPlace.cell b off ∈ p ++ [] := by simpa using hp
    have hb' : b < W.heap.size := hlt _ hp'
    have := hfz b off hp'
    simp only [World.frozen?] at this ⊢
    rw [hfm.block b hb' (by simp)]
    exact this
  · intro ha
    have := hnd ha
    simpa using this
  · intro x hx _
    simpa using hx
end
end Go.Pv
