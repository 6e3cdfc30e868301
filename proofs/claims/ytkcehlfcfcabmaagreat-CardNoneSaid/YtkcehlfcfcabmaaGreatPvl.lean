/- Maps; closures; structs compared; fields of elements stored; rows cut in place. -/
import Derived.Test.YtkcehlfcfcabmaaGreatPvk
import Derived.Laws.StructEq
set_option linter.unusedVariables false
set_option linter.unusedSimpArgs false
namespace Go.Pv
open Go Go.RowKit

/-! ### Chunks come to the front -/
section
variable {w0 w w' : World} {F0 : List Nat} {p q : Ck} {ps qs rest : List Ck}
def frontL {α : Type} : Nat → List α → List α
  | _, [] => []
  | 0, l => l
  | n + 1, a :: r => match frontL n r with
    | [] => [a]
    | b :: s => b :: a :: s
theorem star_front : ∀ (n : Nat) (ps : List Ck) (F : List Nat), Star ps w F → ∃ F', Star (frontL n ps) w F' ∧ ∀ k, k ∈ F' ↔ k ∈ F
  | _, [], F, h => ⟨F, by unfold frontL; exact h, fun _ => Iff.rfl⟩
  | 0, p :: ps, F, h => ⟨F, by unfold frontL; exact h, fun _ => Iff.rfl⟩
  | n + 1, p :: ps, F, h => by
    have h1 := Star.cons_iff (qs := frontL n ps) (fun F hs => star_front n ps F hs) h
    unfold frontL
    split
    · rename_i e
      rw [e] at h1
      exact h1
    · rename_i b s e
      rw [e] at h1
      obtain ⟨F1, h2, h3⟩ := h1
      obtain ⟨F2, h4, h5⟩ := Star.swap h2
      exact ⟨F2, h4, fun k => (h5 k).trans (h3 k)⟩
theorem SL.fr (h : SL w0 F0 w ps) (n : Nat) (e : frontL n ps = qs) : SL w0 F0 w qs := e ▸ h.re fun F hs => star_front n ps F hs
end

/-! ### Association lists -/
section
variable {κ ν : Type} [DecidableEq κ]
def mget : List (κ × ν) → κ → Option ν
  | [], _ => none
  | p :: r, k => if k = p.1 then some p.2 else mget r k
def mset : List (κ × ν) → κ → ν → List (κ × ν)
  | [], k, v => [(k, v)]
  | p :: r, k, v => if k = p.1 then (k, v) :: r else p :: mset r k v
def mdel : List (κ × ν) → κ → List (κ × ν)
  | [], _ => []
  | p :: r, k => if k = p.1 then r else p :: mdel r k
end

/-- Keys that the model compares at once. -/
structure Key {κ : Type} [DecidableEq κ] (P : Program) (t : TypeId) (ek : κ → Value) : Prop where
  desc : ∃ d, P.underlying t = some d ∧ ∀ a b, Instr.sameNow d (ek a) (ek b) = some (decide (a = b))
  chk : ∀ e a w, (Instr.checkKey e 10000 t (ek a)).run P w = .ok () w
  stay : ∀ a, Instr.sameBits 10000 (ek a) (ek a) = true
theorem Key.int {P : Program} {t : TypeId} {k : IntKind} (h : P.underlying t = some (.int k)) : Key P t (Value.int k) where
  desc := ⟨_, h, fun a b => by
    simp only [Instr.sameNow, if_pos rfl]
    congr 1⟩
  chk e a w := (by
    have h1 : ∀ n, (Instr.checkKey e (n + 1) t (.int k a)).run P w = .ok () w := fun n => by simp [Instr.checkKey, run_underlying h]
    exact h1 9999)
  stay a := (by
    have h1 : ∀ n, Instr.sameBits n (.int k a) (.int k a) = true := fun n => by cases n <;> simp [Instr.sameBits]
    exact h1 10000)
def strV (s : List UInt8) : Value := .string ⟨⟨s⟩⟩
theorem Key.str {P : Program} {t : TypeId} (h : P.underlying t = some .string) : Key P t strV where
  desc := ⟨_, h, fun a b => by
    simp only [Instr.sameNow, strV]
    congr 1
    rw [beq_toListBytes, ba_toList, ba_toList, Bool.eq_iff_iff, beq_iff_eq, decide_eq_true_iff]⟩
  chk e a w := (by
    have h1 : ∀ n, (Instr.checkKey e (n + 1) t (strV a)).run P w = .ok () w := fun n => by simp [Instr.checkKey, run_underlying h, strV]
    exact h1 9999)
  stay a := (by
    have h0 : ((⟨⟨a⟩⟩ : ByteArray) == ⟨⟨a⟩⟩) = true := by rw [beq_toListBytes, ba_toList]; simp
    have h1 : ∀ n, Instr.sameBits n (strV a) (strV a) = true := fun n => by cases n <;> simpa [Instr.sameBits, strV] using h0
    exact h1 10000)

section
variable {κ ν : Type} [DecidableEq κ] {ek : κ → Value} {ev_ : ν → Value} {d : TypeDesc}
theorem find_eq (hd : ∀ a b, Instr.sameNow d (ek a) (ek b) = some (decide (a = b))) (k : κ) : ∀ (es : List MapEntry) (l : List (κ × ν)) (i : Nat), es.map (fun e => (e.key, e.val)) = l.map (fun p => (ek p.1, ev_ p.2)) →
    (Instr.findNow d (ek k) es i = some none ∧ mget l k = none ∧ (∀ v, mset l k v = l ++ [(k, v)]) ∧ mdel l k = l) ∨
    ∃ j u, Instr.findNow d (ek k) es i = some (some (i + j, ev_ u)) ∧ mget l k = some u ∧ l[j]? = some (k, u) ∧ (∀ v, mset l k v = l.set j (k, v)) ∧ mdel l k = l.eraseIdx j
  | [], [], i, _ => .inl ⟨rfl, rfl, fun _ => rfl, rfl⟩
  | [], _ :: _, i, h => by simp at h
  | _ :: _, [], i, h => by simp at h
  | e :: es, p :: l, i, h => by
    simp only [List.map_cons, List.cons.injEq, Prod.mk.injEq] at h
    obtain ⟨⟨h1, h2⟩, h3⟩ := h
    by_cases hk : k = p.1
    · refine .inr ⟨0, p.2, ?_, ?_, ?_, ?_, ?_⟩
      · simp only [Instr.findNow, h1, hd, hk, decide_true, h2, Nat.add_zero]
      · simp [mget, hk]
      · simp [hk]
      · intro v; simp [mset, hk]
      · simp [mdel, hk]
    · have hf : Instr.findNow d (ek k) (e :: es) i = Instr.findNow d (ek k) es (i + 1) := by
        simp only [Instr.findNow, h1, hd, hk, decide_false]
      rcases find_eq hd k es l (i + 1) h3 with ⟨g1, g2, g3, g4⟩ | ⟨j, u, g1, g2, g3, g4, g5⟩
      · exact .inl ⟨by rw [hf, g1], by simp [mget, hk, g2], fun v => by simp [mset, hk, g3], by simp [mdel, hk, g4]⟩
      · exact .inr ⟨j + 1, u, by rw [hf, g1, Nat.add_right_comm]; rfl, by simp [mget, hk, g2], by simpa using g3, fun v => by simp [mset, hk, g4], by simp [mdel, hk, g5]⟩
end

/-- The chunk of a map: its keys and values in the order in which they came. -/
structure MapAt {κ ν : Type} (ek : κ → Value) (ev_ : ν → Value) (w : World) (r : Nat) (l : List (κ × ν)) (es : Array MapEntry) (clock : Nat) : Prop where
  heap : w.heap[r]? = some (.map es clock)
  map : es.toList.map (fun e => (e.key, e.val)) = l.map (fun p => (ek p.1, ev_ p.2))
  born : (es.toList.map (·.born)).Pairwise (· < ·)
  lt : ∀ e ∈ es.toList, e.born < clock
  nodup : (l.map Prod.fst).Nodup
def Mp {κ ν : Type} (ek : κ → Value) (ev_ : ν → Value) (r : Nat) (l : List (κ × ν)) : Ck :=
  ⟨fun w F => F = [r] ∧ ∃ es clock, MapAt ek ev_ w r l es clock,
   fun ⟨h, es, c, h1⟩ hk => ⟨h, es, c, by rw [hk r (by simp [h])]; exact h1.heap, h1.map, h1.born, h1.lt, h1.nodup⟩,
   fun ⟨h, es, c, h1⟩ k hk => by rw [h, List.mem_singleton] at hk; subst hk; exact heap_lt h1.heap⟩

section
variable {P : Program} {w0 w : World} {F0 F : List Nat} {ps rest : List Ck} {m : List (Nat × Value)} {n d : Nat} {ty : TypeId} {pos : String} {aft : Array Edge} {x y z : Operand} {ops : Array Oper} {Q : Exit → Act → World → Prop} {a : Act} {l' : List Oper} {gd : Option (Nat × Bool)} {dd : Option Tmp}
variable {κ ν : Type} {ek : κ → Value} {ev_ : ν → Value} {l : List (κ × ν)} {r : Nat}

theorem SL.map_ (hs : SL w0 F0 w ps) (hm : Mp ek ev_ r l ∈ ps) : ∃ es clock, MapAt ek ev_ w r l es clock := by
  obtain ⟨F, h1, _⟩ := hs.st
  obtain ⟨G, ⟨_, h3⟩, _⟩ := star_mem hm h1
  exact h3
theorem mset_keys [DecidableEq κ] (l : List (κ × ν)) (k : κ) (v : ν) : (mset l k v).map Prod.fst = if k ∈ l.map Prod.fst then l.map Prod.fst else l.map Prod.fst ++ [k] := by
  induction l with
  | nil => simp [mset]
  | cons p l ih =>
    by_cases hk : k = p.1
    · simp [mset, hk]
    · simp only [mset, hk, if_false, List.map_cons, ih, List.mem_cons, false_or]
      split <;> simp
theorem mset_nodup [DecidableEq κ] {l : List (κ × ν)} (h : (l.map Prod.fst).Nodup) (k : κ) (v : ν) : ((mset l k v).map Prod.fst).Nodup := by
  rw [mset_keys]
  split
  · exact h
  · rename_i hk
    rw [List.nodup_append]
    exact ⟨h, by simp, fun a ha b hb => by simp only [List.mem_singleton] at hb; subst hb; exact fun e => hk (e ▸ ha)⟩

theorem run_getMap {es : Array MapEntry} {c : Nat} (h : w.heap[r]? = some (.map es c)) : (getObj r).run P w = .ok (.map es c) w := by
  simp [getObj, Sem.run, h]
theorem run_setMap {es : Array MapEntry} {c : Nat} (o : Obj) (h : w.heap[r]? = some (.map es c)) : (setObj r o).run P w = .ok () { w with heap := w.heap.setIfInBounds r o } := by
  simp [setObj, Sem.run, h]
theorem fm_set (o : Obj) : Fm w [r] { w with heap := w.heap.setIfInBounds r o } :=
  Fm.one rfl rfl rfl (by simp) (fun k hk => by simp only [Array.getElem?_setIfInBounds]; rw [if_neg (fun h => hk h.symm)])
theorem SL.setmap {l2 : List (κ × ν)} {es : Array MapEntry} {c : Nat} (hs : SL w0 F0 w (Mp ek ev_ r l :: ps)) (h1 : es.toList.map (fun e => (e.key, e.val)) = l2.map (fun p => (ek p.1, ev_ p.2)))
    (h2 : (es.toList.map (·.born)).Pairwise (· < ·)) (h3 : ∀ e ∈ es.toList, e.born < c) (h4 : (l2.map Prod.fst).Nodup) : SL w0 F0 { w with heap := w.heap.setIfInBounds r (.map es c) } (Mp ek ev_ r l2 :: ps) := by
  obtain ⟨F, hst, hF0, _, hcl⟩ := SL.open_ (ps := [Mp ek ev_ r l]) hs
  obtain ⟨rfl, es0, c0, h0⟩ := Star.of_one hst
  refine hcl _ [Mp ek ev_ r l2] ⟨fm_set _, [r], Star.one (p := Mp ek ev_ r l2) ⟨rfl, es, c, ⟨?_, h1, h2, h3, h4⟩⟩, fun k hk => .inl hk⟩
  have hlt := heap_lt h0.heap
  simp [Array.getElem?_setIfInBounds, hlt]

/-- A new map. -/
theorem st_mkmap {t : TypeId} (ek : κ → Value) (ev_ : ν → Value) (hF : Fr a n m) (hs : SL w0 F0 w ps) (hlt : Nat.blt d n = true)
    (k : ∀ g w a, Fr a n ((d, .map (some g)) :: m) → SL w0 F0 w (Mp ek ev_ g ([] : List (κ × ν)) :: ps) → wpList P ops Q l' a w) : wpList P ops Q (⟨some d, .makeMap t none, ty, pos, aft, none⟩ :: l') a w := by
  refine st_op hF (v := .map (some w.heap.size)) (w' := w.alloc (.map #[] 0)) (fun a n hF => ?_) rfl rfl hlt fun a hF => k _ _ a hF (hs.add (qs := [Mp ek ev_ w.heap.size []]) ⟨Fm.alloc w [] _, [w.heap.size], Star.one (p := Mp ek ev_ w.heap.size []) ⟨rfl, #[], 0, heap_alloc_new w _, rfl, by simp, by simp, by simp⟩, fun k hk => .inr (by simp at hk; omega)⟩)
  simp [execOp, Instr.makeMap, newObj, Sem.run]
/-- The same with room told. -/
theorem st_mkmapr {t : TypeId} {ki : IntKind} {p : Int} {tk te : TypeId} (ek : κ → Value) (ev_ : ν → Value) (hF : Fr a n m) (hs : SL w0 F0 w ps) (ht : P.underlying t = some (.map tk te)) (hx : ev m x = some (.int ki p)) (hlt : Nat.blt d n = true)
    (k : ∀ g w a, Fr a n ((d, .map (some g)) :: m) → SL w0 F0 w (Mp ek ev_ g ([] : List (κ × ν)) :: ps) → wpList P ops Q l' a w) : wpList P ops Q (⟨some d, .makeMap t (some x), ty, pos, aft, none⟩ :: l') a w := by
  refine st_op hF (v := .map (some w.heap.size)) (w' := w.alloc (.map #[] 0)) (fun a n hF => ?_) rfl rfl hlt fun a hF => k _ _ a hF (hs.add (qs := [Mp ek ev_ w.heap.size []]) ⟨Fm.alloc w [] _, [w.heap.size], Star.one (p := Mp ek ev_ w.heap.size []) ⟨rfl, #[], 0, heap_alloc_new w _, rfl, by simp, by simp, by simp⟩, fun k hk => .inr (by simp at hk; omega)⟩)
  simp [execOp, Instr.makeMap, newObj, Sem.run, run_underlying ht, hF.eval hx, asInt, asIntOf]

theorem ex_maplen {t tk te : TypeId} (hs : SL w0 F0 w ps) (hm : Mp ek ev_ r l ∈ ps) (ht : P.underlying t = some (.map tk te)) (hx : ev m x = some (.map (some r))) :
    EX P w m ⟨dd, .call { callee := .builtin .len, args := #[x], argTypes := #[t] }, ty, pos, aft, gd⟩ (.int .i64 (l.length : Int)) w := fun a _ hF => by
  obtain ⟨es, c, h⟩ := hs.map_ hm
  have hl : es.size = l.length := by simpa using congrArg List.length h.map
  simp [execOp, resolve, invoke, builtin, hF.eval hx, Builtin.len_, run_underlying ht, run_getMap h.heap, goInt, hl]
variable [DecidableEq κ]
theorem run_find {t : TypeId} {es : Array MapEntry} {c : Nat} (hK : Key P t ek) (h : MapAt ek ev_ w r l es c) (k : κ) :
    ((Instr.findKey t (ek k) es.toList).run P w = .ok none w ∧ mget l k = none ∧ (∀ v, mset l k v = l ++ [(k, v)]) ∧ mdel l k = l) ∨
    ∃ j u, (Instr.findKey t (ek k) es.toList).run P w = .ok (some (j, ev_ u)) w ∧ mget l k = some u ∧ l[j]? = some (k, u) ∧ (∀ v, mset l k v = l.set j (k, v)) ∧ mdel l k = l.eraseIdx j := by
  obtain ⟨dsc, hu, hd⟩ := hK.desc
  rcases find_eq hd k es.toList l 0 h.map with ⟨g1, g2⟩ | ⟨j, u, g1, g2⟩
  · exact .inl ⟨by simp [Instr.findKey, run_underlying hu, g1], g2⟩
  · refine .inr ⟨j, u, ?_, g2⟩
    rw [Nat.zero_add] at g1
    simp [Instr.findKey, run_underlying hu, g1]
theorem ex_lookup {t tk te : TypeId} {k : κ} {z0 : ν} (hs : SL w0 F0 w ps) (hm : Mp ek ev_ r l ∈ ps) (ht : P.underlying t = some (.map tk te)) (hK : Key P tk ek) (hz : (P.info? te).bind (·.zero) = some (ev_ z0)) (hx : ev m x = some (.map (some r))) (hy : ev m y = some (ek k)) :
    EX P w m ⟨dd, .lookup t x y false, ty, pos, aft, gd⟩ (ev_ ((mget l k).getD z0)) w := fun a _ hF => by
  obtain ⟨es, c, h⟩ := hs.map_ hm
  obtain ⟨i, hi, hz⟩ := Option.bind_eq_some_iff.1 hz
  rcases run_find (P := P) hK h k with ⟨g1, g2, _⟩ | ⟨j, u, g1, g2, _⟩
  · simp [execOp, hF.eval hx, hF.eval hy, Instr.lookup, run_underlying ht, run_getMap h.heap, hK.chk, g1, g2, zeroValue, typeInfo, hi, hz]
  · simp [execOp, hF.eval hx, hF.eval hy, Instr.lookup, run_underlying ht, run_getMap h.heap, hK.chk, g1, g2]
theorem ex_lookup2 {t tk te : TypeId} {k : κ} {z0 : ν} (hs : SL w0 F0 w ps) (hm : Mp ek ev_ r l ∈ ps) (ht : P.underlying t = some (.map tk te)) (hK : Key P tk ek) (hz : (P.info? te).bind (·.zero) = some (ev_ z0)) (hx : ev m x = some (.map (some r))) (hy : ev m y = some (ek k)) :
    EX P w m ⟨dd, .lookup t x y true, ty, pos, aft, gd⟩ (.tuple #[ev_ ((mget l k).getD z0), .bool (mget l k).isSome]) w := fun a _ hF => by
  obtain ⟨es, c, h⟩ := hs.map_ hm
  obtain ⟨i, hi, hz⟩ := Option.bind_eq_some_iff.1 hz
  rcases run_find (P := P) hK h k with ⟨g1, g2, _⟩ | ⟨j, u, g1, g2, _⟩
  · simp [execOp, hF.eval hx, hF.eval hy, Instr.lookup, run_underlying ht, run_getMap h.heap, hK.chk, g1, g2, zeroValue, typeInfo, hi, hz]
  · simp [execOp, hF.eval hx, hF.eval hy, Instr.lookup, run_underlying ht, run_getMap h.heap, hK.chk, g1, g2]

theorem run_update {t tk te : TypeId} {k : κ} {u : ν} (hs : SL w0 F0 w (Mp ek ev_ r l :: ps)) (ht : P.underlying t = some (.map tk te)) (hK : Key P tk ek) :
    ∃ w', (Instr.mapUpdate t (.map (some r)) (ek k) (ev_ u)).run P w = .ok () w' ∧ SL w0 F0 w' (Mp ek ev_ r (mset l k u) :: ps) := by
  obtain ⟨es, c, h⟩ := hs.map_ (List.mem_cons_self)
  have hl : es.toList.length = l.length := by simpa using congrArg List.length h.map
  rcases run_find (P := P) hK h k with ⟨g1, g2, g3, _⟩ | ⟨j, u0, g1, g2, g3, g4, _⟩
  · refine ⟨_, ?_, hs.setmap (l2 := mset l k u) (es := es.push { key := ek k, val := ev_ u, born := c }) (c := c + 1) ?_ ?_ ?_ (mset_nodup h.nodup k u)⟩
    · simp [Instr.mapUpdate, run_underlying ht, run_getMap h.heap, hK.chk, g1, run_setMap _ h.heap]
    · rw [g3, Array.toList_push, List.map_append, h.map]; simp
    · rw [Array.toList_push, List.map_append, List.pairwise_append]
      refine ⟨h.born, by simp, fun a ha b hb => ?_⟩
      simp only [List.map_cons, List.map_nil, List.mem_singleton] at hb
      rw [List.mem_map] at ha
      obtain ⟨e, he, rfl⟩ := ha
      rw [hb]
      exact h.lt e he
    · intro e he
      rw [Array.toList_push, List.mem_append] at he
      rcases he with he | he
      · have := h.lt e he; omega
      · simp only [List.mem_singleton] at he; rw [he]; exact Nat.lt_succ_self _
  · have hj : j < es.toList.length := by rw [hl]; exact (List.getElem?_eq_some_iff.1 g3).1
    have hkey : (es[j]?).map (·.key) = some (ek k) := by
      have h1 := congrArg (fun L => L[j]?) h.map
      simp only [List.getElem?_map, g3, Option.map_some] at h1
      rw [Array.getElem?_toList] at h1
      rcases he : es[j]? with _ | e
      · rw [he] at h1; cases h1
      · rw [he] at h1
        simp only [Option.map_some, Option.some.injEq, Prod.mk.injEq] at h1 ⊢
        exact h1.1
    have hmod : (es.modify j fun e => { e with key := ek k, val := ev_ u }).toList = es.toList.set j { es.toList[j] with key := ek k, val := ev_ u } := by
      rw [Array.toList_modify]
      apply List.ext_getElem?
      intro i
      rw [List.getElem?_modify, List.getElem?_set]
      by_cases hij : j = i
      · subst hij
        have hj' : j < es.size := by simpa using hj
        simp [hj']
      · simp [hij]
    refine ⟨_, ?_, hs.setmap (l2 := mset l k u) (es := es.modify j fun e => { e with key := ek k, val := ev_ u }) (c := c) ?_ ?_ ?_ (mset_nodup h.nodup k u)⟩
    · simp [Instr.mapUpdate, run_underlying ht, run_getMap h.heap, hK.chk, g1, hkey, Instr.keyThatStays, hK.stay, run_setMap _ h.heap]
    · rw [g4, hmod, List.map_set, List.map_set, h.map]
    · have : (es.toList.set j { es.toList[j] with key := ek k, val := ev_ u }).map (·.born) = es.toList.map (·.born) := by
        rw [List.map_set]
        apply List.ext_getElem?
        intro i
        rw [List.getElem?_set]
        by_cases hij : j = i
        · subst hij
          have hj' : j < es.size := by simpa using hj
          simp [hj']
        · simp [hij]
      rw [hmod, this]
      exact h.born
    · intro e he
      rw [hmod] at he
      rcases List.mem_or_eq_of_mem_set he with he | he
      · exact h.lt e he
      · rw [he]
        exact h.lt es.toList[j] (List.getElem_mem hj)
theorem st_mapset {t tk te : TypeId} {k : κ} {u : ν} (hF : Fr a n m) (hs : SL w0 F0 w (Mp ek ev_ r l :: ps)) (ht : P.underlying t = some (.map tk te)) (hK : Key P tk ek) (hx : ev m x = some (.map (some r))) (hy : ev m y = some (ek k)) (hz : ev m z = some (ev_ u))
    (K : ∀ w a, Fr a n m → SL w0 F0 w (Mp ek ev_ r (mset l k u) :: ps) → wpList P ops Q l' a w) : wpList P ops Q (⟨none, .mapUpdate t x y z, ty, pos, aft, none⟩ :: l') a w := by
  obtain ⟨w', h1, h2⟩ := run_update (P := P) (k := k) (u := u) hs ht hK
  refine st_opu hF (w' := w') (fun a n hF => ?_) rfl rfl fun a hF => K _ a hF h2
  simp [execOp, hF.eval hx, hF.eval hy, hF.eval hz, h1]
theorem map_erase {α β : Type} (f : α → β) : ∀ (l : List α) (j : Nat), (l.eraseIdx j).map f = (l.map f).eraseIdx j
  | [], j => by simp
  | x :: l, 0 => by simp
  | x :: l, j + 1 => by simp [map_erase f l j]
theorem run_mapdel {t t2 tk te ty' : TypeId} {k : κ} (hs : SL w0 F0 w (Mp ek ev_ r l :: ps)) (ht : P.underlying t = some (.map tk te)) (hK : Key P tk ek) :
    ∃ w', (Builtin.delete_ #[t, t2] ty' #[.map (some r), ek k]).run P w = .ok (.tuple #[]) w' ∧ SL w0 F0 w' (Mp ek ev_ r (mdel l k) :: ps) := by
  obtain ⟨es, c, h⟩ := hs.map_ (List.mem_cons_self)
  have hl : es.toList.length = l.length := by simpa using congrArg List.length h.map
  rcases run_find (P := P) hK h k with ⟨g1, g2, g3, g4⟩ | ⟨j, u0, g1, g2, g3, g4, g5⟩
  · refine ⟨_, ?_, hs.setmap (l2 := mdel l k) (es := es) (c := c) (by rw [g4]; exact h.map) h.born h.lt (by rw [g4]; exact h.nodup)⟩
    simp [Builtin.delete_, run_underlying ht, run_getMap h.heap, hK.chk, g1, run_setMap _ h.heap]
  · have he : (es.eraseIdxIfInBounds j).toList = es.toList.eraseIdx j := by
      unfold Array.eraseIdxIfInBounds
      have hj' : j < es.size := by
        have := (List.getElem?_eq_some_iff.1 g3).1
        rw [← hl] at this
        simpa using this
      rw [dif_pos hj', Array.toList_eraseIdx]
    refine ⟨_, ?_, hs.setmap (l2 := mdel l k) (es := es.eraseIdxIfInBounds j) (c := c) ?_ ?_ ?_ ?_⟩
    · simp [Builtin.delete_, run_underlying ht, run_getMap h.heap, hK.chk, g1, run_setMap _ h.heap]
    · rw [he, g5, map_erase, h.map, map_erase]
    · rw [he, map_erase]
      exact h.born.sublist (List.eraseIdx_sublist _ _)
    · intro e hin
      rw [he] at hin
      exact h.lt e (List.mem_of_mem_eraseIdx hin)
    · rw [g5, map_erase]
      exact h.nodup.sublist (List.eraseIdx_sublist _ _)

theorem st_mapdel {t t2 tk te : TypeId} {k : κ} (hF : Fr a n m) (hs : SL w0 F0 w (Mp ek ev_ r l :: ps)) (ht : P.underlying t = some (.map tk te)) (hK : Key P tk ek) (hx : ev m x = some (.map (some r))) (hy : ev m y = some (ek k))
    (K : ∀ w a, Fr a n m → SL w0 F0 w (Mp ek ev_ r (mdel l k) :: ps) → wpList P ops Q l' a w) : wpList P ops Q (⟨none, .call { callee := .builtin .delete, args := #[x, y], argTypes := #[t, t2] }, ty, pos, aft, none⟩ :: l') a w := by
  obtain ⟨w', h1, h2⟩ := run_mapdel (P := P) (t2 := t2) (ty' := ty) (k := k) hs ht hK
  refine st_opn hF (v := .tuple #[]) (w' := w') (fun a n hF => ?_) rfl rfl fun a hF => K _ a hF h2
  simp [execOp, resolve, invoke, builtin, hF.eval hx, hF.eval hy, h1]
theorem st_mapins {t tk te : TypeId} {k : κ} {u : ν} (hF : Fr a n m) (hs : SL w0 F0 w (Mp ek ev_ r l :: ps)) (ht : P.underlying t = some (.map tk te)) (hK : Key P tk ek) (hx : ev m x = some (.map (some r))) (hy : ev m y = some (ek k)) (hz : ev m z = some (ev_ u))
    (K : ∀ w a, Fr a n m → SL w0 F0 w (Mp ek ev_ r (mset l k u) :: ps) → wpList P ops Q l' a w) : wpList P ops Q (⟨none, .insert t x y z, ty, pos, aft, none⟩ :: l') a w := by
  obtain ⟨w', h1, h2⟩ := run_update (P := P) (k := k) (u := u) hs ht hK
  refine st_opu hF (w' := w') (fun a n hF => ?_) rfl rfl fun a hF => K _ a hF h2
  simp [execOp, hF.eval hx, hF.eval hy, hF.eval hz, h1]
theorem run_map_sn {t tk te : TypeId} (ht : P.underlying t = some (.map tk te)) : (Op.equal t (.map (some r)) (.map none)).run P w = .ok false w :=
  run_equal fun d => by simp [Op.equalIn, run_underlying ht]
theorem ex_map_eqf {t tk te u : TypeId} (hx : ev m x = some (.map (some r))) (hy : ev m y = some (.map none)) (ht : P.underlying t = some (.map tk te)) : EX P w m ⟨dd, .binOp .eql t x y u, ty, pos, aft, gd⟩ (.bool false) w :=
  ex_bin hx hy (fun _ => Value.noConfusion) Value.noConfusion (by simp [binOp, run_map_sn ht])
theorem ex_map_nef {t tk te u : TypeId} (hx : ev m x = some (.map (some r))) (hy : ev m y = some (.map none)) (ht : P.underlying t = some (.map tk te)) : EX P w m ⟨dd, .binOp .neq t x y u, ty, pos, aft, gd⟩ (.bool true) w :=
  ex_bin hx hy (fun _ => Value.noConfusion) Value.noConfusion (by simp [binOp, run_map_sn ht])
end

/-! ### Closures -/
section
variable {P : Program} {w0 w : World} {F0 F : List Nat} {ps rest : List Ck} {m : List (Nat × Value)} {n d : Nat} {ty : TypeId} {pos : String} {aft : Array Edge} {x y z : Operand} {ops : Array Oper} {Q : Exit → Act → World → Prop} {a : Act} {l' : List Oper} {gd : Option (Nat × Bool)} {dd : Option Tmp}
abbrev clo (f : Nat) (caps : List Value) : Value := .func (.func f) #[] ⟨caps⟩
theorem ex_mkfunc {f : Nat} {cs : List Operand} {vs : List Value} (h : evs m cs = some vs) : EX P w m ⟨dd, .makeFunc (.func f) #[] cs.toArray, ty, pos, aft, gd⟩ (clo f vs) w := fun a n hF => by
  have h2 := hF.evals h
  simp [execOp, Instr.makeFunc, h2, clo]
theorem st_callf {f : Nat} {args : List Operand} {ats : Array TypeId} {vs caps : List Value} {S : Value → World → Prop} (hF : Fr a n m) (hf : fnB P f = true) (ht : ev m x = some (clo f caps)) (hargs : evs m args = some vs) (hc : Calls P f (vs ++ caps).toArray w (Ret S)) (hlt : Nat.blt d n = true)
    (k : ∀ v w a, S v w → Fr a n ((d, v) :: m) → wpList P ops Q l' a w) : wpList P ops Q (⟨some d, .call { callee := .value x, args := args.toArray, argTypes := ats }, ty, pos, aft, none⟩ :: l') a w :=
  wpList_plain rfl fun K hK => by
    unfold Oper.wp
    have h1 : (execOp a.eval ⟨some d, .call { callee := .value x, args := args.toArray, argTypes := ats }, ty, pos, aft, none⟩).run P w = .ok (.enter f (vs ++ caps).toArray) w := by
      have h2 := hF.evals hargs
      simp [execOp, resolve, Deferred.ofValue, hF.eval ht, invoke, h2, run_callFunc hf]
    rw [h1, Oper.upon_enter]
    refine hc.mono ?_
    rintro e w' ⟨v, rfl, hS⟩
    exact hK _ _ (k v w' _ hS (hF.put d v hlt))
theorem st_callf0 {f : Nat} {args : List Operand} {ats : Array TypeId} {vs caps : List Value} {S : Value → World → Prop} (hF : Fr a n m) (hf : fnB P f = true) (ht : ev m x = some (clo f caps)) (hargs : evs m args = some vs) (hc : Calls P f (vs ++ caps).toArray w (Ret S))
    (k : ∀ v w a, S v w → Fr a n m → wpList P ops Q l' a w) : wpList P ops Q (⟨none, .call { callee := .value x, args := args.toArray, argTypes := ats }, ty, pos, aft, none⟩ :: l') a w :=
  wpList_plain rfl fun K hK => by
    unfold Oper.wp
    have h1 : (execOp a.eval ⟨none, .call { callee := .value x, args := args.toArray, argTypes := ats }, ty, pos, aft, none⟩).run P w = .ok (.enter f (vs ++ caps).toArray) w := by
      have h2 := hF.evals hargs
      simp [execOp, resolve, Deferred.ofValue, hF.eval ht, invoke, h2, run_callFunc hf]
    rw [h1, Oper.upon_enter]
    refine hc.mono ?_
    rintro e w' ⟨v, rfl, hS⟩
    exact hK _ _ (k v w' _ hS hF)
theorem QR.callf {C : World → Prop} {m' : List (Nat × Value)} {rest' : List Oper} {rest : List Oper} {v : Value} {f : Nat} {args : List Operand} {ats : Array TypeId} {vs caps : List Value} (hf : fnB P f = true) (ht : ev m x = some (clo f caps)) (hargs : evs m args = some vs) (hc : ∀ w, C w → Calls P f (vs ++ caps).toArray w (Ret fun u w' => u = v ∧ C w'))
    (k : QR P n ops C ((d, v) :: m) rest m' rest') (hlt : Nat.blt d n = true := by rfl) : QR P n ops C m (⟨some d, .call { callee := .value x, args := args.toArray, argTypes := ats }, ty, pos, aft, none⟩ :: rest) m' rest' :=
  fun Q a hF k' => by
    unfold wpQuiet
    rw [if_pos (by simp [Region.wanted])]
    refine ⟨v, fun w hw => ?_, ?_⟩
    · unfold Oper.quietAt
      have h2 := hF.evals hargs
      have h1 : (execOp a.eval ⟨some d, .call { callee := .value x, args := args.toArray, argTypes := ats }, ty, pos, aft, none⟩).run P w = .ok (.enter f (vs ++ caps).toArray) w := by
        simp [execOp, resolve, Deferred.ofValue, hF.eval ht, invoke, h2, run_callFunc hf]
      rw [h1]
      exact ⟨rfl, (hc w hw).mono fun e w' ⟨u, he, hu, hw'⟩ => ⟨by rw [he, hu], hw'⟩⟩
    · exact k Q _ (hF.put d v hlt) k'
end

/-! ### Structs compared -/
section
variable {P : Program} {w : World} {m : List (Nat × Value)} {dd : Option Tmp} {ty : TypeId} {pos : String} {aft : Array Edge} {gd : Option (Nat × Bool)} {x y : Operand}
/-- Values of a type compare to b, whatever the world (two levels below are enough). -/
def EqAt (P : Program) (k : Nat) (t : TypeId) (p q : Value) (b : Bool) : Prop := ∀ d w, (Op.equalIn (d + k) t p q).run P w = .ok b w
theorem eqat_int {t : TypeId} {k : IntKind} {p q : Int} (h : P.underlying t = some (.int k)) : EqAt P 1 t (.int k p) (.int k q) (p == q) := fun d w => run_equalIn_int w d t k k p q h
theorem eqat_u8 {t : TypeId} {p q : UInt8} (h : P.underlying t = some (.int .u8)) : EqAt P 1 t (.int .u8 (p.toNat : Int)) (.int .u8 (q.toNat : Int)) (p == q) := fun d w => by
  rw [run_equalIn_int w d t .u8 .u8 _ _ h]
  congr 1
  rw [Bool.eq_iff_iff, beq_iff_eq, beq_iff_eq, ← UInt8.toNat_inj]
  omega
theorem eqat_bool {t : TypeId} {p q : Bool} (h : P.underlying t = some .bool) : EqAt P 1 t (.bool p) (.bool q) (p == q) := fun d w => run_equalIn_bool' w d t p q h
theorem eqat_str {t : TypeId} {p q : List UInt8} (h : P.underlying t = some .string) : EqAt P 1 t (.string ⟨⟨p⟩⟩) (.string ⟨⟨q⟩⟩) (p == q) := fun d w => by
  rw [run_equalIn_string w d t _ _ h, ba_toList, ba_toList]
theorem EqAt.up {k j : Nat} {t : TypeId} {p q : Value} {b : Bool} (h : EqAt P k t p q b) (hk : k ≤ j) : EqAt P j t p q b := fun d w => by
  have := h (d + (j - k)) w
  rwa [show d + (j - k) + k = d + j by omega] at this
def EqF (P : Program) (k : Nat) (xs ys : Array Value) (fs : List Field) (b : Bool) : Prop := ∀ d w, (Op.eqFields (d + k) xs ys fs).run P w = .ok b w
theorem eqf_nil {k : Nat} {xs ys : Array Value} : EqF P k xs ys [] true := fun d w => by simp [Op.eqFields]
theorem eqf_cons {k : Nat} {xs ys : Array Value} {f : Field} {fs : List Field} {p q : Value} {b c : Bool} (hn : (f.name != "_") = true) (hp : ∀ w, (part f.type xs f.offset).run P w = .ok p w) (hq : ∀ w, (part f.type ys f.offset).run P w = .ok q w)
    (he : EqAt P k f.type p q b) (hr : EqF P k xs ys fs c) : EqF P k xs ys (f :: fs) (b && c) := fun d w => by
  have hn' : f.name ≠ "_" := by simpa using hn
  simp only [Op.eqFields, if_pos hn', Sem.run_bind, hp, hq, Result.andThen_ok, he d w, Sem.run_ite]
  cases b
  · simp
  · simpa using hr d w
theorem part_s {t : TypeId} {cs : List Value} {o : Nat} {u : Value} (hb : nagB P t = true) (hu : cs[o]? = some u) (w : World) : (part t ⟨cs⟩ o).run P w = .ok u w := by
  simp [part, nagB_spec hb, hu]
theorem part_a {t : TypeId} {cs ds : List Value} {o sz : Nat} (hb : aggB P t sz = true) (hd : (cs.drop o).take sz = ds) (hl : o + sz ≤ cs.length) (w : World) : (part t ⟨cs⟩ o).run P w = .ok (.agg ⟨ds⟩) w := by
  simp [part, aggB_spec hb]
  rw [← hd]
def steB (P : Program) (t : TypeId) : Bool := (match P.underlying t with | some (.struct _) => true | _ => false) && !P.stoodInHeld t && !P.eqGuardType P.depth t
theorem steB_spec {t : TypeId} (h : steB P t = true) : P.underlying t = some (.struct (P.fieldsOf t)) ∧ P.stoodInHeld t = false ∧ P.eqGuardType P.depth t = false := by
  unfold steB at h
  simp only [Bool.and_eq_true, Bool.not_eq_true'] at h
  obtain ⟨⟨h1, h2⟩, h3⟩ := h
  refine ⟨?_, h2, h3⟩
  unfold Program.fieldsOf
  split at h1
  · rename_i fs hu; rw [hu]
  · cases h1
theorem eqat_st {k : Nat} {t : TypeId} {fs : List Field} {xs ys : List Value} {b : Bool} (hb : steB P t = true) (hf : (P.fieldsOf t).toList = fs) (h : EqF P k ⟨xs⟩ ⟨ys⟩ fs b) : EqAt P (k + 1) t (.agg ⟨xs⟩) (.agg ⟨ys⟩) b := fun d w => by
  obtain ⟨h1, h2, _⟩ := steB_spec hb
  rw [← Nat.add_assoc, run_equalIn_struct w (d + k) t _ _ h1 h2, hf]
  exact h d w
theorem ex_steq {k : Nat} {t u : TypeId} {xs ys : List Value} {b : Bool} (hb : steB P t = true) (hk : Nat.ble k 10000 = true) (hx : ev m x = some (.agg ⟨xs⟩)) (hy : ev m y = some (.agg ⟨ys⟩)) (h : EqAt P k t (.agg ⟨xs⟩) (.agg ⟨ys⟩) b) : EX P w m ⟨dd, .binOp .eql t x y u, ty, pos, aft, gd⟩ (.bool b) w := fun a n hF => by
  obtain ⟨_, _, h3⟩ := steB_spec hb
  have h4 := (h.up (Nat.le_of_ble_eq_true hk)) 0 w
  rw [Nat.zero_add] at h4
  simp only [execOp, hF.eval hx, hF.eval hy]
  simp [run_eqGuard_agg w .eql t x y ⟨xs⟩ ⟨ys⟩ h3, run_eql_struct, h4]
theorem ex_stne {k : Nat} {t u : TypeId} {xs ys : List Value} {b : Bool} (hb : steB P t = true) (hk : Nat.ble k 10000 = true) (hx : ev m x = some (.agg ⟨xs⟩)) (hy : ev m y = some (.agg ⟨ys⟩)) (h : EqAt P k t (.agg ⟨xs⟩) (.agg ⟨ys⟩) b) : EX P w m ⟨dd, .binOp .neq t x y u, ty, pos, aft, gd⟩ (.bool (!b)) w := fun a n hF => by
  obtain ⟨_, _, h3⟩ := steB_spec hb
  have h4 := (h.up (Nat.le_of_ble_eq_true hk)) 0 w
  rw [Nat.zero_add] at h4
  simp only [execOp, hF.eval hx, hF.eval hy]
  simp [run_eqGuard_agg w .neq t x y ⟨xs⟩ ⟨ys⟩ h3, run_neq_struct, h4]
end
end Go.Pv
