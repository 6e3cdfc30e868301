/- A map gone through: its entries come in whatever order; each comes once. -/
import Derived.Test.YtkcehlfcfcabmaaGreatPvm
import Derived.Laws.IdiomRangeMap
set_option linter.unusedVariables false
set_option linter.unusedSimpArgs false
namespace Go.Pv
open Go Go.RowKit

/-- The map in block r holds l; the iterator in block it has handed out the entries of the places js. -/
structure ItAt {κ ν : Type} (ek : κ → Value) (ev_ : ν → Value) (w : World) (r it : Nat) (l : List (κ × ν)) (js : List Nat) (es : Array MapEntry) (clock : Nat) (seen : Array Nat) (last : Nat) : Prop where
  map : MapAt ek ev_ w r l es clock
  iter : w.heap[it]? = some (.mapIter (some r) clock seen last)
  cl : clock ≤ last
  seen : seen.toList.map some = js.map fun j => (es[j]?).map (·.born)
  nodup : js.Nodup
  lt : ∀ j ∈ js, j < l.length
  back : last = clock
def MpIt {κ ν : Type} (ek : κ → Value) (ev_ : ν → Value) (r it : Nat) (l : List (κ × ν)) (js : List Nat) : Ck :=
  ⟨fun w F => F = [r, it] ∧ r ≠ it ∧ ∃ es clock seen last, ItAt ek ev_ w r it l js es clock seen last,
   fun ⟨h, hn, es, c, s, la, h1⟩ hk => ⟨h, hn, es, c, s, la, ⟨by rw [hk r (by simp [h])]; exact h1.map.heap, h1.map.map, h1.map.born, h1.map.lt, h1.map.nodup⟩, by rw [hk it (by simp [h])]; exact h1.iter, h1.cl, h1.seen, h1.nodup, h1.lt, h1.back⟩,
   fun ⟨h, hn, es, c, s, la, h1⟩ k hk => by
     rw [h] at hk
     simp only [List.mem_cons, List.not_mem_nil, or_false] at hk
     rcases hk with rfl | rfl
     · exact heap_lt h1.map.heap
     · exact heap_lt h1.iter⟩
/-- The entries of some places. -/
def pick {α : Type} (l : List α) (js : List Nat) : List α := js.filterMap fun j => l[j]?
theorem rest_perm {js : List Nat} {n : Nat} (hn : js.Nodup) (hl : ∀ j ∈ js, j < n) : (js ++ (List.range n).filter fun j => decide (j ∉ js)).Perm (List.range n) := by
  rw [List.perm_ext_iff_of_nodup ?_ List.nodup_range]
  · intro j
    simp only [List.mem_append, List.mem_filter, List.mem_range, decide_eq_true_eq]
    constructor
    · rintro (h | h)
      · exact hl j h
      · exact h.1
    · intro h
      by_cases hj : j ∈ js
      · exact .inl hj
      · exact .inr ⟨h, hj⟩
  · rw [List.nodup_append]
    refine ⟨hn, (List.filter_sublist).nodup List.nodup_range, fun a ha b hb => ?_⟩
    simp only [List.mem_filter, decide_eq_true_eq] at hb
    exact fun e => hb.2 (e ▸ ha)
theorem pick_range {α : Type} (l : List α) : ∀ k, k ≤ l.length → (List.range k).filterMap (fun j => l[j]?) = l.take k
  | 0, _ => by simp
  | k + 1, h => by
    rw [List.range_succ, List.filterMap_append, pick_range l k (by omega), List.take_add_one]
    rw [List.getElem?_eq_getElem (show k < l.length by omega)]
    simp [List.getElem?_eq_getElem (show k < l.length by omega)]
theorem pick_perm {α : Type} {l : List α} {js : List Nat} (h : js.Perm (List.range l.length)) : (pick l js).Perm l := by
  have h2 := h.filterMap (fun j => l[j]?)
  rw [pick_range l l.length (Nat.le_refl _), List.take_length] at h2
  exact h2
theorem pick_snoc {α : Type} {l : List α} {js : List Nat} {j : Nat} {x : α} (h : l[j]? = some x) : pick l (js ++ [j]) = pick l js ++ [x] := by
  unfold pick
  rw [List.filterMap_append]
  simp [h]

section
variable {P : Program} {w0 w : World} {F0 F : List Nat} {ps rest : List Ck} {m : List (Nat × Value)} {n d : Nat} {ty : TypeId} {pos : String} {aft : Array Edge} {x y z : Operand} {ops : Array Oper} {Q : Exit → Act → World → Prop} {a : Act} {l' : List Oper} {gd : Option (Nat × Bool)} {dd : Option Tmp}
variable {κ ν : Type} {ek : κ → Value} {ev_ : ν → Value} {l : List (κ × ν)} {r it : Nat} {js : List Nat}
theorem MapAt.entry {es : Array MapEntry} {c : Nat} (h : MapAt ek ev_ w r l es c) {j : Nat} {e : MapEntry} (he : es[j]? = some e) : ∃ p, l[j]? = some p ∧ e.key = ek p.1 ∧ e.val = ev_ p.2 := by
  have h1 := congrArg (fun L => L[j]?) h.map
  simp only [List.getElem?_map, Array.getElem?_toList, he, Option.map_some] at h1
  rcases hp : l[j]? with _ | p
  · rw [hp] at h1; cases h1
  · rw [hp] at h1
    simp only [Option.map_some, Option.some.injEq, Prod.mk.injEq] at h1
    exact ⟨p, rfl, h1.1, h1.2⟩
theorem MapAt.size {es : Array MapEntry} {c : Nat} (h : MapAt ek ev_ w r l es c) : es.size = l.length := by simpa using congrArg List.length h.map
theorem MapAt.inj {es : Array MapEntry} {c : Nat} (h : MapAt ek ev_ w r l es c) {i j : Nat} {e f : MapEntry} (he : es[i]? = some e) (hf : es[j]? = some f) (hb : e.born = f.born) : i = j := by
  have h1 := h.born
  rw [List.pairwise_iff_getElem] at h1
  obtain ⟨hi, hie⟩ := Array.getElem?_eq_some_iff.1 he
  obtain ⟨hj, hjf⟩ := Array.getElem?_eq_some_iff.1 hf
  rcases Nat.lt_trichotomy i j with hlt | heq | hgt
  · have := h1 i j (by simpa using hi) (by simpa using hj) hlt
    simp only [List.getElem_map, Array.getElem_toList, hie, hjf] at this
    omega
  · exact heq
  · have := h1 j i (by simpa using hj) (by simpa using hi) hgt
    simp only [List.getElem_map, Array.getElem_toList, hie, hjf] at this
    omega
theorem st_range {t tk te : TypeId} (hF : Fr a n m) (hs : SL w0 F0 w (Mp ek ev_ r l :: ps)) (ht : P.underlying t = some (.map tk te)) (hx : ev m x = some (.map (some r))) (hlt : Nat.blt d n = true)
    (k : ∀ it w a, Fr a n ((d, .pointer (some ⟨it, 0, none⟩)) :: m) → SL w0 F0 w (MpIt ek ev_ r it l [] :: ps) → wpList P ops Q l' a w) : wpList P ops Q (⟨some d, .range t x, ty, pos, aft, none⟩ :: l') a w := by
  obtain ⟨F, hst, hF0, _, hcl⟩ := SL.open_ (ps := [Mp ek ev_ r l]) hs
  obtain ⟨rfl, es, c, h⟩ := Star.of_one hst
  have hlr := heap_lt h.heap
  have hr : (w.alloc (.mapIter (some r) c #[] c)).heap[r]? = w.heap[r]? := Below.heap_alloc w _ r hlr
  refine st_op hF (v := .pointer (some ⟨w.heap.size, 0, none⟩)) (w' := w.alloc (.mapIter (some r) c #[] c)) (fun a n hF => ?_) rfl rfl hlt fun a hF => k w.heap.size _ a hF (hcl _ [MpIt ek ev_ r w.heap.size l []]
    ⟨Fm.alloc w _ _, [r, w.heap.size], Star.one (p := MpIt ek ev_ r w.heap.size l []) ⟨rfl, by omega, es, c, #[], c, ⟨by rw [hr]; exact h.heap, h.map, h.born, h.lt, h.nodup⟩, heap_alloc_new w _, Nat.le_refl _, rfl, by simp, by simp, rfl⟩, fun k hk => ?_⟩)
  · have := run_range_map (P := P) w t tk te r es c ht h.heap
    simp [execOp, hF.eval hx, this]
  · simp only [List.mem_cons, List.not_mem_nil, or_false] at hk
    rcases hk with rfl | rfl
    · exact .inl (by simp)
    · exact .inr (Nat.le_refl _)
theorem st_next (hF : Fr a n m) (hs : SL w0 F0 w (MpIt ek ev_ r it l js :: ps)) (hx : ev m x = some (.pointer (some ⟨it, 0, none⟩))) (hlt : Nat.blt d n = true)
    (k0 : ∀ a, js.Perm (List.range l.length) → Fr a n ((d, .tuple #[.bool false]) :: m) → wpList P ops Q l' a w)
    (k1 : ∀ j p w a, l[j]? = some p → (js ++ [j]).Nodup → (∀ i ∈ js ++ [j], i < l.length) → Fr a n ((d, .tuple #[.bool true, ek p.1, ev_ p.2]) :: m) → SL w0 F0 w (MpIt ek ev_ r it l (js ++ [j]) :: ps) → wpList P ops Q l' a w) :
    wpList P ops Q (⟨some d, .next x false, ty, pos, aft, none⟩ :: l') a w := by
  obtain ⟨F, hst, hF0, _, hcl⟩ := SL.open_ (ps := [MpIt ek ev_ r it l js]) hs
  obtain ⟨rfl, hne, es, c, seen, last, h⟩ := Star.of_one hst
  have hold : ∀ e ∈ es.toList, e.born < c := h.map.lt
  have htest := next_test_false seen es c last hold h.cl
  have hsz := h.map.size
  have hseen : ∀ (j : Nat) (e : MapEntry), es[j]? = some e → (e.born ∈ seen ↔ j ∈ js) := by
    intro j e he
    constructor
    · intro hb
      have h1 : some e.born ∈ seen.toList.map some := List.mem_map.2 ⟨e.born, by simpa using hb, rfl⟩
      rw [h.seen, List.mem_map] at h1
      obtain ⟨i, hi, h2⟩ := h1
      rcases hei : es[i]? with _ | f
      · rw [hei] at h2; cases h2
      · rw [hei] at h2
        simp only [Option.map_some, Option.some.injEq] at h2
        have := h.map.inj hei he h2
        rw [← this]
        exact hi
    · intro hj
      have h1 : some e.born ∈ js.map (fun j => (es[j]?).map (·.born)) := List.mem_map.2 ⟨j, hj, by rw [he]; rfl⟩
      rw [← h.seen, List.mem_map] at h1
      obtain ⟨b, hb, h2⟩ := h1
      cases h2
      simpa using hb
  have hgetI : (getObj it).run P w = .ok (.mapIter (some r) c seen last) w := by simp [getObj, Sem.run, h.iter]
  have hgetM : (getObj r).run P w = .ok (.map es c) w := run_getMap h.map.heap
  have hrun : ∀ L : Array MapEntry, L = es.filter (fun e => !seen.contains e.born) → (Instr.next (.pointer (some ⟨it, 0, none⟩)) false ty).run P w =
      ((choose (.mapNext ((if L.isEmpty then #[none] else #[]) ++ L.map some : Array (Option MapEntry)).size)).run P w).andThen fun j w1 =>
        (match ((if L.isEmpty then #[none] else #[]) ++ L.map some : Array (Option MapEntry))[j]? with
          | some (some e) => (do setObj it (.mapIter (some r) c (seen.push e.born) c); pure (.tuple #[.bool true, e.key, e.val]) : Sem Value)
          | some none => pure (.tuple #[.bool false])
          | none => stuck "Next: no such candidate").run P w1 := by
    intro L hL
    have hmem : ∀ x ∈ L.toList, x.born < c := fun x hx => hold x (by rw [hL] at hx; simp at hx ⊢; exact hx.1)
    have e1 : L.filter (fun x => decide (x.born < c)) = L := Array.filter_eq_self.2 (fun x hx => by simpa using hmem x (by simpa using hx))
    have e2 : L.filter (fun x => decide (x.born ≥ c)) = #[] := by
      rw [Array.filter_eq_empty_iff]
      intro x hx
      have := hmem x (by simpa using hx)
      simp
      omega
    simp only [Instr.next, Sem.run_bind, hgetI, Result.andThen_ok, hgetM, htest, Bool.false_eq_true, if_false, ← hL, e1, e2, Array.append_empty]
    rfl
  obtain ⟨L, hL⟩ : ∃ L, L = es.filter (fun e => !seen.contains e.born) := ⟨_, rfl⟩
  have hr := hrun L hL
  by_cases h0 : L.size = 0
  · have hLe : L = #[] := Array.eq_empty_of_size_eq_zero h0
    refine st_op hF (v := .tuple #[.bool false]) (w' := w) (fun a n hF => ?_) rfl rfl hlt fun a hF => k0 a ?_ hF
    · simp only [execOp, hF.eval hx]
      rw [hLe] at hr
      have hfo : (Question.mapNext 1).forced = true := rfl
      simp only [Sem.run_bind, hr]
      simp [hfo]
    · rw [List.perm_ext_iff_of_nodup h.nodup List.nodup_range]
      intro j
      rw [List.mem_range]
      refine ⟨h.lt j, fun hj => ?_⟩
      have hj' : j < es.size := by omega
      have he : es[j]? = some es[j] := Array.getElem?_eq_getElem hj'
      rw [← hseen j _ he]
      refine Classical.byContradiction fun hn => ?_
      have : es[j] ∈ L := by
        rw [hL, Array.mem_filter]
        exact ⟨Array.getElem_mem hj', by simpa using hn⟩
      rw [hLe] at this
      simp at this
  · have hne0 : L.isEmpty = false := by simp [Array.isEmpty, h0]
    have hch : ∃ (j : Nat) (w1 : World), j < L.size ∧ (w1 = w ∨ w1 = w.drew) ∧ (choose (Question.mapNext L.size)).run P w = .ok j w1 := by
      by_cases hf : L.size ≤ 1
      · exact ⟨0, w, by omega, .inl rfl, by simp [choose, Sem.run, Question.forced, hf]⟩
      · exact ⟨_, w.drew, Nat.mod_lt _ (by omega), .inr rfl, by
          simp only [choose, Sem.run, Question.forced, decide_eq_true_eq, hf, if_false, Question.cut]
          rfl⟩
    obtain ⟨i, w1, hi, hw1, hch⟩ := hch
    have hLi : L[i] ∈ L := Array.getElem_mem hi
    have hgi : L[i]? = some L[i] := Array.getElem?_eq_getElem hi
    generalize L[i] = e0 at hLi hgi
    have hLi' : e0 ∈ es ∧ (!seen.contains e0.born) = true := by rw [hL, Array.mem_filter] at hLi; exact hLi
    obtain ⟨j, hj, hje⟩ := Array.mem_iff_getElem.1 hLi'.1
    have hej : es[j]? = some e0 := by rw [Array.getElem?_eq_getElem hj, hje]
    have hjn : j ∉ js := fun hin => by
      have := (hseen j _ hej).2 hin
      have h3 := hLi'.2
      have h4 : seen.contains e0.born = true := by simpa using this
      rw [h4] at h3
      cases h3
    obtain ⟨p, hp, hk, hv⟩ := h.map.entry hej
    have hfr : Fm w [r, it] { w1 with heap := w1.heap.setIfInBounds it (.mapIter (some r) c (seen.push e0.born) c) } := by
      have hh : w1.heap = w.heap ∧ w1.os = w.os ∧ w1.tape = w.tape ∧ w1.output = w.output := by rcases hw1 with rfl | rfl <;> exact ⟨rfl, rfl, rfl, rfl⟩
      refine ⟨hh.2.1, hh.2.2.1, hh.2.2.2, by simp [hh.1], fun k hk hn => ?_⟩
      simp only [List.mem_cons, List.not_mem_nil, or_false, not_or] at hn
      simp only [hh.1, Array.getElem?_setIfInBounds]
      rw [if_neg (fun e => hn.2 e.symm)]
    have hheap : w1.heap = w.heap := by rcases hw1 with rfl | rfl <;> rfl
    have hit := heap_lt h.iter
    refine st_op hF (v := .tuple #[.bool true, ek p.1, ev_ p.2]) (w' := { w1 with heap := w1.heap.setIfInBounds it (.mapIter (some r) c (seen.push e0.born) c) }) (fun a n hF => ?_) rfl rfl hlt fun a hF =>
      k1 j p _ a hp ?_ ?_ hF (hcl _ [MpIt ek ev_ r it l (js ++ [j])] ⟨hfr, [r, it], Star.one (p := MpIt ek ev_ r it l (js ++ [j])) ⟨rfl, hne, es, c, seen.push e0.born, c, ⟨?_, h.map.map, h.map.born, h.map.lt, h.map.nodup⟩, ?_, Nat.le_refl _, ?_, ?_, ?_, rfl⟩, fun k hk => .inl hk⟩)
    · simp only [execOp, hF.eval hx]
      simp only [hne0, Bool.false_eq_true, if_false, Array.empty_append, Array.size_map] at hr
      have hset : (setObj it (.mapIter (some r) c (seen.push e0.born) c)).run P w1 = .ok () { w1 with heap := w1.heap.setIfInBounds it (.mapIter (some r) c (seen.push e0.born) c) } := by
        have h5 : w1.heap[it]? = some (.mapIter (some r) c seen last) := by rw [hheap]; exact h.iter
        simp [setObj, Sem.run, h5]
      simp only [Sem.run_bind, hr, hch, Result.andThen_ok, Array.getElem?_map, hgi, Option.map_some, hset, Sem.run_pure, hk, hv]
    · rw [List.nodup_append]
      exact ⟨h.nodup, by simp, fun a ha b hb => by simp only [List.mem_singleton] at hb; subst hb; exact fun e => hjn (e ▸ ha)⟩
    · intro i' hi'
      rw [List.mem_append, List.mem_singleton] at hi'
      rcases hi' with hi' | rfl
      · exact h.lt i' hi'
      · omega
    · simp only [hheap, Array.getElem?_setIfInBounds]
      rw [if_neg (fun e => hne e.symm)]
      exact h.map.heap
    · simp [hheap, Array.getElem?_setIfInBounds, hit]
    · rw [Array.toList_push, List.map_append, h.seen, List.map_append]
      simp [hej]
    · rw [List.nodup_append]
      exact ⟨h.nodup, by simp, fun a ha b hb => by simp only [List.mem_singleton] at hb; subst hb; exact fun e => hjn (e ▸ ha)⟩
    · intro i' hi'
      rw [List.mem_append, List.mem_singleton] at hi'
      rcases hi' with hi' | rfl
      · exact h.lt i' hi'
      · omega
theorem ex_entry {j : Nat} {p : κ × ν} (hs : SL w0 F0 w ps) (hm : MpIt ek ev_ r it l (js ++ [j]) ∈ ps) (hp : l[j]? = some p) (hx : ev m x = some (.pointer (some ⟨it, 0, none⟩))) : EX P w m ⟨dd, .entry x, ty, pos, aft, gd⟩ (.tuple #[ek p.1, ev_ p.2]) w := fun a _ hF => by
  obtain ⟨F, h1, _⟩ := hs.st
  obtain ⟨G, ⟨_, hne, es, c, seen, last, h⟩, _⟩ := star_mem hm h1
  have hj : j < es.size := by rw [h.map.size]; exact (List.getElem?_eq_some_iff.1 hp).1
  have hej : es[j]? = some es[j] := Array.getElem?_eq_getElem hj
  obtain ⟨p', hp', hk, hv⟩ := h.map.entry hej
  rw [hp] at hp'
  cases hp'
  have hback : seen.back? = some es[j].born := by
    have h2 := h.seen
    rw [List.map_append, List.map_singleton, hej] at h2
    have h3 := congrArg List.getLast? h2
    rw [List.getLast?_append] at h3
    simp only [List.getLast?_singleton, Option.map_some, Option.some_or, List.getLast?_map] at h3
    rw [← Array.getLast?_toList]
    rcases hl : seen.toList.getLast? with _ | b
    · rw [hl] at h3; cases h3
    · rw [hl] at h3
      simp only [Option.map_some, Option.some.injEq] at h3
      rw [h3]
  have hnd : (es.toList.map (·.born)).Nodup := h.map.born.imp (fun h => by omega)
  have hf : es.find? (·.born == es[j].born) = some es[j] := by rw [← Array.find?_toList]; exact find_born es[j] es.toList hnd (by simp)
  have hgetI : (getObj it).run P w = .ok (.mapIter (some r) c seen last) w := by simp [getObj, Sem.run, h.iter]
  have hb := h.back
  subst hb
  simp [execOp, hF.eval hx, Instr.entry, hgetI, run_getMap h.map.heap, hback, hf, hk, hv]
theorem SL.unit {F0 : List Nat} (hs : SL w0 F0 w (MpIt ek ev_ r it l js :: ps)) : SL w0 F0 w (Mp ek ev_ r l :: ps) := by
  obtain ⟨F, ⟨G1, G2, e, ⟨rfl, hne, es, c, seen, last, h⟩, hst, hd⟩, hF⟩ := hs.st
  exact ⟨hs.fm, [r] ++ G2, ⟨[r], G2, rfl, ⟨rfl, es, c, h.map⟩, hst, fun k hk => hd k (by simp only [List.mem_singleton] at hk; simp [hk])⟩, fun k hk => hF k (by
    rw [e]
    simp only [List.mem_append, List.mem_singleton, List.mem_cons, List.not_mem_nil, or_false] at hk ⊢
    rcases hk with hk | hk
    · exact .inl (.inl hk)
    · exact .inr hk)⟩
end
end Go.Pv
