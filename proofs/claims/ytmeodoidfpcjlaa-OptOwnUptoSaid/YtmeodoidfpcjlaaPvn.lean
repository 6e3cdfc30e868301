/- Numbers sorted by Go's library: its contract, told of a row of one's own. -/
import Derived.Test.YtmeodoidfpcjlaaPvm
import Derived.Shelf.Sort.Plain
import Derived.Shelf.Slices.In.SortNone
set_option linter.unusedVariables false
set_option linter.unusedSimpArgs false
namespace Go.Pv
open Go Go.RowKit Go.Sort Go.Shelf Go.Proofs

theorem putCells_get (off : Nat) (d : Array Int) (c : Array Value) (j : Nat) : (putCells (Value.int .i64) off d c)[j]? = if j < c.size then (if off ≤ j ∧ j < off + d.size then some (Value.int .i64 d[j - off]!) else c[j]?) else none := by
  unfold putCells
  rw [Array.getElem?_mapIdx]
  by_cases hj : j < c.size
  · rw [if_pos hj, Array.getElem?_eq_getElem hj, Option.map_some]
    split <;> rfl
  · rw [if_neg hj, Array.getElem?_eq_none (by omega)]
    rfl
theorem putCells_size (off : Nat) (d : Array Int) (c : Array Value) : (putCells (Value.int .i64) off d c).size = c.size := by simp [putCells]

theorem flat_map1 : ∀ (l : List Int), l.flatMap (fun x => [Value.int .i64 x]) = l.map (Value.int .i64)
  | [] => rfl
  | x :: l => by rw [List.flatMap_cons, flat_map1 l]; rfl
theorem sort_own {P : Program} {ρ : Ren} (L : Lays.n189 P ρ) {w : World} {FF : List Nat} {v : Value} {l r : List Int} (hst : Star [Sl (Ty.int .i64) v l] w FF) (hr : sortO l = some r) :
    Calls P (ρ.f 189) #[v] w (Ret fun u w' => u = .tuple #[] ∧ SL w FF w' [Sl (Ty.int .i64) v r]) := by
  unfold sortO at hr
  split at hr
  · rename_i hlen
    cases hr
    have hown : slOwn (Ty.int .i64) w FF v l := Star.of_one hst
    have hrow := (Flat.int .i64).slOwn.1 hown
    have hperm : (sortI l).length = l.length := by simp [sortI]
    rcases hrow.2 with ⟨rfl, h0, rfl⟩ | ⟨g, o, cap, cur, e, fz, rfl, rfl, hg, hnc, hoc, hfz, hcells⟩
    · have hl : l = [] := List.eq_nil_of_length_eq_zero h0
      subst hl
      refine (Any.slices_Sort_int_none L none 0 w).mono fun _ w' ⟨he, hw⟩ => ⟨_, he, rfl, ?_⟩
      subst hw
      have : sortI [] = [] := by simp [sortI]
      rw [this]
      exact SL.init w' [] hst
    · have hsz : (Ty.int .i64).sz = 1 := rfl
      rw [flat_map1 l] at hcells
      rw [hsz, Nat.mul_one] at hoc
      have hcur : ∀ j, j < l.length → cur[o + j]? = some (Value.int .i64 (l.toArray[j]!)) := fun j hj => by
        have h1 := hcells j (Value.int .i64 l[j]) (by rw [List.getElem?_map, List.getElem?_eq_getElem hj]; rfl)
        rw [h1]
        congr 2
        simp [hj]
      have hH : Holds (Value.int .i64) w g o l.toArray := fun j hj => by
        have hj' : j < l.length := by simpa using hj
        refine ⟨?_, ?_⟩
        · simp [World.cell?, hg, hcur j hj']
        · have := hfz (o + j) (by omega)
          simp [World.frozen?, hg]
          omega
      refine (Any.slices_Sort_int L g o cap l w hH (heap_lt hg) hlen).mono fun _ w' ⟨he, n, os, hw⟩ => ⟨_, he, rfl, ?_⟩
      have hheap : w'.heap = (w.heap.modify g fun | .cells c e fr => .cells (putCells (Value.int .i64) o (sortI l).toArray c) e fr | ob => ob) ++ os := by
        rw [hw]
        rfl
      have hgl := heap_lt hg
      have hother : ∀ k, k < w.heap.size → k ≠ g → w'.heap[k]? = w.heap[k]? := fun k hk hne => by
        rw [hheap, Array.getElem?_append_left (by simpa using hk), Array.getElem?_modify, if_neg (fun h => hne h.symm)]
      have hself : w'.heap[g]? = some (.cells (putCells (Value.int .i64) o (sortI l).toArray cur) e fz) := by
        rw [hheap, Array.getElem?_append_left (by simpa using hgl), Array.getElem?_modify, if_pos rfl, hg]
        rfl
      refine ⟨⟨by rw [hw]; rfl, by rw [hw]; rfl, by rw [hw]; rfl, by rw [hheap]; simp, fun k hk hn => hother k hk (by simpa using hn)⟩, [g], Star.one (p := Sl (Ty.int .i64) _ (sortI l)) ((Flat.int .i64).slOwn.2 ⟨?_, .inr ⟨g, o, cap, _, e, fz, by rw [hperm], rfl, hself, by omega, ?_, ?_, ?_⟩⟩), fun k hk => .inl hk⟩
      · rw [flat_len (Flat.int .i64)]
      · rw [hsz, Nat.mul_one, putCells_size]; exact hoc
      · intro j hj
        rw [putCells_size] at hj
        exact hfz j hj
      · intro j u hu
        rw [flat_map1 (sortI l), List.getElem?_map] at hu
        rcases hx : (sortI l)[j]? with _ | x
        · rw [hx] at hu; cases hu
        · rw [hx] at hu
          have hjl := (List.getElem?_eq_some_iff.1 hx).1
          rw [putCells_get, if_pos (by omega), if_pos ⟨by omega, by simp; omega⟩, Nat.add_sub_cancel_left]
          simp only [Option.map_some, Option.some.injEq] at hu
          rw [← hu]
          congr 2
          have : (sortI l)[j] = x := by
            rw [List.getElem?_eq_getElem hjl] at hx
            exact Option.some.inj hx
          simp [hjl, this]
  · cases hr
end Go.Pv
