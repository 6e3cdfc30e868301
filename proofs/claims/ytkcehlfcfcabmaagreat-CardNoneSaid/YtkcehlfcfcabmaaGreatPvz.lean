/- Maps of strings that hold nothing: keys, sorted keys. -/
import Derived.Test.YtkcehlfcfcabmaaGreatPvm
import Derived.Shelf.SlIter.Nil
import Derived.Shelf.SlIter.Sorted
import Derived.Shelf.Sort.Plain
import Derived.Shelf.Slices.In.SortNone
set_option linter.unusedVariables false
set_option linter.unusedSimpArgs false
namespace Go.Pv
open Go Go.RowKit Go.Maps Go.Shelf Go.Proofs
theorem keysS_own {P : Program} {ρ : Ren} (L : SlLaysZ.n7 P ρ) {w : World} {g : Nat} :
    Calls P (ρ.f 7) #[.map (some g)] w (Ret fun u w' => ∃ k, u = clo (ρ.f 10) [.pointer (some ⟨k, 0, none⟩)] ∧ SL w [] w' [Blk k (ρ.t 23) [.map (some g)]]) :=
  (callsIn_wide (n := 6)).1 ((AnyZ.keys_in L Fence.wide 6 trivial rfl (some g) w).mono fun e w' ⟨he, hw⟩ => ⟨_, he, w.heap.size, rfl, by
    subst hw
    exact ⟨Fm.alloc w [] _, [w.heap.size], Star.one (p := Blk _ _ _) ⟨rfl, heap_alloc_new w _⟩, fun k hk => .inr (by simp only [List.mem_singleton] at hk; omega)⟩⟩)
theorem sortedS_none {P : Program} {ρ6 ρ7 ρs : Ren} (L6 : SlLaysZ.n6 P ρ6) (L7 : SlLaysZ.n7 P ρ7) (Ls : Lays.n190 P ρs) (e9 : ρ6.f 9 = ρs.f 190) {κ ν : Type} {ek : κ → Value} {ev_ : ν → Value} {w : World} {FF : List Nat} {g kb : Nat}
    (h8 : fnB P (ρ6.f 8) = true) (h9 : fnB P (ρ6.f 9) = true) (h10 : fnB P (ρ7.f 10) = true)
    (hst : Star [Mp ek ev_ g ([] : List (κ × ν)), Blk kb (ρ7.t 23) [.map (some g)]] w FF) :
    Calls P (ρ6.f 6) #[clo (ρ7.f 10) [.pointer (some ⟨kb, 0, none⟩)]] w (Ret fun u w' => u = .slice none 0 0 ∧ SL w FF w' [Mp ek ev_ g ([] : List (κ × ν))]) := by
  obtain ⟨F1, F2, eF, ⟨e1, es, clock, hm⟩, ⟨F3, F4, eF2, ⟨e3, hkb⟩, e4, _⟩, hd⟩ := hst
  have hgl := heap_lt hm.heap
  have hkl := heap_lt hkb
  have hnil : es.toList = [] := by
    have := congrArg List.length hm.map
    rw [List.length_map, List.length_map] at this
    exact List.eq_nil_of_length_eq_zero this
  have hesz : es.size = 0 := by rw [← Array.length_toList, hnil]; rfl
  let R : Value → Option (DataW Unit × List MemPlace) := fun _ => some (.lit (.bool true), [])
  have hown : w.ownsMap P (ρ7.t 26) R g 0 (.map []) := by
    refine ⟨es, clock, hm.heap, ⟨?_, ⟨hm.lt, hm.born.imp (fun h => by omega), ?_⟩, ?_⟩, by omega, ?_⟩
    · unfold maxLen; omega
    · rw [hnil]; exact List.Pairwise.nil
    · intro x hx; rw [hnil] at hx; cases hx
    · rw [hnil]; rfl
  have hcell : w.cell? ⟨kb, 0, none⟩ = some (.map (some g)) := by simp [World.cell?, hkb]
  have hseq := AnyZ.keys_gives (ρ := ρ7) { L7 with } Fence.wide 2 trivial rfl (by omega) kb g 0 _ w hkl hcell hown
  have hsorts : AnyZ.SortsIn P ρ6 Fence.wide 4 := ⟨fun blk off cap ss W hH hblk hsz => callsIn_wide.2 (by rw [e9]; exact Any.slices_Sort_string Ls blk off cap ss W hH hblk hsz),
    fun p cap W => callsIn_wide.2 (by rw [e9]; exact Any.slices_Sort_string_none Ls p cap W)⟩
  have hsizeD : Maps.size (DataW.map [] : DataW Unit) = 0 := rfl
  have cS := AnyZ.sorted_in L6 Fence.wide 5 trivial trivial trivial trivial rfl (by omega) hsorts (fun args w => run_callFunc h9 args) (ρ7.f 10) #[.pointer (some ⟨kb, 0, none⟩)] trivial (fun args w => run_callFunc h10 args) _ _ (by rw [hsizeD]; unfold maxLen; omega) (by rw [hsizeD]; omega) w hseq
  refine ((callsIn_wide (n := 5)).1 cS).mono fun _ w' ⟨v, ss, he, hss, hrow, hnil2, hb⟩ => ⟨v, he, ?_⟩
  have hss0 : ss = [] := by
    have := hss.length_eq
    exact List.eq_nil_of_length_eq_zero this
  refine ⟨hnil2.2 hss0, ?_⟩
  have hfm : Fm w FF w' := ⟨hb.os, hb.tape, hb.output, hb.size, fun k hk _ => hb.block k hk⟩
  refine SL.mk hfm ?_
  have hmp : (Mp ek ev_ g ([] : List (κ × ν))).P w' [g] := ⟨rfl, es, clock, ⟨by rw [hb.block g hgl]; exact hm.heap, hm.map, hm.born, hm.lt, hm.nodup⟩⟩
  refine ⟨[g], Star.one hmp, fun k hk => .inl ?_⟩
  rw [eF, e1]
  simp only [List.mem_singleton] at hk
  simp [hk]
end Go.Pv
