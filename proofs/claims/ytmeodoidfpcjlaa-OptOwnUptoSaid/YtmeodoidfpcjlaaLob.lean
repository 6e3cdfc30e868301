/- Plain law of Opt: behind leaving out the list is good; its bytes; the left-out. -/
import Derived.Test.YtmeodoidfpcjlaaLoa
set_option linter.unusedVariables false
set_option linter.unusedSimpArgs false
namespace Go.Proofs.Ytmeodoidfpcjlaa
open Go Go.RowKit Go.Pv

/-! ### Sums -/
def sumR (w : Nat → Nat) : Nat → Nat
  | 0 => 0
  | k + 1 => sumR w k + w k
theorem sumR_congr {w v : Nat → Nat} : ∀ {n : Nat}, (∀ j, j < n → w j = v j) → sumR w n = sumR v n
  | 0, _ => rfl
  | n + 1, h => by simp only [sumR]; rw [sumR_congr (n := n) (fun j hj => h j (by omega)), h n (by omega)]
theorem sumR_le {w v : Nat → Nat} : ∀ {n : Nat}, (∀ j, j < n → w j ≤ v j) → sumR w n ≤ sumR v n
  | 0, _ => Nat.le_refl _
  | n + 1, h => by
    simp only [sumR]
    exact Nat.add_le_add (sumR_le (n := n) (fun j hj => h j (by omega))) (h n (by omega))
theorem sumR_lt {w v : Nat → Nat} : ∀ {n : Nat}, (∀ j, j < n → w j ≤ v j) → (∃ j, j < n ∧ w j < v j) → sumR w n < sumR v n
  | 0, _, ⟨j, hj, _⟩ => absurd hj (by omega)
  | n + 1, h, ⟨j, hj, hl⟩ => by
    simp only [sumR]
    have h1 := h n (by omega)
    by_cases e : j = n
    · subst e
      have := sumR_le (n := j) (fun j hj => h j (by omega))
      omega
    · have := sumR_lt (n := n) (fun j hj => h j (by omega)) ⟨j, by omega, hl⟩
      omega
def bytes (p : List Is) : Nat := (p.map fun x => siz x.op).sum
def wt (next : List Is) (g : Nat → Bool) (i : Nat) : Nat := if g i = true then 0 else match next[i]? with | some x => siz x.op | none => 0
theorem fm_sum {β : Type} (f : Nat → Option β) (s : β → Nat) : ∀ n, (((List.range n).filterMap f).map s).sum = sumR (fun i => match f i with | some x => s x | none => 0) n
  | 0 => rfl
  | n + 1 => by
    rw [List.range_succ, List.filterMap_append, List.map_append, List.sum_append, fm_sum f s n]
    simp only [sumR]
    congr 1
    rw [List.filterMap_cons]
    cases f n <;> simp
theorem mv_op (g : Nat → Bool) (x : Is) : (mv g x).op = x.op := by unfold mv; split <;> rfl
theorem mv_a (g : Nat → Bool) (x : Is) : (mv g x).a = x.a := by unfold mv; split <;> rfl
theorem mv_b (g : Nat → Bool) (x : Is) : (mv g x).b = x.b := by unfold mv; split <;> rfl
theorem bytes_lft (next : List Is) (out : List Bool) : bytes (lft next out) = sumR (wt next (goes out)) next.length := by
  unfold bytes lft
  rw [fm_sum]
  apply sumR_congr
  intro j hj
  unfold pickP wt
  cases goes out j
  · rw [if_neg (by simp), if_neg (by simp)]
    cases next[j]? with
    | none => rfl
    | some x => exact congrArg siz (mv_op _ _)
  · rw [if_pos rfl, if_pos rfl]
theorem fm_get {α : Type} (l : List α) : ∀ n, n ≤ l.length → (List.range n).filterMap (fun i => l[i]?) = l.take n
  | 0, _ => by simp
  | n + 1, h => by
    rw [List.range_succ, List.filterMap_append, fm_get l n (by omega), List.take_add_one]
    congr 1
theorem bytes_range (p : List Is) : bytes p = sumR (wt p (fun _ => false)) p.length := by
  unfold bytes
  conv => lhs; rw [← List.take_length (l := p), ← fm_get p p.length (Nat.le_refl _)]
  rw [fm_sum]
  apply sumR_congr
  intro j _
  unfold wt
  rw [if_neg (by simp)]
  cases p[j]? <;> rfl
theorem fm_len {β : Type} (f : Nat → Option β) (g : Nat → Bool) : ∀ n, (∀ i, i < n → (f i).isSome = !g i) → ((List.range n).filterMap f).length = cnt g n
  | 0, _ => rfl
  | n + 1, h => by
    rw [List.range_succ, List.filterMap_append, List.length_append, fm_len f g n (fun i hi => h i (by omega))]
    simp only [cnt]
    congr 1
    have := h n (by omega)
    rw [List.filterMap_cons]
    cases hf : f n <;> rw [hf] at this <;> cases hg : g n <;> rw [hg] at this <;> simp at this ⊢
theorem len_lft (next : List Is) (out : List Bool) : (lft next out).length = cnt (goes out) next.length := by
  unfold lft
  apply fm_len
  intro i hi
  obtain ⟨x, hx⟩ := get_of hi
  unfold pickP
  rw [hx]
  cases goes out i <;> rfl
theorem lft_all (next : List Is) (out : List Bool) (h : ∀ j, j < next.length → goes out j = false) (ht : ∀ x ∈ next, x.to < next.length) : lft next out = next := by
  unfold lft
  conv => rhs; rw [← List.take_length (l := next), ← fm_get next next.length (Nat.le_refl _)]
  apply fm_congr
  intro i hi
  rw [List.mem_range] at hi
  obtain ⟨x, hx⟩ := get_of hi
  unfold pickP
  rw [h i hi, if_neg (by simp), hx, Option.map_some]
  congr 1
  unfold mv
  split
  · rename_i h0
    have := ht x (List.mem_of_getElem? hx)
    rw [cnt_all _ _ (fun j hj => h j (by omega)), Int.toNat_of_nonneg h0]
  · rfl
theorem fm_last {β : Type} (f : Nat → Option β) : ∀ n, (∃ j, j < n ∧ (f j).isSome = true) → ∃ j y, j < n ∧ f j = some y ∧ (∀ k, j < k → k < n → f k = none) ∧ ((List.range n).filterMap f).getLast? = some y
  | 0, ⟨j, hj, _⟩ => absurd hj (by omega)
  | n + 1, ⟨j, hj, hf⟩ => by
    rw [List.range_succ, List.filterMap_append, List.filterMap_cons]
    cases hn : f n with
    | some y =>
      exact ⟨n, y, by omega, hn, fun k h1 h2 => absurd h1 (by omega), by simp⟩
    | none =>
      have hjn : j ≠ n := fun e => by rw [e, hn] at hf; cases hf
      obtain ⟨i, y, h1, h2, h3, h4⟩ := fm_last f n ⟨j, by omega, hf⟩
      refine ⟨i, y, by omega, h2, fun k hk1 hk2 => ?_, by simpa using h4⟩
      by_cases e : k = n
      · rw [e]; exact hn
      · exact h3 k hk1 (by omega)

/-! ### What stays is good -/
structure Keep (next : List Is) (g : Nat → Bool) : Prop where
  ok : ∀ i x, next[i]? = some x → g i = false → okPl next.length x ∧ (jmp x.op = true → ∃ j, x.to ≤ (j : Nat) ∧ j < next.length ∧ g j = false) ∧ (endz x.op = false → ∃ j, i < j ∧ j < next.length ∧ g j = false)
  some : ∃ j, j < next.length ∧ g j = false
theorem okI_of {n : Nat} {x : It} (h : okPl n (abs x)) (hz : jmp x.in_.Op = false → x.to = 0) : okIt n x := ⟨h, hz⟩
theorem left_good (l : List It) (next : List Is) (out : List Bool) (hn : next.length ≤ 600) (h : Rel l next out) (hk : Keep next (goes out)) :
    ∃ l', opt_left l = some l' ∧ provisoref19_left next out = some (l'.map abs) ∧ l'.map abs = lft next out ∧ Good l' := by
  obtain ⟨l', h1, h2, h3, h4⟩ := opt_left_law l next out hn h
  have hlen : l'.length = cnt (goes out) next.length := by rw [← len_lft, ← h3, List.length_map]
  have hle : l'.length ≤ 600 := by rw [hlen]; exact Nat.le_trans (cnt_le _ _) hn
  refine ⟨l', h1, h2, h3, hle, ?_, ?_⟩
  · intro x hx
    refine ⟨⟨?_, (h4 x hx).2⟩, (h4 x hx).1⟩
    have hm : abs x ∈ lft next out := by rw [← h3]; exact List.mem_map_of_mem hx
    unfold lft at hm
    rw [List.mem_filterMap] at hm
    obtain ⟨i, hi, hp⟩ := hm
    rw [List.mem_range] at hi
    obtain ⟨y, hy⟩ := get_of hi
    unfold pickP at hp
    cases hg : goes out i
    · rw [hg, if_neg (by simp), hy, Option.map_some] at hp
      have e := (Option.some.inj hp).symm
      obtain ⟨k1, k2, k3⟩ := hk.ok i y hy hg
      rw [e]
      refine ⟨by rw [mv_op]; exact k1.op, by rw [mv_op, mv_a]; exact k1.fa, by rw [mv_op, mv_b]; exact k1.fb, ?_, ?_⟩
      · rw [mv_op, mv_a]
        intro hj
        obtain ⟨j, hj1, hj2, hj3⟩ := k2 hj
        have ht := k1.tj hj
        refine ⟨?_, ?_, ht.2.2⟩
        · unfold mv; rw [if_pos ht.1]; exact Int.natCast_nonneg _
        · unfold mv; rw [if_pos ht.1, hlen]
          have := cnt_lt (goes out) (i := y.to.toNat) (j := j) (k := next.length) (by omega) hj2 hj3
          exact Int.ofNat_lt.mpr this
      · rw [mv_op]
        intro hj
        have := k1.tn hj
        unfold mv
        rw [if_neg (by omega)]
        exact this
    · rw [hg, if_pos rfl] at hp; cases hp
  · obtain ⟨j0, hj0, hg0⟩ := hk.some
    obtain ⟨i, y, i1, i2, i3, i4⟩ := fm_last (pickP next (goes out)) next.length ⟨j0, hj0, by
      obtain ⟨x, hx⟩ := get_of hj0
      unfold pickP
      rw [hg0, if_neg (by simp), hx]; rfl⟩
    have i5 : (l'.map abs).getLast? = Option.some y := by rw [h3]; exact i4
    rw [List.getLast?_map] at i5
    cases hl : l'.getLast? with
    | none => rw [hl] at i5; cases i5
    | some x =>
      rw [hl, Option.map_some] at i5
      refine ⟨x, by rw [← List.getLast?_eq_getElem?]; exact hl, ?_⟩
      rw [← abs_op, Option.some.inj i5]
      obtain ⟨z, hz⟩ := get_of i1
      unfold pickP at i2
      cases hg : goes out i
      · rw [hg, if_neg (by simp), hz, Option.map_some] at i2
        rw [← Option.some.inj i2, mv_op]
        cases he : endz z.op
        · obtain ⟨k, k1, k2, k3⟩ := (hk.ok i z hz hg).2.2 he
          have := i3 k k1 k2
          obtain ⟨u, hu⟩ := get_of k2
          unfold pickP at this
          rw [k3, if_neg (by simp), hu] at this
          cases this
        · rfl
      · rw [hg, if_pos rfl] at i2; cases i2
theorem bytes_map (l : List It) : bytes (l.map abs) = (l.map fun x => siz x.in_.Op).sum := by
  unfold bytes
  rw [List.map_map]
  congr 1
  apply List.map_congr_left
  intro x _
  show siz (abs x).op = _
  rw [abs_op]
theorem siz_pos {op : UInt8} (h : op.toNat < 34) : 1 ≤ siz op := by unfold siz; rw [if_neg (by omega)]; omega
end Go.Proofs.Ytmeodoidfpcjlaa
