/- Plain law of Opt: laid out; addresses; what comes next. -/
import Derived.Test.YtmeodoidfpcjlaaLoh
set_option linter.unusedVariables false
set_option linter.unusedSimpArgs false
namespace Go.Proofs.Ytmeodoidfpcjlaa
open Go Go.RowKit Go.Pv

def sz (l : List It) (j : Nat) : Nat := match l[j]? with | some x => siz x.in_.Op | none => 0
/-- The address of a place. -/
def ad (l : List It) (i : Nat) : Nat := sumR (sz l) i
theorem sz_at {l : List It} {j : Nat} {x : It} (h : l[j]? = some x) : sz l j = siz x.in_.Op := by unfold sz; rw [h]
theorem ad_succ {l : List It} {i : Nat} {x : It} (h : l[i]? = some x) : ad l (i + 1) = ad l i + siz x.in_.Op := by
  show sumR _ i + sz l i = _
  rw [sz_at h]
  rfl
theorem siz_le (op : UInt8) : siz op ≤ 5 := by
  have := wid_le op
  unfold siz
  split
  · omega
  · have h1 := wid_le op
    unfold wid at *
    repeat' split
    all_goals simp
theorem ad_le (l : List It) : ∀ i, ad l i ≤ 5 * i
  | 0 => Nat.le_refl _
  | i + 1 => by
    have ih := ad_le l i
    show sumR _ i + sz l i ≤ _
    have : sz l i ≤ 5 := by
      unfold sz
      split
      · exact siz_le _
      · omega
    unfold ad at ih
    omega
theorem ad_lt {l : List It} (h : Good l) {i j : Nat} (hij : i < j) (hj : j ≤ l.length) : ad l i < ad l j := by
  induction j with
  | zero => omega
  | succ j ih =>
    obtain ⟨x, hx⟩ := get_of (l := l) (i := j) (by omega)
    rw [ad_succ hx]
    have := h.siz hx
    by_cases e : i = j
    · subst e; omega
    · have := ih (by omega) (by omega); omega
theorem ad_inj {l : List It} (h : Good l) {i j : Nat} (hi : i ≤ l.length) (hj : j ≤ l.length) (e : ad l i = ad l j) : i = j := by
  rcases Nat.lt_trichotomy i j with h1 | h1 | h1
  · have := ad_lt h h1 hj; omega
  · exact h1
  · have := ad_lt h h1 hi; omega
def lay (l : List It) (i : Nat) (x : It) : S_api_Instr := ⟨(ad l i : Int), x.in_.Op, if jmp x.in_.Op = true then (ad l x.to.toNat : Int) else x.in_.A, x.in_.B⟩
theorem size_code (op : UInt8) : code_Size op = some (siz op : Int) := by rw [size_eq, size_law]
theorem laid_law (l : List It) (h : Good l) : ∃ r, opt_laid l = some r ∧ r.length = l.length ∧ ∀ i x, l[i]? = some x → r[i]? = some (lay l i x) := by
  have hle := h.le
  unfold opt_laid
  obtain ⟨o, o1, o2, o3⟩ := loop_inv l.length (body := opt_laid_b0 l) (fun i s => s.1.length = i ∧ s.2.1 = (ad l i : Int) ∧ s.2.2 = (i : Int) ∧ ∀ (j : Nat) x, j < i → l[j]? = some x → s.1[j]? = some (⟨(ad l j : Int), x.in_.Op, x.in_.A, x.in_.B⟩ : S_api_Instr))
    (Post := fun r => r.length = l.length ∧ ∀ (j : Nat) x, l[j]? = some x → r[j]? = some (⟨(ad l j : Int), x.in_.Op, x.in_.A, x.in_.B⟩ : S_api_Instr)) (fun i s hi hs => by
    obtain ⟨acc, a, k⟩ := s
    obtain ⟨a1, a2, a3, a4⟩ := hs
    dsimp only at a1 a2 a3 a4
    subst a2; subst a3
    obtain ⟨x, hx⟩ := get_of hi
    have hal := ad_le l i
    have hsl := siz_le x.in_.Op
    unfold opt_laid_b0
    have cL : decide ((i : Int) < (l.length : Int)) = true := decide_eq_true (by omega)
    simp only [cL, if_true, idxs hx, Option.bind_some, wr1 (show i < 4611686018427387904 by omega), size_code]
    rw [app_ok (by simp; omega), Option.bind_some, wr_id (by omega) (by omega)]
    refine ⟨_, rfl, by simp [a1], ?_, rfl, fun j y hj hy => ?_⟩
    · show (ad l i : Int) + (siz x.in_.Op : Int) = (ad l (i + 1) : Int)
      rw [ad_succ hx]
      omega
    · dsimp only
      by_cases e : j = i
      · subst e
        rw [hx] at hy; cases hy
        rw [List.getElem?_append_right (by omega), a1]; simp
      · rw [List.getElem?_append_left (by omega)]
        exact a4 j y (by omega) hy) (fun s hs => by
    obtain ⟨acc, a, k⟩ := s
    obtain ⟨a1, a2, a3, a4⟩ := hs
    dsimp only at a1 a2 a3 a4
    subst a2; subst a3
    refine ⟨acc, ?_, a1, fun j x hx => a4 j x (get_lt hx) hx⟩
    unfold opt_laid_b0
    rw [if_neg (by simp)]) (s := ([], 0, 0)) ⟨rfl, rfl, rfl, fun j x hj => absurd hj (by omega)⟩
  rw [o1, Option.bind_some]
  obtain ⟨r, r1, r2, r3⟩ := loop_inv l.length (body := opt_laid_b1 l) (fun i s => s.1.length = l.length ∧ s.2 = (i : Int) ∧ ∀ (j : Nat) x, l[j]? = some x → s.1[j]? = some (⟨(ad l j : Int), x.in_.Op, if j < i ∧ jmp x.in_.Op = true then (ad l x.to.toNat : Int) else x.in_.A, x.in_.B⟩ : S_api_Instr))
    (Post := fun r => r.length = l.length ∧ ∀ (j : Nat) x, l[j]? = some x → r[j]? = some (lay l j x)) (fun i s hi hs => by
    obtain ⟨out, k⟩ := s
    obtain ⟨a1, a2, a3⟩ := hs
    dsimp only at a1 a2 a3
    subst a2
    obtain ⟨x, hx⟩ := get_of hi
    have hxo := a3 i x hx
    unfold opt_laid_b1
    have cL : decide ((i : Int) < (l.length : Int)) = true := decide_eq_true (by omega)
    simp only [cL, if_true, idxs hx, Option.bind_some, wr1 (show i < 4611686018427387904 by omega), jumps_code]
    cases hj : jmp x.in_.Op
    · simp only [Bool.false_eq_true, if_false]
      refine ⟨_, rfl, a1, rfl, fun j y hy => ?_⟩
      dsimp only
      rw [a3 j y hy]
      by_cases e : j = i
      · subst e
        rw [hx] at hy; cases hy
        simp [hj]
      · have : (j < i) ↔ (j < i + 1) := by omega
        simp only [this]
    · have hto := (h.at_ hx).1.j hj
      obtain ⟨y, hy⟩ := get_of (l := l) (i := x.to.toNat) (by omega)
      simp only [if_true, idxz hto.1 (a3 _ y hy), Option.bind_some, idxs hxo, Int.toNat_natCast]
      refine ⟨_, rfl, by simpa using a1, rfl, fun j z hz => ?_⟩
      dsimp only
      by_cases e : j = i
      · subst e
        rw [hx] at hz; cases hz
        rw [set_at (by omega), if_pos ⟨by omega, hj⟩]
      · have : (j < i) ↔ (j < i + 1) := by omega
        rw [set_ne j e, a3 j z hz]
        simp only [this]) (fun s hs => by
    obtain ⟨out, k⟩ := s
    obtain ⟨a1, a2, a3⟩ := hs
    dsimp only at a1 a2 a3
    subst a2
    refine ⟨out, ?_, a1, fun j x hx => ?_⟩
    · unfold opt_laid_b1
      rw [if_neg (by simp)]
    · have hj := get_lt hx
      rw [a3 j x hx]
      unfold lay
      simp only [hj, true_and]) (s := (o, 0)) ⟨o2, rfl, fun j x hx => by rw [o3 j x hx]; simp⟩
  rw [r1, Option.bind_some]
  exact ⟨r, rfl, r2, r3⟩
/-- The places of the addresses. -/
theorem addr_law (l : List It) (h : Good l) (r : List S_api_Instr) (hr : r.length = l.length) (hrl : ∀ i x, l[i]? = some x → r[i]? = some (lay l i x)) :
    ∃ m, flow_addresses r = some m ∧ (∀ i, i < l.length → mget m (ad l i : Int) = some (i : Int)) := by
  have hle := h.le
  unfold flow_addresses
  obtain ⟨m, m1, m2⟩ := loop_inv l.length (body := flow_addresses_b0 r) (fun i s => s.2 = (i : Int) ∧ ∀ j, j < l.length → mget s.1 (ad l j : Int) = if j < i then some (j : Int) else none)
    (Post := fun m => ∀ i, i < l.length → mget m (ad l i : Int) = some (i : Int)) (fun i s hi hs => by
    obtain ⟨m, k⟩ := s
    obtain ⟨a1, a2⟩ := hs
    dsimp only at a1 a2
    subst a1
    obtain ⟨x, hx⟩ := get_of hi
    unfold flow_addresses_b0
    have cL : decide ((i : Int) < (r.length : Int)) = true := decide_eq_true (by omega)
    have e0 : (lay l i x).At = (ad l i : Int) := rfl
    have e1 := a2 i hi
    rw [if_neg (by omega)] at e1
    simp only [cL, if_true, idxs (hrl i x hx), Option.bind_some, e0, e1, Option.isSome_none, Bool.not_false, wr1 (show i < 4611686018427387904 by omega)]
    refine ⟨_, rfl, rfl, fun j hj => ?_⟩
    dsimp only
    rw [mget_mset, a2 j hj]
    by_cases e : j = i
    · subst e; rw [if_pos rfl, if_pos (by omega)]
    · have : ¬ ((ad l j : Int) = (ad l i : Int)) := fun hc => e (ad_inj h (by omega) (by omega) (by omega))
      rw [if_neg this]
      have : (j < i) ↔ (j < i + 1) := by omega
      simp only [this]) (fun s hs => by
    obtain ⟨m, k⟩ := s
    obtain ⟨a1, a2⟩ := hs
    dsimp only at a1 a2
    subst a1
    refine ⟨m, ?_, fun i hi => by rw [a2 i hi, if_pos hi]⟩
    unfold flow_addresses_b0
    rw [if_neg (by simp; omega)]) (s := (([] : List (Int × Int)), 0)) ⟨rfl, fun j _ => by rw [if_neg (by omega)]; rfl⟩
  rw [m1, Option.bind_some]
  exact ⟨m, rfl, m2⟩
/-- The places behind a place. -/
def sc (l : List It) (i : Nat) : List Nat := match l[i]? with | some x => (if jmp x.in_.Op = true then [x.to.toNat] else []) ++ (if endz x.in_.Op = true then [] else [i + 1]) | none => []
theorem sc_lt {l : List It} (h : Good l) {i j : Nat} (hj : j ∈ sc l i) : j < l.length := by
  unfold sc at hj
  cases hx : l[i]? with
  | none => rw [hx] at hj; cases hj
  | some x =>
    rw [hx] at hj
    dsimp only at hj
    rw [List.mem_append] at hj
    rcases hj with hj | hj
    · cases hc : jmp x.in_.Op
      · rw [hc, if_neg (by simp)] at hj; cases hj
      · rw [hc, if_pos rfl, List.mem_singleton] at hj
        have := (h.at_ hx).1.j hc
        omega
    · cases hc : endz x.in_.Op
      · rw [hc, if_neg (by simp), List.mem_singleton] at hj
        have := not_last h hx hc
        omega
      · rw [hc, if_pos rfl] at hj; cases hj
theorem mem_sortI (l : List Int) (a : Int) : a ∈ sortI l ↔ a ∈ l := by unfold sortI; exact (List.mergeSort_perm _ _).mem_iff
theorem len_sortI (l : List Int) : (sortI l).length = l.length := by unfold sortI; exact (List.mergeSort_perm _ _).length_eq
theorem rising_law (m : List (Int × Int)) (h : m.length ≤ 1000000) : flow_rising_int m = some (sortI (m.map Prod.fst)) := by unfold flow_rising_int; rw [if_pos (Nat.le_trans h (by decide))]
theorem next_law (l : List It) (h : Good l) (i : Nat) (x : It) (hx : l[i]? = some x) : ∃ r, flow_Next (lay l i x) = some r ∧ r.length ≤ 2 ∧ ∀ a : Int, a ∈ r ↔ ∃ j ∈ sc l i, a = (ad l j : Int) := by
  have hle := h.le
  have hi := get_lt hx
  have hal := ad_le l i
  have hsz := h.siz hx
  have hsl := siz_le x.in_.Op
  have hsc : sc l i = (if jmp x.in_.Op = true then [x.to.toNat] else []) ++ (if endz x.in_.Op = true then [] else [i + 1]) := by unfold sc; rw [hx]
  have e1 : (lay l i x).Op = x.in_.Op := rfl
  have e2 : (lay l i x).At = (ad l i : Int) := rfl
  have hpl : flow_placed (⟨(lay l i x).At, (lay l i x).Op, (lay l i x).A, (lay l i x).B⟩ : S_api_Instr) = some true := by
    unfold flow_placed
    dsimp only
    have c4 : decide ((ad l i : Int) < 4096) = true := decide_eq_true (by omega)
    rw [e2, if_pos (decide_eq_true (by omega)), c4]
  have hz : ((siz x.in_.Op : Int) == 0) = false := by rw [beq_eq_false_iff_ne]; omega
  have ew : wr ((ad l i : Int) + (siz x.in_.Op : Int)) = (ad l (i + 1) : Int) := by rw [wr_id (by omega) (by omega), ad_succ hx]; omega
  unfold flow_Next
  simp only [e1, e2, size_code, Option.bind_some, hz, Bool.false_eq_true, if_false, ends_code, jumps_code]
  rw [show (⟨(ad l i : Int), x.in_.Op, (lay l i x).A, (lay l i x).B⟩ : S_api_Instr) = ⟨(lay l i x).At, (lay l i x).Op, (lay l i x).A, (lay l i x).B⟩ from rfl, hpl, Option.bind_some]
  simp only [Bool.not_true, Bool.false_eq_true, if_false, ew, hsc]
  cases hj : jmp x.in_.Op
  · cases he : endz x.in_.Op
    · simp only [Bool.not_false, if_true, Bool.false_eq_true, if_false]
      rw [rising_law _ (by simp [mset]), Option.bind_some]
      refine ⟨_, rfl, by rw [len_sortI]; simp [mset], fun a => ?_⟩
      rw [mem_sortI]
      simp [mset]
    · simp only [Bool.not_true, if_true, Bool.false_eq_true, if_false]
      rw [rising_law _ (by simp), Option.bind_some]
      refine ⟨_, rfl, by rw [len_sortI]; simp, fun a => ?_⟩
      rw [mem_sortI]
      simp
  · have hto := (h.at_ hx).1.j hj
    have e3 : (lay l i x).A = (ad l x.to.toNat : Int) := by unfold lay; rw [hj]; rfl
    rw [e3]
    cases he : endz x.in_.Op
    · simp only [Bool.not_false, if_true, Bool.false_eq_true, if_false]
      have em : mset (mset ([] : List (Int × Int)) (ad l (i + 1) : Int) 1) (ad l x.to.toNat : Int) 1 = if (ad l x.to.toNat : Int) = (ad l (i + 1) : Int) then [((ad l x.to.toNat : Int), 1)] else [((ad l (i + 1) : Int), 1), ((ad l x.to.toNat : Int), 1)] := by
        simp only [mset]
      rw [em]
      by_cases c : (ad l x.to.toNat : Int) = (ad l (i + 1) : Int)
      · rw [if_pos c, rising_law _ (by simp), Option.bind_some]
        refine ⟨_, rfl, by rw [len_sortI]; simp, fun a => ?_⟩
        rw [mem_sortI]
        simp only [List.map_cons, List.map_nil, List.mem_singleton, List.mem_append, List.cons_append, List.nil_append, List.mem_cons]
        constructor
        · rintro (rfl | hc)
          · exact ⟨x.to.toNat, .inl rfl, rfl⟩
          · cases hc
        · rintro ⟨j, (rfl | rfl | hc), rfl⟩
          · exact .inl rfl
          · exact .inl c.symm
          · cases hc
      · rw [if_neg c, rising_law _ (by simp), Option.bind_some]
        refine ⟨_, rfl, by rw [len_sortI]; simp, fun a => ?_⟩
        rw [mem_sortI]
        simp only [List.map_cons, List.map_nil, List.mem_singleton, List.mem_append, List.cons_append, List.nil_append, List.mem_cons]
        constructor
        · rintro (rfl | rfl | hc)
          · exact ⟨i + 1, .inr (.inl rfl), rfl⟩
          · exact ⟨x.to.toNat, .inl rfl, rfl⟩
          · cases hc
        · rintro ⟨j, (rfl | rfl | hc), rfl⟩
          · exact .inr (.inl rfl)
          · exact .inl rfl
          · cases hc
    · simp only [Bool.not_true, if_true, Bool.false_eq_true, if_false]
      rw [rising_law _ (by simp [mset]), Option.bind_some]
      refine ⟨_, rfl, by rw [len_sortI]; simp [mset], fun a => ?_⟩
      rw [mem_sortI]
      simp [mset]
end Go.Proofs.Ytmeodoidfpcjlaa
