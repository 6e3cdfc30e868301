/- Plain law of Opt: what is kept; the two ways to leave out. -/
import Derived.Test.YtmeodoidfpcjlaaLja
set_option linter.unusedVariables false
set_option linter.unusedSimpArgs false
namespace Go.Proofs.Ytmeodoidfpcjlaa
open Go Go.RowKit Go.Pv

/-! ### Loops with a measure -/
theorem loopM {S R : Type} {body : S → Option (S ⊕ R)} (m : S → Nat) (I : S → Prop) {Post : R → Prop} (h : ∀ s, I s → (∃ s', body s = some (.inl s') ∧ I s' ∧ m s' < m s) ∨ ∃ r, body s = some (.inr r) ∧ Post r) {s : S} (h0 : I s) : ∃ r, loopO body s = some r ∧ Post r := by
  have key : ∀ k s, m s = k → I s → ∃ r, loopO body s = some r ∧ Post r := by
    intro k
    induction k using Nat.strongRecOn with
    | _ k ih =>
      intro s hk hs
      rcases h s hs with ⟨s', h1, h2, h3⟩ | ⟨r, h1, h2⟩
      · rw [loopO_step h1]
        exact ih _ (hk ▸ h3) s' rfl h2
      · exact ⟨r, loopO_stop h1, h2⟩
  exact key _ s rfl h0
theorem loopM2 {S1 S2 R1 R2 : Type} {b1 : S1 → Option (S1 ⊕ R1)} {b2 : S2 → Option (S2 ⊕ R2)} (m : S1 → Nat) (I : S1 → S2 → Prop) {Post : R1 → R2 → Prop}
    (h : ∀ s1 s2, I s1 s2 → (∃ s1' s2', b1 s1 = some (.inl s1') ∧ b2 s2 = some (.inl s2') ∧ I s1' s2' ∧ m s1' < m s1) ∨ ∃ r1 r2, b1 s1 = some (.inr r1) ∧ b2 s2 = some (.inr r2) ∧ Post r1 r2) {s1 : S1} {s2 : S2} (h0 : I s1 s2) : ∃ r1 r2, loopO b1 s1 = some r1 ∧ loopO b2 s2 = some r2 ∧ Post r1 r2 := by
  have key : ∀ k s1 s2, m s1 = k → I s1 s2 → ∃ r1 r2, loopO b1 s1 = some r1 ∧ loopO b2 s2 = some r2 ∧ Post r1 r2 := by
    intro k
    induction k using Nat.strongRecOn with
    | _ k ih =>
      intro s1 s2 hk hs
      rcases h s1 s2 hs with ⟨s1', s2', h1, h2, h3, h4⟩ | ⟨r1, r2, h1, h2, h3⟩
      · rw [loopO_step h1, loopO_step h2]
        exact ih _ (hk ▸ h4) s1' s2' rfl h3
      · exact ⟨r1, r2, loopO_stop h1, loopO_stop h2, h3⟩
  exact key _ s1 s2 rfl h0
/-- A loop that makes a list of some of the places. -/
theorem loop_fm {β : Type} (n : Nat) (f : Nat → Option β) {body : List β × Int → Option ((List β × Int) ⊕ List β)} (hs : ∀ i, i < n → ∀ acc : List β, acc.length ≤ i → body (acc, (i : Int)) = some (.inl (acc ++ (f i).toList, ((i + 1 : Nat) : Int)))) (he : ∀ acc, body (acc, (n : Int)) = some (.inr acc)) :
    loopO body ([], 0) = some ((List.range n).filterMap f) := by
  refine loop_at n (fun i => ((List.range i).filterMap f, (i : Int))) (fun i hi => ?_) (he _) (by simp)
  rw [hs i hi _ (Nat.le_trans (List.length_filterMap_le _ _) (by simp)), List.range_succ, List.filterMap_append]
  congr 3
theorem fm_congr {α β : Type} {f g : α → Option β} : ∀ {l : List α}, (∀ x ∈ l, f x = g x) → l.filterMap f = l.filterMap g
  | [], _ => rfl
  | x :: l, h => by
    rw [List.filterMap_cons, List.filterMap_cons, h x List.mem_cons_self, fm_congr (l := l) (fun y hy => h y (List.mem_cons_of_mem _ hy))]
theorem mk_ok {α : Type} {by_ : Nat} {k : Nat} (x0 : α) (h : by_ * k ≤ 281474976710656) (h2 : k ≤ 1000000000) : mkO by_ (k : Int) x0 = some (List.replicate k x0) := by
  unfold mkO
  rw [if_pos ⟨by omega, by rw [← Int.natCast_mul]; omega, by omega⟩, Int.toNat_natCast]
theorem get_lt {α : Type} {l : List α} {i : Nat} {x : α} (h : l[i]? = some x) : i < l.length := by
  rw [List.getElem?_eq_some_iff] at h
  exact h.1
theorem get_of {α : Type} {l : List α} {i : Nat} (h : i < l.length) : ∃ x, l[i]? = some x := ⟨_, List.getElem?_eq_getElem h⟩
theorem idxs {α : Type} {l : List α} {i : Nat} {x : α} (h : l[i]? = some x) : idx l (i : Int) = some x := by rw [idx_nat, h]
theorem idxz {α : Type} {l : List α} {i : Int} {x : α} (h0 : 0 ≤ i) (h : l[i.toNat]? = some x) : idx l i = some x := by unfold idx; rw [if_pos h0, h]

/-! ### Instructions -/
abbrev It := S_opt_item
abbrev Is := S_provisoref19_ins
def jmp (op : UInt8) : Bool := op.toNat == 19 || op.toNat == 20
def endz (op : UInt8) : Bool := op.toNat == 19 || op.toNat == 22 || op.toNat == 32
theorem beq_nat (a b : Nat) : ((a : Int) == (b : Int)) = (a == b) := by
  rw [Bool.eq_iff_iff, beq_iff_eq, beq_iff_eq, Int.natCast_inj]
theorem jumps_code (op : UInt8) : code_Jumps op = some (jmp op) := by
  unfold code_Jumps jmp
  have e1 : ((op.toNat : Int) == 19) = (op.toNat == 19) := beq_nat _ 19
  have e2 : ((op.toNat : Int) == 20) = (op.toNat == 20) := beq_nat _ 20
  rw [e1, e2]
  cases (op.toNat == 19) <;> simp
theorem jumps_ref (op : UInt8) : provisoref04_Jumps op = some (jmp op) := by
  unfold provisoref04_Jumps jmp
  have e1 : ((op.toNat : Int) == 19) = (op.toNat == 19) := beq_nat _ 19
  have e2 : ((op.toNat : Int) == 20) = (op.toNat == 20) := beq_nat _ 20
  rw [e1, e2]
  cases (op.toNat == 19) <;> simp
theorem ends_code (op : UInt8) : code_Ends op = some (endz op) := by
  unfold code_Ends endz
  have e1 : ((op.toNat : Int) == 19) = (op.toNat == 19) := beq_nat _ 19
  have e2 : ((op.toNat : Int) == 22) = (op.toNat == 22) := beq_nat _ 22
  have e3 : ((op.toNat : Int) == 32) = (op.toNat == 32) := beq_nat _ 32
  rw [e1, e2, e3]
  cases (op.toNat == 19) <;> cases (op.toNat == 22) <;> simp
theorem ends_ref (op : UInt8) : provisoref04_Ends op = some (endz op) := by
  unfold provisoref04_Ends endz
  have e1 : ((op.toNat : Int) == 19) = (op.toNat == 19) := beq_nat _ 19
  have e2 : ((op.toNat : Int) == 22) = (op.toNat == 22) := beq_nat _ 22
  have e3 : ((op.toNat : Int) == 32) = (op.toNat == 32) := beq_nat _ 32
  rw [e1, e2, e3]
  cases (op.toNat == 19) <;> cases (op.toNat == 22) <;> simp
def abs (x : It) : Is := if jmp x.in_.Op = true then ⟨x.in_.Op, 0, x.in_.B, x.to⟩ else ⟨x.in_.Op, x.in_.A, x.in_.B, -1⟩
theorem abs_op (x : It) : (abs x).op = x.in_.Op := by unfold abs; split <;> rfl
theorem abs_b (x : It) : (abs x).b = x.in_.B := by unfold abs; split <;> rfl
theorem abs_j {x : It} (h : jmp x.in_.Op = true) : abs x = ⟨x.in_.Op, 0, x.in_.B, x.to⟩ := by unfold abs; rw [if_pos h]
theorem abs_n {x : It} (h : jmp x.in_.Op = false) : abs x = ⟨x.in_.Op, x.in_.A, x.in_.B, -1⟩ := by unfold abs; rw [if_neg (by simp [h])]
/-- An operand that may be. -/
def fit (op : UInt8) (w : Nat) (v : Int) : Prop := (w = 0 ∧ v = 0) ∨ (w = 1 ∧ 0 ≤ v ∧ v ≤ 255 ∧ (op.toNat = 2 → v ≤ 1)) ∨ (w = 2 ∧ 0 ≤ v ∧ v ≤ 65535) ∨ (w = 4 ∧ -2147483648 ≤ v ∧ v ≤ 2147483647)
/-- An instruction that may be, in a list of n. -/
structure okPl (n : Nat) (x : Is) : Prop where
  op : x.op.toNat < 34
  fa : fit x.op (wid x.op).1 x.a
  fb : fit x.op (wid x.op).2 x.b
  tj : jmp x.op = true → 0 ≤ x.to ∧ x.to < n ∧ x.a = 0
  tn : jmp x.op = false → x.to = -1
theorem okPl.neg {n : Nat} {x : Is} (h : okPl n x) : (x.to ≥ 0) ↔ jmp x.op = true := by
  cases hj : jmp x.op
  · have := h.tn hj; simp; omega
  · have := h.tj hj; simp; omega
theorem okPl.lt {n : Nat} {x : Is} (h : okPl n x) : x.to < n := by
  cases hj : jmp x.op
  · have := h.tn hj; omega
  · have := h.tj hj; omega
/-- Of a place that stays. -/
structure okIt (n : Nat) (x : It) : Prop where
  p : okPl n (abs x)
  z : jmp x.in_.Op = false → x.to = 0
theorem okIt.j {n : Nat} {x : It} (h : okIt n x) (hj : jmp x.in_.Op = true) : 0 ≤ x.to ∧ x.to < n := by
  have := h.p.tj (by rw [abs_op]; exact hj)
  rw [abs_j hj] at this
  exact ⟨this.1, this.2.1⟩
theorem okIt.to {n : Nat} {x : It} (h : okIt n x) : 0 ≤ x.to ∧ x.to ≤ n := by
  cases hj : jmp x.in_.Op
  · have := h.z hj; omega
  · have := h.j hj; omega
structure Good (l : List It) : Prop where
  le : l.length ≤ 600
  ok : ∀ x ∈ l, okIt l.length x ∧ x.gone = false
  last : ∃ x, l[l.length - 1]? = some x ∧ endz x.in_.Op = true
theorem Good.pos {l : List It} (h : Good l) : 0 < l.length := by
  obtain ⟨x, hx, _⟩ := h.last
  have := get_lt hx
  omega
theorem Good.at_ {l : List It} (h : Good l) {i : Nat} {x : It} (hx : l[i]? = some x) : okIt l.length x ∧ x.gone = false := h.ok x (List.mem_of_getElem? hx)

/-! ### Counting -/
def cnt (g : Nat → Bool) : Nat → Nat
  | 0 => 0
  | k + 1 => cnt g k + if g k = true then 0 else 1
theorem cnt_le (g : Nat → Bool) : ∀ k, cnt g k ≤ k
  | 0 => Nat.le_refl _
  | k + 1 => by
    have := cnt_le g k
    simp only [cnt]
    split <;> omega
theorem cnt_mono (g : Nat → Bool) {i : Nat} : ∀ {k : Nat}, i ≤ k → cnt g i ≤ cnt g k
  | 0, h => by have : i = 0 := by omega
               subst this; exact Nat.le_refl _
  | k + 1, h => by
    by_cases e : i = k + 1
    · subst e; exact Nat.le_refl _
    · exact Nat.le_trans (cnt_mono g (k := k) (by omega)) (by simp only [cnt]; omega)
theorem cnt_lt (g : Nat → Bool) {i j k : Nat} (h1 : i ≤ j) (h2 : j < k) (h : g j = false) : cnt g i < cnt g k := by
  have h3 := cnt_mono g h1
  have h4 : cnt g (j + 1) ≤ cnt g k := cnt_mono g (by omega)
  simp only [cnt, h] at h4
  simp at h4
  omega
theorem cnt_all (g : Nat → Bool) : ∀ k, (∀ j, j < k → g j = false) → cnt g k = k
  | 0, h => rfl
  | k + 1, h => by
    simp only [cnt]
    rw [cnt_all g k (fun j hj => h j (by omega)), h k (by omega)]
    rfl
/-- Whether a place goes out. -/
def goes (out : List Bool) (i : Nat) : Bool := (out[i]?).getD false
def mv (g : Nat → Bool) (x : Is) : Is := if 0 ≤ x.to then ⟨x.op, x.a, x.b, (cnt g x.to.toNat : Int)⟩ else x
def pickP (next : List Is) (g : Nat → Bool) (i : Nat) : Option Is := if g i = true then none else (next[i]?).map (mv g)
/-- What stays. -/
def lft (next : List Is) (out : List Bool) : List Is := (List.range next.length).filterMap (pickP next (goes out))
/-- The places of what stays. -/
theorem now_loop {n : Nat} (g : Nat → Bool) {now0 : List Int} (hl : n ≤ now0.length) {body : List Int × Int × Int → Option ((List Int × Int × Int) ⊕ (List Int × Int))}
    (hs : ∀ (i : Nat) (now : List Int), i < n → now.length = now0.length → body (now, (cnt g i : Int), (i : Int)) = some (.inl (now.set i (cnt g i : Int), (cnt g (i + 1) : Int), ((i + 1 : Nat) : Int))))
    (he : ∀ now, body (now, (cnt g n : Int), (n : Int)) = some (.inr (now, (cnt g n : Int)))) : ∃ r, loopO body (now0, 0, 0) = some r ∧ r.2 = (cnt g n : Int) ∧ r.1.length = now0.length ∧ ∀ j, j < n → r.1[j]? = some (cnt g j : Int) := by
  refine loop_inv n (fun i s => s.2.1 = (cnt g i : Int) ∧ s.2.2 = (i : Int) ∧ s.1.length = now0.length ∧ ∀ j, j < i → s.1[j]? = some (cnt g j : Int)) ?_ ?_ ⟨rfl, rfl, rfl, fun j hj => absurd hj (by omega)⟩
  · rintro i ⟨now, c, k⟩ hi ⟨rfl, rfl, h1, h2⟩
    dsimp only at h1 h2
    refine ⟨_, hs i now hi h1, rfl, rfl, by simpa using h1, fun j hj => ?_⟩
    dsimp only
    rw [List.getElem?_set]
    by_cases e : i = j
    · subst e; rw [if_pos rfl, if_pos (by omega)]
    · rw [if_neg e]; exact h2 j (by omega)
  · rintro ⟨now, c, k⟩ ⟨rfl, rfl, h1, h2⟩
    exact ⟨_, he now, rfl, h1, h2⟩
theorem now_loop' {n : Nat} (g : Nat → Bool) {now0 : List Int} (hl : n ≤ now0.length) {body : List Int × Int × Int → Option ((List Int × Int × Int) ⊕ List Int)}
    (hs : ∀ (i : Nat) (now : List Int), i < n → now.length = now0.length → body (now, (cnt g i : Int), (i : Int)) = some (.inl (now.set i (cnt g i : Int), (cnt g (i + 1) : Int), ((i + 1 : Nat) : Int))))
    (he : ∀ now, body (now, (cnt g n : Int), (n : Int)) = some (.inr now)) : ∃ r, loopO body (now0, 0, 0) = some r ∧ r.length = now0.length ∧ ∀ j, j < n → r[j]? = some (cnt g j : Int) := by
  refine loop_inv n (fun i s => s.2.1 = (cnt g i : Int) ∧ s.2.2 = (i : Int) ∧ s.1.length = now0.length ∧ ∀ j, j < i → s.1[j]? = some (cnt g j : Int)) ?_ ?_ ⟨rfl, rfl, rfl, fun j hj => absurd hj (by omega)⟩
  · rintro i ⟨now, c, k⟩ hi ⟨rfl, rfl, h1, h2⟩
    dsimp only at h1 h2
    refine ⟨_, hs i now hi h1, rfl, rfl, by simpa using h1, fun j hj => ?_⟩
    dsimp only
    rw [List.getElem?_set]
    by_cases e : i = j
    · subst e; rw [if_pos rfl, if_pos (by omega)]
    · rw [if_neg e]; exact h2 j (by omega)
  · rintro ⟨now, c, k⟩ ⟨rfl, rfl, h1, h2⟩
    exact ⟨_, he now, h1, h2⟩
theorem ref_left_law (next : List Is) (out : List Bool) (hn : next.length ≤ 600) (ho : out.length = next.length) (ht : ∀ x ∈ next, x.to < next.length) : provisoref19_left next out = some (lft next out) := by
  unfold provisoref19_left
  rw [mk_ok _ (by omega) (by omega), Option.bind_some]
  obtain ⟨now, h1, h2, h3⟩ := now_loop' (n := next.length) (goes out) (now0 := List.replicate next.length 0) (by simp) (body := provisoref19_left_b0 next out) (fun i now hi hl => by
    obtain ⟨b, hb⟩ := get_of (l := out) (i := i) (by omega)
    obtain ⟨y, hy⟩ := get_of (l := now) (i := i) (by rw [hl]; simpa using hi)
    have hc := cnt_le (goes out) i
    unfold provisoref19_left_b0
    dsimp only
    rw [if_pos (by simpa using hi), idxs hy, Option.bind_some, idxs hb, Option.bind_some, wr1 (by omega), Int.toNat_natCast, wr1 (by omega)]
    have hg : goes out i = b := by unfold goes; rw [hb]; rfl
    simp only [cnt, hg]
    cases b <;> simp) (fun now => by
    unfold provisoref19_left_b0
    dsimp only
    rw [if_neg (by simp)])
  rw [h1, Option.bind_some, loop_fm next.length (pickP next (goes out)) (fun i hi acc ha => by
    obtain ⟨x, hx⟩ := get_of hi
    obtain ⟨b, hb⟩ := get_of (l := out) (i := i) (by omega)
    have hg : goes out i = b := by unfold goes; rw [hb]; rfl
    have htx := ht x (List.mem_of_getElem? hx)
    unfold provisoref19_left_b1
    dsimp only
    rw [if_pos (by simpa using hi), idxs hx, Option.bind_some, wr1 (by omega)]
    unfold pickP mv
    rw [hx, hg]
    by_cases h0 : 0 ≤ x.to
    · have c0 : decide (x.to ≥ 0) = true := decide_eq_true h0
      rw [if_pos c0, idxz h0 (h3 _ (by omega)), Option.bind_some, idxs hb, Option.bind_some]
      cases b
      · rw [if_pos (by simp), app_ok (by simp; omega), Option.bind_some]
        simp [h0]
      · rw [if_neg (by simp)]
        simp
    · have c0 : ¬ decide (x.to ≥ 0) = true := fun hc => h0 (of_decide_eq_true hc)
      rw [if_neg c0, idxs hb, Option.bind_some]
      cases b
      · rw [if_pos (by simp), app_ok (by simp; omega), Option.bind_some]
        simp [h0]
      · rw [if_neg (by simp)]
        simp) (fun acc => by
    unfold provisoref19_left_b1
    dsimp only
    rw [if_neg (by simp)]), Option.bind_some]
  rfl
/-- How the two hold what is to go out. -/
structure Rel (l : List It) (next : List Is) (out : List Bool) : Prop where
  ln : l.length = next.length
  lo : out.length = next.length
  at_ : ∀ (i : Nat) (x : It), l[i]? = some x → out[i]? = some x.gone ∧ (x.gone = false → next[i]? = some (abs x) ∧ okIt next.length x)
  lt : ∀ x ∈ next, x.to < next.length
def mvI (g : Nat → Bool) (x : It) : It := ⟨x.in_, (cnt g x.to.toNat : Int), x.gone⟩
def pickI (l : List It) (i : Nat) : Option It := (l[i]?).bind fun x => if x.gone = true then none else some (mvI (fun j => match l[j]? with | some y => y.gone | none => false) x)
theorem opt_left_law (l : List It) (next : List Is) (out : List Bool) (hn : next.length ≤ 600) (h : Rel l next out) : ∃ l', opt_left l = some l' ∧ provisoref19_left next out = some (l'.map abs) ∧ l'.map abs = lft next out ∧ ∀ x ∈ l', x.gone = false ∧ (jmp x.in_.Op = false → x.to = 0) := by
  have hln := h.ln
  have hg : (fun j => match l[j]? with | some y => y.gone | none => false) = goes out := by
    funext j
    unfold goes
    cases hj : l[j]? with
    | none =>
      dsimp only
      rw [List.getElem?_eq_none_iff] at hj
      rw [List.getElem?_eq_none (by rw [h.lo]; omega)]; rfl
    | some y => rw [(h.at_ j y hj).1]; rfl
  refine ⟨(List.range l.length).filterMap (pickI l), ?_, ?_⟩
  · unfold opt_left
    rw [wr1 (by omega), mk_ok _ (by omega) (by omega), Option.bind_some]
    obtain ⟨now, h1, h2, h3, h4⟩ := now_loop (n := l.length) (goes out) (now0 := List.replicate (l.length + 1) 0) (by simp) (body := opt_left_b0 l) (fun i now hi hl => by
      obtain ⟨x, hx⟩ := get_of (l := l) (i := i) hi
      obtain ⟨y, hy⟩ := get_of (l := now) (i := i) (by rw [hl, List.length_replicate]; omega)
      have hc := cnt_le (goes out) i
      unfold opt_left_b0
      dsimp only
      rw [if_pos (by simpa using hi), idxs hx, Option.bind_some, idxs hy, Option.bind_some, wr1 (by omega), Int.toNat_natCast, wr1 (by omega)]
      have hg' : goes out i = x.gone := by unfold goes; rw [(h.at_ i x hx).1]; rfl
      simp only [cnt, hg']
      cases x.gone <;> simp) (fun now => by
      unfold opt_left_b0
      dsimp only
      rw [if_neg (by simp)])
    obtain ⟨y, hy⟩ := get_of (l := now.1) (i := l.length) (by rw [h3, List.length_replicate]; omega)
    rw [h1, Option.bind_some, idxs hy, Option.bind_some, loop_fm l.length (pickI l) (fun i hi acc ha => by
      obtain ⟨x, hx⟩ := get_of hi
      unfold opt_left_b1
      dsimp only
      rw [if_pos (by simpa using hi), idxs hx, Option.bind_some, wr1 (by omega)]
      unfold pickI
      rw [hx, Option.bind_some, hg]
      cases hgo : x.gone
      · have ho := ((h.at_ i x hx).2 hgo).2.to
        rw [if_neg (by simp), Int.toNat_natCast, idxz ho.1 (x := (cnt (goes out) x.to.toNat : Int)) (by
          rw [List.getElem?_set]
          by_cases e : l.length = x.to.toNat
          · rw [if_pos e, if_pos (by rw [h3, List.length_replicate]; omega), h2, e]
          · rw [if_neg e]; exact h4 _ (by omega)), Option.bind_some, app_ok (by simp; omega), Option.bind_some]
        simp [mvI]
        exact hgo
      · rw [if_pos rfl]
        simp) (fun acc => by
      unfold opt_left_b1
      dsimp only
      rw [if_neg (by simp)]), Option.bind_some]
  · have e : ((List.range l.length).filterMap (pickI l)).map abs = lft next out := by
      unfold lft
      rw [List.map_filterMap, hln]
      apply fm_congr
      intro i hi
      rw [List.mem_range] at hi
      obtain ⟨x, hx⟩ := get_of (l := l) (i := i) (by omega)
      have hgo : goes out i = x.gone := by unfold goes; rw [(h.at_ i x hx).1]; rfl
      unfold pickI pickP
      rw [hx, hg, hgo, Option.bind_some]
      cases hgx : x.gone
      · obtain ⟨a1, a2⟩ := (h.at_ i x hx).2 hgx
        rw [a1, if_neg (by simp), if_neg (by simp), Option.map_some, Option.map_some]
        congr 1
        unfold mv mvI
        cases hj : jmp x.in_.Op
        · rw [abs_n hj, abs_n (x := (⟨x.in_, (cnt (goes out) x.to.toNat : Int), x.gone⟩ : It)) hj, if_neg (by simp)]
        · have := a2.j hj
          rw [abs_j hj, abs_j (x := (⟨x.in_, (cnt (goes out) x.to.toNat : Int), x.gone⟩ : It)) hj, if_pos this.1]
      · rw [if_pos rfl, if_pos rfl]; rfl
    refine ⟨?_, e, ?_⟩
    · rw [e, ref_left_law next out hn h.lo h.lt]
    · intro x hx
      rw [List.mem_filterMap] at hx
      obtain ⟨i, _, hi⟩ := hx
      unfold pickI at hi
      cases hy : l[i]? with
      | none => rw [hy] at hi; cases hi
      | some y =>
        rw [hy, Option.bind_some] at hi
        cases hgy : y.gone
        · rw [hgy, if_neg (by simp)] at hi
          cases hi
          refine ⟨hgy, fun hj => ?_⟩
          have hz := ((h.at_ i y hy).2 hgy).2.z hj
          unfold mvI
          dsimp only
          rw [hz]
          rfl
        · rw [hgy, if_pos rfl] at hi; cases hi
end Go.Proofs.Ytmeodoidfpcjlaa
