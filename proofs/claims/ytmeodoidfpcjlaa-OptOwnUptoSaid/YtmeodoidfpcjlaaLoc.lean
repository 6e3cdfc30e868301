/- Plain law of Opt: rules that turn a list where it lies; what is empty. -/
import Derived.Test.YtmeodoidfpcjlaaLob
set_option linter.unusedVariables false
set_option linter.unusedSimpArgs false
namespace Go.Proofs.Ytmeodoidfpcjlaa
open Go Go.RowKit Go.Pv

/-! ### Two hold the same -/
def At (N : Nat) (l : List It) (out : List Bool) (next : List Is) (j : Nat) : Prop :=
  ∃ x y, l[j]? = some x ∧ next[j]? = some y ∧ out[j]? = some x.gone ∧ y.to < N ∧ (x.gone = false → y = abs x ∧ okIt N x)
def Un (l0 l : List It) (out : List Bool) (next : List Is) (j : Nat) : Prop :=
  ∃ x, l0[j]? = some x ∧ l[j]? = some x ∧ next[j]? = some (abs x) ∧ out[j]? = some false
structure Inv (l0 l : List It) (out : List Bool) (next : List Is) (i : Nat) (k : Int) : Prop where
  g : Good l0
  ll : l.length = l0.length
  lo : out.length = l0.length
  ln : next.length = l0.length
  at_ : ∀ j, j < l0.length → At l0.length l out next j
  un : ∀ j, j < l0.length → (i ≤ j ∨ l0.length ≤ j + 1) → Un l0 l out next j
  w : (sumR (wt next (goes out)) i : Int) + k ≤ (sumR (wt (l0.map abs) (fun _ => false)) i : Int)
theorem goes_some {out : List Bool} {i : Nat} {b : Bool} (h : out[i]? = some b) : goes out i = b := by unfold goes; rw [h]; rfl
theorem un_at {l0 l : List It} {out : List Bool} {next : List Is} (h : Good l0) {j : Nat} (hu : Un l0 l out next j) : At l0.length l out next j := by
  obtain ⟨x, h0, h1, h2, h3⟩ := hu
  obtain ⟨a, b⟩ := h.at_ h0
  refine ⟨x, abs x, h1, h2, by rw [b]; exact h3, a.p.lt, fun _ => ⟨rfl, a⟩⟩
theorem wt0 {l0 : List It} {j : Nat} {x : It} (h : l0[j]? = some x) : wt (l0.map abs) (fun _ => false) j = siz x.in_.Op := by
  unfold wt
  rw [if_neg (by simp), List.getElem?_map, h, Option.map_some]
  show siz (abs x).op = _
  rw [abs_op]
theorem Inv.init {l0 : List It} (h : Good l0) : Inv l0 l0 (List.replicate l0.length false) (l0.map abs) 0 0 := by
  have hu : ∀ j, j < l0.length → Un l0 l0 (List.replicate l0.length false) (l0.map abs) j := by
    intro j hj
    obtain ⟨x, hx⟩ := get_of hj
    exact ⟨x, hx, hx, by rw [List.getElem?_map, hx]; rfl, by rw [List.getElem?_replicate, if_pos hj]⟩
  exact ⟨h, rfl, by simp, by simp, fun j hj => un_at h (hu j hj), fun j hj _ => hu j hj, Int.le_refl _⟩
theorem wt_same {next next' : List Is} {out out' : List Bool} {j : Nat} (h1 : next'[j]? = next[j]?) (h2 : out'[j]? = out[j]?) : wt next' (goes out') j = wt next (goes out) j := by
  unfold wt goes
  rw [h1, h2]
/-- One place on. -/
theorem Inv.step {l0 l l' : List It} {out out' : List Bool} {next next' : List Is} {i : Nat} {k : Int} (h : Inv l0 l out next i k) (k' : Int) (h1 : i + 1 < l0.length) (hl : l'.length = l.length) (ho : out'.length = out.length) (hn : next'.length = next.length)
    (el : ∀ j, j ≠ i → l'[j]? = l[j]?) (eo : ∀ j, j ≠ i → out'[j]? = out[j]?) (en : ∀ j, j ≠ i → next'[j]? = next[j]?) (ha : At l0.length l' out' next' i) {x0 : It} (hx0 : l0[i]? = some x0) (hw : (wt next' (goes out') i : Int) + k' ≤ (siz x0.in_.Op : Int) + k) : Inv l0 l' out' next' (i + 1) k' := by
  refine ⟨h.g, by rw [hl, h.ll], by rw [ho, h.lo], by rw [hn, h.ln], fun j hj => ?_, fun j hj hd => ?_, ?_⟩
  · by_cases e : j = i
    · subst e; exact ha
    · obtain ⟨x, y, a1, a2, a3, a4⟩ := h.at_ j hj
      exact ⟨x, y, by rw [el j e]; exact a1, by rw [en j e]; exact a2, by rw [eo j e]; exact a3, a4⟩
  · obtain ⟨x, a0, a1, a2, a3⟩ := h.un j hj (by omega)
    have e : j ≠ i := by omega
    exact ⟨x, a0, by rw [el j e]; exact a1, by rw [en j e]; exact a2, by rw [eo j e]; exact a3⟩
  · have hs : sumR (wt next' (goes out')) i = sumR (wt next (goes out)) i := sumR_congr (fun j hj => wt_same (en j (by omega)) (eo j (by omega)))
    have := h.w
    simp only [sumR]
    rw [hs, wt0 hx0]
    omega
/-- One place on: as it was. -/
theorem Inv.skip {l0 l : List It} {out : List Bool} {next : List Is} {i : Nat} {k : Int} (h : Inv l0 l out next i k) (h1 : i < l0.length) : Inv l0 l out next (i + 1) k := by
  refine ⟨h.g, h.ll, h.lo, h.ln, h.at_, fun j hj hd => h.un j hj (by omega), ?_⟩
  obtain ⟨x, a0, a1, a2, a3⟩ := h.un i h1 (.inl (Nat.le_refl _))
  have := h.w
  simp only [sumR]
  rw [wt0 a0]
  have e : wt next (goes out) i = siz x.in_.Op := by
    unfold wt
    rw [goes_some a3, if_neg (by simp), a2]
    show siz (abs x).op = _
    rw [abs_op]
  omega
theorem Inv.skips {l0 l : List It} {out : List Bool} {next : List Is} {i : Nat} {k : Int} (h : Inv l0 l out next i k) : ∀ n, i + n ≤ l0.length → Inv l0 l out next (i + n) k
  | 0, _ => h
  | n + 1, hn => (h.skips n (by omega)).skip (by omega)
theorem Inv.done {l0 l : List It} {out : List Bool} {next : List Is} {k : Int} (h : Inv l0 l out next l0.length k) :
    ∃ l', opt_left l = some l' ∧ provisoref19_left next out = some (l'.map abs) ∧ Good l' ∧ l'.length ≤ l0.length ∧ (bytes (l'.map abs) : Int) + k ≤ (bytes (l0.map abs) : Int) ∧ l'.map abs = lft next out := by
  have hg := h.g
  have hpos := hg.pos
  obtain ⟨xl, b0, b1, b2, b3⟩ := h.un (l0.length - 1) (by omega) (.inr (by omega))
  obtain ⟨l', h1, h2, h3, h4⟩ := left_good l next out (by rw [h.ln]; exact hg.le) ⟨by rw [h.ll, h.ln], by rw [h.lo, h.ln], fun i x hx => by
    have hi := get_lt hx
    obtain ⟨x', y, a1, a2, a3, a4, a5⟩ := h.at_ i (by rw [← h.ll]; exact hi)
    rw [hx] at a1
    cases a1
    refine ⟨a3, fun hgo => ?_⟩
    obtain ⟨e1, e2⟩ := a5 hgo
    rw [h.ln]
    exact ⟨by rw [a2, e1], e2⟩, fun y hy => by
    obtain ⟨i, hi⟩ := List.getElem?_of_mem hy
    obtain ⟨x, y', a1, a2, a3, a4, a5⟩ := h.at_ i (by rw [← h.ln]; exact get_lt hi)
    rw [hi] at a2
    cases a2
    rw [h.ln]
    exact a4⟩ ⟨fun i y hy hgo => by
    obtain ⟨x, y', a1, a2, a3, a4, a5⟩ := h.at_ i (by rw [← h.ln]; exact get_lt hy)
    rw [hy] at a2
    cases a2
    have hgx : x.gone = false := by rw [← goes_some a3]; exact hgo
    obtain ⟨e1, e2⟩ := a5 hgx
    have hil := get_lt hy
    rw [h.ln] at hil
    rw [h.ln, e1]
    refine ⟨e2.p, fun hj => ⟨l0.length - 1, ?_, by omega, goes_some b3⟩, fun he => ⟨l0.length - 1, ?_, by omega, goes_some b3⟩⟩
    · have := e2.p.tj hj; omega
    · by_cases e : i = l0.length - 1
      · exfalso
        subst e
        rw [b1] at a1
        cases a1
        obtain ⟨z, hz, hze⟩ := hg.last
        rw [b0] at hz
        cases hz
        rw [abs_op, hze] at he
        cases he
      · omega, l0.length - 1, by rw [h.ln]; omega, goes_some b3⟩
  refine ⟨l', h1, h2, h4, ?_, ?_, h3⟩
  · have : (l'.map abs).length = cnt (goes out) next.length := by rw [h3, len_lft]
    rw [List.length_map] at this
    rw [this, ← h.ln]
    exact cnt_le _ _
  · rw [h3, bytes_lft, bytes_range, h.ln, List.length_map]
    exact h.w
/-- What nothing was done to. -/
theorem lft_same {l0 : List It} (h : Good l0) : lft (l0.map abs) (List.replicate l0.length false) = l0.map abs := by
  apply lft_all
  · intro j hj
    rw [List.length_map] at hj
    exact goes_some (by rw [List.getElem?_replicate, if_pos hj])
  · intro x hx
    rw [List.mem_map] at hx
    obtain ⟨y, hy, rfl⟩ := hx
    rw [List.length_map]
    exact (h.ok y hy).1.p.lt
theorem set_ne {α : Type} {l : List α} {i : Nat} {x : α} (j : Nat) (h : j ≠ i) : (l.set i x)[j]? = l[j]? := by rw [List.getElem?_set, if_neg (fun e => h e.symm)]
theorem set_at {α : Type} {l : List α} {i : Nat} {x : α} (h : i < l.length) : (l.set i x)[i]? = some x := by rw [List.getElem?_set, if_pos rfl, if_pos h]

/-! ### What a rule does -/
def RuleOK (l : List It) (ro : Option (List It × Bool)) (rr : Option (List Is)) : Prop :=
  ∃ l' did, ro = some (l', did) ∧ rr = some (l'.map abs) ∧ Good l' ∧ l'.length ≤ l.length ∧ bytes (l'.map abs) + (if did = true then 1 else 0) ≤ bytes (l.map abs) ∧ (did = false → l'.map abs = l.map abs)

theorem op_eq (a n : Nat) : (((a : Int) == (n : Int)) = true) ↔ a = n := by rw [beq_nat, beq_iff_eq]
theorem empty_law (l0 : List It) (h : Good l0) : RuleOK l0 (opt_empty l0) (provisoref19_idle (l0.map abs)) := by
  have hle := h.le
  have hpos := h.pos
  unfold opt_empty provisoref19_idle
  rw [List.length_map, mk_ok _ (by omega) (by omega), Option.bind_some, app_ok (by simp; omega), Option.bind_some, List.nil_append]
  obtain ⟨r1, r2, e1, e2, hp⟩ := loopM2 (b1 := opt_empty_b0 l0) (b2 := provisoref19_idle_b0 (l0.map abs)) (fun s => l0.length - s.2.2.toNat)
    (fun s1 s2 => ∃ (i : Nat) (k : Int), 0 ≤ k ∧ s1.2.2 = (i : Int) ∧ s2.2.2 = (i : Int) ∧ i ≤ l0.length ∧ Inv l0 s1.1 s2.1 s2.2.1 i k ∧ (s1.2.1 = true → 1 ≤ k) ∧ (s1.2.1 = false → s2.1 = List.replicate l0.length false ∧ s2.2.1 = l0.map abs))
    (Post := fun r1 r2 => ∃ k : Int, 0 ≤ k ∧ Inv l0 r1.1 r2.1 r2.2 l0.length k ∧ (r1.2 = true → 1 ≤ k) ∧ (r1.2 = false → r2.1 = List.replicate l0.length false ∧ r2.2 = l0.map abs)) (fun s1 s2 hs => by
    obtain ⟨l, did, i1⟩ := s1
    obtain ⟨out, next, i2⟩ := s2
    obtain ⟨i, k, a0, a1, a2, a3, a4, a5, a6⟩ := hs
    dsimp only at a1 a2 a4 a5 a6
    subst a1; subst a2
    by_cases hi : i < l0.length
    · left
      obtain ⟨x, u0, u1, u2, u3⟩ := a4.un i hi (.inl (Nat.le_refl _))
      have hu0 : (l0.map abs)[i]? = some (abs x) := by rw [List.getElem?_map, u0]; rfl
      obtain ⟨hx, hgx⟩ := h.at_ u0
      have hll := a4.ll
      have hlo := a4.lo
      have hln := a4.ln
      unfold opt_empty_b0 provisoref19_idle_b0
      dsimp only
      have cL : decide ((i : Int) < ((l0.map abs).length : Int)) = true := by rw [List.length_map]; exact decide_eq_true (by omega)
      have cL' : decide ((i : Int) < (l0.length : Int)) = true := decide_eq_true (by omega)
      rw [if_pos cL, if_pos cL', idxs hu0, wr1 (by omega)]
      simp only [idxs u1, idxs u2, idxs u3, Option.bind_some, abs_op, Int.toNat_natCast]
      have lst : i + 1 = l0.length → endz x.in_.Op = true := by
        intro e
        obtain ⟨z, hz, hze⟩ := h.last
        rw [show l0.length - 1 = i by omega, u0] at hz
        cases hz
        exact hze
      -- three ways
      have gone_case : ∀ (hi1 : i + 1 < l0.length), Inv l0 (l.set i ⟨x.in_, x.to, true⟩) (out.set i true) next (i + 1) (k + 1) := fun hi1 =>
        a4.step (k + 1) hi1 (by simp) (by simp) rfl (fun j hj => set_ne j hj) (fun j hj => set_ne j hj) (fun _ _ => rfl)
          ⟨⟨x.in_, x.to, true⟩, abs x, set_at (by omega), u2, set_at (by omega), hx.p.lt, fun hc => absurd hc (by simp)⟩ u0 (by
            have : wt next (goes (out.set i true)) i = 0 := by
              unfold wt
              rw [goes_some (set_at (by omega)), if_pos rfl]
            rw [this]
            have := siz_pos (op := x.in_.Op) (by have := hx.p.op; rwa [abs_op] at this)
            omega)
      have c0 : ((x.in_.Op.toNat : Int) == 0) = (x.in_.Op.toNat == 0) := beq_nat _ 0
      have c19 : ((x.in_.Op.toNat : Int) == 19) = (x.in_.Op.toNat == 19) := beq_nat _ 19
      have c20 : ((x.in_.Op.toNat : Int) == 20) = (x.in_.Op.toNat == 20) := beq_nat _ 20
      rw [c0, c19, c20]
      by_cases h0 : x.in_.Op.toNat = 0
      · have d0 : (x.in_.Op.toNat == 0) = true := by simp [h0]
        have hi1 : i + 1 < l0.length := by
          by_cases e : i + 1 = l0.length
          · have := lst e
            unfold endz at this
            rw [h0] at this
            simp at this
          · omega
        simp only [d0, if_true, Option.bind_some]
        refine ⟨_, _, rfl, rfl, ⟨i + 1, k + 1, by omega, rfl, rfl, by omega, gone_case hi1, fun _ => by omega, fun hc => absurd hc (by simp)⟩, ?_⟩
        dsimp only
        omega
      · have d0 : (x.in_.Op.toNat == 0) = false := by simp [h0]
        by_cases h19 : x.in_.Op.toNat = 19
        · have d19 : (x.in_.Op.toNat == 19) = true := by simp [h19]
          have d20 : (x.in_.Op.toNat == 20) = false := by simp [h19]
          have hj : jmp x.in_.Op = true := by unfold jmp; rw [d19]; rfl
          rw [abs_j hj]
          dsimp only
          by_cases ht : x.to = ((i + 1 : Nat) : Int)
          · have dt : (x.to == ((i + 1 : Nat) : Int)) = true := by simp [ht]
            have hi1 : i + 1 < l0.length := by have := (hx.j hj).2; omega
            simp only [d0, d19, d20, dt, if_true, if_false, Bool.false_eq_true, Option.bind_some]
            refine ⟨_, _, rfl, rfl, ⟨i + 1, k + 1, by omega, rfl, rfl, by omega, gone_case hi1, fun _ => by omega, fun hc => absurd hc (by simp)⟩, ?_⟩
            dsimp only
            omega
          · have dt : (x.to == ((i + 1 : Nat) : Int)) = false := by rw [beq_eq_false_iff_ne]; exact ht
            simp only [d0, d19, d20, dt, if_true, if_false, Bool.false_eq_true, Option.bind_some]
            refine ⟨_, _, rfl, rfl, ⟨i + 1, k, a0, rfl, rfl, by omega, a4.skip hi, a5, a6⟩, ?_⟩
            dsimp only
            omega
        · have d19 : (x.in_.Op.toNat == 19) = false := by simp [h19]
          by_cases h20 : x.in_.Op.toNat = 20
          · have d20 : (x.in_.Op.toNat == 20) = true := by simp [h20]
            have hj : jmp x.in_.Op = true := by unfold jmp; rw [d20]; simp
            rw [abs_j hj]
            dsimp only
            by_cases ht : x.to = ((i + 1 : Nat) : Int)
            · have dt : (x.to == ((i + 1 : Nat) : Int)) = true := by simp [ht]
              have hi1 : i + 1 < l0.length := by have := (hx.j hj).2; omega
              simp only [d0, d19, d20, dt, if_true, if_false, Bool.false_eq_true, Option.bind_some]
              have hab : abs (⟨⟨0, 6, 0, 0⟩, 0, false⟩ : It) = ⟨6, 0, 0, -1⟩ := rfl
              have hokp : okIt l0.length (⟨⟨0, 6, 0, 0⟩, 0, false⟩ : It) := by
                refine ⟨?_, fun _ => rfl⟩
                rw [hab]
                exact ⟨by decide, .inl ⟨by decide, rfl⟩, .inl ⟨by decide, rfl⟩, fun hc => absurd hc (by decide), fun _ => rfl⟩
              refine ⟨_, _, rfl, rfl, ⟨i + 1, k + 1, by omega, rfl, rfl, by omega, a4.step (k + 1) hi1 (by simp) rfl (by simp) (fun j hj => set_ne j hj) (fun _ _ => rfl) (fun j hj => set_ne j hj) ⟨⟨⟨0, 6, 0, 0⟩, 0, false⟩, ⟨6, 0, 0, -1⟩, set_at (by omega), set_at (by omega), u3, by show (-1 : Int) < _; omega, fun _ => ⟨rfl, hokp⟩⟩ u0 ?_, fun _ => by omega, fun hc => absurd hc (by simp)⟩, ?_⟩
              · have e1 : wt (next.set i ⟨6, 0, 0, -1⟩) (goes out) i = 1 := by
                  unfold wt
                  rw [goes_some u3, if_neg (by simp), set_at (by omega)]
                  rfl
                have e2 : siz x.in_.Op = 3 := by
                  unfold siz wid
                  rw [h20]
                  rfl
                rw [e1, e2]
                omega
              · dsimp only
                omega
            · have dt : (x.to == ((i + 1 : Nat) : Int)) = false := by rw [beq_eq_false_iff_ne]; exact ht
              simp only [d0, d19, d20, dt, if_true, if_false, Bool.false_eq_true, Option.bind_some]
              refine ⟨_, _, rfl, rfl, ⟨i + 1, k, a0, rfl, rfl, by omega, a4.skip hi, a5, a6⟩, ?_⟩
              dsimp only
              omega
          · have d20 : (x.in_.Op.toNat == 20) = false := by simp [h20]
            simp only [d0, d19, d20, if_true, if_false, Bool.false_eq_true, Option.bind_some]
            refine ⟨_, _, rfl, rfl, ⟨i + 1, k, a0, rfl, rfl, by omega, a4.skip hi, a5, a6⟩, ?_⟩
            dsimp only
            omega
    · right
      have : i = l0.length := by omega
      subst this
      refine ⟨(l, did), (out, next), ?_, ?_, k, a0, a4, a5, a6⟩
      · unfold opt_empty_b0
        rw [if_neg (by simp)]
      · unfold provisoref19_idle_b0
        rw [if_neg (by simp)]) (s1 := (l0, false, 0)) (s2 := (List.replicate l0.length false, l0.map abs, 0)) ⟨0, 0, Int.le_refl _, rfl, rfl, by omega, Inv.init h, fun hc => absurd hc (by simp), fun _ => ⟨rfl, rfl⟩⟩
  obtain ⟨l, did⟩ := r1
  obtain ⟨out, next⟩ := r2
  obtain ⟨k, p0, p1, p2, p3⟩ := hp
  dsimp only at p0 p1 p2 p3
  obtain ⟨l', q1, q2, q3, q4, q5, q6⟩ := p1.done
  rw [e1, e2, Option.bind_some, Option.bind_some]
  dsimp only
  rw [q1, q2]
  refine ⟨l', did, rfl, rfl, q3, q4, ?_, fun hd => ?_⟩
  · cases did
    · simp; omega
    · have := p2 rfl; simp; omega
  · obtain ⟨f1, f2⟩ := p3 hd
    rw [q6, f1, f2, lft_same h]
end Go.Proofs.Ytmeodoidfpcjlaa
