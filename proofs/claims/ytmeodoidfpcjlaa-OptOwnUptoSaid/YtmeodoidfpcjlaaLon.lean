/- Plain law of Opt: rounds. -/
import Derived.Test.YtmeodoidfpcjlaaLom
set_option linter.unusedVariables false
set_option linter.unusedSimpArgs false
namespace Go.Proofs.Ytmeodoidfpcjlaa
open Go Go.RowKit Go.Pv

theorem is_ext {x y : Is} (h1 : x.op = y.op) (h2 : x.a = y.a) (h3 : x.b = y.b) (h4 : x.to = y.to) : x = y := by
  cases x; cases y
  dsimp only at h1 h2 h3 h4
  subst h1; subst h2; subst h3; subst h4
  rfl
theorem same_law (p q : List Is) (hp : p.length ≤ 600) : ∃ b, provisoref19_same p q = some b ∧ (b = true ↔ p = q) := by
  unfold provisoref19_same
  by_cases hl : p.length = q.length
  · rw [if_neg (by simp [hl])]
    obtain ⟨r, r1, r2⟩ := loopM (body := provisoref19_same_b0 p q) (fun s => p.length - s.toNat) (fun s => ∃ i : Nat, s = (i : Int) ∧ i ≤ p.length ∧ ∀ j, j < i → p[j]? = q[j]?)
      (Post := fun r => (r = .inl false ∧ p ≠ q) ∨ (r = .inr () ∧ p = q)) (fun s hs => by
      obtain ⟨i, rfl, hi, he⟩ := hs
      unfold provisoref19_same_b0
      by_cases hlt : i < p.length
      · obtain ⟨x, hx⟩ := get_of hlt
        obtain ⟨y, hy⟩ := get_of (l := q) (i := i) (by omega)
        rw [if_pos (decide_eq_true (by omega)), idxs hx, Option.bind_some, idxs hy, Option.bind_some, wr1 (by omega)]
        by_cases e : x = y
        · left
          subst e
          rw [if_neg (by simp)]
          refine ⟨_, rfl, ⟨i + 1, rfl, by omega, fun j hj => ?_⟩, by omega⟩
          by_cases e2 : j = i
          · subst e2; rw [hx, hy]
          · exact he j (by omega)
        · right
          have c : (!((x.op == y.op) && ((x.a == y.a) && ((x.b == y.b) && ((x.to == y.to) && true))))) = true := by
            rw [Bool.not_eq_true']
            apply Bool.eq_false_iff.mpr
            intro hc
            simp only [Bool.and_eq_true, beq_iff_eq, and_true] at hc
            exact e (is_ext hc.1 hc.2.1 hc.2.2.1 hc.2.2.2)
          rw [if_pos c]
          refine ⟨_, rfl, .inl ⟨rfl, fun hpq => e ?_⟩⟩
          subst hpq
          rw [hx] at hy
          exact Option.some.inj hy
      · right
        rw [if_neg (by simp; omega)]
        refine ⟨_, rfl, .inr ⟨rfl, ?_⟩⟩
        apply List.ext_getElem?
        intro j
        by_cases hj : j < i
        · exact he j hj
        · rw [List.getElem?_eq_none (by omega), List.getElem?_eq_none (by omega)]) (s := 0) ⟨0, rfl, by omega, fun j hj => absurd hj (by omega)⟩
    rw [r1, Option.bind_some]
    rcases r2 with ⟨rfl, h⟩ | ⟨rfl, h⟩
    · exact ⟨false, rfl, by simp [h]⟩
    · exact ⟨true, rfl, by simp [h]⟩
  · have c : ((p.length : Int) != (q.length : Int)) = true := by rw [bne_iff_ne]; omega
    rw [if_pos c]
    exact ⟨false, rfl, by simp; intro e; exact hl (by rw [e])⟩

/-! ### A round -/
noncomputable def chain (p : List Is) : Option (List Is) := (provisoref19_threads p).bind fun a => (provisoref19_dead a).bind fun b => (provisoref19_idle b).bind fun c => (provisoref19_constants c).bind fun d => provisoref19_sure d
open Classical in
noncomputable def mea (p : List Is) : Nat := 2 * bytes p + if provisoref19_threads p = some p then 0 else 1
theorem mea_le (p : List Is) : mea p ≤ 2 * bytes p + 1 := by unfold mea; split <;> omega
theorem mea_ge (p : List Is) : 2 * bytes p ≤ mea p := by unfold mea; omega
theorem or_pair {α : Type} (x : α) (a b : Bool) : (if a = true then some (x, true) else some (x, b)) = some (x, a || b) := by cases a <;> rfl
theorem round_law (l : List It) (h : Good l) : ∃ l' did, opt_Func_b0 l = some (if did = true then .inl l' else .inr l') ∧ chain (l.map abs) = some (l'.map abs) ∧ Good l' ∧ l'.length ≤ l.length ∧ bytes (l'.map abs) ≤ bytes (l.map abs) ∧ (did = true → mea (l'.map abs) < mea (l.map abs)) ∧ (did = false → l'.map abs = l.map abs) := by
  obtain ⟨l1, d1, a1, b1, g1, n1, w1, y1, z1, i1⟩ := threads_law l h
  obtain ⟨l2, d2, a2, b2, g2, n2, w2, z2⟩ := dead_law l1 g1
  obtain ⟨l3, d3, a3, b3, g3, n3, w3, z3⟩ := empty_law l2 g2
  obtain ⟨l4, d4, a4, b4, g4, n4, w4, z4⟩ := constants_law l3 g3
  obtain ⟨l5, d5, a5, b5, g5, n5, w5, z5⟩ := sure_law l4 g4
  refine ⟨l5, ((((d1 || d2) || d3) || d4) || d5), ?_, ?_, g5, by omega, ?_, fun hd => ?_, fun hd => ?_⟩
  · unfold opt_Func_b0
    rw [show opt_rules = some () from rfl, Option.bind_some, a1, Option.bind_some]
    dsimp only
    rw [a2, Option.bind_some, or_pair, Option.bind_some]
    dsimp only
    rw [a3, Option.bind_some, or_pair, Option.bind_some]
    dsimp only
    rw [a4, Option.bind_some, or_pair, Option.bind_some]
    dsimp only
    rw [a5, Option.bind_some, or_pair, Option.bind_some]
    dsimp only
    cases ((((d1 || d2) || d3) || d4) || d5) <;> rfl
  · unfold chain
    rw [b1, Option.bind_some, b2, Option.bind_some, b3, Option.bind_some, b4, Option.bind_some, b5]
  · omega
  · by_cases hr : d2 = true ∨ d3 = true ∨ d4 = true ∨ d5 = true
    · have hb : bytes (l5.map abs) < bytes (l.map abs) := by
        have e2 : (if d2 = true then 1 else 0) + (if d3 = true then 1 else 0) + (if d4 = true then 1 else 0) + (if d5 = true then 1 else 0) ≥ 1 := by
          rcases hr with e | e | e | e <;> rw [if_pos e] <;> omega
        omega
      have := mea_le (l5.map abs)
      have := mea_ge (l.map abs)
      omega
    · have f2 : d2 = false := by cases d2 <;> simp_all
      have f3 : d3 = false := by cases d3 <;> simp_all
      have f4 : d4 = false := by cases d4 <;> simp_all
      have f5 : d5 = false := by cases d5 <;> simp_all
      have f1 : d1 = true := by cases d1 <;> simp_all
      have e51 : l5.map abs = l1.map abs := by rw [z5 f5, z4 f4, z3 f3, z2 f2]
      obtain ⟨l6, d6, a6, b6, _⟩ := threads_law l1 g1
      rw [i1] at a6
      cases a6
      have m1 : mea (l1.map abs) = 2 * bytes (l1.map abs) := by unfold mea; rw [if_pos b6]; rfl
      have m0 : mea (l.map abs) = 2 * bytes (l.map abs) + 1 := by
        unfold mea
        rw [if_neg]
        rw [b1]
        intro hc
        exact y1 f1 (Option.some.inj hc)
      rw [e51, m1, m0, w1]
      omega
  · have f1 : d1 = false := by cases d1 <;> simp_all
    have f2 : d2 = false := by cases d2 <;> simp_all
    have f3 : d3 = false := by cases d3 <;> simp_all
    have f4 : d4 = false := by cases d4 <;> simp_all
    have f5 : d5 = false := by cases d5 <;> simp_all
    rw [z5 f5, z4 f4, z3 f3, z2 f2, z1 f1]
theorem code_b0 (p : List Is) : provisoref19_Code_b0 p = (chain p).bind fun e => (provisoref19_same p e).bind fun s => if s = true then ((provisoref19_write p).bind fun x => some (.inr (x, 0))) else some (.inl e) := by
  unfold provisoref19_Code_b0 chain
  cases provisoref19_threads p with
  | none => rfl
  | some a =>
    rw [Option.bind_some, Option.bind_some]
    cases provisoref19_dead a with
    | none => rfl
    | some b =>
      rw [Option.bind_some, Option.bind_some]
      cases provisoref19_idle b with
      | none => rfl
      | some c =>
        rw [Option.bind_some, Option.bind_some]
        cases provisoref19_constants c with
        | none => rfl
        | some d => rw [Option.bind_some, Option.bind_some]
/-- The rounds of both. -/
theorem rounds_law (l : List It) (h : Good l) : ∃ lf, loopO opt_Func_b0 l = some lf ∧ loopO provisoref19_Code_b0 (l.map abs) = some (cod lf lf.length, 0) ∧ Good lf ∧ lf.length ≤ l.length ∧ bytes (lf.map abs) ≤ bytes (l.map abs) ∧ chain (lf.map abs) = some (lf.map abs) := by
  obtain ⟨r1, r2, e1, e2, p1, p2, p3, p4, p5⟩ := loopM2 (b1 := opt_Func_b0) (b2 := provisoref19_Code_b0) (fun s => mea (s.map abs)) (fun s1 s2 => s2 = s1.map abs ∧ Good s1 ∧ s1.length ≤ l.length ∧ bytes (s1.map abs) ≤ bytes (l.map abs))
    (Post := fun r1 r2 => r2 = (cod r1 r1.length, 0) ∧ Good r1 ∧ r1.length ≤ l.length ∧ bytes (r1.map abs) ≤ bytes (l.map abs) ∧ chain (r1.map abs) = some (r1.map abs)) (fun s1 s2 hs => by
    obtain ⟨rfl, g, n, w⟩ := hs
    obtain ⟨l', did, a1, a2, a3, a4, a5, a6, a7⟩ := round_law s1 g
    obtain ⟨b, b1, b2⟩ := same_law (s1.map abs) (l'.map abs) (by rw [List.length_map]; exact g.le)
    rw [a1, code_b0, a2, Option.bind_some, b1, Option.bind_some]
    cases did
    · right
      have e := a7 rfl
      have hb : b = true := b2.mpr e.symm
      rw [if_neg (by simp), if_pos hb]
      have w2 := write_law s1 g
      have w3 := write_law l' a3
      rw [e, w2] at w3
      rw [w2, Option.bind_some]
      refine ⟨_, _, rfl, rfl, ?_, a3, by omega, by omega, by rw [e, a2, e]⟩
      rw [Option.some.inj w3]
    · left
      have hm := a6 rfl
      have hb : ¬ b = true := fun hc => by
        have := b2.mp hc
        rw [this] at hm
        omega
      rw [if_pos rfl, if_neg hb]
      exact ⟨_, _, rfl, rfl, ⟨rfl, a3, by omega, by omega⟩, hm⟩) (s1 := l) (s2 := l.map abs) ⟨rfl, h, Nat.le_refl _, Nat.le_refl _⟩
  rw [e2, p1]
  exact ⟨r1, e1, rfl, p2, p3, p4, p5⟩
/-- What is done stays. -/
theorem rounds_done (l : List It) (h : Good l) (hc : chain (l.map abs) = some (l.map abs)) : ∃ lf, loopO opt_Func_b0 l = some lf ∧ lf.map abs = l.map abs ∧ Good lf := by
  obtain ⟨l', did, a1, a2, a3, a4, a5, a6, a7⟩ := round_law l h
  rw [hc] at a2
  have e := Option.some.inj a2
  cases did
  · exact ⟨l', loopO_stop (by rw [a1]; rfl), e.symm, a3⟩
  · have := a6 rfl
    rw [← e] at this
    omega
end Go.Proofs.Ytmeodoidfpcjlaa
