/- Plain law of Opt: what jumps lead to; what is known ahead. -/
import Derived.Test.YtmeodoidfpcjlaaLoc
set_option linter.unusedVariables false
set_option linter.unusedSimpArgs false
namespace Go.Proofs.Ytmeodoidfpcjlaa
open Go Go.RowKit Go.Pv

/-! ### What is led to -/
theorem led_law (l0 : List It) (h : Good l0) : ∃ t, opt_led l0 = some t ∧ provisoref19_led (l0.map abs) = some t ∧ t.length = l0.length := by
  have hle := h.le
  unfold opt_led provisoref19_led
  rw [List.length_map, mk_ok _ (by omega) (by omega), Option.bind_some, Option.bind_some]
  obtain ⟨r1, r2, e1, e2, e3, e4⟩ := loopM2 (b1 := opt_led_b0 l0) (b2 := provisoref19_led_b0 (l0.map abs)) (fun s => l0.length - s.2.toNat)
    (fun s1 s2 => s1 = s2 ∧ s1.1.length = l0.length ∧ ∃ i : Nat, s1.2 = (i : Int) ∧ i ≤ l0.length)
    (Post := fun r1 r2 => r1 = r2 ∧ r1.length = l0.length) (fun s1 s2 hs => by
    obtain ⟨t, i1⟩ := s1
    obtain ⟨rfl, a1, i, a2, a3⟩ := hs
    dsimp only at a1 a2
    subst a2
    by_cases hi : i < l0.length
    · left
      obtain ⟨x, u0⟩ := get_of hi
      have hu0 : (l0.map abs)[i]? = some (abs x) := by rw [List.getElem?_map, u0]; rfl
      obtain ⟨hx, hgx⟩ := h.at_ u0
      unfold opt_led_b0 provisoref19_led_b0
      dsimp only
      have cL : decide ((i : Int) < ((l0.map abs).length : Int)) = true := by rw [List.length_map]; exact decide_eq_true (by omega)
      have cL' : decide ((i : Int) < (l0.length : Int)) = true := decide_eq_true (by omega)
      rw [if_pos cL, if_pos cL', wr1 (by omega)]
      simp only [idxs u0, idxs hu0, Option.bind_some, jumps_code]
      cases hj : jmp x.in_.Op
      · rw [abs_n hj, if_neg (by simp), if_neg (by simp)]
        exact ⟨_, _, rfl, rfl, ⟨rfl, a1, i + 1, rfl, by omega⟩, by dsimp only; omega⟩
      · have hto := hx.j hj
        obtain ⟨b, hb⟩ := get_of (l := t) (i := x.to.toNat) (by omega)
        rw [abs_j hj]
        dsimp only
        rw [if_pos rfl, if_pos (decide_eq_true hto.1), idxz hto.1 hb, Option.bind_some]
        exact ⟨_, _, rfl, rfl, ⟨rfl, by simpa using a1, i + 1, rfl, by omega⟩, by dsimp only; omega⟩
    · right
      have : i = l0.length := by omega
      subst this
      refine ⟨t, t, ?_, ?_, rfl, a1⟩
      · unfold opt_led_b0
        rw [if_neg (by simp)]
      · unfold provisoref19_led_b0
        rw [if_neg (by simp)]) (s1 := (List.replicate l0.length false, 0)) (s2 := (List.replicate l0.length false, 0)) ⟨rfl, by simp, 0, rfl, by omega⟩
  subst e3
  rw [e1, e2]
  exact ⟨r1, rfl, rfl, e4⟩

/-! ### Two and three -/
theorem ex32 (z : Int) : -2147483648 ≤ wr (IntKind.i32.wrap z) ∧ wr (IntKind.i32.wrap z) ≤ 2147483647 := by
  rw [IntKind.wrap_i32]
  rw [wr_id] <;> omega
def numI (z : Int) : It := ⟨⟨0, 1, wr (IntKind.i32.wrap z), 0⟩, 0, false⟩
def boolI (b : Bool) : It := ⟨⟨0, 2, if b = true then 1 else 0, 0⟩, 0, false⟩
theorem okI_num (n : Nat) (z : Int) : okIt n (numI z) := by
  refine ⟨⟨by show (1 : Nat) < 34; decide, .inr (.inr (.inr ⟨rfl, ex32 z⟩)), .inl ⟨rfl, rfl⟩, fun hc => absurd hc (by show ¬ (jmp 1 = true); decide), fun _ => rfl⟩, fun _ => rfl⟩
theorem okI_bool (n : Nat) (b : Bool) : okIt n (boolI b) := by
  refine ⟨⟨by show (2 : Nat) < 34; decide, .inr (.inl ⟨rfl, ?_, ?_, fun _ => ?_⟩), .inl ⟨rfl, rfl⟩, fun hc => absurd hc (by show ¬ (jmp 2 = true); decide), fun _ => rfl⟩, fun _ => rfl⟩
  all_goals show _ ≤ _
  · show (0 : Int) ≤ if b = true then 1 else 0
    split <;> decide
  · show (if b = true then (1 : Int) else 0) ≤ 255
    split <;> decide
  · show (if b = true then (1 : Int) else 0) ≤ 1
    split <;> decide
theorem number_law (z : Int) : opt_number z = some (numI z) := rfl
theorem truth_law (b : Bool) : opt_truth b = some (boolI b) := by unfold opt_truth boolI; cases b <;> rfl
theorem truth_ref (b : Bool) : provisoref19_truth b = some (abs (boolI b)) := by unfold provisoref19_truth boolI; cases b <;> rfl
/-- What a fold makes. -/
def Made (N : Nat) (xa : It) (x : It) (y : Is) : Prop := (x.gone = true ∧ y.op = 0 ∧ y.to = -1) ∨ (x.gone = false ∧ y.op ≠ 0 ∧ y = abs x ∧ okIt N x ∧ siz x.in_.Op ≤ siz xa.in_.Op)
def ex (a : S_api_Instr) : S_api_Instr := ⟨a.At, a.Op, a.A, a.B⟩
theorem siz_1 {op : UInt8} (h : op.toNat = 1) : siz op = 5 := by unfold siz wid; rw [h]; rfl
theorem siz_2 {op : UInt8} (h : op.toNat = 2) : siz op = 2 := by unfold siz wid; rw [h]; rfl
theorem made_num (N : Nat) (xa : It) (z : Int) (h : xa.in_.Op.toNat = 1) : Made N xa (numI z) ⟨1, wr (IntKind.i32.wrap z), 0, -1⟩ := by
  refine .inr ⟨rfl, by show (1 : UInt8) ≠ 0; decide, rfl, okI_num N z, ?_⟩
  rw [siz_1 h]
  exact Nat.le_refl _
theorem made_bool (N : Nat) (xa : It) (b : Bool) (h : xa.in_.Op.toNat = 1 ∨ xa.in_.Op.toNat = 2) : Made N xa (boolI b) (abs (boolI b)) := by
  refine .inr ⟨rfl, by show (2 : UInt8) ≠ 0; decide, rfl, okI_bool N b, ?_⟩
  rcases h with h | h
  · rw [siz_1 h]; show 2 ≤ 5; decide
  · rw [siz_2 h]; exact Nat.le_refl _
theorem jmp_no {op : UInt8} {k : Nat} (h : op.toNat = k) (h1 : k ≠ 19) (h2 : k ≠ 20) : jmp op = false := by unfold jmp; rw [h]; simp [h1, h2]
theorem b_t {a : Nat} {k : Nat} (h : a = k) : ((a : Int) == (k : Int)) = true := by rw [beq_nat, beq_iff_eq]; exact h
theorem b_f {a : Nat} {k : Nat} (h : a ≠ k) : ((a : Int) == (k : Int)) = false := by rw [beq_nat, beq_eq_false_iff_ne]; exact h
theorem endz_no {op : UInt8} {k : Nat} (h : op.toNat = k) (h1 : k ≠ 19) (h2 : k ≠ 22) (h3 : k ≠ 32) : endz op = false := by unfold endz; rw [h]; simp [h1, h2, h3]
theorem two_law (N : Nat) (xa xb : It) : ∃ x y ok, opt_two ⟨xa.in_.At, xa.in_.Op, xa.in_.A, xa.in_.B⟩ ⟨xb.in_.At, xb.in_.Op, xb.in_.A, xb.in_.B⟩ = some (x, ok) ∧ provisoref19_two (abs xa) (abs xb) = some (y, ok) ∧ (ok = true → Made N xa x y ∧ endz xb.in_.Op = false) := by
  unfold opt_two provisoref19_two
  simp only [abs_op]
  have z0 : ((xa.in_.Op.toNat : Int) == 1) = decide (xa.in_.Op.toNat = 1) := nat_beq _ 1
  have z1 : ((xa.in_.Op.toNat : Int) == 2) = decide (xa.in_.Op.toNat = 2) := nat_beq _ 2
  have z2 : ((xa.in_.Op.toNat : Int) == 3) = decide (xa.in_.Op.toNat = 3) := nat_beq _ 3
  have z3 : ((xa.in_.Op.toNat : Int) == 7) = decide (xa.in_.Op.toNat = 7) := nat_beq _ 7
  have z4 : ((xa.in_.Op.toNat : Int) == 17) = decide (xa.in_.Op.toNat = 17) := nat_beq _ 17
  have w0 : ((xb.in_.Op.toNat : Int) == 14) = decide (xb.in_.Op.toNat = 14) := nat_beq _ 14
  have w1 : ((xb.in_.Op.toNat : Int) == 17) = decide (xb.in_.Op.toNat = 17) := nat_beq _ 17
  have w2 : ((xb.in_.Op.toNat : Int) == 6) = decide (xb.in_.Op.toNat = 6) := nat_beq _ 6
  have w3 : ((xb.in_.Op.toNat : Int) != 6) = !decide (xb.in_.Op.toNat = 6) := by rw [← w2]; rfl
  simp only [z0, z1, z2, z3, z4, w0, w1, w2, w3]
  have goneM : ∀ y : Is, y = ⟨0, 0, 0, -1⟩ → Made N xa ⟨⟨0, 0, 0, 0⟩, 0, true⟩ y := fun y hy => .inl ⟨rfl, by rw [hy], by rw [hy]⟩
  by_cases a1 : xa.in_.Op.toNat = 1
  · have hA : (abs xa).a = xa.in_.A := by rw [abs_n (jmp_no a1 (by decide) (by decide))]
    have a2 : ¬ xa.in_.Op.toNat = 2 := by omega
    have a17 : ¬ xa.in_.Op.toNat = 17 := by omega
    by_cases b14 : xb.in_.Op.toNat = 14
    · simp only [a1, b14, decide_true, if_true, number_law, Option.bind_some, hA, provisoref15_Wrap]
      exact ⟨_, _, _, rfl, rfl, fun _ => ⟨made_num N xa _ a1, endz_no b14 (by decide) (by decide) (by decide)⟩⟩
    · by_cases b6 : xb.in_.Op.toNat = 6
      · have b17 : ¬ xb.in_.Op.toNat = 17 := by omega
        simp only [a1, b14, b6, b17, a2, a17, decide_true, decide_false, if_true, if_false, Bool.false_eq_true, Option.bind_some, Bool.not_true, Bool.not_false]
        exact ⟨_, _, _, rfl, rfl, fun _ => ⟨goneM _ rfl, endz_no b6 (by decide) (by decide) (by decide)⟩⟩
      · simp only [a1, b14, b6, a2, a17, decide_true, decide_false, if_true, if_false, Bool.false_eq_true, Option.bind_some, Bool.not_true, Bool.not_false]
        exact ⟨_, _, _, rfl, rfl, fun hc => absurd hc (by simp)⟩
  · by_cases a2 : xa.in_.Op.toNat = 2
    · have hA : (abs xa).a = xa.in_.A := by rw [abs_n (jmp_no a2 (by decide) (by decide))]
      have a17 : ¬ xa.in_.Op.toNat = 17 := by omega
      by_cases b17 : xb.in_.Op.toNat = 17
      · simp only [a1, a2, b17, decide_true, decide_false, if_true, if_false, Bool.false_eq_true, truth_law, truth_ref, Option.bind_some, hA]
        exact ⟨_, _, _, rfl, rfl, fun _ => ⟨made_bool N xa _ (.inr a2), endz_no b17 (by decide) (by decide) (by decide)⟩⟩
      · by_cases b6 : xb.in_.Op.toNat = 6
        · simp only [a1, a2, b17, b6, a17, decide_true, decide_false, if_true, if_false, Bool.false_eq_true, Option.bind_some, Bool.not_true, Bool.not_false]
          exact ⟨_, _, _, rfl, rfl, fun _ => ⟨goneM _ rfl, endz_no b6 (by decide) (by decide) (by decide)⟩⟩
        · simp only [a1, a2, b17, b6, a17, decide_true, decide_false, if_true, if_false, Bool.false_eq_true, Option.bind_some, Bool.not_true, Bool.not_false]
          exact ⟨_, _, _, rfl, rfl, fun hc => absurd hc (by simp)⟩
    · by_cases a17 : xa.in_.Op.toNat = 17
      · have a3 : ¬ xa.in_.Op.toNat = 3 := by omega
        have a7 : ¬ xa.in_.Op.toNat = 7 := by omega
        by_cases b17 : xb.in_.Op.toNat = 17
        · have b6 : ¬ xb.in_.Op.toNat = 6 := by omega
          simp only [a1, a2, a17, b17, b6, a3, a7, decide_true, decide_false, if_true, if_false, Bool.false_eq_true, Option.bind_some, Bool.not_true, Bool.not_false]
          exact ⟨_, _, _, rfl, rfl, fun _ => ⟨goneM _ rfl, endz_no b17 (by decide) (by decide) (by decide)⟩⟩
        · by_cases b6 : xb.in_.Op.toNat = 6
          · simp only [a1, a2, a17, b17, b6, a3, a7, decide_true, decide_false, if_true, if_false, Bool.false_eq_true, Option.bind_some, Bool.not_true, Bool.not_false]
            exact ⟨_, _, _, rfl, rfl, fun hc => absurd hc (by simp)⟩
          · simp only [a1, a2, a17, b17, b6, a3, a7, decide_true, decide_false, if_true, if_false, Bool.false_eq_true, Option.bind_some, Bool.not_true, Bool.not_false]
            exact ⟨_, _, _, rfl, rfl, fun hc => absurd hc (by simp)⟩
      · by_cases b6 : xb.in_.Op.toNat = 6
        · by_cases a3 : xa.in_.Op.toNat = 3
          · simp only [a1, a2, a17, b6, a3, decide_true, decide_false, if_true, if_false, Bool.false_eq_true, Option.bind_some, Bool.not_true, Bool.not_false]
            exact ⟨_, _, _, rfl, rfl, fun _ => ⟨goneM _ rfl, endz_no b6 (by decide) (by decide) (by decide)⟩⟩
          · by_cases a7 : xa.in_.Op.toNat = 7
            · simp only [a1, a2, a17, b6, a3, a7, decide_true, decide_false, if_true, if_false, Bool.false_eq_true, Option.bind_some, Bool.not_true, Bool.not_false]
              exact ⟨_, _, _, rfl, rfl, fun _ => ⟨goneM _ rfl, endz_no b6 (by decide) (by decide) (by decide)⟩⟩
            · simp only [a1, a2, a17, b6, a3, a7, decide_true, decide_false, if_true, if_false, Bool.false_eq_true, Option.bind_some, Bool.not_true, Bool.not_false]
              exact ⟨_, _, _, rfl, rfl, fun hc => absurd hc (by simp)⟩
        · simp only [a1, a2, a17, b6, decide_true, decide_false, if_true, if_false, Bool.false_eq_true, Option.bind_some, Bool.not_true, Bool.not_false]
          exact ⟨_, _, _, rfl, rfl, fun hc => absurd hc (by simp)⟩
theorem three_law (N : Nat) (xa xb xc : It) : ∃ x y ok, opt_three ⟨xa.in_.At, xa.in_.Op, xa.in_.A, xa.in_.B⟩ ⟨xb.in_.At, xb.in_.Op, xb.in_.A, xb.in_.B⟩ ⟨xc.in_.At, xc.in_.Op, xc.in_.A, xc.in_.B⟩ = some (x, ok) ∧ provisoref19_three (abs xa) (abs xb) (abs xc) = some (y, ok) ∧
    (ok = true → Made N xa x y ∧ x.gone = false ∧ endz xc.in_.Op = false) := by
  unfold opt_three provisoref19_three
  simp only [abs_op]
  have z0 : ((xa.in_.Op.toNat : Int) == 1) = decide (xa.in_.Op.toNat = 1) := nat_beq _ 1
  have z1 : ((xa.in_.Op.toNat : Int) == 2) = decide (xa.in_.Op.toNat = 2) := nat_beq _ 2
  have y0 : ((xb.in_.Op.toNat : Int) == 1) = decide (xb.in_.Op.toNat = 1) := nat_beq _ 1
  have y1 : ((xb.in_.Op.toNat : Int) == 2) = decide (xb.in_.Op.toNat = 2) := nat_beq _ 2
  have w0 : ((xc.in_.Op.toNat : Int) == 9) = decide (xc.in_.Op.toNat = 9) := nat_beq _ 9
  have w1 : ((xc.in_.Op.toNat : Int) == 10) = decide (xc.in_.Op.toNat = 10) := nat_beq _ 10
  have w2 : ((xc.in_.Op.toNat : Int) == 11) = decide (xc.in_.Op.toNat = 11) := nat_beq _ 11
  have w3 : ((xc.in_.Op.toNat : Int) == 15) = decide (xc.in_.Op.toNat = 15) := nat_beq _ 15
  have w4 : ((xc.in_.Op.toNat : Int) == 16) = decide (xc.in_.Op.toNat = 16) := nat_beq _ 16
  simp only [z0, z1, y0, y1, w0, w1, w2, w3, w4]
  by_cases a1 : xa.in_.Op.toNat = 1
  · have hA : (abs xa).a = xa.in_.A := by rw [abs_n (jmp_no a1 (by decide) (by decide))]
    have a2 : ¬ xa.in_.Op.toNat = 2 := by omega
    by_cases b1 : xb.in_.Op.toNat = 1
    · have hB : (abs xb).a = xb.in_.A := by rw [abs_n (jmp_no b1 (by decide) (by decide))]
      by_cases c9 : xc.in_.Op.toNat = 9
      · simp only [a1, a2, b1, c9, decide_true, decide_false, if_true, if_false, Bool.false_eq_true, number_law, Option.bind_some, hA, hB, provisoref15_Wrap]
        exact ⟨_, _, _, rfl, rfl, fun _ => ⟨made_num N xa _ a1, rfl, endz_no c9 (by decide) (by decide) (by decide)⟩⟩
      · by_cases c10 : xc.in_.Op.toNat = 10
        · simp only [a1, a2, b1, c9, c10, decide_true, decide_false, if_true, if_false, Bool.false_eq_true, number_law, Option.bind_some, hA, hB, provisoref15_Wrap]
          exact ⟨_, _, _, rfl, rfl, fun _ => ⟨made_num N xa _ a1, rfl, endz_no c10 (by decide) (by decide) (by decide)⟩⟩
        · by_cases c11 : xc.in_.Op.toNat = 11
          · simp only [a1, a2, b1, c9, c10, c11, decide_true, decide_false, if_true, if_false, Bool.false_eq_true, number_law, Option.bind_some, hA, hB, provisoref15_Wrap]
            exact ⟨_, _, _, rfl, rfl, fun _ => ⟨made_num N xa _ a1, rfl, endz_no c11 (by decide) (by decide) (by decide)⟩⟩
          · by_cases c15 : xc.in_.Op.toNat = 15
            · simp only [a1, a2, b1, c9, c10, c11, c15, decide_true, decide_false, if_true, if_false, Bool.false_eq_true, truth_law, truth_ref, Option.bind_some, hA, hB]
              exact ⟨_, _, _, rfl, rfl, fun _ => ⟨made_bool N xa _ (.inl a1), rfl, endz_no c15 (by decide) (by decide) (by decide)⟩⟩
            · by_cases c16 : xc.in_.Op.toNat = 16
              · simp only [a1, a2, b1, c9, c10, c11, c15, c16, decide_true, decide_false, if_true, if_false, Bool.false_eq_true, truth_law, truth_ref, Option.bind_some, hA, hB]
                exact ⟨_, _, _, rfl, rfl, fun _ => ⟨made_bool N xa _ (.inl a1), rfl, endz_no c16 (by decide) (by decide) (by decide)⟩⟩
              · simp only [a1, a2, b1, c9, c10, c11, c15, c16, decide_true, decide_false, if_true, if_false, Bool.false_eq_true, Option.bind_some]
                exact ⟨_, _, _, rfl, rfl, fun hc => absurd hc (by simp)⟩
    · simp only [a1, a2, b1, decide_true, decide_false, if_true, if_false, Bool.false_eq_true, Option.bind_some]
      exact ⟨_, _, _, rfl, rfl, fun hc => absurd hc (by simp)⟩
  · by_cases a2 : xa.in_.Op.toNat = 2
    · have hA : (abs xa).a = xa.in_.A := by rw [abs_n (jmp_no a2 (by decide) (by decide))]
      by_cases b2 : xb.in_.Op.toNat = 2
      · have hB : (abs xb).a = xb.in_.A := by rw [abs_n (jmp_no b2 (by decide) (by decide))]
        by_cases c16 : xc.in_.Op.toNat = 16
        · simp only [a1, a2, b2, c16, decide_true, decide_false, if_true, if_false, Bool.false_eq_true, truth_law, truth_ref, Option.bind_some, hA, hB]
          exact ⟨_, _, _, rfl, rfl, fun _ => ⟨made_bool N xa _ (.inr a2), rfl, endz_no c16 (by decide) (by decide) (by decide)⟩⟩
        · simp only [a1, a2, b2, c16, decide_true, decide_false, if_true, if_false, Bool.false_eq_true, Option.bind_some]
          exact ⟨_, _, _, rfl, rfl, fun hc => absurd hc (by simp)⟩
      · simp only [a1, a2, b2, decide_true, decide_false, if_true, if_false, Bool.false_eq_true, Option.bind_some]
        exact ⟨_, _, _, rfl, rfl, fun hc => absurd hc (by simp)⟩
    · simp only [a1, a2, decide_true, decide_false, if_true, if_false, Bool.false_eq_true, Option.bind_some]
      exact ⟨_, _, _, rfl, rfl, fun hc => absurd hc (by simp)⟩
end Go.Proofs.Ytmeodoidfpcjlaa
