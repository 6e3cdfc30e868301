/- Plain law of Opt: constants. -/
import Derived.Test.YtmeodoidfpcjlaaLoe
set_option linter.unusedVariables false
set_option linter.unusedSimpArgs false
namespace Go.Proofs.Ytmeodoidfpcjlaa
open Go Go.RowKit Go.Pv

theorem free_law (t : List Bool) (l : List It) (hl : t.length = l.length) (i : Nat) : (∃ b, t[i]? = some b ∧ i < l.length ∧ opt_constants_1_s2 (i : Int) l t = some (!b)) ∨ (¬ i < l.length ∧ opt_constants_1_s2 (i : Int) l t = some false) := by
  unfold opt_constants_1_s2
  by_cases h : i < l.length
  · obtain ⟨b, hb⟩ := get_of (l := t) (i := i) (by omega)
    refine .inl ⟨b, hb, h, ?_⟩
    have c : decide ((i : Int) < (l.length : Int)) = true := decide_eq_true (by omega)
    rw [if_pos c, idxs hb]; rfl
  · refine .inr ⟨h, ?_⟩
    have c : ¬ decide ((i : Int) < (l.length : Int)) = true := fun hc => absurd (of_decide_eq_true hc) (by omega)
    rw [if_neg c]
theorem Inv.less {l0 l : List It} {out : List Bool} {next : List Is} {i : Nat} {k k' : Int} (h : Inv l0 l out next i k) (hk : k' ≤ k) : Inv l0 l out next i k' :=
  ⟨h.g, h.ll, h.lo, h.ln, h.at_, h.un, by have := h.w; omega⟩
theorem constants_law (l0 : List It) (h : Good l0) : RuleOK l0 (opt_constants l0) (provisoref19_constants (l0.map abs)) := by
  have hle := h.le
  have hpos := h.pos
  obtain ⟨t, t1, t2, t3⟩ := led_law l0 h
  unfold opt_constants provisoref19_constants
  rw [t1, t2, Option.bind_some, Option.bind_some, List.length_map, mk_ok _ (by omega) (by omega), Option.bind_some, app_ok (by simp; omega), Option.bind_some, List.nil_append]
  obtain ⟨r1, r2, e1, e2, hp⟩ := loopM2 (b1 := opt_constants_b0 t) (b2 := provisoref19_constants_b0 (l0.map abs) t) (fun s => l0.length - s.2.2.toNat) (Side l0) (Post := Side2 l0) (fun s1 s2 hs => by
    obtain ⟨l, did, i1⟩ := s1
    obtain ⟨out, next, i2⟩ := s2
    obtain ⟨i, k, a0, a1, a2, a3, a4, a5, a6⟩ := hs
    dsimp only at a1 a2 a4 a5 a6
    subst a1; subst a2
    have hll := a4.ll
    have hlo := a4.lo
    have hln := a4.ln
    unfold opt_constants_b0 provisoref19_constants_b0
    dsimp only
    by_cases hi0 : i < l0.length
    · left
      have cL0 : decide ((i : Int) < ((l0.map abs).length : Int)) = true := by rw [List.length_map]; exact decide_eq_true (by omega)
      have cL0' : decide ((i : Int) < (l.length : Int)) = true := decide_eq_true (by omega)
      have e12 : wr ((i : Int) + 2) = ((i + 2 : Nat) : Int) := by rw [wr_id] <;> omega
      rw [if_pos cL0, if_pos cL0', wr1 (by omega), e12]
      obtain ⟨x, u0, u1, u2, u3⟩ := a4.un i hi0 (.inl (Nat.le_refl _))
      have hu0 : (l0.map abs)[i]? = some (abs x) := by rw [List.getElem?_map, u0]; rfl
      obtain ⟨hx, hgx⟩ := h.at_ u0
      have w1 : wr (((i + 1 : Nat) : Int) + 1) = ((i + 2 : Nat) : Int) := by rw [wr1 (by omega)]
      have w2 : wr (((i + 2 : Nat) : Int) + 1) = ((i + 3 : Nat) : Int) := by rw [wr1 (by omega)]
      have skip : ∃ (i' : Nat) (k' : Int), 0 ≤ k' ∧ ((i + 1 : Nat) : Int) = (i' : Int) ∧ ((i + 1 : Nat) : Int) = (i' : Int) ∧ i' ≤ l0.length ∧ Inv l0 l out next i' k' ∧ (did = true → 1 ≤ k') ∧ (did = false → out = List.replicate l0.length false ∧ next = l0.map abs) :=
        ⟨i + 1, k, a0, rfl, rfl, by omega, a4.skip (by omega), a5, a6⟩
      rcases free_law t l (by omega) (i + 1) with ⟨b1, hb1, hi, f1⟩ | ⟨hi, f1⟩
      · rw [hll] at hi
        have cL : decide (((i + 1 : Nat) : Int) < ((l0.map abs).length : Int)) = true := by rw [List.length_map]; exact decide_eq_true (by omega)
        rw [f1, Option.bind_some]
        cases b1
        · obtain ⟨z, v0, v1, v2, v3⟩ := a4.un (i + 1) hi (.inl (by omega))
          have hv0 : (l0.map abs)[i + 1]? = some (abs z) := by rw [List.getElem?_map, v0]; rfl
          -- two
          obtain ⟨x2, y2, ok2, g1, g2, g3⟩ := two_law l0.length x z
          have two_end : ok2 = true → ∃ (I : Inv l0 ((l.set i x2).set (i + 1) (gon z)) ((out.set i ((y2.op.toNat : Int) == 0)).set (i + 1) true) (next.set i y2) (i + 2) (k + 1)), True := by
            intro hok
            obtain ⟨m, hez⟩ := g3 hok
            have nl := not_last h v0 hez
            have sz := h.siz v0
            rcases m with ⟨m1, m2, m3⟩ | ⟨m1, m2, m3, m4, m5⟩
            · have c : ((y2.op.toNat : Int) == 0) = true := by rw [m2]; rfl
              have I1 := a4.goneAt' hi u0 x2 m1 y2 m3
              have I2 := I1.goneAt nl v0 (gon z) rfl
              rw [c]
              exact ⟨I2.less (by have := h.siz u0; omega), trivial⟩
            · have c : ((y2.op.toNat : Int) == 0) = false := by
                have e0 : ((y2.op.toNat : Int) == 0) = (y2.op.toNat == 0) := beq_nat _ 0
                rw [e0, beq_eq_false_iff_ne]
                intro hc
                exact m2 (by rw [← UInt8.toNat_inj]; exact hc)
              have I1 := a4.newAt hi u0 x2 m1 m4
              have I2 := I1.goneAt nl v0 (gon z) rfl
              rw [c, getD_list u3, m3]
              exact ⟨I2.less (by omega), trivial⟩
          have hv1 : (l.set i x2)[i + 1]? = some z := by rw [set_ne _ (by omega)]; exact v1
          have hv3 : (out.set i ((y2.op.toNat : Int) == 0))[i + 1]? = some false := by rw [set_ne _ (by omega)]; exact v3
          -- three
          rcases free_law t l (by omega) (i + 2) with ⟨b2, hb2, hi2, f2⟩ | ⟨hi2, f2⟩
          · rw [hll] at hi2
            have cL2 : decide (((i + 2 : Nat) : Int) < ((l0.map abs).length : Int)) = true := by rw [List.length_map]; exact decide_eq_true (by omega)
            rw [f2]
            cases b2
            · obtain ⟨q, n0, n1, n2, n3⟩ := a4.un (i + 2) hi2 (.inl (by omega))
              have hn0 : (l0.map abs)[i + 2]? = some (abs q) := by rw [List.getElem?_map, n0]; rfl
              obtain ⟨x3, y3, ok3, j1, j2, j3⟩ := three_law l0.length x z q
              have hv1' : (l.set i x3)[i + 1]? = some z := by rw [set_ne _ (by omega)]; exact v1
              have hn1' : ((l.set i x3).set (i + 1) (gon z))[i + 2]? = some q := by rw [set_ne _ (by omega), set_ne _ (by omega)]; exact n1
              have hn3' : (out.set (i + 1) true)[i + 2]? = some false := by rw [set_ne _ (by omega)]; exact n3
              unfold gon at hn1'
              cases hk3 : ok3
              · rw [hk3] at j1 j2
                simp only [Bool.not_true, Bool.not_false, Bool.false_eq_true, if_true, if_false, idxs u1, idxs v1, idxs n1, idxs hu0, idxs hv0, idxs hn0, Option.bind_some, cL, cL2, idxs hb1, idxs hb2, idxs u2, idxs u3, j1, j2, g1, g2]
                cases hk2 : ok2
                · rw [hk2] at g1 g2
                  simp only [Bool.false_eq_true, if_false, wr1 (show i < 4611686018427387904 by omega), Option.bind_some]
                  exact ⟨_, _, rfl, rfl, skip, by dsimp only; omega⟩
                · obtain ⟨I, -⟩ := two_end hk2
                  simp only [if_true, idxs hv3, Int.toNat_natCast, Option.bind_some, idxs hv1, w1]
                  exact ⟨_, _, rfl, rfl, ⟨i + 2, k + 1, by omega, rfl, rfl, by omega, I, fun _ => by omega, fun hc => absurd hc (by simp)⟩, by dsimp only; omega⟩
              · obtain ⟨m, hg3, hez⟩ := j3 hk3
                rw [hk3] at j1 j2
                have nl := not_last h n0 hez
                rcases m with ⟨m1, m2, m3⟩ | ⟨m1, m2, m3, m4, m5⟩
                · rw [m1] at hg3; cases hg3
                · have I1 := a4.newAt hi u0 x3 m1 m4
                  have I2 := I1.goneAt hi2 v0 (gon z) rfl
                  have I3 := I2.goneAt nl n0 (gon q) rfl
                  rw [← m3] at I3
                  have sz1 := h.siz v0
                  have sz2 := h.siz n0
                  simp only [Bool.not_true, Bool.not_false, Bool.false_eq_true, if_true, if_false, idxs u1, idxs v1, idxs n1, idxs hu0, idxs hv0, idxs hn0, Option.bind_some, cL, cL2, idxs hb1, idxs hb2, idxs u2, idxs u3, idxs v3, j1, j2, Int.toNat_natCast, idxs hv1', idxs hn1', idxs hn3', w2]
                  exact ⟨_, _, rfl, rfl, ⟨i + 3, _, by omega, rfl, rfl, by omega, I3, fun _ => by omega, fun hc => absurd hc (by simp)⟩, by dsimp only; omega⟩
            · simp only [Bool.not_true, Bool.not_false, Bool.false_eq_true, if_true, if_false, idxs u1, idxs v1, idxs hu0, idxs hv0, Option.bind_some, cL, cL2, idxs hb1, idxs hb2, idxs u2, idxs u3, g1, g2]
              cases hk2 : ok2
              · simp only [Bool.false_eq_true, if_false, wr1 (show i < 4611686018427387904 by omega), Option.bind_some]
                exact ⟨_, _, rfl, rfl, skip, by dsimp only; omega⟩
              · obtain ⟨I, -⟩ := two_end hk2
                simp only [if_true, idxs hv3, Int.toNat_natCast, Option.bind_some, idxs hv1, w1]
                exact ⟨_, _, rfl, rfl, ⟨i + 2, k + 1, by omega, rfl, rfl, by omega, I, fun _ => by omega, fun hc => absurd hc (by simp)⟩, by dsimp only; omega⟩
          · rw [hll] at hi2
            have cL2 : decide (((i + 2 : Nat) : Int) < ((l0.map abs).length : Int)) = false := by rw [List.length_map]; exact decide_eq_false (by omega)
            rw [f2]
            simp only [Bool.not_true, Bool.not_false, Bool.false_eq_true, if_true, if_false, idxs u1, idxs v1, idxs hu0, idxs hv0, Option.bind_some, cL, cL2, idxs hb1, idxs u2, idxs u3, g1, g2]
            cases hk2 : ok2
            · simp only [Bool.false_eq_true, if_false, wr1 (show i < 4611686018427387904 by omega), Option.bind_some]
              exact ⟨_, _, rfl, rfl, skip, by dsimp only; omega⟩
            · obtain ⟨I, -⟩ := two_end hk2
              simp only [if_true, idxs hv3, Int.toNat_natCast, Option.bind_some, idxs hv1, w1]
              exact ⟨_, _, rfl, rfl, ⟨i + 2, k + 1, by omega, rfl, rfl, by omega, I, fun _ => by omega, fun hc => absurd hc (by simp)⟩, by dsimp only; omega⟩
        · -- led to
          simp only [Bool.not_true, Bool.not_false, Bool.false_eq_true, if_true, if_false, idxs hb1, cL, Option.bind_some, ite_self]
          simp only [wr1 (show i < 4611686018427387904 by omega)]
          exact ⟨_, _, rfl, rfl, skip, by dsimp only; omega⟩
      · rw [hll] at hi
        have cL : decide (((i + 1 : Nat) : Int) < ((l0.map abs).length : Int)) = false := by rw [List.length_map]; exact decide_eq_false (by omega)
        have cL2 : decide (((i + 2 : Nat) : Int) < ((l0.map abs).length : Int)) = false := by rw [List.length_map]; exact decide_eq_false (by omega)
        simp only [f1, cL, cL2, Option.bind_some, Bool.not_false, Bool.false_eq_true, if_true, if_false]
        simp only [wr1 (show i < 4611686018427387904 by omega)]
        exact ⟨_, _, rfl, rfl, skip, by dsimp only; omega⟩
    · right
      have : i = l0.length := by omega
      subst this
      have cL0 : ¬ decide ((l0.length : Int) < ((l0.map abs).length : Int)) = true := by rw [List.length_map]; intro hc; exact absurd (of_decide_eq_true hc) (by omega)
      have cL0' : ¬ decide ((l0.length : Int) < (l.length : Int)) = true := fun hc => absurd (of_decide_eq_true hc) (by omega)
      rw [if_neg cL0, if_neg cL0']
      exact ⟨_, _, rfl, rfl, k, a0, a4, a5, a6⟩) (side0 h)
  rw [e1, e2, Option.bind_some, Option.bind_some]
  exact side_rule h hp
end Go.Proofs.Ytmeodoidfpcjlaa
