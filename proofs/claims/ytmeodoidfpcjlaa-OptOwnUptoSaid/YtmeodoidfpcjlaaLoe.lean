/- Plain law of Opt: constants; jumps of which it is known. -/
import Derived.Test.YtmeodoidfpcjlaaLod
set_option linter.unusedVariables false
set_option linter.unusedSimpArgs false
namespace Go.Proofs.Ytmeodoidfpcjlaa
open Go Go.RowKit Go.Pv

def gon (x : It) : It := ⟨⟨x.in_.At, x.in_.Op, x.in_.A, x.in_.B⟩, x.to, true⟩
theorem wt_gone {next : List Is} {out : List Bool} {i : Nat} (h : out[i]? = some true) : wt next (goes out) i = 0 := by
  unfold wt
  rw [goes_some h, if_pos rfl]
theorem wt_kept {next : List Is} {out : List Bool} {i : Nat} {y : Is} (h : out[i]? = some false) (hn : next[i]? = some y) : wt next (goes out) i = siz y.op := by
  unfold wt
  rw [goes_some h, if_neg (by simp), hn]
/-- A place goes out. -/
theorem Inv.goneAt {l0 l : List It} {out : List Bool} {next : List Is} {i : Nat} {k : Int} (h : Inv l0 l out next i k) (h1 : i + 1 < l0.length) {x : It} (hx : l0[i]? = some x) (x' : It) (hx' : x'.gone = true) : Inv l0 (l.set i x') (out.set i true) next (i + 1) (k + (siz x.in_.Op : Int)) := by
  obtain ⟨x1, u0, u1, u2, u3⟩ := h.un i (by omega) (.inl (Nat.le_refl _))
  rw [hx] at u0
  cases u0
  have hll := h.ll
  have hlo := h.lo
  refine h.step _ h1 (by simp) (by simp) rfl (fun j hj => set_ne j hj) (fun j hj => set_ne j hj) (fun _ _ => rfl) ⟨x', abs x, set_at (by omega), u2, by rw [hx']; exact set_at (by omega), (h.g.at_ hx).1.p.lt, fun hc => by rw [hx'] at hc; cases hc⟩ hx ?_
  rw [wt_gone (set_at (by omega))]
  omega
/-- A place turns. -/
theorem Inv.newAt {l0 l : List It} {out : List Bool} {next : List Is} {i : Nat} {k : Int} (h : Inv l0 l out next i k) (h1 : i + 1 < l0.length) {x : It} (hx : l0[i]? = some x) (x' : It) (hg : x'.gone = false) (hok : okIt l0.length x') : Inv l0 (l.set i x') out (next.set i (abs x')) (i + 1) (k + (siz x.in_.Op : Int) - (siz x'.in_.Op : Int)) := by
  obtain ⟨x1, u0, u1, u2, u3⟩ := h.un i (by omega) (.inl (Nat.le_refl _))
  rw [hx] at u0
  cases u0
  have hll := h.ll
  have hln := h.ln
  refine h.step _ h1 (by simp) rfl (by simp) (fun j hj => set_ne j hj) (fun _ _ => rfl) (fun j hj => set_ne j hj) ⟨x', abs x', set_at (by omega), set_at (by omega), by rw [hg]; exact u3, hok.p.lt, fun _ => ⟨rfl, hok⟩⟩ hx ?_
  rw [wt_kept u3 (set_at (by omega)), abs_op]
  omega
theorem getD_list {α : Type} {l : List α} {i : Nat} {x : α} (h : l[i]? = some x) : l.set i x = l := by
  apply List.ext_getElem?
  intro j
  rw [List.getElem?_set]
  by_cases e : i = j
  · subst e
    rw [if_pos rfl, if_pos (get_lt h), h]
  · rw [if_neg e]
/-- A place goes out, with another instruction there in the reference's list. -/
theorem Inv.goneAt' {l0 l : List It} {out : List Bool} {next : List Is} {i : Nat} {k : Int} (h : Inv l0 l out next i k) (h1 : i + 1 < l0.length) {x : It} (hx : l0[i]? = some x) (x' : It) (hx' : x'.gone = true) (y : Is) (hy : y.to = -1) : Inv l0 (l.set i x') (out.set i true) (next.set i y) (i + 1) (k + (siz x.in_.Op : Int)) := by
  have hll := h.ll
  have hlo := h.lo
  have hln := h.ln
  refine h.step _ h1 (by simp) (by simp) (by simp) (fun j hj => set_ne j hj) (fun j hj => set_ne j hj) (fun j hj => set_ne j hj) ⟨x', y, set_at (by omega), set_at (by omega), by rw [hx']; exact set_at (by omega), by rw [hy]; omega, fun hc => by rw [hx'] at hc; cases hc⟩ hx ?_
  rw [wt_gone (set_at (by omega))]
  omega
theorem not_last {l0 : List It} (h : Good l0) {j : Nat} {x : It} (hx : l0[j]? = some x) (he : endz x.in_.Op = false) : j + 1 < l0.length := by
  have := get_lt hx
  by_cases e : j + 1 = l0.length
  · obtain ⟨z, hz, hze⟩ := h.last
    rw [show l0.length - 1 = j by omega, hx] at hz
    cases hz
    rw [he] at hze
    cases hze
  · omega
theorem Good.siz {l0 : List It} (h : Good l0) {j : Nat} {x : It} (hx : l0[j]? = some x) : 1 ≤ siz x.in_.Op := siz_pos (by have := (h.at_ hx).1.p.op; rwa [abs_op] at this)
/-- What the two loops share. -/
def Side (l0 : List It) (s1 : List It × Bool × Int) (s2 : List Bool × List Is × Int) : Prop :=
  ∃ (i : Nat) (k : Int), 0 ≤ k ∧ s1.2.2 = (i : Int) ∧ s2.2.2 = (i : Int) ∧ i ≤ l0.length ∧ Inv l0 s1.1 s2.1 s2.2.1 i k ∧ (s1.2.1 = true → 1 ≤ k) ∧ (s1.2.1 = false → s2.1 = List.replicate l0.length false ∧ s2.2.1 = l0.map abs)
def Side2 (l0 : List It) (r1 : List It × Bool) (r2 : List Bool × List Is) : Prop :=
  ∃ k : Int, 0 ≤ k ∧ Inv l0 r1.1 r2.1 r2.2 l0.length k ∧ (r1.2 = true → 1 ≤ k) ∧ (r1.2 = false → r2.1 = List.replicate l0.length false ∧ r2.2 = l0.map abs)
theorem side0 {l0 : List It} (h : Good l0) : Side l0 (l0, false, 0) (List.replicate l0.length false, l0.map abs, 0) :=
  ⟨0, 0, Int.le_refl _, rfl, rfl, by omega, Inv.init h, fun hc => absurd hc (by simp), fun _ => ⟨rfl, rfl⟩⟩
theorem side_rule {l0 : List It} (h : Good l0) {r1 : List It × Bool} {r2 : List Bool × List Is} (hp : Side2 l0 r1 r2) : RuleOK l0 ((opt_left r1.1).bind fun x => some (x, r1.2)) ((provisoref19_left r2.2 r2.1).bind fun x => some x) := by
  obtain ⟨l, did⟩ := r1
  obtain ⟨out, next⟩ := r2
  obtain ⟨k, p0, p1, p2, p3⟩ := hp
  dsimp only at p0 p1 p2 p3
  obtain ⟨l', q1, q2, q3, q4, q5, q6⟩ := p1.done
  dsimp only
  rw [q1, q2]
  refine ⟨l', did, rfl, rfl, q3, q4, ?_, fun hd => ?_⟩
  · cases did
    · simp; omega
    · have := p2 rfl; simp; omega
  · obtain ⟨f1, f2⟩ := p3 hd
    rw [q6, f1, f2, lft_same h]

theorem sure_law (l0 : List It) (h : Good l0) : RuleOK l0 (opt_sure l0) (provisoref19_sure (l0.map abs)) := by
  have hle := h.le
  have hpos := h.pos
  obtain ⟨t, t1, t2, t3⟩ := led_law l0 h
  unfold opt_sure provisoref19_sure
  rw [t1, t2, Option.bind_some, Option.bind_some, List.length_map, mk_ok _ (by omega) (by omega), Option.bind_some, app_ok (by simp; omega), Option.bind_some, List.nil_append]
  obtain ⟨r1, r2, e1, e2, hp⟩ := loopM2 (b1 := opt_sure_b0 t) (b2 := provisoref19_sure_b0 (l0.map abs) t) (fun s => l0.length - s.2.2.toNat) (Side l0) (Post := Side2 l0) (fun s1 s2 hs => by
    obtain ⟨l, did, i1⟩ := s1
    obtain ⟨out, next, i2⟩ := s2
    obtain ⟨i, k, a0, a1, a2, a3, a4, a5, a6⟩ := hs
    dsimp only at a1 a2 a4 a5 a6
    subst a1; subst a2
    have hll := a4.ll
    have hlo := a4.lo
    have hln := a4.ln
    unfold opt_sure_b0 provisoref19_sure_b0
    dsimp only
    rw [wr1 (by omega)]
    by_cases hi : i + 1 < l0.length
    · left
      obtain ⟨x, u0, u1, u2, u3⟩ := a4.un i (by omega) (.inl (Nat.le_refl _))
      obtain ⟨z, v0, v1, v2, v3⟩ := a4.un (i + 1) hi (.inl (by omega))
      have hu0 : (l0.map abs)[i]? = some (abs x) := by rw [List.getElem?_map, u0]; rfl
      have hv0 : (l0.map abs)[i + 1]? = some (abs z) := by rw [List.getElem?_map, v0]; rfl
      obtain ⟨hx, hgx⟩ := h.at_ u0
      obtain ⟨hz, hgz⟩ := h.at_ v0
      obtain ⟨b, hb⟩ := get_of (l := t) (i := i + 1) (by omega)
      have cL : decide (((i + 1 : Nat) : Int) < ((l0.map abs).length : Int)) = true := by rw [List.length_map]; exact decide_eq_true (by omega)
      have cL' : decide (((i + 1 : Nat) : Int) < (l.length : Int)) = true := decide_eq_true (by omega)
      rw [if_pos cL, if_pos cL']
      simp only [idxs u1, idxs v1, idxs hu0, idxs hv0, idxs hb, idxs u2, idxs u3, idxs v3, Option.bind_some, abs_op, Int.toNat_natCast]
      have skip : ∃ (i' : Nat) (k' : Int), 0 ≤ k' ∧ ((i + 1 : Nat) : Int) = (i' : Int) ∧ ((i + 1 : Nat) : Int) = (i' : Int) ∧ i' ≤ l0.length ∧ Inv l0 l out next i' k' ∧ (did = true → 1 ≤ k') ∧ (did = false → out = List.replicate l0.length false ∧ next = l0.map abs) :=
        ⟨i + 1, k, a0, rfl, rfl, by omega, a4.skip (by omega), a5, a6⟩
      have w2 : ((x.in_.Op.toNat : Int) != 2) = !decide (x.in_.Op.toNat = 2) := by rw [← nat_beq]; rfl
      have w20 : ((z.in_.Op.toNat : Int) != 20) = !decide (z.in_.Op.toNat = 20) := by rw [← nat_beq]; rfl
      rw [w2, w20]
      by_cases o2 : x.in_.Op.toNat = 2
      · by_cases o20 : z.in_.Op.toNat = 20
        · cases b
          · have nl := not_last h v0 (endz_no o20 (by decide) (by decide) (by decide))
            have hnj := jmp_no o2 (by decide) (by decide)
            have hzj : jmp z.in_.Op = true := by unfold jmp; rw [o20]; rfl
            have hA : (abs x).a = x.in_.A := by rw [abs_n hnj]
            have hT : (abs z).to = z.to := by rw [abs_j hzj]
            have hto := hz.j hzj
            have fa := hx.p.fa
            rw [hA, abs_op] at fa
            have hwid : (wid x.in_.Op).1 = 1 := by unfold wid; rw [o2]; rfl
            rw [hwid] at fa
            have hsx := siz_2 o2
            have hsz : siz z.in_.Op = 3 := by unfold siz wid; rw [o20]; rfl
            simp only [o2, o20, decide_true, Bool.not_true, Bool.false_eq_true, if_false, hA, hT]
            by_cases hA0 : x.in_.A = 0
            · have c0 : (x.in_.A == 0) = true := by simp [hA0]
              have c1 : (x.in_.A == 1) = false := by simp [hA0]
              simp only [c0, c1, if_true, if_false, Bool.false_eq_true]
              have hv1 : (l.set i (⟨⟨0, 19, 0, 0⟩, z.to, false⟩ : It))[i + 1]? = some z := by rw [set_ne _ (by omega)]; exact v1
              simp only [idxs hv1, Option.bind_some]
              rw [wr1 (by omega)]
              have hok : okIt l0.length (⟨⟨0, 19, 0, 0⟩, z.to, false⟩ : It) := by
                refine ⟨⟨by show (19 : Nat) < 34; decide, .inr (.inr (.inl ⟨rfl, by show (0 : Int) ≤ 0; omega, by show (0 : Int) ≤ 65535; omega⟩)), .inl ⟨rfl, rfl⟩, fun _ => ⟨hto.1, hto.2, rfl⟩, fun hc => absurd hc (by show ¬ (jmp 19 = false); decide)⟩, fun hc => absurd hc (by show ¬ (jmp 19 = false); decide)⟩
              have I1 := a4.newAt hi u0 _ rfl hok
              have I2 := I1.goneAt nl v0 (gon z) rfl
              refine ⟨_, _, rfl, rfl, ⟨i + 2, _, ?_, rfl, rfl, by omega, I2, fun _ => ?_, fun hc => absurd hc (by simp)⟩, by dsimp only; omega⟩
              · show (0 : Int) ≤ k + (siz x.in_.Op : Int) - ((3 : Nat) : Int) + (siz z.in_.Op : Int)
                omega
              · show (1 : Int) ≤ k + (siz x.in_.Op : Int) - ((3 : Nat) : Int) + (siz z.in_.Op : Int)
                omega
            · have hA1 : x.in_.A = 1 := by
                rcases fa with ⟨f, _⟩ | ⟨_, f1, f2, f3⟩ | ⟨f, _⟩ | ⟨f, _⟩
                · omega
                · have := f3 o2; omega
                · omega
                · omega
              have c0 : (x.in_.A == 0) = false := by simp [hA1]
              have c1 : (x.in_.A == 1) = true := by simp [hA1]
              simp only [c0, c1, if_true, if_false, Bool.false_eq_true]
              have hv1 : (l.set i (gon x))[i + 1]? = some z := by rw [set_ne _ (by omega)]; exact v1
              have hu3 : (out.set (i + 1) true)[i]? = some false := by rw [set_ne _ (by omega)]; exact u3
              have hv1' := idxs hv1
              unfold gon at hv1'
              simp only [hv1', idxs hu3, Option.bind_some]
              rw [wr1 (by omega), List.set_comm _ _ (show i + 1 ≠ i by omega)]
              have I1 := a4.goneAt hi u0 (gon x) rfl
              have I2 := I1.goneAt nl v0 (gon z) rfl
              exact ⟨_, _, rfl, rfl, ⟨i + 2, _, by omega, rfl, rfl, by omega, I2, fun _ => by omega, fun hc => absurd hc (by simp)⟩, by dsimp only; omega⟩
          · simp only [o2, o20, decide_true, Bool.not_true, Bool.false_eq_true, if_false, if_true]
            exact ⟨_, _, rfl, rfl, skip, by dsimp only; omega⟩
        · simp only [o2, o20, decide_true, decide_false, Bool.not_true, Bool.not_false, Bool.false_eq_true, if_false, if_true]
          exact ⟨_, _, rfl, rfl, skip, by dsimp only; omega⟩
      · simp only [o2, decide_false, Bool.not_false, if_true]
        exact ⟨_, _, rfl, rfl, skip, by dsimp only; omega⟩
    · right
      have cL : ¬ decide (((i + 1 : Nat) : Int) < ((l0.map abs).length : Int)) = true := by rw [List.length_map]; intro hc; exact absurd (of_decide_eq_true hc) (by omega)
      have cL' : ¬ decide (((i + 1 : Nat) : Int) < (l.length : Int)) = true := fun hc => absurd (of_decide_eq_true hc) (by omega)
      rw [if_neg cL, if_neg cL']
      have I1 := a4.skips (l0.length - i) (by omega)
      rw [show i + (l0.length - i) = l0.length by omega] at I1
      exact ⟨_, _, rfl, rfl, k, a0, I1, a5, a6⟩) (side0 h)
  rw [e1, e2, Option.bind_some, Option.bind_some]
  exact side_rule h hp
end Go.Proofs.Ytmeodoidfpcjlaa
