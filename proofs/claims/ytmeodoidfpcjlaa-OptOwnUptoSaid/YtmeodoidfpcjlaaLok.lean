/- Plain law of Opt: dead, of both. -/
import Derived.Test.YtmeodoidfpcjlaaLoj
set_option linter.unusedVariables false
set_option linter.unusedSimpArgs false
namespace Go.Proofs.Ytmeodoidfpcjlaa
open Go Go.RowKit Go.Pv

theorem dead_ref (l : List It) (h : Good l) : ∃ out, (∃ x17 o891, mkO 1 (l.length : Int) false = some x17 ∧ loopO (provisoref19_dead_b0 x17) (x17, 0) = some o891 ∧ loopO (provisoref19_dead_b1 (l.map abs)) (o891, ([0] : List Int)) = some out) ∧ out.length = l.length ∧ ∀ j, j < l.length → out[j]? = some (gn l j) := by
  have hle := h.le
  have hpos := h.pos
  obtain ⟨o, o1, o2, o3⟩ := loop_inv l.length (body := provisoref19_dead_b0 (List.replicate l.length false)) (fun i s => s.2 = (i : Int) ∧ s.1.length = l.length ∧ ∀ j, j < i → s.1[j]? = some true)
    (Post := fun o => o.length = l.length ∧ ∀ j, j < l.length → o[j]? = some true) (fun i s hi hs => by
    obtain ⟨o, k⟩ := s
    obtain ⟨a1, a2, a3⟩ := hs
    dsimp only at a1 a2 a3
    subst a1
    obtain ⟨b, hb⟩ := get_of (l := o) (i := i) (by omega)
    unfold provisoref19_dead_b0
    have cL : decide ((i : Int) < ((List.replicate l.length false).length : Int)) = true := by rw [List.length_replicate]; exact decide_eq_true (by omega)
    simp only [cL, if_true, idxs hb, Option.bind_some, wr1 (show i < 4611686018427387904 by omega), Int.toNat_natCast]
    refine ⟨_, rfl, rfl, by simpa using a2, fun j hj => ?_⟩
    dsimp only
    by_cases e : j = i
    · subst e; exact set_at (by omega)
    · rw [set_ne j e]; exact a3 j (by omega)) (fun s hs => by
    obtain ⟨o, k⟩ := s
    obtain ⟨a1, a2, a3⟩ := hs
    dsimp only at a1 a2 a3
    subst a1
    refine ⟨o, ?_, a2, a3⟩
    unfold provisoref19_dead_b0
    rw [if_neg (by simp)]) (s := (List.replicate l.length false, 0)) ⟨rfl, by simp, fun j hj => absurd hj (by omega)⟩
  obtain ⟨out, p1, S, p2, p3, p4⟩ := loopM (body := provisoref19_dead_b1 (l.map abs)) (fun s : List Bool × List Int => (cnt (fun j => !(s.1[j]?).getD true) l.length) * 3 + s.2.length)
    (fun s => ∃ S, s.1.length = l.length ∧ (∀ j, j < l.length → s.1[j]? = some (decide (j ∉ S))) ∧ (∀ a ∈ s.2, ∃ j, j < l.length ∧ a = (j : Int)) ∧ Work l S (fun y => (y : Int) ∈ s.2) ∧ s.2.length ≤ 1 + 2 * S.length)
    (Post := fun o => ∃ S, o.length = l.length ∧ (∀ j, j < l.length → o[j]? = some (decide (j ∉ S))) ∧ Work l S (fun _ => False)) (fun s hs => by
    obtain ⟨out, open_⟩ := s
    obtain ⟨S, a1, a2, a3, a4, a5⟩ := hs
    dsimp only at a1 a2 a3 a4 a5
    have hSl := a4.len h
    cases open_ with
    | nil =>
      right
      refine ⟨out, ?_, S, a1, a2, ?_⟩
      · unfold provisoref19_dead_b1
        simp
      · exact ⟨a4.nd, a4.r1, fun s hs => hs.elim, fun s hs j hj => by
          rcases a4.cl s hs j hj with b | b
          · exact .inl b
          · exact absurd b (by simp), by
          rcases a4.z with b | b
          · exact .inl b
          · exact absurd b (by simp)⟩
    | cons a tail =>
      left
      obtain ⟨x, hxl, rfl⟩ := a3 a List.mem_cons_self
      have hil : tail.length < 100000 := by simp only [List.length_cons] at a5; omega
      obtain ⟨y, hy⟩ := get_of hxl
      have hy' : (l.map abs)[x]? = some (abs y) := by rw [List.getElem?_map, hy]; rfl
      obtain ⟨hok, hgy⟩ := h.at_ hy
      unfold provisoref19_dead_b1
      have cL : decide ((((x : Int) :: tail).length : Int) > 0) = true := decide_eq_true (by simp only [List.length_cons]; omega)
      have ei : idx ((x : Int) :: tail) 0 = some (x : Int) := rfl
      have ec : cutL ((x : Int) :: tail) 1 (((x : Int) :: tail).length : Int) = some tail := by rw [cut_ok (by simp only [List.length_cons]; omega)]; simp
      simp only [cL, if_true, ei, ec, Option.bind_some, idxs (a2 x hxl), idxs hy', ends_ref, abs_op, Int.toNat_natCast, wr1 (show x < 4611686018427387904 by omega)]
      have T1 : ∀ z : Nat, (z : Int) ∈ (x : Int) :: tail → z = x ∨ (z : Int) ∈ tail := fun z hz => by
        rcases List.mem_cons.mp hz with b | b
        · exact .inl (by omega)
        · exact .inr b
      by_cases hS : x ∈ S
      · simp only [hS, not_true, decide_false, Bool.not_false, if_true]
        refine ⟨_, rfl, ⟨S, a1, a2, fun a ha => a3 a (List.mem_cons_of_mem _ ha), a4.skip hS T1 (fun z hz => List.mem_cons_of_mem _ hz), by dsimp only; simp only [List.length_cons] at a5; omega⟩, by dsimp only; simp only [List.length_cons]; omega⟩
      · simp only [hS, not_false_eq_true, decide_true, Bool.not_true, Bool.false_eq_true, if_false]
        have hsc : sc l x = (if jmp y.in_.Op = true then [y.to.toNat] else []) ++ (if endz y.in_.Op = true then [] else [x + 1]) := by unfold sc; rw [hy]
        -- what comes of it
        have fin : ∀ q : List Int, q = (sc l x).map (fun j : Nat => (j : Int)) → ∃ s', some (.inl (out.set x false, tail ++ q)) = (some (.inl s') : Option ((List Bool × List Int) ⊕ List Bool)) ∧ (∃ S, s'.1.length = l.length ∧ (∀ j, j < l.length → s'.1[j]? = some (decide (j ∉ S))) ∧ (∀ a ∈ s'.2, ∃ j, j < l.length ∧ a = (j : Int)) ∧ Work l S (fun y => (y : Int) ∈ s'.2) ∧ s'.2.length ≤ 1 + 2 * S.length) ∧ (cnt (fun j => !(s'.1[j]?).getD true) l.length) * 3 + s'.2.length < (cnt (fun j => !(out[j]?).getD true) l.length) * 3 + ((x : Int) :: tail).length := by
          rintro q rfl
          have W := a4.add hS List.mem_cons_self (T' := fun z => (z : Int) ∈ tail ++ (sc l x).map (fun j : Nat => (j : Int))) (fun z hz => by
            rcases T1 z hz with b | b
            · exact .inl b
            · exact .inr (List.mem_append_left _ b)) (fun z hz => List.mem_append_right _ (List.mem_map_of_mem hz)) (fun z hz => by
            rcases List.mem_append.mp hz with b | b
            · exact .inl (List.mem_cons_of_mem _ b)
            · rw [List.mem_map] at b
              obtain ⟨j, hj, e⟩ := b
              have : j = z := by omega
              exact .inr (this ▸ hj))
          have hW := W.len h
          have hq : (sc l x).length ≤ 2 := by
            rw [hsc, List.length_append]
            cases jmp y.in_.Op <;> cases endz y.in_.Op <;> simp
          have key := cnt_upd (g := fun j => !((out.set x false)[j]?).getD true) (g' := fun j => !(out[j]?).getD true) (t := x) (by simp [set_at (show x < out.length by omega)]) (by simp [a2 x hxl, hS]) (fun j hj => by simp [set_ne (l := out) (x := false) j hj]) l.length
          rw [if_pos hxl] at key
          refine ⟨_, rfl, ⟨x :: S, by simpa using a1, fun j hj => ?_, fun a ha => ?_, W, ?_⟩, ?_⟩
          · dsimp only
            by_cases e : j = x
            · subst e; rw [set_at (by omega)]; simp
            · rw [set_ne j e, a2 j hj]; simp [e]
          · rcases List.mem_append.mp ha with b | b
            · exact a3 a (List.mem_cons_of_mem _ b)
            · rw [List.mem_map] at b
              obtain ⟨j, hj, e⟩ := b
              exact ⟨j, sc_lt h hj, e.symm⟩
          · dsimp only
            simp only [List.length_cons, List.length_append, List.length_map] at a5 ⊢
            omega
          · dsimp only
            simp only [List.length_cons, List.length_append, List.length_map]
            omega
        cases hj : jmp y.in_.Op
        · have hneg : ¬ decide ((abs y).to ≥ 0) = true := by rw [abs_n hj]; simp
          rw [if_neg hneg]
          cases he : endz y.in_.Op
          · simp only [Bool.not_false, if_true]
            rw [app_ok (by simp; omega), Option.bind_some]
            exact fin _ (by rw [hsc, hj, he]; rfl)
          · simp only [Bool.not_true, Bool.false_eq_true, if_false]
            have := fin [] (by rw [hsc, hj, he]; rfl)
            rw [List.append_nil] at this
            exact this
        · have hto := hok.j hj
          have hpos' : decide ((abs y).to ≥ 0) = true := by rw [abs_j hj]; exact decide_eq_true hto.1
          have et : ((y.to.toNat : Nat) : Int) = y.to := Int.toNat_of_nonneg hto.1
          rw [if_pos hpos', abs_j hj]
          dsimp only
          rw [app_ok (by simp; omega), Option.bind_some]
          cases he : endz y.in_.Op
          · simp only [Bool.not_false, if_true]
            rw [app_ok (by simp; omega), Option.bind_some, List.append_assoc]
            exact fin _ (by rw [hsc, hj, he]; simp [et])
          · simp only [Bool.not_true, Bool.false_eq_true, if_false]
            exact fin _ (by rw [hsc, hj, he]; simp [et])) (s := (o, ([0] : List Int))) ⟨[], o2, fun j hj => by rw [o3 j hj]; simp, fun a ha => ⟨0, hpos, by rw [List.mem_singleton] at ha; rw [ha]; rfl⟩, ⟨List.nodup_nil, fun s hs => absurd hs (by simp), fun s hs => by
      have : s = 0 := by simpa using hs
      rw [this]
      exact .zero, fun s hs => absurd hs (by simp), .inr (by simp)⟩, by simp⟩
  refine ⟨out, ⟨_, o, mk_ok _ (by omega) (by omega), o1, p1⟩, p2, fun j hj => ?_⟩
  rw [p3 j hj]
  congr 1
  by_cases hR : Rch l j
  · rw [gn_f hR]; simp [(p4.fin (fun _ hf => hf) j).mp hR]
  · have hS : j ∉ S := fun hc => hR ((p4.fin (fun _ hf => hf) j).mpr hc)
    rw [gn_t hR]
    exact decide_eq_true hS
theorem dead_law (l : List It) (h : Good l) : RuleOK l (opt_dead l) (provisoref19_dead (l.map abs)) := by
  obtain ⟨dl, did, ⟨x20, x718, o1143, a1, a2, a3, a4⟩, d1, d2, d3, d4⟩ := dead_opt l h
  obtain ⟨out, ⟨x17, o891, b1, b2, b3⟩, e1, e2⟩ := dead_ref l h
  have hgo : ∀ j, j < l.length → goes out j = gn l j := fun j hj => goes_some (e2 j hj)
  have hlm : (l.map abs).length = l.length := List.length_map _
  have hgI : ∀ (i : Nat) (y : Is), (l.map abs)[i]? = some y → ∃ x, l[i]? = some x ∧ y = abs x := fun i y hy => by
    rw [List.getElem?_map] at hy
    cases hx : l[i]? with
    | none => rw [hx] at hy; cases hy
    | some x => rw [hx] at hy; exact ⟨x, rfl, (Option.some.inj hy).symm⟩
  obtain ⟨l', q1, q2, q3, q4⟩ := left_good dl (l.map abs) out (by rw [hlm]; exact h.le) ⟨by rw [d1, hlm], by rw [e1, hlm], fun i x hx => by
    have hi := get_lt hx
    rw [d1] at hi
    obtain ⟨z, hz⟩ := get_of hi
    rw [d2 i z hz] at hx
    cases hx
    obtain ⟨hok, hgz⟩ := h.at_ hz
    refine ⟨e2 i hi, fun _ => ⟨?_, ?_⟩⟩
    · rw [List.getElem?_map, hz]; rfl
    · rw [hlm]
      exact ⟨hok.p, hok.z⟩, fun y hy => by
    rw [List.mem_map] at hy
    obtain ⟨x, hx, rfl⟩ := hy
    rw [hlm]
    exact (h.ok x hx).1.p.lt⟩ ⟨fun i y hy hg => by
    obtain ⟨x, hx, rfl⟩ := hgI i y hy
    have hi := get_lt hx
    rw [hgo i hi] at hg
    have hR := gn_iff.mp hg
    obtain ⟨hok, hgx⟩ := h.at_ hx
    rw [hlm, abs_op]
    have hsc : sc l i = (if jmp x.in_.Op = true then [x.to.toNat] else []) ++ (if endz x.in_.Op = true then [] else [i + 1]) := by unfold sc; rw [hx]
    refine ⟨hok.p, fun hj => ?_, fun he => ?_⟩
    · have hto := hok.j hj
      refine ⟨x.to.toNat, by rw [abs_j hj]; dsimp only; omega, by omega, ?_⟩
      rw [hgo _ (by omega)]
      exact gn_f (hR.next (by rw [hsc, hj]; simp))
    · have hi1 := not_last h hx he
      refine ⟨i + 1, by omega, hi1, ?_⟩
      rw [hgo _ hi1]
      exact gn_f (hR.next (by rw [hsc, he]; simp)), ⟨0, by rw [hlm]; exact h.pos, by rw [hgo 0 h.pos]; exact gn_f .zero⟩⟩
  unfold opt_dead provisoref19_dead
  rw [a1, Option.bind_some, a2, Option.bind_some, a3, Option.bind_some, a4, Option.bind_some, hlm, b1, Option.bind_some, b2, Option.bind_some, b3, Option.bind_some]
  dsimp only
  rw [q1, q2]
  refine ⟨l', did, rfl, rfl, q4, ?_, ?_, fun hd => ?_⟩
  · have : (l'.map abs).length = cnt (goes out) (l.map abs).length := by rw [q3, len_lft]
    rw [List.length_map, hlm] at this
    rw [this]
    exact cnt_le _ _
  · rw [q3, bytes_lft, bytes_range, hlm]
    have hw : ∀ j, j < l.length → wt (l.map abs) (goes out) j ≤ wt (l.map abs) (fun _ => false) j := fun j hj => by
      unfold wt
      split
      · omega
      · rw [if_neg (by simp)]; exact Nat.le_refl _
    cases did
    · simp only [Bool.false_eq_true, if_false, Nat.add_zero]
      exact sumR_le hw
    · simp only [if_true]
      obtain ⟨j, hj, hg⟩ := d3 rfl
      refine sumR_lt hw ⟨j, hj, ?_⟩
      obtain ⟨x, hx⟩ := get_of hj
      rw [wt0 hx]
      unfold wt
      rw [hgo j hj, hg, if_pos rfl]
      exact h.siz hx
  · rw [q3]
    apply lft_all
    · intro j hj
      rw [hlm] at hj
      rw [hgo j hj]
      exact d4 hd j hj
    · intro y hy
      rw [List.mem_map] at hy
      obtain ⟨x, hx, rfl⟩ := hy
      rw [hlm]
      exact (h.ok x hx).1.p.lt
end Go.Proofs.Ytmeodoidfpcjlaa
