/- Plain law of Opt: threads, of both. -/
import Derived.Test.YtmeodoidfpcjlaaLog
set_option linter.unusedVariables false
set_option linter.unusedSimpArgs false
namespace Go.Proofs.Ytmeodoidfpcjlaa
open Go Go.RowKit Go.Pv

theorem thrI_op (l : List It) (x : It) : (thrI l x).in_ = x.in_ := by unfold thrI; split <;> rfl
theorem thrI_gone (l : List It) (x : It) : (thrI l x).gone = x.gone := by unfold thrI; split <;> rfl
theorem thrI_j (l : List It) (x : It) (h : jmp x.in_.Op = true) : thrI l x = ⟨x.in_, (thr1 (nxI l) x.to.toNat : Int), x.gone⟩ := by unfold thrI; rw [if_pos h]
theorem cnt_upd {g g' : Nat → Bool} {t : Nat} (h1 : g t = true) (h2 : g' t = false) (h : ∀ j, j ≠ t → g' j = g j) : ∀ n, cnt g' n = cnt g n + if t < n then 1 else 0
  | 0 => rfl
  | n + 1 => by
    simp only [cnt]
    rw [cnt_upd h1 h2 h n]
    by_cases e : n = t
    · subst e
      simp only [h1, h2, if_true, Bool.false_eq_true, if_false]
      rw [if_neg (by omega), if_pos (by omega)]
    · simp only [h n e]
      by_cases e2 : t < n
      · rw [if_pos e2, if_pos (show t < n + 1 by omega)]; omega
      · rw [if_neg e2, if_neg (show ¬ t < n + 1 by omega)]; omega
theorem ref_way (l : List It) (h : Good l) (t0 : Nat) (ht : t0 < l.length) : ∃ (seen : List Bool) (t : Nat) (S : List Nat), loopO (provisoref19_threads_b0 (l.map abs)) (List.replicate l.length false, (t0 : Int)) = some (seen, (t : Int)) ∧ Way (nxI l) l.length t0 S t ∧ seen[t]? = some (decide (t ∈ S)) ∧ (nxI l t = none ∨ t ∈ S) := by
  have hle := h.le
  obtain ⟨r, r1, t, S, r2, r3, r4, r5⟩ := loopM (body := provisoref19_threads_b0 (l.map abs)) (fun s : List Bool × Int => l.length - cnt (fun j => !(s.1[j]?).getD false) l.length)
    (fun s => ∃ S t, s.2 = ((t : Nat) : Int) ∧ s.1.length = l.length ∧ Way (nxI l) l.length t0 S t ∧ ∀ j : Nat, j < l.length → s.1[j]? = some (decide (j ∈ S)))
    (Post := fun r => ∃ (t : Nat) (S : List Nat), r.2 = (t : Int) ∧ Way (nxI l) l.length t0 S t ∧ r.1[t]? = some (decide (t ∈ S)) ∧ (nxI l t = none ∨ t ∈ S)) (fun s hs => by
    obtain ⟨seen, t'⟩ := s
    obtain ⟨S, t, a1, a2, a3, a4⟩ := hs
    dsimp only at a1 a2 a4
    subst a1
    have htl := a3.tl
    obtain ⟨z, hz⟩ := get_of (l := l) (i := t) htl
    have hz' : (l.map abs)[t]? = some (abs z) := by rw [List.getElem?_map, hz]; rfl
    have oz : ((z.in_.Op.toNat : Int) == 19) = decide (z.in_.Op.toNat = 19) := nat_beq _ 19
    unfold provisoref19_threads_b0
    simp only [idxs hz', idxs (a4 t htl), Option.bind_some, abs_op, oz, Int.toNat_natCast]
    by_cases o2 : z.in_.Op.toNat = 19
    · have hj := jmp19 o2
      have hzj := (h.at_ hz).1.j hj
      simp only [o2, decide_true, if_true, abs_j hj]
      by_cases hS : t ∈ S
      · right
        simp only [hS, decide_true, Bool.not_true, Bool.false_eq_true, if_false]
        exact ⟨_, rfl, t, S, rfl, a3, by rw [a4 t htl], .inr hS⟩
      · left
        simp only [hS, decide_false, Bool.not_false, if_true]
        have st := a3.step (nxI_j hz o2) (by omega) hS
        refine ⟨_, rfl, ⟨t :: S, z.to.toNat, by dsimp only; omega, by dsimp only; rw [List.length_set, a2], st, fun j hjl => ?_⟩, ?_⟩
        · dsimp only
          by_cases e : j = t
          · subst e; rw [set_at (by omega)]; simp
          · rw [set_ne j e, a4 j hjl]; simp [e]
        · dsimp only
          have key := cnt_upd (g := fun j => !(seen[j]?).getD false) (g' := fun j => !((seen.set t true)[j]?).getD false) (t := t) (by simp [a4 t htl, hS]) (by simp [set_at (show t < seen.length by omega)]) (fun j hj => by simp [set_ne (l := seen) (x := true) j hj])
          have k1 := key l.length
          rw [if_pos htl] at k1
          have k2 := cnt_le (fun j => !((seen.set t true)[j]?).getD false) l.length
          omega
    · right
      simp only [o2, decide_false, Bool.false_eq_true, if_false]
      exact ⟨_, rfl, t, S, rfl, a3, by rw [a4 t htl], .inl (nxI_n hz o2)⟩) (s := (List.replicate l.length false, (t0 : Int))) ⟨[], t0, rfl, by simp, Way.start ht, fun j hj => by rw [List.getElem?_replicate, if_pos hj]; simp⟩
  obtain ⟨seen, t'⟩ := r
  dsimp only at r2 r4
  subst r2
  exact ⟨seen, t, S, r1, r3, r4, r5⟩
theorem ref_threads_law (l : List It) (h : Good l) : provisoref19_threads (l.map abs) = some ((l.map (thrI l)).map abs) := by
  have hle := h.le
  unfold provisoref19_threads
  rw [loop_map l (fun x => abs (thrI l x)) (fun i hi acc ha => by
    have hx : l[i]? = some l[i] := List.getElem?_eq_getElem hi
    generalize l[i] = x at hx
    have hx' : (l.map abs)[i]? = some (abs x) := by rw [List.getElem?_map, hx]; rfl
    obtain ⟨hok, hgx⟩ := h.at_ hx
    unfold provisoref19_threads_b1
    have cL : decide ((i : Int) < ((l.map abs).length : Int)) = true := by rw [List.length_map]; exact decide_eq_true (by omega)
    simp only [cL, if_true, idxs hx', Option.bind_some, wr1 (show i < 4611686018427387904 by omega)]
    cases hj : jmp x.in_.Op
    · have e0 : thrI l x = x := by unfold thrI; rw [if_neg (by simp [hj])]
      rw [e0, abs_n hj]
      dsimp only
      rw [if_neg (by simp), Option.bind_some, app_ok (by simp; omega)]
      rfl
    · have hto := hok.j hj
      have e0 : thrI l x = ⟨x.in_, (thr1 (nxI l) x.to.toNat : Int), x.gone⟩ := by unfold thrI; rw [if_pos hj]
      have et : ((x.to.toNat : Nat) : Int) = x.to := Int.toNat_of_nonneg hto.1
      rw [e0, abs_j hj, abs_j (x := (⟨x.in_, (thr1 (nxI l) x.to.toNat : Int), x.gone⟩ : It)) hj]
      dsimp only
      rw [if_pos (decide_eq_true hto.1)]
      obtain ⟨y, hy⟩ := get_of (l := l) (i := x.to.toNat) (by omega)
      have hy' : (l.map abs)[x.to.toNat]? = some (abs y) := by rw [List.getElem?_map, hy]; rfl
      have oy : ((y.in_.Op.toNat : Int) == 19) = decide (y.in_.Op.toNat = 19) := nat_beq _ 19
      have fin : ∀ (v : Int), v = (thr1 (nxI l) x.to.toNat : Int) → ((app 4398046511104 acc ([(⟨x.in_.Op, 0, x.in_.B, v⟩ : S_provisoref19_ins)] : List S_provisoref19_ins)).bind fun x213541 => some (Sum.inl (x213541, ((i + 1 : Nat) : Int)))) = (some (.inl (acc ++ [(⟨x.in_.Op, 0, x.in_.B, (thr1 (nxI l) x.to.toNat : Int)⟩ : S_provisoref19_ins)], ((i + 1 : Nat) : Int))) : Option ((List S_provisoref19_ins × Int) ⊕ List S_provisoref19_ins)) := by
        intro v hv
        rw [hv, app_ok (by simp; omega)]
        rfl
      by_cases c : x.to = (i : Int)
      · have cb : ¬ (x.to != (i : Int)) = true := by rw [bne_iff_ne]; exact fun hc => hc c
        rw [if_neg cb, Option.bind_some]
        refine fin _ ?_
        have ei : x.to.toNat = i := by omega
        by_cases o : x.in_.Op.toNat = 19
        · rw [thr1_self (by rw [ei, nxI_j hx o, ei]), et]
        · rw [thr1_here (by rw [ei, nxI_n hx o]), et]
      · have cb : (x.to != (i : Int)) = true := by rw [bne_iff_ne]; exact c
        rw [if_pos cb, idxz hto.1 hy', Option.bind_some, abs_op, oy]
        by_cases o : y.in_.Op.toNat = 19
        · rw [if_pos (by simp [o]), List.length_map, mk_ok _ (by omega) (by omega), Option.bind_some]
          obtain ⟨seen, t, S, q1, q2, q3, q4⟩ := ref_way l h x.to.toNat (by omega)
          rw [et] at q1
          rw [q1, Option.bind_some]
          dsimp only
          rw [idxs q3, Option.bind_some]
          by_cases hS : t ∈ S
          · rw [if_neg (by simp [hS]), Option.bind_some]
            exact fin _ (by rw [q2.cyc hS, et])
          · rw [if_pos (by simp [hS]), Option.bind_some]
            refine fin _ ?_
            rcases q4 with q4 | q4
            · rw [q2.fin q4]
            · exact absurd q4 hS
        · rw [if_neg (by simp [o]), Option.bind_some]
          exact fin _ (by rw [thr1_here (nxI_n hy o), et])) (fun acc => by
    unfold provisoref19_threads_b1
    rw [if_neg (by simp)]), Option.bind_some, List.map_map]
  rfl
theorem thr_good (l : List It) (h : Good l) : Good (l.map (thrI l)) := by
  refine ⟨by rw [List.length_map]; exact h.le, fun y hy => ?_, ?_⟩
  · rw [List.mem_map] at hy
    obtain ⟨x, hx, rfl⟩ := hy
    obtain ⟨hok, hg⟩ := h.ok x hx
    rw [List.length_map]
    cases hj : jmp x.in_.Op
    · have e0 : thrI l x = x := by unfold thrI; rw [if_neg (by simp [hj])]
      rw [e0]
      exact ⟨hok, hg⟩
    · have e0 : thrI l x = ⟨x.in_, (thr1 (nxI l) x.to.toNat : Int), x.gone⟩ := by unfold thrI; rw [if_pos hj]
      have hto := hok.j hj
      have ht := thr1_lt (nx := nxI l) (n := l.length) (t := x.to.toNat) (nxI_lt h) (by omega)
      rw [e0]
      have hp := hok.p
      rw [abs_j hj] at hp
      refine ⟨⟨?_, fun hc => by dsimp only at hc; rw [hj] at hc; cases hc⟩, hg⟩
      rw [abs_j (x := (⟨x.in_, (thr1 (nxI l) x.to.toNat : Int), x.gone⟩ : It)) hj]
      exact ⟨hp.op, hp.fa, hp.fb, fun _ => ⟨Int.natCast_nonneg _, Int.ofNat_lt.mpr ht, rfl⟩, fun hc => by dsimp only at hc; rw [hj] at hc; cases hc⟩
  · obtain ⟨x, hx, he⟩ := h.last
    refine ⟨thrI l x, by rw [List.length_map, List.getElem?_map, hx]; rfl, by rw [thrI_op]; exact he⟩
theorem nxI_thr (l : List It) (s : Nat) : nxI (l.map (thrI l)) s = (nxI l s).map (thr1 (nxI l)) := by
  unfold nxI
  rw [List.getElem?_map]
  cases hx : l[s]? with
  | none => rfl
  | some x =>
    rw [Option.map_some]
    dsimp only
    rw [thrI_op]
    by_cases o : x.in_.Op.toNat = 19
    · rw [if_pos o, if_pos o, Option.map_some]
      have e0 : thrI l x = ⟨x.in_, (thr1 (nxI l) x.to.toNat : Int), x.gone⟩ := by unfold thrI; rw [if_pos (jmp19 o)]
      rw [e0]
      dsimp only
      rw [Int.toNat_natCast]
      rfl
    · rw [if_neg o, if_neg o]; rfl
theorem thr_idem1 (l : List It) (t : Nat) : thr1 (nxI (l.map (thrI l))) (thr1 (nxI l) t) = thr1 (nxI l) t := by
  by_cases h : ∃ e k, CN (nxI l) t k e
  · obtain ⟨e, k, h⟩ := h
    rw [thr1_of h]
    refine thr1_here ?_
    rw [nxI_thr, h.end_]; rfl
  · have no : ∀ (k t e : Nat), (∀ e k, ¬ CN (nxI l) t k e) → ¬ CN (nxI (l.map (thrI l))) t k e := by
      intro k
      induction k with
      | zero =>
        intro t e hn hc
        cases hc with
        | here hx =>
          rw [nxI_thr] at hx
          cases hu : nxI l t with
          | none => exact hn t 0 (.here hu)
          | some u => rw [hu] at hx; cases hx
      | succ k ih =>
        intro t e hn hc
        cases hu : nxI l t with
        | none => exact hn t 0 (.here hu)
        | some u =>
          have hnu : ∀ e k, ¬ CN (nxI l) u k e := fun e k hk => hn e (k + 1) (.on hu hk)
          have hx : nxI (l.map (thrI l)) t = some u := by rw [nxI_thr, hu, Option.map_some, thr1_no hnu]
          obtain ⟨k', e1, hk'⟩ := hc.inv hx
          exact ih u e hnu (by rw [show k = k' by omega]; exact hk')
    have hn : ∀ e k, ¬ CN (nxI l) t k e := fun e k hk => h ⟨e, k, hk⟩
    rw [thr1_no hn]
    exact thr1_no fun e k => no k t e hn
theorem thr_idem (l : List It) (x : It) (h : Good l) (hx : x ∈ l) : thrI (l.map (thrI l)) (thrI l x) = thrI l x := by
  cases hj : jmp x.in_.Op
  · have e0 : thrI l x = x := by unfold thrI; rw [if_neg (by simp [hj])]
    rw [e0]
    unfold thrI
    rw [if_neg (by simp [hj])]
  · have e0 : thrI l x = ⟨x.in_, (thr1 (nxI l) x.to.toNat : Int), x.gone⟩ := by unfold thrI; rw [if_pos hj]
    rw [e0]
    rw [thrI_j (l.map (thrI l)) (⟨x.in_, (thr1 (nxI l) x.to.toNat : Int), x.gone⟩ : It) hj]
    dsimp only
    rw [Int.toNat_natCast, thr_idem1]
theorem threads_law (l : List It) (h : Good l) : ∃ l' did, opt_threads l = some (l', did) ∧ provisoref19_threads (l.map abs) = some (l'.map abs) ∧ Good l' ∧ l'.length = l.length ∧ bytes (l'.map abs) = bytes (l.map abs) ∧ (did = true → l'.map abs ≠ l.map abs) ∧ (did = false → l' = l) ∧ opt_threads l' = some (l', false) := by
  obtain ⟨did, h1, h2, h3⟩ := opt_threads_law l h
  have hg := thr_good l h
  refine ⟨l.map (thrI l), did, h1, ref_threads_law l h, hg, by simp, ?_, fun hd he => ?_, fun hd => ?_, ?_⟩
  · rw [bytes_map, bytes_map, List.map_map]
    congr 1
    apply List.map_congr_left
    intro x _
    show siz (thrI l x).in_.Op = _
    rw [thrI_op]
  · obtain ⟨x, hx, hj, hne⟩ := h2 hd
    obtain ⟨j, hxj⟩ := List.getElem?_of_mem hx
    have := congrArg (fun m => m[j]?) he
    simp only [List.getElem?_map, hxj, Option.map_some] at this
    have e := congrArg S_provisoref19_ins.to (Option.some.inj this)
    have e0 : thrI l x = ⟨x.in_, (thr1 (nxI l) x.to.toNat : Int), x.gone⟩ := by unfold thrI; rw [if_pos hj]
    rw [e0, abs_j hj, abs_j (x := (⟨x.in_, (thr1 (nxI l) x.to.toNat : Int), x.gone⟩ : It)) hj] at e
    exact hne e
  · conv => rhs; rw [← List.map_id l]
    exact List.map_congr_left fun x hx => h3 hd x hx
  · obtain ⟨d2, g1, g2, g3⟩ := opt_threads_law _ hg
    have hall : ∀ x ∈ l.map (thrI l), thrI (l.map (thrI l)) x = x := fun y hy => by
      rw [List.mem_map] at hy
      obtain ⟨x, hx, rfl⟩ := hy
      exact thr_idem l x h hx
    have e : (l.map (thrI l)).map (thrI (l.map (thrI l))) = l.map (thrI l) := by
      conv => rhs; rw [← List.map_id (l.map (thrI l))]
      exact List.map_congr_left hall
    rw [e] at g1
    cases d2
    · exact g1
    · exfalso
      obtain ⟨x, hx, hj, hne⟩ := g2 rfl
      have := congrArg S_opt_item.to (hall x hx)
      unfold thrI at this
      rw [if_pos hj] at this
      exact hne this
end Go.Proofs.Ytmeodoidfpcjlaa
