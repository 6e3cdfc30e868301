/- Plain law of Opt: jumps go where they come to. -/
import Derived.Test.YtmeodoidfpcjlaaLof
set_option linter.unusedVariables false
set_option linter.unusedSimpArgs false
namespace Go.Proofs.Ytmeodoidfpcjlaa
open Go Go.RowKit Go.Pv

theorem mget_mset {κ ν : Type} [DecidableEq κ] (k k' : κ) (v : ν) : ∀ l : List (κ × ν), mget (mset l k v) k' = if k' = k then some v else mget l k'
  | [] => by simp [mset, mget]
  | p :: r => by
    have ih := mget_mset k k' v r
    simp only [mset]
    by_cases h : k = p.1
    · rw [if_pos h]
      simp only [mget]
      by_cases h2 : k' = k
      · rw [if_pos h2, if_pos h2]
      · rw [if_neg h2, if_neg h2, if_neg (fun e => h2 (e.trans h.symm))]
    · rw [if_neg h]
      simp only [mget]
      by_cases h2 : k' = p.1
      · rw [if_pos h2, if_pos h2, if_neg (fun e => h (e.symm.trans h2))]
      · rw [if_neg h2, if_neg h2, ih]
theorem nodup_le {S : List Nat} {n : Nat} (h : S.Nodup) (hl : ∀ s ∈ S, s < n) : S.length ≤ n := by
  have h1 : S.Perm ((List.range n).filter fun j => decide (j ∈ S)) := by
    rw [List.perm_ext_iff_of_nodup h (List.nodup_range.filter _)]
    intro a
    simp only [List.mem_filter, List.mem_range, decide_eq_true_eq]
    exact ⟨fun ha => ⟨hl a ha, ha⟩, fun ha => ha.2⟩
  rw [h1.length_eq]
  exact Nat.le_trans (List.length_filter_le _ _) (by simp)

/-! ### Ways along jumps -/
inductive CN (nx : Nat → Option Nat) : Nat → Nat → Nat → Prop
  | here {t : Nat} : nx t = none → CN nx t 0 t
  | on {t u k e : Nat} : nx t = some u → CN nx u k e → CN nx t (k + 1) e
theorem CN.inv {nx : Nat → Option Nat} {t u k e : Nat} (h : CN nx t k e) (hu : nx t = some u) : ∃ k', k = k' + 1 ∧ CN nx u k' e := by
  cases h with
  | here hn => rw [hu] at hn; cases hn
  | on hn hc => rw [hu] at hn; cases hn; exact ⟨_, rfl, hc⟩
theorem CN.inv0 {nx : Nat → Option Nat} {t k e : Nat} (h : CN nx t k e) (hu : nx t = none) : k = 0 ∧ e = t := by
  cases h with
  | here hn => exact ⟨rfl, rfl⟩
  | on hn hc => rw [hu] at hn; cases hn
theorem CN.det {nx : Nat → Option Nat} {t k e : Nat} (h : CN nx t k e) : ∀ {k' e' : Nat}, CN nx t k' e' → k' = k ∧ e' = e := by
  induction h with
  | here hn => intro k' e' h'; exact h'.inv0 hn
  | on hn hc ih =>
    intro k' e' h'
    obtain ⟨j, rfl, hj⟩ := h'.inv hn
    obtain ⟨a, b⟩ := ih hj
    exact ⟨by omega, b⟩
theorem CN.end_ {nx : Nat → Option Nat} {t k e : Nat} (h : CN nx t k e) : nx e = none := by
  induction h with
  | here hn => exact hn
  | on hn hc ih => exact ih
open Classical in
noncomputable def thr1 (nx : Nat → Option Nat) (t : Nat) : Nat := if h : ∃ e k, CN nx t k e then h.choose else t
theorem thr1_of {nx : Nat → Option Nat} {t k e : Nat} (h : CN nx t k e) : thr1 nx t = e := by
  unfold thr1
  have hx : ∃ e k, CN nx t k e := ⟨e, k, h⟩
  rw [dif_pos hx]
  obtain ⟨k', hk⟩ := hx.choose_spec
  exact (h.det hk).2
theorem thr1_no {nx : Nat → Option Nat} {t : Nat} (h : ∀ e k, ¬ CN nx t k e) : thr1 nx t = t := by
  unfold thr1
  rw [dif_neg]
  rintro ⟨e, k, hk⟩
  exact h e k hk
theorem CN.lt {nx : Nat → Option Nat} {n : Nat} (hn : ∀ t u, nx t = some u → u < n) {t k e : Nat} (h : CN nx t k e) (ht : t < n) : e < n := by
  induction h with
  | here _ => exact ht
  | on hx _ ih => exact ih (hn _ _ hx)
theorem thr1_lt {nx : Nat → Option Nat} {n t : Nat} (hn : ∀ t u, nx t = some u → u < n) (ht : t < n) : thr1 nx t < n := by
  by_cases h : ∃ e k, CN nx t k e
  · obtain ⟨e, k, h⟩ := h
    rw [thr1_of h]
    exact h.lt hn ht
  · rw [thr1_no (fun e k hk => h ⟨e, k, hk⟩)]
    exact ht
/-- On a way from t0: the places behind, and the one where it stands. -/
structure Way (nx : Nat → Option Nat) (n t0 : Nat) (S : List Nat) (t : Nat) : Prop where
  nd : S.Nodup
  lt : ∀ s ∈ S, s < n
  jm : ∀ s ∈ S, nx s ≠ none
  back : ∀ s ∈ S, ∀ k e, CN nx s k e → ∃ k', k' < k ∧ CN nx t k' e
  from_ : ∀ k e, CN nx t0 k e → ∃ k', CN nx t k' e
  to : ∀ k e, CN nx t k e → ∃ k', CN nx t0 k' e
  tl : t < n
theorem Way.start {nx : Nat → Option Nat} {n t0 : Nat} (h : t0 < n) : Way nx n t0 [] t0 :=
  ⟨List.nodup_nil, fun _ h => absurd h (by simp), fun _ h => absurd h (by simp), fun _ h => absurd h (by simp), fun k e h => ⟨k, h⟩, fun k e h => ⟨k, h⟩, h⟩
theorem Way.step {nx : Nat → Option Nat} {n t0 : Nat} {S : List Nat} {t u : Nat} (h : Way nx n t0 S t) (hu : nx t = some u) (hul : u < n) (ht : t ∉ S) : Way nx n t0 (t :: S) u := by
  refine ⟨List.nodup_cons.mpr ⟨ht, h.nd⟩, fun s hs => ?_, fun s hs => ?_, fun s hs k e hk => ?_, fun k e hk => ?_, fun k e hk => h.to _ _ (.on hu hk), hul⟩
  · rcases List.mem_cons.mp hs with rfl | hs
    · exact h.tl
    · exact h.lt s hs
  · rcases List.mem_cons.mp hs with rfl | hs
    · rw [hu]; simp
    · exact h.jm s hs
  · rcases List.mem_cons.mp hs with rfl | hs
    · obtain ⟨j, rfl, hj⟩ := hk.inv hu
      exact ⟨j, by omega, hj⟩
    · obtain ⟨j, hj, hc⟩ := h.back s hs k e hk
      obtain ⟨i, rfl, hi⟩ := hc.inv hu
      exact ⟨i, by omega, hi⟩
  · obtain ⟨j, hj⟩ := h.from_ k e hk
    obtain ⟨i, rfl, hi⟩ := hj.inv hu
    exact ⟨i, hi⟩
theorem Way.cyc {nx : Nat → Option Nat} {n t0 : Nat} {S : List Nat} {t : Nat} (h : Way nx n t0 S t) (ht : t ∈ S) : thr1 nx t0 = t0 := by
  have no : ∀ k e, ¬ CN nx t k e := by
    intro k
    induction k using Nat.strongRecOn with
    | _ k ih =>
      intro e hk
      obtain ⟨k', h1, h2⟩ := h.back t ht k e hk
      exact ih k' h1 e h2
  refine thr1_no fun e k hk => ?_
  obtain ⟨k', h'⟩ := h.from_ k e hk
  exact no _ _ h'
theorem Way.fin {nx : Nat → Option Nat} {n t0 : Nat} {S : List Nat} {t : Nat} (h : Way nx n t0 S t) (ht : nx t = none) : thr1 nx t0 = t := by
  obtain ⟨k, hk⟩ := h.to 0 t (.here ht)
  exact thr1_of hk
theorem Way.len {nx : Nat → Option Nat} {n t0 : Nat} {S : List Nat} {t : Nat} (h : Way nx n t0 S t) : S.length ≤ n := nodup_le h.nd h.lt
theorem thr1_self {nx : Nat → Option Nat} {t : Nat} (h : nx t = some t) : thr1 nx t = t := by
  have no : ∀ k e, ¬ CN nx t k e := by
    intro k
    induction k with
    | zero => intro e hk; obtain ⟨k', e1, _⟩ := hk.inv h; omega
    | succ k ih => intro e hk; obtain ⟨k', e1, h2⟩ := hk.inv h; exact ih e (by rw [show k = k' by omega]; exact h2)
  exact thr1_no fun e k hk => no k e hk
theorem thr1_here {nx : Nat → Option Nat} {t : Nat} (h : nx t = none) : thr1 nx t = t := thr1_of (.here h)

/-! ### In a list -/
def nxI (l : List It) (t : Nat) : Option Nat := match l[t]? with | some x => if x.in_.Op.toNat = 19 then some x.to.toNat else none | none => none
theorem nxI_j {l : List It} {t : Nat} {x : It} (h : l[t]? = some x) (ho : x.in_.Op.toNat = 19) : nxI l t = some x.to.toNat := by unfold nxI; rw [h]; dsimp only; rw [if_pos ho]
theorem nxI_n {l : List It} {t : Nat} {x : It} (h : l[t]? = some x) (ho : x.in_.Op.toNat ≠ 19) : nxI l t = none := by unfold nxI; rw [h]; dsimp only; rw [if_neg ho]
theorem jmp19 {op : UInt8} (h : op.toNat = 19) : jmp op = true := by unfold jmp; rw [h]; rfl
theorem nxI_lt {l : List It} (h : Good l) (t u : Nat) (hu : nxI l t = some u) : u < l.length := by
  unfold nxI at hu
  cases hx : l[t]? with
  | none => rw [hx] at hu; cases hu
  | some x =>
    rw [hx] at hu
    dsimp only at hu
    split at hu
    · rename_i ho
      cases hu
      have := (h.at_ hx).1.j (jmp19 ho)
      omega
    · cases hu
/-- What an instruction becomes. -/
noncomputable def thrI (l : List It) (x : It) : It := if jmp x.in_.Op = true then ⟨x.in_, (thr1 (nxI l) x.to.toNat : Int), x.gone⟩ else x
theorem end_law (l : List It) (h : Good l) (i : Nat) (x : It) (hx : l[i]? = some x) (hj : jmp x.in_.Op = true) : opt_end l (i : Int) = some (thr1 (nxI l) x.to.toNat : Int) := by
  obtain ⟨hok, hgx⟩ := h.at_ hx
  obtain ⟨j0, j1⟩ := hok.j hj
  obtain ⟨y, hy⟩ := get_of (l := l) (i := x.to.toNat) (by omega)
  have e0 : ((x.to.toNat : Nat) : Int) = x.to := Int.toNat_of_nonneg j0
  unfold opt_end
  rw [idxs hx, Option.bind_some]
  by_cases c : x.to = (i : Int)
  · have cb : (x.to == (i : Int)) = true := by simp [c]
    rw [if_pos cb]
    congr 1
    have ei : x.to.toNat = i := by omega
    by_cases o : x.in_.Op.toNat = 19
    · rw [thr1_self (by rw [ei, nxI_j hx o, ei]), e0]
    · rw [thr1_here (by rw [ei, nxI_n hx o]), e0]
  · have cb : ¬ (x.to == (i : Int)) = true := by rw [beq_iff_eq]; exact c
    rw [if_neg cb, idxz j0 hy, Option.bind_some]
    have o' : ((y.in_.Op.toNat : Int) != 19) = !decide (y.in_.Op.toNat = 19) := by rw [← nat_beq]; rfl
    rw [o']
    by_cases o : y.in_.Op.toNat = 19
    · rw [if_neg (by simp [o])]
      obtain ⟨r, r1, r2⟩ := loopM (body := opt_end_b0 l (i : Int)) (fun s : List (Int × Int) × Int => l.length - (s.1.length))
        (fun s => ∃ S t, s.2 = ((t : Nat) : Int) ∧ s.1.length = S.length ∧ Way (nxI l) l.length x.to.toNat S t ∧ ∀ j : Nat, mget s.1 (j : Int) = if j ∈ S then some 1 else none)
        (Post := fun r => (match r with | .inl p => p | .inr p => p.2) = ((thr1 (nxI l) x.to.toNat : Nat) : Int)) (fun s hs => by
        obtain ⟨m, t'⟩ := s
        obtain ⟨S, t, a1, a2, a3, a4⟩ := hs
        dsimp only at a1 a2 a4
        subst a1
        obtain ⟨z, hz⟩ := get_of (l := l) (i := t) a3.tl
        have oz : ((z.in_.Op.toNat : Int) == 19) = decide (z.in_.Op.toNat = 19) := nat_beq _ 19
        unfold opt_end_b0
        simp only [idxs hz, idxs hx, Option.bind_some, oz]
        by_cases o2 : z.in_.Op.toNat = 19
        · rw [if_pos (by simp [o2]), a4]
          have hzj := (h.at_ hz).1.j (jmp19 o2)
          by_cases hS : t ∈ S
          · right
            rw [if_pos hS, if_pos (by simp)]
            refine ⟨_, rfl, ?_⟩
            dsimp only
            rw [a3.cyc hS, e0]
          · left
            rw [if_neg hS, if_neg (by simp)]
            have st := a3.step (nxI_j hz o2) (by omega) hS
            have hlen := st.len
            have hml : (mset m ((t : Nat) : Int) 1).length = m.length + 1 := by
              have : ∀ m : List (Int × Int), mget m ((t : Nat) : Int) = none → (mset m ((t : Nat) : Int) 1).length = m.length + 1 := by
                intro m
                induction m with
                | nil => intro _; rfl
                | cons p r ih =>
                  intro hm
                  simp only [mget] at hm
                  simp only [mset]
                  by_cases e : ((t : Nat) : Int) = p.1
                  · rw [if_pos e] at hm; cases hm
                  · rw [if_neg e] at hm ⊢
                    rw [List.length_cons, ih hm, List.length_cons]
              exact this m (by rw [a4, if_neg hS])
            refine ⟨_, rfl, ⟨t :: S, z.to.toNat, by dsimp only; omega, by dsimp only; rw [hml, a2]; rfl, st, fun j => ?_⟩, ?_⟩
            · dsimp only
              rw [mget_mset, a4]
              by_cases e : j = t
              · subst e; simp
              · have e' : ¬ ((j : Int) = (t : Int)) := by omega
                rw [if_neg e']
                simp [e]
            · dsimp only
              rw [hml]
              simp only [List.length_cons] at hlen
              omega
        · right
          rw [if_neg (by simp [o2])]
          refine ⟨_, rfl, ?_⟩
          dsimp only
          rw [a3.fin (nxI_n hz o2)]) (s := (([] : List (Int × Int)), x.to)) ⟨[], x.to.toNat, by dsimp only; omega, rfl, Way.start (by omega), fun j => by simp [mget]⟩
      rw [r1, Option.bind_some]
      cases r with
      | inl p => dsimp only at r2 ⊢; rw [r2]
      | inr p => dsimp only at r2 ⊢; rw [r2]
    · rw [if_pos (by simp [o])]
      congr 1
      rw [thr1_here (nxI_n hy o), e0]
theorem opt_threads_law (l : List It) (h : Good l) : ∃ did, opt_threads l = some (l.map (thrI l), did) ∧ (did = true → ∃ x ∈ l, jmp x.in_.Op = true ∧ (thr1 (nxI l) x.to.toNat : Int) ≠ x.to) ∧ (did = false → ∀ x ∈ l, thrI l x = x) := by
  have hle := h.le
  unfold opt_threads
  rw [app_ok (by simp; omega), Option.bind_some, List.nil_append]
  obtain ⟨r, r1, r2, r3, r4, r5⟩ := loop_inv l.length (body := opt_threads_b0 l) (fun i s => s.2.2 = (i : Int) ∧ s.2.1.length = l.length ∧ (∀ j, j < i → s.2.1[j]? = (l[j]?).map (thrI l)) ∧ (∀ j, i ≤ j → s.2.1[j]? = l[j]?) ∧
    (s.1 = true → ∃ x ∈ l, jmp x.in_.Op = true ∧ (thr1 (nxI l) x.to.toNat : Int) ≠ x.to) ∧ (s.1 = false → ∀ j, j < i → ∀ x, l[j]? = some x → thrI l x = x))
    (Post := fun r => r.2.length = l.length ∧ (∀ j, j < l.length → r.2[j]? = (l[j]?).map (thrI l)) ∧ (r.1 = true → ∃ x ∈ l, jmp x.in_.Op = true ∧ (thr1 (nxI l) x.to.toNat : Int) ≠ x.to) ∧ (r.1 = false → ∀ j, j < l.length → ∀ x, l[j]? = some x → thrI l x = x)) (fun i s hi hs => by
    obtain ⟨did, out, k⟩ := s
    obtain ⟨a1, a2, a3, a4, a5, a6⟩ := hs
    dsimp only at a1 a2 a3 a4 a5 a6
    subst a1
    obtain ⟨x, hx⟩ := get_of hi
    have ho : out[i]? = some x := by rw [a4 i (Nat.le_refl _)]; exact hx
    unfold opt_threads_b0
    have cL : decide ((i : Int) < (l.length : Int)) = true := decide_eq_true (by omega)
    simp only [cL, if_true, idxs hx, Option.bind_some, jumps_code, wr1 (show i < 4611686018427387904 by omega), idxs ho, Int.toNat_natCast]
    cases hj : jmp x.in_.Op
    · simp only [Bool.not_false, if_true]
      have hth : thrI l x = x := by unfold thrI; rw [if_neg (by simp [hj])]
      refine ⟨_, rfl, rfl, a2, fun j hjl => ?_, fun j hjl => a4 j (by omega), a5, fun hd j hjl y hy => ?_⟩
      · by_cases e : j = i
        · subst e; dsimp only; rw [ho, hx, Option.map_some, hth]
        · exact a3 j (by omega)
      · by_cases e : j = i
        · subst e; rw [hx] at hy; cases hy; exact hth
        · exact a6 hd j (by omega) y hy
    · simp only [Bool.not_true, Bool.false_eq_true, if_false]
      rw [end_law l h i x hx hj, Option.bind_some]
      have hth : thrI l x = ⟨x.in_, (thr1 (nxI l) x.to.toNat : Int), x.gone⟩ := by unfold thrI; rw [if_pos hj]
      have hset : ∀ j, j < i + 1 → (out.set i ⟨x.in_, (thr1 (nxI l) x.to.toNat : Int), x.gone⟩)[j]? = (l[j]?).map (thrI l) := fun j hjl => by
        by_cases e : j = i
        · subst e; rw [set_at (by omega), hx, Option.map_some, hth]
        · rw [set_ne j e]; exact a3 j (by omega)
      have hset2 : ∀ j, i + 1 ≤ j → (out.set i ⟨x.in_, (thr1 (nxI l) x.to.toNat : Int), x.gone⟩)[j]? = l[j]? := fun j hjl => by
        rw [set_ne j (by omega)]; exact a4 j (by omega)
      cases hd : did
      · simp only [Bool.false_eq_true, if_false]
        refine ⟨_, rfl, rfl, by simpa using a2, hset, hset2, fun hc => ?_, fun hc j hjl y hy => ?_⟩
        · dsimp only at hc
          rw [bne_iff_ne] at hc
          exact ⟨x, List.mem_of_getElem? hx, hj, hc⟩
        · dsimp only at hc
          by_cases e : j = i
          · subst e
            rw [hx] at hy; cases hy
            rw [hth]
            have hc' : (thr1 (nxI l) x.to.toNat : Int) = x.to := by simpa using hc
            rw [hc']
          · exact a6 hd j (by omega) y hy
      · simp only [if_true]
        refine ⟨_, rfl, rfl, by simpa using a2, hset, hset2, fun hc => a5 hd, fun hc => absurd hc (by simp)⟩) (fun s hs => by
    obtain ⟨did, out, k⟩ := s
    obtain ⟨a1, a2, a3, a4, a5, a6⟩ := hs
    dsimp only at a1 a2 a3 a4 a5 a6
    subst a1
    refine ⟨(did, out), ?_, a2, a3, a5, a6⟩
    unfold opt_threads_b0
    rw [if_neg (by simp)]) (s := (false, l, 0)) ⟨rfl, rfl, fun j hj => absurd hj (by omega), fun j hj => rfl, fun hc => absurd hc (by simp), fun _ j hj => absurd hj (by omega)⟩
  rw [r1, Option.bind_some]
  obtain ⟨did, out⟩ := r
  dsimp only at r2 r3 r4 r5
  refine ⟨did, ?_, r4, fun hd x hx => ?_⟩
  · congr 2
    apply List.ext_getElem?
    intro j
    by_cases hj : j < l.length
    · dsimp only
      rw [r3 j hj, List.getElem?_map]
    · dsimp only
      rw [List.getElem?_eq_none (by omega), List.getElem?_eq_none (by simp; omega)]
  · obtain ⟨j, hj⟩ := List.getElem?_of_mem hx
    exact r5 hd j (get_lt hj) x hj
end Go.Proofs.Ytmeodoidfpcjlaa
