/- Plain law of Opt: what nothing comes to. -/
import Derived.Test.YtmeodoidfpcjlaaLoi
set_option linter.unusedVariables false
set_option linter.unusedSimpArgs false
namespace Go.Proofs.Ytmeodoidfpcjlaa
open Go Go.RowKit Go.Pv

theorem mget_isSome {κ ν : Type} [DecidableEq κ] (k : κ) : ∀ l : List (κ × ν), (mget l k).isSome = true ↔ k ∈ l.map Prod.fst
  | [] => by simp [mget]
  | p :: r => by
    have ih := mget_isSome k r
    simp only [mget, List.map_cons, List.mem_cons]
    by_cases h : k = p.1
    · rw [if_pos h]; simp [h]
    · rw [if_neg h, ih]; simp [h]
theorem mset_len {κ ν : Type} [DecidableEq κ] (k : κ) (v : ν) : ∀ l : List (κ × ν), mget l k = none → (mset l k v).length = l.length + 1
  | [], _ => rfl
  | p :: r, h => by
    simp only [mget] at h
    simp only [mset]
    by_cases e : k = p.1
    · rw [if_pos e] at h; cases h
    · rw [if_neg e] at h ⊢
      rw [List.length_cons, mset_len k v r h, List.length_cons]

/-! ### What is come to -/
inductive Rch (l : List It) : Nat → Prop
  | zero : Rch l 0
  | next {i j : Nat} : Rch l i → j ∈ sc l i → Rch l j
theorem Rch.lt {l : List It} (h : Good l) {i : Nat} (hi : Rch l i) : i < l.length := by
  cases hi with
  | zero => exact h.pos
  | next _ hj => exact sc_lt h hj
structure Work (l : List It) (S : List Nat) (T : Nat → Prop) : Prop where
  nd : S.Nodup
  r1 : ∀ s ∈ S, Rch l s
  r2 : ∀ s, T s → Rch l s
  cl : ∀ s ∈ S, ∀ j ∈ sc l s, j ∈ S ∨ T j
  z : 0 ∈ S ∨ T 0
theorem Work.skip {l : List It} {S : List Nat} {T T' : Nat → Prop} (h : Work l S T) {x : Nat} (hx : x ∈ S) (h1 : ∀ y, T y → y = x ∨ T' y) (h2 : ∀ y, T' y → T y) : Work l S T' := by
  refine ⟨h.nd, h.r1, fun s hs => h.r2 s (h2 s hs), fun s hs j hj => ?_, ?_⟩
  · rcases h.cl s hs j hj with a | a
    · exact .inl a
    · rcases h1 j a with rfl | a
      · exact .inl hx
      · exact .inr a
  · rcases h.z with a | a
    · exact .inl a
    · rcases h1 0 a with e | a
      · exact .inl (e ▸ hx)
      · exact .inr a
theorem Work.add {l : List It} {S : List Nat} {T T' : Nat → Prop} (h : Work l S T) {x : Nat} (hx : x ∉ S) (ht : T x) (h1 : ∀ y, T y → y = x ∨ T' y) (h2 : ∀ y ∈ sc l x, T' y) (h3 : ∀ y, T' y → T y ∨ y ∈ sc l x) : Work l (x :: S) T' := by
  refine ⟨List.nodup_cons.mpr ⟨hx, h.nd⟩, fun s hs => ?_, fun s hs => ?_, fun s hs j hj => ?_, ?_⟩
  · rcases List.mem_cons.mp hs with rfl | hs
    · exact h.r2 _ ht
    · exact h.r1 s hs
  · rcases h3 s hs with a | a
    · exact h.r2 s a
    · exact .next (h.r2 x ht) a
  · rcases List.mem_cons.mp hs with rfl | hs
    · exact .inr (h2 j hj)
    · rcases h.cl s hs j hj with a | a
      · exact .inl (List.mem_cons_of_mem _ a)
      · rcases h1 j a with rfl | a
        · exact .inl List.mem_cons_self
        · exact .inr a
  · rcases h.z with a | a
    · exact .inl (List.mem_cons_of_mem _ a)
    · rcases h1 0 a with e | a
      · exact .inl (e ▸ List.mem_cons_self)
      · exact .inr a
theorem Work.fin {l : List It} {S : List Nat} {T : Nat → Prop} (h : Work l S T) (ht : ∀ y, ¬ T y) (i : Nat) : Rch l i ↔ i ∈ S := by
  constructor
  · intro hi
    induction hi with
    | zero =>
      rcases h.z with a | a
      · exact a
      · exact absurd a (ht 0)
    | next _ hj ih =>
      rcases h.cl _ ih _ hj with a | a
      · exact a
      · exact absurd a (ht _)
  · exact h.r1 i
theorem Work.len {l : List It} (hg : Good l) {S : List Nat} {T : Nat → Prop} (h : Work l S T) : S.length ≤ l.length := nodup_le h.nd fun s hs => (h.r1 s hs).lt hg

theorem reach_law (l : List It) (h : Good l) (r : List S_api_Instr) (hr : r.length = l.length) (hrl : ∀ i x, l[i]? = some x → r[i]? = some (lay l i x)) :
    ∃ q, flow_Reach r 0 = some q ∧ q.length ≤ l.length ∧ ∀ i, i < l.length → ((ad l i : Int) ∈ q ↔ Rch l i) := by
  have hle := h.le
  have hpos := h.pos
  obtain ⟨m, m1, m2⟩ := addr_law l h r hr hrl
  unfold flow_Reach
  rw [m1, Option.bind_some]
  obtain ⟨c, c1, S, c2, c3, c4⟩ := loopM (body := flow_Reach_b0 r m) (fun s : List (Int × Int) × List Int => (l.length - s.1.length) * 3 + s.2.length)
    (fun s => ∃ S, s.1.length = S.length ∧ (∀ j, j < l.length → mget s.1 (ad l j : Int) = if j ∈ S then some 1 else none) ∧ (∀ a ∈ s.2, ∃ j, j < l.length ∧ a = (ad l j : Int)) ∧ Work l S (fun y => y < l.length ∧ (ad l y : Int) ∈ s.2) ∧ s.2.length ≤ 1 + 2 * S.length)
    (Post := fun c => ∃ S, c.length = S.length ∧ (∀ j, j < l.length → mget c (ad l j : Int) = if j ∈ S then some 1 else none) ∧ Work l S (fun _ => False)) (fun s hs => by
    obtain ⟨come, stack⟩ := s
    obtain ⟨S, a1, a2, a3, a4, a5⟩ := hs
    dsimp only at a1 a2 a3 a4 a5
    have hSl := a4.len h
    rcases List.eq_nil_or_concat stack with rfl | ⟨init, a, rfl⟩
    · right
      refine ⟨come, ?_, S, a1, a2, ?_⟩
      · unfold flow_Reach_b0
        simp
      · exact ⟨a4.nd, a4.r1, fun s hs => hs.elim, fun s hs j hj => by
          rcases a4.cl s hs j hj with b | b
          · exact .inl b
          · exact absurd b.2 (by simp), by
          rcases a4.z with b | b
          · exact .inl b
          · exact absurd b.2 (by simp)⟩
    · left
      simp only [List.concat_eq_append] at a3 a4 a5 ⊢
      obtain ⟨x, hxl, rfl⟩ := a3 a (by simp)
      have hlen : (init ++ [(ad l x : Int)]).length = init.length + 1 := by simp
      have hil : init.length < 100000 := by omega
      unfold flow_Reach_b0
      have cL : decide (((init ++ [(ad l x : Int)]).length : Int) > 0) = true := decide_eq_true (by omega)
      have ew : wr (((init ++ [(ad l x : Int)]).length : Int) - 1) = ((init.length : Nat) : Int) := by rw [hlen, wr_id] <;> omega
      have ei : (init ++ [(ad l x : Int)])[init.length]? = some (ad l x : Int) := by simp
      have ec : cutL (init ++ [(ad l x : Int)]) 0 ((init.length : Nat) : Int) = some init := by rw [cut_ok (by rw [hlen]; omega)]; simp
      simp only [cL, if_true, ew, idxs ei, ec, Option.bind_some, m2 x hxl, Option.isSome_some, Bool.not_true, Bool.false_eq_true, if_false, a2 x hxl, Option.getD_some]
      have T1 : ∀ y, (y < l.length ∧ (ad l y : Int) ∈ init ++ [(ad l x : Int)]) → y = x ∨ (y < l.length ∧ (ad l y : Int) ∈ init) := fun y hy => by
        obtain ⟨b1, b2⟩ := hy
        rcases List.mem_append.mp b2 with b | b
        · exact .inr ⟨b1, b⟩
        · rw [List.mem_singleton] at b
          exact .inl (ad_inj h (by omega) (by omega) (by omega))
      by_cases hS : x ∈ S
      · rw [if_pos hS]
        simp only [Option.getD_some]
        rw [if_pos (by decide)]
        refine ⟨_, rfl, ⟨S, a1, a2, fun a ha => a3 a (List.mem_append_left _ ha), a4.skip hS T1 (fun y hy => ⟨hy.1, List.mem_append_left _ hy.2⟩), by dsimp only; omega⟩, by dsimp only; omega⟩
      · rw [if_neg hS]
        simp only [Option.getD_none]
        rw [if_neg (by decide)]
        obtain ⟨y, hy⟩ := get_of hxl
        obtain ⟨q, q1, q2, q3⟩ := next_law l h x y hy
        rw [idxs (hrl x y hy), Option.bind_some, q1, Option.bind_some, app_ok (by omega), Option.bind_some]
        have ml := mset_len (ad l x : Int) (1 : Int) come (by rw [a2 x hxl, if_neg hS])
        have W := a4.add hS ⟨hxl, by simp⟩ (T' := fun y => y < l.length ∧ (ad l y : Int) ∈ init ++ q) (fun z hz => by
          rcases T1 z hz with b | b
          · exact .inl b
          · exact .inr ⟨b.1, List.mem_append_left _ b.2⟩) (fun z hz => ⟨sc_lt h hz, List.mem_append_right _ ((q3 _).mpr ⟨z, hz, rfl⟩)⟩) (fun z hz => by
          rcases List.mem_append.mp hz.2 with b | b
          · exact .inl ⟨hz.1, List.mem_append_left _ b⟩
          · obtain ⟨j, hj, e⟩ := (q3 _).mp b
            have hjl := sc_lt h hj
            have : z = j := ad_inj h (by omega) (by omega) (by omega)
            exact .inr (this ▸ hj))
        have hW := W.len h
        simp only [List.length_cons] at hW
        refine ⟨_, rfl, ⟨x :: S, by dsimp only; rw [ml, a1]; rfl, fun j hj => ?_, fun a ha => ?_, W, ?_⟩, ?_⟩
        · dsimp only
          rw [mget_mset, a2 j hj]
          by_cases e : j = x
          · subst e; simp
          · have : ¬ ((ad l j : Int) = (ad l x : Int)) := fun hc => e (ad_inj h (by omega) (by omega) (by omega))
            rw [if_neg this]
            simp [e]
        · rcases List.mem_append.mp ha with b | b
          · exact a3 a (List.mem_append_left _ b)
          · obtain ⟨j, hj, e⟩ := (q3 a).mp b
            exact ⟨j, sc_lt h hj, e⟩
        · dsimp only
          simp only [List.length_cons, List.length_append]
          omega
        · dsimp only
          rw [ml]
          simp only [List.length_append, List.length_cons, List.length_nil]
          omega) (s := (([] : List (Int × Int)), ([0] : List Int))) ⟨[], rfl, fun j _ => by simp [mget], fun a ha => ⟨0, hpos, by
      rw [List.mem_singleton] at ha
      rw [ha]; rfl⟩, ⟨List.nodup_nil, fun s hs => absurd hs (by simp), fun s hs => by
      have h0 : (ad l s : Int) = 0 := by simpa using hs.2
      have : s = 0 := ad_inj h (by omega) (by omega) (by show ad l s = 0; omega)
      rw [this]
      exact .zero, fun s hs => absurd hs (by simp), .inr ⟨hpos, by simp [ad, sumR]⟩⟩, by simp⟩
  have hc := c4.len h
  rw [c1, Option.bind_some, rising_law _ (by omega), Option.bind_some]
  refine ⟨_, rfl, by rw [len_sortI, List.length_map]; omega, fun i hi => ?_⟩
  rw [mem_sortI, ← mget_isSome, c3 i hi, c4.fin (fun _ hf => hf) i]
  by_cases hS : i ∈ S
  · simp [hS]
  · simp [hS]

/-! ### Out -/
open Classical in
noncomputable def gn (l : List It) (i : Nat) : Bool := decide (¬ Rch l i)
theorem gn_t {l : List It} {i : Nat} (h : ¬ Rch l i) : gn l i = true := by unfold gn; simp [h]
theorem gn_f {l : List It} {i : Nat} (h : Rch l i) : gn l i = false := by unfold gn; simp [h]
theorem gn_iff {l : List It} {i : Nat} : gn l i = false ↔ Rch l i := by unfold gn; simp
theorem dead_opt (l : List It) (h : Good l) : ∃ dl did, (∃ x20 x718 o1143, opt_laid l = some x20 ∧ flow_Reach x20 0 = some x718 ∧ loopO (opt_dead_b0 x718) (([] : List (Int × Int)), 0) = some o1143 ∧ loopO (opt_dead_b1 l x20 o1143) (l, false, 0) = some (dl, did)) ∧ dl.length = l.length ∧
    (∀ (j : Nat) x, l[j]? = some x → dl[j]? = some (⟨x.in_, x.to, gn l j⟩ : It)) ∧ (did = true → ∃ j, j < l.length ∧ gn l j = true) ∧ (did = false → ∀ j, j < l.length → gn l j = false) := by
  have hle := h.le
  obtain ⟨r, r1, r2, r3⟩ := laid_law l h
  obtain ⟨q, q1, q2, q3⟩ := reach_law l h r r2 r3
  obtain ⟨m, m1, m2⟩ := loop_inv q.length (body := opt_dead_b0 q) (fun i s => s.2 = (i : Int) ∧ ∀ a, mget s.1 a = if a ∈ q.take i then some 1 else none)
    (Post := fun m => ∀ a, mget m a = if a ∈ q then some 1 else none) (fun i s hi hs => by
    obtain ⟨m, k⟩ := s
    obtain ⟨a1, a2⟩ := hs
    dsimp only at a1 a2
    subst a1
    obtain ⟨x, hx⟩ := get_of hi
    unfold opt_dead_b0
    have cL : decide ((i : Int) < (q.length : Int)) = true := decide_eq_true (by omega)
    simp only [cL, if_true, idxs hx, Option.bind_some, wr1 (show i < 4611686018427387904 by omega)]
    refine ⟨_, rfl, rfl, fun a => ?_⟩
    dsimp only
    rw [mget_mset, a2 a, List.take_add_one, hx]
    simp only [Option.toList_some, List.mem_append, List.mem_singleton]
    by_cases e : a = x
    · simp [e]
    · simp [e]) (fun s hs => by
    obtain ⟨m, k⟩ := s
    obtain ⟨a1, a2⟩ := hs
    dsimp only at a1 a2
    subst a1
    refine ⟨m, ?_, fun a => by rw [a2 a, List.take_length]⟩
    unfold opt_dead_b0
    rw [if_neg (by simp)]) (s := (([] : List (Int × Int)), 0)) ⟨rfl, fun a => by simp [mget]⟩
  obtain ⟨d, d1, d2, d3, d4, d5⟩ := loop_inv l.length (body := opt_dead_b1 l r m) (fun i s => s.2.2 = (i : Int) ∧ s.1.length = l.length ∧ (∀ (j : Nat) x, l[j]? = some x → s.1[j]? = some (if j < i then (⟨x.in_, x.to, gn l j⟩ : It) else x)) ∧ (s.2.1 = true → ∃ j, j < l.length ∧ gn l j = true) ∧ (s.2.1 = false → ∀ j, j < i → gn l j = false))
    (Post := fun d => d.1.length = l.length ∧ (∀ (j : Nat) x, l[j]? = some x → d.1[j]? = some (⟨x.in_, x.to, gn l j⟩ : It)) ∧ (d.2 = true → ∃ j, j < l.length ∧ gn l j = true) ∧ (d.2 = false → ∀ j, j < l.length → gn l j = false)) (fun i s hi hs => by
    obtain ⟨dl, did, k⟩ := s
    obtain ⟨a1, a2, a3, a4, a5⟩ := hs
    dsimp only at a1 a2 a3 a4 a5
    subst a1
    obtain ⟨x, hx⟩ := get_of hi
    have hxd := a3 i x hx
    rw [if_neg (by omega)] at hxd
    have e0 : (lay l i x).At = (ad l i : Int) := rfl
    have eg : ((mget m (ad l i : Int)).getD (0 : Int) == 0) = gn l i := by
      rw [m2]
      by_cases hR : Rch l i
      · rw [if_pos ((q3 i hi).mpr hR), gn_f hR]; rfl
      · rw [if_neg (fun hc => hR ((q3 i hi).mp hc)), gn_t hR]; rfl
    have hnew : ∀ j y, l[j]? = some y → (dl.set i (⟨x.in_, x.to, gn l i⟩ : It))[j]? = some (if j < i + 1 then (⟨y.in_, y.to, gn l j⟩ : It) else y) := fun j y hy => by
      by_cases e : j = i
      · subst e
        rw [hx] at hy; cases hy
        rw [set_at (by omega), if_pos (by omega)]
      · rw [set_ne j e, a3 j y hy]
        have : (j < i) ↔ (j < i + 1) := by omega
        simp only [this]
    unfold opt_dead_b1
    have cL : decide ((i : Int) < (l.length : Int)) = true := decide_eq_true (by omega)
    simp only [cL, if_true, idxs (r3 i x hx), idxs hxd, Option.bind_some, wr1 (show i < 4611686018427387904 by omega), Int.toNat_natCast, e0, eg]
    cases did
    · have hse : (dl.set i (⟨⟨x.in_.At, x.in_.Op, x.in_.A, x.in_.B⟩, x.to, gn l i⟩ : It))[i]? = some ⟨x.in_, x.to, gn l i⟩ := set_at (by omega)
      simp only [Bool.false_eq_true, if_false, idxs hse, Option.bind_some]
      refine ⟨_, rfl, rfl, by simpa using a2, hnew, fun hc => ⟨i, hi, hc⟩, fun hc j hj => ?_⟩
      by_cases e : j = i
      · subst e; exact hc
      · exact a5 rfl j (by omega)
    · simp only [if_true]
      exact ⟨_, rfl, rfl, by simpa using a2, hnew, fun _ => a4 rfl, fun hc => absurd hc (by simp)⟩) (fun s hs => by
    obtain ⟨dl, did, k⟩ := s
    obtain ⟨a1, a2, a3, a4, a5⟩ := hs
    dsimp only at a1 a2 a3 a4 a5
    subst a1
    refine ⟨(dl, did), ?_, a2, fun j x hx => by rw [a3 j x hx, if_pos (get_lt hx)], a4, a5⟩
    unfold opt_dead_b1
    rw [if_neg (by simp)]) (s := (l, false, 0)) ⟨rfl, rfl, fun j x hx => by rw [if_neg (by omega)]; exact hx, fun hc => absurd hc (by simp), fun _ j hj => absurd hj (by omega)⟩
  obtain ⟨dl, did⟩ := d
  exact ⟨dl, did, ⟨r, q, m, r1, q1, m1, d1⟩, d2, d3, d4, d5⟩
end Go.Proofs.Ytmeodoidfpcjlaa
