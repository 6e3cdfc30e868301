/- Rows cut in place; an element of a row in focus. -/
import Derived.Test.YtkcehlfcfcabmaaGreatPvl
set_option linter.unusedVariables false
set_option linter.unusedSimpArgs false
namespace Go.Pv
open Go Go.RowKit

section
variable {P : Program} {w0 w w' : World} {F0 F : List Nat} {ps rest : List Ck} {m : List (Nat × Value)} {n d : Nat} {ty : TypeId} {pos : String} {aft : Array Edge} {x y z : Operand} {ops : Array Oper} {Q : Exit → Act → World → Prop} {a : Act} {l' : List Oper} {gd : Option (Nat × Bool)} {dd : Option Tmp}
variable {α : Type} {T : Ty α} {enc : α → List Value} {v u : Value} {l r : List α}

/-! ### Cuts in place -/
theorem Els.take_ : ∀ {F : List Nat} {l : List α} {cs : List Value} (k : Nat), Els T w F l cs → ∃ F', Els T w F' (l.take k) (cs.take (k * T.sz)) ∧ ∀ j ∈ F', j ∈ F
  | F, [], cs, k, h => ⟨[], by rw [h.1]; simp [Els], by simp⟩
  | F, x :: l, cs, 0, h => ⟨[], by simp [Els], by simp⟩
  | F, x :: l, cs, k + 1, ⟨c, d, F1, F2, e1, e2, h1, h2, hd⟩ => by
    obtain ⟨F', h3, h4⟩ := Els.take_ k h2
    have hl := T.rd_len (T.own_rd h1)
    subst e1 e2
    refine ⟨F1 ++ F', ⟨c, d.take (k * T.sz), F1, F', ?_, rfl, h1, h3, fun j hj hj' => hd j hj (h4 j hj')⟩, fun j hj => ?_⟩
    · rw [Nat.succ_mul, ← hl, Nat.add_comm, List.take_length_add_append]
    · rw [List.mem_append] at hj ⊢
      rcases hj with hj | hj
      · exact .inl hj
      · exact .inr (h4 j hj)
theorem Els.drop_ : ∀ {F : List Nat} {l : List α} {cs : List Value} (k : Nat), Els T w F l cs → ∃ F', Els T w F' (l.drop k) (cs.drop (k * T.sz)) ∧ ∀ j ∈ F', j ∈ F
  | F, [], cs, k, h => ⟨[], by rw [h.1]; simp [Els], by simp⟩
  | F, x :: l, cs, 0, h => ⟨F, by simpa using h, fun j hj => hj⟩
  | F, x :: l, cs, k + 1, ⟨c, d, F1, F2, e1, e2, h1, h2, hd⟩ => by
    obtain ⟨F', h3, h4⟩ := Els.drop_ k h2
    have hl := T.rd_len (T.own_rd h1)
    subst e1 e2
    refine ⟨F', ?_, fun j hj => by rw [List.mem_append]; exact .inr (h4 j hj)⟩
    rw [List.drop_succ_cons, show (k + 1) * T.sz = c.length + k * T.sz by rw [Nat.succ_mul, hl, Nat.add_comm], List.drop_length_add_append]
    exact h3
theorem slOwn_cut {lo hi : Int} {A : Option Addr} {nn c : Nat} (h : slOwn T w F (.slice A nn c) l) (hr : cutL l lo hi = some r) :
    ∃ F', slOwn T w F' (.slice (if c = lo.toNat then A else A.map (·.add (lo.toNat * T.sz))) (hi.toNat - lo.toNat) (c - lo.toNat)) r ∧ ∀ k ∈ F', k ∈ F := by
  obtain ⟨⟨h0, h1, h2⟩, rfl⟩ := cutL_some hr
  obtain ⟨cs, F1, F2, rfl, hrow, hE, hd⟩ := h
  obtain ⟨G1, hE1, hG1⟩ := hE.take_ hi.toNat
  obtain ⟨G2, hE2, hG2⟩ := hE1.drop_ lo.toNat
  have hcl := hE.len
  have hrl : ((l.take hi.toNat).drop lo.toNat).length = hi.toNat - lo.toNat := by simp; omega
  have hcut : ((cs.take (hi.toNat * T.sz)).drop (lo.toNat * T.sz)).length = (hi.toNat - lo.toNat) * T.sz := by
    have := hE2.len
    rw [this, hrl]
  rcases hrow.2 with ⟨hv, hn, rfl⟩ | ⟨g, o, cap, cur, e, fz, hv, rfl, hg, hnc, hoc, hfz, hcells⟩
  · injection hv with hA hnn hcc
    subst hA hcc
    have e0 : lo.toNat = 0 := by omega
    have e1 : hi.toNat = 0 := by omega
    refine ⟨[] ++ G2, ⟨_, [], G2, rfl, ⟨by rw [hrl]; exact hcut, .inl ⟨by simp [e0, e1], by rw [hrl]; omega, rfl⟩⟩, hE2, by simp⟩, fun k hk => ?_⟩
    simp only [List.nil_append] at hk ⊢
    exact hG1 k (hG2 k hk)
  · injection hv with hA hnn hcc
    subst hA hcc
    refine ⟨[g] ++ G2, ⟨_, [g], G2, rfl, ⟨by rw [hrl]; exact hcut, .inr ?_⟩, hE2, fun k hk hk' => hd k hk (hG1 k (hG2 k hk'))⟩, fun k hk => ?_⟩
    · rw [hrl]
      by_cases hc : c = lo.toNat
      · refine ⟨g, o, c - lo.toNat, cur, e, fz, by rw [if_pos hc], rfl, hg, by omega, ?_, hfz, fun j u hu => ?_⟩
        · rw [hc, Nat.sub_self]; omega
        · have hj := (List.getElem?_eq_some_iff.1 hu).1
          rw [hcut, show hi.toNat - lo.toNat = 0 by omega] at hj
          omega
      · refine ⟨g, o + lo.toNat * T.sz, c - lo.toNat, cur, e, fz, by rw [if_neg hc, Option.map_some, add_mk], rfl, hg, by omega, ?_, hfz, fun j u hu => ?_⟩
        · have : lo.toNat * T.sz + (c - lo.toNat) * T.sz = c * T.sz := by rw [← Nat.add_mul]; congr 1; omega
          omega
        · rw [List.getElem?_drop, List.getElem?_take] at hu
          split at hu
          · rw [← hcells _ _ hu]; congr 1; omega
          · cases hu
    · rw [List.mem_append] at hk ⊢
      rcases hk with hk | hk
      · exact .inl hk
      · exact .inr (hG1 k (hG2 k hk))
theorem SL.cutown {t e sz bytes : Nat} {z : Value → Bool} {lo hi : Int} (hs : SL w0 F0 w (Sl T v l :: ps)) (hb : slB P t e sz bytes z = true) (hz : T.sz = sz) (hr : cutL l lo hi = some r)
    (lo' hi' : Option Int) (hlo : lo' = some lo ∨ (lo' = none ∧ lo = 0)) (hhi : hi' = some hi ∨ (hi' = none ∧ hi = l.length)) : ∃ v', ScA P t v lo' hi' v' ∧ SL w0 F0 w (Sl T v' r :: ps) := by
  obtain ⟨G, hrd⟩ := hs.own_rd (List.mem_cons_self)
  obtain ⟨A, c, rfl⟩ := hrd.form
  obtain ⟨hu, ti, zv, h5, h6, _⟩ := slB_spec hb
  have hcc := cutL_some hr
  obtain ⟨⟨h0, h1, h2⟩, _⟩ := hcc
  obtain ⟨A', c', hv, hc', _⟩ := hrd
  injection hv with hA _ hc
  subst hA hc
  refine ⟨.slice (if c = lo.toNat then A else A.map (·.add (lo.toNat * T.sz))) (hi.toNat - lo.toNat) (c - lo.toNat), fun w m x l' h' kl kh dd ty pos aft g' hx hl' hh' a _ hF => ?_, ?_⟩
  · have hL : (l'.map a.eval = none ∧ lo = 0) ∨ ∃ k, l'.map a.eval = some (.int k lo) := by
      rcases hlo with rfl | ⟨rfl, rfl⟩
      · cases l' with
        | none => exact hl'.elim
        | some y => exact .inr ⟨kl, by rw [Option.map_some, hF.eval hl']⟩
      · cases l' with
        | none => exact .inl ⟨rfl, rfl⟩
        | some y => exact hl'.elim
    have hH : (h'.map a.eval = none ∧ hi = l.length) ∨ ∃ k, h'.map a.eval = some (.int k hi) := by
      rcases hhi with rfl | ⟨rfl, rfl⟩
      · cases h' with
        | none => exact hh'.elim
        | some y => exact .inr ⟨kh, by rw [Option.map_some, hF.eval hh']⟩
      · cases h' with
        | none => exact .inl ⟨rfl, rfl⟩
        | some y => exact hh'.elim
    have := run_slice (P := P) (w := w) (A := A) (c := c) hu h5 h0 h1 h2 hc' hL hH
    simp only [execOp, hF.eval hx, Option.map_none]
    simp [this, h6, hz]
  · obtain ⟨F, ⟨F1, F2, e, g1, g2, hd⟩, hF⟩ := hs.st
    obtain ⟨F1', g3, g4⟩ := slOwn_cut (show slOwn T w F1 (.slice A l.length c) l from g1) hr
    exact ⟨hs.fm, F1' ++ F2, ⟨F1', F2, rfl, g3, g2, fun k hk => hd k (g4 k hk)⟩, fun k hk => hF k (by
      rw [e]
      rw [List.mem_append] at hk ⊢
      rcases hk with hk | hk
      · exact .inl (g4 k hk)
      · exact .inr hk)⟩

/-- A nil interface against nil. -/
theorem run_if_nn {t : TypeId} {ms : Array (String × TypeId)} (hp : P.underlying t = some (.interface ms)) : (Op.equal t .nilIface .nilIface).run P w = .ok true w :=
  run_equal fun d => by simp [Op.equalIn, run_underlying hp]
theorem ex_if_nne {t u : TypeId} {ms : Array (String × TypeId)} (hx : ev m x = some .nilIface) (hp : P.underlying t = some (.interface ms)) : EX P w m ⟨dd, .binOp .eql t x (.const .nilIface) u, ty, pos, aft, gd⟩ (.bool true) w := fun a n hF => by
  simp only [execOp, hF.eval hx]
  simp [eqGuard, Act.eval, binOp, run_if_nn hp]
theorem ex_if_nnn {t u : TypeId} {ms : Array (String × TypeId)} (hx : ev m x = some .nilIface) (hp : P.underlying t = some (.interface ms)) : EX P w m ⟨dd, .binOp .neq t x (.const .nilIface) u, ty, pos, aft, gd⟩ (.bool false) w := fun a n hF => by
  simp only [execOp, hF.eval hx]
  simp [eqGuard, Act.eval, binOp, run_if_nn hp]

/-! ### A field of an element stored -/
theorem SL.fldset (hFl : Flat T enc) {i : Int} {x0 y' : α} {ad : Addr} {o : Nat} {ds : List Value} (hs : SL w0 F0 w (Sl T v l :: ps)) (he : ElAt T.sz v i ad) (hx0 : idx l i = some x0) (hlen : o + ds.length ≤ T.sz) (h1 : ∀ u ∈ ds, u.oneCell' = true)
    (henc : enc y' = (enc x0).take o ++ ds ++ (enc x0).drop (o + ds.length)) : ∃ w', (storeCells (ad.add o) ds).run P w = .ok () w' ∧ SL w0 F0 w' (Sl T v (l.set i.toNat y') :: ps) := by
  obtain ⟨h0, h2, h3⟩ := idx_some hx0
  obtain ⟨A, nn, c, rfl, rfl⟩ := he
  obtain ⟨F, hst, hF0, _, hcl⟩ := SL.open_ (ps := [Sl T (.slice (some A) nn c) l]) hs
  have hrow := hFl.slOwn.1 (Star.of_one hst)
  have hnn : nn = l.length := by
    obtain ⟨A', c', hv, _⟩ := hrow.cells
    injection hv
  subst hnn
  have hil : i.toNat < l.length := by omega
  have hfit : (i.toNat * T.sz + o) + ds.length ≤ l.length * T.sz := by
    have := Nat.mul_le_mul_right T.sz (show i.toNat + 1 ≤ l.length by omega)
    rw [Nat.succ_mul] at this
    omega
  obtain ⟨w', h5, h6, h7⟩ := hrow.write (P := P) (o := i.toNat * T.sz + o) (ys := ds) hfit h1
  refine ⟨w', by rw [add_add']; exact h5, hcl w' [Sl T _ (l.set i.toNat y')] ⟨h7, F, Star.one (p := Sl T _ (l.set i.toNat y')) (hFl.slOwn.2 ?_), fun k hk => .inl hk⟩⟩
  rw [List.length_set, hFl.set l i.toNat y' hil, henc]
  have hx : ((l.flatMap enc).drop (i.toNat * T.sz)).take T.sz = enc x0 := by
    have h8 := hFl.set l i.toNat x0 hil
    have h9 : l.set i.toNat x0 = l := by
      apply List.ext_getElem?
      intro j
      rw [List.getElem?_set]
      by_cases hj : i.toNat = j
      · subst hj; rw [if_pos rfl, if_pos hil, h3]
      · rw [if_neg hj]
    rw [h9] at h8
    rw [h8]
    have hfl := flat_len hFl l
    have hge : i.toNat * T.sz ≤ (l.flatMap enc).length := by rw [hfl]; exact Nat.mul_le_mul_right _ (by omega)
    have hcut : ∀ (A B C : List Value) (k : Nat), A.length = k → ((A ++ B ++ C).drop k).take B.length = B := by
      intro A B C k hk
      subst hk
      rw [List.append_assoc, List.drop_left, List.take_left]
    have h11 := hcut ((l.flatMap enc).take (i.toNat * T.sz)) (enc x0) ((l.flatMap enc).drop (i.toNat * T.sz + T.sz)) (i.toNat * T.sz) (by rw [List.length_take, Nat.min_eq_left hge])
    rw [hFl.len] at h11
    exact h11
  have e1 : (l.flatMap enc).take (i.toNat * T.sz + o) = (l.flatMap enc).take (i.toNat * T.sz) ++ (enc x0).take o := by
    rw [List.take_add, ← hx, List.take_take, Nat.min_eq_left (by omega)]
  have e2 : (l.flatMap enc).drop (i.toNat * T.sz + o + ds.length) = (enc x0).drop (o + ds.length) ++ (l.flatMap enc).drop (i.toNat * T.sz + T.sz) := by
    have h10 : ∀ (L M : List Value) (a b : Nat), a ≤ b → (L.take b).drop a ++ L.drop b = L.drop a := by
      intro L M a b hab
      conv => rhs; rw [← List.take_append_drop b L]
      rw [List.drop_append, List.length_take]
      congr 1
      by_cases hb : b ≤ L.length
      · rw [Nat.min_eq_left hb, Nat.sub_eq_zero_of_le hab, List.drop_zero]
      · rw [List.drop_of_length_le (l := L) (by omega), List.drop_nil]
    have e3 : (l.flatMap enc).drop (i.toNat * T.sz + o + ds.length) = ((l.flatMap enc).drop (i.toNat * T.sz)).drop (o + ds.length) := by rw [List.drop_drop, Nat.add_assoc]
    have e4 : (l.flatMap enc).drop (i.toNat * T.sz + T.sz) = ((l.flatMap enc).drop (i.toNat * T.sz)).drop T.sz := by rw [List.drop_drop]
    rw [e3, e4, ← hx, h10 _ [] _ _ hlen]
  rw [e1, e2] at h6
  simpa [List.append_assoc] using h6
theorem st_setfld (hFl : Flat T enc) {i : Int} {x0 y' : α} {ad : Addr} {t' : TypeId} {o : Nat} {ds : List Value} (hF : Fr a n m) (hs : SL w0 F0 w (Sl T v l :: ps)) (he : ElAt T.sz v i ad) (hx0 : idx l i = some x0) (hx : ev m x = some (.pointer (some (ad.add o)))) (hy : ev m y = some u)
    (hu : u.cells = ⟨ds⟩) (hi : (P.info? t').map (·.size) = some ds.length) (hlen : Nat.ble (o + ds.length) T.sz = true) (h1 : ∀ u ∈ ds, u.oneCell' = true) (henc : enc y' = (enc x0).take o ++ ds ++ (enc x0).drop (o + ds.length))
    (k : ∀ w a, Fr a n m → SL w0 F0 w (Sl T v (l.set i.toNat y') :: ps) → wpList P ops Q l' a w) : wpList P ops Q (⟨none, .store t' x y, ty, pos, aft, none⟩ :: l') a w := by
  obtain ⟨ti, hi, hsz⟩ := Option.map_eq_some_iff.1 hi
  obtain ⟨w', h3, h2⟩ := SL.fldset (P := P) hFl (y' := y') hs he hx0 (Nat.le_of_ble_eq_true hlen) h1 henc
  refine st_opu hF (w' := w') (fun a n hF => ?_) rfl rfl fun a hF => k _ a hF h2
  simp [execOp, hF.eval hx, hF.eval hy, Instr.storeAt, Instr.sureAddr, storeVar, sizeOf, typeInfo, hi, hsz, hu, h3]
end

/-! ### An element in focus: its cells are shown, its own rows lie beside -/
/-- The row v of l, where element i has the cells cs; what element i owns is not part of it. -/
def Foc {α : Type} (T : Ty α) (v : Value) (l : List α) (i : Nat) (cs : List Value) : Ck :=
  ⟨fun w F => ∃ c1 c2 F1 F2 F3, F = F1 ++ (F2 ++ F3) ∧ i < l.length ∧ cs.length = T.sz ∧ rowOwn T.sz w F1 v l.length (c1 ++ cs ++ c2) ∧ Els T w F2 (l.take i) c1 ∧ Els T w F3 (l.drop (i + 1)) c2 ∧ (∀ k ∈ F1, k ∉ F2 ∧ k ∉ F3) ∧ ∀ k ∈ F2, k ∉ F3,
   fun ⟨c1, c2, F1, F2, F3, e, hi, hl, h1, h2, h3, hd, hd'⟩ hk => ⟨c1, c2, F1, F2, F3, e, hi, hl, h1.loc (fun k h => hk k (by simp [e, h])), h2.loc (fun k h => hk k (by simp [e, h])), h3.loc (fun k h => hk k (by simp [e, h])), hd, hd'⟩,
   fun ⟨c1, c2, F1, F2, F3, e, hi, hl, h1, h2, h3, hd, hd'⟩ k hk => by
     rw [e, List.mem_append, List.mem_append] at hk
     rcases hk with hk | hk | hk
     · exact h1.lt k hk
     · exact h2.lt k hk
     · exact h3.lt k hk⟩
section
variable {P : Program} {w0 w w' : World} {F0 F : List Nat} {ps rest : List Ck} {m : List (Nat × Value)} {n d : Nat} {ty : TypeId} {pos : String} {aft : Array Edge} {x y z : Operand} {ops : Array Oper} {Q : Exit → Act → World → Prop} {a : Act} {l' : List Oper} {gd : Option (Nat × Bool)} {dd : Option Tmp}
variable {α : Type} {T : Ty α} {v u : Value} {l r : List α}
theorem Els.split : ∀ {F : List Nat} {l : List α} {cs : List Value} (i : Nat) (x : α), Els T w F l cs → l[i]? = some x →
    ∃ c1 c c2 F1 Fx F2, cs = c1 ++ c ++ c2 ∧ F = F1 ++ (Fx ++ F2) ∧ Els T w F1 (l.take i) c1 ∧ T.own w Fx x c ∧ Els T w F2 (l.drop (i + 1)) c2 ∧ (∀ k ∈ F1, k ∉ Fx ∧ k ∉ F2) ∧ ∀ k ∈ Fx, k ∉ F2
  | _, [], _, i, x, _, hx => by simp at hx
  | F, y :: l, cs, 0, x, ⟨c, d, F1, F2, e1, e2, h1, h2, hd⟩, hx => by
    simp only [List.getElem?_cons_zero, Option.some.injEq] at hx
    subst hx
    exact ⟨[], c, d, [], F1, F2, by simp [e1], by simp [e2], ⟨rfl, rfl⟩, h1, h2, by simp, hd⟩
  | F, y :: l, cs, i + 1, x, ⟨c, d, F1, F2, e1, e2, h1, h2, hd⟩, hx => by
    simp only [List.getElem?_cons_succ] at hx
    obtain ⟨c1, cx, c2, G1, Gx, G2, e3, e4, h3, h4, h5, hd1, hd2⟩ := Els.split i x h2 hx
    subst e1 e2 e3 e4
    refine ⟨c ++ c1, cx, c2, F1 ++ G1, Gx, G2, by simp, by simp, ⟨c, c1, F1, G1, rfl, rfl, h1, h3, fun k hk hk' => hd k hk (by simp [hk'])⟩, h4, by simpa using h5, fun k hk => ?_, hd2⟩
    rw [List.mem_append] at hk
    rcases hk with hk | hk
    · exact ⟨fun h => hd k hk (by simp [h]), fun h => hd k hk (by simp [h])⟩
    · exact hd1 k hk
theorem Els.join {F1 Fx F2 : List Nat} {c1 c c2 : List Value} {i : Nat} {x : α} (hi : i < l.length) (h1 : Els T w F1 (l.take i) c1) (hx : T.own w Fx x c) (h2 : Els T w F2 (l.drop (i + 1)) c2) (hd : ∀ k ∈ F1, k ∉ Fx ∧ k ∉ F2) (hd' : ∀ k ∈ Fx, k ∉ F2) :
    Els T w (F1 ++ (Fx ++ F2)) (l.set i x) (c1 ++ c ++ c2) := by
  have e : l.set i x = l.take i ++ (x :: l.drop (i + 1)) := by rw [List.set_eq_take_append_cons_drop, if_pos hi]
  rw [e, List.append_assoc]
  refine Els.append ⟨c1, c ++ c2, F1, Fx ++ F2, rfl, rfl, h1, ⟨c, c2, Fx, F2, rfl, rfl, hx, h2, hd'⟩, fun k hk hk' => ?_⟩
  rw [List.mem_append] at hk'
  rcases hk' with hk' | hk'
  · exact (hd k hk).1 hk'
  · exact (hd k hk).2 hk'
/-- An element comes into focus. -/
theorem SL.focus {i : Int} {x : α} (hs : SL w0 F0 w (Sl T v l :: ps)) (hx : idx l i = some x) : ∃ cs A c, v = .slice (some A) l.length c ∧ SL w0 F0 w (Foc T v l i.toNat cs :: Dt T x cs :: ps) := by
  obtain ⟨h0, h1, h2⟩ := idx_some hx
  obtain ⟨F, ⟨G1, G2, e, ⟨cs, F1, F2, rfl, hrow, hE, hd⟩, hst, hdis⟩, hF⟩ := hs.st
  obtain ⟨c1, c, c2, H1, Hx, H2, rfl, rfl, g1, g2, g3, gd1, gd2⟩ := hE.split i.toNat x h2
  have hil : i.toNat < l.length := by omega
  have hv : ∃ A c, v = .slice (some A) l.length c := by
    rcases hrow.2 with ⟨_, h, _⟩ | ⟨g, o, cap, cur, e, fz, hv, _⟩
    · omega
    · exact ⟨_, _, hv⟩
  obtain ⟨A, cp, rfl⟩ := hv
  refine ⟨c, A, cp, rfl, hs.fm, (F1 ++ (H1 ++ H2)) ++ (Hx ++ G2), ⟨F1 ++ (H1 ++ H2), Hx ++ G2, rfl, ⟨c1, c2, F1, H1, H2, rfl, hil, T.rd_len (T.own_rd g2), hrow, g1, g3, fun k hk => ⟨fun h => hd k hk (by simp [h]), fun h => hd k hk (by simp [h])⟩, fun k hk => (gd1 k hk).2⟩, ⟨Hx, G2, rfl, g2, hst, fun k hk => hdis k (by simp [hk])⟩, fun k hk hk' => ?_⟩, fun k hk => hF k ?_⟩
  · simp only [List.mem_append] at hk hk'
    rcases hk' with hk' | hk'
    · rcases hk with hk | hk | hk
      · exact hd k hk (by simp [hk'])
      · exact (gd1 k hk).1 hk'
      · exact gd2 k hk' hk
    · exact hdis k (by simp only [List.mem_append]; rcases hk with hk | hk | hk <;> simp [hk]) hk'
  · rw [e]
    simp only [List.mem_append] at hk ⊢
    rcases hk with (hk | hk | hk) | hk | hk <;> simp [hk]
/-- The element goes out of focus. -/
theorem SL.unfocus {i : Nat} {x : α} {cs : List Value} (hs : SL w0 F0 w (Foc T v l i cs :: Dt T x cs :: ps)) : SL w0 F0 w (Sl T v (l.set i x) :: ps) := by
  obtain ⟨F, ⟨G1, G2, e, ⟨c1, c2, F1, F2, F3, rfl, hi, hl, hrow, g1, g3, gd, gd'⟩, ⟨Hx, G3, rfl, g2, hst, hd2⟩, hdis⟩, hF⟩ := hs.st
  refine ⟨hs.fm, (F1 ++ (F2 ++ (Hx ++ F3))) ++ G3, ⟨F1 ++ (F2 ++ (Hx ++ F3)), G3, rfl, ⟨c1 ++ cs ++ c2, F1, F2 ++ (Hx ++ F3), rfl, by rw [List.length_set]; exact hrow, Els.join hi g1 g2 g3 (fun k hk => ⟨fun h => hdis k (by simp [hk]) (by simp [h]), gd' k hk⟩) (fun k hk h => hdis k (by simp [h]) (by simp [hk])), fun k hk hk' => ?_⟩, hst, fun k hk hk' => ?_⟩, fun k hk => hF k ?_⟩
  · simp only [List.mem_append] at hk'
    rcases hk' with hk' | hk' | hk'
    · exact (gd k hk).1 hk'
    · exact hdis k (by simp [hk]) (by simp [hk'])
    · exact (gd k hk).2 hk'
  · simp only [List.mem_append] at hk
    rcases hk with hk | hk | hk | hk
    · exact hdis k (by simp [hk]) (by simp [hk'])
    · exact hdis k (by simp [hk]) (by simp [hk'])
    · exact hd2 k hk hk'
    · exact hdis k (by simp [hk]) (by simp [hk'])
  · rw [e]
    simp only [List.mem_append] at hk ⊢
    rcases hk with (hk | hk | hk | hk) | hk <;> simp [hk]
theorem SL.foc_cells {i : Nat} {cs : List Value} {A : Addr} {k c : Nat} (hs : SL w0 F0 w ps) (hm : Foc T v l i cs ∈ ps) (hv : v = .slice (some A) k c) : Cells w (A.add (i * T.sz)) cs := by
  obtain ⟨F, h1, _⟩ := hs.st
  obtain ⟨G, ⟨c1, c2, F1, F2, F3, rfl, hi, hl, hrow, g1, g3, gd, gd'⟩, _⟩ := star_mem hm h1
  intro j u hu
  have hl1 : c1.length = i * T.sz := by rw [g1.len, List.length_take, Nat.min_eq_left (by omega)]
  have hju := (List.getElem?_eq_some_iff.1 hu).1
  have h2 : (c1 ++ cs ++ c2)[i * T.sz + j]? = some u := by
    rw [List.append_assoc, List.getElem?_append_right (by omega), hl1, Nat.add_sub_cancel_left, List.getElem?_append_left hju]
    exact hu
  obtain ⟨A', c', hv', _, hc⟩ := hrow.cells
  rw [hv] at hv'
  injection hv' with hA _ _
  obtain ⟨ad, rfl, _, h3⟩ := hc _ _ h2
  cases hA
  rw [add_add']
  exact h3
theorem ex_ixfoc {t e sz bytes : Nat} {z : Value → Bool} {i : Int} {A : Addr} {k c : Nat} {kk : IntKind} (hb : slB P t e sz bytes z = true) (hv : v = .slice (some A) k c) (h0 : 0 ≤ i) (h1 : i < k) (hx : ev m x = some v) (hy : ev m y = some (.int kk i)) :
    EX P w m ⟨dd, .indexAddr t x y, ty, pos, aft, gd⟩ (.pointer (some (A.add (i.toNat * sz)))) w := fun a _ hF => by
  subst hv
  obtain ⟨hu, ti, zv, h5, h6, _⟩ := slB_spec hb
  have e1 : (0 ≤ i ∧ i < (k : Int)) := ⟨h0, h1⟩
  simp [execOp, hF.eval hx, hF.eval hy, Instr.indexAt, asIntOf, run_underlying hu, e1, sizeOf, typeInfo, h5, h6]
theorem SL.focset {i o : Nat} {cs ds : List Value} {A : Addr} {k c : Nat} (hs : SL w0 F0 w (Foc T v l i cs :: ps)) (hv : v = .slice (some A) k c) (hlen : o + ds.length ≤ cs.length) (h1 : ∀ u ∈ ds, u.oneCell' = true) :
    ∃ w', (storeCells ((A.add (i * T.sz)).add o) ds).run P w = .ok () w' ∧ SL w0 F0 w' (Foc T v l i (cs.take o ++ ds ++ cs.drop (o + ds.length)) :: ps) := by
  subst hv
  obtain ⟨F, hst, hF0, _, hcl⟩ := SL.open_ (ps := [Foc T (.slice (some A) k c) l i cs]) hs
  obtain ⟨c1, c2, F1, F2, F3, rfl, hi, hl, hrow, g1, g3, gd, gd'⟩ := Star.of_one hst
  have hk : k = l.length := by
    obtain ⟨A', c', hv, _⟩ := hrow.cells
    injection hv
  subst hk
  have hl1 : c1.length = i * T.sz := by rw [g1.len, List.length_take, Nat.min_eq_left (by omega)]
  have hfit : (i * T.sz + o) + ds.length ≤ l.length * T.sz := by
    have := Nat.mul_le_mul_right T.sz (show i + 1 ≤ l.length by omega)
    rw [Nat.succ_mul] at this
    omega
  obtain ⟨w', h5, h6, h7⟩ := hrow.write (P := P) (o := i * T.sz + o) (ys := ds) hfit h1
  have e1 : (c1 ++ cs ++ c2).take (i * T.sz + o) ++ ds ++ (c1 ++ cs ++ c2).drop (i * T.sz + o + ds.length) = c1 ++ (cs.take o ++ ds ++ cs.drop (o + ds.length)) ++ c2 := by
    rw [← hl1, List.append_assoc c1, List.take_length_add_append, Nat.add_assoc, List.drop_length_add_append, List.take_append_of_le_length (by omega), List.drop_append_of_le_length (by omega)]
    simp only [List.append_assoc]
  rw [e1] at h6
  have hF2 : ∀ k ∈ F2, w'.heap[k]? = w.heap[k]? := fun k hk => h7.block k (g1.lt k hk) (fun h => (gd k h).1 hk)
  have hF3 : ∀ k ∈ F3, w'.heap[k]? = w.heap[k]? := fun k hk => h7.block k (g3.lt k hk) (fun h => (gd k h).2 hk)
  refine ⟨w', by rw [add_add']; exact h5, hcl w' [Foc T (.slice (some A) l.length c) l i (cs.take o ++ ds ++ cs.drop (o + ds.length))] ⟨⟨h7.os, h7.tape, h7.output, h7.size, fun k hk hn => h7.block k hk (fun h => hn (by simp [h]))⟩, F1 ++ (F2 ++ F3), Star.one (p := Foc T (.slice (some A) l.length c) l i (cs.take o ++ ds ++ cs.drop (o + ds.length))) ⟨c1, c2, F1, F2, F3, rfl, hi, ?_, h6, g1.loc hF2, g3.loc hF3, gd, gd'⟩, fun k hk => .inl hk⟩⟩
  simp only [List.length_append, List.length_take, List.length_drop]
  omega
theorem st_focset {i o : Nat} {cs ds : List Value} {A : Addr} {k c : Nat} {t' : TypeId} {ad : Addr} (hF : Fr a n m) (hs : SL w0 F0 w (Foc T v l i cs :: ps)) (hv : v = .slice (some A) k c) (hx : ev m x = some (.pointer (some ad))) (had : ad = (A.add (i * T.sz)).add o) (hy : ev m y = some u)
    (hu : u.cells = ⟨ds⟩) (hi : (P.info? t').map (·.size) = some ds.length) (hlen : Nat.ble (o + ds.length) cs.length = true) (h1 : ∀ u ∈ ds, u.oneCell' = true)
    (K : ∀ w a, Fr a n m → SL w0 F0 w (Foc T v l i (cs.take o ++ ds ++ cs.drop (o + ds.length)) :: ps) → wpList P ops Q l' a w) : wpList P ops Q (⟨none, .store t' x y, ty, pos, aft, none⟩ :: l') a w := by
  obtain ⟨ti, hi, hsz⟩ := Option.map_eq_some_iff.1 hi
  obtain ⟨w', h3, h2⟩ := SL.focset (P := P) hs hv (Nat.le_of_ble_eq_true hlen) h1
  subst had
  refine st_opu hF (w' := w') (fun a n hF => ?_) rfl rfl fun a hF => K _ a hF h2
  simp [execOp, hF.eval hx, hF.eval hy, Instr.storeAt, Instr.sureAddr, storeVar, sizeOf, typeInfo, hi, hsz, hu, h3]
/-- What a struct leads to lies beside it: opened, field by field. -/
theorem SL.undpair {β : Type} {B : Ty β} {p : α × β} {cs : List Value} (hs : SL w0 F0 w (Dt (T.pair B) p cs :: ps)) : ∃ c d, cs = c ++ d ∧ SL w0 F0 w (Dt T p.1 c :: Dt B p.2 d :: ps) := by
  obtain ⟨F, ⟨G1, G2, e, ⟨c, d, F1, F2, rfl, rfl, h1, h2, hd⟩, hst, hdis⟩, hF⟩ := hs.st
  refine ⟨c, d, rfl, hs.fm, F1 ++ (F2 ++ G2), ⟨F1, F2 ++ G2, rfl, h1, ⟨F2, G2, rfl, h2, hst, fun k hk => hdis k (by simp [hk])⟩, fun k hk hk' => ?_⟩, fun k hk => hF k (by rw [e]; simpa using hk)⟩
  rw [List.mem_append] at hk'
  rcases hk' with hk' | hk'
  · exact hd k hk hk'
  · exact hdis k (by simp [hk]) hk'
theorem SL.undiso {β : Type} {x : β} {f : β → α} {c : List Value} (hs : SL w0 F0 w (Dt (T.iso f) x c :: ps)) : SL w0 F0 w (Dt T (f x) c :: ps) := hs
theorem SL.undflat {enc : α → List Value} {x : α} {cs : List Value} (hFl : Flat T enc) (hs : SL w0 F0 w (Dt T x cs :: ps)) : cs = enc x ∧ SL w0 F0 w ps := by
  obtain ⟨F, ⟨G1, G2, e, h1, hst, hdis⟩, hF⟩ := hs.st
  obtain ⟨rfl, rfl⟩ := hFl.own.1 h1
  exact ⟨rfl, hs.fm, G2, hst, fun k hk => hF k (by rw [e]; simpa using hk)⟩
theorem SL.f6 {a b c d e f g : Ck} {r : List Ck} (h : SL w0 F0 w (a :: b :: c :: d :: e :: f :: g :: r)) : SL w0 F0 w (g :: a :: b :: c :: d :: e :: f :: r) := h.fr 6 rfl
theorem SL.f7 {a b c d e f g i : Ck} {r : List Ck} (h : SL w0 F0 w (a :: b :: c :: d :: e :: f :: g :: i :: r)) : SL w0 F0 w (i :: a :: b :: c :: d :: e :: f :: g :: r) := h.fr 7 rfl
theorem SL.f8 {a b c d e f g i j : Ck} {r : List Ck} (h : SL w0 F0 w (a :: b :: c :: d :: e :: f :: g :: i :: j :: r)) : SL w0 F0 w (j :: a :: b :: c :: d :: e :: f :: g :: i :: r) := h.fr 8 rfl
theorem SL.f9 {a b c d e f g i j k : Ck} {r : List Ck} (h : SL w0 F0 w (a :: b :: c :: d :: e :: f :: g :: i :: j :: k :: r)) : SL w0 F0 w (k :: a :: b :: c :: d :: e :: f :: g :: i :: j :: r) := h.fr 9 rfl
theorem SL.f10 {a b c d e f g i j k l : Ck} {r : List Ck} (h : SL w0 F0 w (a :: b :: c :: d :: e :: f :: g :: i :: j :: k :: l :: r)) : SL w0 F0 w (l :: a :: b :: c :: d :: e :: f :: g :: i :: j :: k :: r) := h.fr 10 rfl
theorem SL.f11 {a b c d e f g i j k l q : Ck} {r : List Ck} (h : SL w0 F0 w (a :: b :: c :: d :: e :: f :: g :: i :: j :: k :: l :: q :: r)) : SL w0 F0 w (q :: a :: b :: c :: d :: e :: f :: g :: i :: j :: k :: l :: r) := h.fr 11 rfl
theorem SL.f12 {a b c d e f g i j k l q p : Ck} {r : List Ck} (h : SL w0 F0 w (a :: b :: c :: d :: e :: f :: g :: i :: j :: k :: l :: q :: p :: r)) : SL w0 F0 w (p :: a :: b :: c :: d :: e :: f :: g :: i :: j :: k :: l :: q :: r) := h.fr 12 rfl
end
section
variable {P : Program} {m m' : List (Nat × Value)} {n d : Nat} {ops : Array Oper} {C : World → Prop} {v : Value} {rest rest' : List Oper}
theorem QR.gcall {j dj : Nat} {b : Bool} {f : Nat} {args : List Operand} {ats : Array TypeId} {vs : List Value} {ty : TypeId} {pos : String} {aft : Array Edge} (hj : (ops[j]?).bind (·.dst) = some dj) (hb : look m dj = some (.bool b)) (hf : fnB P f = true) (hargs : evs m args = some vs)
    (hc : ∀ w, C w → Calls P f vs.toArray w (Ret fun u w' => u = v ∧ C w')) (k : QR P n ops C ((d, v) :: m) rest m' rest') (hlt : Nat.blt d n = true := by rfl) :
    QR P n ops C m (⟨some d, .call { callee := .value (.func f), args := args.toArray, argTypes := ats }, ty, pos, aft, some (j, b)⟩ :: rest) m' rest' :=
  fun Q a hF k' => by
    unfold wpQuiet
    rw [if_pos (by simp [Region.wanted, yielded_of hF hj hb])]
    refine ⟨v, fun w hw => ?_, ?_⟩
    · unfold Oper.quietAt
      have h2 := hF.evals hargs
      have h1 : (execOp a.eval ⟨some d, .call { callee := .value (.func f), args := args.toArray, argTypes := ats }, ty, pos, aft, some (j, b)⟩).run P w = .ok (.enter f vs.toArray) w := by
        simp [execOp, resolve, Deferred.ofValue, Act.eval, invoke, h2, run_callFunc hf]
      rw [h1]
      exact ⟨rfl, (hc w hw).mono fun e w' ⟨u, he, hu, hw'⟩ => ⟨by rw [he, hu], hw'⟩⟩
    · exact k Q _ (hF.put d v hlt) k'
theorem QR.gcallf {j dj : Nat} {b : Bool} {x : Operand} {f : Nat} {args : List Operand} {ats : Array TypeId} {vs caps : List Value} {ty : TypeId} {pos : String} {aft : Array Edge} (hj : (ops[j]?).bind (·.dst) = some dj) (hb : look m dj = some (.bool b)) (hf : fnB P f = true) (ht : ev m x = some (clo f caps)) (hargs : evs m args = some vs)
    (hc : ∀ w, C w → Calls P f (vs ++ caps).toArray w (Ret fun u w' => u = v ∧ C w')) (k : QR P n ops C ((d, v) :: m) rest m' rest') (hlt : Nat.blt d n = true := by rfl) :
    QR P n ops C m (⟨some d, .call { callee := .value x, args := args.toArray, argTypes := ats }, ty, pos, aft, some (j, b)⟩ :: rest) m' rest' :=
  fun Q a hF k' => by
    unfold wpQuiet
    rw [if_pos (by simp [Region.wanted, yielded_of hF hj hb])]
    refine ⟨v, fun w hw => ?_, ?_⟩
    · unfold Oper.quietAt
      have h2 := hF.evals hargs
      have h1 : (execOp a.eval ⟨some d, .call { callee := .value x, args := args.toArray, argTypes := ats }, ty, pos, aft, some (j, b)⟩).run P w = .ok (.enter f (vs ++ caps).toArray) w := by
        simp [execOp, resolve, Deferred.ofValue, hF.eval ht, invoke, h2, run_callFunc hf]
      rw [h1]
      exact ⟨rfl, (hc w hw).mono fun e w' ⟨u, he, hu, hw'⟩ => ⟨by rw [he, hu], hw'⟩⟩
    · exact k Q _ (hF.put d v hlt) k'
end
theorem rd_sl {α : Type} {T : Ty α} {w : World} {F0 G : List Nat} {x : List α} {cs : List Value} (h : (Ty.slice T).rd w G x cs) (hG : ∀ k ∈ G, k < w.heap.size ∧ k ∉ F0) : ∃ v, cs = [v] ∧ Rd T w F0 v x := by
  obtain ⟨v, rfl, h⟩ := h
  exact ⟨v, rfl, G, h, hG⟩
theorem subcells {cs ds : List Value} (o : Nat) (h : (cs.drop o).take ds.length = ds) : ∀ j u, ds[j]? = some u → cs[o + j]? = some u := by
  intro j u hu
  rw [← h, List.getElem?_take] at hu
  split at hu
  · rw [List.getElem?_drop] at hu; exact hu
  · cases hu
/-! ### Numbers sorted -/
def sortI (l : List Int) : List Int := l.mergeSort fun x y => decide (x ≤ y)
def sortO (l : List Int) : Option (List Int) := if l.length < 4611686018427387904 then some (sortI l) else none
end Go.Pv
