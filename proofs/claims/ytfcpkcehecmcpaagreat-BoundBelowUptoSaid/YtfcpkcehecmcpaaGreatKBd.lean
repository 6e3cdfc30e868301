/- Lemmas, walks and laws that the row of this claim rests on, merged into few texts: part 4. -/
import Derived.Test.YtfcpkcehecmcpaaGreatProg
import Derived.Test.YtfcpkcehecmcpaaGreatKBc
set_option linter.unusedVariables false
set_option linter.unusedSimpArgs false
open Option renaming bind_some → An9
open List renaming getElem?_eq_getElem → Aoa, length_append → Aob, mem_singleton → Aoc, mem_cons → Aod, mem_map → Aoe, getElem_mem → Aof, length_cons → Aog
open Int renaming toNat_natCast → Aoh, eq_ofNat_of_zero_le → Aoi
namespace Go.Proofs.YtfcpkcehecmcpaaGreat
open Go Go.RowKit Go.Pv Go.Proofs.Tryz
inductive Cj (cs : List (List Int)) : Nat → Nat → Prop
 | refl (i : Nat) : Cj cs i i
 | step {i j k : Nat} (h : Cj cs i j) (hk : (k : Int) ∈ (cs[j]?).getD []) : Cj cs i k
theorem Cj.trans {cs : List (List Int)} {i j k : Nat} (h : Cj cs i j) (h2 : Cj cs j k) : Cj cs i k := by
 induction h2 with
 | refl => exact h
 | step _ hk ih => exact Cj.step ih hk
theorem Cj.one {cs : List (List Int)} {i k : Nat} (hk : (k : Int) ∈ (cs[i]?).getD []) : Cj cs i k := Cj.step (Cj.refl i) hk
theorem VC.at_ {n : Nat} {cs : List (List Int)} (hT : VC n cs) {i : Nat} {y : Int} (h : y ∈ (cs[i]?).getD []) : 0 ≤ y ∧ y < n := by
 rcases hc : cs[i]? with _ | c
 ·rw [hc] at h; cases h
 ·rw [hc] at h
  exact (hT.2 c (List.mem_of_getElem? hc)).2 y h
theorem Cj.lt {n : Nat} {cs : List (List Int)} (hT : VC n cs) {i j : Nat} (hi : i < n) (h : Cj cs i j) : j < n := by
 induction h with
 | refl => exact hi
 | step _ hk _ => have := hT.at_ hk; omega
theorem Wm {l : List Bool} {i : Nat} : (l[i]?).getD false = true ↔ l[i]? = some true := by
 rcases h : l[i]? with _ | _ | _ <;> simp
theorem Ab7 {n : Nat} (hn : n ≤ 1048576) {cs : List (List Int)} (hc : cs.length = n) {from_ : List Int} (hf : from_.length ≤ 1048576) {met : List Bool} (hm : met.length = n) (h1 : AQ (Ef cs) (List.replicate n false, from_) = some met) :
  E4 cs from_ = some (ints ((List.range n).filter fun i => (met[i]?).getD false)) := by
 have hmk : Jj 1 (cs.length : Int) false = some (List.replicate n false) := by
  rw [hc]
  unfold Jj
  rw [A1 ⟨by omega, by omega, by omega⟩, Aoh]
 unfold E4 HE
 rw [hmk, An9, C9 (by simp; omega), An9, An9, List.nil_append, h1, An9]
 have := GE n (body := Gc met) (r := ints ((List.range n).filter fun i => (met[i]?).getD false)) (fun k => (ints ((List.range k).filter fun i => (met[i]?).getD false), (k : Int))) (fun k hk => by
  have hlen : (ints ((List.range k).filter fun i => (met[i]?).getD false)).length ≤ k := by
   rw [IY]
   exact Nat.le_trans (List.length_filter_le _ _) (by rw [List.length_range]; exact Nat.le_refl _)
  have hkm : k < met.length := by omega
  have hg : (met[k]?).getD false = met[k] := by rw [Aoa hkm]; rfl
  unfold Gc
  dsimp only
  rw [A1 (by rw [Az]; omega), Bv hkm, An9, CU (by omega)]
  conv => rhs; rw [List.range_succ, List.filter_append, List.filter_cons, hg]
  rcases met[k] with _ | _
  ·rw [Ay (by simp), Ay (by simp), List.filter_nil, List.append_nil]
  ·rw [A1 rfl, A1 rfl, C9 (by simp; omega), An9]
   unfold ints
   rw [List.map_append]
   rfl) (by
  unfold Gc
  dsimp only
  rw [Ay (by rw [Az]; omega)]) (s0 := ([], 0)) (by simp [ints])
 rw [this, An9]
theorem Aa4 {n : Nat} (hn : n ≤ 1048576) {cs : List (List Int)} (hT : VC n cs) (from_ : List Int) : ∀ (k : Nat) (met : List Bool) (op : List Int), met.length = n → (∀ x ∈ op, 0 ≤ x ∧ x < n) → QP met * (n + 1) + op.length ≤ k → QP met * (n + 1) + op.length ≤ 8796093022208 →
  (∀ i : Nat, met[i]? = some true → ∃ x ∈ from_, Cj cs x.toNat i) → (∀ x ∈ op, ∃ y ∈ from_, Cj cs y.toNat x.toNat) → (∀ i : Nat, met[i]? = some true → ∀ y : Int, y ∈ (cs[i]?).getD [] → y ∈ op ∨ met[y.toNat]? = some true) → (∀ x ∈ from_, x ∈ op ∨ met[x.toNat]? = some true) →
  ∃ met', AQ (Ef cs) (met, op) = some met' ∧ met'.length = n ∧ ∀ i : Nat, met'[i]? = some true ↔ ∃ x ∈ from_, Cj cs x.toNat i := by
 intro k
 have Ea : ∀ met : List Bool, met.length = n → (∀ i : Nat, met[i]? = some true → ∃ x ∈ from_, Cj cs x.toNat i) → (∀ i : Nat, met[i]? = some true → ∀ y : Int, y ∈ (cs[i]?).getD [] → y ∈ ([] : List Int) ∨ met[y.toNat]? = some true) → (∀ x ∈ from_, x ∈ ([] : List Int) ∨ met[x.toNat]? = some true) →
   ∃ met', AQ (Ef cs) (met, []) = some met' ∧ met'.length = n ∧ ∀ i : Nat, met'[i]? = some true ↔ ∃ x ∈ from_, Cj cs x.toNat i := by
  intro met hm h1 h3 h4
  refine ⟨met, Bm ?_, hm, fun i => ⟨h1 i, ?_⟩⟩
  ·unfold Ef
   dsimp only
   rw [Ay (by simp)]
  ·rintro ⟨x, hx, hr⟩
   induction hr with
   | refl => exact (h4 x hx).elim (fun q => nomatch q) id
   | step _ hk ih =>
    have := (h3 _ ih _ hk).elim (fun q => nomatch q) id
    rwa [Aoh] at this
 induction k with
 | zero =>
  intro met op hm ho hk hb h1 h2 h3 h4
  have : op = [] := List.length_eq_zero_iff.1 (by omega)
  subst this
  exact Ea met hm h1 h3 h4
 | succ k ih =>
  intro met op hm ho hk hb h1 h2 h3 h4
  rcases op with _ | ⟨x, op⟩
  ·exact Ea met hm h1 h3 h4
  ·obtain ⟨i, rfl⟩ := Aoi (ho x (by simp)).1
   have hi : i < n := by have := (ho i (by simp)).2; omega
   rw [Aog] at hk hb
   have hmi : i < met.length := by omega
   have hci : i < cs.length := by rw [hT.1]; exact hi
   have hcl := hT.2 _ (Aof hci)
   have hcg : (cs[i]?).getD [] = cs[i] := by rw [Aoa hci]; rfl
   have e1 : idx ((i : Int) :: op) 0 = some (i : Int) := rfl
   have e2 : GZ ((i : Int) :: op) 1 (((i : Int) :: op).length : Int) = some op := by
    rw [LD (by rw [Aog]; omega), Aoh, List.take_length]
    rfl
   have hpos : decide ((((i : Int) :: op).length : Int) > 0) = true := by rw [Az, Aog]; omega
   rcases hq : met[i] with _ | _
   ·have hmet := V0 (met := met) (i := i) (by rw [Aoa hmi, hq])
    have hmul := hmet ▸ hb
    rw [Nat.add_mul, Nat.one_mul] at hmul
    obtain ⟨met', r1, r2, r3⟩ := ih (met.set i true) (op ++ cs[i]) (by rw [List.length_set]; exact hm) (fun x hx => by
     rw [List.mem_append] at hx
     rcases hx with hx | hx
     ·exact ho x (by simp [hx])
     ·exact hcl.2 x hx) (by
     rw [← hmet, Nat.add_mul, Nat.one_mul] at hk
     rw [Aob]
     omega) (by
     rw [Aob]
     omega) (fun j hj => by
     by_cases q : j = i
     ·subst q
      have := h2 (j : Int) (by simp)
      rwa [Aoh] at this
     ·rw [List.getElem?_set_ne (fun q2 => q q2.symm)] at hj
      exact h1 j hj) (fun x hx => by
     rw [List.mem_append] at hx
     rcases hx with hx | hx
     ·exact h2 x (by simp [hx])
     ·obtain ⟨y, hy, hr⟩ := h2 (i : Int) (by simp)
      rw [Aoh] at hr
      refine ⟨y, hy, Cj.step hr ?_⟩
      rw [hcg, show ((x.toNat : Nat) : Int) = x by have := hcl.2 x hx; omega]
      exact hx) (fun j hj y hy => by
     by_cases q : j = i
     ·subst q
      rw [hcg] at hy
      exact .inl (by simp [hy])
     ·rw [List.getElem?_set_ne (fun q2 => q q2.symm)] at hj
      rcases h3 j hj y hy with h | h
      ·rw [Aod] at h
       rcases h with h | h
       ·right
        rw [h, Aoh, List.getElem?_set_self hmi]
       ·exact .inl (by simp [h])
      ·right
       by_cases q2 : y.toNat = i
       ·rw [q2, List.getElem?_set_self hmi]
       ·rw [List.getElem?_set_ne (fun q3 => q2 q3.symm)]; exact h) (fun x hx => by
     rcases h4 x hx with h | h
     ·rw [Aod] at h
      rcases h with h | h
      ·right
       rw [h, Aoh, List.getElem?_set_self hmi]
      ·exact .inl (by simp [h])
     ·right
      by_cases q2 : x.toNat = i
      ·rw [q2, List.getElem?_set_self hmi]
      ·rw [List.getElem?_set_ne (fun q3 => q2 q3.symm)]; exact h)
    refine ⟨met', ?_, r2, r3⟩
    rw [BQ (s' := (met.set i true, op ++ cs[i]))]
    ·exact r1
    ·unfold Ef
     dsimp only
     rw [A1 hpos, e1, An9, e2, An9, Bv hmi, hq, An9, Ay (by simp), An9, Bv hci, An9, C9 (by omega), An9, Aoh]
   ·have hmt : met[i]? = some true := by rw [Aoa hmi, hq]
    obtain ⟨met', r1, r2, r3⟩ := ih met op hm (fun x hx => ho x (by simp [hx])) (by omega) (by omega) h1 (fun x hx => h2 x (by simp [hx])) (fun j hj y hy => by
     rcases h3 j hj y hy with h | h
     ·rw [Aod] at h
      rcases h with h | h
      ·right; rw [h, Aoh]; exact hmt
      ·exact .inl h
     ·exact .inr h) (fun x hx => by
     rcases h4 x hx with h | h
     ·rw [Aod] at h
      rcases h with h | h
      ·right; rw [h, Aoh]; exact hmt
      ·exact .inl h
     ·exact .inr h)
    refine ⟨met', ?_, r2, r3⟩
    rw [BQ (s' := (met, op))]
    ·exact r1
    ·unfold Ef
     dsimp only
     rw [A1 hpos, e1, An9, e2, An9, Bv hmi, hq, An9, A1 rfl]
theorem Aam {n : Nat} (hn : n ≤ 1048576) {cs : List (List Int)} (hT : VC n cs) {from_ : List Int} (hl : from_.length ≤ 1048576) (hf : ∀ x ∈ from_, 0 ≤ x ∧ x < n) :
  ∃ L : List Int, E4 cs from_ = some L ∧ L.length ≤ n ∧ ∀ y : Int, y ∈ L ↔ 0 ≤ y ∧ ∃ x ∈ from_, Cj cs x.toNat y.toNat := by
 have hu : QP (List.replicate n false) ≤ n := by
  have := Adh (List.replicate n false)
  rwa [List.length_replicate] at this
 have hmul : QP (List.replicate n false) * (n + 1) ≤ 1048576 * 1048577 := Nat.mul_le_mul (by omega) (by omega)
 have hno : ∀ i, (List.replicate n false)[i]? ≠ some true := fun i h => by
  rw [List.getElem?_replicate] at h
  split at h <;> cases h
 obtain ⟨met, h1, h2, h3⟩ := Aa4 hn hT from_ _ (List.replicate n false) from_ (by simp) hf (Nat.le_refl _) (by omega) (fun i h => absurd h (hno i)) (fun x hx => ⟨x, hx, Cj.refl _⟩) (fun i h => absurd h (hno i)) (fun x hx => .inl hx)
 refine ⟨_, Ab7 hn hT.1 hl h2 h1, ?_, fun y => ?_⟩
 ·rw [IY]
  exact Nat.le_trans (List.length_filter_le _ _) (by rw [List.length_range]; exact Nat.le_refl _)
 ·unfold ints
  rw [Aoe]
  constructor
  ·rintro ⟨j, hj, rfl⟩
   rw [List.mem_filter, Wm, h3] at hj
   exact ⟨by omega, by rw [Aoh]; exact hj.2⟩
  ·rintro ⟨h0, x, hx, hr⟩
   refine ⟨y.toNat, ?_, by omega⟩
   rw [List.mem_filter, Wm, h3, List.mem_range]
   refine ⟨?_, x, hx, hr⟩
   have := hf x hx
   exact hr.lt hT (by omega)
end Go.Proofs.YtfcpkcehecmcpaaGreat
namespace Go.Proofs.YtfcpkcehecmcpaaGreat
open Go Go.RowKit Go.Pv Go.Proofs.Tryz
noncomputable def Iv (m : AH) (x : Nat) : Option AK := match E9 m (x : Int) with
 | some q => if q.2.2 = 0 then q.1 else none
 | none => none
noncomputable def EI (m : AH) (x : Nat) : List Int := match Iv m x with
 | some b => Mq m.Funcs.length b.l
 | none => []
noncomputable def E1 (m : AH) : List (List Int) := (List.range m.Funcs.length).map (EI m)
theorem Yz {m : AH} (hm : Cf m) (x : Nat) : ∃ q, E9 m (x : Int) = some q ∧ ((q.2.2 = 0 ∧ q.2.1 = 0 ∧ ∃ b, q.1 = some b ∧ Iv m x = some b ∧ UD m (x : Int) b.l) ∨ (q.2.2 ≠ 0 ∧ Iv m x = none)) := by
 obtain ⟨r, h1, h2, h3, h4⟩ := Afg m hm (x : Int)
 refine ⟨_, h2, ?_⟩
 dsimp only
 by_cases h0 : r.2.2.2 = 0
 ·refine .inl ⟨h0, (h3 h0).1, ⟨r.1, r.2.1⟩, A1 h0, ?_, (h3 h0).2⟩
  unfold Iv
  rw [h2]
  dsimp only
  rw [A1 h0, A1 h0]
 ·refine .inr ⟨h0, ?_⟩
  unfold Iv
  rw [h2]
  dsimp only
  rw [Ay h0]
theorem Sf {m : AH} (hm : Cf m) {x : Nat} {b : AK} (h : Iv m x = some b) : UD m (x : Int) b.l ∧ E9 m (x : Int) = some (some b, 0, 0) := by
 obtain ⟨q, h1, ⟨h2, h5, b', h3, h4, h6⟩ | ⟨_, h4⟩⟩ := Yz hm x
 ·rw [h] at h4
  cases h4
  refine ⟨h6, ?_⟩
  obtain ⟨q1, q2, q3⟩ := q
  dsimp only at h2 h5 h3
  rw [h1, h2, h5, h3]
 ·rw [h] at h4; cases h4
theorem MB {m : AH} (hm : Cf m) {x : Nat} {b : AK} (h : Iv m x = some b) : PL (CG m (x : Int)).Code.length m.Funcs.length b.l := Aiu (Sf hm h).1
theorem Adq {m : AH} (hm : Cf m) {x : Nat} {b : AK} (h : Iv m x = some b) : m.Funcs.length ≤ 64 := by
 obtain ⟨es, hI, _⟩ := (Sf hm h).1.ex
 have := hI.env.few
 have e1 : (Gt m (x : Int)).AP.length = m.Funcs.length := List.length_map _
 omega
theorem OI {m : AH} {i : Nat} (hi : i < m.Funcs.length) : (E1 m)[i]? = some (EI m i) := by
 unfold E1
 rw [List.getElem?_map, List.getElem?_range hi]
 rfl
theorem Mw {m : AH} (hm : Cf m) (i : Nat) : (EI m i).length ≤ m.Funcs.length ∧ ∀ x ∈ EI m i, 0 ≤ x ∧ x < m.Funcs.length := by
 unfold EI
 rcases h : Iv m i with _ | b
 ·exact ⟨Nat.zero_le _, fun x hx => nomatch hx⟩
 ·have hP := MB hm h
  refine ⟨Abb _ _, fun x hx => ?_⟩
  dsimp only at hx
  rw [Q4 hP.call, P4] at hx
  obtain ⟨y, y1, y2, rfl⟩ := hx
  exact hP.call y y1 y2
structure Sub (m : AH) (a : Nat) (R : RK) : Prop where
 cl : R.Classes = m.Classes
 fu : R.Funcs = m.Funcs
 tab : VC m.Funcs.length R.calls
 at_ : ∀ i, Cj (E1 m) a i → i < m.Funcs.length ∧ ∃ b, Iv m i = some b ∧ R.bodies[i]? = some (some b) ∧ R.calls[i]? = some (EI m i)
structure Ws (m : AH) (a : Nat) (s : WR) : Prop where
 l1 : s.met.length = m.Funcs.length
 l2 : s.bodies.length = m.Funcs.length
 l3 : s.calls.length = m.Funcs.length
 opn : ∀ x ∈ s.opn, 0 ≤ x ∧ x < m.Funcs.length ∧ Cj (E1 m) a x.toNat
 met : ∀ i : Nat, s.met[i]? = some true → Cj (E1 m) a i
 clo : ∀ i : Nat, s.met[i]? = some true → ∀ y : Int, y ∈ EI m i → y ∈ s.opn ∨ s.met[y.toNat]? = some true
 beg : (a : Int) ∈ s.opn ∨ s.met[a]? = some true
 dat : ∀ i : Nat, i < m.Funcs.length → s.bodies[i]? = some (if s.met[i]? = some true then Iv m i else none) ∧ s.calls[i]? = some (if s.met[i]? = some true then EI m i else [])
 good : s.bad < 0 → ∀ i : Nat, s.met[i]? = some true → ∃ b, Iv m i = some b
 why : 0 ≤ s.bad → s.why ≠ 0 ∧ ∃ i, Cj (E1 m) a i ∧ Iv m i = none
theorem Ahe {m : AH} (hm : Cf m) {a : Nat} : ∀ (k : Nat) (s : WR), Ws m a s → QP s.met * (m.Funcs.length + 1) + s.opn.length ≤ k → QP s.met * (m.Funcs.length + 1) + s.opn.length ≤ 8796093022208 → ∃ S, AQ (DJ m) s = some S ∧ Ws m a S ∧ S.opn = [] := by
 intro k
 induction k with
 | zero =>
  intro s hI hk hb
  have h0 : s.opn = [] := List.length_eq_zero_iff.1 (by omega)
  refine ⟨s, Bm ?_, hI, h0⟩
  unfold DJ
  rw [h0]
 | succ k ih =>
  intro s hI hk hb
  obtain ⟨opn, met, bodies, calls, bad, why⟩ := s
  rcases opn with _ | ⟨x, op⟩
  ·exact ⟨_, Bm rfl, hI, rfl⟩
  ·obtain ⟨l1, l2, l3, h1, h2, h3, h4, h5, h6, h7⟩ := hI
   dsimp only at l1 l2 l3 h1 h2 h3 h4 h5 h6 h7 hk hb
   obtain ⟨i, rfl⟩ := Aoi (h1 x (by simp)).1
   have hi : i < m.Funcs.length := by have := (h1 i (by simp)).2.1; omega
   rw [Aog] at hk hb
   have hmi : i < met.length := by omega
   have hri : Cj (E1 m) a i := by
    have := (h1 (i : Int) (by simp)).2.2
    rwa [Aoh] at this
   rcases hq : met[i] with _ | _
   ·have hmet := V0 (met := met) (i := i) (by rw [Aoa hmi, hq])
    have hmul := hmet ▸ hb
    have hmul2 := hmet ▸ hk
    rw [Nat.add_mul, Nat.one_mul] at hmul hmul2
    have hmf : met[i]? = some false := by rw [Aoa hmi, hq]
    have hst : ∀ j : Nat, (met.set i true)[j]? = some true ↔ j = i ∨ met[j]? = some true := fun j => by
     by_cases q : j = i
     ·subst q
      rw [List.getElem?_set_self hmi]; simp
     ·rw [List.getElem?_set_ne (fun q2 => q q2.symm)]; simp [q]
    obtain ⟨q, hrd, hcase⟩ := Yz hm i
    have hcl := Mw hm i
    have keep : ∀ {op' : List Int} {y : Int}, (∀ z ∈ op, z ∈ op') → (y ∈ (i : Int) :: op ∨ met[y.toNat]? = some true) → y ∈ op' ∨ (met.set i true)[y.toNat]? = some true := fun {op' y} hs hy => by
     rcases hy with h | h
     ·rw [Aod] at h
      rcases h with h | h
      ·right; rw [hst, h, Aoh]; exact .inl rfl
      ·exact .inl (hs _ h)
     ·right; rw [hst]; exact .inr h
    have keepb : ∀ {op' : List Int}, (∀ z ∈ op, z ∈ op') → (a : Int) ∈ op' ∨ (met.set i true)[a]? = some true := fun {op'} hs => by
     have := keep (y := (a : Int)) hs (by rw [Aoh]; exact h4)
     rwa [Aoh] at this
    rcases hcase with ⟨e0, e1, b, eb, hb0, hR⟩ | ⟨e0, hn⟩
    ·have hP := MB hm hb0
     have hcm : EI m i = Mq m.Funcs.length b.l := by unfold EI; rw [hb0]
     have hcg : (E1 m)[i]?.getD [] = EI m i := by rw [OI hi]; rfl
     have s1 : DJ m ⟨(i : Int) :: op, met, bodies, calls, bad, why⟩ = some (.inl ⟨op ++ EI m i, met.set i true, bodies.set i (some b), calls.set i (EI m i), bad, why⟩) := by
      unfold DJ
      dsimp only
      rw [Bv hmi, hq, An9, Ay (by simp), hrd, An9, Ay (by simpa using e0), eb, An9, show b = ⟨b.l, b.AX⟩ from rfl, WH hP, An9, ← hcm, C9 (by omega), An9, Aoh]
     rw [BQ s1]
     refine ih _ ⟨by simp [l1], by simp [l2], by simp [l3], fun x hx => ?_, fun j hj => ?_, fun j hj y hy => ?_, keepb (fun z hz => by simp [hz]), fun j hj => ?_, fun hbad j hj => ?_, h7⟩ (by
      dsimp only
      rw [Aob]
      omega) (by
      dsimp only
      rw [Aob]
      omega)
     ·dsimp only at hx
      rw [List.mem_append] at hx
      rcases hx with hx | hx
      ·exact h1 x (by simp [hx])
      ·have := hcl.2 x hx
       refine ⟨this.1, this.2, Cj.step hri ?_⟩
       rw [hcg, show ((x.toNat : Nat) : Int) = x by omega]
       exact hx
     ·dsimp only at hj
      rw [hst] at hj
      rcases hj with rfl | hj
      ·exact hri
      ·exact h2 j hj
     ·dsimp only at hj ⊢
      rw [hst] at hj
      rcases hj with rfl | hj
      ·exact .inl (by simp [hy])
      ·exact keep (fun z hz => by simp [hz]) (h3 j hj y hy)
     ·dsimp only
      by_cases q : j = i
      ·subst q
       rw [List.getElem?_set_self hmi, A1 rfl, A1 rfl, hb0, List.getElem?_set_self (show j < bodies.length by omega), List.getElem?_set_self (show j < calls.length by omega)]
       exact ⟨rfl, rfl⟩
      ·rw [List.getElem?_set_ne (fun q2 => q q2.symm), List.getElem?_set_ne (fun q2 => q q2.symm), List.getElem?_set_ne (fun q2 => q q2.symm)]
       exact h5 j hj
     ·dsimp only at hbad hj
      rw [hst] at hj
      rcases hj with rfl | hj
      ·exact ⟨b, hb0⟩
      ·exact h6 hbad j hj
    ·have hcm : EI m i = [] := by unfold EI; rw [hn]
     have tail : ∀ (bad' why' : Int), (bad' < 0 → False) → (0 ≤ bad' → why' ≠ 0 ∧ ∃ i, Cj (E1 m) a i ∧ Iv m i = none) → Ws m a ⟨op, met.set i true, bodies, calls, bad', why'⟩ := fun bad' why' hb1 hw =>
      ⟨by simp [l1], l2, l3, fun x hx => h1 x (by simp [hx]), fun j hj => by
       dsimp only at hj
       rw [hst] at hj
       rcases hj with rfl | hj
       ·exact hri
       ·exact h2 j hj, fun j hj y hy => by
       dsimp only at hj ⊢
       rw [hst] at hj
       rcases hj with rfl | hj
       ·rw [hcm] at hy; cases hy
       ·exact keep (fun z hz => hz) (h3 j hj y hy), keepb (fun z hz => hz), fun j hj => by
       dsimp only
       by_cases q : j = i
       ·subst q
        have := h5 j hj
        rw [hmf, Ay (by simp), Ay (by simp)] at this
        rw [List.getElem?_set_self hmi, A1 rfl, A1 rfl, hn, hcm]
        exact this
       ·rw [List.getElem?_set_ne (fun q2 => q q2.symm)]
        exact h5 j hj, fun h => (hb1 h).elim, hw⟩
     by_cases hc : bad < 0 ∨ (i : Int) < bad
     ·have s1 : DJ m ⟨(i : Int) :: op, met, bodies, calls, bad, why⟩ = some (.inl ⟨op, met.set i true, bodies, calls, (i : Int), q.2.2⟩) := by
       unfold DJ
       dsimp only
       rw [Bv hmi, hq, An9, Ay (by simp), hrd, An9, A1 e0, A1 hc, Aoh]
      rw [BQ s1]
      exact ih _ (tail _ _ (fun h => by omega) (fun _ => ⟨e0, i, hri, hn⟩)) (by dsimp only; omega) (by dsimp only; omega)
     ·have s1 : DJ m ⟨(i : Int) :: op, met, bodies, calls, bad, why⟩ = some (.inl ⟨op, met.set i true, bodies, calls, bad, why⟩) := by
       unfold DJ
       dsimp only
       rw [Bv hmi, hq, An9, Ay (by simp), hrd, An9, A1 e0, Ay hc, Aoh]
      rw [BQ s1]
      exact ih _ (tail _ _ (fun h => hc (.inl h)) h7) (by dsimp only; omega) (by dsimp only; omega)
   ·have hmt : met[i]? = some true := by rw [Aoa hmi, hq]
    have s1 : DJ m ⟨(i : Int) :: op, met, bodies, calls, bad, why⟩ = some (.inl ⟨op, met, bodies, calls, bad, why⟩) := by
     unfold DJ
     dsimp only
     rw [Bv hmi, hq, An9, A1 rfl]
    have keep : ∀ y : Int, (y ∈ (i : Int) :: op ∨ met[y.toNat]? = some true) → y ∈ op ∨ met[y.toNat]? = some true := fun y hy => by
     rcases hy with h | h
     ·rw [Aod] at h
      rcases h with h | h
      ·right; rw [h, Aoh]; exact hmt
      ·exact .inl h
     ·exact .inr h
    rw [BQ s1]
    exact ih _ ⟨l1, l2, l3, fun x hx => h1 x (by simp [hx]), h2, fun j hj y hy => keep y (h3 j hj y hy), by
     have := keep (a : Int) (by rw [Aoh]; exact h4)
     rwa [Aoh] at this, h5, h6, h7⟩ (by dsimp only; omega) (by dsimp only; omega)
theorem Ws.Ai6 {m : AH} (hm : Cf m) {a : Nat} {s : WR} (h : Ws m a s) (h0 : s.opn = []) (i : Nat) : s.met[i]? = some true ↔ Cj (E1 m) a i := by
 refine ⟨h.met i, fun hr => ?_⟩
 induction hr with
 | refl => exact h.beg.elim (fun q => by rw [h0] at q; cases q) id
 | @step j k hr hk ih =>
  have hj : j < m.Funcs.length := by
   have := (List.getElem?_eq_some_iff.1 ih).1
   rw [h.l1] at this
   exact this
  rw [OI hj] at hk
  have := (h.clo _ ih _ hk).elim (fun q => by rw [h0] at q; cases q) id
  rwa [Aoh] at this
theorem Ws.sub {m : AH} (hm : Cf m) {a : Nat} {s : WR} (h : Ws m a s) (h0 : s.opn = []) (hb : s.bad < 0) : Sub m a ⟨m.Classes, m.Funcs, s.bodies, s.calls⟩ := by
 refine ⟨rfl, rfl, ⟨h.l3, fun c hc => ?_⟩, fun i hi => ?_⟩
 ·obtain ⟨i, hi⟩ := List.mem_iff_getElem?.1 hc
  have hil : i < m.Funcs.length := by
   have := (List.getElem?_eq_some_iff.1 hi).1
   rw [h.l3] at this
   exact this
  have := (h.dat i hil).2
  dsimp only at hi
  rw [this] at hi
  split at hi
  ·cases hi; exact Mw hm i
  ·cases hi
   exact ⟨Nat.zero_le _, fun x hx => nomatch hx⟩
 ·have hmt := (h.Ai6 hm h0 i).2 hi
  have hil : i < m.Funcs.length := by
   have := (List.getElem?_eq_some_iff.1 hmt).1
   rw [h.l1] at this
   exact this
  obtain ⟨d1, d2⟩ := h.dat i hil
  rw [A1 hmt] at d1 d2
  obtain ⟨b, hbb⟩ := h.good hb i hmt
  exact ⟨hil, b, hbb, by rw [d1, hbb], d2⟩
theorem Xy {m : AH} (hm : Cf m) {a : Nat} (ha : a < m.Funcs.length) : ∃ S, AQ (DJ m) ⟨[(a : Int)], List.replicate m.Funcs.length false, List.replicate m.Funcs.length none, List.replicate m.Funcs.length [], -1, 0⟩ = some S ∧ Ws m a S ∧ S.opn = [] := by
 have hfl := hm.fl
 simp only [ED] at hfl
 have hu : QP (List.replicate m.Funcs.length false) ≤ m.Funcs.length := by
  have := Adh (List.replicate m.Funcs.length false)
  rwa [List.length_replicate] at this
 have hmul : QP (List.replicate m.Funcs.length false) * (m.Funcs.length + 1) ≤ 1048576 * 1048577 := Nat.mul_le_mul (by omega) (by omega)
 have hno : ∀ i : Nat, (List.replicate m.Funcs.length false)[i]? ≠ some true := fun i h => by
  rw [List.getElem?_replicate] at h
  split at h <;> cases h
 refine Ahe hm _ _ ⟨by simp, by simp, by simp, fun x hx => ?_, fun i h => absurd h (hno i), fun i h => absurd h (hno i), .inl (by simp), fun i hi => ?_, fun _ i h => absurd h (hno i), fun h => by dsimp only at h; omega⟩ (Nat.le_refl _) (by dsimp only; simp only [List.length_singleton]; omega)
 ·simp only [Aoc] at hx
  subst hx
  refine ⟨by omega, by omega, ?_⟩
  rw [Aoh]
  exact Cj.refl _
 ·dsimp only
  rw [Ay (hno i), Ay (hno i), List.getElem?_replicate, A1 hi, List.getElem?_replicate, A1 hi]
  exact ⟨rfl, rfl⟩
end Go.Proofs.YtfcpkcehecmcpaaGreat
namespace Go.Proofs.YtfcpkcehecmcpaaGreat
open Go Go.RowKit Go.Pv Go.Proofs.Tryz
theorem Sub.Aha {m : AH} {a : Nat} {R : RK} (S : Sub m a R) {i : Nat} (hi : Cj (E1 m) a i) : (E1 m)[i]? = R.calls[i]? := by
 obtain ⟨h1, b, h2, h3, h4⟩ := S.at_ i hi
 rw [h4, OI h1]
theorem Sub.rch {m : AH} {a : Nat} {R : RK} (S : Sub m a R) {i j : Nat} (hi : Cj (E1 m) a i) : Cj R.calls i j ↔ Cj (E1 m) i j := by
 constructor
 ·intro h
  induction h with
  | refl => exact Cj.refl _
  | step _ hk ih => exact Cj.step ih (by rw [S.Aha (hi.trans ih)]; exact hk)
 ·intro h
  induction h with
  | refl => exact Cj.refl _
  | @step j k hj hk ih => exact Cj.step ih (by rw [← S.Aha (hi.trans hj)]; exact hk)
theorem Sub.below {m : AH} (hm : Cf m) {a : Nat} {R : RK} (S : Sub m a R) {fr : List Int} (hl : fr.length ≤ 1048576) (hf : ∀ x ∈ fr, 0 ≤ x ∧ x < m.Funcs.length ∧ Cj (E1 m) a x.toNat) :
  ∃ L : List Int, E4 R.calls fr = some L ∧ L.length ≤ 1048576 ∧ ∀ y : Int, y ∈ L ↔ 0 ≤ y ∧ ∃ x ∈ fr, Cj (E1 m) x.toNat y.toNat := by
 have hfl := hm.fl
 simp only [ED] at hfl
 obtain ⟨L, h1, h2, h3⟩ := Aam (by omega) S.tab hl (fun x hx => ⟨(hf x hx).1, (hf x hx).2.1⟩)
 refine ⟨L, h1, by omega, fun y => ?_⟩
 rw [h3]
 constructor
 ·rintro ⟨h0, x, hx, hr⟩
  exact ⟨h0, x, hx, (S.rch (hf x hx).2.2).1 hr⟩
 ·rintro ⟨h0, x, hx, hr⟩
  exact ⟨h0, x, hx, (S.rch (hf x hx).2.2).2 hr⟩
open Classical in
noncomputable def Jm (m : AH) (x : Nat) : Bool := decide (∃ i, Cj (E1 m) x i ∧ ∃ z ∈ EI m i, Cj (E1 m) z.toNat i)
open Classical in
noncomputable def ZY (m : AH) (y : Nat) : Bool := decide (∃ z ∈ EI m y, Cj (E1 m) z.toNat y)
theorem Vx {m : AH} {y : Nat} : ZY m y = true ↔ ∃ z ∈ EI m y, Cj (E1 m) z.toNat y := by
 unfold ZY
 simp only [Az]
noncomputable def Tp (m : AH) (x : Nat) : Bool := match Iv m x with
 | some b => (Ex b).getD false
 | none => false
noncomputable def Z0 (m : AH) (x : Nat) : Bool := match Iv m x with
 | some b => (Je b).getD false
 | none => false
open Classical in
noncomputable def KW (m : AH) (p : Nat → Bool) (x : Nat) : Bool := decide (∀ i, Cj (E1 m) x i → p i = false)
theorem search {V : Type} (l : List Int) (hl : l.length ≤ 1048576) (p : Int → Bool) {v : V} {body : Int → Option (Int ⊕ (V ⊕ Unit))} (hs : ∀ (i : Nat) (hi : i < l.length), body (i : Int) = some (if p l[i] = true then .inr (.inl v) else .inl ((i + 1 : Nat) : Int))) (he : body (l.length : Int) = some (.inr (.inr ()))) :
  AQ body 0 = some (if l.any p = true then .inl v else .inr ()) := by
 have key : ∀ k i : Nat, i + k = l.length → AQ body (i : Int) = some (if (l.drop i).any p = true then .inl v else .inr ()) := by
  intro k
  induction k with
  | zero =>
   intro i hi
   have : i = l.length := by omega
   subst this
   rw [Bm he, List.drop_length]
   rfl
  | succ k ih =>
   intro i hi
   have hlt : i < l.length := by omega
   rw [List.drop_eq_getElem_cons hlt, List.any_cons]
   by_cases q : p l[i] = true
   ·rw [Bm (r := .inl v) (by rw [hs i hlt, A1 q]), q]
    rfl
   ·have q' : p l[i] = false := by simpa using q
    rw [BQ (by rw [hs i hlt, Ay q]), ih (i + 1) (by omega), q']
    simp
 exact key l.length 0 (by omega)
theorem Yh {m : AH} (hm : Cf m) {a : Nat} {R : RK} (S : Sub m a R) : VN R (a : Int) = some (Jm m a) := by
 have ha := (S.at_ a (Cj.refl a)).1
 obtain ⟨L, h1, h2, h3⟩ := S.below hm (fr := [(a : Int)]) (by simp) (fun x hx => by
  rw [Aoc] at hx
  subst hx
  exact ⟨by omega, by omega, by rw [Aoh]; exact Cj.refl a⟩)
 have h4 : ∀ y ∈ L, 0 ≤ y ∧ Cj (E1 m) a y.toNat := fun y hy => by
  obtain ⟨q1, x, hx, q2⟩ := (h3 y).1 hy
  rw [Aoc] at hx
  subst hx
  rw [Aoh] at q2
  exact ⟨q1, q2⟩
 have hp : ∀ y : Int, 0 ≤ y → Cj (E1 m) a y.toNat → ∃ L2, E4 R.calls (EI m y.toNat) = some L2 ∧ L2.length ≤ 1048576 ∧ ∀ z : Int, z ∈ L2 ↔ 0 ≤ z ∧ ∃ x ∈ EI m y.toNat, Cj (E1 m) x.toNat z.toNat := fun y h0 hr => by
  have hc := Mw hm y.toNat
  have hfl := hm.fl
  simp only [ED] at hfl
  have hyl := (S.at_ _ hr).1
  exact S.below hm (by omega) (fun x hx => ⟨(hc.2 x hx).1, (hc.2 x hx).2, Cj.step hr (by rw [OI hyl, show ((x.toNat : Nat) : Int) = x by have := hc.2 x hx; omega]; exact hx)⟩)
 unfold VN Gu
 rw [show R.r.calls = R.calls from rfl, h1, An9]
 rw [search L h2 (fun y => ZY m y.toNat) (v := true) (fun i hi => by
  obtain ⟨q1, q2⟩ := h4 _ (Aof hi)
  obtain ⟨L2, k1, k2, k3⟩ := hp _ q1 q2
  obtain ⟨_, b, _, _, k4⟩ := S.at_ _ q2
  have k5 : idx R.calls L[i] = some (EI m L[i].toNat) := by unfold idx; rw [A1 q1]; exact k4
  unfold DC
  rw [A1 (by rw [Az]; omega), Bv hi, An9, show R.r.calls = R.calls from rfl, k5, An9, k1, An9, XO _ k2, An9, CU (by omega)]
  have he : (L2.any fun y => L[i] == y) = ZY m L[i].toNat := by
   rw [Bool.eq_iff_iff, List.any_eq_true, Vx]
   constructor
   ·rintro ⟨y, hy, he⟩
    rw [AG] at he
    subst he
    exact ((k3 _).1 hy).2
   ·intro h
    exact ⟨L[i], (k3 _).2 ⟨q1, h⟩, by simp⟩
  rw [he]
  rcases ZY m L[i].toNat with _ | _ <;> rfl) (by
  unfold DC
  rw [Ay (by rw [Az]; omega)]), An9]
 have hfin : (L.any fun y => ZY m y.toNat) = Jm m a := by
  unfold Jm
  rw [Bool.eq_iff_iff, List.any_eq_true]
  simp only [Az]
  constructor
  ·rintro ⟨y, hy, he⟩
   rw [Vx] at he
   exact ⟨y.toNat, (h4 y hy).2, he⟩
  ·rintro ⟨i, hi, he⟩
   refine ⟨(i : Int), (h3 _).2 ⟨by omega, (a : Int), by simp, by rw [Aoh, Aoh]; exact hi⟩, ?_⟩
   rw [Vx, Aoh]
   exact he
 rw [hfin]
 rcases Jm m a with _ | _ <;> rfl
theorem Ab1 {n nf : Nat} {l : List AA} (h : PL n nf l) (k : Int) : ∃ b, Je ⟨l, k⟩ = some b := by
 have hlen := h.len
 obtain ⟨r, h1, _⟩ := KL l (fun p => (p.Op.toNat : Int) == 26) (body := B7 l) (fun i hi => by
  unfold B7 LO
  rw [A1 (by rw [Az]; omega), Bv hi, An9, An9, CU (by omega)]) (by
  unfold B7
  rw [Ay (by rw [Az]; omega)])
 have h1' : C4 l = some r := h1
 unfold Je Cv
 rw [h1', An9, An9]
 exact ⟨_, rfl⟩
theorem VD {m : AH} (hm : Cf m) {x : Nat} {b : AK} (h : Iv m x = some b) : Ex b = some (Tp m x) := by
 obtain ⟨l, k⟩ := b
 obtain ⟨D, h1, _⟩ := Sp (MB hm h) k
 unfold Tp
 rw [h]
 dsimp only
 rw [h1]
 rfl
theorem Ahw {m : AH} (hm : Cf m) {x : Nat} {b : AK} (h : Iv m x = some b) : Je b = some (Z0 m x) := by
 obtain ⟨l, k⟩ := b
 obtain ⟨D, h1⟩ := Ab1 (MB hm h) k
 unfold Z0
 rw [h]
 dsimp only
 rw [h1]
 rfl
theorem Yd {m : AH} (hm : Cf m) {a : Nat} {R : RK} (S : Sub m a R) {x : Nat} (hx : Cj (E1 m) a x) (p : Nat → Bool) {body : List Int → Int → Option (Int ⊕ (Bool ⊕ Unit))}
  (hs : ∀ (L : List Int) (i : Nat) (hi : i < L.length) (b : AK), L.length ≤ 1048576 → 0 ≤ L[i] → Iv m L[i].toNat = some b → R.bodies[L[i].toNat]? = some (some b) → body L (i : Int) = some (if p L[i].toNat = true then .inr (.inl false) else .inl ((i + 1 : Nat) : Int))) (he : ∀ L : List Int, body L (L.length : Int) = some (.inr (.inr ()))) :
  ((E4 R.calls [(x : Int)]).bind fun L => (AQ (body L) 0).bind fun o => match o with | .inl p => some p | .inr _ => some true) = some (KW m p x) := by
 have hxl := (S.at_ x hx).1
 obtain ⟨L, h1, h2, h3⟩ := S.below hm (fr := [(x : Int)]) (by simp) (fun y hy => by
  rw [Aoc] at hy
  subst hy
  exact ⟨by omega, by omega, by rw [Aoh]; exact hx⟩)
 have h4 : ∀ y ∈ L, 0 ≤ y ∧ Cj (E1 m) x y.toNat := fun y hy => by
  obtain ⟨q1, z, hz, q2⟩ := (h3 y).1 hy
  rw [Aoc] at hz
  subst hz
  rw [Aoh] at q2
  exact ⟨q1, q2⟩
 rw [h1, An9, search L h2 (fun y => p y.toNat) (v := false) (fun i hi => by
  obtain ⟨q1, q2⟩ := h4 _ (Aof hi)
  obtain ⟨_, b, q3, q4, _⟩ := S.at_ _ (hx.trans q2)
  exact hs L i hi b h2 q1 q3 q4) (he L), An9]
 have hfin : (L.any fun y => p y.toNat) = !KW m p x := by
  classical
  unfold KW
  rw [Bool.eq_iff_iff, List.any_eq_true, Bool.not_eq_true', decide_eq_false_iff_not]
  constructor
  ·rintro ⟨y, hy, he⟩ hq
   rw [hq _ (h4 y hy).2] at he
   cases he
  ·intro h
   apply Classical.byContradiction
   intro hn
   apply h
   intro i hi
   cases hpi : p i with
   | false => rfl
   | true => exact absurd ⟨(i : Int), (h3 _).2 ⟨by omega, (x : Int), by simp, by rw [Aoh, Aoh]; exact hi⟩, by rw [Aoh]; exact hpi⟩ hn
 rw [hfin]
 rcases KW m p x with _ | _ <;> rfl
theorem Sub.body {m : AH} {a : Nat} {R : RK} (S : Sub m a R) {y : Int} {b : AK} (h0 : 0 ≤ y) (h : R.bodies[y.toNat]? = some (some b)) : idx R.r.bodies y = some (some (0, b)) := by
 show idx (R.bodies.map (Option.map fun b => (0, b))) y = _
 unfold idx
 rw [A1 h0, List.getElem?_map, h]
 rfl
theorem NC {m : AH} (hm : Cf m) {a : Nat} {R : RK} (S : Sub m a R) {x : Nat} (hx : Cj (E1 m) a x) : Nh R (x : Int) = some (KW m (Tp m) x) := by
 have := Yd hm S hx (Tp m) (body := B9 R.r) (fun L i hi b hL h0 h1 h2 => by
  unfold B9
  rw [A1 (by rw [Az]; omega), Bv hi, An9, S.body h0 h2, An9, An9, show (⟨(0, b).2.l, (0, b).2.AX⟩ : AK) = b from rfl, VD hm h1, An9, CU (by omega)]
  rcases Tp m L[i].toNat with _ | _ <;> rfl) (fun L => by
  unfold B9
  rw [Ay (by rw [Az]; omega)])
 exact this
theorem RO {m : AH} (hm : Cf m) {a : Nat} {R : RK} (S : Sub m a R) {x : Nat} (hx : Cj (E1 m) a x) : MO R (x : Int) = some (KW m (Z0 m) x) := by
 have := Yd hm S hx (Z0 m) (body := BK R.r) (fun L i hi b hL h0 h1 h2 => by
  unfold BK
  rw [A1 (by rw [Az]; omega), Bv hi, An9, S.body h0 h2, An9, An9, show (⟨(0, b).2.l, (0, b).2.AX⟩ : AK) = b from rfl, Ahw hm h1, An9, CU (by omega)]
  rcases Z0 m L[i].toNat with _ | _ <;> rfl) (fun L => by
  unfold BK
  rw [Ay (by rw [Az]; omega)])
 exact this
end Go.Proofs.YtfcpkcehecmcpaaGreat
namespace Go.Proofs.YtfcpkcehecmcpaaGreat
open Go Go.RowKit Go.Pv Go.Proofs.Tryz
theorem U8 {b : AK} {f f' : Int → Option Int} (h : ∀ i v, f i = some v → f' i = some v) : ∀ (l : List Int) (s r : Int), Fg b f l s = some r → Fg b f' l s = some r
 | [], s, r, H => H
 | t :: l, s, r, H => by
  unfold Fg at H ⊢
  obtain ⟨j, hj, H⟩ := bind_ok H
  obtain ⟨v, hv, H⟩ := bind_ok H
  rw [hj, An9, h _ _ hv, An9]
  exact U8 h l _ _ H
theorem ND {b : AK} {lim : Int} {cost cost' : AA → Option Int} (h : ∀ p c, cost p = some c → cost' p = some c) : ∀ (n n' : Nat), n ≤ n' → ∀ i v, CV b lim cost n i = some v → CV b lim cost' n' i = some v
 | 0, _, _, _, _, H => by cases H
 | n + 1, 0, h0, _, _, _ => by omega
 | n + 1, n' + 1, hn, i, v, H => by
  unfold CV at H ⊢
  obtain ⟨p, hp, H⟩ := bind_ok H
  obtain ⟨ts, hts, H⟩ := bind_ok H
  obtain ⟨u, hu, H⟩ := bind_ok H
  obtain ⟨s, hs, H⟩ := bind_ok H
  obtain ⟨c, hc, H⟩ := bind_ok H
  rw [hp, An9, hts, An9, hu, An9, U8 (ND h n n' (by omega)) _ _ _ hs, An9, h _ _ hc, An9]
  exact H
theorem Agj {b : AK} {lim : Int} {cost : AA → Option Int} {n n' : Nat} {i v v' : Int} (h : CV b lim cost n i = some v) (h' : CV b lim cost n' i = some v') : v = v' := by
 rcases Nat.le_total n n' with q | q
 ·have := ND (fun _ _ h => h) n n' q i v h
  rw [this] at h'
  exact BS h'
 ·have := ND (fun _ _ h => h) n' n q i v' h'
  rw [this] at h
  exact (BS h).symm
theorem XY {R : RK} {fn lim : Int} {cost cost' : AA → Option Int} {x : BM} (h : ∀ p c, cost p = some c → cost' p = some c) (H : Hq R fn lim cost = some x) : Hq R fn lim cost' = some x := by
 unfold Hq at H ⊢
 obtain ⟨ob, h1, H⟩ := bind_ok H
 obtain ⟨b, h2, H⟩ := bind_ok H
 obtain ⟨m, h3, H⟩ := bind_ok H
 obtain ⟨n, h4, H⟩ := bind_ok H
 rw [h1, An9, h2, An9, h3, An9, ND h _ _ (Nat.le_refl _) _ _ h4, An9]
 exact H
theorem UO {f f' : Int → Option AU} (h : ∀ i v, f i = some v → f' i = some v) : ∀ (l : List Int) (s r : Int × Int), Fl f l s = some r → Fl f' l s = some r
 | [], s, r, H => H
 | x :: l, s, r, H => by
  unfold Fl at H ⊢
  obtain ⟨b, hb, H⟩ := bind_ok H
  rw [h _ _ hb, An9]
  exact UO h l _ _ H
theorem Abs {f f' : Int → Option AU} (h : ∀ i v, f i = some v → f' i = some v) (p : AA) (c : Int) (H : Im f p = some c) : Im f' p = some c := by
 unfold Im at H ⊢
 split at H
 ·rename_i q
  rw [A1 q]
  obtain ⟨x, hx, H⟩ := bind_ok H
  rw [h _ _ hx, An9]
  exact H
 ·rename_i q
  rw [Ay q]
  exact H
theorem Aba {R : RK} {f f' : Int → Option AU} (h : ∀ i v, f i = some v → f' i = some v) (p : AA) (c : Int) (H : Hb R f p = some c) : Hb R f' p = some c := by
 unfold Hb at H ⊢
 split at H
 ·rename_i q
  rw [A1 q]
  obtain ⟨x, hx, H⟩ := bind_ok H
  rw [h _ _ hx, An9]
  exact H
 ·rename_i q
  rw [Ay q]
  exact H
noncomputable def LN (R : RK) (f : Int → Option AU) (fn : Int) : Option BM := (Nh R fn).bind fun fl => if fl = true then Hq R fn 1048576 (Im f) else some ⟨0, false⟩
noncomputable def M4 (R : RK) (f : Int → Option AU) (fn : Int) : Option BM := (Nh R fn).bind fun fl => if fl = true then (MO R fn).bind fun fm => if fm = true then Hq R fn 4096 (Hb R f) else some ⟨0, false⟩ else some ⟨0, false⟩
theorem Rw {R : RK} {n : Nat} {fn : Int} {x : AU} (H : Dw R (n + 1) fn = some x) : ∃ cl d fu b st ce, idx R.calls fn = some cl ∧ NN cl.length = some () ∧ Fl (Dw R n) cl (0, 0) = some d ∧ idx R.Funcs fn = some fu ∧ idx R.bodies fn = some (some b) ∧ LN R (Dw R n) fn = some st ∧ M4 R (Dw R n) fn = some ce ∧
  x = ⟨⟨wr (d.1 + 1), true⟩, ⟨wr (wr (fu.Locals + b.AX) + d.2), true⟩, st, ce⟩ := by
 unfold Dw at H
 obtain ⟨cl, h1, H⟩ := bind_ok H
 obtain ⟨_, h0, H⟩ := bind_ok H
 obtain ⟨d, h2, H⟩ := bind_ok H
 obtain ⟨fu, h3, H⟩ := bind_ok H
 obtain ⟨ob, h4, H⟩ := bind_ok H
 obtain ⟨b, h5, H⟩ := bind_ok H
 obtain ⟨fl, h6, H⟩ := bind_ok H
 obtain ⟨st, h7, H⟩ := bind_ok H
 obtain ⟨ce, h8, H⟩ := bind_ok H
 have H9 := BS H
 subst h5
 refine ⟨cl, d, fu, b, st, ce, h1, h0, h2, h3, h4, ?_, ?_, H9.symm⟩
 ·unfold LN
  rw [h6, An9]; exact h7
 ·unfold M4
  rw [h6, An9]; exact h8
theorem Ad4 {R : RK} {n : Nat} {fn : Int} {cl : List Int} {d : Int × Int} {fu : Df} {b : AK} {st ce : BM} (h1 : idx R.calls fn = some cl) (h0 : NN cl.length = some ()) (h2 : Fl (Dw R n) cl (0, 0) = some d) (h3 : idx R.Funcs fn = some fu) (h4 : idx R.bodies fn = some (some b))
  (h5 : LN R (Dw R n) fn = some st) (h6 : M4 R (Dw R n) fn = some ce) : Dw R (n + 1) fn = some ⟨⟨wr (d.1 + 1), true⟩, ⟨wr (wr (fu.Locals + b.AX) + d.2), true⟩, st, ce⟩ := by
 unfold LN at h5
 unfold M4 at h6
 obtain ⟨fl, h7, h5⟩ := bind_ok h5
 rw [h7, An9] at h6
 unfold Dw
 rw [h1, An9, h0, An9, h2, An9, h3, An9, h4, An9, An9, h7, An9]
 exact Option.bind_eq_some_iff.2 ⟨st, h5, Option.bind_eq_some_iff.2 ⟨ce, h6, rfl⟩⟩
theorem Ahg {R : RK} {f f' : Int → Option AU} {fn : Int} {x : BM} (h : ∀ i v, f i = some v → f' i = some v) (H : LN R f fn = some x) : LN R f' fn = some x := by
 unfold LN at H ⊢
 obtain ⟨fl, h1, H⟩ := bind_ok H
 rw [h1, An9]
 split at H
 ·rename_i q
  rw [A1 q]
  exact XY (Abs h) H
 ·rename_i q
  rw [Ay q]
  exact H
theorem Ahj {R : RK} {f f' : Int → Option AU} {fn : Int} {x : BM} (h : ∀ i v, f i = some v → f' i = some v) (H : M4 R f fn = some x) : M4 R f' fn = some x := by
 unfold M4 at H ⊢
 obtain ⟨fl, h1, H⟩ := bind_ok H
 rw [h1, An9]
 split at H
 ·rename_i q
  rw [A1 q]
  obtain ⟨fm, h2, H⟩ := bind_ok H
  rw [h2, An9]
  split at H
  ·rename_i q2
   rw [A1 q2]
   exact XY (Aba h) H
  ·rename_i q2
   rw [Ay q2]
   exact H
 ·rename_i q
  rw [Ay q]
  exact H
theorem OH {R : RK} : ∀ (n n' : Nat), n ≤ n' → ∀ i v, Dw R n i = some v → Dw R n' i = some v
 | 0, _, _, _, _, H => by cases H
 | n + 1, 0, h0, _, _, _ => by omega
 | n + 1, n' + 1, hn, i, v, H => by
  have ih := OH (R := R) n n' (by omega)
  obtain ⟨cl, d, fu, b, st, ce, h1, h0, h2, h3, h4, h5, h6, rfl⟩ := Rw H
  exact Ad4 h1 h0 (UO ih _ _ _ h2) h3 h4 (Ahg ih h5) (Ahj ih h6)
theorem VO {R : RK} {n n' : Nat} {i : Int} {v v' : AU} (h : Dw R n i = some v) (h' : Dw R n' i = some v') : v = v' := by
 rcases Nat.le_total n n' with q | q
 ·have := OH n n' q i v h
  rw [this] at h'
  exact BS h'
 ·have := OH n' n q i v' h'
  rw [this] at h
  exact (BS h).symm
theorem W1 {R : RK} {fn : Int} {x : AU} : ∀ (n : Nat), Dw R n fn = some x → ∃ m, m < n ∧ Dw R (m + 1) fn = some x ∧ Dw R m fn = none
 | 0, H => by cases H
 | n + 1, H => by
  rcases h : Dw R n fn with _ | y
  ·exact ⟨n, by omega, H, h⟩
  ·obtain rfl := VO h H
   obtain ⟨m, h1, h2, h3⟩ := W1 n h
   exact ⟨m, by omega, h2, h3⟩
theorem Ady {R : RK} {n n' : Nat} {i : Int} (hn : n ≤ n') (h : Dw R n' i = none) : Dw R n i = none := by
 rcases h2 : Dw R n i with _ | y
 ·rfl
 ·rw [OH n n' hn i y h2] at h; cases h
abbrev Dn := List (Option (Nat × AU))
structure M7 (R : RK) (n : Nat) (dn : Dn) : Prop where
 len : dn.length = R.calls.length
 ok : ∀ (i : Nat) (p : Nat × AU), dn[i]? = some (some p) → Dw R n (i : Int) = none ∨ ∃ k, Dw R k (i : Int) = some p.2
theorem M7.low {R : RK} {n n' : Nat} {dn : Dn} (h : M7 R n' dn) (hn : n ≤ n') : M7 R n dn := ⟨h.len, fun i p hp => (h.ok i p hp).imp (Ady hn) id⟩
structure Kt (R : RK) (fn : Option Nat) (dn dn' : Dn) : Prop where
 len : dn'.length = dn.length
 keep : ∀ (i : Nat) p, some i ≠ fn → dn[i]? = some (some p) → dn'[i]? = some (some p)
 new : ∀ (i : Nat) p, some i ≠ fn → dn'[i]? = some (some p) → dn[i]? = some (some p) ∨ ∃ k, Dw R k (i : Int) = some p.2
abbrev Iq (R : RK) (dn dn' : Dn) : Prop := Kt R none dn dn'
theorem Iq.refl {R : RK} {dn : Dn} : Iq R dn dn := ⟨rfl, fun _ _ _ h => h, fun _ _ _ h => .inl h⟩
theorem Kt.trans {R : RK} {fn : Option Nat} {a b c : Dn} (h : Kt R fn a b) (h' : Kt R fn b c) : Kt R fn a c :=
 ⟨h'.len.trans h.len, fun i p hi hp => h'.keep i p hi (h.keep i p hi hp), fun i p hi hp => (h'.new i p hi hp).elim (fun q => h.new i p hi q) .inr⟩
theorem Kt.up {R : RK} {fn : Option Nat} {a b : Dn} (h : Iq R a b) : Kt R fn a b := ⟨h.len, fun i p _ hp => h.keep i p nofun hp, fun i p _ hp => h.new i p nofun hp⟩
theorem Kt.set {R : RK} {i : Nat} {a : Dn} (y : Option (Nat × AU)) : Kt R (some i) a (a.set i y) :=
 ⟨by simp, fun j p hj hp => by rw [List.getElem?_set_ne (fun q => hj (by rw [q]))]; exact hp, fun j p hj hp => by rw [List.getElem?_set_ne (fun q => hj (by rw [q]))] at hp; exact .inl hp⟩
theorem M7.ext {R : RK} {n : Nat} {fn : Option Nat} {a b : Dn} (h : M7 R n a) (he : Kt R fn a b) (hf : ∀ i p, some i = fn → b[i]? = some (some p) → Dw R n (i : Int) = none ∨ ∃ k, Dw R k (i : Int) = some p.2) : M7 R n b := ⟨he.len.trans h.len, fun i p hp => by
 by_cases q : some i = fn
 ·exact hf i p q hp
 ·rcases he.new i p q hp with h1 | h1
  ·exact h.ok i p h1
  ·exact .inr h1⟩
theorem M7.ex {R : RK} {n : Nat} {a b : Dn} (h : M7 R n a) (he : Iq R a b) : M7 R n b := h.ext he (fun _ _ q => nomatch q)
theorem Iq.of {R : RK} {i : Nat} {a b : Dn} {g : Nat} {x : AU} {k : Nat} (he : Kt R (some i) a b) (h0 : a[i]? = some none) (hb : b[i]? = some (some (g, x))) (hx : Dw R k (i : Int) = some x) : Iq R a b :=
 ⟨he.len, fun j p _ hp => by
  by_cases q : j = i
  ·subst q; rw [h0] at hp; cases hp
  ·exact he.keep j p (fun h => q (by cases h; rfl)) hp, fun j p _ hp => by
  by_cases q : j = i
  ·subst q; rw [hb] at hp; cases hp; exact .inr ⟨k, hx⟩
  ·exact he.new j p (fun h => q (by cases h; rfl)) hp⟩
theorem K1 {α : Type} {l : List α} {i : Int} {x : α} (h : idx l i = some x) : 0 ≤ i ∧ (i.toNat : Int) = i ∧ l[i.toNat]? = some x := by
 obtain ⟨h0, h1, h2⟩ := Dd h
 exact ⟨h0, by omega, h2⟩
theorem U1 {α : Type} {l : List α} {i : Int} {x : α} (h0 : 0 ≤ i) (h : l[i.toNat]? = some x) : idx l i = some x := by
 unfold idx
 rw [A1 h0]; exact h
theorem VE {α β : Type} (f : α → β) (l : List α) (i : Int) : idx (l.map f) i = (idx l i).map f := by
 unfold idx
 split
 ·exact List.getElem?_map ..
 ·rfl
end Go.Proofs.YtfcpkcehecmcpaaGreat
namespace Go.Proofs.YtfcpkcehecmcpaaGreat
open Go Go.RowKit Go.Pv Go.Proofs.Tryz
theorem Afq {m : AH} (hm : Cf m) {x : Nat} {b : AK} (h : Iv m x = some b) : 0 ≤ b.AX ∧ b.AX ≤ 24 ∧ ∃ fu, m.Funcs[x]? = some fu ∧ 0 ≤ fu.Locals ∧ fu.Locals ≤ 16 := by
 obtain ⟨hR, hrd⟩ := Sf hm h
 have hx : x < m.Funcs.length := by have := hR.rng.2; omega
 have hins : CG m (x : Int) = m.Funcs[x] := by
  unfold CG
  rw [Aoh, Aoa hx]
  rfl
 have hloc : 0 ≤ (CG m (x : Int)).Locals ∧ (CG m (x : Int)).Locals ≤ 16 := by
  obtain ⟨es, hI, _⟩ := hR.ex
  obtain ⟨s, st0, hB, J, hnew, _⟩ := hI.ex
  have := hB.fok.shp
  have h1 := hB.loc
  have h2 := hB.max
  exact ⟨by rw [← h1]; exact this.1, h2⟩
 suffices hh : 0 ≤ b.AX ∧ b.AX ≤ 24 from ⟨hh.1, hh.2, m.Funcs[x], Aoa hx, by rw [← hins]; exact hloc.1, by rw [← hins]; exact hloc.2⟩
 unfold E9 at hrd
 rw [show (⟨m.Name, m.Classes, m.Funcs, m.Ec⟩ : AH) = m from rfl, VR m hm, An9, A1 (show 0 ≤ (x : Int) ∧ (x : Int) < m.Funcs.length from ⟨by omega, by omega⟩)] at hrd
 dsimp only at hrd
 have hix : idx m.Funcs (x : Int) = some (CG m (x : Int)) := Fc (by omega) (by omega) _
 have hmem : CG m (x : Int) ∈ m.Funcs := by rw [hins]; exact Aof hx
 have hcode := (hm.f _ hmem).2
 simp only [ED] at hcode
 have c0 : ((!true) = true) = False := by simp
 simp only [c0, if_false, hix, An9] at hrd
 rw [show (⟨(Gt m (x : Int)).Classes, (Gt m (x : Int)).AP, (Gt m (x : Int)).Fn⟩ : AD) = Gt m (x : Int) from rfl] at hrd
 obtain ⟨r, h1, h2, h3⟩ := WJ (Gt m (x : Int)) (CG m (x : Int)).Locals (CG m (x : Int)).Code hm.tab
 rw [h1, An9] at hrd
 by_cases h0 : r.2.2 = 0
 ·have c1 : ((r.2.2 != 0) = true) = False := by rw [h0]; simp
  simp only [c1, if_false] at hrd
  obtain ⟨h4, h5⟩ := h3 h0
  obtain ⟨s, st0, hB, J, hnew, hl⟩ := h5.ex
  have hlen := Nc s (CG m (x : Int)).Code.length
  have h6 := h5.few
  rw [← hl] at hlen
  have hok : ∀ e ∈ r.1, 0 ≤ e.Frame.Height ∧ e.Frame.Height ≤ 24 ∧ Ed (CG m (x : Int)).Code e.At = some ((Bj (CG m (x : Int)).Code e.At.toNat)) := by
   intro e he
   rw [hl] at he
   obtain ⟨_, q1, q2, q3⟩ := MU e he
   have hf := (J.fok _ _ q3).shp
   obtain ⟨k, hk⟩ := Aoi q1
   refine ⟨hf.2.2.1, by have := hf.1; have := hf.2.2.2; omega, ?_⟩
   rw [hk, Aoh]
   exact (OE (by simp only [ED]; omega) (by omega)).2
  obtain ⟨o, o1, o2⟩ := Afk r.1.length (body := Cy (CG m (x : Int)) r) (fun i s => s.1.length = i ∧ 0 ≤ s.2.1 ∧ s.2.1 ≤ 24 ∧ s.2.2 = (i : Int)) (Post := fun o => 0 ≤ o.2 ∧ o.2 ≤ 24) (fun i s hi hI => by
   obtain ⟨s1, s2, s3⟩ := s
   obtain ⟨q1, q2, q3, q4⟩ := hI
   dsimp only at q1 q2 q3 q4
   subst q4
   obtain ⟨w1, w2, w3⟩ := hok _ (Aof hi)
   unfold Cy
   dsimp only
   rw [A1 (by rw [Az]; omega), Bv hi, An9, w3, An9, C9 (by simp; omega), An9, CU (by omega)]
   refine ⟨_, rfl, by simp [q1], ?_, ?_, rfl⟩
   ·dsimp only
    split <;> omega
   ·dsimp only
    split <;> omega) (fun s hI => by
   obtain ⟨s1, s2, s3⟩ := s
   obtain ⟨q1, q2, q3, q4⟩ := hI
   dsimp only at q1 q2 q3 q4
   subst q4
   unfold Cy
   dsimp only
   rw [Ay (by rw [Az]; omega)]
   exact ⟨_, rfl, q2, q3⟩) (s := ([], 0, 0)) ⟨rfl, Int.le_refl _, by decide, rfl⟩
  rw [o1, An9] at hrd
  have hrd2 := BS hrd
  have hb : some (⟨o.1, o.2⟩ : AK) = some b := congrArg Prod.fst hrd2
  cases hb
  exact o2
 ·have c1 : ((r.2.2 != 0) = true) = True := eq_true (AN.2 h0)
  simp only [c1, if_true] at hrd
  have := congrArg Prod.fst (BS hrd)
  cases this
theorem Ajb {m : AH} (hm : Cf m) {x : Nat} {b : AK} (h : Iv m x = some b) {p : AA} (hp : p ∈ b.l) (h23 : p.Op = 23) : ∃ l, EY m.Classes p.A = some l := by
 obtain ⟨hR, _⟩ := Sf hm h
 obtain ⟨es, hI, he⟩ := hR.ex
 obtain ⟨s, st0, hB, J, hnew, rfl⟩ := hI.ex
 rw [he] at hp
 unfold Uc at hp
 obtain ⟨y, hy, rfl⟩ := List.mem_map.1 hp
 obtain ⟨_, q1, q2, q3⟩ := MU y hy
 have d := J.clo _ _ q3 (hnew _)
 have ha := (Nj hI.env (J.fok _ _ q3) _ d.app).2.2
 unfold CX at ha
 rw [Ay (by rw [h23]; decide), A1 (by rw [h23]; decide)] at ha
 split at ha
 ·rename_i q
  exact ⟨_, (Nx hI.env q.1 q.2).2⟩
 ·cases ha
inductive Tc (sc : Nat → List Nat) : Nat → Nat → Prop
 | one {i j : Nat} (h : j ∈ sc i) : Tc sc i j
 | cons {i j k : Nat} (h : j ∈ sc i) (t : Tc sc j k) : Tc sc i k
theorem Tc.snoc {sc : Nat → List Nat} {i j k : Nat} (t : Tc sc i j) (h : k ∈ sc j) : Tc sc i k := by
 induction t with
 | one h1 => exact Tc.cons h1 (Tc.one h)
 | cons h1 _ ih => exact Tc.cons h1 (ih h)
theorem deep {N : Nat} (sc : Nat → List Nat) (G : Nat → Prop) (hG : ∀ i, G i → i < N ∧ ∀ j ∈ sc i, G j) (hac : ∀ i, G i → ¬ Tc sc i i) (P : Nat → Nat → Prop) (step : ∀ n i, G i → (∀ j ∈ sc i, P n j) → P (n + 1) i) : ∀ i, G i → P N i := by
 have key : ∀ (n : Nat) (path : List Nat), path.Nodup → (∀ x ∈ path, x < N) → ∀ i, G i → i ∉ path → (∀ x ∈ path, Tc sc x i) → path.length + n = N → P n i := by
  intro n
  induction n with
  | zero =>
   intro path h1 h2 i hi h3 h4 h5
   have := Xv (l := i :: path) (n := N) (List.nodup_cons.2 ⟨h3, h1⟩) (fun x hx => by
    rcases List.mem_cons.1 hx with rfl | hx
    ·exact (hG _ hi).1
    ·exact h2 x hx)
   rw [Aog] at this
   omega
  | succ n ih =>
   intro path h1 h2 i hi h3 h4 h5
   refine step n i hi fun j hj => ?_
   have hT : ∀ x ∈ i :: path, Tc sc x j := fun x hx => by
    rcases List.mem_cons.1 hx with rfl | hx
    ·exact Tc.one hj
    ·exact (h4 x hx).snoc hj
   have hGj := (hG i hi).2 j hj
   exact ih (i :: path) (List.nodup_cons.2 ⟨h3, h1⟩) (fun x hx => by
    rcases List.mem_cons.1 hx with rfl | hx
    ·exact (hG _ hi).1
    ·exact h2 x hx) j hGj (fun q => hac j hGj (hT j q)) hT (by rw [Aog]; omega)
 intro i hi
 exact key N [] List.nodup_nil (fun x hx => nomatch hx) i hi (fun q => nomatch q) (fun x hx => nomatch hx) (by simp)
theorem Tc.last {sc : Nat → List Nat} {i k : Nat} (t : Tc sc i k) : ∃ j, k ∈ sc j ∧ (j = i ∨ Tc sc i j) := by
 induction t with
 | one h => exact ⟨_, h, .inl rfl⟩
 | cons h _ ih =>
  obtain ⟨j, h1, h2⟩ := ih
  refine ⟨j, h1, .inr ?_⟩
  rcases h2 with rfl | h2
  ·exact Tc.one h
  ·exact Tc.cons h h2
theorem Zz.ac {n : Nat} {sc : Nat → List Nat} (hlt : ∀ i, ∀ j ∈ sc i, j < n) {j : Nat} (h : Zz n sc j) : ¬ Tc sc j j := by
 induction h with
 | mk j hj h ih =>
  intro t
  obtain ⟨i, h1, h2⟩ := t.last
  rcases h2 with rfl | h2
  ·exact ih i hj h1 t
  ·have hi : i < n := by
    obtain ⟨q, q1, _⟩ := h2.last
    exact hlt _ _ q1
   exact ih i hi h1 (Tc.cons h1 h2)
theorem Tq {b : AK} {f : Int → Option Int} {n nf : Nat} (hP : PL n nf b.l) : ∀ (ts : List Nat) (s : Int), (∀ t ∈ ts, ∃ y ∈ b.l, y.At = (t : Int)) → (∀ t ∈ ts, ∃ v, f (NT b.l (t : Int) : Int) = some v) → ∃ r, Fg b f (ints ts) s = some r
 | [], s, _, _ => ⟨s, rfl⟩
 | t :: ts, s, h1, h2 => by
  obtain ⟨v, hv⟩ := h2 t (by simp)
  obtain ⟨l, k⟩ := b
  obtain ⟨r, hr⟩ := Tq (f := f) hP ts (max s v) (fun t ht => h1 t (by simp [ht])) (fun t ht => h2 t (by simp [ht]))
  refine ⟨r, ?_⟩
  show Fg ⟨l, k⟩ f ((t : Int) :: ints ts) s = some r
  unfold Fg
  rw [Pd hP k (h1 t (by simp)), An9, hv, An9]
  exact hr
theorem Aab {n : Nat} (h : n ≤ 1000000000) : NN n = some () := by
 unfold NN
 rw [A1 h]
theorem Abd {n nf : Nat} {b : AK} (hP : PL n nf b.l) (hlp : Ex b = some false) {lim : Int} {cost : AA → Option Int} (hcost : ∀ p ∈ b.l, ∃ c, cost p = some c) : ∃ v, CV b lim cost (b.l.length + 1) 0 = some v := by
 obtain ⟨D, h1, h2, h3⟩ := Sp hP b.AX
 have h4 : D.length ≥ b.l.length := by
  have := BS (h1.symm.trans hlp)
  rw [decide_eq_false_iff_not] at this
  omega
 have hall : ∀ j, j < b.l.length → Zz b.l.length (HJ b.l) j := by
  intro j hj
  rw [← h3]
  apply Classical.byContradiction
  intro hn
  have := Xv (l := j :: D) (n := b.l.length) (List.nodup_cons.2 ⟨hn, h2⟩) (fun x hx => by
   rcases List.mem_cons.1 hx with rfl | hx
   ·exact hj
   ·have := (h3 x).1 hx
    cases this with
    | mk _ q _ => exact q)
  rw [Aog] at this
  omega
 have hlt : ∀ i, ∀ j ∈ HJ b.l i, j < b.l.length := fun i => QW hP
 have key := deep (N := b.l.length) (HJ b.l) (fun i => i < b.l.length) (fun i hi => ⟨hi, hlt i⟩) (fun i hi => (hall i hi).ac hlt) (fun k i => ∃ v, CV b lim cost k (i : Int) = some v) (fun k i hi hn => by
  have hmem := Aof hi
  obtain ⟨c, hc⟩ := hcost _ hmem
  rw [JJ hi] at hn
  obtain ⟨s, hs⟩ := Tq (f := CV b lim cost k) hP (CL b.l[i]) 0 (fun t ht => hP.nx _ hmem t ht) (fun t ht => hn _ (List.mem_map.2 ⟨t, ht, rfl⟩))
  have h3' := OX b.l[i]
  refine ⟨min (wr (lim + 1)) (wr (s + c)), ?_⟩
  unfold CV
  rw [Bv hi, An9, Vw hP hi, An9, Aab (by rw [IY]; omega), An9, hs, An9, hc, An9])
 obtain ⟨x, hx, hx0⟩ := hP.zero
 have hpos : 0 < b.l.length := List.length_pos_of_mem hx
 obtain ⟨v, hv⟩ := key 0 hpos
 exact ⟨v, ND (fun _ _ h => h) _ _ (Nat.le_succ _) _ _ hv⟩
end Go.Proofs.YtfcpkcehecmcpaaGreat
namespace Go.Proofs.YtfcpkcehecmcpaaGreat
open Go Go.RowKit Go.Pv Go.Proofs.Tryz
theorem Tj {f f' : Int → Option AU} : ∀ (l : List Int) (s : Int × Int), (∀ y ∈ l, f y = f' y) → Fl f l s = Fl f' l s
 | [], s, _ => rfl
 | x :: l, s, h => by
  unfold Fl
  rw [h x (by simp)]
  congr 1
  funext b
  exact Tj l _ fun y hy => h y (by simp [hy])
theorem U0 {b : AK} {lim : Int} {cost cost' : AA → Option Int} (h : ∀ p ∈ b.l, cost p = cost' p) : ∀ n, CV b lim cost n = CV b lim cost' n
 | 0 => rfl
 | n + 1 => by
  funext i
  have ih := U0 (lim := lim) h n
  unfold CV
  rcases hp : idx b.l i with _ | p
  ·rfl
  ·have hm : p ∈ b.l := by
    obtain ⟨_, _, q⟩ := Dd hp
    exact List.mem_of_getElem? q
   rw [An9, An9, ih, h p hm]
theorem Wr {R R' : RK} {fn lim : Int} {b : AK} (hb : idx R.bodies fn = some (some b)) (hb' : idx R'.bodies fn = some (some b)) {cost cost' : AA → Option Int} (h : ∀ p ∈ b.l, cost p = cost' p) : Hq R fn lim cost = Hq R' fn lim cost' := by
 unfold Hq
 rw [hb, hb', An9, An9, An9, An9, U0 h]
theorem XD {m : AH} (hm : Cf m) {x : Nat} {b : AK} (h : Iv m x = some b) {p : AA} (hp : p ∈ b.l) (h21 : p.Op = 21) : p.A ∈ EI m x := by
 have hP := MB hm h
 unfold EI
 rw [h]
 dsimp only
 rw [Q4 hP.call, P4]
 exact ⟨p, hp, by rw [h21]; rfl, rfl⟩
theorem Vo {m : AH} (hm : Cf m) {a x : Nat} (hxl : x < m.Funcs.length) (hx : Cj (E1 m) a x) {y : Int} (hy : y ∈ EI m x) : 0 ≤ y ∧ Cj (E1 m) a y.toNat := by
 have := (Mw hm x).2 y hy
 refine ⟨this.1, Cj.step hx ?_⟩
 rw [OI hxl, show ((y.toNat : Nat) : Int) = y by omega]
 exact hy
theorem Sub.ix {m : AH} {a : Nat} {R : RK} (S : Sub m a R) {x : Nat} (hx : Cj (E1 m) a x) : x < m.Funcs.length ∧ ∃ b, Iv m x = some b ∧ idx R.bodies (x : Int) = some (some b) ∧ idx R.calls (x : Int) = some (EI m x) := by
 obtain ⟨h1, b, h2, h3, h4⟩ := S.at_ x hx
 exact ⟨h1, b, h2, by rw [Ot]; exact h3, by rw [Ot]; exact h4⟩
theorem XC {m : AH} (hm : Cf m) {a g : Nat} {R R' : RK} (S : Sub m a R) (S' : Sub m g R') (hg : Cj (E1 m) a g) : ∀ (n : Nat) (x : Nat), Cj (E1 m) g x → Dw R n (x : Int) = Dw R' n (x : Int)
 | 0, x, _ => rfl
 | n + 1, x, hx => by
  have ih := XC hm S S' hg n
  obtain ⟨h1, b, h2, h3, h4⟩ := S.ix (hg.trans hx)
  obtain ⟨_, b', h2', h3', h4'⟩ := S'.ix hx
  rw [h2] at h2'
  cases h2'
  have hf : ∀ y ∈ EI m x, Dw R n y = Dw R' n y := fun y hy => by
   obtain ⟨q1, q2⟩ := Vo hm h1 hx hy
   have := ih y.toNat q2
   rwa [show ((y.toNat : Nat) : Int) = y by omega] at this
  have c1 : ∀ p ∈ b.l, Im (Dw R n) p = Im (Dw R' n) p := fun p hp => by
   unfold Im
   by_cases q : p.Op = 21
   ·rw [A1 q, A1 q, hf _ (XD hm h2 hp q)]
   ·rw [Ay q, Ay q]
  have c2 : ∀ p ∈ b.l, Hb R (Dw R n) p = Hb R' (Dw R' n) p := fun p hp => by
   unfold Hb
   by_cases q : p.Op = 21
   ·rw [A1 q, A1 q, hf _ (XD hm h2 hp q)]
   ·rw [Ay q, Ay q, S.cl, S'.cl]
  unfold Dw
  rw [h4, h4', An9, An9, Tj _ _ hf, S.fu, S'.fu, h3, h3', NC hm S (hg.trans hx), NC hm S' hx, RO hm S (hg.trans hx), RO hm S' hx, Wr h3 h3' c1, Wr h3 h3' c2]
theorem Tk {f : Int → Option AU} {D E : Int} : ∀ (l : List Int) (s : Int × Int), (∀ y ∈ l, ∃ v, f y = some v ∧ v.CQ.Most ≤ D ∧ v.Slots.Most ≤ E) → 0 ≤ s.1 ∧ s.1 ≤ D → 0 ≤ s.2 ∧ s.2 ≤ E →
  ∃ r, Fl f l s = some r ∧ s.1 ≤ r.1 ∧ r.1 ≤ D ∧ s.2 ≤ r.2 ∧ r.2 ≤ E ∧ ∀ y ∈ l, ∀ v, f y = some v → v.CQ.Most ≤ r.1 ∧ v.Slots.Most ≤ r.2
 | [], s, _, h1, h2 => ⟨s, rfl, Int.le_refl _, h1.2, Int.le_refl _, h2.2, fun y hy => nomatch hy⟩
 | x :: l, s, h, h1, h2 => by
  obtain ⟨v, hv, hD, hE⟩ := h x (by simp)
  obtain ⟨r, r1, r2, r3, r4, r5, r6⟩ := Tk (f := f) (D := D) (E := E) l (max s.1 v.CQ.Most, max s.2 v.Slots.Most) (fun y hy => h y (by simp [hy])) (by dsimp only; omega) (by dsimp only; omega)
  dsimp only at r2 r4
  refine ⟨r, ?_, by omega, r3, by omega, r5, fun y hy w hw => ?_⟩
  ·unfold Fl
   rw [hv, An9]
   exact r1
  ·rcases List.mem_cons.1 hy with rfl | hy
   ·rw [hv] at hw
    cases hw
    omega
   ·exact r6 y hy w hw
theorem T9 (x : BM) (n : Int) : ∃ v, JU x n = some v := by
 unfold JU
 split <;> exact ⟨_, rfl⟩
theorem Age (n k : Int) : ∃ v, Oz n k = some v := by
 unfold Oz
 split <;> exact ⟨_, rfl⟩
theorem W4 {m : AH} (hm : Cf m) {R : RK} {x : Nat} {b : AK} (h : Iv m x = some b) (hb : idx R.bodies (x : Int) = some (some b)) (hlp : Tp m x = false) {lim : Int} {cost : AA → Option Int} (hc : ∀ p ∈ b.l, ∃ c, cost p = some c) : ∃ v, Hq R (x : Int) lim cost = some v := by
 have hP := MB hm h
 have hlen := hP.len
 obtain ⟨v, hv⟩ := Abd hP (by rw [VD hm h, hlp]) (lim := lim) hc
 obtain ⟨w, hw⟩ := Age v lim
 refine ⟨w, ?_⟩
 unfold Hq
 rw [hb, An9, An9, RU (by omega) (by omega), An9, hv, An9, hw]
structure Bd (R : RK) (n : Nat) (x : Int) (v : AU) : Prop where
 eq : Dw R n x = some v
 dis : v.CQ.Is = true
 d0 : 0 ≤ v.CQ.Most
 d1 : v.CQ.Most ≤ n
 sis : v.Slots.Is = true
 s0 : 0 ≤ v.Slots.Most
 s1 : v.Slots.Most ≤ 40 * (n : Int)
theorem X7 {m : AH} (hm : Cf m) {a : Nat} {R : RK} (S : Sub m a R) {n : Nat} (hn : n ≤ 1000) {x : Nat} (hx : Cj (E1 m) a x) (h : ∀ y ∈ EI m x, ∃ v, Bd R n y v) :
  ∃ v, Bd R (n + 1) (x : Int) v ∧ ∀ y ∈ EI m x, ∀ w, Dw R n y = some w → w.CQ.Most < v.CQ.Most ∧ w.Slots.Most ≤ v.Slots.Most := by
 obtain ⟨h1, b, h2, h3, h4⟩ := S.ix hx
 obtain ⟨g1, g2, fu, g3, g4, g5⟩ := Afq hm h2
 obtain ⟨d, d1, d2, d3, d4, d5, d6⟩ := Tk (f := Dw R n) (D := n) (E := 40 * (n : Int)) (EI m x) (0, 0) (fun y hy => by
  obtain ⟨v, hv⟩ := h y hy
  exact ⟨v, hv.eq, hv.d1, hv.s1⟩) ⟨Int.le_refl _, by dsimp only; omega⟩ ⟨Int.le_refl _, by dsimp only; omega⟩
 dsimp only at d2 d4
 have hcall : ∀ p ∈ b.l, p.Op = 21 → ∃ v, Dw R n p.A = some v := fun p hp q => by
  obtain ⟨v, hv⟩ := h _ (XD hm h2 hp q)
  exact ⟨v, hv.eq⟩
 have hfree : ∀ {p : Nat → Bool}, KW m p x = true → p x = false := fun {p} hq => by
  unfold KW at hq
  simp only [Az] at hq
  exact hq x (Cj.refl x)
 obtain ⟨st, hst⟩ : ∃ st, LN R (Dw R n) (x : Int) = some st := by
  unfold LN
  rw [NC hm S hx, An9]
  by_cases q : KW m (Tp m) x = true
  ·rw [A1 q]
   refine W4 hm h2 h3 (hfree q) fun p hp => ?_
   unfold Im
   by_cases q2 : p.Op = 21
   ·obtain ⟨v, hv⟩ := hcall p hp q2
    obtain ⟨w, hw⟩ := T9 v.Steps 1048576
    rw [A1 q2, hv, An9, hw]
    exact ⟨_, rfl⟩
   ·rw [Ay q2]; exact ⟨_, rfl⟩
  ·rw [Ay q]; exact ⟨_, rfl⟩
 obtain ⟨ce, hce⟩ : ∃ ce, M4 R (Dw R n) (x : Int) = some ce := by
  unfold M4
  rw [NC hm S hx, An9]
  by_cases q : KW m (Tp m) x = true
  ·rw [A1 q, RO hm S hx, An9]
   by_cases q3 : KW m (Z0 m) x = true
   ·rw [A1 q3]
    refine W4 hm h2 h3 (hfree q) fun p hp => ?_
    unfold Hb
    by_cases q2 : p.Op = 21
    ·obtain ⟨v, hv⟩ := hcall p hp q2
     rw [A1 q2, hv, An9]
     exact T9 v.Cells 4096
    ·rw [Ay q2]
     by_cases q4 : p.Op = 23
     ·obtain ⟨l, hl⟩ := Ajb hm h2 hp q4
      rw [A1 q4, S.cl, hl]
      exact ⟨_, rfl⟩
     ·rw [Ay q4]; exact ⟨_, rfl⟩
   ·rw [Ay q3]; exact ⟨_, rfl⟩
  ·rw [Ay q]; exact ⟨_, rfl⟩
 have hfu : idx R.Funcs (x : Int) = some fu := by rw [S.fu, Ot]; exact g3
 have hcl := (Mw hm x).1
 have hfl := hm.fl
 simp only [ED] at hfl
 have e := Ad4 h4 (Aab (by omega)) d1 hfu h3 hst hce
 have w1 : wr (d.1 + 1) = d.1 + 1 := Cc (by omega) (by omega)
 have w2 : wr (wr (fu.Locals + b.AX) + d.2) = fu.Locals + b.AX + d.2 := by
  rw [Cc (n := fu.Locals + b.AX) (by omega) (by omega), Cc (by omega) (by omega)]
 rw [w1, w2] at e
 refine ⟨_, ⟨e, rfl, by dsimp only; omega, by dsimp only; omega, rfl, by dsimp only; omega, by dsimp only; omega⟩, fun y hy w hw => ?_⟩
 have := d6 y hy w hw
 dsimp only
 omega
theorem Z1 {m : AH} {a : Nat} (h : Jm m a = false) {i : Nat} (hi : Cj (E1 m) a i) {z : Int} (hz : z ∈ EI m i) : ¬ Cj (E1 m) z.toNat i := fun q => by
 unfold Jm at h
 rw [decide_eq_false_iff_not] at h
 exact h ⟨i, hi, z, hz, q⟩
theorem WE {m : AH} (hm : Cf m) {a : Nat} {R : RK} (S : Sub m a R) (hr : Jm m a = false) : ∀ x, Cj (E1 m) a x → ∃ v, Bd R m.Funcs.length (x : Int) v := by
 have h64 : m.Funcs.length ≤ 64 := by
  obtain ⟨_, b, hb, _⟩ := S.at_ a (Cj.refl a)
  exact Adq hm hb
 have hrch : ∀ {i j : Nat}, Cj (E1 m) a i → j ∈ (EI m i).map Int.toNat → (∃ z ∈ EI m i, z.toNat = j) ∧ Cj (E1 m) a j := fun {i j} hi hj => by
  obtain ⟨z, hz, rfl⟩ := List.mem_map.1 hj
  exact ⟨⟨z, hz, rfl⟩, (Vo hm (S.at_ i hi).1 hi hz).2⟩
 have htc : ∀ {i k : Nat}, Tc (fun i => (EI m i).map Int.toNat) i k → Cj (E1 m) a i → ∃ z ∈ EI m i, Cj (E1 m) z.toNat k := fun {i k} t => by
  induction t with
  | one h =>
   intro hi
   obtain ⟨⟨z, hz, rfl⟩, _⟩ := hrch hi h
   exact ⟨z, hz, Cj.refl _⟩
  | cons h _ ih =>
   intro hi
   obtain ⟨⟨z, hz, rfl⟩, q⟩ := hrch hi h
   obtain ⟨z2, hz2, q2⟩ := ih q
   refine ⟨z, hz, Cj.trans (Cj.one ?_) q2⟩
   have := (Mw hm z.toNat).2 z2 hz2
   rw [OI (S.at_ _ q).1, show ((z2.toNat : Nat) : Int) = z2 by omega]
   exact hz2
 exact deep (N := m.Funcs.length) (fun i => (EI m i).map Int.toNat) (fun i => Cj (E1 m) a i) (fun i hi => ⟨(S.at_ i hi).1, fun j hj => (hrch hi hj).2⟩) (fun i hi t => by
  obtain ⟨z, hz, q⟩ := htc t hi
  exact Z1 hr hi hz q) (fun n x => n ≤ 1000 → ∃ v, Bd R n (x : Int) v) (fun n i hi h hn => by
  obtain ⟨v, hv, _⟩ := X7 hm S (n := n) (by omega) hi (fun y hy => by
   have := h y.toNat (List.mem_map.2 ⟨y, hy, rfl⟩) (by omega)
   have hy0 := (Mw hm i).2 y hy
   rwa [show ((y.toNat : Nat) : Int) = y by omega] at this)
  exact ⟨v, hv⟩) |> fun h x hx => h x hx (by omega)
theorem Xn {m : AH} (hm : Cf m) {a : Nat} (ha : a < m.Funcs.length) (hok : ∀ i, Cj (E1 m) a i → ∃ b, Iv m i = some b) (hr : Jm m a = false) : ∃ R v, Sub m a R ∧ Dw R (m.Funcs.length + 1) (a : Int) = some v ∧ Ik m (a : Int) = some (v, 0, 0) := by
 obtain ⟨s, h1, h2, h3⟩ := Xy hm ha
 have hbad : s.bad < 0 := by
  apply Classical.byContradiction
  intro q
  obtain ⟨_, i, hi, hn⟩ := h2.why (by omega)
  obtain ⟨b, hb⟩ := hok i hi
  rw [hb] at hn; cases hn
 have S := h2.sub hm h3 hbad
 obtain ⟨v, hv⟩ := WE hm S hr a (Cj.refl a)
 have hv2 := OH _ _ (Nat.le_succ _) _ _ hv.eq
 have hfl := hm.fl
 simp only [ED] at hfl
 refine ⟨_, v, S, hv2, ?_⟩
 have hmk : Jj 24 (m.Funcs.length : Int) (0 : Int) = some (List.replicate m.Funcs.length 0) := by
  unfold Jj
  rw [A1 ⟨by omega, by omega, by omega⟩, Aoh]
 unfold Ik
 rw [Ay (by omega), hmk, An9, h1, An9, Ay (by omega), Yh hm S, An9, hr, Ay (by simp), hv2, An9]
theorem Ajl {m : AH} (hm : Cf m) {a : Nat} (ha : a < m.Funcs.length) : ∃ r, Ik m (a : Int) = some r ∧ (r.2.2 = 0 → r.1.CQ.Is = true → (∀ i, Cj (E1 m) a i → ∃ b, Iv m i = some b) ∧ Jm m a = false) := by
 obtain ⟨s, h1, h2, h3⟩ := Xy hm ha
 have hfl := hm.fl
 simp only [ED] at hfl
 have hmk : Jj 24 (m.Funcs.length : Int) (0 : Int) = some (List.replicate m.Funcs.length 0) := by
  unfold Jj
  rw [A1 ⟨by omega, by omega, by omega⟩, Aoh]
 by_cases hbad : 0 ≤ s.bad
 ·refine ⟨(⟨⟨0, false⟩, ⟨0, false⟩, ⟨0, false⟩, ⟨0, false⟩⟩, s.bad, s.why), ?_, fun q => absurd q (h2.why hbad).1⟩
  unfold Ik
  rw [Ay (by omega), hmk, An9, h1, An9, A1 hbad]
 ·have S := h2.sub hm h3 (by omega)
  have hok : ∀ i, Cj (E1 m) a i → ∃ b, Iv m i = some b := fun i hi => by
   obtain ⟨_, b, hb, _⟩ := S.at_ i hi
   exact ⟨b, hb⟩
  cases hr : Jm m a with
  | true =>
   refine ⟨(⟨⟨0, false⟩, ⟨0, false⟩, ⟨0, false⟩, ⟨0, false⟩⟩, 0, 0), ?_, fun _ q => by cases q⟩
   unfold Ik
   rw [Ay (by omega), hmk, An9, h1, An9, Ay hbad, Yh hm S, An9, hr, A1 rfl]
  | false =>
   obtain ⟨R, v, _, _, h4⟩ := Xn hm ha hok hr
   exact ⟨_, h4, fun _ _ => ⟨hok, rfl⟩⟩
end Go.Proofs.YtfcpkcehecmcpaaGreat
namespace Go.Proofs.YtfcpkcehecmcpaaGreat
open Go Go.RowKit Go.Pv Go.Proofs.Tryz
theorem Sm {e : AD} {code : List UInt8} : ∀ (k k' : Nat) (s : St) (r : Int × Int × St), k ≤ k' → Ln e code k s = some r → Ln e code k' s = some r
 | 0, _, _, _, _, h => by cases h
 | k + 1, 0, _, _, h0, _ => by omega
 | k + 1, k' + 1, s, r, hk, h => by
  unfold Ln at h ⊢
  rcases hl : Hy s code.length with _ | a
  ·rw [hl] at h; exact h
  ·rw [hl] at h
   dsimp only at h ⊢
   by_cases q : (CJ e code s a).2.1 ≠ 0
   ·rw [A1 q] at h ⊢; exact h
   ·rw [Ay q] at h ⊢
    exact Sm k k' _ _ (by omega) h
theorem Adl {e : AD} {L : Int} {code : List UInt8} (h : FB e.Classes) (hm : Du e L = some 0) (hl' : code.length ≤ 4096) {f0 : A3} (hf0 : CZ e.Classes (JH e).B5 L = some (f0, 0)) {k : Nat} {s : St} (hr : Ln e code k (st1 f0) = some (0, 0, s)) :
  IU e L code = some (Ej s code.length, 0, 0) := by
 have hm1 : KF e L = some 0 := by rw [Ad1 e L h, hm]
 obtain ⟨hE, _⟩ := Adx e L h hm
 have hfn := hE.fn
 have hs0 : idx e.AP e.Fn = some (JH e) := Fc hfn.1 hfn.2 ⟨[], 0⟩
 obtain ⟨r0, hr0, hB⟩ := TF e.Classes (JH e).B5 L
 rw [hf0] at hr0
 have hr0' := Option.some.inj hr0
 rw [← hr0'] at hB
 have hB' := hB rfl
 dsimp only at hB'
 have hI := Zv hE (code := code) hB'.fok
 obtain ⟨r, hr2, hrok⟩ := Cu hE (mu e.Classes code.length (st1 f0) + 1) (st1 f0) hI (by omega)
 have hre : r = (0, 0, s) := by
  rcases Nat.le_total k (mu e.Classes code.length (st1 f0) + 1) with q | q
  ·rw [Sm _ _ _ _ q hr] at hr2
   exact (BS hr2).symm
  ·rw [Sm _ _ _ _ q hr2] at hr
   exact BS hr
 subst hre
 obtain ⟨_, J, hnew⟩ := hrok rfl
 obtain ⟨S', p1, p2, p3⟩ := Uo hE hl' _ (st1 f0) _ _ hI (XK e code f0 0) hr
 have hS' := p2 rfl
 have hpos : 0 < code.length := by
  obtain ⟨f, hf, _⟩ := J.start
  have D := J.clo 0 f hf (hnew 0)
  exact (IB D.ins).1
 unfold IU K4
 rw [show (⟨e.Classes, e.AP, e.Fn⟩ : AD) = e from rfl, hm1, An9]
 have c0 : ((0 : Int) != 0) = false := rfl
 have c1 : decide ((code.length : Int) > 4096) = false := decide_eq_false (by omega)
 simp only [c0, c1, Bool.false_eq_true, if_false]
 rw [hs0, An9, start_eq, hf0, An9]
 dsimp only
 rw [show (⟨f0.Locals, f0.Height, f0.Slots⟩ : A3) = f0 from rfl]
 dsimp only at p1
 rw [p1, An9]
 dsimp only
 rw [Ay (by simp), An9]
 dsimp only
 rw [Ay (by simp), An9, show (⟨(⟨S'.e.Classes, S'.e.AP, S'.e.Fn⟩ : AD), S'.code, S'.frames, S'.fresh, S'.taken, S'.B2⟩ : AM) = S' from rfl]
 rw [Yj hl' J hS' hpos, An9, WL hl' hS', An9]
abbrev awM : AH := ⟨[109], [], [⟨[102], ⟨[], 0⟩, 0, [2, 1, 6, 22]⟩], []⟩
abbrev awC : List UInt8 := [2, 1, 6, 22]
abbrev awE : AD := ⟨[], [⟨[], 0⟩], 0⟩
abbrev MG : A3 := ⟨0, 0, Vector.replicate 24 (0 : UInt8)⟩
def Kr : AA := ⟨0, 2, 1, 0⟩
def LS : AA := ⟨2, 6, 0, 0⟩
def M3 : AA := ⟨3, 22, 0, 0⟩
abbrev O7 : A3 := ⟨0, 1, H5 (Vector.replicate 24 (0 : UInt8)) 0 2⟩
noncomputable def awF2 : A3 := Dx O7 1
theorem PU : Bj awC 0 = (Kr, 0) ∧ Bj awC 2 = (LS, 0) ∧ Bj awC 3 = (M3, 0) := ⟨by rfl, by rfl, by rfl⟩
theorem Aki : Dx MG 0 = MG := VZ ⟨by decide, fun j hj _ => by simp⟩
theorem Ah5 : D9 awE MG Kr = (O7, 0) := by
 unfold D9 P5
 rw [Ay (by decide), Ay (by decide), Ay (by decide), Ay (by decide), Ay (by decide), Ay (by decide), show (Co MG (Bg awE Kr).length).length = 0 from rfl, Aki, Ay (by decide), Ay (by decide)]
 rfl
theorem Ahl : D9 awE O7 LS = (awF2, 0) := by
 unfold D9 P5
 rw [Ay (by decide), Ay (by decide), Ay (by decide), Ay (by decide), Ay (by decide), Ay (by decide), Ay (fun q => absurd q.1 (by decide)), Ay (by decide)]
 rfl
theorem Ajg : Co awF2 0 = [] := by
 unfold Co
 rw [List.take_zero]
theorem Ahh : (D9 awE awF2 M3).2 = 0 := by
 unfold D9 P5
 rw [Ay (by decide), Ay (by decide), Ay (by decide), show (Bg awE M3).length = 0 from rfl, Ajg, Ay (by decide), Ay (by decide), Ay (by decide), Ay (by decide), Ay (by decide)]
 rfl
noncomputable def awS1 : St := ⟨upd (st1 MG).fr 2 (some O7), upd (upd (st1 MG).new 0 false) 2 true, upd (st1 MG).tk 0 2⟩
noncomputable def awS2 : St := ⟨upd awS1.fr 3 (some awF2), upd (upd awS1.new 2 false) 3 true, upd awS1.tk 2 1⟩
noncomputable def Abq : St := ⟨awS2.fr, upd awS2.new 3 false, upd awS2.tk 3 1⟩
theorem Alc : CJ awE awC (st1 MG) 0 = (0, 0, awS1) := by
 unfold CJ
 rw [PU.1]
 dsimp only
 rw [Ay (by decide), Ay (by decide), show ((st1 MG).fr 0).getD zf = MG from rfl, Ah5]
 rfl
theorem Aky : CJ awE awC awS1 2 = (0, 0, awS2) := by
 unfold CJ
 rw [PU.2.1]
 dsimp only
 rw [Ay (by decide), Ay (by decide), show (awS1.fr 2).getD zf = O7 from rfl, Ahl]
 rfl
theorem Ak3 : CJ awE awC awS2 3 = (0, 0, Abq) := by
 unfold CJ
 rw [PU.2.2]
 dsimp only
 rw [Ay (by decide), Ay (by decide), show (awS2.fr 3).getD zf = awF2 from rfl, Ahh]
 rfl
theorem Aj1 : Ln awE awC 4 (st1 MG) = some (0, 0, Abq) := by
 unfold Ln
 rw [show Hy (st1 MG) awC.length = some 0 from rfl]
 dsimp only
 rw [Alc, Ay (by decide)]
 unfold Ln
 rw [show Hy awS1 awC.length = some 2 from rfl]
 dsimp only
 rw [Aky, Ay (by decide)]
 unfold Ln
 rw [show Hy awS2 awC.length = some 3 from rfl]
 dsimp only
 rw [Ak3, Ay (by decide)]
 unfold Ln
 rw [show Hy Abq awC.length = none from rfl]
theorem Aj0 : Ej Abq awC.length = [⟨0, false, MG⟩, ⟨2, false, O7⟩, ⟨3, false, awF2⟩] := rfl
theorem XR : CZ awE.Classes (JH awE).B5 0 = some (MG, 0) := by
 rw [show (JH awE).B5 = [] from rfl]
 unfold CZ II
 rw [Ay (by decide), Ay (by decide), An9]
 dsimp only
 rw [Ay (by decide), Ay (by decide), Ay (by decide), Bm (r := .inr (Vector.replicate 24 (0 : UInt8))) (by unfold DI; rw [Ay (by decide)]), An9]
theorem Acg : FB awE.Classes := ⟨by decide, fun x hx => nomatch hx⟩
theorem Ajc : Du awE 0 = some 0 := by
 unfold Du
 rw [Mm _ Acg, An9, Ay (by decide), Ay (by decide)]
 have h1 : Cz awE 0 = some (.inl 1) := by
  unfold Cz
  rw [A1 (by decide), show idx awE.AP 0 = some ⟨[], 0⟩ from rfl, An9, Ay (by decide), An9, Oi _ _ (by decide), An9, show P7 awE.Classes ⟨[], 0⟩ = true from rfl, Ay (by decide)]
  rfl
 rw [BQ h1, Bm (r := .inr ()) (by unfold Cz; rw [Ay (by decide)]), An9]
 dsimp only
 rw [Ay (by decide), Ay (by decide), show idx awE.AP awE.Fn = some ⟨[], 0⟩ from rfl, An9]
 have := XR
 rw [show (JH awE).B5 = [] from rfl] at this
 rw [this]
 rfl
theorem SE : Cf awM := ⟨by decide, by decide, by decide, fun x hx => (nomatch hx), fun x hx => by
 rw [Aoc] at hx
 subst hx
 exact ⟨by decide, by decide⟩, fun x hx => (nomatch hx)⟩
abbrev JB : List AA := [Kr, LS, M3]
theorem Aik : ∃ k, E9 awM 0 = some (some ⟨JB, k⟩, 0, 0) := by
 have hinf := Adl Acg Ajc (code := awC) (by decide) XR Aj1
 rw [Aj0] at hinf
 have hdec : ∀ a : Nat, a < 4 → Ed awC (a : Int) = some (Bj awC a) := fun a ha => (OE (code := awC) (by simp only [ED]; decide) ha).2
 unfold E9
 rw [show (⟨awM.Name, awM.Classes, awM.Funcs, awM.Ec⟩ : AH) = awM from rfl, VR awM SE, An9, A1 (show (0 : Int) ≤ 0 ∧ (0 : Int) < (awM.Funcs.length : Int) by decide)]
 dsimp only
 rw [Ay (by decide), show idx awM.Funcs 0 = some ⟨[102], ⟨[], 0⟩, 0, awC⟩ from rfl, An9]
 rw [show (⟨(Gt awM 0).Classes, (Gt awM 0).AP, (Gt awM 0).Fn⟩ : AD) = awE from rfl]
 rw [hinf, An9]
 dsimp only
 rw [Ay (by decide)]
 have d0 : Ed awC 0 = some (Kr, 0) := by rw [← PU.1]; exact hdec 0 (by decide)
 have d2 : Ed awC 2 = some (LS, 0) := by rw [← PU.2.1]; exact hdec 2 (by decide)
 have d3 : Ed awC 3 = some (M3, 0) := by rw [← PU.2.2]; exact hdec 3 (by decide)
 generalize hes : ([⟨0, false, MG⟩, ⟨2, false, O7⟩, ⟨3, false, awF2⟩] : List B0) = es
 have b0 : Cy ⟨[102], ⟨[], 0⟩, 0, awC⟩ (es, 0, 0) ([], 0, 0) = some (.inl ([Kr], 0, 1)) := by
  subst hes
  unfold Cy
  dsimp only
  rw [A1 (by decide), show idx ([⟨0, false, MG⟩, ⟨2, false, O7⟩, ⟨3, false, awF2⟩] : List B0) 0 = some ⟨0, false, MG⟩ from rfl, An9, d0, An9, C9 (by simp), An9]
  rfl
 have b1 : Cy ⟨[102], ⟨[], 0⟩, 0, awC⟩ (es, 0, 0) ([Kr], 0, 1) = some (.inl ([Kr, LS], 1, 2)) := by
  subst hes
  unfold Cy
  dsimp only
  rw [A1 (by decide), show idx ([⟨0, false, MG⟩, ⟨2, false, O7⟩, ⟨3, false, awF2⟩] : List B0) 1 = some ⟨2, false, O7⟩ from rfl, An9, d2, An9, C9 (by simp), An9]
  rfl
 have b2 : Cy ⟨[102], ⟨[], 0⟩, 0, awC⟩ (es, 0, 0) ([Kr, LS], 1, 2) = some (.inl ([Kr, LS, M3], 1, 3)) := by
  subst hes
  unfold Cy
  dsimp only
  rw [A1 (by decide), show idx ([⟨0, false, MG⟩, ⟨2, false, O7⟩, ⟨3, false, awF2⟩] : List B0) 2 = some ⟨3, false, awF2⟩ from rfl, An9, d3, An9, C9 (by simp), An9, show awF2.Height = 0 from rfl, Ay (by decide)]
  rfl
 have b3 : Cy ⟨[102], ⟨[], 0⟩, 0, awC⟩ (es, 0, 0) ([Kr, LS, M3], 1, 3) = some (.inr ([Kr, LS, M3], 1)) := by
  subst hes
  unfold Cy
  dsimp only
  rw [Ay (by decide)]
 rw [BQ b0, BQ b1, BQ b2, Bm b3, An9]
 exact ⟨1, rfl⟩
theorem Abo : ∃ k, Iv awM 0 = some ⟨JB, k⟩ := by
 obtain ⟨k, hk⟩ := Aik
 refine ⟨k, ?_⟩
 unfold Iv
 rw [show ((0 : Nat) : Int) = 0 from rfl, hk]
 rfl
theorem Aa1 : EI awM 0 = [] := by
 obtain ⟨k, hk⟩ := Abo
 unfold EI
 rw [hk]
 rfl
theorem XX {i : Nat} (h : Cj (E1 awM) 0 i) : i = 0 := by
 induction h with
 | refl => rfl
 | step _ hk ih =>
  subst ih
  rw [OI (by decide), Aa1] at hk
  cases hk
theorem Aho : Jm awM 0 = false := by
 unfold Jm
 rw [decide_eq_false_iff_not]
 rintro ⟨i, hi, z, hz, _⟩
 rw [XX hi, Aa1] at hz
 cases hz
theorem Aei : CL Kr = [2] ∧ CL LS = [3] ∧ CL M3 = [] := ⟨by decide, by decide, by decide⟩
theorem Akt : HJ JB 0 = [1] ∧ HJ JB 1 = [2] ∧ HJ JB 2 = [] := by
 refine ⟨?_, ?_, ?_⟩
 ·rw [JJ (by decide)]; decide
 ·rw [JJ (by decide)]; decide
 ·rw [JJ (by decide)]; decide
theorem Ale : Tp awM 0 = false := by
 obtain ⟨k, hk⟩ := Abo
 have h := VD SE hk
 obtain ⟨D, h1, h2, h3⟩ := Sp (MB SE hk) k
 rw [h1] at h
 have h4 := BS h
 rw [← h4, decide_eq_false_iff_not]
 obtain ⟨s0, s1, s2⟩ := Akt
 have z0 : Zz 3 (HJ JB) 0 := Zz.mk 0 (by decide) (fun i hi hm => by
  rcases (show i = 0 ∨ i = 1 ∨ i = 2 by omega) with rfl | rfl | rfl
  ·rw [s0] at hm; simp at hm
  ·rw [s1] at hm; simp at hm
  ·rw [s2] at hm; cases hm)
 have z1 : Zz 3 (HJ JB) 1 := Zz.mk 1 (by decide) (fun i hi hm => by
  rcases (show i = 0 ∨ i = 1 ∨ i = 2 by omega) with rfl | rfl | rfl
  ·exact z0
  ·rw [s1] at hm; simp at hm
  ·rw [s2] at hm; cases hm)
 have z2 : Zz 3 (HJ JB) 2 := Zz.mk 2 (by decide) (fun i hi hm => by
  rcases (show i = 0 ∨ i = 1 ∨ i = 2 by omega) with rfl | rfl | rfl
  ·rw [s0] at hm; simp at hm
  ·exact z1
  ·rw [s2] at hm; cases hm)
 have h5 : ([0, 1, 2] : List Nat).length = D.length := Aez (by decide) h2 (fun j => by
  rw [h3]
  constructor
  ·intro hj
   simp only [Aod, List.not_mem_nil, or_false] at hj
   rcases hj with rfl | rfl | rfl
   ·exact z0
   ·exact z1
   ·exact z2
  ·intro hz
   cases hz with
   | mk _ hj _ =>
    have : j < 3 := hj
    simp only [Aod, List.not_mem_nil, or_false]
    omega)
 have h6 : D.length = 3 := h5.symm
 show ¬ (D.length : Int) < ((3 : Nat) : Int)
 omega
theorem Ai1 {k : Int} (hk : Iv awM 0 = some ⟨JB, k⟩) {cost : AA → Option Int} (h0 : cost Kr = some 1) (h2 : cost LS = some 1) (h3 : cost M3 = some 1) : CV ⟨JB, k⟩ 1048576 cost 4 0 = some 3 := by
 have hP := MB SE hk
 obtain ⟨n0, n2, n3⟩ := Aei
 have f0 : Gm Kr = some [2] := by rw [Qz hP (x := Kr) (by simp), n0]; rfl
 have f2 : Gm LS = some [3] := by rw [Qz hP (x := LS) (by simp), n2]; rfl
 have f3 : Gm M3 = some [] := by rw [Qz hP (x := M3) (by simp), n3]; rfl
 have p2 : Dc ⟨JB, k⟩ 2 = some 1 := Pd hP k (t := 2) ⟨LS, by simp, rfl⟩
 have p3 : Dc ⟨JB, k⟩ 3 = some 2 := Pd hP k (t := 3) ⟨M3, by simp, rfl⟩
 have g2 : CV ⟨JB, k⟩ 1048576 cost 2 2 = some 1 := by
  unfold CV
  rw [show idx (⟨JB, k⟩ : AK).l 2 = some M3 from rfl, An9, f3, An9, show NN ([] : List Int).length = some () from rfl, An9, show Fg ⟨JB, k⟩ (CV ⟨JB, k⟩ 1048576 cost 1) [] 0 = some 0 from rfl, An9, h3, An9]
  rfl
 have g1 : CV ⟨JB, k⟩ 1048576 cost 3 1 = some 2 := by
  unfold CV
  rw [show idx (⟨JB, k⟩ : AK).l 1 = some LS from rfl, An9, f2, An9, show NN ([3] : List Int).length = some () from rfl, An9]
  have : Fg ⟨JB, k⟩ (CV ⟨JB, k⟩ 1048576 cost 2) [3] 0 = some 1 := by
   unfold Fg
   rw [p3, An9, g2, An9]
   rfl
  rw [this, An9, h2, An9]
  rfl
 unfold CV
 rw [show idx (⟨JB, k⟩ : AK).l 0 = some Kr from rfl, An9, f0, An9, show NN ([2] : List Int).length = some () from rfl, An9]
 have : Fg ⟨JB, k⟩ (CV ⟨JB, k⟩ 1048576 cost 3) [2] 0 = some 2 := by
  unfold Fg
  rw [p2, An9, g1, An9]
  rfl
 rw [this, An9, h0, An9]
 rfl
theorem Ab3 : Gp = some true := by
 obtain ⟨k, hk⟩ := Abo
 obtain ⟨R, v, S, h1, h2⟩ := Xn SE (a := 0) (by decide) (fun i hi => ⟨⟨JB, k⟩, by rw [XX hi]; exact hk⟩) Aho
 obtain ⟨_, b, hb, hbi, hci⟩ := S.ix (Cj.refl 0)
 rw [hk] at hb
 cases hb
 obtain ⟨cl, d, fu, b, st, ce, q1, q0, q2, q3, q4, q5, q6, rfl⟩ := Rw h1
 rw [hci, Aa1] at q1
 cases q1
 obtain rfl : ((0 : Int), (0 : Int)) = d := BS q2
 have hst : st = ⟨3, true⟩ := by
  unfold LN at q5
  have hf := NC SE S (Cj.refl 0)
  have hfr : KW awM (Tp awM) 0 = true := by
   unfold KW
   simp only [Az]
   intro i hi
   rw [XX hi]
   exact Ale
  rw [hfr] at hf
  rw [hf, An9, A1 rfl] at q5
  unfold Hq at q5
  rw [hbi, An9, An9, show Jj 8 (((⟨JB, k⟩ : AK).l.length : Nat) : Int) (0 : Int) = some [0, 0, 0] from rfl, An9, show (⟨JB, k⟩ : AK).l.length + 1 = 4 from rfl] at q5
  rw [Ai1 hk rfl rfl rfl, An9] at q5
  exact (BS q5).symm
 subst hst
 unfold Gp
 rw [show ((0 : Nat) : Int) = 0 from rfl] at h2
 rw [h2, An9]
 rfl
theorem Aap {m : AH} (hm : Cf m) {k : Nat} {R : RK} {v : AU} (S : Sub m k R) (hok : ∀ i, Cj (E1 m) k i → ∃ b, Iv m i = some b) (hr : Jm m k = false) (hv : Dw R (m.Funcs.length + 1) (k : Int) = some v) {g : Int} (hg : g ∈ EI m k) :
  ∃ c, Ik m g = some (c, 0, 0) ∧ c.CQ.Is = true ∧ c.CQ.Most < v.CQ.Most ∧ c.Slots.Is = true ∧ c.Slots.Most ≤ v.Slots.Most := by
 have hkl := (S.at_ k (Cj.refl k)).1
 obtain ⟨g0, hgr⟩ := Vo hm hkl (Cj.refl k) hg
 have hgl : g.toNat < m.Funcs.length := by have := (Mw hm k).2 g hg; omega
 have he : ((g.toNat : Nat) : Int) = g := by omega
 have hrg : Jm m g.toNat = false := by
  cases hq : Jm m g.toNat with
  | false => rfl
  | true =>
   unfold Jm at hq
   simp only [Az] at hq
   obtain ⟨i, hi, z, hz, q⟩ := hq
   exact absurd q (Z1 hr (hgr.trans hi) hz)
 obtain ⟨R', c, S', h1, h2⟩ := Xn hm hgl (fun i hi => hok i (hgr.trans hi)) hrg
 rw [he] at h1 h2
 have hs := XC hm S S' hgr (m.Funcs.length + 1) g.toNat (Cj.refl _)
 rw [he, h1] at hs
 have h64 : m.Funcs.length ≤ 64 := by
  obtain ⟨_, b, hb, _⟩ := S.at_ k (Cj.refl k)
  exact Adq hm hb
 have hB : ∀ y ∈ EI m k, ∃ w, Bd R m.Funcs.length y w := fun y hy => by
  obtain ⟨y0, hyr⟩ := Vo hm hkl (Cj.refl k) hy
  have := WE hm S hr y.toNat hyr
  rwa [show ((y.toNat : Nat) : Int) = y by omega] at this
 obtain ⟨v', hv', hlt⟩ := X7 hm S (n := m.Funcs.length) (by omega) (Cj.refl k) hB
 have e1 := hv'.eq
 rw [hv] at e1
 obtain rfl := BS e1
 obtain ⟨w, hw⟩ := hB g hg
 obtain rfl := VO hw.eq hs
 have := hlt g hg w hw.eq
 exact ⟨w, h2, hw.dis, this.1, hw.sis, this.2⟩
theorem Vy (m : AH) (a : Int) (h0 : 0 ≤ a) (hm : Cf m) : DT m a = some true := by
 have hfl := hm.fl
 simp only [ED] at hfl
 unfold DT
 rw [Ab3, An9, Ay (by simp)]
 by_cases hn : m.Funcs.length = 0
 ·rw [A1 (by rw [hn]; rfl)]
 have hw : IntKind.u64.wrap (m.Funcs.length : Int) = m.Funcs.length := by
  simp [IntKind.wrap, IntKind.signed, IntKind.bits]
  omega
 obtain ⟨a', rfl⟩ := Aoi h0
 have hk : wr (Int.tmod (a' : Int) (m.Funcs.length : Int)) = ((a' % m.Funcs.length : Nat) : Int) := by
  have hq := Nat.mod_lt a' (show 0 < m.Funcs.length by omega)
  have e : Int.tmod (a' : Int) (m.Funcs.length : Int) = ((a' % m.Funcs.length : Nat) : Int) := rfl
  rw [e]
  generalize a' % m.Funcs.length = q at hq
  exact Cc (n := (q : Int)) (by omega) (by omega)
 have hkl := Nat.mod_lt a' (show 0 < m.Funcs.length by omega)
 rw [Ay (by rw [AG]; omega), hw, Ay (by rw [AG]; omega), hk, show (⟨m.Name, m.Classes, m.Funcs, m.Ec⟩ : AH) = m from rfl]
 generalize a' % m.Funcs.length = k at hkl
 obtain ⟨r, h1, h2⟩ := Ajl hm hkl
 rw [h1, An9]
 by_cases e0 : r.2.2 = 0
 ·rw [Ay (by simpa using e0)]
  cases hd : r.1.CQ.Is with
  | false => rw [A1 (show (!false) = true from rfl)]
  | true =>
   rw [Ay (by simp)]
   obtain ⟨hok, hr⟩ := h2 e0 hd
   obtain ⟨R, v, S, h3, h4⟩ := Xn hm hkl hok hr
   rw [h4] at h1
   obtain rfl := BS h1
   obtain ⟨b, hb⟩ := hok k (Cj.refl k)
   have hrd := (Sf hm hb).2
   have hcl : EI m k = Mq m.Funcs.length b.l := by unfold EI; rw [hb]
   have hC : L8 m (k : Int) = some (EI m k, 0, 0) := by
    unfold L8
    rw [show (⟨m.Name, m.Classes, m.Funcs, m.Ec⟩ : AH) = m from rfl, hrd, An9]
    dsimp only
    rw [Ay (by simp), An9, WH (MB hm hb), An9, hcl]
   have hlen := (Mw hm k).1
   rw [hC, An9]
   have := RR (R := Bool ⊕ Unit) (EI m k) (body := CN m (v, 0, 0) (EI m k, 0, 0)) (r := .inr ()) (fun i hi => by
    obtain ⟨c, c1, c2, c3, c4, c5⟩ := Aap hm S hok hr h3 (Aof hi)
    unfold CN
    rw [A1 (by rw [Az]; dsimp only; omega), Bv hi, An9, show (⟨m.Name, m.Classes, m.Funcs, m.Ec⟩ : AH) = m from rfl, c1, An9]
    dsimp only
    rw [Ay (by simp), c2, Ay (by simp), Ay (by rw [Az]; omega), c4, Ay (by simp), Ay (by rw [Az]; omega), CU (by omega)]) (by
    unfold CN
    rw [Ay (by rw [Az]; dsimp only; omega)])
   rw [this, An9]
   rfl
 ·rw [A1 (by simpa using e0)]
end Go.Proofs.YtfcpkcehecmcpaaGreat
namespace Go.Proofs.YtfcpkcehecmcpaaGreat
open Go Go.RowKit Go.Pv Go.Proofs.Tryz
theorem BC : Ey prog 28 3 1 8 (Ji 1) = true := by kernel_rfl
theorem SD : DL prog 49 = true := by kernel_rfl
theorem WQ : (prog.info? 26).bind (·.zero) = some (.agg ⟨[.string ⟨⟨[]⟩⟩, .slice none 0 0, .slice none 0 0, .slice none 0 0]⟩) := by kernel_rfl
theorem ZN : Hd prog 9 = true := by kernel_rfl
theorem GM : Ey prog 22 103 3 48 (Ji 3) = true := by kernel_rfl
theorem RB : Gf prog 103 3 = true := by kernel_rfl
theorem Vb : (prog.info? 103).bind (·.zero) = some (.agg ⟨[.string ⟨⟨[]⟩⟩, .int .i64 0, .slice none 0 0]⟩) := by kernel_rfl
theorem Yi : (prog.info? 103).map (·.size) = some 3 := by kernel_rfl
theorem Q1 : PK prog 103 2 2 1 = true := by kernel_rfl
theorem RH : Hd prog 101 = true := by kernel_rfl
theorem MP : Ey prog 101 106 2 24 (Ji 2) = true := by kernel_rfl
theorem Afm : (prog.info? 101).map (·.size) = some 1 := by kernel_rfl
theorem Aix : MM prog 26 [(0, 1), (1, 1), (2, 1), (3, 1)] = true := by kernel_rfl
theorem Aif : (prog.info? 26).map (·.size) = some 4 := by kernel_rfl
theorem BL : prog.follows .mixedOrders = true := by kernel_rfl
theorem SO : Ey prog 23 52 5 80 (Ji 5) = true := by kernel_rfl
theorem X6 : Gf prog 52 5 = true := by kernel_rfl
theorem So : (prog.info? 52).bind (·.zero) = some (.agg ⟨[.string ⟨⟨[]⟩⟩, .slice none 0 0, .int .u8 0, .int .i64 0, .slice none 0 0]⟩) := by kernel_rfl
theorem Z2 : (prog.info? 52).map (·.size) = some 5 := by kernel_rfl
theorem TM : Gf prog 50 2 = true := by kernel_rfl
theorem NF : (prog.info? 50).bind (·.zero) = some (.agg ⟨[.slice none 0 0, .int .u8 0]⟩) := by kernel_rfl
theorem Wq : PK prog 50 0 0 1 = true := by kernel_rfl
theorem Ud : Hd prog 47 = true := by kernel_rfl
theorem BU : Ey prog 47 48 1 1 (Ji 1) = true := by kernel_rfl
theorem VT : (prog.info? 50).map (·.size) = some 2 := by kernel_rfl
theorem ET : Ey prog 42 5 1 1 (Ji 1) = true := by kernel_rfl
theorem Zw : (prog.info? 42).map (·.size) = some 1 := by kernel_rfl
theorem KZ : (prog.info? 110).bind (·.zero) = some (.agg ⟨[.slice none 0 0, .slice none 0 0, .int .i64 0]⟩) := by kernel_rfl
theorem Ue : MM prog 110 [(0, 1), (1, 1), (2, 1)] = true := by kernel_rfl
theorem OJ : (prog.info? 110).map (·.size) = some 3 := by kernel_rfl
theorem Pt : Gf prog 110 3 = true := by kernel_rfl
theorem Aig : (prog.info? 22).map (·.size) = some 1 := by kernel_rfl
theorem Ad7 : PK prog 50 1 1 1 = true := by kernel_rfl
theorem DV : Hd prog 48 = true := by kernel_rfl
theorem ZX : MM prog 50 [(0, 1), (1, 1)] = true := by kernel_rfl
theorem JG : Ey prog 108 50 2 32 (Ji 2) = true := by kernel_rfl
theorem Agk : (prog.info? 108).map (·.size) = some 1 := by kernel_rfl
theorem Cn : Hd prog 3 = true := by kernel_rfl
theorem Nf : Ey prog 218 9 1 16 (Ji 1) = true := by kernel_rfl
theorem Ae8 : DL prog 155 = true := by kernel_rfl
theorem M6 : PK prog 103 1 1 1 = true := by kernel_rfl
theorem Abg : (prog.info? 218).bind (·.zero) = some (.slice none 0 0) := by kernel_rfl
theorem WP : Gf prog 106 2 = true := by kernel_rfl
theorem UH : (prog.info? 106).bind (·.zero) = some (.agg ⟨[.string ⟨⟨[]⟩⟩, .int .u8 0]⟩) := by kernel_rfl
theorem Y0 : (prog.info? 106).map (·.size) = some 2 := by kernel_rfl
theorem YA : (prog.info? 218).map (·.size) = some 1 := by kernel_rfl
theorem Aes : DL prog 180 = true := by kernel_rfl
theorem Aa0 : PK prog 106 1 1 1 = true := by kernel_rfl
theorem X9 : DL prog 128 = true := by kernel_rfl
theorem Bu : (prog.info? 118).bind (·.zero) = some (.agg ⟨(.int .i64 0 :: .int .i64 0 :: Bb (Vector.replicate 24 (0 : UInt8)))⟩) := by kernel_rfl
theorem Dj : MM prog 118 [(0, 1), (1, 1), (2, 24)] = true := by kernel_rfl
theorem BA : (prog.info? 118).map (·.size) = some 26 := by kernel_rfl
theorem BI : Gf prog 118 26 = true := by kernel_rfl
theorem Gb : Rs prog 116 48 24 1 = true := by kernel_rfl
theorem Ov : (prog.info? 48).map (·.size) = some 1 := by kernel_rfl
theorem FM : Key prog 3 (Value.int .i64) := Key.int underlying3
theorem Q9 : (prog.info? 179).bind (·.zero) = some (.agg ⟨[]⟩) := by kernel_rfl
theorem Uf : MM prog 179 [] = true := by kernel_rfl
theorem Agl : MM prog 154 [(0, 3), (3, 1), (4, 1), (5, 1), (6, 1), (7, 1)] = true := by kernel_rfl
theorem Aar : (prog.info? 154).bind (·.zero) = some (.agg ⟨[.slice none 0 0, .slice none 0 0, .int .i64 0, .slice none 0 0, .map none, .map none, .map none, .int .i64 0]⟩) := by kernel_rfl
theorem JK : (prog.info? 3).map (·.size) = some 1 := by kernel_rfl
theorem IL : (prog.info? 79).bind (·.zero) = some (.agg ⟨[.int .i64 0, .int .u8 0, .int .i64 0, .int .i64 0]⟩) := by kernel_rfl
theorem Aae : MM prog 79 [(0, 1), (1, 1), (2, 1), (3, 1)] = true := by kernel_rfl
theorem GH : (prog.info? 79).map (·.size) = some 4 := by kernel_rfl
theorem Fh : Gf prog 79 4 = true := by kernel_rfl
theorem SI : Hd prog 5 = true := by kernel_rfl
theorem Acz : (prog.info? 42).bind (·.zero) = some (.slice none 0 0) := by kernel_rfl
theorem ZT : DL prog 75 = true := by kernel_rfl
theorem Aic : DL prog 74 = true := by kernel_rfl
theorem Ajo : (prog.info? 3).bind (·.zero) = some ((Value.int .i64) (0 : Int)) := by kernel_rfl
theorem Uj : (prog.info? 118).bind (·.zero) = some (.agg ⟨(.int .i64 0 :: .int .i64 0 :: Bb (Vector.replicate 24 (0 : UInt8)))⟩) := by kernel_rfl
theorem Y7 : DL prog 182 = true := by kernel_rfl
theorem Y5 : DL prog 183 = true := by kernel_rfl
theorem Agf : DL prog 184 = true := by kernel_rfl
theorem ZF : prog.cellsOf 48 = 1 := by kernel_rfl
theorem Nu : Gf prog 116 24 = true := by kernel_rfl
theorem Y3 : (prog.fieldsOf 118).toList = [(⟨ "Locals", 3, 0, false, "", "", 0⟩ : Field), (⟨ "Height", 3, 1, false, "", "", 8⟩ : Field), (⟨ "Slots", 116, 2, false, "", "", 16⟩ : Field)] := by kernel_rfl
theorem Qu : TQ prog 118 = true := by kernel_rfl
theorem Cw : (prog.info? 226).bind (·.zero) = some (.agg ⟨[.slice none 0 0, .nilFunc]⟩) := by kernel_rfl
theorem E0 : MM prog 226 [(0, 1), (1, 1)] = true := by kernel_rfl
theorem DW : (prog.info? 226).map (·.size) = some 2 := by kernel_rfl
theorem D4 : Gf prog 226 2 = true := by kernel_rfl
theorem Va : (prog.info? 249).bind (·.zero) = some (.agg ⟨[.nilFunc, .nilFunc, .nilFunc, .nilFunc, .nilFunc, .nilFunc, .nilFunc, .nilFunc, .nilFunc, .nilFunc, .nilFunc, .nilFunc, .nilFunc, .nilFunc, .nilFunc, .nilFunc, .nilFunc, .nilFunc, .nilFunc, .nilFunc, .nilFunc, .nilFunc, .nilFunc, .nilFunc, .nilFunc, .nilFunc, .nilFunc, .nilFunc, .nilFunc, .nilFunc, .nilFunc, .nilFunc, .nilFunc, .nilFunc]⟩) := by kernel_rfl
theorem D6 : (prog.info? 253).bind (·.zero) = some (.agg ⟨[.int .i64 0, .int .u8 0]⟩) := by kernel_rfl
theorem Hj : MM prog 253 [(0, 1), (1, 1)] = true := by kernel_rfl
theorem Qt : (prog.info? 253).map (·.size) = some 2 := by kernel_rfl
theorem Wo : Gf prog 253 2 = true := by kernel_rfl
theorem Cl : Ey prog 224 253 2 16 (Ji 2) = true := by kernel_rfl
theorem C3 : DL prog 201 = true := by kernel_rfl
theorem Abh : (prog.info? 142).bind (·.zero) = some (.nilFunc) := by kernel_rfl
theorem Aeo : (prog.info? 142).map (·.size) = some 1 := by kernel_rfl
theorem WT : Hd prog 142 = true := by kernel_rfl
theorem CB : DL prog 202 = true := by kernel_rfl
theorem Cd : Rs prog 249 248 34 1 = true := by kernel_rfl
theorem Cg : (prog.info? 248).map (·.size) = some 1 := by kernel_rfl
theorem TY : DL prog 208 = true := by kernel_rfl
theorem Yo : DL prog 209 = true := by kernel_rfl
theorem Wv : Gf prog 249 34 = true := by kernel_rfl
theorem Afb : (prog.info? 249).map (·.size) = some 34 := by kernel_rfl
theorem Aeq : DL prog 185 = true := by kernel_rfl
theorem Adb : Hd prog 248 = true := by kernel_rfl
theorem Oo : Hd prog 4 = true := by kernel_rfl
theorem Adj : (prog.info? 28).bind (·.zero) = some (.slice none 0 0) := by kernel_rfl
theorem XM : Hd prog 28 = true := by kernel_rfl
theorem Ail : (prog.info? 28).map (·.size) = some 1 := by kernel_rfl
theorem Ago : DL prog 100 = true := by kernel_rfl
theorem YD : (prog.info? 4).bind (·.zero) = some (.bool false) := by kernel_rfl
theorem Yl : (prog.info? 4).map (·.size) = some 1 := by kernel_rfl
theorem Af7 : DL prog 219 = true := by kernel_rfl
theorem Aek : DL prog 187 = true := by kernel_rfl
theorem Zx : DL prog 50 = true := by kernel_rfl
theorem Ada : (prog.info? 48).bind (·.zero) = some (.int .u8 0) := by kernel_rfl
theorem Q6 : (prog.info? 3).bind (·.zero) = some (.int .i64 0) := by kernel_rfl
theorem Ae2 : DL prog 212 = true := by kernel_rfl
theorem Aib : DL prog 73 = true := by kernel_rfl
theorem Agq : DL prog 106 = true := by kernel_rfl
theorem Aer : DL prog 107 = true := by kernel_rfl
theorem Ah1 : DL prog 72 = true := by kernel_rfl
theorem Agm : MM prog 120 [(0, 1), (1, 1), (2, 26)] = true := by kernel_rfl
theorem UU : (prog.info? 120).bind (·.zero) = some (.agg ⟨(.int .i64 0 :: .bool false :: .int .i64 0 :: .int .i64 0 :: Bb (Vector.replicate 24 (0 : UInt8)))⟩) := by kernel_rfl
theorem Ui : Ey prog 113 120 28 56 (Ji 28) = true := by kernel_rfl
theorem Ahi : MM prog 81 [(0, 1), (1, 1)] = true := by kernel_rfl
theorem Ac0 : (prog.info? 81).bind (·.zero) = some (.agg ⟨[.slice none 0 0, .int .i64 0]⟩) := by kernel_rfl
theorem Ab0 : Gf prog 120 28 = true := by kernel_rfl
theorem Agp : (prog.info? 120).map (·.size) = some 28 := by kernel_rfl
theorem Xx : Hd prog 75 = true := by kernel_rfl
theorem JQ : Ey prog 75 79 4 32 (Ji 4) = true := by kernel_rfl
theorem Ah7 : (prog.info? 75).map (·.size) = some 1 := by kernel_rfl
theorem Z8 : Ey prog 64 28 1 24 (Ji 1) = true := by kernel_rfl
theorem S9 : Ey prog 44 4 1 1 (Ji 1) = true := by kernel_rfl
theorem Ain : DL prog 92 = true := by kernel_rfl
theorem Ah0 : MM prog 52 [(0, 1), (1, 2), (3, 1), (4, 1)] = true := by kernel_rfl
theorem N4 : (prog.info? 54).bind (·.zero) = some (.agg ⟨[.int .i64 0, .bool false]⟩) := by kernel_rfl
theorem SC : MM prog 54 [(0, 1), (1, 1)] = true := by kernel_rfl
theorem Z3 : (prog.info? 54).map (·.size) = some 2 := by kernel_rfl
theorem Ql : Gf prog 54 2 = true := by kernel_rfl
theorem Aip : DL prog 98 = true := by kernel_rfl
theorem ZD : Ey prog 84 65 1 8 (Ji 1) = true := by kernel_rfl
theorem Xt : Hd prog 65 = true := by kernel_rfl
theorem Ah3 : DL prog 35 = true := by kernel_rfl
theorem Ahy : DL prog 65 = true := by kernel_rfl
theorem Rv : (prog.info? 56).bind (·.zero) = some (.agg ⟨[.int .i64 0, .bool false, .int .i64 0, .bool false, .int .i64 0, .bool false, .int .i64 0, .bool false]⟩) := by kernel_rfl
theorem V8 : (prog.info? 56).map (·.size) = some 8 := by kernel_rfl
theorem ZK : (prog.fieldsOf 54).toList = [(⟨ "Most", 3, 0, false, "", "", 0⟩ : Field), (⟨ "Is", 4, 1, false, "", "", 8⟩ : Field)] := by kernel_rfl
theorem SK : TQ prog 54 = true := by kernel_rfl
theorem Ae6 : DL prog 214 = true := by kernel_rfl
theorem Afs : DL prog 203 = true := by kernel_rfl
theorem Af8 : DL prog 204 = true := by kernel_rfl
theorem Agi : DL prog 215 = true := by kernel_rfl
theorem Af2 : DL prog 205 = true := by kernel_rfl
theorem Af6 : DL prog 206 = true := by kernel_rfl
theorem Afa : DL prog 216 = true := by kernel_rfl
theorem Afz : DL prog 218 = true := by kernel_rfl
end Go.Proofs.YtfcpkcehecmcpaaGreat
namespace Go.Proofs.YtfcpkcehecmcpaaGreat
open Go Go.RowKit Go.Pv Go.Proofs.Tryz
def tab : Jh := ⟨[(26, 0, 0, 1), (26, 1, 1, 1), (26, 2, 2, 1), (26, 3, 3, 1), (50, 0, 0, 1), (50, 1, 1, 1), (52, 0, 0, 1), (52, 1, 1, 2), (52, 2, 3, 1), (52, 3, 4, 1), (54, 0, 0, 1), (54, 1, 1, 1), (56, 0, 0, 2), (56, 1, 2, 2), (56, 2, 4, 2), (79, 0, 0, 1), (79, 1, 1, 1), (79, 2, 2, 1), (79, 3, 3, 1), (81, 0, 0, 1), (81, 1, 1, 1), (88, 1, 4, 1), (88, 2, 5, 1), (103, 0, 0, 1), (103, 1, 1, 1), (103, 2, 2, 1), (106, 0, 0, 1), (106, 1, 1, 1), (110, 0, 0, 1), (110, 1, 1, 1), (110, 2, 2, 1), (118, 0, 0, 1), (118, 1, 1, 1), (118, 2, 2, 24), (120, 0, 0, 1), (120, 2, 2, 26), (154, 0, 0, 3), (154, 1, 3, 1), (154, 2, 4, 1), (154, 3, 5, 1), (154, 4, 6, 1), (154, 5, 7, 1), (164, 0, 0, 1), (164, 1, 1, 1), (164, 2, 2, 1), (164, 3, 3, 1), (226, 0, 0, 1), (226, 1, 1, 1), (253, 0, 0, 1), (253, 1, 1, 1)], [8, 9, 10, 11, 12, 13, 14, 15, 16, 17, 18, 19, 21, 23, 24, 25, 26, 27, 28, 29, 30, 31, 33, 34, 35, 36, 44, 45, 46, 47, 48, 51, 52, 54, 55, 56, 57, 58, 59, 60, 65, 67, 70, 71, 74, 75, 76, 79, 80, 81, 82, 83, 84, 85, 86, 87, 88, 89, 90, 91, 92, 93, 94, 97, 98, 99, 100, 101, 103, 104, 105, 119, 121, 122, 123, 124, 125, 126, 127, 128, 129, 130, 131, 132, 133, 134, 135, 143, 144, 145, 146, 147, 148, 149, 150, 151, 152, 153, 154, 155, 156, 157, 158, 159, 160, 161, 162, 163, 164, 165, 167, 168, 170, 171, 172, 173, 174, 175, 176, 177, 178, 179, 180, 181, 182, 183, 184, 186, 188, 189, 190, 191, 192, 193, 194, 195, 196, 197, 198, 199, 200, 207, 210, 211, 212, 213, 217, 219], [3, 4, 5, 9, 22, 23, 24, 28, 42, 44, 47, 48, 64, 65, 75, 84, 101, 108, 142, 150, 151, 152, 162, 218, 224, 248], [(26, 4), (50, 2), (52, 5), (54, 2), (79, 4), (103, 3), (106, 2), (110, 3), (116, 24), (118, 26), (120, 28), (164, 4), (226, 2), (249, 34), (253, 2)]⟩
instance : IE prog := ⟨tab, by kernel_rfl⟩
end Go.Proofs.YtfcpkcehecmcpaaGreat
namespace Go.Proofs.YtfcpkcehecmcpaaGreat
end Go.Proofs.YtfcpkcehecmcpaaGreat
namespace Go.Proofs.YtfcpkcehecmcpaaGreat
open Go Go.RowKit Go.Pv Go.Proofs.Tryz Go.Shelf Go.Proofs
def WY : Go.Shelf.Ren := ⟨fun | 189 => 49 | 125 => 78 | 257 => 77 | 128 => 117 | 129 => 118 | 294 => 108 | 295 => 109 | 296 => 110 | 297 => 111 | 298 => 112 | 299 => 113 | 216 => 114 | 300 => 115 | 301 => 116 | 328 => 137 | 329 => 138 | 330 => 139 | 331 => 140 | 332 => 141 | 215 => 142 | 343 => 166 | n => n, fun | 28 => 28 | 3 => 3 | 46 => 41 | 0 => 0 | 51 => 191 | 53 => 193 | 4 => 4 | 183 => 183 | 182 => 182 | 131 => 188 | 5 => 5 | 9 => 9 | 218 => 205 | 222 => 209 | 228 => 235 | 229 => 156 | n => n, fun | n => n⟩
theorem Pq : Go.Proofs.Lays.n189 prog WY where
 mixed := by kernel_rfl
 f125 := func78.trans (congrArg some (by kernel_rfl))
 f128 := func117.trans (congrArg some (by kernel_rfl))
 f129 := func118.trans (congrArg some (by kernel_rfl))
 f189 := func49.trans (congrArg some (by kernel_rfl))
 f215 := func142.trans (congrArg some (by kernel_rfl))
 f216 := func114.trans (congrArg some (by kernel_rfl))
 f257 := func77.trans (congrArg some (by kernel_rfl))
 f294 := func108.trans (congrArg some (by kernel_rfl))
 f295 := func109.trans (congrArg some (by kernel_rfl))
 f296 := func110.trans (congrArg some (by kernel_rfl))
 f297 := func111.trans (congrArg some (by kernel_rfl))
 f298 := func112.trans (congrArg some (by kernel_rfl))
 f299 := func113.trans (congrArg some (by kernel_rfl))
 f300 := func115.trans (congrArg some (by kernel_rfl))
 f301 := func116.trans (congrArg some (by kernel_rfl))
 f328 := func137.trans (congrArg some (by kernel_rfl))
 f329 := func138.trans (congrArg some (by kernel_rfl))
 f330 := func139.trans (congrArg some (by kernel_rfl))
 f331 := func140.trans (congrArg some (by kernel_rfl))
 f332 := func141.trans (congrArg some (by kernel_rfl))
 f343 := func166.trans (congrArg some (by kernel_rfl))
 t0 := underlying0
 a0 := Tryz.isAgg0
 z0 := Tryz.sizeOf0
 v0 := Tryz.zeroValue0
 t3 := underlying3
 a3 := Tryz.isAgg3
 z3 := Tryz.sizeOf3
 v3 := Tryz.zeroValue3
 t4 := underlying4
 a4 := Tryz.isAgg4
 z4 := Tryz.sizeOf4
 v4 := Tryz.zeroValue4
 t5 := underlying5
 a5 := Tryz.isAgg5
 z5 := Tryz.sizeOf5
 v5 := Tryz.zeroValue5
 t9 := underlying9
 a9 := Tryz.isAgg9
 z9 := Tryz.sizeOf9
 v9 := Tryz.zeroValue9
 t28 := underlying28
 a28 := Tryz.isAgg28
 z28 := Tryz.sizeOf28
 v28 := Tryz.zeroValue28
 t46 := underlying41
 a46 := Tryz.isAgg41
 z46 := Tryz.sizeOf41
 v46 := Tryz.zeroValue41
 t51 := underlying191
 a51 := Tryz.isAgg191
 z51 := Tryz.sizeOf191
 v51 := Tryz.zeroValue191
 t53 := underlying193
 a53 := Tryz.isAgg193
 z53 := Tryz.sizeOf193
 v53 := Tryz.zeroValue193
 t131 := underlying188
 a131 := Tryz.isAgg188
 z131 := Tryz.sizeOf188
 v131 := Tryz.zeroValue188
 t182 := underlying182
 a182 := Tryz.isAgg182
 z182 := Tryz.sizeOf182
 v182 := Tryz.zeroValue182
 t183 := underlying183
 a183 := Tryz.isAgg183
 z183 := Tryz.sizeOf183
 v183 := Tryz.zeroValue183
 t218 := underlying205
 a218 := Tryz.isAgg205
 z218 := Tryz.sizeOf205
 v218 := Tryz.zeroValue205
 t222 := underlying209
 a222 := Tryz.isAgg209
 z222 := Tryz.sizeOf209
 v222 := Tryz.zeroValue209
 t228 := underlying235
 a228 := Tryz.isAgg235
 z228 := Tryz.sizeOf235
 v228 := Tryz.zeroValue235
 t229 := underlying156
 a229 := Tryz.isAgg156
 z229 := Tryz.sizeOf156
 v229 := Tryz.zeroValue156
def Ul : Go.Shelf.Ren := ⟨fun | 20 => 50 | n => n, fun | 22 => 28 | 3 => 3 | 4 => 4 | 0 => 0 | n => n, fun | n => n⟩
theorem RL : Go.Proofs.Lays2.n20 prog Ul where
 mixed := by kernel_rfl
 f20 := func50.trans (congrArg some (by kernel_rfl))
 t0 := underlying0
 a0 := Tryz.isAgg0
 z0 := Tryz.sizeOf0
 v0 := Tryz.zeroValue0
 t3 := underlying3
 a3 := Tryz.isAgg3
 z3 := Tryz.sizeOf3
 v3 := Tryz.zeroValue3
 t4 := underlying4
 a4 := Tryz.isAgg4
 z4 := Tryz.sizeOf4
 v4 := Tryz.zeroValue4
 t22 := underlying28
 a22 := Tryz.isAgg28
 z22 := Tryz.sizeOf28
 v22 := Tryz.zeroValue28
 i3 := by kernel_rfl
def UE : Go.Shelf.Ren := ⟨fun | 7 => 73 | 10 => 107 | n => n, fun | 23 => 150 | 26 => 3 | 3 => 118 | 28 => 148 | 0 => 0 | 27 => 147 | 33 => 89 | 4 => 4 | n => n, fun | n => n⟩
theorem Tu : Go.Proofs.SlLaysZI.n7 prog UE where
 mixed := by kernel_rfl
 f7 := ⟨"maps.Keys[map[int]proviso/api.Frame,int,proviso/api.Frame]", by decide, func73.trans (congrArg some (by kernel_rfl))⟩
 f10 := ⟨"maps.Keys[map[int]proviso/api.Frame,int,proviso/api.Frame]$1", by decide, func107.trans (congrArg some (by kernel_rfl))⟩
 t0 := underlying0
 a0 := Tryz.isAgg0
 z0 := Tryz.sizeOf0
 v0 := Tryz.zeroValue0
 t4 := underlying4
 a4 := Tryz.isAgg4
 z4 := Tryz.sizeOf4
 v4 := Tryz.zeroValue4
 t23 := underlying150
 a23 := Tryz.isAgg150
 z23 := Tryz.sizeOf150
 v23 := Tryz.zeroValue150
 t26 := underlying3
 a26 := Tryz.isAgg3
 z26 := Tryz.sizeOf3
 v26 := Tryz.zeroValue3
 t27 := underlying147
 a27 := Tryz.isAgg147
 z27 := Tryz.sizeOf147
 v27 := Tryz.zeroValue147
 t28 := underlying148
 a28 := Tryz.isAgg148
 z28 := Tryz.sizeOf148
 v28 := Tryz.zeroValue148
 t33 := underlying89
 a33 := Tryz.isAgg89
 z33 := Tryz.sizeOf89
 v33 := Tryz.zeroValue89
def Vg : Go.Shelf.Ren := ⟨fun | 6 => 72 | 8 => 106 | 9 => 49 | 11 => 136 | 13 => 78 | 12 => 77 | 23 => 117 | 24 => 118 | 14 => 108 | 15 => 109 | 16 => 110 | 17 => 111 | 18 => 112 | 19 => 113 | 20 => 114 | 21 => 115 | 22 => 116 | 25 => 137 | 26 => 138 | 27 => 139 | 28 => 140 | 29 => 141 | 30 => 142 | 31 => 166 | n => n, fun | 26 => 3 | 28 => 148 | 24 => 28 | 0 => 0 | 3 => 3 | 37 => 41 | 48 => 191 | 50 => 193 | 4 => 4 | 40 => 183 | 39 => 182 | 45 => 188 | 5 => 5 | 9 => 9 | 51 => 205 | 55 => 209 | 57 => 235 | 58 => 156 | 33 => 89 | n => n, fun | n => n⟩
theorem Zi : Go.Proofs.SlLaysZI.n6 prog Vg where
 mixed := by kernel_rfl
 f6 := ⟨"slices.Sorted[int]", by decide, func72.trans (congrArg some (by kernel_rfl))⟩
 f8 := ⟨"slices.Collect[int]", by decide, func106.trans (congrArg some (by kernel_rfl))⟩
 f11 := ⟨"slices.AppendSeq[[]int,int]", by decide, func136.trans (congrArg some (by kernel_rfl))⟩
 t0 := underlying0
 a0 := Tryz.isAgg0
 z0 := Tryz.sizeOf0
 v0 := Tryz.zeroValue0
 t24 := underlying28
 a24 := Tryz.isAgg28
 z24 := Tryz.sizeOf28
 v24 := Tryz.zeroValue28
 t26 := underlying3
 a26 := Tryz.isAgg3
 z26 := Tryz.sizeOf3
 v26 := Tryz.zeroValue3
 t28 := underlying148
 a28 := Tryz.isAgg148
 z28 := Tryz.sizeOf148
 v28 := Tryz.zeroValue148
 i26 := by kernel_rfl
end Go.Proofs.YtfcpkcehecmcpaaGreat
