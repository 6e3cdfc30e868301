/- Elements stored into; arrays; rows made and copied into; gotos ahead; whole structs stored. -/
import Derived.Test.YtkcehlfcfcabmaaGreatPvh
import Derived.ScopeJumps
set_option linter.unusedVariables false
set_option linter.unusedSimpArgs false
namespace Go.Pv
open Go Go.RowKit

/-! ### Guards, gotos -/
section
variable {P : Program} {Q : Exit → Act → World → Prop} {J : Act → World → Prop} {a : Act} {w : World} {n : Nat} {m : List (Nat × Value)} {ops : Array Oper} {rest : List Oper}
theorem st_ungd {dst : Option Tmp} {op : Op} {ty : TypeId} {pos : String} {aft : Array Edge} {j dj : Nat} {b : Bool} (hF : Fr a n m) (hj : (ops[j]?).bind (·.dst) = some dj) (hb : look m dj = some (.bool b))
    (h : wpList P ops Q (⟨dst, op, ty, pos, aft, none⟩ :: rest) a w) : wpList P ops Q (⟨dst, op, ty, pos, aft, some (j, b)⟩ :: rest) a w := by
  have hy := yielded_of hF hj hb
  unfold wpList at h ⊢
  rw [if_pos (by simp [Region.wanted, hy])]
  rw [if_pos (by simp [Region.wanted])] at h
  exact h
theorem wp_scope_fwd {c rest : Code} (l : Nat) (hf : findLabel c l = some rest) (h : c.wp P (Exit.jump l (fun a w => rest.wp P (Exit.noGoto Q) a w) Q) a w) : (Code.scope c).wp P Q a w :=
  wp_scope_jumps l (fun a w => rest.wp P (Exit.noGoto Q) a w) (fun _ _ => 0) hf h fun a w hJ => wp_mono hJ fun e a w h => by
    cases e <;> first | exact h | exact h.elim
theorem jmp_n {l : Nat} (h : Q .normal a w) : Exit.jump l J Q .normal a w := h
theorem jmp_x {l i : Nat} (h : Q (.exit i) a w) : Exit.jump l J Q (.exit i) a w := h
theorem jmp_r {l : Nat} (h : Q .ret a w) : Exit.jump l J Q .ret a w := h
theorem jmp_hit {l : Nat} (h : J a w) : Exit.jump l J Q (.goto l) a w := ⟨rfl, h⟩
theorem nog_n (h : Q .normal a w) : Exit.noGoto Q .normal a w := h
theorem nog_x {i : Nat} (h : Q (.exit i) a w) : Exit.noGoto Q (.exit i) a w := h
theorem nog_r (h : Q .ret a w) : Exit.noGoto Q .ret a w := h
end

theorem Rd.nil_ {α : Type} {T : Ty α} {w : World} {F0 : List Nat} : Rd T w F0 (.slice none 0 0) [] := ⟨[], (slOwn.nil w).rd, by simp⟩

/-! ### Rows written -/
def ElAt (sz : Nat) (v : Value) (i : Int) (ad : Addr) : Prop := ∃ A n c, v = .slice (some A) n c ∧ ad = A.add (i.toNat * sz)
section
variable {P : Program} {w0 w : World} {F0 F : List Nat} {ps rest : List Ck} {m : List (Nat × Value)} {n d : Nat} {ty : TypeId} {pos : String} {aft : Array Edge} {x y : Operand} {ops : Array Oper} {Q : Exit → Act → World → Prop} {a : Act} {l' : List Oper}
variable {α : Type} {T : Ty α} {enc : α → List Value} {v u : Value} {l r : List α}

theorem rowOwn.write {sz k : Nat} {xs ys : List Value} {A : Addr} {c o : Nat} (h : rowOwn sz w F (.slice (some A) k c) k xs) (hfit : o + ys.length ≤ k * sz) (h1 : ∀ u ∈ ys, u.oneCell' = true) :
    ∃ w', (storeCells (A.add o) ys).run P w = .ok () w' ∧ rowOwn sz w' F (.slice (some A) k c) k (xs.take o ++ ys ++ xs.drop (o + ys.length)) ∧ Fm w F w' := by
  rcases h.2 with ⟨h2, _⟩ | ⟨g, o', cap, cur, e', fz, hv, rfl, hg, hnc, hoc, hfz, hc⟩
  · cases h2
  · injection hv with hA _ hcc
    injection hA with hA
    subst hA hcc
    have hk : k * sz ≤ c * sz := Nat.mul_le_mul_right _ hnc
    have hst := run_storeCells_fz (P := P) g (o' + o) e' fz ys 0 cur w hg hfz (by omega) h1
    simp only [Nat.add_zero] at hst
    refine ⟨_, by rw [add_mk]; exact hst, ⟨?_, .inr ⟨g, o', c, _, e', fz, rfl, rfl, setRow_heap w g cur _ e' _ hg, hnc, ?_, ?_, ?_⟩⟩, Fm.one rfl rfl rfl (by simp) (fun k hk => setRow_other w g k _ hk)⟩
    · simp only [List.length_append, List.length_take, List.length_drop, h.1]; omega
    · simp only [List.size_toArray, List.length_append, List.length_take, List.length_drop, Array.length_toList]; omega
    · intro j hj
      apply hfz
      simp only [List.size_toArray, List.length_append, List.length_take, List.length_drop, Array.length_toList] at hj
      omega
    · intro j u hu
      have hl := h.1
      have hcs : cur.toList.length = cur.size := Array.length_toList
      rw [List.getElem?_toArray]
      rw [List.append_assoc] at hu ⊢
      by_cases hj : j < o
      · rw [List.getElem?_append_left (by simp; omega), List.getElem?_take, if_pos hj] at hu
        rw [List.getElem?_append_left (by simp; omega), List.getElem?_take, if_pos (by omega), Array.getElem?_toList]
        exact hc j u hu
      · rw [List.getElem?_append_right (by simp; omega)] at hu
        rw [List.getElem?_append_right (by simp; omega)]
        simp only [List.length_take] at hu ⊢
        rw [Nat.min_eq_left (by omega)] at hu ⊢
        by_cases hj' : j - o < ys.length
        · rw [List.getElem?_append_left hj'] at hu
          rw [List.getElem?_append_left (by omega), ← hu]
          congr 1; omega
        · rw [List.getElem?_append_right (by omega), List.getElem?_drop] at hu
          rw [List.getElem?_append_right (by omega), List.getElem?_drop, Array.getElem?_toList]
          have := hc _ _ hu
          rw [← this]
          congr 1; omega

theorem Flat.set (hFl : Flat T enc) : ∀ (l : List α) (i : Nat) (y : α), i < l.length → (l.set i y).flatMap enc = (l.flatMap enc).take (i * T.sz) ++ enc y ++ (l.flatMap enc).drop (i * T.sz + T.sz)
  | [], i, y, h => by simp at h
  | x :: l, 0, y, h => by
    simp only [List.set_cons_zero, List.flatMap_cons, Nat.zero_mul, List.take_zero, List.nil_append, Nat.zero_add]
    rw [← hFl.len x, List.drop_left]
  | x :: l, i + 1, y, h => by
    have hl := hFl.len x
    simp only [List.set_cons_succ, List.flatMap_cons]
    rw [hFl.set l i y (by simpa using h)]
    rw [show (i + 1) * T.sz = (enc x).length + i * T.sz by rw [Nat.succ_mul, hl, Nat.add_comm]]
    rw [Nat.add_assoc (enc x).length, List.take_length_add_append, List.drop_length_add_append]
    simp

theorem own_idx (hFl : Flat T enc) {t e sz bytes : Nat} {z : Value → Bool} {i : Int} {x : α} (hs : SL w0 F0 w ps) (hm : Sl T v l ∈ ps) (hb : slB P t e sz bytes z = true) (hz : T.sz = sz) (hx : idx l i = some x) : ∃ ad, IxA P t v i ad ∧ ElAt T.sz v i ad := by
  obtain ⟨h0, h1, h2⟩ := idx_some hx
  obtain ⟨G, hr⟩ := hs.own_rd hm
  obtain ⟨A, c, rfl, hc, hi⟩ := hr
  obtain ⟨ad, cs, rfl, hG, h3, h4⟩ := hi _ x h2
  obtain ⟨hu, ti, zv, h5, h6, _⟩ := slB_spec hb
  refine ⟨ad.add (i.toNat * T.sz), fun w m x y k dd ty pos aft g hx hy a _ hF => ?_, ad, _, _, rfl, rfl⟩
  have e1 : (0 ≤ i ∧ i < (l.length : Int)) := ⟨h0, h1⟩
  simp [execOp, hF.eval hx, hF.eval hy, Instr.indexAt, asIntOf, run_underlying hu, e1, sizeOf, typeInfo, h5, h6, hz]
theorem SL.elcells (hFl : Flat T enc) {i : Int} {x : α} {ad : Addr} (hs : SL w0 F0 w ps) (hm : Sl T v l ∈ ps) (he : ElAt T.sz v i ad) (hx : idx l i = some x) : Cells w ad (enc x) := by
  obtain ⟨h0, h1, h2⟩ := idx_some hx
  obtain ⟨G, A, c, hv, hc, hi⟩ := hs.own_rd hm
  obtain ⟨ad', cs, rfl, hG, h3, h4⟩ := hi _ x h2
  obtain ⟨A', n', c', hv', rfl⟩ := he
  rw [hv] at hv'
  injection hv' with hA _ _
  injection hA with hA
  subst hA
  rw [hFl.rd.1 h4] at h3
  exact h3
theorem SL.elset (hFl : Flat T enc) {i : Int} {x0 y' : α} {ad : Addr} (hs : SL w0 F0 w (Sl T v l :: ps)) (he : ElAt T.sz v i ad) (hx0 : idx l i = some x0) :
    ∃ w', (storeCells ad (enc y')).run P w = .ok () w' ∧ SL w0 F0 w' (Sl T v (l.set i.toNat y') :: ps) := by
  obtain ⟨h0, h1, h2⟩ := idx_some hx0
  obtain ⟨F, hst, hF0, _, hcl⟩ := SL.open_ (ps := [Sl T v l]) hs
  have hrow := hFl.slOwn.1 (Star.of_one hst)
  obtain ⟨A, k, c, rfl, rfl⟩ := he
  have hk : k = l.length := by
    rcases hrow.2 with ⟨h2, _⟩ | ⟨_, _, _, _, _, _, hv, _⟩
    · cases h2
    · injection hv
  subst hk
  have hil : i.toNat < l.length := by omega
  have hfit : i.toNat * T.sz + (enc y').length ≤ l.length * T.sz := by
    rw [hFl.len, ← Nat.succ_mul]
    exact Nat.mul_le_mul_right _ hil
  obtain ⟨w', h3, h4, h5⟩ := hrow.write (P := P) (o := i.toNat * T.sz) (ys := enc y') hfit (hFl.one y')
  refine ⟨w', h3, hcl w' [Sl T _ (l.set i.toNat y')] ⟨h5, F, Star.one (p := Sl T _ (l.set i.toNat y')) (hFl.slOwn.2 ?_), fun k hk => .inl hk⟩⟩
  rw [List.length_set, hFl.set l _ y' hil]
  rw [hFl.len] at h4
  exact h4
/-- A store into an element of a row of one's own. -/
theorem st_setel (hFl : Flat T enc) {i : Int} {x0 y' : α} {ad : Addr} {t' : TypeId} (hF : Fr a n m) (hs : SL w0 F0 w (Sl T v l :: ps)) (he : ElAt T.sz v i ad) (hx0 : idx l i = some x0) (hx : ev m x = some (.pointer (some ad))) (hy : ev m y = some u)
    (hu : u.cells = ⟨enc y'⟩) (hi : (P.info? t').map (·.size) = some T.sz)
    (k : ∀ w a, Fr a n m → SL w0 F0 w (Sl T v (l.set i.toNat y') :: ps) → wpList P ops Q l' a w) : wpList P ops Q (⟨none, .store t' x y, ty, pos, aft, none⟩ :: l') a w := by
  obtain ⟨ti, hi, hsz⟩ := Option.map_eq_some_iff.1 hi
  obtain ⟨w', h1, h2⟩ := SL.elset (P := P) hFl (y' := y') hs he hx0
  refine st_opu hF (w' := w') (fun a n hF => ?_) rfl rfl fun a hF => k _ a hF h2
  simp [execOp, hF.eval hx, hF.eval hy, Instr.storeAt, Instr.sureAddr, storeVar, sizeOf, typeInfo, hi, hsz, hu, hFl.len, h1]

/-! ### Arrays in memory: rows whose value is known -/
def arB (P : Program) (t e k sz : Nat) : Bool := match P.underlying t, P.info? e with | some (.array k' e'), some i => k' == k && e' == e && i.size == sz | _, _ => false
theorem arB_spec {t e k sz : Nat} (h : arB P t e k sz = true) : P.underlying t = some (.array k e) ∧ ∃ i, P.info? e = some i ∧ i.size = sz := by
  unfold arB at h
  split at h
  · rename_i k' e' i h1 h2
    simp only [Bool.and_eq_true, beq_iff_eq] at h
    obtain ⟨⟨rfl, rfl⟩, rfl⟩ := h
    exact ⟨h1, i, h2, rfl⟩
  · cases h
abbrev arV (g k : Nat) : Value := .slice (some ⟨g, 0, none⟩) k k
theorem SL.arr_len {g k : Nat} (hs : SL w0 F0 w ps) (hm : Sl T (arV g k) l ∈ ps) : l.length = k := by
  obtain ⟨A, c, h⟩ := hs.form hm
  injection h with _ h _
  exact h.symm
theorem st_alloc_arr (hFl : Flat T enc) (k : Nat) (x0 : α) {t e : TypeId} (hF : Fr a n m) (hs : SL w0 F0 w ps) (hz : (P.info? t).bind (·.zero) = some (.agg ⟨(List.replicate k x0).flatMap enc⟩)) (hlt : Nat.blt d n = true)
    (K : ∀ g w a, Fr a n ((d, .pointer (some ⟨g, 0, none⟩)) :: m) → SL w0 F0 w (Sl T (arV g k) (List.replicate k x0) :: ps) → wpList P ops Q l' a w) : wpList P ops Q (⟨some d, .alloc t, ty, pos, aft, none⟩ :: l') a w := by
  obtain ⟨i, hi, hz⟩ := Option.bind_eq_some_iff.1 hz
  have hl := flat_len hFl (List.replicate k x0)
  rw [List.length_replicate] at hl
  refine st_op hF (v := .pointer (some ⟨w.heap.size, 0, none⟩)) (w' := w.alloc (.cells ⟨(List.replicate k x0).flatMap enc⟩ t)) (fun a n hF => ?_) rfl rfl hlt fun a hF => ?_
  · simp only [execOp, Instr.alloc, zeroValue, typeInfo]
    simp [hi, hz, newVar, newRow, newObj, Sem.run, Value.cells]
  · exact K _ _ a hF (SL.newrow (ps := []) hs hl (List.length_replicate) (fun F h => by
      obtain rfl := h
      exact hFl.els.2 ⟨rfl, rfl⟩))
theorem ex_ixarr {t e k sz g : Nat} {i : Int} {kk : IntKind} {dd : Option Tmp} {gd : Option (Nat × Bool)} {x0 : α} (hb : arB P t e k sz = true) (hz : T.sz = sz) (hs : SL w0 F0 w ps) (hm : Sl T (arV g k) l ∈ ps) (hx0 : idx l i = some x0) (hx : ev m x = some (.pointer (some ⟨g, 0, none⟩))) (hy : ev m y = some (.int kk i)) :
    EX P w m ⟨dd, .indexAddr t x y, ty, pos, aft, gd⟩ (.pointer (some ⟨g, i.toNat * sz, none⟩)) w := fun a _ hF => by
  obtain ⟨h0, h1, h2⟩ := idx_some hx0
  rw [hs.arr_len hm] at h1
  obtain ⟨hu, ti, h5, h6⟩ := arB_spec hb
  have e1 : (0 ≤ i ∧ i < (k : Int)) := ⟨h0, h1⟩
  simp [execOp, hF.eval hx, hF.eval hy, Instr.indexAt, asIntOf, run_underlying hu, e1, sizeOf, typeInfo, h5, h6, Instr.sureAddr, add_mk]
theorem elAt_arr {g k sz : Nat} {i : Int} : ElAt sz (arV g k) i ⟨g, i.toNat * sz, none⟩ := ⟨_, _, _, rfl, by rw [add_mk, Nat.zero_add]⟩
theorem SL.arr_cells (hFl : Flat T enc) (h0 : 0 < T.sz) {g k : Nat} (hs : SL w0 F0 w ps) (hm : Sl T (arV g k) l ∈ ps) : Cells w ⟨g, 0, none⟩ (l.flatMap enc) := by
  obtain ⟨G, hr⟩ := hs.own_rd hm
  obtain ⟨A, c, hv, hc⟩ := slRd.cells hFl h0 hr
  injection hv with hA _ _
  subst hA
  exact hc.some_
theorem ex_ldarr (hFl : Flat T enc) (h0 : Nat.blt 0 T.sz = true) {t g k N : Nat} {dd : Option Tmp} {gd : Option (Nat × Bool)} (hs : SL w0 F0 w ps) (hm : Sl T (arV g k) l ∈ ps) (hb : aggB P t N = true) (hN : k * T.sz = N) (hx : ev m x = some (.pointer (some ⟨g, 0, none⟩))) :
    EX P w m ⟨dd, .load t x, ty, pos, aft, gd⟩ (.agg ⟨l.flatMap enc⟩) w :=
  ex_ldagg hb hx (hs.arr_cells hFl (by simpa [Nat.blt_eq] using h0) hm) (by rw [flat_len hFl, hs.arr_len hm, hN])
theorem st_storearr (hFl : Flat T enc) {t' g k : Nat} {r : List α} (hF : Fr a n m) (hs : SL w0 F0 w (Sl T (arV g k) l :: ps)) (hx : ev m x = some (.pointer (some ⟨g, 0, none⟩))) (hy : ev m y = some (.agg ⟨r.flatMap enc⟩)) (hr : r.length = k) (hi : (P.info? t').map (·.size) = some (k * T.sz))
    (K : ∀ w a, Fr a n m → SL w0 F0 w (Sl T (arV g k) r :: ps) → wpList P ops Q l' a w) : wpList P ops Q (⟨none, .store t' x y, ty, pos, aft, none⟩ :: l') a w := by
  obtain ⟨ti, hi, hsz⟩ := Option.map_eq_some_iff.1 hi
  obtain ⟨F, hst, hF0, _, hcl⟩ := SL.open_ (ps := [Sl T (arV g k) l]) hs
  have hk := hs.arr_len (List.mem_cons_self)
  have hrow := hFl.slOwn.1 (Star.of_one hst)
  rw [hk] at hrow
  have hrl := flat_len hFl r
  rw [hr] at hrl
  obtain ⟨w', h3, h4, h5⟩ := hrow.write (P := P) (o := 0) (ys := r.flatMap enc) (by rw [hrl]; omega) (flat_one hFl r)
  refine st_opu hF (w' := w') (fun a n hF => ?_) rfl rfl fun a hF => K _ a hF (hcl w' [Sl T (arV g k) r] ⟨h5, F, Star.one (p := Sl T _ r) (hFl.slOwn.2 ?_), fun k hk => .inl hk⟩)
  · have e0 : (⟨g, 0, none⟩ : Addr).add 0 = ⟨g, 0, none⟩ := add_mk _ _ _
    rw [e0] at h3
    simp [execOp, hF.eval hx, hF.eval hy, Instr.storeAt, Instr.sureAddr, storeVar, sizeOf, typeInfo, hi, hsz, Value.cells, hrl, h3]
  · have h6 := flat_len hFl l
    rw [hk] at h6
    simp only [List.take_zero, List.nil_append, Nat.zero_add, hrl] at h4
    rw [List.drop_eq_nil_of_le (by omega), List.append_nil] at h4
    rw [hr]
    exact h4
theorem run_sliceArr {t e k sz g : Nat} {lo hi : Int} {L H : Option Value} (hb : arB P t e k sz = true) (h0 : 0 ≤ lo) (h1 : lo ≤ hi) (h2 : hi ≤ k)
    (hl : (L = none ∧ lo = 0) ∨ ∃ kk, L = some (.int kk lo)) (hh : (H = none ∧ hi = k) ∨ ∃ kk, H = some (.int kk hi)) :
    (Instr.sliceAt t (.pointer (some ⟨g, 0, none⟩)) L H none).run P w = .ok (.slice (some (if k = lo.toNat then ⟨g, 0, none⟩ else (⟨g, 0, none⟩ : Addr).add (lo.toNat * sz))) (hi.toNat - lo.toNat) (k - lo.toNat)) w := by
  obtain ⟨hu, ti, h5, h6⟩ := arB_spec hb
  have e1 : (0 ≤ hi ∧ hi ≤ (k : Int)) := by omega
  have e2 : (0 ≤ lo ∧ lo ≤ hi) := by omega
  have e3 : ((hi.toNat : Nat) : Int) = hi := by omega
  have e4 : (0 ≤ lo ∧ lo ≤ ((hi.toNat : Nat) : Int)) := by omega
  have e5 : ¬ (max hi 0 < lo) := by omega
  have e6 : lo ≤ max hi 0 := by omega
  rcases hl with ⟨rfl, rfl⟩ | ⟨kk, rfl⟩ <;> rcases hh with ⟨rfl, rfl⟩ | ⟨k', rfl⟩ <;>
    simp [Instr.sliceAt, run_underlying hu, Instr.sliceBounds, Instr.sliceBound, asIntOf, sizeOf, typeInfo, h5, h6, e1, e2, e4, e5, e6, h0, h1, h2, Instr.sureAddr]
theorem cut_rd {A : Option Addr} {nn c : Nat} {lo hi : Int} (hr : cutL l lo hi = some r) : View T (.slice A nn c) l (.slice (if c = lo.toNat then A else A.map (·.add (lo.toNat * T.sz))) (hi.toNat - lo.toNat) (c - lo.toNat)) r := by
  obtain ⟨⟨h0, h1, h2⟩, rfl⟩ := cutL_some hr
  intro w1 G1 h
  obtain ⟨A', c', hv, hc', hcell⟩ := h
  injection hv with hA hn hcc
  subst hA hcc
  refine ⟨_, _, by congr 1; simp; omega, by simp; omega, fun i x hx => ?_⟩
  rw [List.getElem?_drop, List.getElem?_take] at hx
  split at hx
  · rename_i hlt
    obtain ⟨ad, cs, rfl, hG, h3, h4⟩ := hcell _ x hx
    have hil := (List.getElem?_eq_some_iff.1 hx).1
    rw [if_neg (by omega)]
    refine ⟨_, cs, rfl, by rw [block_add]; exact hG, ?_, h4⟩
    rw [add_add', ← Nat.add_mul]
    exact h3
  · cases hx
theorem arr_cut {t e k sz g : Nat} {lo hi : Int} (hs : SL w0 F0 w ps) (hm : Sl T (arV g k) l ∈ ps) (hb : arB P t e k sz = true) (hz : T.sz = sz) (hr : cutL l lo hi = some r)
    (lo' hi' : Option Int) (hlo : lo' = some lo ∨ (lo' = none ∧ lo = 0)) (hhi : hi' = some hi ∨ (hi' = none ∧ hi = l.length)) : ∃ v', ScA P t (.pointer (some ⟨g, 0, none⟩)) lo' hi' v' ∧ View T (arV g k) l v' r := by
  subst hz
  have hlen := hs.arr_len hm
  obtain ⟨⟨h0, h1, h2⟩, _⟩ := cutL_some hr
  rw [hlen] at h2 hhi
  refine ⟨_, fun w m x l' h' kl kh dd ty pos aft g' hx hl' hh' a _ hF => ?_, cut_rd hr⟩
  have hL : (l'.map a.eval = none ∧ lo = 0) ∨ ∃ k, l'.map a.eval = some (.int k lo) := by
    rcases hlo with rfl | ⟨rfl, rfl⟩
    · cases l' with
      | none => exact hl'.elim
      | some y => exact .inr ⟨kl, by rw [Option.map_some, hF.eval hl']⟩
    · cases l' with
      | none => exact .inl ⟨rfl, rfl⟩
      | some y => exact hl'.elim
  have hH : (h'.map a.eval = none ∧ hi = k) ∨ ∃ k, h'.map a.eval = some (.int k hi) := by
    rcases hhi with rfl | ⟨rfl, rfl⟩
    · cases h' with
      | none => exact hh'.elim
      | some y => exact .inr ⟨kh, by rw [Option.map_some, hF.eval hh']⟩
    · cases h' with
      | none => exact .inl ⟨rfl, rfl⟩
      | some y => exact hh'.elim
  have hrun := run_sliceArr (P := P) (w := w) (g := g) hb h0 h1 h2 hL hH
  simp only [execOp, hF.eval hx, Option.map_none]
  rw [Sem.run_bind, hrun]
  by_cases hk : k = lo.toNat <;> simp [hk]
end

/-! ### Rows made, rows copied into -/
def mkO {α : Type} (by_ : Nat) (k : Int) (x0 : α) : Option (List α) := if 0 ≤ k ∧ by_ * k ≤ 281474976710656 ∧ k ≤ 9223372036854775807 then some (List.replicate k.toNat x0) else none
def cpL {α : Type} (l r : List α) : List α := r.take l.length ++ l.drop r.length
def cpN {α : Type} (l r : List α) : Int := (min r.length l.length : Nat)
section
variable {P : Program} {w0 w : World} {F0 F : List Nat} {ps rest : List Ck} {m : List (Nat × Value)} {n d : Nat} {ty : TypeId} {pos : String} {aft : Array Edge} {x y : Operand} {ops : Array Oper} {Q : Exit → Act → World → Prop} {a : Act} {l' : List Oper}
variable {α : Type} {T : Ty α} {enc : α → List Value} {v u : Value} {l r : List α}
theorem flat_rep (hFl : Flat T enc) (h0 : 0 < T.sz) (k : Nat) (x0 : α) : (madeCells ⟨enc x0⟩ (k * T.sz)) = ⟨(List.replicate k x0).flatMap enc⟩ := by
  have hl := flat_len hFl (List.replicate k x0)
  rw [List.length_replicate] at hl
  apply Array.ext
  · simp [size_madeCells, hl]
  · intro j h1 h2
    have h3 : j < k * T.sz := by simpa [size_madeCells] using h1
    have h4 := List.getElem?_eq_getElem (l := (List.replicate k x0).flatMap enc) (i := j) (by rw [hl]; exact h3)
    obtain ⟨x, h5, h6⟩ := flat_at hFl _ h4 h0
    rw [List.getElem?_replicate] at h5
    split at h5
    · cases h5
      have hlen := hFl.len x0
      simp only [madeCells, Array.getElem_map, Array.getElem_range]
      have h7 : (⟨enc x0⟩ : Array Value).size = T.sz := by simpa using hlen
      rw [h7]
      have h8 : j % T.sz < (enc x0).length := by rw [hlen]; exact Nat.mod_lt _ h0
      have h9 : (⟨enc x0⟩ : Array Value)[j % T.sz]! = (enc x0)[j % T.sz] := by simp [h8]
      rw [h9]
      rw [List.getElem?_eq_getElem h8] at h6
      injection h6
    · cases h5
theorem st_make (hFl : Flat T enc) (x0 : α) {s : List α} {t e sz by_ : Nat} {k : Int} {kk k2 : IntKind} {z : Value} (hF : Fr a n m) (hs : SL w0 F0 w ps) (hb : slB P t e sz by_ (szB sz) = true) (hsz : T.sz = sz) (h0 : Nat.blt 0 sz = true)
    (hz : (P.info? e).bind (·.zero) = some z) (hz' : z.cells = ⟨enc x0⟩) (hx : ev m x = some (.int kk k)) (hy : ev m y = some (.int k2 k)) (hk : mkO by_ k x0 = some s) (hlt : Nat.blt d n = true)
    (K : ∀ v w a, Fr a n ((d, v) :: m) → SL w0 F0 w (Sl T v s :: ps) → wpList P ops Q l' a w) : wpList P ops Q (⟨some d, .makeSlice t x y, ty, pos, aft, none⟩ :: l') a w := by
  subst hsz
  have h0 : 0 < T.sz := by simpa [Nat.blt_eq] using h0
  obtain ⟨ht, i, zv, hi, h2, h3, h4, _⟩ := slB_spec hb
  obtain ⟨i', hi', hz⟩ := Option.bind_eq_some_iff.1 hz
  rw [hi] at hi'
  cases hi'
  unfold mkO at hk
  split at hk
  · rename_i hh
    cases hk
    have hr := run_make (P := P) w t e i z ht hi hz kk k2 k k hh.1 (Int.le_refl _) (by rw [h3]; exact hh.2.1) hh.2.2
    rw [hz', h2, flat_rep hFl h0] at hr
    refine st_op hF (fun a n hF => ?_) rfl rfl hlt fun a hF => K _ _ a hF (SL.newrow (ps := []) (e := e) hs (cells := (List.replicate k.toNat x0).flatMap enc) ?_ (List.length_replicate) (fun F h => by
      obtain rfl := h
      exact hFl.els.2 ⟨rfl, rfl⟩))
    · simp [execOp, hF.eval hx, hF.eval hy, hr]
    · have hl := flat_len hFl (List.replicate k.toNat x0)
      rw [List.length_replicate] at hl
      exact hl
  · cases hk

theorem flat_take (hFl : Flat T enc) : ∀ (l : List α) (k : Nat), (l.take k).flatMap enc = (l.flatMap enc).take (k * T.sz)
  | [], k => by simp
  | x :: l, 0 => by simp
  | x :: l, k + 1 => by
    simp only [List.take_succ_cons, List.flatMap_cons, flat_take hFl l k]
    rw [Nat.succ_mul, ← hFl.len x, Nat.add_comm, List.take_length_add_append]
theorem flat_drop (hFl : Flat T enc) : ∀ (l : List α) (k : Nat), (l.drop k).flatMap enc = (l.flatMap enc).drop (k * T.sz)
  | [], k => by simp
  | x :: l, 0 => by simp
  | x :: l, k + 1 => by
    simp only [List.drop_succ_cons, List.flatMap_cons, flat_drop hFl l k]
    rw [Nat.succ_mul, ← hFl.len x, Nat.add_comm, List.drop_length_add_append]
theorem run_copy_own (hFl : Flat T enc) (h0 : 0 < T.sz) {t t2 e by_ : Nat} {z : Value → Bool} {ty' : TypeId} {G : List Nat} (hs : SL w0 F0 w (Sl T v l :: ps)) (hb : slB P t e T.sz by_ z = true) (hr : slRd T w G u r) :
    ∃ w', (Builtin.copy_ #[t, t2] ty' #[v, u]).run P w = .ok (.int .i64 (cpN l r)) w' ∧ SL w0 F0 w' (Sl T v (cpL l r) :: ps) := by
  obtain ⟨ht, i, zv, hi, h2, h3, h4, _⟩ := slB_spec hb
  obtain ⟨A, c, rfl, hcells⟩ := slRd.cells hFl h0 hr
  obtain ⟨F, hst, hF0, _, hcl⟩ := SL.open_ (ps := [Sl T v l]) hs
  have hrow := hFl.slOwn.1 (Star.of_one hst)
  have hform := hs.form (List.mem_cons_self)
  obtain ⟨A', c', rfl⟩ := hform
  have hsame : cpL l r = l → ∃ w', Result.ok (Value.int .i64 (cpN l r)) w = .ok (.int .i64 (cpN l r)) w' ∧ SL w0 F0 w' (Sl T (.slice A' l.length c') (cpL l r) :: ps) := fun e => ⟨w, rfl, by rw [e]; exact hs⟩
  by_cases hn : min r.length l.length = 0
  · have e0 : cpL l r = l := by
      unfold cpL
      rcases Nat.min_eq_zero_iff.1 hn with h | h
      · rw [List.eq_nil_of_length_eq_zero h]; simp
      · rw [List.eq_nil_of_length_eq_zero h]; simp
    refine ⟨w, ?_, by rw [e0]; exact hs⟩
    have hf : (Builtin.firstCells T.sz 0 (.slice A r.length c)).run P w = .ok #[] w := by
      cases A <;> simp [Builtin.firstCells, loadCells, loadCellsFrom]
    have hn' : Nat.min r.length l.length = 0 := hn
    cases A' <;> simp [Builtin.copy_, run_underlying ht, Builtin.lenOf, sizeOf, typeInfo, hi, h2, hn', hf, storeCells, cpN, hn, goInt]
  · have hrl : 0 < r.length := by omega
    have hll : 0 < l.length := by omega
    obtain ⟨ad, rfl⟩ : ∃ ad, A = some ad := by
      cases A with
      | some ad => exact ⟨ad, rfl⟩
      | none =>
        have h5 := hcells.none_
        have h6 := flat_len hFl r
        rw [h5] at h6
        have := Nat.mul_pos hrl h0
        simp at h6
        omega
    have hcells := hcells.some_
    obtain ⟨A', rfl⟩ : ∃ ad, A' = some ad := by
      cases A' with
      | some ad => exact ⟨ad, rfl⟩
      | none =>
        rcases hrow.2 with ⟨_, h5, _⟩ | ⟨_, _, _, _, _, _, hv, _⟩
        · omega
        · injection hv with hv; cases hv
    have hN : ((r.take (min r.length l.length)).flatMap enc).length = min r.length l.length * T.sz := by
      rw [flat_len hFl]; congr 1; simp
    have hld := run_loadCells_list (P := P) w ad ((r.take (min r.length l.length)).flatMap enc) (fun j u hu => by
      rw [flat_take hFl, List.getElem?_take] at hu
      split at hu
      · exact hcells j u hu
      · cases hu)
    rw [hN] at hld
    obtain ⟨w', h5, h6, h7⟩ := hrow.write (P := P) (o := 0) (ys := (r.take (min r.length l.length)).flatMap enc) (by rw [hN, Nat.zero_add]; exact Nat.mul_le_mul_right _ (Nat.min_le_right _ _)) (flat_one hFl _)
    have e0 : A'.add 0 = A' := rfl
    rw [e0] at h5
    refine ⟨w', ?_, hcl w' [Sl T _ (cpL l r)] ⟨h7, F, Star.one (p := Sl T _ (cpL l r)) (hFl.slOwn.2 ?_), fun k hk => .inl hk⟩⟩
    · have hn' : Nat.min r.length l.length = min r.length l.length := rfl
      simp [Builtin.copy_, run_underlying ht, Builtin.lenOf, sizeOf, typeInfo, hi, h2, hn', Builtin.firstCells, hld, h5, cpN, goInt]
    · have hlen : (cpL l r).length = l.length := by simp [cpL]; omega
      rw [hlen]
      simp only [List.take_zero, List.nil_append, Nat.zero_add, hN] at h6
      rw [← flat_drop hFl, ← List.flatMap_append] at h6
      have e1 : r.take (min r.length l.length) ++ l.drop (min r.length l.length) = cpL l r := by
        unfold cpL
        by_cases h : r.length ≤ l.length
        · rw [Nat.min_eq_left h, List.take_of_length_le (Nat.le_refl _), List.take_of_length_le h]
        · rw [Nat.min_eq_right (by omega), List.drop_eq_nil_of_le (Nat.le_refl _), List.drop_eq_nil_of_le (by omega)]
      rw [e1] at h6
      exact h6
theorem st_copy (hFl : Flat T enc) {t t2 e sz by_ : Nat} {z : Value → Bool} {G : List Nat} (hF : Fr a n m) (hs : SL w0 F0 w (Sl T v l :: ps)) (hb : slB P t e sz by_ z = true) (hsz : T.sz = sz) (h0 : Nat.blt 0 sz = true) (hx : ev m x = some v) (hy : ev m y = some u) (hr : slRd T w G u r) (hlt : Nat.blt d n = true)
    (K : ∀ w a, Fr a n ((d, .int .i64 (cpN l r)) :: m) → SL w0 F0 w (Sl T v (cpL l r) :: ps) → wpList P ops Q l' a w) :
    wpList P ops Q (⟨some d, .call { callee := .builtin .copy, args := #[x, y], argTypes := #[t, t2] }, ty, pos, aft, none⟩ :: l') a w := by
  subst hsz
  obtain ⟨w', h1, h2⟩ := run_copy_own (P := P) (t2 := t2) (ty' := ty) hFl (by simpa [Nat.blt_eq] using h0) hs hb hr
  refine st_op hF (fun a n hF => ?_) rfl rfl hlt fun a hF => K w' a hF h2
  simp [execOp, resolve, invoke, builtin, hF.eval hx, hF.eval hy, h1]

theorem one_nil : ∀ u ∈ ([] : List Value), u.oneCell' = true := by simp
theorem one_cons {u : Value} {l : List Value} (h : u.oneCell' = true) (hl : ∀ u ∈ l, u.oneCell' = true) : ∀ x ∈ u :: l, x.oneCell' = true := by
  intro x hx
  rcases List.mem_cons.1 hx with rfl | hx
  · exact h
  · exact hl x hx
theorem nil_conv {α : Type} {A B : Option α} {r : α} (H : A = some r) (h : A = B) : B = some r := by rw [← h]; exact H
theorem nil_of {α : Type} {T : Ty α} {w : World} {v : Value} {l : List α} {A : Option Addr} {k c : Nat} (h : ∃ G, slRd T w G v l) (hv : v = .slice A k c) (hb : A.isNone = true) : l = [] := by
  obtain ⟨G, A', c', h1, h2, h3⟩ := h
  rw [hv] at h1
  injection h1 with hA _ _
  subst hA
  cases l with
  | nil => rfl
  | cons x l =>
    obtain ⟨ad, _, h4, _⟩ := h3 0 x rfl
    subst h4
    cases hb
theorem ex_sl_eqf {dd : Option Tmp} {g : Option (Nat × Bool)} {t e u : TypeId} {v : Value} {A : Option Addr} {k c : Nat} (hx : ev m x = some v) (hv : v = .slice A k c) (hy : ev m y = some (.slice none 0 0)) (hp : P.underlying t = some (.slice e)) : EX P w m ⟨dd, .binOp .eql t x y u, ty, pos, aft, g⟩ (.bool A.isNone) w := by
  subst hv
  exact ex_sl_eq hx hy hp
theorem ex_sl_nef {dd : Option Tmp} {g : Option (Nat × Bool)} {t e u : TypeId} {v : Value} {A : Option Addr} {k c : Nat} (hx : ev m x = some v) (hv : v = .slice A k c) (hy : ev m y = some (.slice none 0 0)) (hp : P.underlying t = some (.slice e)) : EX P w m ⟨dd, .binOp .neq t x y u, ty, pos, aft, g⟩ (.bool (!A.isNone)) w := by
  subst hv
  exact ex_sl_ne hx hy hp
theorem View.refl {α : Type} {T : Ty α} {v : Value} {l : List α} : View T v l v l := fun _ _ h => h
theorem View.nil {α : Type} {T : Ty α} {v : Value} {l : List α} : View T v l (.slice none 0 0) [] := fun _ _ _ => ⟨none, 0, rfl, Nat.le_refl _, fun i x h => by simp at h⟩
theorem RV.blk1 {g t ty : Nat} {cs : List Value} {u : Value} (hs : SL w0 F0 w ps) (hm : Blk g ty cs ∈ ps) (hl : look m t = some (.pointer (some ⟨g, 0, none⟩))) (hb : nagB P ty = true) (hu : cs[0]? = some u := by rfl) : RV P w m (.cell t ty) u := by
  refine ⟨_, hl, ?_⟩
  have hc := hs.blk_cell hm (o := 0) hu
  simp [loadVar, nagB_spec hb, load, Sem.run, hc]
theorem RV.blk_arr (hFl : Flat T enc) {g k t ty N : Nat} (hs : SL w0 F0 w ps) (hm : Sl T (arV g k) l ∈ ps) (hl : look m t = some (.pointer (some ⟨g, 0, none⟩))) (hb : aggB P ty N = true) (hN : k * T.sz = N) (h0 : Nat.blt 0 T.sz = true := by rfl) : RV P w m (.cell t ty) (.agg ⟨l.flatMap enc⟩) := by
  refine ⟨_, hl, ?_⟩
  have hc := hs.arr_cells hFl (by simpa [Nat.blt_eq] using h0) hm
  have hlen := flat_len hFl l
  rw [hs.arr_len hm, hN] at hlen
  have h1 := run_loadCells_list (P := P) w _ _ hc
  rw [hlen] at h1
  simp [loadVar, aggB_spec hb, h1]
/-- A store of several cells into the block at the head. -/
theorem st_storea {g t t' o : Nat} {cs ds : List Value} (hF : Fr a n m) (hs : SL w0 F0 w (Blk g t cs :: ps)) (hx : ev m x = some (.pointer (some ⟨g, o, none⟩))) (hy : ev m y = some (.agg ⟨ds⟩))
    (hi : (P.info? t').map (·.size) = some ds.length) (h1 : ∀ u ∈ ds, u.oneCell' = true) (hfit : o + ds.length ≤ cs.length)
    (k : ∀ w a, Fr a n m → SL w0 F0 w (Blk g t (cs.take o ++ ds ++ cs.drop (o + ds.length)) :: ps) → wpList P ops Q l' a w) : wpList P ops Q (⟨none, .store t' x y, ty, pos, aft, none⟩ :: l') a w := by
  obtain ⟨ti, hi, hsz⟩ := Option.map_eq_some_iff.1 hi
  obtain ⟨F, hst, hF0, _, hcl⟩ := SL.open_ (ps := [Blk g t cs]) hs
  obtain ⟨rfl, hg⟩ := Star.of_one hst
  have hst := run_storeCells_fz (P := P) g o t (0, 0) ds 0 cs.toArray w hg (by simp) (by simpa using hfit) h1
  simp only [Nat.add_zero] at hst
  refine st_opu hF (w' := w.setRow g (cs.take o ++ ds ++ cs.drop (o + ds.length)).toArray) (fun a n hF => ?_) rfl rfl fun a hF => k _ a hF (hcl _ [Blk g t (cs.take o ++ ds ++ cs.drop (o + ds.length))] ⟨Fm.one rfl rfl rfl (by simp) (fun k hk => setRow_other w g k _ hk), [g], Star.one ⟨rfl, setRow_heap w g _ _ t _ hg⟩, fun k hk => .inl hk⟩)
  simp [execOp, hF.eval hx, hF.eval hy, Instr.storeAt, Instr.sureAddr, storeVar, sizeOf, typeInfo, hi, hsz, Value.cells, hst]
end
end Go.Pv
