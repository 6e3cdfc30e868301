/- Arrays of bytes by value: within structs, in blocks, compared. -/
import Derived.Test.YtkcehlfcfcabmaaGreatPvp
import Derived.ChangeKeysEq
set_option linter.unusedVariables false
set_option linter.unusedSimpArgs false
namespace Go.Pv
open Go Go.RowKit

/-- An array's cells. -/
def ev8 {n : Nat} (l : Vector UInt8 n) : List Value := l.toList.map fun b => .int .u8 (b.toNat : Int)
@[simp] theorem ev8_len {n : Nat} (l : Vector UInt8 n) : (ev8 l).length = n := by simp [ev8]
theorem ev8_get {n : Nat} {l : Vector UInt8 n} {i : Nat} {x : UInt8} (h : l.toList[i]? = some x) : (ev8 l)[i]? = some (.int .u8 (x.toNat : Int)) := by
  unfold ev8
  rw [List.getElem?_map, h]
  rfl
theorem ev8_one {n : Nat} (l : Vector UInt8 n) : ∀ u ∈ ev8 l, u.oneCell' = true := by
  intro u hu
  unfold ev8 at hu
  rw [List.mem_map] at hu
  obtain ⟨x, _, rfl⟩ := hu
  rfl
def Ty.vec8 (n : Nat) : Ty (Vector UInt8 n) where
  sz := n
  rd _ _ x cs := cs = ev8 x
  own _ F x cs := cs = ev8 x ∧ F = []
  rd_len h := by rw [h, ev8_len]
  rd_one h u hu := by rw [h] at hu; exact ev8_one _ u hu
  rd_loc h _ := h
  rd_mono h _ := h
  own_loc h _ := h
  own_lt h k hk := by rw [h.2] at hk; cases hk
  own_rd h := h.1
theorem Flat.vec8 (n : Nat) : Flat (Ty.vec8 n) (fun x => ev8 x) := ⟨Iff.rfl, Iff.rfl⟩
/-- Another element at a place. -/
def vset {n : Nat} (l : Vector UInt8 n) (i : Int) (y : UInt8) : Vector UInt8 n := l.setIfInBounds i.toNat y
theorem ev8_set {n : Nat} (l : Vector UInt8 n) (i : Int) (y : UInt8) : ev8 (vset l i y) = (ev8 l).set i.toNat (.int .u8 (y.toNat : Int)) := by
  unfold ev8 vset
  rw [← List.map_set]
  congr 1
  simp
theorem vec_idx {n : Nat} {l : Vector UInt8 n} {i : Int} {x : UInt8} (h : idx l.toList i = some x) : 0 ≤ i ∧ i < n ∧ l.toList[i.toNat]? = some x := by
  obtain ⟨h0, h1, h2⟩ := idx_some h
  exact ⟨h0, by simpa using h1, h2⟩
theorem cons_one {u : Value} {l : List Value} (h : u.oneCell' = true) (hl : ∀ u ∈ l, u.oneCell' = true) : ∀ x ∈ u :: l, x.oneCell' = true := one_cons h hl

section
variable {P : Program} {w0 w : World} {F0 : List Nat} {ps : List Ck} {m : List (Nat × Value)} {n d k : Nat} {ty : TypeId} {pos : String} {aft : Array Edge} {x y : Operand} {ops : Array Oper} {Q : Exit → Act → World → Prop} {a : Act} {l' : List Oper} {gd : Option (Nat × Bool)} {dd : Option Tmp} {l : Vector UInt8 k} {pre : List Value}

theorem ex_ixvec {t e g o : Nat} {i : Int} {kk : IntKind} {x0 : UInt8} (hb : arB P t e k 1 = true) (hx0 : idx l.toList i = some x0) (hx : ev m x = some (.pointer (some ⟨g, o, none⟩))) (hy : ev m y = some (.int kk i)) :
    EX P w m ⟨dd, .indexAddr t x y, ty, pos, aft, gd⟩ (.pointer (some ⟨g, o + i.toNat, none⟩)) w := fun a _ hF => by
  obtain ⟨h0, h1, _⟩ := vec_idx hx0
  obtain ⟨hu, ti, h5, h6⟩ := arB_spec hb
  have e1 : (0 ≤ i ∧ i < (k : Int)) := ⟨h0, h1⟩
  simp [execOp, hF.eval hx, hF.eval hy, Instr.indexAt, asIntOf, run_underlying hu, e1, sizeOf, typeInfo, h5, h6, add_mk, Instr.sureAddr]
theorem SL.vec_cell {g t o : Nat} {i : Int} {x0 : UInt8} (hs : SL w0 F0 w ps) (hm : Blk g t (pre ++ ev8 l) ∈ ps) (hp : pre.length = o) (hx0 : idx l.toList i = some x0) : w.cell? ⟨g, o + i.toNat, none⟩ = some (.int .u8 (x0.toNat : Int)) := by
  obtain ⟨h0, h1, h2⟩ := vec_idx hx0
  subst hp
  refine hs.blk_cell hm ?_
  rw [List.getElem?_append_right (by omega), Nat.add_sub_cancel_left]
  exact ev8_get h2
theorem st_setvec {g t t' o : Nat} {i : Int} {x0 y' : UInt8} (hF : Fr a n m) (hs : SL w0 F0 w (Blk g t (pre ++ ev8 l) :: ps)) (hp : pre.length = o) (hx0 : idx l.toList i = some x0) (hx : ev m x = some (.pointer (some ⟨g, o + i.toNat, none⟩))) (hy : ev m y = some (.int .u8 (y'.toNat : Int)))
    (hi : (P.info? t').map (·.size) = some 1) (kk : ∀ w a, Fr a n m → SL w0 F0 w (Blk g t (pre ++ ev8 (vset l i y')) :: ps) → wpList P ops Q l' a w) : wpList P ops Q (⟨none, .store t' x y, ty, pos, aft, none⟩ :: l') a w := by
  obtain ⟨h0, h1, h2⟩ := vec_idx hx0
  subst hp
  refine st_store hF hs hx hy hi rfl rfl (u := .int .u8 (x0.toNat : Int)) (by rw [List.getElem?_append_right (by omega), Nat.add_sub_cancel_left]; exact ev8_get h2) fun w a hF hs => kk w a hF ?_
  rw [List.set_append_right _ _ (by omega), Nat.add_sub_cancel_left] at hs
  rw [ev8_set]
  exact hs
theorem SL.vec_cells {g t o : Nat} (hs : SL w0 F0 w ps) (hm : Blk g t (pre ++ ev8 l) ∈ ps) (hp : pre.length = o) : Cells w ⟨g, o, none⟩ (ev8 l) := by
  subst hp
  exact hs.blk_cells hm fun j u hu => by rw [List.getElem?_append_right (by omega), Nat.add_sub_cancel_left]; exact hu
theorem ex_ldvec {t g o tt : Nat} (hs : SL w0 F0 w ps) (hm : Blk g tt (pre ++ ev8 l) ∈ ps) (hp : pre.length = o) (hb : aggB P t k = true) (hx : ev m x = some (.pointer (some ⟨g, o, none⟩))) : EX P w m ⟨dd, .load t x, ty, pos, aft, gd⟩ (.agg ⟨ev8 l⟩) w :=
  ex_ldagg hb hx (hs.vec_cells hm hp) (ev8_len l)
theorem ex_index8 {t e : Nat} {i : Int} {kk : IntKind} {x0 : UInt8} (hb : arB P t e k 1 = true) (hn : nagB P e = true) (hx : ev m x = some (.agg ⟨ev8 l⟩)) (hy : ev m y = some (.int kk i)) (hx0 : idx l.toList i = some x0) :
    EX P w m ⟨dd, .index t x y, ty, pos, aft, gd⟩ (.int .u8 (x0.toNat : Int)) w := fun a _ hF => by
  obtain ⟨h0, h1, h2⟩ := vec_idx hx0
  obtain ⟨hu, ti, h5, h6⟩ := arB_spec hb
  have e1 : (0 ≤ i ∧ i < (k : Int)) := ⟨h0, h1⟩
  have h3 := ev8_get h2
  have h4 : (part e ⟨ev8 l⟩ (i.toNat * 1)).run P w = .ok (.int .u8 (x0.toNat : Int)) w := part_s hn (by rw [Nat.mul_one]; exact h3) w
  simp only [execOp, hF.eval hx, hF.eval hy]
  rw [Nat.mul_one] at h4
  simp [Instr.index, asIntOf, run_underlying hu, e1, sizeOf, typeInfo, h5, h6, h4]
theorem vec_sub {cs : List Value} {o : Nat} (hp : pre.length = o) (he : cs = pre ++ ev8 l) : (cs.drop o).take k = ev8 l := by
  subst hp he
  rw [List.drop_append_of_le_length (Nat.le_refl _), List.drop_length, List.nil_append]
  exact List.take_of_length_le (by simp)
/-- A block stored whole. -/
theorem st_storew {g t t' : Nat} {cs ds : List Value} (hF : Fr a n m) (hs : SL w0 F0 w (Blk g t cs :: ps)) (hx : ev m x = some (.pointer (some ⟨g, 0, none⟩))) (hy : ev m y = some (.agg ⟨ds⟩)) (hi : (P.info? t').map (·.size) = some ds.length)
    (h1 : ∀ u ∈ ds, u.oneCell' = true) (hl : ds.length = cs.length) (kk : ∀ w a, Fr a n m → SL w0 F0 w (Blk g t ds :: ps) → wpList P ops Q l' a w) : wpList P ops Q (⟨none, .store t' x y, ty, pos, aft, none⟩ :: l') a w :=
  st_storea hF hs hx hy hi h1 (by omega) fun w a hF hs => kk w a hF (by
    rw [Nat.zero_add, hl, List.drop_length, List.take_zero, List.nil_append, List.append_nil] at hs
    exact hs)
theorem eqItems8 {e : Nat} (hu : P.underlying e = some (.int .u8)) (xs ys : List Value) (w : World) (d : Nat) : ∀ (is : List Nat) (f g : Nat → UInt8), (∀ i ∈ is, xs[i]? = some (.int .u8 ((f i).toNat : Int)) ∧ ys[i]? = some (.int .u8 ((g i).toNat : Int))) →
    (Op.eqItems (d + 1) e 1 ⟨xs⟩ ⟨ys⟩ is).run P w = .ok (is.all fun i => f i == g i) w
  | [], _, _, _ => by simp [Op.eqItems]
  | i :: is, f, g, h => by
    obtain ⟨h1, h2⟩ := h i (by simp)
    have hn : nagB P e = true := by unfold nagB; rw [hu]
    have p1 : (part e ⟨xs⟩ (i * 1)).run P w = .ok (.int .u8 ((f i).toNat : Int)) w := part_s hn (by rw [Nat.mul_one]; exact h1) w
    have p2 : (part e ⟨ys⟩ (i * 1)).run P w = .ok (.int .u8 ((g i).toNat : Int)) w := part_s hn (by rw [Nat.mul_one]; exact h2) w
    have p3 := eqat_u8 (P := P) (p := f i) (q := g i) hu d w
    have ih := eqItems8 hu xs ys w d is f g fun j hj => h j (by simp [hj])
    simp only [Op.eqItems, Sem.run_bind, p1, p2, p3, Result.andThen_ok]
    rcases hb : (f i == g i) with _ | _
    · simp [hb]
    · simp [hb, ih]
theorem eqat_vec {t e : Nat} {l r : Vector UInt8 k} (hb : arB P t e k 1 = true) (hu : P.underlying e = some (.int .u8)) (hc : P.cellsOf e = 1) : EqAt P 2 t (.agg ⟨ev8 l⟩) (.agg ⟨ev8 r⟩) (l == r) := fun d w => by
  obtain ⟨ht, ti, h5, h6⟩ := arB_spec hb
  rw [show d + 2 = (d + 1) + 1 from rfl, run_equalIn_array w (d + 1) _ _ ht h5, hc]
  have h := eqItems8 hu (ev8 l) (ev8 r) w d (List.range k) (fun i => l.toList[i]?.getD 0) (fun i => r.toList[i]?.getD 0) (fun i hi => by
    have hi := List.mem_range.1 hi
    have h1 : l.toList[i]? = some (l.toList[i]'(by simpa using hi)) := List.getElem?_eq_getElem _
    have h2 : r.toList[i]? = some (r.toList[i]'(by simpa using hi)) := List.getElem?_eq_getElem _
    exact ⟨by rw [ev8_get h1, h1]; rfl, by rw [ev8_get h2, h2]; rfl⟩)
  rw [h]
  congr 1
  rw [Bool.eq_iff_iff, List.all_eq_true, beq_iff_eq]
  constructor
  · intro h
    apply Vector.ext
    intro i hi
    have h0 := h i (List.mem_range.2 hi)
    have h1 : l.toList[i]? = some (l.toList[i]'(by simpa using hi)) := List.getElem?_eq_getElem _
    have h2 : r.toList[i]? = some (r.toList[i]'(by simpa using hi)) := List.getElem?_eq_getElem _
    rw [h1, h2] at h0
    simpa using h0
  · rintro rfl i _
    simp
end
/-! ### Structs built -/
section
variable {pl : Nat → Option (Nat × Nat)} {cs : List Value} {i off : Nat} {v : Value} {rest : List (Nat × Value)} {r : Array Value}
theorem fill_nil : Instr.fill pl ⟨cs⟩ [] = some ⟨cs⟩ := rfl
theorem fill_s (hp : pl i = some (off, 1)) (hv : v.cells = #[v]) (hlt : off < cs.length) (h : Instr.fill pl ⟨cs.set off v⟩ rest = some r) : Instr.fill pl ⟨cs⟩ ((i, v) :: rest) = some r := by
  simp only [Instr.fill, hp, hv]
  rw [if_neg (by simp; omega)]
  simpa [List.zipIdx] using h
theorem foldl_cong {α β : Type} {f g : β → α → β} : ∀ (l : List α) (a : β), (∀ x ∈ l, ∀ b, f b x = g b x) → l.foldl f a = l.foldl g a
  | [], _, _ => rfl
  | x :: l, a, h => by
    rw [List.foldl_cons, List.foldl_cons, h x (by simp), foldl_cong l _ fun y hy => h y (by simp [hy])]
theorem fold_set : ∀ (ds : List Value) (k : Nat) (pre zs post : List Value), zs.length = ds.length → ((ds.zipIdx k).foldl (fun (cs : Array Value) (p : Value × Nat) => cs.setIfInBounds (pre.length + (p.2 - k)) p.1) ⟨pre ++ zs ++ post⟩) = (⟨pre ++ ds ++ post⟩ : Array Value)
  | [], k, pre, zs, post, h => by
    obtain rfl := List.eq_nil_of_length_eq_zero h
    simp
  | d :: ds, k, pre, [], post, h => by simp at h
  | d :: ds, k, pre, z :: zs, post, h => by
    have ih := fold_set ds (k + 1) (pre ++ [d]) zs post (by simpa using h)
    rw [List.zipIdx_cons, List.foldl_cons]
    have e1 : (⟨pre ++ (z :: zs) ++ post⟩ : Array Value).setIfInBounds (pre.length + (k - k)) d = ⟨(pre ++ [d]) ++ zs ++ post⟩ := by
      rw [Nat.sub_self, Nat.add_zero]
      apply Array.toList_inj.1
      rw [Array.toList_setIfInBounds]
      simp [List.set_append_right]
    dsimp only
    rw [e1]
    have e2 : (pre ++ [d]) ++ ds ++ post = pre ++ (d :: ds) ++ post := by simp
    rw [← e2, ← ih]
    apply foldl_cong
    intro p hp acc
    have hk2 : k + 1 ≤ p.2 := List.le_snd_of_mem_zipIdx hp
    congr 1
    simp
    omega
theorem fill_a {pre zs post ds : List Value} (hp : pl i = some (pre.length, ds.length)) (hl : zs.length = ds.length) (h : Instr.fill pl ⟨pre ++ ds ++ post⟩ rest = some r) : Instr.fill pl ⟨pre ++ zs ++ post⟩ ((i, .agg ⟨ds⟩) :: rest) = some r := by
  unfold Instr.fill
  simp only [hp]
  have hc : (Value.agg ⟨ds⟩).cells = ⟨ds⟩ := rfl
  rw [if_neg (by rw [hc]; simp; omega), hc]
  have := fold_set ds 0 pre zs post hl
  simp only [Nat.sub_zero] at this
  rw [← Array.foldl_toList, Array.toList_zipIdx]
  rw [this]
  exact h
end
theorem subtail {pre cs ds : List Value} {o : Nat} (hp : pre.length = o) (he : cs = pre ++ ds) : ∀ (j : Nat) (u : Value), ds[j]? = some u → cs[o + j]? = some u := by
  subst hp he
  intro j u hu
  rw [List.getElem?_append_right (by omega), Nat.add_sub_cancel_left]
  exact hu
/-! ### Guards in regions that draw and turn the world -/
section
variable {P : Program} {ops : Array Oper} {S : World → Prop} {Q : Exit → Act → World → Prop} {n d : Nat} {m : List (Nat × Value)} {a : Act} {w : World}
theorem hd_gtake {i j dj : Nat} {oi : Oper} {v : Value} {b : Bool} {fuel : Nat} {listed : Array Bool} (hi : ops[i]? = some oi) (hs : Region.noSelect ops = true) (hf : Region.free .any ops listed i = true) (hr : (Region.ready .any ops listed).contains i = true)
    (he : ∀ w, S w → EX P w m oi v w) (hg : oi.guard = some (j, b)) (hj : (ops[j]?).bind (·.dst) = some dj) (hb : look m dj = some (.bool b)) (hd : oi.dst = some d) (hlt : Nat.blt d n = true) (hF : Fr a n m) (hS : S w)
    (k : ∀ a, Fr a n ((d, v) :: m) → wpAnyH P .any ops (NoPanic Q) S fuel (listed.setIfInBounds i true) a w) : wpAnyH P .any ops (NoPanic Q) S (fuel + 1) listed a w :=
  wpAnyH_take hi hs hf hr (fun _ _ _ h => (h : False).elim) (.inl ⟨by simp [Region.wanted, hg, yielded_of hF hj hb], fun w hw => he w hw a n hF⟩) hS (by rw [hd]; exact k _ (hF.put d v hlt))
theorem hd_gskip {i j dj : Nat} {oi : Oper} {b c : Bool} {fuel : Nat} {listed : Array Bool} (hi : ops[i]? = some oi) (hs : Region.noSelect ops = true) (hf : Region.free .any ops listed i = true) (hr : (Region.ready .any ops listed).contains i = true)
    (hg : oi.guard = some (j, c)) (hj : (ops[j]?).bind (·.dst) = some dj) (hb : look m dj = some (.bool b)) (hne : b ≠ c) (hd : oi.dst = some d) (hlt : Nat.blt d n = true) (hF : Fr a n m) (hS : S w)
    (k : ∀ a, Fr a n ((d, undef) :: m) → wpAnyH P .any ops (NoPanic Q) S fuel (listed.setIfInBounds i true) a w) : wpAnyH P .any ops (NoPanic Q) S (fuel + 1) listed a w :=
  wpAnyH_take (v := undef) hi hs hf hr (fun _ _ _ h => (h : False).elim) (.inr ⟨by simp [Region.wanted, hg, yielded_of hF hj hb]; exact hne, rfl⟩) hS (by rw [hd]; exact k _ (hF.put d undef hlt))
theorem hd_gskip' {i j dj : Nat} {oi : Oper} {c : Bool} {fuel : Nat} {listed : Array Bool} (hi : ops[i]? = some oi) (hs : Region.noSelect ops = true) (hf : Region.free .any ops listed i = true) (hr : (Region.ready .any ops listed).contains i = true)
    (hg : oi.guard = some (j, c)) (hj : (ops[j]?).bind (·.dst) = some dj) (hb : look m dj = some undef) (hd : oi.dst = some d) (hlt : Nat.blt d n = true) (hF : Fr a n m) (hS : S w)
    (k : ∀ a, Fr a n ((d, undef) :: m) → wpAnyH P .any ops (NoPanic Q) S fuel (listed.setIfInBounds i true) a w) : wpAnyH P .any ops (NoPanic Q) S (fuel + 1) listed a w :=
  wpAnyH_take (v := undef) hi hs hf hr (fun _ _ _ h => (h : False).elim) (.inr ⟨by
    have : yielded ops a.tmps j = none := by
      unfold yielded
      rw [hj]
      simp only [Option.bind_some]
      rw [hF.at_ _ _ hb]
      rfl
    simp [Region.wanted, hg, this], rfl⟩) hS (by rw [hd]; exact k _ (hF.put d undef hlt))
end
/-! ### Many orders: what has been done tells, not in which order -/
section
variable {P : Program} {ops : Array Oper} {S : World → Prop} {Q : Exit → Act → World → Prop} {a : Act} {w : World}
theorem hd_state {fuel fuel0 : Nat} {listed0 : Array Bool} (listed : Array Bool) (I : Act → World → Prop) (h : ∀ a w, I a w → wpAnyH P .any ops (NoPanic Q) S fuel listed a w)
    (k : (∀ a w, I a w → wpAnyH P .any ops (NoPanic Q) S fuel listed a w) → wpAnyH P .any ops (NoPanic Q) S fuel0 listed0 a w) : wpAnyH P .any ops (NoPanic Q) S fuel0 listed0 a w := k h
theorem hd_to {fuel : Nat} {listed listed' : Array Bool} (e : listed = listed') (h : wpAnyH P .any ops (NoPanic Q) S fuel listed a w) : wpAnyH P .any ops (NoPanic Q) S fuel listed' a w := e ▸ h
end
end Go.Pv
