/- Regions that draw their order and turn the world: what only reads comes up first; the rest one by one. Bytes to texts. -/
import Derived.Test.YtkcehlfcfcabmaaGreatPvi
import Derived.OrdersHeld
import Derived.LoopN
import Derived.Deep.RegionHeld3
set_option linter.unusedVariables false
set_option linter.unusedSimpArgs false
namespace Go.Pv
open Go Go.RowKit

section
variable {P : Program} {ops : Array Oper} {S : World → Prop} {Q : Exit → Act → World → Prop} {n d : Nat} {m : List (Nat × Value)} {a : Act} {w : World}
def KQ (K : Act → World → Prop) : Exit → Act → World → Prop
  | .normal, a, w => K a w
  | _, _, _ => False
theorem upon_q {o : Oper} {K next : Act → World → Prop} {r : Result Next} (h : o.upon P a next (KQ K) r) : o.upon P a next Q r := by
  cases r with
  | ok x w' =>
    cases x <;> simp only [Oper.upon] at h ⊢ <;>
      first
        | exact h
        | exact Calls.mono h (fun e w'' he => by
            cases e with
            | returned v => exact he
            | panicked c => exact (he : False).elim
            | outgrown => obtain ⟨_, _, he⟩ := he; exact (he : False).elim)
  | halt x w' => cases x <;> simp only [Oper.upon] at h ⊢ <;> first | exact h | exact (h : False).elim
theorem wpOp_of {i : Nat} {o : Oper} {K : Act → World → Prop} (hi : ops[i]? = some o) (h : wpList P ops (KQ K) [o] a w) : wpOp P ops Q i K a w := by
  unfold wpList at h
  unfold wpOp
  simp only [hi]
  split
  · rename_i hw
    rw [if_pos hw] at h
    rcases h with h | ⟨_, _, _, h⟩
    · exact .inl (upon_q h)
    · exact (h : False).elim
  · rename_i hw
    rw [if_neg hw] at h
    exact h
theorem hd_take {i : Nat} {oi : Oper} {v : Value} {fuel : Nat} {listed : Array Bool} (hi : ops[i]? = some oi) (hs : Region.noSelect ops = true) (hf : Region.free .any ops listed i = true) (hr : (Region.ready .any ops listed).contains i = true)
    (he : ∀ w, S w → EX P w m oi v w) (hg : oi.guard = none) (hd : oi.dst = some d) (hlt : Nat.blt d n = true) (hF : Fr a n m) (hS : S w)
    (k : ∀ a, Fr a n ((d, v) :: m) → wpAnyH P .any ops (NoPanic Q) S fuel (listed.setIfInBounds i true) a w) : wpAnyH P .any ops (NoPanic Q) S (fuel + 1) listed a w :=
  wpAnyH_take hi hs hf hr (fun _ _ _ h => (h : False).elim) (.inl ⟨by simp [Region.wanted, hg], fun w hw => he w hw a n hF⟩) hS (by rw [hd]; exact k _ (hF.put d v hlt))
theorem hd_one {i : Nat} {oi : Oper} {fuel : Nat} {listed : Array Bool} (hi : ops[i]? = some oi) (hr : Region.ready .any ops listed = [i])
    (h : wpList P ops (KQ fun a' w' => S w' ∧ wpAnyH P .any ops (NoPanic Q) S fuel (listed.setIfInBounds i true) a' w') [oi] a w) : wpAnyH P .any ops (NoPanic Q) S (fuel + 1) listed a w :=
  wpAnyH_all hr (by simp) (fun j hj => by
    rw [List.mem_singleton] at hj
    subst hj
    exact wpOp_of hi h)
theorem hd_many {rs : List Nat} {fuel : Nat} {listed : Array Bool} (hr : Region.ready .any ops listed = rs) (hne : rs ≠ [])
    (h : ∀ i ∈ rs, wpOp P ops (NoPanic Q) i (fun a' w' => S w' ∧ wpAnyH P .any ops (NoPanic Q) S fuel (listed.setIfInBounds i true) a' w') a w) : wpAnyH P .any ops (NoPanic Q) S (fuel + 1) listed a w := wpAnyH_all hr hne h
theorem hd_nil {C : Nat → Prop} : ∀ i ∈ ([] : List Nat), C i := by simp
theorem hd_cons {C : Nat → Prop} {i : Nat} {l : List Nat} (h : C i) (t : ∀ j ∈ l, C j) : ∀ j ∈ i :: l, C j := by
  intro j hj
  rcases List.mem_cons.1 hj with rfl | hj
  · exact h
  · exact t j hj
theorem hd_done {fuel : Nat} {listed : Array Bool} (hr : Region.ready .any ops listed = []) (h : Q .normal a w) : wpAnyH P .any ops (NoPanic Q) S fuel listed a w := wpAnyH_done hr (NoPanic.normal h) fuel
theorem wp_regh {id : Nat} {l : List Oper} (hm : P.follows .mixedOrders = true) (S : World → Prop) (h : wpAnyH P .any l.toArray (NoPanic Q) S l.length (Array.replicate l.length false) a w.drew) : (Code.region id l.toArray true).wp P Q a w :=
  wp_region_noPanic (wp_region_held (S := S) hm (by simpa using h))
theorem kq_end {K : Act → World → Prop} (h : K a w) : wpList P ops (KQ K) [] a w := h
end

section
variable {P : Program} {w : World} {m : List (Nat × Value)} {dd : Option Tmp} {ty : TypeId} {pos : String} {aft : Array Edge} {g : Option (Nat × Bool)} {x y : Operand}
theorem ex_b2s {s e t : TypeId} {v : Value} {l : List UInt8} (hx : ev m x = some v) (hL : ∃ G, slRd Ty.u8 w G v l) (hs : P.underlying s = some (.slice e)) (he : P.underlying e = some (.int .u8)) (ht : P.underlying t = some .string) :
    EX P w m ⟨dd, .convert s t x, ty, pos, aft, g⟩ (.string ⟨⟨l⟩⟩) w := fun a n hF => by
  obtain ⟨G, A, c, rfl, hc, hi⟩ := hL
  have hrun : (convert s t (.slice A l.length c)).run P w = .ok (.string ⟨⟨l⟩⟩) w := by
    cases A with
    | none =>
      have : l = [] := by
        cases l with
        | nil => rfl
        | cons b l => obtain ⟨ad, _, h, _⟩ := hi 0 b rfl; cases h
      subst this
      rw [run_convert_bytes_string w s t e none _ _ hs he ht]
      rfl
    | some ad =>
      exact run_convert_bytes_back (P := P) w s t e ad c l hs he ht (fun j hj => by
        obtain ⟨ad', cs, h1, _, h2, h3⟩ := hi j _ (List.getElem?_eq_getElem hj)
        cases h1
        have h3 : cs = [.int .u8 (l[j].toNat : Int)] := h3
        subst h3
        have := h2 0 _ rfl
        rw [add_add', show j * Ty.u8.sz + 0 = j by show j * 1 + 0 = j; omega] at this
        exact this)
  simp [execOp, hF.eval hx, hrun]
theorem run_ptr_nn {t e : TypeId} (hp : P.underlying t = some (.pointer e)) : (Op.equal t (.pointer none) (.pointer none)).run P w = .ok true w :=
  run_equal fun d => by simp [Op.equalIn, run_underlying hp]
theorem ex_ptr_nne {t e u : TypeId} (hx : ev m x = some (.pointer none)) (hy : ev m y = some (.pointer none)) (hp : P.underlying t = some (.pointer e)) : EX P w m ⟨dd, .binOp .eql t x y u, ty, pos, aft, g⟩ (.bool true) w :=
  ex_bin hx hy (fun _ => Value.noConfusion) Value.noConfusion (by simp [binOp, run_ptr_nn hp])
theorem ex_ptr_nnn {t e u : TypeId} (hx : ev m x = some (.pointer none)) (hy : ev m y = some (.pointer none)) (hp : P.underlying t = some (.pointer e)) : EX P w m ⟨dd, .binOp .neq t x y u, ty, pos, aft, g⟩ (.bool false) w :=
  ex_bin hx hy (fun _ => Value.noConfusion) Value.noConfusion (by simp [binOp, run_ptr_nn hp])
theorem run_map_nn {t k e : TypeId} (hp : P.underlying t = some (.map k e)) : (Op.equal t (.map none) (.map none)).run P w = .ok true w :=
  run_equal fun d => by simp [Op.equalIn, run_underlying hp]
theorem ex_map_nne {t k e u : TypeId} (hx : ev m x = some (.map none)) (hy : ev m y = some (.map none)) (hp : P.underlying t = some (.map k e)) : EX P w m ⟨dd, .binOp .eql t x y u, ty, pos, aft, g⟩ (.bool true) w :=
  ex_bin hx hy (fun _ => Value.noConfusion) Value.noConfusion (by simp [binOp, run_map_nn hp])
theorem ex_map_nnn {t k e u : TypeId} (hx : ev m x = some (.map none)) (hy : ev m y = some (.map none)) (hp : P.underlying t = some (.map k e)) : EX P w m ⟨dd, .binOp .neq t x y u, ty, pos, aft, g⟩ (.bool false) w :=
  ex_bin hx hy (fun _ => Value.noConfusion) Value.noConfusion (by simp [binOp, run_map_nn hp])
end

/-! ### Literals of pointers; loops round by round -/
section
variable {P : Program} {w0 w : World} {F0 : List Nat} {ps : List Ck} {m : List (Nat × Value)} {n d : Nat} {ty : TypeId} {pos : String} {aft : Array Edge} {x y : Operand} {ops : Array Oper} {Q : Exit → Act → World → Prop} {a : Act} {l' : List Oper}
theorem rounds_step {c : Code} {k : Nat} (h : c.wp P (Exit.then (Code.rounds P c Q k) Q) a w) : Code.rounds P c Q (k + 1) a w := h
theorem cells1_nil : ∀ v ∈ ([] : List Value), v.cells = #[v] := by simp
theorem cells1_cons {u : Value} {l : List Value} (h : u.cells = #[u]) (hl : ∀ v ∈ l, v.cells = #[v]) : ∀ v ∈ u :: l, v.cells = #[v] := by
  intro v hv
  rcases List.mem_cons.1 hv with rfl | hv
  · exact h
  · exact hl v hv
theorem one_cells_all {l : List Value} (h : ∀ v ∈ l, v.cells = #[v]) : ∀ v ∈ l, v.cells = #[v] := h
theorem flat_cells1 : ∀ {l : List Value}, (∀ v ∈ l, v.cells = #[v]) → (l.flatMap fun v => v.cells.toList) = l
  | [], _ => rfl
  | v :: l, h => by rw [List.flatMap_cons, h v (by simp), flat_cells1 (fun u hu => h u (by simp [hu]))]; rfl
theorem st_bsliceb {t e sz bytes len : Nat} {parts : List (Nat × Operand)} {vs : List Value} (hF : Fr a n m) (hs : SL w0 F0 w ps) (hb : slB P t e sz bytes (szB sz) = true) (hsz : sz = 1) (hle : len ≤ 16777216)
    (hp : parts.map Prod.fst = List.range' 0 parts.length) (hlen : parts.length = len) (hev : evs m (parts.map Prod.snd) = some vs) (hc : ∀ v ∈ vs, v.cells = #[v]) (hlt : Nat.blt d n = true)
    (k : ∀ g w a, Fr a n ((d, .slice (some ⟨g, 0, none⟩) len len) :: m) → SL w0 F0 w (Blk g e vs :: ps) → wpList P ops Q l' a w) : wpList P ops Q (⟨some d, .buildSlice t len parts.toArray, ty, pos, aft, none⟩ :: l') a w := by
  subst hsz
  have hvl := evs_len hev
  rw [List.length_map] at hvl
  have hrun := run_buildSlice (P := P) (w := w) (len := len) hb (by omega) (vs := vs) (by omega) (fun v hv => by rw [hc v hv]; rfl)
  rw [flat_cells1 hc] at hrun
  refine st_op hF (v := .slice (some ⟨w.heap.size, 0, none⟩) len len) (w' := w.alloc (.cells ⟨vs⟩ e)) (fun a n hF => ?_) rfl rfl hlt fun a hF => k _ _ a hF (hs.newblk vs e)
  have h2 := zip_parts a.eval parts 0 (by simpa using hp)
  have h3 := hF.evals hev
  rw [h3] at h2
  simp only [execOp, List.map_toArray]
  rw [h2]
  simp [hrun]
theorem ex_ixlit {dd : Option Tmp} {gd : Option (Nat × Bool)} {t e sz bytes g k c : Nat} {z : Value → Bool} {i : Nat} {kk : IntKind} (hb : slB P t e sz bytes z = true) (hx : ev m x = some (.slice (some ⟨g, 0, none⟩) k c)) (hy : ev m y = some (.int kk (i : Int))) (hi : i < k) :
    EX P w m ⟨dd, .indexAddr t x y, ty, pos, aft, gd⟩ (.pointer (some ⟨g, i * sz, none⟩)) w := fun a _ hF => by
  obtain ⟨hu, ti, zv, h5, h6, _⟩ := slB_spec hb
  have e1 : (0 ≤ (i : Int) ∧ (i : Int) < (k : Int)) := by omega
  simp [execOp, hF.eval hx, hF.eval hy, Instr.indexAt, asIntOf, run_underlying hu, hi, sizeOf, typeInfo, h5, h6, add_mk]
end
end Go.Pv
