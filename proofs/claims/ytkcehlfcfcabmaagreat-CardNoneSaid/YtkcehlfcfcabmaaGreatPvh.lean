/- Ways through code; results; views; stores of structs; rows made and copied into. -/
import Derived.Test.YtkcehlfcfcabmaaGreatPvg
set_option linter.unusedVariables false
set_option linter.unusedSimpArgs false
namespace Go.Pv
open Go Go.RowKit

/-! ### Ways -/
section
variable {P : Program} {Q : Exit → Act → World → Prop} {J : Act → World → Prop} {a : Act} {w : World} {c : Code}
theorem wp_cutn (J : Act → World → Prop) (h1 : c.wp P (Exit.then J Q) a w) (h2 : ∀ a w, J a w → Q .normal a w) : c.wp P Q a w :=
  wp_mono h1 fun e a w h => by cases e <;> first | exact h2 _ _ h | exact h
theorem then_n (h : J a w) : Exit.then J Q .normal a w := h
theorem then_x {i : Nat} (h : Q (.exit i) a w) : Exit.then J Q (.exit i) a w := h
theorem then_g {i : Nat} (h : Q (.goto i) a w) : Exit.then J Q (.goto i) a w := h
theorem then_r (h : Q .ret a w) : Exit.then J Q .ret a w := h
theorem blk_n {id : Nat} (h : Q .normal a w) : Exit.inBlock id Q .normal a w := h
theorem blk_g {id l : Nat} (h : Q (.goto l) a w) : Exit.inBlock id Q (.goto l) a w := h
theorem blk_r {id : Nat} (h : Q .ret a w) : Exit.inBlock id Q .ret a w := h
theorem blk_hit {id : Nat} (h : Q .normal a w) : Exit.inBlock id Q (.exit id) a w := by simpa [Exit.inBlock] using h
theorem blk_miss {id id' : Nat} (hne : Nat.beq id' id = false) (h : Q (.exit id') a w) : Exit.inBlock id Q (.exit id') a w := by
  have : id' ≠ id := fun e => by subst e; simp at hne
  simpa [Exit.inBlock, this] using h
theorem wp_if_t {n t : Nat} {m : List (Nat × Value)} {x y : Code} (hF : Fr a n m) (hc : look m t = some (.bool true)) (h : x.wp P Q a w) : (Code.cond (.tmp t) x y).wp P Q a w := wp_cond_true (hF.eval (x := .tmp t) hc) h
theorem wp_if_f {n t : Nat} {m : List (Nat × Value)} {x y : Code} (hF : Fr a n m) (hc : look m t = some (.bool false)) (h : y.wp P Q a w) : (Code.cond (.tmp t) x y).wp P Q a w := wp_cond_false (hF.eval (x := .tmp t) hc) h
end

/-! ### Results -/
def RV (P : Program) (w : World) (m : List (Nat × Value)) : ResultVar → Value → Prop
  | .tmp t, v => look m t = some v
  | .cell t ty, v => ∃ ad, look m t = some (.pointer (some ad)) ∧ (loadVar ty ad).run P w = .ok v w
theorem RV.tmp {P : Program} {w : World} {m : List (Nat × Value)} {t : Nat} {v : Value} (h : look m t = some v) : RV P w m (.tmp t) v := h
def RVs (P : Program) (w : World) (m : List (Nat × Value)) : List ResultVar → List Value → Prop
  | [], vs => vs = []
  | r :: rs, vs => ∃ v vs', vs = v :: vs' ∧ RV P w m r v ∧ RVs P w m rs vs'
def retv : List Value → Value
  | [v] => v
  | vs => .tuple ⟨vs⟩
section
variable {P : Program} {w : World} {m : List (Nat × Value)} {n : Nat} {a : Act}
def rvs (tmps : Array Value) (r : ResultVar) : Sem Value := match r with
  | .tmp t => pure (tmps.getD t undef)
  | .cell c t => do loadVar t (← asAddr (tmps.getD c undef))
theorem run_results : ∀ {rs : List ResultVar} {vs : List Value}, Fr a n m → RVs P w m rs vs → (rs.mapM (rvs a.tmps)).run P w = .ok vs w
  | [], vs, hF, h => by rw [show vs = [] from h]; rfl
  | r :: rs, vs, hF, ⟨v, vs', e, h1, h2⟩ => by
    subst e
    have ih := run_results hF h2
    rw [List.mapM_cons]
    have hv : (rvs a.tmps r).run P w = .ok v w := by
      cases r with
      | tmp t =>
        have h3 := hF.eval (x := .tmp t) h1
        simp only [Act.eval] at h3
        simp only [rvs, h3]
        rfl
      | cell t ty =>
        obtain ⟨ad, h3, h4⟩ := h1
        have h5 := hF.eval (x := .tmp t) h3
        simp only [Act.eval] at h5
        have h6 : (asAddr (a.tmps.getD t undef)).run P w = .ok ad w := by rw [h5]; rfl
        simp only [rvs, Sem.run_bind, h6, Result.andThen_ok, h4]
    simp only [Sem.run_bind, Sem.run_pure, Result.andThen_ok, ih, hv]
theorem ret_gen {fn : Func} {R : Ending → World → Prop} {rs : List ResultVar} {vs : List Value} (hF : Fr a n m) (hr : fn.results = rs.toArray) (h : RVs P w m rs vs) (hR : R (.returned (retv vs)) w) : bodyPost P fn R .ret a w := by
  have h1 := run_results (P := P) (w := w) hF h
  refine bodyPost_ret (v := retv vs) ?_ hF.defers hR
  have h2 : results fn a.tmps = (do let vs ← fn.results.mapM (rvs a.tmps); pure (if h : vs.size = 1 then vs[0] else .tuple vs)) := rfl
  rw [h2, hr, List.mapM_toArray]
  simp only [Sem.run_bind, Sem.run_map, h1, Result.andThen_ok, Sem.run_pure]
  congr 1
  match vs with
  | [] => rfl
  | [v] => rfl
  | v :: u :: r => simp [retv]
theorem end_gen {fn : Func} {R : Ending → World → Prop} (hF : Fr a n m) (hr : fn.results = #[]) (hR : R (.returned (.tuple #[])) w) : bodyPost P fn R .normal a w :=
  bodyPost_end (results_none hr _ _ _) hF.defers hR
theorem RV.blk {w0 : World} {F0 : List Nat} {ps : List Ck} {g t ty k : Nat} {cs : List Value} (hs : SL w0 F0 w ps) (hm : Blk g ty cs ∈ ps) (hl : look m t = some (.pointer (some ⟨g, 0, none⟩))) (hb : aggB P ty k = true) (hk : cs.length = k) : RV P w m (.cell t ty) (.agg ⟨cs⟩) := by
  refine ⟨_, hl, ?_⟩
  have hc := hs.blk_cells hm (o := 0) (ds := cs) (fun j u hu => by simpa using hu)
  have h1 := run_loadCells_list (P := P) w _ cs hc
  subst hk
  simp [loadVar, aggB_spec hb, h1]
end

/-! ### Views: values by which a row (that another value tells) is read in part -/
def View {α : Type} (T : Ty α) (v : Value) (l : List α) (v' : Value) (r : List α) : Prop := ∀ w G, slRd T w G v l → slRd T w G v' r
section
variable {P : Program} {w0 w : World} {F0 F : List Nat} {ps rest : List Ck} {α : Type} {T : Ty α} {enc : α → List Value} {v v' v'' : Value} {l r s : List α}
theorem View.trans (h : View T v l v' r) (h' : View T v' r v'' s) : View T v l v'' s := fun w G hh => h' w G (h w G hh)
theorem View.rd (h : View T v l v' r) (hr : Rd T w0 F0 v l) : Rd T w0 F0 v' r := by
  obtain ⟨G, h1, h2⟩ := hr
  exact ⟨G, h _ _ h1, h2⟩
theorem View.L (h : View T v l v' r) (hL : ∃ G, slRd T w G v l) : ∃ G, slRd T w G v' r := by
  obtain ⟨G, h1⟩ := hL
  exact ⟨G, h _ _ h1⟩
theorem formL (hL : ∃ G, slRd T w G v l) : ∃ A c, v = .slice A l.length c := by
  obtain ⟨G, h1⟩ := hL
  exact h1.form
theorem cut_view {t e sz bytes : Nat} {z : Value → Bool} {lo hi : Int} (hL : ∃ G, slRd T w G v l) (hb : slB P t e sz bytes z = true) (hz : T.sz = sz) (hr : cutL l lo hi = some r)
    (lo' hi' : Option Int) (hlo : lo' = some lo ∨ (lo' = none ∧ lo = 0)) (hhi : hi' = some hi ∨ (hi' = none ∧ hi = l.length)) : ∃ v', ScA P t v lo' hi' v' ∧ View T v l v' r := by
  obtain ⟨G, h1⟩ := hL
  exact slice_rd h1 hb hz hr lo' hi' hlo hhi
theorem idxL (hFl : Flat T enc) {t e sz bytes : Nat} {z : Value → Bool} {i : Int} {x : α} (hL : ∃ G, slRd T w G v l) (hb : slB P t e sz bytes z = true) (hz : T.sz = sz) (hx : idx l i = some x) :
    ∃ ad, IxA P t v i ad ∧ Cells w ad (enc x) := by
  obtain ⟨G, h⟩ := hL
  obtain ⟨ad, cs, h3, h4, h5, _⟩ := idx_ok h hb hz hx
  rw [hFl.rd.1 h5] at h4
  exact ⟨ad, h3, h4⟩
end

theorem idxC {α : Type} {T : Ty α} {enc : α → List Value} (hFl : Flat T enc) {P : Program} {w : World} {C : World → Prop} {v : Value} {l : List α} {t e sz bytes : Nat} {z : Value → Bool} {i : Int} {x : α} (h : ∀ w, C w → ∃ G, slRd T w G v l) (hw : C w)
    (hb : slB P t e sz bytes z = true) (hz : T.sz = sz) (hx : idx l i = some x) : ∃ ad, IxA P t v i ad ∧ ∀ w, C w → Cells w ad (enc x) := by
  obtain ⟨h0, h1, h2⟩ := idx_some hx
  obtain ⟨ad, h3, h4⟩ := idxL hFl (h w hw) hb hz hx
  obtain ⟨G, A, c, hv, hc, hi⟩ := h w hw
  obtain ⟨ad0, cs0, hA, _, _, _⟩ := hi _ x h2
  refine ⟨ad0.add (i.toNat * T.sz), ?_, fun w' hw' => ?_⟩
  · obtain ⟨hu, ti, zv, h5, h6, _⟩ := slB_spec hb
    subst hv hA
    intro w m x y k dd ty pos aft g hx hy a _ hF
    have e1 : (0 ≤ i ∧ i < (l.length : Int)) := ⟨h0, h1⟩
    simp [execOp, hF.eval hx, hF.eval hy, Instr.indexAt, asIntOf, run_underlying hu, e1, sizeOf, typeInfo, h5, h6, hz]
  · obtain ⟨G', A', c', hv', hc', hi'⟩ := h w' hw'
    obtain ⟨ad', cs', hA', _, h7, h8⟩ := hi' _ x h2
    rw [hv] at hv'
    injection hv' with hAA _ _
    rw [hA, hA'] at hAA
    cases hAA
    rw [hFl.rd.1 h8] at h7
    exact h7

/-! ### Data put together out of rows -/
section
variable {w0 w : World} {F0 : List Nat} {ps : List Ck} {α β : Type} {A : Ty α} {B : Ty β} {enc : α → List Value}
theorem SL.dflat (hs : SL w0 F0 w ps) (hFl : Flat A enc) (x : α) : SL w0 F0 w (Dt A x (enc x) :: ps) := by
  obtain ⟨F, h1, h2⟩ := hs.st
  exact ⟨hs.fm, F, ⟨[], F, rfl, hFl.own.2 ⟨rfl, rfl⟩, h1, by simp⟩, h2⟩
theorem SL.dsl {v : Value} {l : List α} (hs : SL w0 F0 w (Sl A v l :: ps)) : SL w0 F0 w (Dt (Ty.slice A) l [v] :: ps) :=
  hs.re fun F ⟨F1, F2, e, h1, h2, hd⟩ => ⟨F, ⟨F1, F2, e, ⟨v, rfl, h1⟩, h2, hd⟩, fun _ => Iff.rfl⟩
theorem SL.undsl {l : List α} {cs : List Value} (hs : SL w0 F0 w (Dt (Ty.slice A) l cs :: ps)) : ∃ v, cs = [v] ∧ SL w0 F0 w (Sl A v l :: ps) := by
  obtain ⟨F, ⟨F1, F2, e, ⟨v, hv, h1⟩, h2, hd⟩, h3⟩ := hs.st
  exact ⟨v, hv, hs.fm, F, ⟨F1, F2, e, h1, h2, hd⟩, h3⟩
theorem SL.dpair {x : α} {y : β} {c d : List Value} (hs : SL w0 F0 w (Dt A x c :: Dt B y d :: ps)) : SL w0 F0 w (Dt (A.pair B) (x, y) (c ++ d) :: ps) :=
  hs.re fun F ⟨F1, F2, e, h1, ⟨G1, G2, e', h2, h3, hd'⟩, hd⟩ => by
    subst e' e
    exact ⟨(F1 ++ G1) ++ G2, ⟨F1 ++ G1, G2, rfl, ⟨c, d, F1, G1, rfl, rfl, h1, h2, fun k hk hk' => hd k hk (by simp [hk'])⟩, h3, fun k hk hk' => by
      rw [List.mem_append] at hk
      rcases hk with hk | hk
      · exact hd k hk (by simp [hk'])
      · exact hd' k hk hk'⟩, fun k => by simp⟩
theorem SL.diso {x : β} {f : β → α} {c : List Value} (hs : SL w0 F0 w (Dt A (f x) c :: ps)) : SL w0 F0 w (Dt (A.iso f) x c :: ps) := hs
/-- A quiet call, at the chunks that stand. -/
theorem quiet_c {P : Program} {f : FuncId} {vs : Array Value} {u : Value} (h : Calls P f vs w (Ret fun v w' => v = u ∧ SL w [] w' [])) (hC : SL w0 F0 w ps) : Calls P f vs w (Ret fun v w' => v = u ∧ SL w0 F0 w' ps) :=
  h.mono fun _ _ ⟨v, he, hv, hs⟩ => ⟨v, he, hv, by simpa using hC.add hs⟩
end

/-! ### More operations on values -/
section
variable {P : Program} {w : World} {m : List (Nat × Value)} {dd : Option Tmp} {ty : TypeId} {pos : String} {aft : Array Edge} {g : Option (Nat × Bool)} {x y : Operand}
theorem run_equal {t : TypeId} {p q : Value} {b : Bool} (h : ∀ d, (Op.equalIn (d + 1) t p q).run P w = .ok b w) : (Op.equal t p q).run P w = .ok b w := by
  unfold Op.equal Op.maxDepth
  exact h 9999
theorem run_eql_ptr_nil {t : TypeId} {e : TypeDesc} (hp : P.underlying t = some e) (he : ∃ q, e = .pointer q) (ad : Addr) : (Op.equal t (.pointer (some ad)) (.pointer none)).run P w = .ok false w := by
  obtain ⟨q, rfl⟩ := he
  exact run_equal fun d => by simp [Op.equalIn, run_underlying hp]
theorem run_eql_bool {t : TypeId} (hp : P.underlying t = some .bool) (p q : Bool) : (Op.equal t (.bool p) (.bool q)).run P w = .ok (p == q) w :=
  run_equal fun d => by simp [Op.equalIn, run_underlying hp]
theorem ex_ptr_ne {t e u : TypeId} {ad : Addr} (hx : ev m x = some (.pointer (some ad))) (hy : ev m y = some (.pointer none)) (hp : P.underlying t = some (.pointer e)) : EX P w m ⟨dd, .binOp .neq t x y u, ty, pos, aft, g⟩ (.bool true) w :=
  ex_bin hx hy (fun _ => Value.noConfusion) Value.noConfusion (by simp [binOp, run_eql_ptr_nil hp ⟨e, rfl⟩])
theorem ex_ptr_eq {t e u : TypeId} {ad : Addr} (hx : ev m x = some (.pointer (some ad))) (hy : ev m y = some (.pointer none)) (hp : P.underlying t = some (.pointer e)) : EX P w m ⟨dd, .binOp .eql t x y u, ty, pos, aft, g⟩ (.bool false) w :=
  ex_bin hx hy (fun _ => Value.noConfusion) Value.noConfusion (by simp [binOp, run_eql_ptr_nil hp ⟨e, rfl⟩])
theorem ex_sl_eq {t e u : TypeId} {A : Option Addr} {k c : Nat} (hx : ev m x = some (.slice A k c)) (hy : ev m y = some (.slice none 0 0)) (hp : P.underlying t = some (.slice e)) : EX P w m ⟨dd, .binOp .eql t x y u, ty, pos, aft, g⟩ (.bool A.isNone) w :=
  ex_bin hx hy (fun _ => Value.noConfusion) Value.noConfusion (run_eql_slice_nil w t e A k c hp)
theorem ex_sl_ne {t e u : TypeId} {A : Option Addr} {k c : Nat} (hx : ev m x = some (.slice A k c)) (hy : ev m y = some (.slice none 0 0)) (hp : P.underlying t = some (.slice e)) : EX P w m ⟨dd, .binOp .neq t x y u, ty, pos, aft, g⟩ (.bool (!A.isNone)) w :=
  ex_bin hx hy (fun _ => Value.noConfusion) Value.noConfusion (run_neq_slice_nil w t e A k c hp)
theorem ex_beq {t u : TypeId} {p q : Bool} (hx : ev m x = some (.bool p)) (hy : ev m y = some (.bool q)) (hp : P.underlying t = some .bool) : EX P w m ⟨dd, .binOp .eql t x y u, ty, pos, aft, g⟩ (.bool (p == q)) w :=
  ex_bin hx hy (fun _ => Value.noConfusion) Value.noConfusion (by simp [binOp, run_eql_bool hp])
theorem ex_bne {t u : TypeId} {p q : Bool} (hx : ev m x = some (.bool p)) (hy : ev m y = some (.bool q)) (hp : P.underlying t = some .bool) : EX P w m ⟨dd, .binOp .neq t x y u, ty, pos, aft, g⟩ (.bool (p != q)) w :=
  ex_bin hx hy (fun _ => Value.noConfusion) Value.noConfusion (by simp [binOp, run_eql_bool hp, bne])
theorem ex_seq {t u : TypeId} {p q : List UInt8} (hx : ev m x = some (.string ⟨⟨p⟩⟩)) (hy : ev m y = some (.string ⟨⟨q⟩⟩)) : EX P w m ⟨dd, .binOp .eql t x y u, ty, pos, aft, g⟩ (.bool (p == q)) w :=
  ex_bin hx hy (fun _ => Value.noConfusion) Value.noConfusion (by simp [binOp, Op.stringOp, ba_toList])
theorem ex_sne {t u : TypeId} {p q : List UInt8} (hx : ev m x = some (.string ⟨⟨p⟩⟩)) (hy : ev m y = some (.string ⟨⟨q⟩⟩)) : EX P w m ⟨dd, .binOp .neq t x y u, ty, pos, aft, g⟩ (.bool (p != q)) w :=
  ex_bin hx hy (fun _ => Value.noConfusion) Value.noConfusion (by simp [binOp, Op.stringOp, ba_toList, bne])
theorem ex_sidx {t : TypeId} {p : List UInt8} {i : Int} {k : IntKind} {b : UInt8} (hx : ev m x = some (.string ⟨⟨p⟩⟩)) (hy : ev m y = some (.int k i)) (ht : P.underlying t = some .string) (hb : idx p i = some b) :
    EX P w m ⟨dd, .index t x y, ty, pos, aft, g⟩ (.int .u8 (b.toNat : Int)) w := fun a n hF => by
  obtain ⟨h0, h1, h2⟩ := idx_some hb
  have h3 : (⟨⟨p⟩⟩ : ByteArray)[i.toNat]? = some b := by
    simp only [getElem?_def, ByteArray.size]
    rw [List.getElem?_eq_some_iff] at h2
    obtain ⟨hlt, h2⟩ := h2
    rw [dif_pos (by simpa using hlt)]
    rw [← h2]
    rfl
  simp only [execOp, hF.eval hx, hF.eval hy]
  simp [Instr.index, asIntOf, run_underlying ht, h0, h3]
end
end Go.Pv
