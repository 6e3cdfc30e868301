/- Arrays in structs: sliced, copied. -/
import Derived.Test.YtkcehlfcfcabmaaGreatPvr
set_option linter.unusedVariables false
set_option linter.unusedSimpArgs false
namespace Go.Pv
open Go Go.RowKit
/-- The first n of r, then what l has. -/
def vcp {k : Nat} (l r : Vector UInt8 k) (n : Nat) : Vector UInt8 k := Vector.ofFn fun i => if i.val < n then r[i] else l[i]
theorem ev8_vcp {k : Nat} (l r : Vector UInt8 k) (n : Nat) (h : n ≤ k) : ev8 (vcp l r n) = (ev8 r).take n ++ (ev8 l).drop n := by
  apply List.ext_getElem?
  intro j
  have h1 : (ev8 (vcp l r n)).length = k := ev8_len _
  have h2 : ((ev8 r).take n ++ (ev8 l).drop n).length = k := by simp; omega
  by_cases hj : j < k
  · have g0 : ∀ v : Vector UInt8 k, (ev8 v)[j]? = some (.int .u8 ((v[j]'hj).toNat : Int)) := fun v => ev8_get (by
      rw [Vector.getElem?_toList]
      simp [hj])
    rw [g0]
    by_cases hn : j < n
    · rw [List.getElem?_append_left (by simp; omega), List.getElem?_take, if_pos hn, g0]
      simp [vcp, hn]
    · rw [List.getElem?_append_right (by simp; omega), List.getElem?_drop]
      rw [show n + (j - ((ev8 r).take n).length) = j from by simp; omega, g0]
      simp [vcp, hn]
  · rw [List.getElem?_eq_none (by omega), List.getElem?_eq_none (by omega)]
section
variable {P : Program} {w0 w : World} {F0 : List Nat} {ps : List Ck} {m : List (Nat × Value)} {n d k : Nat} {ty : TypeId} {pos : String} {aft : Array Edge} {x y : Operand} {ops : Array Oper} {Q : Exit → Act → World → Prop} {a : Act} {l' : List Oper} {gd : Option (Nat × Bool)} {dd : Option Tmp} {l r : Vector UInt8 k} {pre pre2 : List Value}
theorem ex_slvec {t e g o : Nat} {hi : Int} {kk : IntKind} (hb : arB P t e k 1 = true) (h0 : 0 ≤ hi) (h1 : hi ≤ k) (hx : ev m x = some (.pointer (some ⟨g, o, none⟩))) (hy : ev m y = some (.int kk hi)) :
    EX P w m ⟨dd, .slice t x none (some y) none, ty, pos, aft, gd⟩ (.slice (some ⟨g, o, none⟩) hi.toNat k) w := fun a _ hF => by
  obtain ⟨hu, ti, h5, h6⟩ := arB_spec hb
  have e1 : (0 ≤ hi ∧ hi ≤ (k : Int)) := by omega
  have e2 : ((0 : Int) ≤ 0 ∧ 0 ≤ hi) := by omega
  have e4 : ((0 : Int) ≤ 0 ∧ 0 ≤ ((hi.toNat : Nat) : Int)) := by omega
  have e5 : ¬ (max hi 0 < 0) := by omega
  have e6 : (0 : Int) ≤ max hi 0 := by omega
  simp only [execOp, hF.eval hx, Option.map_some, Option.map_none, hF.eval hy]
  simp [Instr.sliceAt, run_underlying hu, Instr.sliceBounds, Instr.sliceBound, asIntOf, sizeOf, typeInfo, h5, h6, e1, e2, e4, e5, e6, h0, h1, Instr.sureAddr, add_mk]
theorem ex_slvec0 {t e g o : Nat} (hb : arB P t e k 1 = true) (hx : ev m x = some (.pointer (some ⟨g, o, none⟩))) :
    EX P w m ⟨dd, .slice t x none none none, ty, pos, aft, gd⟩ (.slice (some ⟨g, o, none⟩) k k) w := fun a _ hF => by
  obtain ⟨hu, ti, h5, h6⟩ := arB_spec hb
  simp only [execOp, hF.eval hx, Option.map_none]
  simp [Instr.sliceAt, run_underlying hu, Instr.sliceBounds, Instr.sliceBound, asIntOf, sizeOf, typeInfo, h5, h6, Instr.sureAddr, add_mk]
theorem st_copyvec {cs' : List Value} {g g2 t1 t2 o o2 q t t' e by_ : Nat} {z : Value → Bool} (hF : Fr a n m) (hs : SL w0 F0 w (Blk g t1 (pre ++ ev8 l) :: ps)) (hm : Blk g2 t2 (pre2 ++ ev8 r) ∈ ps) (hp : pre.length = o) (hp2 : pre2.length = o2) (hq : q ≤ k) (hb : slB P t e 1 by_ z = true)
    (hx : ev m x = some (.slice (some ⟨g, o, none⟩) q k)) (hy : ev m y = some (.slice (some ⟨g2, o2, none⟩) k k)) (hlt : Nat.blt d n = true) (hc : pre ++ ev8 (vcp l r q) = cs')
    (kk : ∀ w a, Fr a n ((d, .int .i64 (q : Int)) :: m) → SL w0 F0 w (Blk g t1 cs' :: ps) → wpList P ops Q l' a w) :
    wpList P ops Q (⟨some d, .call { callee := .builtin .copy, args := #[x, y], argTypes := #[t, t'] }, ty, pos, aft, none⟩ :: l') a w := by
  subst hc hp hp2
  obtain ⟨ht, i, zv, hi, h2, h3, h4, _⟩ := slB_spec hb
  have hmin : min k q = q := by omega
  have hcs : Cells w ⟨g2, pre2.length, none⟩ (ev8 r) := hs.vec_cells (List.mem_cons_of_mem _ hm) rfl
  have hlen : ((ev8 r).take q).length = q := by simp; omega
  have hld := run_loadCells_list (P := P) w ⟨g2, pre2.length, none⟩ ((ev8 r).take q) (fun j u hu => by
    rw [List.getElem?_take] at hu
    split at hu
    · exact hcs j u hu
    · cases hu)
  rw [hlen] at hld
  obtain ⟨F, hst, hF0, _, hcl⟩ := SL.open_ (ps := [Blk g t1 (pre ++ ev8 l)]) hs
  obtain ⟨rfl, hg⟩ := Star.of_one hst
  have hstore := run_storeCells_fz (P := P) g pre.length t1 (0, 0) ((ev8 r).take q) 0 (pre ++ ev8 l).toArray w hg (by simp) (by simp; omega) (fun u hu => ev8_one r u (List.mem_of_mem_take hu))
  simp only [Nat.add_zero] at hstore
  have heq : ((pre ++ ev8 l).take pre.length ++ (ev8 r).take q ++ (pre ++ ev8 l).drop (pre.length + ((ev8 r).take q).length)) = pre ++ ev8 (vcp l r q) := by
    rw [hlen, ev8_vcp l r q hq, List.take_left, List.drop_append]
    simp
  refine st_op hF (v := .int .i64 (q : Int)) (w' := w.setRow g (pre ++ ev8 (vcp l r q)).toArray) (fun a n hF => ?_) rfl rfl hlt fun a hF => kk _ a hF (hcl _ [Blk g t1 (pre ++ ev8 (vcp l r q))] ⟨Fm.one rfl rfl rfl (by simp) (fun k hk => setRow_other w g k _ hk), [g], Star.one ⟨rfl, setRow_heap w g _ _ t1 _ hg⟩, fun k hk => .inl hk⟩)
  have hn' : Nat.min k q = q := hmin
  rw [← heq]
  simp [execOp, resolve, invoke, builtin, hF.eval hx, hF.eval hy, Builtin.copy_, run_underlying ht, Builtin.lenOf, sizeOf, typeInfo, hi, h2, hn', hmin, Builtin.firstCells, hld, hstore, goInt]
end
theorem vsl_ok {k : Nat} {l : Vector UInt8 k} {hi : Int} {r : List UInt8} (h : cutL l.toList 0 hi = some r) : 0 ≤ hi ∧ hi ≤ k := by
  obtain ⟨⟨h0, h1, h2⟩, _⟩ := cutL_some h
  exact ⟨by omega, by simpa using h2⟩
theorem vsl_nat {k : Nat} {l : Vector UInt8 k} {hi : Int} {r : List UInt8} (h : cutL l.toList 0 hi = some r) : hi.toNat ≤ k := by
  have := vsl_ok h
  omega
end Go.Pv
