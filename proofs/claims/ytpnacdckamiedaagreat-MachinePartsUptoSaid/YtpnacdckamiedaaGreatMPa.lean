/- Lemmas, walks and laws that the row of this claim rests on, merged into few texts: part 1. -/
import Derived.WalkKit
import Derived.KernelRfl
import Derived.Below
import Derived.Deep.Draws
import Derived.Deep.Quiet
import Derived.Deep.QuietTactic
import Derived.Lib.LazyBuf
import Derived.Laws.Append
import Derived.Laws.CopyRow
import Derived.Laws.OwnMore
import Derived.ScopeJumps
import Derived.Test.YtpnacdckamiedaaGreatRows
import Derived.ProofKit
import Derived.OpenShut
import Derived.JoinedCond
import Derived.ReadAgain
import Derived.Deep.Slices
import Derived.OrdersHeld
import Derived.LoopN
import Derived.Deep.RegionHeld3
import Derived.Laws.StructEq
import Derived.ChangeKeysEq
import Derived.Laws.IdiomRangeMap
set_option linter.unusedVariables false
set_option linter.unusedSimpArgs false
open Option renaming bind_some → Yk, map_some → Yl, bind_eq_some_iff → Ym
open List renaming getElem?_eq_getElem → Yn, length_append → Yo, length_take → Yp, mem_append → Yq, mem_singleton → Yr, mem_cons → Ys, append_nil → Yt, nil_append → Yu, length_cons → Yv, append_assoc → Yw
open Bool renaming and_eq_true → Yx
namespace Go.Pv
theorem Ab {c : Prop} {h : Decidable c} (hc : c) {α : Sort _} {t e : α} : (ite c t e) = t := if_pos hc
theorem Ac {c : Prop} {h : Decidable c} (hc : ¬ c) {α : Sort _} {t e : α} : (ite c t e) = e := if_neg hc
theorem Aa {p : Prop} [Decidable p] : (decide p = true) = p := decide_eq_true_eq
theorem B9 {α : Type} [BEq α] [LawfulBEq α] {a b : α} : (a != b) = true ↔ a ≠ b := bne_iff_ne
theorem Ap {α : Type} [BEq α] [LawfulBEq α] {a b : α} : (a == b) = true ↔ a = b := beq_iff_eq
end Go.Pv
namespace Go.Pv
open Go Go.RowKit
def look : List (Nat × Value) → Nat → Option Value
 | [], _ => none
 | (i, v) :: r, t => bif Nat.beq i t then some v else look r t
structure Fr (a : Act) (n : Nat) (m : List (Nat × Value)) : Prop where
 size : a.tmps.size = n
 defers : a.defers = []
 at_ : ∀ t v, look m t = some v → a.tmps[t]? = some v
def ev (m : List (Nat × Value)) : Operand → Option Value
 | .tmp t => look m t
 | .const v => some v
 | .func f => some (.func (.func f) #[] #[])
 | .global _ => none
def Fp (m : List (Nat × Value)) : List Operand → Option (List Value)
 | [] => some []
 | x :: r => match ev m x with
  | some v => match Fp m r with
   | some l => some (v :: l)
   | none => none
  | none => none
theorem Fr.eval {a : Act} {n : Nat} {m : List (Nat × Value)} (h : Fr a n m) {x : Operand} {v : Value} (hx : ev m x = some v) : a.eval x = v := by
 cases x with
 | tmp t =>
  have h1 := h.at_ t v hx
  simp only [Act.eval]
  rw [Array.getD_eq_getD_getElem?, h1]
  rfl
 | const v' => simpa [ev, Act.eval] using hx
 | global g => simp [ev] at hx
 | func f => simpa [ev, Act.eval] using hx
theorem Fr.Ik {a : Act} {n : Nat} {m : List (Nat × Value)} (h : Fr a n m) : ∀ {l : List Operand} {vs : List Value}, Fp m l = some vs → l.map a.eval = vs
 | [], vs, hx => by simpa [Fp] using hx
 | x :: r, vs, hx => by
  simp only [Fp] at hx
  split at hx
  ·rename_i v hv
   split at hx
   ·rename_i l hl
    cases hx
    rw [List.map_cons, h.eval hv, h.Ik hl]
   ·cases hx
  ·cases hx
theorem Dv (m : List (Nat × Value)) (d : Nat) (v : Value) : look ((d, v) :: m) d = some v := by simp [look]
theorem HY (m : List (Nat × Value)) {d t : Nat} (v : Value) (h : d ≠ t) : look ((d, v) :: m) t = look m t := by
 have : Nat.beq d t = false := by
  rcases hb : Nat.beq d t with _ | _
  ·rfl
  ·exact absurd (Nat.eq_of_beq_eq_true hb) h
 simp [look, this]
theorem Fr.put {a : Act} {n : Nat} {m : List (Nat × Value)} (h : Fr a n m) (d : Nat) (v : Value) (hd : Nat.blt d n = true) : Fr (a.put (some d) v) n ((d, v) :: m) := by
 have hd' : d < n := by simpa [Nat.blt_eq] using hd
 refine ⟨by simp [Act.put, h.size], by simp [Act.put, h.defers], fun t u hu => ?_⟩
 simp only [Act.put]
 by_cases ht : d = t
 ·subst ht
  rw [Dv] at hu
  rw [Array.getElem?_setIfInBounds_self, Ab (by rw [h.size]; exact hd')]
  exact hu
 ·rw [HY m v ht] at hu
  rw [Array.getElem?_setIfInBounds_ne ht]
  exact h.at_ t u hu
def RL : List (Nat × Value) → List (Nat × Value) → Prop
 | [], _ => True
 | (t, v) :: r, m => look m t = some v ∧ RL r m
theorem Lk : ∀ {m' m : List (Nat × Value)}, RL m' m → ∀ t v, look m' t = some v → look m t = some v
 | [], _, _, t, v, h => by simp [look] at h
 | (i, u) :: r, m, hs, t, v, h => by
  obtain ⟨h1, h2⟩ := hs
  by_cases hi : i = t
  ·subst hi
   rw [Dv] at h
   cases h
   exact h1
  ·rw [HY r u hi] at h
   exact Lk h2 t v h
theorem Fr.sub {a : Act} {n : Nat} {m m' : List (Nat × Value)} (h : Fr a n m) (hs : RL m' m) : Fr a n m' := ⟨h.size, h.defers, fun t v hv => h.at_ t v (Lk hs t v hv)⟩
theorem NV {args : Array Value} {n : Nat} {m : List (Nat × Value)} (hn : args.size ≤ n) (h : ∀ t v, look m t = some v → args[t]? = some v) :
  Fr { tmps := args ++ Array.replicate (n - args.size) undef, defers := [] } n m :=
 ⟨by simp; omega, rfl, fun t v hv => by
  have h1 := h t v hv
  obtain ⟨hlt, h2⟩ := Array.getElem?_eq_some_iff.1 h1
  simp only
  rw [Array.getElem?_append_left hlt, h1]⟩
def JK : Nat → List Value → List (Nat × Value)
 | _, [] => []
 | i, v :: r => (i, v) :: JK (i + 1) r
theorem JC : ∀ (l : List Value) (i t : Nat) (v : Value), look (JK i l) t = some v → ∃ j, t = i + j ∧ l[j]? = some v
 | [], i, t, v, h => by simp [JK, look] at h
 | u :: r, i, t, v, h => by
  by_cases ht : i = t
  ·subst ht
   rw [JK, Dv] at h
   exact ⟨0, rfl, by simpa using h⟩
  ·rw [JK, HY _ _ ht] at h
   obtain ⟨j, rfl, hj⟩ := JC r (i + 1) t v h
   exact ⟨j + 1, by omega, by simpa using hj⟩
theorem Nr {P : Program} {f : FuncId} {fn : Func} {c : Code} {args : List Value} {w : World} {R : Ending → World → Prop} {n : Nat}
  (hf : P.funcs[f]? = some fn) (hb : fn.body = some c) (hn : fn.ntmps = n) (hl : args.length ≤ n)
  (h : ∀ a, Fr a n (JK 0 args) → c.wp P (bodyPost P fn R) a w) : Calls P f args.toArray w R := by
 refine calls_of_wp hf hb (h _ ?_)
 subst hn
 refine NV (by simpa using hl) fun t v hv => ?_
 obtain ⟨j, rfl, hj⟩ := JC args 0 t v hv
 simpa using hj
section
variable {P : Program}
def EX (P : Program) (w : World) (m : List (Nat × Value)) (o : Oper) (v : Value) (w' : World) : Prop :=
 ∀ a n, Fr a n m → (execOp a.eval o).run P w = .ok (.value v) w'
def XZ (P : Program) (w : World) (m : List (Nat × Value)) (o : Oper) (w' : World) : Prop :=
 ∀ a n, Fr a n m → (execOp a.eval o).run P w = .ok .skip w'
variable {w w' : World} {m m' : List (Nat × Value)} {ops : Array Oper} {Q : Exit → Act → World → Prop} {a : Act} {n : Nat} {rest rest' : List Oper} {o : Oper} {d : Nat} {v : Value}
theorem EQ (hF : Fr a n m) (he : EX P w m o v w') (hg : o.guard = none) (hd : o.dst = some d) (hlt : Nat.blt d n = true)
  (k : ∀ a, Fr a n ((d, v) :: m) → wpList P ops Q rest a w') : wpList P ops Q (o :: rest) a w :=
 wpList_plain hg fun K hK => by
  unfold Oper.wp
  rw [he a n hF, Oper.upon_value, hd]
  exact hK _ _ (k _ (hF.put d v hlt))
theorem Lh (hF : Fr a n m) (he : XZ P w m o w') (hg : o.guard = none) (hd : o.dst = none) (k : ∀ a, Fr a n m → wpList P ops Q rest a w') : wpList P ops Q (o :: rest) a w :=
 wpList_plain hg fun K hK => by
  unfold Oper.wp
  rw [he a n hF, Oper.upon_skip, hd]
  exact hK _ _ (k _ hF)
theorem D7 {j dj : Nat} {b : Bool} (hF : Fr a n m) (hj : (ops[j]?).bind (·.dst) = some dj) (hb : look m dj = some (.bool b)) : yielded ops a.tmps j = some b := by
 unfold yielded
 rw [hj]
 simp only [Yk]
 rw [hF.at_ _ _ hb]
theorem Bu {j dj : Nat} {b : Bool} (hF : Fr a n m) (hg : o.guard = some (j, b)) (hj : (ops[j]?).bind (·.dst) = some dj) (hb : look m dj = some (.bool b))
  (he : EX P w m o v w') (hd : o.dst = some d) (hlt : Nat.blt d n = true)
  (k : ∀ a, Fr a n ((d, v) :: m) → wpList P ops Q rest a w') : wpList P ops Q (o :: rest) a w :=
 wpList_step fun K hK => by
  rw [Ab (by simp [Region.wanted, hg, D7 hF hj hb])]
  unfold Oper.wp
  rw [he a n hF, Oper.upon_value, hd]
  exact hK _ _ (k _ (hF.put d v hlt))
theorem OW {j dj : Nat} {b c : Bool} (hF : Fr a n m) (hg : o.guard = some (j, c)) (hj : (ops[j]?).bind (·.dst) = some dj) (hb : look m dj = some (.bool b)) (hne : b ≠ c)
  (hd : o.dst = some d) (hlt : Nat.blt d n = true)
  (k : ∀ a, Fr a n ((d, undef) :: m) → wpList P ops Q rest a w) : wpList P ops Q (o :: rest) a w :=
 wpList_step fun K hK => by
  rw [Ac (by simp [Region.wanted, hg, D7 hF hj hb]; exact hne)]
  rw [hd]
  exact hK _ _ (k _ (hF.put d undef hlt))
theorem T0 {j dj : Nat} {c : Bool} (hF : Fr a n m) (hg : o.guard = some (j, c)) (hj : (ops[j]?).bind (·.dst) = some dj) (hb : look m dj = some undef)
  (hd : o.dst = some d) (hlt : Nat.blt d n = true)
  (k : ∀ a, Fr a n ((d, undef) :: m) → wpList P ops Q rest a w) : wpList P ops Q (o :: rest) a w :=
 wpList_step fun K hK => by
  have : yielded ops a.tmps j = none := by
   unfold yielded
   rw [hj]
   simp only [Yk]
   rw [hF.at_ _ _ hb]
   rfl
  rw [Ac (by simp [Region.wanted, hg, this])]
  rw [hd]
  exact hK _ _ (k _ (hF.put d undef hlt))
def PR (P : Program) (w : World) (n : Nat) (m : List (Nat × Value)) (l : List Oper) (m' : List (Nat × Value)) (l' : List Oper) : Prop :=
 ∀ ops Q a, Fr a n m → (∀ a, Fr a n m' → wpList P ops Q l' a w) → wpList P ops Q l a w
theorem PR.nil {l : List Oper} : PR P w n m l m l := fun _ _ a hF k => k a hF
theorem PR.op (he : EX P w m o v w) (k : PR P w n ((d, v) :: m) rest m' rest') (hg : o.guard = none := by rfl) (hd : o.dst = some d := by rfl) (hlt : Nat.blt d n = true := by rfl) : PR P w n m (o :: rest) m' rest' :=
 fun ops Q _ hF k' => EQ hF he hg hd hlt fun a hF' => k ops Q a hF' k'
variable {ty : TypeId} {pos : String} {aft : Array Edge} {g : Option (Nat × Bool)} {dd : Option Tmp} {x y z : Operand}
theorem QK {v : Value} (h : ev m x = some v) : EX P w m ⟨dd, .move x, ty, pos, aft, g⟩ v w := fun a n hF => by
 simp only [execOp, hF.eval h]; rfl
theorem WH {v : Value} (h : ev m x = some v) : EX P w m ⟨dd, .assign x, ty, pos, aft, g⟩ v w := fun a n hF => by
 simp only [execOp, hF.eval h]; rfl
theorem O0 {v : Value} (hx : ev m x = some (.bool true)) (hy : ev m y = some v) : EX P w m ⟨dd, .pick x y z, ty, pos, aft, g⟩ v w := fun a n hF => by
 simp only [execOp, hF.eval hx, hF.eval hy, asBool]; rfl
theorem Ov {v : Value} (hx : ev m x = some (.bool false)) (hz : ev m z = some v) : EX P w m ⟨dd, .pick x y z, ty, pos, aft, g⟩ v w := fun a n hF => by
 simp only [execOp, hF.eval hx, hF.eval hz, asBool]; rfl
theorem Mo (bop : BinOp) (t : TypeId) (x y : Operand) (a b : Value) (h : ∀ u, a ≠ .agg u) (h' : a ≠ .nilIface) : (eqGuard bop t x y a b).run P w = .ok () w := by
 cases a with
 | agg u => exact absurd rfl (h u)
 | nilIface => exact absurd rfl h'
 | _ => cases bop <;> rfl
theorem Df {bop : BinOp} {t u : TypeId} {p q r : Value} (hx : ev m x = some p) (hy : ev m y = some q) (h : ∀ c, p ≠ .agg c) (h' : p ≠ .nilIface) (hr : (binOp bop t p q).run P w = .ok r w) :
  EX P w m ⟨dd, .binOp bop t x y u, ty, pos, aft, g⟩ r w := fun a n hF => by
 simp only [execOp, hF.eval hx, hF.eval hy]
 simp [Mo bop t x y p q h h', hr]
section
variable {t u : TypeId} {k : IntKind} {p q : Int}
theorem Tr (hx : ev m x = some (.int k p)) (hy : ev m y = some (.int k q)) : EX P w m ⟨dd, .binOp .add t x y u, ty, pos, aft, g⟩ (.int k (k.wrap (p + q))) w :=
 Df hx hy (fun _ => Value.noConfusion) Value.noConfusion (by simp [binOp, Op.intArith])
theorem Tw (hx : ev m x = some (.int k p)) (hy : ev m y = some (.int k q)) : EX P w m ⟨dd, .binOp .sub t x y u, ty, pos, aft, g⟩ (.int k (k.wrap (p - q))) w :=
 Df hx hy (fun _ => Value.noConfusion) Value.noConfusion (by simp [binOp, Op.intArith])
theorem Wh (hx : ev m x = some (.int k p)) (hy : ev m y = some (.int k q)) : EX P w m ⟨dd, .binOp .mul t x y u, ty, pos, aft, g⟩ (.int k (k.wrap (p * q))) w :=
 Df hx hy (fun _ => Value.noConfusion) Value.noConfusion (by simp [binOp, Op.intArith])
theorem WU (hx : ev m x = some (.int k p)) (hy : ev m y = some (.int k q)) (h : (q == 0) = false) : EX P w m ⟨dd, .binOp .quo t x y u, ty, pos, aft, g⟩ (.int k (k.wrap (p.tdiv q))) w :=
 Df hx hy (fun _ => Value.noConfusion) Value.noConfusion (by simp [binOp, Op.intDiv, beq_eq_false_iff_ne.1 h])
theorem P4 (hx : ev m x = some (.int k p)) (hy : ev m y = some (.int k q)) (h : (q == 0) = false) : EX P w m ⟨dd, .binOp .rem t x y u, ty, pos, aft, g⟩ (.int k (p.tmod q)) w :=
 Df hx hy (fun _ => Value.noConfusion) Value.noConfusion (by simp [binOp, Op.intDiv, beq_eq_false_iff_ne.1 h])
def Ti (k : IntKind) (p q : Int) : Int := k.wrap (BitVec.ofInt k.bits p ||| BitVec.ofInt k.bits q).toNat
theorem Xj (hx : ev m x = some (.int k p)) (hy : ev m y = some (.int k q)) : EX P w m ⟨dd, .binOp .or t x y u, ty, pos, aft, g⟩ (.int k (Ti k p q)) w :=
 Df hx hy (fun _ => Value.noConfusion) Value.noConfusion (by simp [binOp, Op.intBits, Ti])
theorem Xl (hx : ev m x = some (.int k p)) (hy : ev m y = some (.int k q)) : EX P w m ⟨dd, .binOp .eql t x y u, ty, pos, aft, g⟩ (.bool (p == q)) w :=
 Df hx hy (fun _ => Value.noConfusion) Value.noConfusion (by simp [binOp, Op.intCmp])
theorem X0 (hx : ev m x = some (.int k p)) (hy : ev m y = some (.int k q)) : EX P w m ⟨dd, .binOp .neq t x y u, ty, pos, aft, g⟩ (.bool (p != q)) w :=
 Df hx hy (fun _ => Value.noConfusion) Value.noConfusion (by simp [binOp, Op.intCmp])
theorem Xk (hx : ev m x = some (.int k p)) (hy : ev m y = some (.int k q)) : EX P w m ⟨dd, .binOp .lss t x y u, ty, pos, aft, g⟩ (.bool (decide (p < q))) w :=
 Df hx hy (fun _ => Value.noConfusion) Value.noConfusion (by simp [binOp, Op.intCmp])
theorem Xr (hx : ev m x = some (.int k p)) (hy : ev m y = some (.int k q)) : EX P w m ⟨dd, .binOp .leq t x y u, ty, pos, aft, g⟩ (.bool (decide (p ≤ q))) w :=
 Df hx hy (fun _ => Value.noConfusion) Value.noConfusion (by simp [binOp, Op.intCmp])
theorem Xn (hx : ev m x = some (.int k p)) (hy : ev m y = some (.int k q)) : EX P w m ⟨dd, .binOp .gtr t x y u, ty, pos, aft, g⟩ (.bool (decide (p > q))) w :=
 Df hx hy (fun _ => Value.noConfusion) Value.noConfusion (by simp [binOp, Op.intCmp])
theorem Xx (hx : ev m x = some (.int k p)) (hy : ev m y = some (.int k q)) : EX P w m ⟨dd, .binOp .geq t x y u, ty, pos, aft, g⟩ (.bool (decide (p ≥ q))) w :=
 Df hx hy (fun _ => Value.noConfusion) Value.noConfusion (by simp [binOp, Op.intCmp])
def OV (k : IntKind) (p q : Int) : Int := k.wrap (p * 2 ^ min q.toNat k.bits)
variable {k' : IntKind}
theorem Wk (hx : ev m x = some (.int k p)) (hy : ev m y = some (.int k' q)) (h : decide (q < 0) = false) : EX P w m ⟨dd, .binOp .shl t x y u, ty, pos, aft, g⟩ (.int k (OV k p q)) w :=
 Df hx hy (fun _ => Value.noConfusion) Value.noConfusion (by simp only [binOp, Op.shift]; rw [Ac (of_decide_eq_false h)]; rfl)
theorem Wx (hx : ev m x = some (.int k p)) : EX P w m ⟨dd, .unOp .neg t x, ty, pos, aft, g⟩ (.int k (k.wrap (0 - p))) w := fun a n hF => by
 simp only [execOp, hF.eval hx]
 simp [Op.unary, Op.intArith]
theorem C7 {s d : TypeId} {ds : TypeDesc} (hx : ev m x = some (.int k' p)) (hs : P.underlying s = some ds) (hd : P.underlying d = some (.int k)) :
  EX P w m ⟨dd, .convert s d x, ty, pos, aft, g⟩ (.int k (k.wrap p)) w := fun a n hF => by
 simp only [execOp, hF.eval hx]
 simp [convert, run_underlying hs, run_underlying hd, Conv.intToInt]
end
theorem Wd {t : TypeId} {b : Bool} (hx : ev m x = some (.bool b)) : EX P w m ⟨dd, .unOp .not t x, ty, pos, aft, g⟩ (.bool (!b)) w := fun a n hF => by
 simp only [execOp, hF.eval hx]
 simp [Op.unary]
theorem Sk {j : Nat} {vs : Array Value} {v : Value} (hx : ev m x = some (.tuple vs)) (hv : vs[j]? = some v) : EX P w m ⟨dd, .extract x j, ty, pos, aft, g⟩ v w := fun a n hF => by
 simp only [execOp, hF.eval hx]
 simp [Instr.extract, hv]
theorem Qt {b : Addr} (hx : ev m x = some (.pointer (some b))) : EX P w m ⟨dd, .nilCheck x, ty, pos, aft, g⟩ (.pointer (some b)) w := fun a n hF => by
 simp only [execOp, hF.eval hx]
 simp
end
section
variable {P : Program} {w w' : World} {m m' : List (Nat × Value)} {Q : Exit → Act → World → Prop} {a : Act} {n : Nat}
theorem Np {id : Nat} {l : List Oper} (h : wpList P l.toArray Q l a w) : (Code.region id l.toArray false).wp P Q a w := wp_region_lit h
theorem MR {t : Nat} {b : Bool} {x y : Code} (hF : Fr a n m) (hc : look m t = some (.bool b)) (ht : b = true → x.wp P Q a w) (hf : b = false → y.wp P Q a w) : (Code.cond (.tmp t) x y).wp P Q a w :=
 wp_cond_split (hF.eval (x := .tmp t) hc) ht hf
theorem Pq {ops : Array Oper} (h : Q .normal a w) : wpList P ops Q [] a w := h
end
theorem OE {α : Type} {b : Bool} {A B : Option α} {r : α} (hb : b = true) (H : (if b = true then A else B) = some r) : A = some r := by rw [Ab hb] at H; exact H
theorem OG {α : Type} {b : Bool} {A B : Option α} {r : α} (hb : b = false) (H : (if b = true then A else B) = some r) : B = some r := by rw [Ac (by simp [hb])] at H; exact H
theorem bind_ok {α β : Type} {E : Option α} {K : α → Option β} {r : β} (H : E.bind K = some r) : ∃ x, E = some x ∧ K x = some r := Option.bind_eq_some_iff.1 H
section
variable {S R : Type}
def ED (body : S → Option (S ⊕ R)) : Nat → S → Option R
 | 0, _ => none
 | n + 1, s => match body s with
  | none => none
  | some (.inl s') => ED body n s'
  | some (.inr r) => some r
theorem K0 (body : S → Option (S ⊕ R)) {r : R} : ∀ {n k : Nat} {s : S}, ED body n s = some r → n ≤ k → ED body k s = some r
 | 0, _, _, h, _ => by simp [ED] at h
 | n + 1, 0, _, _, hk => by omega
 | n + 1, k + 1, s, h, hk => by
  simp only [ED] at h ⊢
  split at h
  ·cases h
  ·rename_i s' hb
   exact K0 body h (by omega)
  ·exact h
open Classical in
noncomputable def Ay (body : S → Option (S ⊕ R)) (s : S) : Option R :=
 if h : ∃ n r, ED body n s = some r then some (Classical.choose (Classical.choose_spec h)) else none
theorem IG {body : S → Option (S ⊕ R)} {s : S} {r : R} : Ay body s = some r ↔ ∃ n, ED body n s = some r := by
 unfold Ay
 constructor
 ·intro h
  split at h
  ·rename_i hx
   have h1 := Classical.choose_spec (Classical.choose_spec hx)
   cases h
   exact ⟨_, h1⟩
  ·cases h
 ·rintro ⟨n, hn⟩
  have hx : ∃ n r, ED body n s = some r := ⟨n, r, hn⟩
  rw [dif_pos hx]
  have h1 := Classical.choose_spec (Classical.choose_spec hx)
  have h2 := K0 body h1 (Nat.le_max_left _ n)
  have h3 := K0 body hn (Nat.le_max_right (Classical.choose hx) _)
  rw [h2] at h3
  exact h3
theorem Px (body : S → Option (S ⊕ R)) (s : S) : Ay body s = match body s with
  | none => none
  | some (.inl s') => Ay body s'
  | some (.inr r) => some r := by
 apply Option.ext
 intro r
 rw [IG]
 constructor
 ·rintro ⟨n, hn⟩
  cases n with
  | zero => simp [ED] at hn
  | succ n =>
   simp only [ED] at hn
   rcases hb : body s with _ | ⟨s' | r'⟩
   ·rw [hb] at hn; cases hn
   ·rw [hb] at hn; exact IG.2 ⟨n, hn⟩
   ·rw [hb] at hn; exact hn
 ·intro h
  rcases hb : body s with _ | ⟨s' | r'⟩
  ·rw [hb] at h; cases h
  ·rw [hb] at h
   obtain ⟨n, hn⟩ := IG.1 h
   exact ⟨n + 1, by simp only [ED, hb]; exact hn⟩
  ·rw [hb] at h
   exact ⟨1, by simp only [ED, hb]; exact h⟩
theorem Xg {P : Program} {c : Code} {Q : Exit → Act → World → Prop} {a : Act} {w : World} (body : S → Option (S ⊕ R)) (I : S → Act → World → Prop) {s : S} {r : R} (H : Ay body s = some r) (h0 : I s a w)
  (round : ∀ s a w, I s a w → ∀ o, body s = some o → (∀ r', o = .inr r' → r' = r) → c.wp P (Exit.then (fun a' w' => ∃ s', o = .inl s' ∧ I s' a' w') Q) a w) : (Code.loop c).wp P Q a w := by
 obtain ⟨n, hn⟩ := IG.1 H
 clear H
 intro b k cs
 have key : ∀ n s, ED body n s = some r → ∀ a w, I s a w →
   ∃ e a' w', Q e a' w' ∧ Arrives P (lone (b.at a (.code c :: .inLoop c :: k)) cs w) b k cs e a' w' := by
  intro n
  induction n with
  | zero => intro s hs; simp [ED] at hs
  | succ n ih =>
   intro s hs a w hI
   simp only [ED] at hs
   have hb : ∃ o, body s = some o ∧ (∀ r', o = .inr r' → r' = r) ∧ (∀ s', o = .inl s' → ED body n s' = some r) := by
    rcases hb : body s with _ | ⟨s' | r'⟩
    ·rw [hb] at hs; cases hs
    ·rw [hb] at hs
     exact ⟨_, rfl, fun r' h => (by cases h), fun s'' h => by cases h; exact hs⟩
    ·rw [hb] at hs
     exact ⟨_, rfl, fun r'' h => by cases h; cases hs; rfl, fun s'' h => (by cases h)⟩
   obtain ⟨o, hb1, hb2, hb3⟩ := hb
   obtain ⟨e, a₁, w₁, hq, harr⟩ := round s a w hI o hb1 hb2 b (.inLoop c :: k) cs
   cases e with
   | normal =>
    obtain ⟨s', rfl, hI₁⟩ := hq
    obtain ⟨e₂, a₂, w₂, hq₂, harr₂⟩ := ih s' (hb3 _ rfl) a₁ w₁ hI₁
    exact ⟨e₂, a₂, w₂, hq₂, .of_steps (Steps.trans harr (.one step_inLoop)) harr₂⟩
   | exit id => exact ⟨_, a₁, w₁, hq, .pass (x := .inLoop c) rfl (fun _ _ => .inl (by simp)) harr⟩
   | goto l => exact ⟨_, a₁, w₁, hq, .pass (x := .inLoop c) rfl (fun _ _ => .inl (by simp)) harr⟩
   | ret => exact ⟨_, a₁, w₁, hq, .pass (x := .inLoop c) rfl (fun _ _ => .inl (by simp)) harr⟩
   | panic ch => exact ⟨_, a₁, w₁, hq, .pass (x := .inLoop c) rfl (fun _ _ => .inl (by simp)) harr⟩
   | outgrown => exact ⟨_, a₁, w₁, hq, .pass (x := .inLoop c) rfl (fun _ _ => .inl (by simp)) harr⟩
 obtain ⟨e, a', w', hq, harr⟩ := key n s hn a w h0
 exact ⟨e, a', w', hq, .of_steps (.one step_loop) harr⟩
end
end Go.Pv
namespace Go.Pv
open Go Go.RowKit
theorem block_add (a : Addr) (n : Nat) : (a.add n).block = a.block := by unfold Addr.add; split <;> rfl
theorem add_add' (a : Addr) (i j : Nat) : (a.add i).add j = a.add (i + j) := by
 unfold Addr.add
 by_cases hi : i = 0 <;> by_cases hj : j = 0 <;> simp [hi, hj, Nat.add_assoc]
theorem HL (g o n : Nat) : (⟨g, o, none⟩ : Addr).add n = ⟨g, o + n, none⟩ := by
 unfold Addr.add
 by_cases h : n = 0 <;> simp [h]
theorem Vk {w : World} {a : Addr} {u : Value} (h : w.cell? a = some u) : a.block < w.heap.size := by
 rcases Nat.lt_or_ge a.block w.heap.size with h1 | h1
 ·exact h1
 ·unfold World.cell? at h; rw [Array.getElem?_eq_none h1] at h; cases h
theorem Mc {w : World} {k : Nat} {o : Obj} (h : w.heap[k]? = some o) : k < w.heap.size := by
 rcases Nat.lt_or_ge k w.heap.size with h1 | h1
 ·exact h1
 ·rw [Array.getElem?_eq_none h1] at h; cases h
theorem Nj {w w' : World} {a : Addr} (h : w'.heap[a.block]? = w.heap[a.block]?) : w'.cell? a = w.cell? a := by simp [World.cell?, h]
structure Fm (w0 : World) (F0 : List Nat) (w : World) : Prop where
 os : w.os = w0.os
 tape : w.tape = w0.tape
 output : w.output = w0.output
 size : w0.heap.size ≤ w.heap.size
 block : ∀ k, k < w0.heap.size → k ∉ F0 → w.heap[k]? = w0.heap[k]?
theorem Fm.refl (w : World) (F : List Nat) : Fm w F w := ⟨rfl, rfl, rfl, Nat.le_refl _, fun _ _ _ => rfl⟩
theorem Fm.trans {w0 w w1 : World} {F0 F1 : List Nat} (h : Fm w0 F0 w) (h1 : Fm w F1 w1) (hF : ∀ k ∈ F1, k ∈ F0 ∨ w0.heap.size ≤ k) : Fm w0 F0 w1 :=
 ⟨h1.os.trans h.os, h1.tape.trans h.tape, h1.output.trans h.output, Nat.le_trans h.size h1.size, fun k hk hn => by
  rw [h1.block k (Nat.lt_of_lt_of_le hk h.size) (fun hin => by rcases hF k hin with h2 | h2; exact hn h2; omega)]
  exact h.block k hk hn⟩
theorem Fm.drew (w : World) (F : List Nat) : Fm w F w.drew := ⟨rfl, rfl, rfl, Nat.le_refl _, fun _ _ _ => rfl⟩
theorem Fm.alloc (w : World) (F : List Nat) (o : Obj) : Fm w F (w.alloc o) := ⟨rfl, rfl, rfl, by simp, fun k hk _ => Below.heap_alloc w o k hk⟩
theorem Fm.one {w w' : World} {g : Nat} (h1 : w'.os = w.os) (h2 : w'.tape = w.tape) (h3 : w'.output = w.output) (h4 : w'.heap.size = w.heap.size) (h5 : ∀ k, k ≠ g → w'.heap[k]? = w.heap[k]?) : Fm w [g] w' :=
 ⟨h1, h2, h3, by omega, fun k _ hn => h5 k (by simpa using hn)⟩
structure Ck where
 P : World → List Nat → Prop
 loc : ∀ {w w' F}, P w F → (∀ k ∈ F, w'.heap[k]? = w.heap[k]?) → P w' F
 lt : ∀ {w F}, P w F → ∀ k ∈ F, k < w.heap.size
def Aw : List Ck → World → List Nat → Prop
 | [], _, F => F = []
 | p :: ps, w, F => ∃ F1 F2, F = F1 ++ F2 ∧ p.P w F1 ∧ Aw ps w F2 ∧ ∀ k ∈ F1, k ∉ F2
theorem Aw.loc : ∀ {ps : List Ck} {w w' : World} {F : List Nat}, Aw ps w F → (∀ k ∈ F, w'.heap[k]? = w.heap[k]?) → Aw ps w' F
 | [], _, _, _, h, _ => h
 | p :: ps, w, w', F, ⟨F1, F2, e, h1, h2, hd⟩, hk => ⟨F1, F2, e, p.loc h1 (fun k hk' => hk k (by simp [e, hk'])), Aw.loc h2 (fun k hk' => hk k (by simp [e, hk'])), hd⟩
theorem Aw.lt : ∀ {ps : List Ck} {w : World} {F : List Nat}, Aw ps w F → ∀ k ∈ F, k < w.heap.size
 | [], _, _, h, k, hk => by rw [h] at hk; cases hk
 | p :: ps, w, F, ⟨F1, F2, e, h1, h2, _⟩, k, hk => by
  rw [e, Yq] at hk
  rcases hk with hk | hk
  ·exact p.lt h1 k hk
  ·exact Aw.lt h2 k hk
theorem Aw.append : ∀ {ps qs : List Ck} {w : World} {F : List Nat}, Aw (ps ++ qs) w F ↔ ∃ F1 F2, F = F1 ++ F2 ∧ Aw ps w F1 ∧ Aw qs w F2 ∧ ∀ k ∈ F1, k ∉ F2
 | [], qs, w, F => by
  constructor
  ·intro h; exact ⟨[], F, rfl, rfl, h, by simp⟩
  ·rintro ⟨F1, F2, e, h1, h2, _⟩
   rw [show F1 = [] from h1, Yu] at e
   subst e
   exact h2
 | p :: ps, qs, w, F => by
  constructor
  ·rintro ⟨F1, F2, e, h1, h2, hd⟩
   obtain ⟨G1, G2, e', h3, h4, hd'⟩ := Aw.append.1 h2
   subst e' e
   exact ⟨F1 ++ G1, G2, by simp, ⟨F1, G1, rfl, h1, h3, fun k hk hk' => hd k hk (by simp [hk'])⟩, h4, fun k hk hk' => by
    rw [Yq] at hk
    rcases hk with hk | hk
    ·exact hd k hk (by simp [hk'])
    ·exact hd' k hk hk'⟩
  ·rintro ⟨F1, F2, e, ⟨G1, G2, e', h1, h2, hd⟩, h3, hd'⟩
   subst e' e
   exact ⟨G1, G2 ++ F2, by simp, h1, Aw.append.2 ⟨G2, F2, rfl, h2, h3, fun k hk => hd' k (by simp [hk])⟩, fun k hk hk' => by
    rw [Yq] at hk'
    rcases hk' with hk' | hk'
    ·exact hd k hk hk'
    ·exact hd' k (by simp [hk]) hk'⟩
theorem Aw.one {p : Ck} {w : World} {F : List Nat} (h : p.P w F) : Aw [p] w F := ⟨F, [], by simp, h, rfl, by simp⟩
theorem Aw.Ij {p : Ck} {w : World} {F : List Nat} (h : Aw [p] w F) : p.P w F := by
 obtain ⟨F1, F2, e, h1, h2, _⟩ := h
 rw [show F2 = [] from h2, Yt] at e
 subst e
 exact h1
theorem Aw.swap {p q : Ck} {ps : List Ck} {w : World} {F : List Nat} (h : Aw (p :: q :: ps) w F) : ∃ F', Aw (q :: p :: ps) w F' ∧ ∀ k, k ∈ F' ↔ k ∈ F := by
 obtain ⟨F1, F2, e, h1, ⟨G1, G2, e', h2, h3, hd'⟩, hd⟩ := h
 subst e' e
 refine ⟨G1 ++ (F1 ++ G2), ⟨G1, F1 ++ G2, rfl, h2, ⟨F1, G2, rfl, h1, h3, fun k hk hk' => hd k hk (by simp [hk'])⟩, fun k hk hk' => ?_⟩, fun k => by simp only [Yq]; exact or_left_comm⟩
 rw [Yq] at hk'
 rcases hk' with hk' | hk'
 ·exact hd k hk' (by simp [hk])
 ·exact hd' k hk hk'
theorem Aw.I0 {p : Ck} {ps qs : List Ck} {w : World} (h : ∀ F, Aw ps w F → ∃ F', Aw qs w F' ∧ ∀ k, k ∈ F' ↔ k ∈ F) {F : List Nat} (hs : Aw (p :: ps) w F) :
  ∃ F', Aw (p :: qs) w F' ∧ ∀ k, k ∈ F' ↔ k ∈ F := by
 obtain ⟨F1, F2, e, h1, h2, hd⟩ := hs
 obtain ⟨F2', h3, h4⟩ := h F2 h2
 subst e
 exact ⟨F1 ++ F2', ⟨F1, F2', rfl, h1, h3, fun k hk hk' => hd k hk ((h4 k).1 hk')⟩, fun k => by simp [h4]⟩
structure SL (w0 : World) (F0 : List Nat) (w : World) (ps : List Ck) : Prop where
 fm : Fm w0 F0 w
 st : ∃ F, Aw ps w F ∧ ∀ k ∈ F, k ∈ F0 ∨ w0.heap.size ≤ k
section
variable {w0 w w' : World} {F0 : List Nat} {p q : Ck} {ps qs rest : List Ck}
theorem SL.init (w : World) (F : List Nat) (h : Aw ps w F) : SL w F w ps := ⟨Fm.refl w F, F, h, fun _ hk => .inl hk⟩
theorem SL.Bf (w : World) : SL w [] w [] := ⟨Fm.refl w [], [], rfl, by simp⟩
theorem SL.re (h : SL w0 F0 w ps) (hp : ∀ F, Aw ps w F → ∃ F', Aw qs w F' ∧ ∀ k, k ∈ F' ↔ k ∈ F) : SL w0 F0 w qs := by
 obtain ⟨F, hs, hF⟩ := h.st
 obtain ⟨F', hs', hi⟩ := hp F hs
 exact ⟨h.fm, F', hs', fun k hk => hF k ((hi k).1 hk)⟩
theorem SL.f1 {a b : Ck} {r : List Ck} (h : SL w0 F0 w (a :: b :: r)) : SL w0 F0 w (b :: a :: r) := h.re fun _ hs => Aw.swap hs
theorem QS {a b c : Ck} {r : List Ck} {F : List Nat} (h : Aw (a :: b :: c :: r) w F) : ∃ F', Aw (c :: a :: b :: r) w F' ∧ ∀ k, k ∈ F' ↔ k ∈ F := by
 obtain ⟨F1, h1, i1⟩ := Aw.I0 (fun _ hs => Aw.swap hs) h
 obtain ⟨F2, h2, i2⟩ := Aw.swap h1
 exact ⟨F2, h2, fun k => (i2 k).trans (i1 k)⟩
theorem SL.f2 {a b c : Ck} {r : List Ck} (h : SL w0 F0 w (a :: b :: c :: r)) : SL w0 F0 w (c :: a :: b :: r) := h.re fun _ hs => QS hs
theorem Ru {a b c d : Ck} {r : List Ck} {F : List Nat} (h : Aw (a :: b :: c :: d :: r) w F) : ∃ F', Aw (d :: a :: b :: c :: r) w F' ∧ ∀ k, k ∈ F' ↔ k ∈ F := by
 obtain ⟨F1, h1, i1⟩ := Aw.I0 (fun _ hs => QS hs) h
 obtain ⟨F2, h2, i2⟩ := Aw.swap h1
 exact ⟨F2, h2, fun k => (i2 k).trans (i1 k)⟩
theorem SL.f3 {a b c d : Ck} {r : List Ck} (h : SL w0 F0 w (a :: b :: c :: d :: r)) : SL w0 F0 w (d :: a :: b :: c :: r) := h.re fun _ hs => Ru hs
theorem Rm {a b c d e : Ck} {r : List Ck} {F : List Nat} (h : Aw (a :: b :: c :: d :: e :: r) w F) : ∃ F', Aw (e :: a :: b :: c :: d :: r) w F' ∧ ∀ k, k ∈ F' ↔ k ∈ F := by
 obtain ⟨F1, h1, i1⟩ := Aw.I0 (fun _ hs => Ru hs) h
 obtain ⟨F2, h2, i2⟩ := Aw.swap h1
 exact ⟨F2, h2, fun k => (i2 k).trans (i1 k)⟩
theorem SL.f4 {a b c d e : Ck} {r : List Ck} (h : SL w0 F0 w (a :: b :: c :: d :: e :: r)) : SL w0 F0 w (e :: a :: b :: c :: d :: r) := h.re fun _ hs => Rm hs
theorem Vp {a b c d e f : Ck} {r : List Ck} {F : List Nat} (h : Aw (a :: b :: c :: d :: e :: f :: r) w F) : ∃ F', Aw (f :: a :: b :: c :: d :: e :: r) w F' ∧ ∀ k, k ∈ F' ↔ k ∈ F := by
 obtain ⟨F1, h1, i1⟩ := Aw.I0 (fun _ hs => Rm hs) h
 obtain ⟨F2, h2, i2⟩ := Aw.swap h1
 exact ⟨F2, h2, fun k => (i2 k).trans (i1 k)⟩
theorem SL.f5 {a b c d e f : Ck} {r : List Ck} (h : SL w0 F0 w (a :: b :: c :: d :: e :: f :: r)) : SL w0 F0 w (f :: a :: b :: c :: d :: e :: r) := h.re fun _ hs => Vp hs
theorem SL.drop (h : SL w0 F0 w (p :: ps)) : SL w0 F0 w ps := by
 obtain ⟨F, ⟨F1, F2, e, h1, h2, hd⟩, hF⟩ := h.st
 exact ⟨h.fm, F2, h2, fun k hk => hF k (by simp [e, hk])⟩
theorem SL.open_ (h : SL w0 F0 w (ps ++ rest)) : ∃ F, Aw ps w F ∧ (∀ k ∈ F, k ∈ F0 ∨ w0.heap.size ≤ k) ∧ (∃ G, Aw rest w G ∧ ∀ k ∈ F, k ∉ G) ∧
  ∀ w' qs, SL w F w' qs → SL w0 F0 w' (qs ++ rest) := by
 obtain ⟨F, hs, hF⟩ := h.st
 obtain ⟨F1, F2, e, h1, h2, hd⟩ := Aw.append.1 hs
 subst e
 refine ⟨F1, h1, fun k hk => hF k (by simp [hk]), ⟨F2, h2, hd⟩, fun w' qs hq => ?_⟩
 obtain ⟨G, hg, hG⟩ := hq.st
 have hlt := Aw.lt h2
 refine ⟨h.fm.trans hq.fm (fun k hk => hF k (by simp [hk])), G ++ F2, Aw.append.2 ⟨G, F2, rfl, hg, Aw.loc h2 (fun k hk => hq.fm.block k (hlt k hk) (fun hin => hd k hin hk)), fun k hk hk' => ?_⟩, fun k hk => ?_⟩
 ·rcases hG k hk with h3 | h3
  ·exact hd k h3 hk'
  ·have := hlt k hk'; omega
 ·rw [Yq] at hk
  rcases hk with hk | hk
  ·rcases hG k hk with h3 | h3
   ·exact hF k (by simp [h3])
   ·right; have := h.fm.size; omega
  ·exact hF k (by simp [hk])
theorem SL.add (h : SL w0 F0 w ps) (hq : SL w [] w' qs) : SL w0 F0 w' (qs ++ ps) := by
 obtain ⟨F, hs, _, _, hk⟩ := SL.open_ (ps := []) (rest := ps) (by simpa using h)
 rw [show F = [] from hs] at hk
 exact hk w' qs hq
theorem SL.drew (h : SL w0 F0 w ps) : SL w0 F0 w.drew ps := by
 have := h.add (w' := w.drew) (qs := []) ⟨Fm.drew w [], [], rfl, by simp⟩
 simpa using this
end
structure Ty (α : Type) where
 sz : Nat
 rd : World → List Nat → α → List Value → Prop
 own : World → List Nat → α → List Value → Prop
 Ev : ∀ {w G x cs}, rd w G x cs → cs.length = sz
 Hk : ∀ {w G x cs}, rd w G x cs → ∀ u ∈ cs, u.oneCell' = true
 Ii : ∀ {w w' G x cs}, rd w G x cs → (∀ k ∈ G, w'.heap[k]? = w.heap[k]?) → rd w' G x cs
 Ei : ∀ {w G G' x cs}, rd w G x cs → (∀ k ∈ G, k ∈ G') → rd w G' x cs
 Gp : ∀ {w w' F x cs}, own w F x cs → (∀ k ∈ F, w'.heap[k]? = w.heap[k]?) → own w' F x cs
 Hl : ∀ {w F x cs}, own w F x cs → ∀ k ∈ F, k < w.heap.size
 Bm : ∀ {w F x cs}, own w F x cs → rd w F x cs
namespace Ty
def scalar {α : Type} (enc : α → Value) (h1 : ∀ x, (enc x).oneCell' = true) : Ty α where
 sz := 1
 rd _ _ x cs := cs = [enc x]
 own _ F x cs := cs = [enc x] ∧ F = []
 Ev h := by rw [h]; rfl
 Hk h u hu := by rw [h] at hu; simp only [Yr] at hu; rw [hu]; exact h1 _
 Ii h _ := h
 Ei h _ := h
 Gp h _ := h
 Hl h k hk := by rw [h.2] at hk; cases hk
 Bm h := h.1
def int (k : IntKind) : Ty Int := scalar (Value.int k) (fun _ => rfl)
def bool : Ty Bool := scalar Value.bool (fun _ => rfl)
def u8 : Ty UInt8 := scalar (fun b => Value.int .u8 (b.toNat : Int)) (fun _ => rfl)
def u32 : Ty UInt32 := scalar (fun b => Value.int .u32 (b.toNat : Int)) (fun _ => rfl)
def u64 : Ty UInt64 := scalar (fun b => Value.int .u64 (b.toNat : Int)) (fun _ => rfl)
def str : Ty (List UInt8) := scalar (fun s => Value.string ⟨⟨s⟩⟩) (fun _ => rfl)
def pair {α β : Type} (A : Ty α) (B : Ty β) : Ty (α × β) where
 sz := A.sz + B.sz
 rd w G x cs := ∃ c d, cs = c ++ d ∧ A.rd w G x.1 c ∧ B.rd w G x.2 d
 own w F x cs := ∃ c d F1 F2, cs = c ++ d ∧ F = F1 ++ F2 ∧ A.own w F1 x.1 c ∧ B.own w F2 x.2 d ∧ ∀ k ∈ F1, k ∉ F2
 Ev := by rintro w G x cs ⟨c, d, rfl, h1, h2⟩; rw [Yo, A.Ev h1, B.Ev h2]
 Hk := by
  rintro w G x cs ⟨c, d, rfl, h1, h2⟩ u hu
  rw [Yq] at hu
  rcases hu with hu | hu
  ·exact A.Hk h1 u hu
  ·exact B.Hk h2 u hu
 Ii := by rintro w w' G x cs ⟨c, d, rfl, h1, h2⟩ hk; exact ⟨c, d, rfl, A.Ii h1 hk, B.Ii h2 hk⟩
 Ei := by rintro w G G' x cs ⟨c, d, rfl, h1, h2⟩ hk; exact ⟨c, d, rfl, A.Ei h1 hk, B.Ei h2 hk⟩
 Gp := by
  rintro w w' F x cs ⟨c, d, F1, F2, rfl, rfl, h1, h2, hd⟩ hk
  exact ⟨c, d, F1, F2, rfl, rfl, A.Gp h1 (fun k h => hk k (by simp [h])), B.Gp h2 (fun k h => hk k (by simp [h])), hd⟩
 Hl := by
  rintro w F x cs ⟨c, d, F1, F2, rfl, rfl, h1, h2, hd⟩ k hk
  rw [Yq] at hk
  rcases hk with hk | hk
  ·exact A.Hl h1 k hk
  ·exact B.Hl h2 k hk
 Bm := by
  rintro w F x cs ⟨c, d, F1, F2, rfl, rfl, h1, h2, hd⟩
  exact ⟨c, d, rfl, A.Ei (A.Bm h1) (fun k h => by simp [h]), B.Ei (B.Bm h2) (fun k h => by simp [h])⟩
def iso {α β : Type} (A : Ty α) (f : β → α) : Ty β where
 sz := A.sz
 rd w G x cs := A.rd w G (f x) cs
 own w F x cs := A.own w F (f x) cs
 Ev := A.Ev
 Hk := A.Hk
 Ii := A.Ii
 Ei := A.Ei
 Gp := A.Gp
 Hl := A.Hl
 Bm := A.Bm
end Ty
def Cells (w : World) (ad : Addr) (cs : List Value) : Prop := ∀ j u, cs[j]? = some u → w.cell? (ad.add j) = some u
def CG {α : Type} (T : Ty α) (w : World) (G : List Nat) (v : Value) (l : List α) : Prop :=
 ∃ A c, v = .slice A l.length c ∧ l.length ≤ c ∧ ∀ i x, l[i]? = some x → ∃ ad cs, A = some ad ∧ ad.block ∈ G ∧ Cells w (ad.add (i * T.sz)) cs ∧ T.rd w G x cs
def Dz {α : Type} (T : Ty α) (w : World) : List Nat → List α → List Value → Prop
 | F, [], cs => cs = [] ∧ F = []
 | F, x :: l, cs => ∃ c d F1 F2, cs = c ++ d ∧ F = F1 ++ F2 ∧ T.own w F1 x c ∧ Dz T w F2 l d ∧ ∀ k ∈ F1, k ∉ F2
def E5 (sz : Nat) (w : World) (F : List Nat) (v : Value) (n : Nat) (xs : List Value) : Prop :=
 xs.length = n * sz ∧ ((v = .slice none 0 0 ∧ n = 0 ∧ F = []) ∨
  ∃ g o cap cur e fz, v = .slice (some ⟨g, o, none⟩) n cap ∧ F = [g] ∧ w.heap[g]? = some (.cells cur e fz) ∧ n ≤ cap ∧ o + cap * sz ≤ cur.size ∧ (∀ j, j < cur.size → ¬ (fz.1 ≤ j ∧ j < fz.2)) ∧
   ∀ j u, xs[j]? = some u → cur[o + j]? = some u)
def slOwn {α : Type} (T : Ty α) (w : World) (F : List Nat) (v : Value) (l : List α) : Prop :=
 ∃ cs F1 F2, F = F1 ++ F2 ∧ E5 T.sz w F1 v l.length cs ∧ Dz T w F2 l cs ∧ ∀ k ∈ F1, k ∉ F2
section
variable {α : Type} {T : Ty α} {w w' : World} {G G' F : List Nat} {v : Value} {l : List α}
theorem Cells.loc {ad : Addr} {cs : List Value} (h : Cells w ad cs) (hk : w'.heap[ad.block]? = w.heap[ad.block]?) : Cells w' ad cs := fun j u hu => by
 rw [Nj (w := w) (by rw [block_add]; exact hk)]
 exact h j u hu
theorem CG.loc (h : CG T w G v l) (hk : ∀ k ∈ G, w'.heap[k]? = w.heap[k]?) : CG T w' G v l := by
 obtain ⟨A, c, hv, hc, hi⟩ := h
 refine ⟨A, c, hv, hc, fun i x hx => ?_⟩
 obtain ⟨ad, cs, h1, h2, h3, h4⟩ := hi i x hx
 exact ⟨ad, cs, h1, h2, h3.loc (by rw [block_add]; exact hk _ h2), T.Ii h4 hk⟩
theorem CG.mono (h : CG T w G v l) (hk : ∀ k ∈ G, k ∈ G') : CG T w G' v l := by
 obtain ⟨A, c, hv, hc, hi⟩ := h
 refine ⟨A, c, hv, hc, fun i x hx => ?_⟩
 obtain ⟨ad, cs, h1, h2, h3, h4⟩ := hi i x hx
 exact ⟨ad, cs, h1, hk _ h2, h3, T.Ei h4 hk⟩
theorem Dz.loc : ∀ {F : List Nat} {l : List α} {cs : List Value}, Dz T w F l cs → (∀ k ∈ F, w'.heap[k]? = w.heap[k]?) → Dz T w' F l cs
 | _, [], _, h, _ => h
 | _, x :: l, _, ⟨c, d, F1, F2, e1, e2, h1, h2, hd⟩, hk => ⟨c, d, F1, F2, e1, e2, T.Gp h1 (fun k h => hk k (by simp [e2, h])), Dz.loc h2 (fun k h => hk k (by simp [e2, h])), hd⟩
theorem Dz.lt : ∀ {F : List Nat} {l : List α} {cs : List Value}, Dz T w F l cs → ∀ k ∈ F, k < w.heap.size
 | _, [], _, h, k, hk => by rw [h.2] at hk; cases hk
 | _, x :: l, _, ⟨c, d, F1, F2, e1, e2, h1, h2, hd⟩, k, hk => by
  rw [e2, Yq] at hk
  rcases hk with hk | hk
  ·exact T.Hl h1 k hk
  ·exact Dz.lt h2 k hk
theorem Dz.len : ∀ {F : List Nat} {l : List α} {cs : List Value}, Dz T w F l cs → cs.length = l.length * T.sz
 | _, [], _, h => by rw [h.1]; simp
 | _, x :: l, _, ⟨c, d, F1, F2, e1, e2, h1, h2, hd⟩ => by
  rw [e1, Yo, T.Ev (T.Bm h1), h2.len, Yv, Nat.add_mul]; omega
theorem Dz.at_ : ∀ {F : List Nat} {l : List α} {cs : List Value}, Dz T w F l cs → ∀ i x, l[i]? = some x → ∃ c F1, T.own w F1 x c ∧ (∀ k ∈ F1, k ∈ F) ∧ ∀ j u, c[j]? = some u → cs[i * T.sz + j]? = some u
 | _, [], _, _, i, x, hx => by simp at hx
 | _, y :: l, _, ⟨c, d, F1, F2, e1, e2, h1, h2, hd⟩, 0, x, hx => by
  simp only [List.getElem?_cons_zero, Option.some.injEq] at hx
  subst hx
  refine ⟨c, F1, h1, fun k hk => by simp [e2, hk], fun j u hu => ?_⟩
  rw [e1, Nat.zero_mul, Nat.zero_add, List.getElem?_append_left (List.getElem?_eq_some_iff.1 hu).1]
  exact hu
 | _, y :: l, _, ⟨c, d, F1, F2, e1, e2, h1, h2, hd⟩, i + 1, x, hx => by
  simp only [List.getElem?_cons_succ] at hx
  obtain ⟨c', F', h3, h4, h5⟩ := Dz.at_ h2 i x hx
  refine ⟨c', F', h3, fun k hk => by simp [e2, h4 k hk], fun j u hu => ?_⟩
  have hl := T.Ev (T.Bm h1)
  rw [e1, List.getElem?_append_right (by rw [hl, Nat.add_mul]; omega), ← h5 j u hu]
  congr 1
  rw [hl, Nat.add_mul]; omega
theorem Dz.append : ∀ {F : List Nat} {l m : List α} {cs : List Value}, (∃ c d F1 F2, cs = c ++ d ∧ F = F1 ++ F2 ∧ Dz T w F1 l c ∧ Dz T w F2 m d ∧ ∀ k ∈ F1, k ∉ F2) → Dz T w F (l ++ m) cs
 | _, [], m, _, ⟨c, d, F1, F2, e1, e2, h1, h2, hd⟩ => by
  obtain ⟨rfl, rfl⟩ := h1
  simp only [Yu] at e1 e2 ⊢
  subst e1 e2
  exact h2
 | _, x :: l, m, _, ⟨c, d, F1, F2, e1, e2, ⟨c1, c2, G1, G2, e3, e4, h3, h4, hd'⟩, h2, hd⟩ => by
  subst e1 e2 e3 e4
  refine ⟨c1, c2 ++ d, G1, G2 ++ F2, by simp, by simp, h3, Dz.append ⟨c2, d, G2, F2, rfl, rfl, h4, h2, fun k hk => hd k (by simp [hk])⟩, fun k hk hk' => ?_⟩
  rw [Yq] at hk'
  rcases hk' with hk' | hk'
  ·exact hd' k hk hk'
  ·exact hd k (by simp [hk]) hk'
theorem Dz.one {x : α} {cs : List Value} (h : T.own w F x cs) : Dz T w F [x] cs := ⟨cs, [], F, [], by simp, by simp, h, ⟨rfl, rfl⟩, by simp⟩
theorem E5.loc {sz n : Nat} {xs : List Value} (h : E5 sz w F v n xs) (hk : ∀ k ∈ F, w'.heap[k]? = w.heap[k]?) : E5 sz w' F v n xs := by
 refine ⟨h.1, ?_⟩
 rcases h.2 with h2 | ⟨g, o, cap, cur, e, fz, h1, h2, h3, h4⟩
 ·exact .inl h2
 ·exact .inr ⟨g, o, cap, cur, e, fz, h1, h2, by rw [hk g (by simp [h2])]; exact h3, h4⟩
theorem E5.lt {sz n : Nat} {xs : List Value} (h : E5 sz w F v n xs) : ∀ k ∈ F, k < w.heap.size := by
 intro k hk
 rcases h.2 with ⟨_, _, h2⟩ | ⟨g, o, cap, cur, e, fz, h1, h2, h3, h4⟩
 ·rw [h2] at hk; cases hk
 ·rw [h2, Yr] at hk; subst hk; exact Mc h3
theorem E5.cells {sz n : Nat} {xs : List Value} (h : E5 sz w F v n xs) : ∃ A c, v = .slice A n c ∧ n ≤ c ∧ ∀ j u, xs[j]? = some u → ∃ ad, A = some ad ∧ ad.block ∈ F ∧ w.cell? (ad.add j) = some u := by
 rcases h.2 with ⟨h1, h2, _⟩ | ⟨g, o, cap, cur, e, fz, h1, h2, h3, h4, h5, h6, h7⟩
 ·subst h2
  have hx : xs = [] := List.eq_nil_of_length_eq_zero (by simpa using h.1)
  subst hx
  exact ⟨none, 0, h1, Nat.le_refl _, fun j u hu => by simp at hu⟩
 ·exact ⟨_, cap, h1, h4, fun j u hu => ⟨_, rfl, by simp [h2], by rw [HL]; simp [World.cell?, h3, h7 j u hu]⟩⟩
theorem slOwn.loc (h : slOwn T w F v l) (hk : ∀ k ∈ F, w'.heap[k]? = w.heap[k]?) : slOwn T w' F v l := by
 obtain ⟨cs, F1, F2, e, h1, h2, hd⟩ := h
 exact ⟨cs, F1, F2, e, h1.loc (fun k h => hk k (by simp [e, h])), h2.loc (fun k h => hk k (by simp [e, h])), hd⟩
theorem slOwn.lt (h : slOwn T w F v l) : ∀ k ∈ F, k < w.heap.size := by
 obtain ⟨cs, F1, F2, e, h1, h2, hd⟩ := h
 intro k hk
 rw [e, Yq] at hk
 rcases hk with hk | hk
 ·exact h1.lt k hk
 ·exact h2.lt k hk
theorem slOwn.rd (h : slOwn T w F v l) : CG T w F v l := by
 obtain ⟨cs, F1, F2, e, h1, h2, hd⟩ := h
 obtain ⟨A, c, hv, hc, hcell⟩ := h1.cells
 refine ⟨A, c, hv, hc, fun i x hx => ?_⟩
 obtain ⟨c', F', h3, h4, h5⟩ := h2.at_ i x hx
 have hl := T.Ev (T.Bm h3)
 have hil : i < l.length := (List.getElem?_eq_some_iff.1 hx).1
 rcases Nat.eq_zero_or_pos T.sz with hz | hz
 ·-- no cells: any address of the row
  rw [hz] at hl
  have : c' = [] := List.eq_nil_of_length_eq_zero hl
  subst this
  rcases h1.2 with ⟨_, h0, _⟩ | ⟨g, o, cap, cur, e', fz, g1, g2, g3, g4, g5, g6, g7⟩
  ·omega
  ·have : A = some ⟨g, o, none⟩ := by rw [g1] at hv; injection hv with hv; exact hv.symm
   exact ⟨_, [], this, by simp [e, g2], fun j u hu => by simp at hu, T.Ei (T.Bm h3) (fun k hk => by simp [e, h4 k hk])⟩
 ·have h0 : 0 < c'.length := by omega
  obtain ⟨ad, had, hb, _⟩ := hcell (i * T.sz + 0) (c'[0]) (h5 0 _ (Yn h0))
  refine ⟨ad, c', had, by simp [e, hb], fun j u hu => ?_, T.Ei (T.Bm h3) (fun k hk => by simp [e, h4 k hk])⟩
  obtain ⟨ad', had', _, hc'⟩ := hcell (i * T.sz + j) u (h5 j u hu)
  rw [had] at had'
  cases had'
  rw [add_add']
  exact hc'
theorem slOwn.nil (w : World) : slOwn T w [] (.slice none 0 0) [] := ⟨[], [], [], rfl, ⟨by simp, .inl ⟨rfl, rfl, rfl⟩⟩, ⟨rfl, rfl⟩, by simp⟩
end
def Ty.slice {α : Type} (T : Ty α) : Ty (List α) where
 sz := 1
 rd w G l cs := ∃ v, cs = [v] ∧ CG T w G v l
 own w F l cs := ∃ v, cs = [v] ∧ slOwn T w F v l
 Ev := by rintro w G l cs ⟨v, rfl, h⟩; rfl
 Hk := by
  rintro w G l cs ⟨v, rfl, A, c, rfl, _⟩ u hu
  rw [Yr] at hu
  rw [hu]
  rfl
 Ii := by rintro w w' G l cs ⟨v, rfl, h⟩ hk; exact ⟨v, rfl, h.loc hk⟩
 Ei := by rintro w G G' l cs ⟨v, rfl, h⟩ hk; exact ⟨v, rfl, h.mono hk⟩
 Gp := by rintro w w' F l cs ⟨v, rfl, h⟩ hk; exact ⟨v, rfl, h.loc hk⟩
 Hl := by rintro w F l cs ⟨v, rfl, h⟩; exact h.lt
 Bm := by rintro w F l cs ⟨v, rfl, h⟩; exact ⟨v, rfl, h.rd⟩
def Sl {α : Type} (T : Ty α) (v : Value) (l : List α) : Ck := ⟨fun w F => slOwn T w F v l, fun h hk => h.loc hk, fun h => h.lt⟩
def Ae (g : Nat) (t : TypeId) (cs : List Value) : Ck := ⟨fun w F => F = [g] ∧ w.heap[g]? = some (.cells cs.toArray t (0, 0)), fun h hk => ⟨h.1, by rw [hk g (by simp [h.1])]; exact h.2⟩,
 fun h k hk => by rw [h.1, Yr] at hk; subst hk; exact Mc h.2⟩
def Dt {α : Type} (T : Ty α) (x : α) (cs : List Value) : Ck := ⟨fun w F => T.own w F x cs, fun h hk => T.Gp h hk, fun h => T.Hl h⟩
def Rd {α : Type} (T : Ty α) (w0 : World) (F0 : List Nat) (v : Value) (l : List α) : Prop := ∃ G, CG T w0 G v l ∧ ∀ k ∈ G, k < w0.heap.size ∧ k ∉ F0
section
variable {α : Type} {T : Ty α} {w0 w w' : World} {F0 F : List Nat} {v : Value} {l : List α} {ps rest : List Ck}
theorem Rd.now (h : Rd T w0 F0 v l) (hs : SL w0 F0 w ps) : ∃ G, CG T w G v l ∧ ∀ k ∈ G, k < w0.heap.size ∧ k ∉ F0 := by
 obtain ⟨G, h1, h2⟩ := h
 exact ⟨G, h1.loc (fun k hk => hs.fm.block k (h2 k hk).1 (h2 k hk).2), h2⟩
theorem Rd.pass (h : Rd T w0 F0 v l) (hs : SL w0 F0 w ps) (hF : ∀ k ∈ F, k ∈ F0 ∨ w0.heap.size ≤ k) : Rd T w F v l := by
 obtain ⟨G, h1, h2⟩ := h.now hs
 refine ⟨G, h1, fun k hk => ⟨Nat.lt_of_lt_of_le (h2 k hk).1 hs.fm.size, fun hin => ?_⟩⟩
 rcases hF k hin with h3 | h3
 ·exact (h2 k hk).2 h3
 ·have := (h2 k hk).1; omega
theorem Rd.Az (h : Rd T w0 F0 v l) (hs : SL w0 F0 w ps) : Rd T w [] v l := h.pass hs (by simp)
theorem Jk : ∀ {ps : List Ck} {p : Ck} {w : World} {F : List Nat}, p ∈ ps → Aw ps w F → ∃ G, p.P w G ∧ ∀ k ∈ G, k ∈ F
 | q :: ps, p, w, F, hm, ⟨F1, F2, e, h1, h2, hd⟩ => by
  rcases List.mem_cons.1 hm with rfl | hm
  ·exact ⟨F1, h1, fun k hk => by simp [e, hk]⟩
  ·obtain ⟨G, h3, h4⟩ := Jk hm h2
   exact ⟨G, h3, fun k hk => by simp [e, h4 k hk]⟩
theorem SL.Bm (hs : SL w0 F0 w ps) (hm : Sl T v l ∈ ps) : ∃ G, CG T w G v l := by
 obtain ⟨F, h1, _⟩ := hs.st
 obtain ⟨G, h3, _⟩ := Jk hm h1
 exact ⟨G, slOwn.rd h3⟩
theorem FO (hm : Sl T v l ∈ rest) (hG : ∃ G, Aw rest w G ∧ ∀ k ∈ F, k ∉ G) : Rd T w F v l := by
 obtain ⟨G, h1, h2⟩ := hG
 obtain ⟨G', h3, h4⟩ := Jk hm h1
 have h5 : slOwn T w G' v l := h3
 exact ⟨G', h5.rd, fun k hk => ⟨h5.lt k hk, fun hin => h2 k hin (h4 k hk)⟩⟩
theorem SL.rd0 (hs : SL w0 F0 w ps) (hm : Sl T v l ∈ ps) : Rd T w [] v l := by
 obtain ⟨F, h1, _⟩ := hs.st
 exact FO hm ⟨F, h1, by simp⟩
end
end Go.Pv
namespace Go.Pv
open Go Go.RowKit
def Dy (P : Program) (t e sz bytes : Nat) (z : Value → Bool) : Bool :=
 match P.underlying t, P.info? e with
 | some (.slice e'), some i => e' == e && i.size == sz && i.bytes == bytes && (match i.zero with | some v => z v | none => false) && !(match P.underlying t with | some (.int _) => true | _ => false)
 | _, _ => false
def Do (P : Program) (t : Nat) : Bool := match P.underlying t with | some (.struct _) | some (.array _ _) => false | some _ => true | none => false
def El (P : Program) (t n : Nat) : Bool := match P.underlying t, P.info? t with | some (.struct _), some i | some (.array _ _), some i => i.size == n | _, _ => false
def FD (P : Program) (s f off sz : Nat) : Bool := match P.underlying s with
 | some (.struct fs) => match fs[f]? with
  | some fd => fd.offset == off && sz != 0 && (match P.info? fd.type with | some i => i.size == sz | none => false)
  | none => false
 | _ => false
theorem FW {P : Program} {t e sz bytes : Nat} {z : Value → Bool} (h : Dy P t e sz bytes z = true) : P.underlying t = some (.slice e) ∧ ∃ i v, P.info? e = some i ∧ i.size = sz ∧ i.bytes = bytes ∧ i.zero = some v ∧ z v = true := by
 unfold Dy at h
 split at h
 ·rename_i e' i h1 h2
  simp only [Yx, Ap] at h
  obtain ⟨⟨⟨⟨rfl, h3⟩, h4⟩, h5⟩, _⟩ := h
  split at h5
  ·rename_i v hv
   exact ⟨h1, i, v, h2, h3, h4, hv, h5⟩
  ·cases h5
 ·cases h
theorem O6 {P : Program} {t : Nat} (h : Do P t = true) (w : World) : (isAgg t).run P w = .ok false w := by
 unfold Do at h
 rcases hu : P.underlying t with _ | u
 ·rw [hu] at h; cases h
 ·rw [hu] at h
  unfold isAgg
  simp only [Sem.run_bind, run_underlying hu, Result.andThen_ok]
  cases u <;> first | rfl | (simp at h)
theorem Ot {P : Program} {t n : Nat} (h : El P t n = true) (w : World) : (isAgg t).run P w = .ok true w ∧ (sizeOf t).run P w = .ok n w := by
 unfold El at h
 split at h
 ·rename_i fs i h1 h2
  exact ⟨by simp [isAgg, run_underlying h1], by simp [sizeOf, typeInfo, h2, Ap.1 h]⟩
 ·rename_i k e i h1 h2
  exact ⟨by simp [isAgg, run_underlying h1], by simp [sizeOf, typeInfo, h2, Ap.1 h]⟩
 ·cases h
theorem Us {P : Program} {s f off sz : Nat} (h : FD P s f off sz = true) : ∃ fs fd i, P.underlying s = some (.struct fs) ∧ fs[f]? = some fd ∧ fd.offset = off ∧ P.info? fd.type = some i ∧ i.size = sz ∧ sz ≠ 0 := by
 unfold FD at h
 split at h
 ·rename_i fs h1
  split at h
  ·rename_i fd h2
   simp only [Yx, Ap, B9] at h
   obtain ⟨⟨h3, h4⟩, h5⟩ := h
   split at h5
   ·rename_i i h6
    exact ⟨fs, fd, i, h1, h2, h3, h6, Ap.1 h5, h4⟩
   ·cases h5
  ·cases h
 ·cases h
section
variable {P : Program} {w : World} {m : List (Nat × Value)} {dd : Option Tmp} {ty : TypeId} {pos : String} {aft : Array Edge} {g : Option (Nat × Bool)} {x y : Operand}
theorem Ao {t e : TypeId} {v : Value} {n : Nat} (hx : ev m x = some v) (ht : P.underlying t = some (.slice e)) (hv : ∃ A c, v = .slice A n c) :
  EX P w m ⟨dd, .call { callee := .builtin .len, args := #[x], argTypes := #[t] }, ty, pos, aft, g⟩ (.int .i64 (n : Int)) w := fun a _ hF => by
 obtain ⟨A, c, rfl⟩ := hv
 simp [execOp, resolve, invoke, builtin, hF.eval hx, Builtin.len_, run_underlying ht, goInt]
theorem GK {t : TypeId} {s : List UInt8} (hx : ev m x = some (.string ⟨⟨s⟩⟩)) (ht : P.underlying t = some .string) :
  EX P w m ⟨dd, .call { callee := .builtin .len, args := #[x], argTypes := #[t] }, ty, pos, aft, g⟩ (.int .i64 (s.length : Int)) w := fun a _ hF => by
 simp [execOp, resolve, invoke, builtin, hF.eval hx, Builtin.len_, run_underlying ht, goInt]
 rfl
theorem Di {s f off sz : Nat} {ad : Addr} (hb : FD P s f off sz = true) (hx : ev m x = some (.pointer (some ad))) :
  EX P w m ⟨dd, .fieldAddr s x f, ty, pos, aft, g⟩ (.pointer (some (ad.add off))) w := fun a _ hF => by
 obtain ⟨fs, fd, i, h1, h2, h3, h4, h5, h6⟩ := Us hb
 subst h3 h5
 simp [execOp, hF.eval hx, Instr.fieldAt, run_underlying h1, h2, Instr.sureAddr, fieldPlace, sizeOf, typeInfo, h4, h6]
theorem PV {s f off sz gb o o' : Nat} (hb : FD P s f off sz = true) (hx : ev m x = some (.pointer (some ⟨gb, o, none⟩))) (ho : o + off = o') :
  EX P w m ⟨dd, .fieldAddr s x f, ty, pos, aft, g⟩ (.pointer (some ⟨gb, o', none⟩)) w := by
 have := Di (w := w) (dd := dd) (ty := ty) (pos := pos) (aft := aft) (g := g) hb hx
 rw [HL, ho] at this
 exact this
theorem PX {s f off sz o o' : Nat} {ad : Addr} (hb : FD P s f off sz = true) (hx : ev m x = some (.pointer (some (ad.add o)))) (ho : o + off = o') :
  EX P w m ⟨dd, .fieldAddr s x f, ty, pos, aft, g⟩ (.pointer (some (ad.add o'))) w := by
 have := Di (w := w) (dd := dd) (ty := ty) (pos := pos) (aft := aft) (g := g) hb hx
 rw [add_add', ho] at this
 exact this
theorem Ar {t : TypeId} {ad : Addr} {u : Value} (hb : Do P t = true) (hx : ev m x = some (.pointer (some ad))) (hc : w.cell? ad = some u) :
  EX P w m ⟨dd, .load t x, ty, pos, aft, g⟩ u w := fun a _ hF => by
 simp [execOp, hF.eval hx, Instr.loadAt, Instr.sureAddr, loadVar, O6 hb, load, Sem.run, hc]
theorem Be {t n : Nat} {ad : Addr} {cs : List Value} (hb : El P t n = true) (hx : ev m x = some (.pointer (some ad))) (hc : Cells w ad cs) (hl : cs.length = n) :
  EX P w m ⟨dd, .load t x, ty, pos, aft, g⟩ (.agg ⟨cs⟩) w := fun a _ hF => by
 subst hl
 have h1 := run_loadCells_list (P := P) w ad cs hc
 simp only [execOp, hF.eval hx]
 simp [Instr.loadAt, Instr.sureAddr, loadVar, Ot hb, h1]
theorem Cells.at_ {ad : Addr} {cs : List Value} (h : Cells w ad cs) {o : Nat} {u : Value} (hu : cs[o]? = some u) : w.cell? (ad.add o) = some u := h o u hu
theorem Cells.sub {ad : Addr} {cs ds : List Value} (h : Cells w ad cs) (o : Nat) (hd : ∀ j u, ds[j]? = some u → cs[o + j]? = some u) : Cells w (ad.add o) ds := fun j u hu => by
 rw [add_add']; exact h _ _ (hd j u hu)
def L8 (P : Program) (t : TypeId) (v : Value) (i : Int) (ad : Addr) : Prop :=
 ∀ (w : World) (m : List (Nat × Value)) (x y : Operand) (k : IntKind) (dd : Option Tmp) (ty : TypeId) (pos : String) (aft : Array Edge) (g : Option (Nat × Bool)), ev m x = some v → ev m y = some (.int k i) →
  EX P w m ⟨dd, .indexAddr t x y, ty, pos, aft, g⟩ (.pointer (some ad)) w
def idx {α : Type} (l : List α) (i : Int) : Option α := if 0 ≤ i then l[i.toNat]? else none
theorem DT {α : Type} {l : List α} {i : Int} {x : α} (h : idx l i = some x) : 0 ≤ i ∧ i < l.length ∧ l[i.toNat]? = some x := by
 unfold idx at h
 split at h
 ·have := (List.getElem?_eq_some_iff.1 h).1
  exact ⟨by omega, by omega, h⟩
 ·cases h
theorem SZ {α : Type} {T : Ty α} {G : List Nat} {v : Value} {l : List α} {t e sz bytes : Nat} {z : Value → Bool} {i : Int} {x : α} (h : CG T w G v l) (hb : Dy P t e sz bytes z = true) (hz : T.sz = sz)
  (hx : idx l i = some x) : ∃ ad cs, L8 P t v i ad ∧ Cells w ad cs ∧ T.rd w G x cs ∧ ad.block ∈ G := by
 obtain ⟨h0, h1, h2⟩ := DT hx
 obtain ⟨A, c, rfl, hc, hi⟩ := h
 obtain ⟨ad, cs, rfl, hG, h3, h4⟩ := hi _ x h2
 obtain ⟨hu, ti, zv, h5, h6, _⟩ := FW hb
 refine ⟨ad.add (i.toNat * T.sz), cs, fun w m x y k dd ty pos aft g hx hy a _ hF => ?_, h3, h4, by rw [block_add]; exact hG⟩
 have e1 : (0 ≤ i ∧ i < (l.length : Int)) := ⟨h0, h1⟩
 simp [execOp, hF.eval hx, hF.eval hy, Instr.indexAt, asIntOf, run_underlying hu, e1, sizeOf, typeInfo, h5, h6, hz]
def FQ {α : Type} (l : List α) (lo hi : Int) : Option (List α) := if 0 ≤ lo ∧ lo ≤ hi ∧ hi ≤ l.length then some ((l.take hi.toNat).drop lo.toNat) else none
theorem Lv {α : Type} {l r : List α} {lo hi : Int} (h : FQ l lo hi = some r) : (0 ≤ lo ∧ lo ≤ hi ∧ hi ≤ l.length) ∧ r = (l.take hi.toNat).drop lo.toNat := by
 unfold FQ at h
 split at h
 ·rename_i h1; cases h; exact ⟨h1, rfl⟩
 ·cases h
def US (P : Program) (t : TypeId) (v : Value) (lo hi : Option Int) (v' : Value) : Prop :=
 ∀ (w : World) (m : List (Nat × Value)) (x : Operand) (l h : Option Operand) (k k' : IntKind) (dd : Option Tmp) (ty : TypeId) (pos : String) (aft : Array Edge) (g : Option (Nat × Bool)), ev m x = some v →
  (match l, lo with | none, none => True | some y, some p => ev m y = some (.int k p) | _, _ => False) → (match h, hi with | none, none => True | some y, some p => ev m y = some (.int k' p) | _, _ => False) →
  EX P w m ⟨dd, .slice t x l h none, ty, pos, aft, g⟩ v' w
theorem Oq {t e : TypeId} {ti : TypeInfo} {A : Option Addr} {n c : Nat} {lo hi : Int} {l h : Option Value} (ht : P.underlying t = some (.slice e)) (hi' : P.info? e = some ti) (h0 : 0 ≤ lo) (h1 : lo ≤ hi) (h2 : hi ≤ n) (h3 : n ≤ c)
  (hl : (l = none ∧ lo = 0) ∨ ∃ k, l = some (.int k lo)) (hh : (h = none ∧ hi = n) ∨ ∃ k, h = some (.int k hi)) :
  (Instr.sliceAt t (.slice A n c) l h none).run P w = .ok (.slice (if c = lo.toNat then A else A.map (·.add (lo.toNat * ti.size))) (hi.toNat - lo.toNat) (c - lo.toNat)) w := by
 have e1 : (0 ≤ hi ∧ hi ≤ (c : Int)) := by omega
 have e2 : (0 ≤ lo ∧ lo ≤ hi) := by omega
 have e3 : ((hi.toNat : Nat) : Int) = hi := by omega
 have e4 : (0 ≤ lo ∧ lo ≤ ((hi.toNat : Nat) : Int)) := by omega
 have e5 : ¬ (max hi 0 < lo) := by omega
 rcases hl with ⟨rfl, rfl⟩ | ⟨k, rfl⟩ <;> rcases hh with ⟨rfl, rfl⟩ | ⟨k', rfl⟩ <;>
  simp [Instr.sliceAt, Instr.slice, run_underlying ht, Instr.sliceBounds, Instr.sliceBound, asIntOf, sizeOf, typeInfo, hi', e1, e2, e4, e5, h0, h1, h2]
theorem Qb {α : Type} {T : Ty α} {G : List Nat} {v : Value} {l r : List α} {t e sz bytes : Nat} {z : Value → Bool} {lo hi : Int} (h : CG T w G v l) (hb : Dy P t e sz bytes z = true) (hz : T.sz = sz) (hr : FQ l lo hi = some r)
  (lo' hi' : Option Int) (hlo : lo' = some lo ∨ (lo' = none ∧ lo = 0)) (hhi : hi' = some hi ∨ (hi' = none ∧ hi = l.length)) :
  ∃ v', US P t v lo' hi' v' ∧ ∀ w1 G1, CG T w1 G1 v l → CG T w1 G1 v' r := by
 obtain ⟨⟨h0, h1, h2⟩, rfl⟩ := Lv hr
 obtain ⟨A, c, rfl, hc, _⟩ := h
 obtain ⟨hu, ti, zv, h5, h6, _⟩ := FW hb
 refine ⟨.slice (if c = lo.toNat then A else A.map (·.add (lo.toNat * ti.size))) (hi.toNat - lo.toNat) (c - lo.toNat), fun w m x l' h' k k' dd ty pos aft g hx hl' hh' a _ hF => ?_, fun w1 G1 h => ?_⟩
 ·have hL : (l'.map a.eval = none ∧ lo = 0) ∨ ∃ k, l'.map a.eval = some (.int k lo) := by
   rcases hlo with rfl | ⟨rfl, rfl⟩
   ·cases l' with
    | none => exact hl'.elim
    | some y => exact .inr ⟨k, by rw [Yl, hF.eval hl']⟩
   ·cases l' with
    | none => exact .inl ⟨rfl, rfl⟩
    | some y => exact hl'.elim
  have hH : (h'.map a.eval = none ∧ hi = l.length) ∨ ∃ k, h'.map a.eval = some (.int k hi) := by
   rcases hhi with rfl | ⟨rfl, rfl⟩
   ·cases h' with
    | none => exact hh'.elim
    | some y => exact .inr ⟨k', by rw [Yl, hF.eval hh']⟩
   ·cases h' with
    | none => exact .inl ⟨rfl, rfl⟩
    | some y => exact hh'.elim
  have := Oq (P := P) (w := w) (A := A) (c := c) hu h5 h0 h1 h2 hc hL hH
  simp only [execOp, hF.eval hx, Option.map_none]
  simp [this]
 ·obtain ⟨A', c', hv, hc', hcell⟩ := h
  injection hv with hA hn Ki
  subst hA Ki
  refine ⟨_, _, by congr 1; simp; omega, by simp; omega, fun i x hx => ?_⟩
  rw [List.getElem?_drop, List.getElem?_take] at hx
  split at hx
  ·rename_i hlt
   obtain ⟨ad, cs, rfl, hG, h3, h4⟩ := hcell _ x hx
   have hil := (List.getElem?_eq_some_iff.1 hx).1
   rw [Ac (by omega)]
   refine ⟨_, cs, rfl, by rw [block_add]; exact hG, ?_, h4⟩
   rw [add_add', h6, ← hz, ← Nat.add_mul]
   exact h3
  ·cases hx
end
end Go.Pv
namespace Go.Pv
open Go Go.RowKit
section
variable {P : Program}
theorem Fq (g o : Nat) (t : TypeId) (fz : Nat × Nat) : ∀ (vs : List Value) (i : Nat) (cur : Array Value) (w : World), w.heap[g]? = some (.cells cur t fz) → (∀ j, j < cur.size → ¬ (fz.1 ≤ j ∧ j < fz.2)) → o + i + vs.length ≤ cur.size → (∀ v ∈ vs, v.oneCell' = true) →
  (storeCells ⟨g, o, none⟩ vs i).run P w = .ok () (w.setRow g (cur.toList.take (o + i) ++ vs ++ cur.toList.drop (o + i + vs.length)).toArray)
 | [], i, cur, w, hg, _, _, _ => by
  simp only [storeCells, Yt, List.length_nil, Nat.add_zero, List.take_append_drop, Array.toArray_toList]
  rw [setRow_self w g cur t fz hg]
  rfl
 | v :: rest, i, cur, w, hg, hz, hl, h1 => by
  have hi : o + i < cur.size := by simp at hl; omega
  have Ie : (⟨g, o, none⟩ : Addr).add i = ⟨g, o + i, none⟩ := HL g o i
  have hcell : w.cell? ⟨g, o + i, none⟩ = some cur[o + i] := by simp [World.cell?, hg, hi]
  have hfro : w.frozen? ⟨g, o + i, none⟩ = false := by
   have := hz _ hi
   simp [World.frozen?, hg]
   omega
  have hst : (store ((⟨g, o, none⟩ : Addr).add i) v).run P w = .ok () (w.setRow g (cur.setIfInBounds (o + i) v)) := by
   rw [Ie, run_store P w _ v _ (h1 v (by simp)), hcell]
   simp [hfro, setCell_eq_setRow w g (o + i) cur t fz v hg]
  have ih := Fq g o t fz rest (i + 1) (cur.setIfInBounds (o + i) v) (w.setRow g (cur.setIfInBounds (o + i) v)) (setRow_heap w g cur _ t _ hg) (by simpa using hz) (by simp at hl ⊢; omega) (fun x hx => h1 x (by simp [hx]))
  simp only [storeCells, Sem.run_bind, hst, Result.andThen_ok, ih, setRow_setRow]
  congr 3
  have e := list_seg_step cur.toList (o + i) v rest (by simp at hl ⊢; omega)
  simpa [Array.toList_setIfInBounds, Nat.add_assoc] using e
def JV (w : World) (A : Option Addr) (xs : List Value) : Prop := ∀ j u, xs[j]? = some u → ∃ ad, A = some ad ∧ w.cell? (ad.add j) = some u
theorem JV.none_ {w : World} {xs : List Value} (h : JV w none xs) : xs = [] := by
 cases xs with
 | nil => rfl
 | cons x l => obtain ⟨ad, h1, _⟩ := h 0 x rfl; cases h1
theorem JV.some_ {w : World} {ad : Addr} {xs : List Value} (h : JV w (some ad) xs) : ∀ j u, xs[j]? = some u → w.cell? (ad.add j) = some u := fun j u hu => by
 obtain ⟨ad', h1, h2⟩ := h j u hu
 cases h1
 exact h2
theorem Qy {l news : List Value} {o n : Nat} {xs : List Value} (hx : xs.length = n) (h : ∀ j u, xs[j]? = some u → l[o + j]? = some u) (hfit : o + n + news.length ≤ l.length) :
  ∀ j u, (xs ++ news)[j]? = some u → (l.take (o + n) ++ news ++ l.drop (o + n + news.length))[o + j]? = some u := by
 intro j u hu
 rw [Yw]
 by_cases hj : j < n
 ·rw [List.getElem?_append_left (by omega)] at hu
  rw [List.getElem?_append_left (by simp; omega), List.getElem?_take, Ab (by omega)]
  exact h j u hu
 ·rw [List.getElem?_append_right (by omega), hx] at hu
  have hlt := (List.getElem?_eq_some_iff.1 hu).1
  rw [List.getElem?_append_right (by simp; omega), List.getElem?_append_left (by simp; omega)]
  rw [← hu]
  congr 1
  simp
  omega
theorem Ka {w : World} {t e sz bytes ty : Nat} {z : Value → Bool} (hb : Dy P t e sz bytes z = true) (hz : ∀ v, z v = true → v.cells.size = sz) (hsz : 0 < sz)
  {F : List Nat} {v : Value} {n : Nat} {xs : List Value} (h : E5 sz w F v n xs) {A : Option Addr} {m c : Nat} {news : List Value} (hl : news.length = m * sz) (hnews : JV w A news) (h1 : ∀ u ∈ news, u.oneCell' = true)
  (hbytes : (n + m) * bytes ≤ 140737488355328) (h63 : n + m ≤ 9223372036854775807) :
  ∃ v' w' F', (Builtin.append_ #[t, t] ty #[v, .slice A m c]).run P w = .ok v' w' ∧ E5 sz w' F' v' (n + m) (xs ++ news) ∧ Fm w F w' ∧ (∀ k ∈ F', k ∈ F ∨ w.heap.size ≤ k) := by
 obtain ⟨ht, i, zv, hi, h2, h3, h4, h5⟩ := FW hb
 have hzs := hz _ h5
 subst h2 h3
 have BU : (xs ++ news).length = (n + m) * i.size := by rw [Yo, h.1, hl, Nat.add_mul]
 -- what the growing arm leaves, whatever was there before
 have grown : ∀ (old : Nat), old < n + m → ∀ F : List Nat,
   E5 i.size (w.drew.alloc (.cells (xs.toArray ++ news.toArray ++ Builtin.zeroCells zv.cells (grownCap w (n + m) old e - (n + m))) e)) [w.heap.size]
    (.slice (some ⟨w.heap.size, 0, none⟩) (n + m) (grownCap w (n + m) old e)) (n + m) (xs ++ news) ∧
   Fm w F (w.drew.alloc (.cells (xs.toArray ++ news.toArray ++ Builtin.zeroCells zv.cells (grownCap w (n + m) old e - (n + m))) e)) := by
  intro old ho F
  have hge := grownCap_ge w (n + m) old e
  refine ⟨⟨BU, .inr ⟨w.heap.size, 0, _, _, e, (0, 0), rfl, rfl, heap_alloc_new w.drew _, hge, ?_, by simp, ?_⟩⟩, (Fm.drew w F).trans (Fm.alloc _ F _) (fun k hk => .inl hk)⟩
  ·simp only [Array.size_append, List.size_toArray, size_zeroCells, hzs, h.1, hl, ← Nat.add_mul, Nat.zero_add]
   exact Nat.mul_le_mul_right _ (by omega)
  ·intro j u hu
   have hj := (List.getElem?_eq_some_iff.1 hu).1
   rw [Nat.zero_add, Array.getElem?_append_left (by simpa using hj)]
   simpa using hu
 by_cases hm : m = 0
 ·subst hm
  have hn : news = [] := List.eq_nil_of_length_eq_zero (by simpa using hl)
  subst hn
  have hf : (Builtin.firstCells i.size 0 (.slice A 0 c)).run P w = .ok #[] w := by
   cases A <;> simp [Builtin.firstCells, loadCells, loadCellsFrom]
  have hcap : ∃ A' cap, v = .slice A' n cap ∧ n ≤ cap := by
   rcases h.2 with ⟨rfl, rfl, rfl⟩ | ⟨g, o, cap, cur, e', fz, rfl, rfl, hg, hnc, _⟩
   ·exact ⟨_, _, rfl, Nat.le_refl _⟩
   ·exact ⟨_, _, rfl, hnc⟩
  obtain ⟨A', cap, rfl, hnc⟩ := hcap
  refine ⟨.slice A' n cap, w, F, ?_, by simpa using h, Fm.refl w F, fun k hk => .inl hk⟩
  cases A' <;> simp [Builtin.append_, run_underlying ht, sizeOf, typeInfo, hi, Builtin.lenOf, hf, hnc, storeCells]
 ·have hA : ∃ ad, A = some ad := by
   cases A with
   | some ad => exact ⟨ad, rfl⟩
   | none =>
    have hn := hnews.none_
    rw [hn] at hl
    have : 0 < m * i.size := Nat.mul_pos (by omega) hsz
    simp at hl
    omega
  obtain ⟨a, rfl⟩ := hA
  have hnews := hnews.some_
  rcases h.2 with ⟨rfl, rfl, rfl⟩ | ⟨g, o, cap, cur, e', fz, rfl, rfl, hg, hnc, hoc, hfz, htake⟩
  ·have hx : xs = [] := List.eq_nil_of_length_eq_zero (by simpa using h.1)
   subst hx
   have hr := run_append_nil (P := P) w t ty e i zv ht hi h4 a m c news hl hnews (by omega) (by omega) (by simp only [Nat.zero_add] at hbytes; omega)
   have hgr := grown 0 (by omega) []
   simp only [Nat.zero_add, Yu, Array.empty_append] at hgr ⊢
   exact ⟨_, _, _, hr, hgr.1, hgr.2, by simp⟩
  ·by_cases hroom : n + m ≤ cap
   ·have hfit : o + n * i.size + news.length ≤ cur.size := by
     have := Nat.mul_le_mul_right i.size hroom
     rw [Nat.add_mul, ← hl] at this
     omega
    have hst := Fq (P := P) g (o + n * i.size) e' fz news 0 cur w hg hfz (by simpa using hfit) h1
    simp only [Nat.add_zero] at hst
    have hf := run_firstCells_some (P := P) w i.size m a m c news hl hnews
    have hr : (Builtin.append_ #[t, t] ty #[Value.slice (some ⟨g, o, none⟩) n cap, .slice (some a) m c]).run P w =
      .ok (.slice (some ⟨g, o, none⟩) (n + m) cap) (w.setRow g (cur.toList.take (o + n * i.size) ++ news ++ cur.toList.drop (o + n * i.size + news.length)).toArray) := by
     simp [Builtin.append_, run_underlying ht, sizeOf, typeInfo, hi, Builtin.lenOf, hroom, hf, HL, hst]
    refine ⟨_, _, [g], hr, ⟨BU, .inr ⟨g, o, cap, _, e', fz, rfl, rfl, setRow_heap w g cur _ e' _ hg, hroom, ?_, ?_, ?_⟩⟩,
     Fm.one rfl rfl rfl (by simp) (fun k hk => setRow_other w g k _ hk), fun k hk => .inl hk⟩
    ·simp only [List.size_toArray, Yo, Yp, List.length_drop, Array.length_toList]
     omega
    ·intro j hj
     apply hfz
     simp only [List.size_toArray, Yo, Yp, List.length_drop, Array.length_toList] at hj
     omega
    ·intro j u hu
     have := Qy (l := cur.toList) (o := o) h.1 (fun j u hu => by rw [Array.getElem?_toList]; exact htake j u hu) (by simpa using hfit) j u hu
     simpa using this
   ·have holds : ∀ j u, xs[j]? = some u → w.cell? ((⟨g, o, none⟩ : Addr).add j) = some u := fun j u hu => by rw [HL]; simp [World.cell?, hg, htake j u hu]
    have hr := run_append_grow (P := P) w t ty e i zv ht hi h4 ⟨g, o, none⟩ n cap xs h.1 holds a m c news hl hnews (by omega) (by omega) (growslice_fits (by omega) hbytes)
    have hgr := grown cap (by omega) [g]
    exact ⟨_, _, _, hr, hgr.1, hgr.2, fun k hk => .inr (by simp at hk; omega)⟩
end
structure Flat {α : Type} (T : Ty α) (enc : α → List Value) : Prop where
 rd : ∀ {w G x cs}, T.rd w G x cs ↔ cs = enc x
 own : ∀ {w F x cs}, T.own w F x cs ↔ cs = enc x ∧ F = []
theorem Flat.scalar {α : Type} (enc : α → Value) (h1 : ∀ x, (enc x).oneCell' = true) : Flat (Ty.scalar enc h1) (fun x => [enc x]) := ⟨Iff.rfl, Iff.rfl⟩
theorem Flat.iso {α β : Type} {A : Ty α} {enc : α → List Value} (h : Flat A enc) (f : β → α) : Flat (A.iso f) (fun x => enc (f x)) := ⟨h.rd, h.own⟩
theorem Flat.pair {α β : Type} {A : Ty α} {B : Ty β} {ea : α → List Value} {eb : β → List Value} (h : Flat A ea) (h' : Flat B eb) : Flat (A.pair B) (fun x => ea x.1 ++ eb x.2) := by
 refine ⟨?_, ?_⟩
 ·intro w G x cs
  constructor
  ·rintro ⟨c, d, rfl, h1, h2⟩; rw [h.rd.1 h1, h'.rd.1 h2]
  ·rintro rfl; exact ⟨_, _, rfl, h.rd.2 rfl, h'.rd.2 rfl⟩
 ·intro w F x cs
  constructor
  ·rintro ⟨c, d, F1, F2, rfl, rfl, h1, h2, hd⟩
   obtain ⟨rfl, rfl⟩ := h.own.1 h1
   obtain ⟨rfl, rfl⟩ := h'.own.1 h2
   exact ⟨rfl, rfl⟩
  ·rintro ⟨rfl, rfl⟩; exact ⟨_, _, [], [], rfl, rfl, h.own.2 ⟨rfl, rfl⟩, h'.own.2 ⟨rfl, rfl⟩, by simp⟩
theorem Flat.int (k : IntKind) : Flat (Ty.int k) (fun x => [.int k x]) := Flat.scalar _ _
theorem Flat.u8 : Flat Ty.u8 (fun x => [.int .u8 (x.toNat : Int)]) := Flat.scalar _ _
theorem Flat.bool : Flat Ty.bool (fun x => [.bool x]) := Flat.scalar _ _
theorem Flat.str : Flat Ty.str (fun x => [.string ⟨⟨x⟩⟩]) := Flat.scalar _ _
section
variable {α : Type} {T : Ty α} {enc : α → List Value}
theorem Flat.len (h : Flat T enc) (x : α) : (enc x).length = T.sz := T.Ev (w := default) (G := []) (h.rd.2 rfl)
theorem Flat.one (h : Flat T enc) (x : α) : ∀ u ∈ enc x, u.oneCell' = true := T.Hk (w := default) (G := []) (h.rd.2 rfl)
theorem Flat.els (h : Flat T enc) {w : World} : ∀ {l : List α} {F : List Nat} {cs : List Value}, Dz T w F l cs ↔ cs = l.flatMap enc ∧ F = []
 | [], F, cs => by simp [Dz]
 | x :: l, F, cs => by
  constructor
  ·rintro ⟨c, d, F1, F2, rfl, rfl, h1, h2, hd⟩
   obtain ⟨rfl, rfl⟩ := h.own.1 h1
   obtain ⟨rfl, rfl⟩ := h.els.1 h2
   exact ⟨by simp, rfl⟩
  ·rintro ⟨rfl, rfl⟩
   exact ⟨enc x, l.flatMap enc, [], [], by simp, rfl, h.own.2 ⟨rfl, rfl⟩, h.els.2 ⟨rfl, rfl⟩, by simp⟩
theorem Flat.slOwn (h : Flat T enc) {w : World} {F : List Nat} {v : Value} {l : List α} : slOwn T w F v l ↔ E5 T.sz w F v l.length (l.flatMap enc) := by
 constructor
 ·rintro ⟨cs, F1, F2, rfl, h1, h2, hd⟩
  obtain ⟨rfl, rfl⟩ := h.els.1 h2
  simpa using h1
 ·intro h1
  exact ⟨_, F, [], by simp, h1, h.els.2 ⟨rfl, rfl⟩, by simp⟩
theorem GH (h : Flat T enc) (l : List α) : (l.flatMap enc).length = l.length * T.sz := by
 have := (h.els (w := default) (l := l) (F := [])).2 ⟨rfl, rfl⟩
 exact this.len
theorem PH (h : Flat T enc) (l : List α) : ∀ u ∈ l.flatMap enc, u.oneCell' = true := by
 intro u hu
 rw [List.mem_flatMap] at hu
 obtain ⟨x, _, hx⟩ := hu
 exact h.one x u hx
theorem QY (h : Flat T enc) (l : List α) {j : Nat} {u : Value} (hu : (l.flatMap enc)[j]? = some u) (hsz : 0 < T.sz) : ∃ x, l[j / T.sz]? = some x ∧ (enc x)[j % T.sz]? = some u := by
 have hE := (h.els (w := default) (l := l) (F := [])).2 ⟨rfl, rfl⟩
 have hj := (List.getElem?_eq_some_iff.1 hu).1
 rw [GH h] at hj
 have hq : j / T.sz < l.length := Nat.div_lt_of_lt_mul (by rw [Nat.mul_comm]; exact hj)
 have hx := Yn hq
 obtain ⟨c, F1, h1, _, h3⟩ := hE.at_ _ _ hx
 obtain ⟨rfl, _⟩ := h.own.1 h1
 refine ⟨_, hx, ?_⟩
 have hm : j % T.sz < (enc (l[j / T.sz])).length := by rw [h.len]; exact Nat.mod_lt _ hsz
 have h4 := h3 (j % T.sz) _ (Yn hm)
 rw [show j / T.sz * T.sz + j % T.sz = j from by rw [Nat.mul_comm]; exact Nat.div_add_mod j T.sz] at h4
 rw [hu] at h4
 rw [Yn hm, ← h4]
theorem CG.cells (h : Flat T enc) (hsz : 0 < T.sz) {w : World} {G : List Nat} {v : Value} {l : List α} (hr : CG T w G v l) : ∃ A c, v = .slice A l.length c ∧ JV w A (l.flatMap enc) := by
 obtain ⟨A, c, hv, hc, hi⟩ := hr
 refine ⟨A, c, hv, fun j u hu => ?_⟩
 obtain ⟨x, hx, hxu⟩ := QY h l hu hsz
 obtain ⟨ad, cs, rfl, _, h3, h4⟩ := hi _ x hx
 rw [h.rd.1 h4] at h3
 refine ⟨ad, rfl, ?_⟩
 have := h3 _ _ hxu
 rw [add_add', show j / T.sz * T.sz + j % T.sz = j from by rw [Nat.mul_comm]; exact Nat.div_add_mod j T.sz] at this
 exact this
end
section
variable {P : Program} {w0 w : World} {F0 : List Nat} {ps rest : List Ck} {m : List (Nat × Value)} {n d : Nat} {ty : TypeId} {pos : String} {aft : Array Edge} {x y : Operand} {ops : Array Oper} {Q : Exit → Act → World → Prop} {a : Act} {l' : List Oper}
theorem SL.TL (hs : SL w0 F0 w ps) (cs : List Value) (t : TypeId) : SL w0 F0 (w.alloc (.cells ⟨cs⟩ t)) (Ae w.heap.size t cs :: ps) :=
 hs.add (qs := [Ae w.heap.size t cs]) ⟨Fm.alloc w [] _, [w.heap.size], Aw.one (p := Ae w.heap.size t cs) ⟨rfl, heap_alloc_new w _⟩, fun k hk => .inr (by simp at hk; omega)⟩
theorem Bz {t : TypeId} {v : Value} {cs : List Value} (hF : Fr a n m) (hs : SL w0 F0 w ps) (hx : ev m x = some v) (hc : v.cells = ⟨cs⟩) (hlt : Nat.blt d n = true)
  (k : ∀ g w a, Fr a n ((d, .pointer (some ⟨g, 0, none⟩)) :: m) → SL w0 F0 w (Ae g t cs :: ps) → wpList P ops Q l' a w) : wpList P ops Q (⟨some d, .box t x, ty, pos, aft, none⟩ :: l') a w := by
 refine EQ hF (v := .pointer (some ⟨w.heap.size, 0, none⟩)) (w' := w.alloc (.cells ⟨cs⟩ t)) (fun a n hF => ?_) rfl rfl hlt fun a hF => ?_
 ·simp [execOp, hF.eval hx, Instr.box, newVar, newRow, hc, newObj, Sem.run]
 ·exact k _ _ a hF (hs.TL cs t)
theorem An {t : TypeId} {v : Value} {cs : List Value} (hF : Fr a n m) (hs : SL w0 F0 w ps) (hz : (P.info? t).bind (·.zero) = some v) (hc : v.cells = ⟨cs⟩) (hlt : Nat.blt d n = true)
  (k : ∀ g w a, Fr a n ((d, .pointer (some ⟨g, 0, none⟩)) :: m) → SL w0 F0 w (Ae g t cs :: ps) → wpList P ops Q l' a w) : wpList P ops Q (⟨some d, .alloc t, ty, pos, aft, none⟩ :: l') a w := by
 obtain ⟨i, hi, hz⟩ := Option.bind_eq_some_iff.1 hz
 refine EQ hF (v := .pointer (some ⟨w.heap.size, 0, none⟩)) (w' := w.alloc (.cells ⟨cs⟩ t)) (fun a n hF => ?_) rfl rfl hlt fun a hF => ?_
 ·simp [execOp, Instr.alloc, zeroValue, typeInfo, hi, hz, newVar, newRow, hc, newObj, Sem.run]
 ·exact k _ _ a hF (hs.TL cs t)
theorem SL.Aq {g : Nat} {t : TypeId} {cs : List Value} (hs : SL w0 F0 w ps) (hm : Ae g t cs ∈ ps) {o : Nat} {u : Value} (hu : cs[o]? = some u) : w.cell? ⟨g, o, none⟩ = some u := by
 obtain ⟨F, h1, _⟩ := hs.st
 obtain ⟨G, ⟨_, h3⟩, _⟩ := Jk hm h1
 simp [World.cell?, h3, hu]
theorem SL.E0 {g : Nat} {t : TypeId} {cs : List Value} (hs : SL w0 F0 w ps) (hm : Ae g t cs ∈ ps) {o : Nat} {ds : List Value} (hd : ∀ j u, ds[j]? = some u → cs[o + j]? = some u) : Cells w ⟨g, o, none⟩ ds := fun j u hu => by
 rw [HL]
 exact hs.Aq hm (hd j u hu)
theorem OB {t : TypeId} {ad : Addr} {v u : Value} {i : TypeInfo} (hi : P.info? t = some i) (hsz : i.size = 1) (hv : v.cells = #[v]) (h1 : v.oneCell' = true) (hc : w.cell? ad = some u) (hf : w.frozen? ad = false) :
  (storeVar t ad v).run P w = .ok () (w.setCell ad v) := by
 have hst : (store ad v).run P w = .ok () (w.setCell ad v) := by
  rw [run_store P w _ v _ h1, hc]
  simp [hf]
 simp [storeVar, sizeOf, typeInfo, hi, hsz, hv, storeCells]
 rw [show ad.add 0 = ad from rfl, hst]
theorem AZ {g t t' o : Nat} {cs : List Value} {v u : Value} (hF : Fr a n m) (hs : SL w0 F0 w (Ae g t cs :: ps)) (hx : ev m x = some (.pointer (some ⟨g, o, none⟩))) (hy : ev m y = some v)
  (hi : (P.info? t').map (·.size) = some 1) (hv : v.cells = #[v]) (h1 : v.oneCell' = true) (hu : cs[o]? = some u)
  (k : ∀ w a, Fr a n m → SL w0 F0 w (Ae g t (cs.set o v) :: ps) → wpList P ops Q l' a w) : wpList P ops Q (⟨none, .store t' x y, ty, pos, aft, none⟩ :: l') a w := by
 obtain ⟨i, hi, hsz⟩ := Option.map_eq_some_iff.1 hi
 obtain ⟨F, hst, hF0, _, hcl⟩ := SL.open_ (ps := [Ae g t cs]) hs
 obtain ⟨rfl, hg⟩ := Aw.Ij hst
 have hc := hs.Aq (List.mem_cons_self) hu
 have hf : w.frozen? ⟨g, o, none⟩ = false := by simp [World.frozen?, hg]
 have hr := OB (P := P) hi hsz hv h1 hc hf
 refine Lh hF (w' := w.setCell ⟨g, o, none⟩ v) (fun a n hF => ?_) rfl rfl fun a hF => k _ a hF (hcl _ [_] ⟨Fm.one rfl rfl rfl (by simp [World.setCell]) (fun k hk => Below.heap_setCell w _ v k hk), [g], Aw.one ⟨rfl, ?_⟩, fun k hk => .inl hk⟩)
 ·simp [execOp, hF.eval hx, hF.eval hy, Instr.storeAt, Instr.sureAddr, hr]
 ·simp [World.setCell, Array.getElem?_modify, hg, List.set_toArray]
theorem P7 : ∀ (l : List Value) (k o : Nat) (cells : List Value), o + k + l.length ≤ cells.length →
  (l.zipIdx k).foldl (fun (cs : Array Value) (p : Value × Nat) => cs.setIfInBounds (o + p.2) p.1) cells.toArray = (cells.take (o + k) ++ l ++ cells.drop (o + k + l.length)).toArray
 | [], k, o, cells, h => by simp
 | v :: r, k, o, cells, h => by
  simp only [List.zipIdx_cons, List.foldl_cons, List.setIfInBounds_toArray]
  rw [P7 r (k + 1) o (cells.set (o + k) v) (by simp at h ⊢; omega)]
  have e := list_seg_step cells (o + k) v r (by simp at h; omega)
  simp only [Yv]
  rw [← e]
  simp [Nat.add_assoc]
theorem Pw {sz : Nat} : ∀ (vs : List Value) (i : Nat) (cells : List Value), (∀ v ∈ vs, v.cells.size = sz) → (i + vs.length) * sz = cells.length →
  Instr.fill (fun i => some (i * sz, sz)) cells.toArray ((vs.zipIdx i).map fun p => (p.2, p.1)) = some (cells.take (i * sz) ++ vs.flatMap (fun v => v.cells.toList)).toArray
 | [], i, cells, _, hl => by
  simp only [List.length_nil, Nat.add_zero] at hl
  simp [Instr.fill, hl]
 | v :: r, i, cells, h, hl => by
  have hv := h v (by simp)
  have hfit : (i + 1) * sz ≤ cells.length := by
   rw [← hl, Yv]
   exact Nat.mul_le_mul_right _ (by omega)
  rw [Nat.succ_mul] at hfit
  have h1 : ¬ (v.cells.size ≠ sz) := by simpa using hv
  have h2 : ¬ (cells.length < i * sz + sz) := by omega
  have hfold := P7 v.cells.toList 0 (i * sz) cells (by simp [hv]; omega)
  have hsz : v.cells.toList.length = sz := by simpa using hv
  simp only [Nat.add_zero, hsz] at hfold
  have hconv : v.cells.zipIdx.foldl (fun (cs : Array Value) (p : Value × Nat) => cs.setIfInBounds (i * sz + p.2) p.1) cells.toArray = (cells.take (i * sz) ++ v.cells.toList ++ cells.drop (i * sz + sz)).toArray := by
   rw [← hfold, ← Array.foldl_toList, Array.toList_zipIdx]
  simp only [List.zipIdx_cons, List.map_cons, Instr.fill]
  simp only [hv, List.size_toArray, ne_eq, not_true_eq_false, decide_false, Bool.false_or, gt_iff_lt, Aa, h2, if_false, Bool.false_eq_true, decide_eq_false_iff_not]
  have ih := Pw r (i + 1) (cells.take (i * sz) ++ v.cells.toList ++ cells.drop (i * sz + sz)) (fun u hu => h u (by simp [hu])) (by
   simp only [Yo, Yp, List.length_drop, hsz]
   rw [Yv] at hl
   rw [show i + 1 + r.length = i + (r.length + 1) by omega, hl]
   omega)
  refine Eq.trans (congrArg (fun z => Instr.fill (fun i => some (i * sz, sz)) z ((r.zipIdx (i + 1)).map fun p => (p.2, p.1))) hconv) (ih.trans ?_)
  congr 2
  rw [List.flatMap_cons, ← Yw]
  congr 1
  rw [List.take_append_of_le_length (by simp [hsz, Nat.succ_mul]; omega)]
  rw [List.take_of_length_le (by simp [hsz, Nat.succ_mul]; omega)]
end
end Go.Pv
namespace Go.Pv
open Go Go.RowKit
def Gb (sz : Nat) (v : Value) : Bool := v.cells.size == sz
theorem P5 {sz : Nat} : ∀ v, Gb sz v = true → v.cells.size = sz := fun v h => by simpa [Gb] using h
section
variable {P : Program} {w0 w : World} {F0 : List Nat} {ps rest : List Ck} {m : List (Nat × Value)} {n d : Nat} {ty : TypeId} {pos : String} {aft : Array Edge} {x y : Operand} {ops : Array Oper} {Q : Exit → Act → World → Prop} {a : Act} {l' : List Oper}
variable {α : Type} {T : Ty α} {enc : α → List Value}
theorem SL.BF (hs : SL w0 F0 w ps) : SL w0 F0 w (Sl T (.slice none 0 0) [] :: ps) := by
 obtain ⟨F, h1, h2⟩ := hs.st
 exact ⟨hs.fm, F, ⟨[], F, rfl, slOwn.nil w, h1, by simp⟩, h2⟩
theorem CG.form {G : List Nat} {v : Value} {l : List α} (h : CG T w G v l) : ∃ A c, v = .slice A l.length c := by
 obtain ⟨A, c, hv, _⟩ := h
 exact ⟨A, c, hv⟩
theorem Rd.form {v : Value} {l : List α} (h : Rd T w0 F0 v l) : ∃ A c, v = .slice A l.length c := by
 obtain ⟨G, h, _⟩ := h
 exact h.form
theorem SL.form {v : Value} {l : List α} (hs : SL w0 F0 w ps) (hm : Sl T v l ∈ ps) : ∃ A c, v = .slice A l.length c := by
 obtain ⟨G, h⟩ := hs.Bm hm
 exact h.form
theorem AG {v : Value} {k : Nat} (h : ∃ A c, v = .slice A k c) : v.cells = #[v] := by
 obtain ⟨A, c, rfl⟩ := h
 rfl
theorem Aj {v : Value} {k : Nat} (h : ∃ A c, v = .slice A k c) : v.oneCell' = true := by
 obtain ⟨A, c, rfl⟩ := h
 rfl
theorem SL.Qi {cells : List Value} {l : List α} {e : TypeId} {k : Nat} (hs : SL w0 F0 w (ps ++ rest)) (hl : cells.length = k * T.sz) (hk : l.length = k) (hE : ∀ F, Aw ps w F → Dz T w F l cells) :
  SL w0 F0 (w.alloc (.cells ⟨cells⟩ e)) (Sl T (.slice (some ⟨w.heap.size, 0, none⟩) k k) l :: rest) := by
 obtain ⟨F, h1, hF0, _, hcl⟩ := SL.open_ hs
 have hEl := hE F h1
 refine hcl _ [Sl T (.slice (some ⟨w.heap.size, 0, none⟩) k k) l] ⟨Fm.alloc w F _, [w.heap.size] ++ F, Aw.one (p := Sl T _ l) ⟨cells, [w.heap.size], F, rfl, ⟨by rw [hk]; exact hl, .inr ⟨w.heap.size, 0, k, ⟨cells⟩, e, (0, 0), by rw [hk], rfl, heap_alloc_new w _, by omega, ?_, by simp, ?_⟩⟩, ?_, ?_⟩, ?_⟩
 ·simp [hl]
 ·intro j u hu; simpa using hu
 ·exact hEl.loc (fun k hk => Below.heap_alloc w _ k (hEl.lt k hk))
 ·intro k hk hk'
  rw [Yr] at hk
  have := hEl.lt k hk'
  omega
 ·intro k hk
  simp only [List.cons_append, Yu, Ys] at hk
  rcases hk with rfl | hk
  ·right; exact Nat.le_refl _
  ·exact .inl hk
theorem run_buildSlice {t e sz bytes len : Nat} {z : Value → Bool} (hb : Dy P t e sz bytes z = true) (hle : len * sz ≤ 16777216) {vs : List Value} (BU : vs.length = len) (hv : ∀ v ∈ vs, v.cells.size = sz) :
  (Instr.buildSlice t len ((vs.zipIdx).map fun p => (p.2, p.1)).toArray).run P w = .ok (.slice (some ⟨w.heap.size, 0, none⟩) len len) (w.alloc (.cells ⟨vs.flatMap fun v => v.cells.toList⟩ e)) := by
 obtain ⟨ht, i, zv, hi, h2, h3, h4, h5⟩ := FW hb
 subst h2
 have h6 : ¬ (16777216 < len * i.size) := by omega
 have hfill : ∀ A : Array Value, A.size = len * i.size → Instr.fill (fun j => some (j * i.size, i.size)) A ((vs.zipIdx).map fun p => (p.2, p.1)) = some (vs.flatMap (fun v => v.cells.toList)).toArray := by
  intro A hA
  have := Pw (sz := i.size) vs 0 A.toList hv (by simp [BU, hA])
  rw [Array.toArray_toList] at this
  simp only [Nat.zero_mul, List.take_zero, Yu] at this
  exact this
 by_cases h0 : len * i.size = 0
 ·simp only [Instr.buildSlice, Sem.run_bind, run_underlying ht, Result.andThen_ok]
  have := hfill (Array.map (fun x => default) (Array.range 0)) (by simp [h0])
  simp [sizeOf, typeInfo, hi, h0, this, newRow, newObj, Sem.run]
 ·simp only [Instr.buildSlice, Sem.run_bind, run_underlying ht, Result.andThen_ok]
  have := hfill (Array.map (fun x => zv.cells[x % zv.cells.size]!) (Array.range (len * i.size))) (by simp)
  simp [sizeOf, typeInfo, hi, h0, h6, zeroValue, h4, this, newRow, newObj, Sem.run]
theorem Q5 : ∀ {l : List Operand} {vs : List Value}, Fp m l = some vs → vs.length = l.length
 | [], vs, h => by simp only [Fp, Option.some.injEq] at h; rw [← h]; rfl
 | x :: r, vs, h => by
  simp only [Fp] at h
  split at h
  ·split at h
   ·rename_i l hl
    cases h
    simp [Q5 hl]
   ·cases h
  ·cases h
theorem Oz (ρ : Operand → Value) : ∀ (l : List (Nat × Operand)) (k : Nat), (l.map Prod.fst) = List.range' k l.length → (l.map fun p => (p.1, ρ p.2)) = (((l.map Prod.snd).map ρ).zipIdx k).map fun p => (p.2, p.1)
 | [], _, _ => rfl
 | (i, x) :: r, k, h => by
  simp only [List.map_cons, Yv, List.range'_succ, List.cons.injEq] at h
  obtain ⟨rfl, h⟩ := h
  simp only [List.map_cons, List.zipIdx_cons]
  rw [Oz ρ r (i + 1) h]
theorem EU (hFl : Flat T enc) (l : List α) {t e sz bytes len : Nat} {parts : List (Nat × Operand)} {vs : List Value} (hF : Fr a n m) (hs : SL w0 F0 w ps) (hb : Dy P t e sz bytes (Gb sz) = true) (hsz : T.sz = sz)
  (hle : Nat.ble (len * sz) 16777216 = true) (hp : parts.map Prod.fst = List.range' 0 len) (hpl : parts.length = len) (hev : Fp m (parts.map Prod.snd) = some vs) (hv : ∀ v ∈ vs, v.cells.size = sz)
  (hl : (vs.flatMap fun v => v.cells.toList) = l.flatMap enc) (hll : l.length = len) (hlt : Nat.blt d n = true)
  (k : ∀ v w a, Fr a n ((d, v) :: m) → SL w0 F0 w (Sl T v l :: ps) → wpList P ops Q l' a w) : wpList P ops Q (⟨some d, .buildSlice t len parts.toArray, ty, pos, aft, none⟩ :: l') a w := by
 have hvl : vs.length = len := by rw [Q5 hev, List.length_map, hpl]
 subst hsz
 have hr := run_buildSlice (P := P) (w := w) hb (Nat.le_of_ble_eq_true hle) hvl hv
 refine EQ hF (v := .slice (some ⟨w.heap.size, 0, none⟩) len len) (fun a n hF => ?_) rfl rfl hlt fun a hF => k _ _ a hF (SL.Qi (ps := []) hs (e := e) (k := len) (cells := vs.flatMap fun v => v.cells.toList) (by rw [hl, GH hFl, hll]) hll (fun F hF' => ?_))
 ·have h1 := hF.Ik hev
  have h2 := Oz a.eval parts 0 (by rw [hp, hpl])
  simp only [execOp, List.map_toArray]
  rw [h2, h1]
  simp [hr]
 ·rw [show F = [] from hF', hl]
  exact hFl.els.2 ⟨rfl, rfl⟩
theorem B7 {xx : α} {cs : List Value} {t e sz bytes : Nat} {v : Value} (hF : Fr a n m) (hs : SL w0 F0 w (Dt T xx cs :: ps)) (hb : Dy P t e sz bytes (Gb sz) = true) (hsz : T.sz = sz)
  (hle : Nat.ble (1 * sz) 16777216 = true) (hx : ev m x = some v) (hv : v.cells = ⟨cs⟩) (hlt : Nat.blt d n = true)
  (k : ∀ v w a, Fr a n ((d, v) :: m) → SL w0 F0 w (Sl T v [xx] :: ps) → wpList P ops Q l' a w) : wpList P ops Q (⟨some d, .buildSlice t 1 #[(0, x)], ty, pos, aft, none⟩ :: l') a w := by
 subst hsz
 obtain ⟨F, h1, _⟩ := hs.st
 have hcs : cs.length = T.sz := by
  obtain ⟨F1, F2, _, h2, _⟩ := h1
  exact T.Ev (T.Bm h2)
 have hr := run_buildSlice (P := P) (w := w) (len := 1) (vs := [v]) hb (Nat.le_of_ble_eq_true hle) rfl (by simp [hv, hcs])
 simp only [List.flatMap_cons, List.flatMap_nil, Yt, hv] at hr
 refine EQ hF (v := .slice (some ⟨w.heap.size, 0, none⟩) 1 1) (fun a n hF => ?_) rfl rfl hlt fun a hF => k _ _ a hF (SL.Qi (ps := [Dt T xx cs]) hs (e := e) (k := 1) (cells := cs) (by omega) rfl (fun F hF' => Dz.one (Aw.Ij hF')))
 ·have hr' : (Instr.buildSlice t 1 #[(0, v)]).run P w = .ok (.slice (some ⟨w.heap.size, 0, none⟩) 1 1) (w.alloc (.cells ⟨cs⟩ e)) := hr
  simp only [execOp, List.map_toArray, List.map_cons, List.map_nil, hF.eval hx]
  simp [hr']
def app {α : Type} (lim : Nat) (l m : List α) : Option (List α) := if l.length + m.length ≤ lim then some (l ++ m) else none
theorem P8 {lim : Nat} {l r s : List α} (h : app lim l r = some s) : l.length + r.length ≤ lim ∧ s = l ++ r := by
 unfold app at h
 split at h
 ·rename_i h1; cases h; exact ⟨h1, rfl⟩
 ·cases h
theorem Ba (hFl : Flat T enc) {v u : Value} {l r s : List α} {G : List Nat} {t e sz bytes lim : Nat} (hF : Fr a n m) (hs : SL w0 F0 w (Sl T v l :: ps)) (hb : Dy P t e sz bytes (Gb sz) = true) (hsz : T.sz = sz) (h0 : Nat.blt 0 sz = true)
  (hx : ev m x = some v) (hy : ev m y = some u) (hr : CG T w G u r) (hlim : Nat.ble (lim * bytes) 140737488355328 = true) (hlim' : Nat.ble lim 9223372036854775807 = true) (happ : app lim l r = some s) (hlt : Nat.blt d n = true)
  (k : ∀ v w a, Fr a n ((d, v) :: m) → SL w0 F0 w (Sl T v s :: ps) → wpList P ops Q l' a w) :
  wpList P ops Q (⟨some d, .call { callee := .builtin .append, args := #[x, y], argTypes := #[t, t] }, ty, pos, aft, none⟩ :: l') a w := by
 subst hsz
 have h0 : 0 < T.sz := by simpa [Nat.blt_eq] using h0
 obtain ⟨h1, rfl⟩ := P8 happ
 obtain ⟨A, c, rfl, hcells⟩ := CG.cells hFl h0 hr
 obtain ⟨F, hst, hF0, _, hcl⟩ := SL.open_ (ps := [Sl T v l]) hs
 have hrow := hFl.slOwn.1 (Aw.Ij hst)
 have hlim := Nat.le_of_ble_eq_true hlim
 obtain ⟨v', w', F', hrun, hrow', hfm, hF'⟩ := Ka (ty := ty) (c := c) hb P5 h0 hrow (GH hFl r) hcells (PH hFl r) (Nat.le_trans (Nat.mul_le_mul_right _ h1) hlim) (Nat.le_trans h1 (Nat.le_of_ble_eq_true hlim'))
 refine EQ hF (v := v') (w' := w') (fun a n hF => ?_) rfl rfl hlt fun a hF => k _ _ a hF (hcl w' [Sl T v' (l ++ r)] ⟨hfm, F', Aw.one (p := Sl T v' (l ++ r)) (hFl.slOwn.2 ?_), hF'⟩)
 ·simp [execOp, resolve, invoke, builtin, hF.eval hx, hF.eval hy, hrun]
 ·rw [List.flatMap_append, Yo]
  exact hrow'
theorem Dg {v u : Value} {l r s : List α} {t e sz bytes lim : Nat} (hF : Fr a n m) (hs : SL w0 F0 w (Sl T v l :: Sl T u r :: ps)) (hb : Dy P t e sz bytes (Gb sz) = true) (hsz : T.sz = sz) (h0 : Nat.blt 0 sz = true)
  (hx : ev m x = some v) (hy : ev m y = some u) (hlim : Nat.ble (lim * bytes) 140737488355328 = true) (hlim' : Nat.ble lim 9223372036854775807 = true) (happ : app lim l r = some s) (hlt : Nat.blt d n = true)
  (k : ∀ v w a, Fr a n ((d, v) :: m) → SL w0 F0 w (Sl T v s :: ps) → wpList P ops Q l' a w) :
  wpList P ops Q (⟨some d, .call { callee := .builtin .append, args := #[x, y], argTypes := #[t, t] }, ty, pos, aft, none⟩ :: l') a w := by
 subst hsz
 have h0 : 0 < T.sz := by simpa [Nat.blt_eq] using h0
 obtain ⟨h1, rfl⟩ := P8 happ
 obtain ⟨F, hst, hF0, _, hcl⟩ := SL.open_ (ps := [Sl T v l, Sl T u r]) hs
 obtain ⟨F1, F2, rfl, ⟨cs, G1, G2, rfl, hrow, hE, hd1⟩, h2, hd⟩ := hst
 obtain ⟨ds, H1, H2, rfl, hrow2, hE2, hd2⟩ := Aw.Ij h2
 obtain ⟨A, c, rfl, hc, hcell⟩ := hrow2.cells
 have hlim := Nat.le_of_ble_eq_true hlim
 have hone : ∀ {F : List Nat} {l : List α} {cs : List Value}, Dz T w F l cs → ∀ u ∈ cs, u.oneCell' = true := by
  intro F l
  induction l generalizing F with
  | nil => intro cs h u hu; rw [h.1] at hu; cases hu
  | cons x l ih =>
   rintro cs ⟨c, d, F1, F2, rfl, rfl, h3, h4, _⟩ u hu
   rw [Yq] at hu
   rcases hu with hu | hu
   ·exact T.Hk (T.Bm h3) u hu
   ·exact ih h4 u hu
 obtain ⟨v', w', F', hrun, hrow', hfm, hF'⟩ := Ka (ty := ty) hb P5 h0 hrow hrow2.1 (A := A) (c := c) (fun j u hu => by obtain ⟨ad, h5, _, h6⟩ := hcell j u hu; exact ⟨ad, h5, h6⟩) (hone hE2) (Nat.le_trans (Nat.mul_le_mul_right _ h1) hlim) (Nat.le_trans h1 (Nat.le_of_ble_eq_true hlim'))
 have hE' : Dz T w' G2 l cs := hE.loc (fun k hk => hfm.block k (hE.lt k hk) (fun hin => hd1 k hin hk))
 have hE2' : Dz T w' H2 r ds := hE2.loc (fun k hk => hfm.block k (hE2.lt k hk) (fun hin => hd k (by simp [hin]) (by simp [hk])))
 refine EQ hF (v := v') (w' := w') (fun a n hF => ?_) rfl rfl hlt fun a hF => k _ _ a hF (hcl w' [Sl T v' (l ++ r)]
  ⟨⟨hfm.os, hfm.tape, hfm.output, hfm.size, fun k hk hn => hfm.block k hk (fun hin => hn (by simp [hin]))⟩, F' ++ (G2 ++ H2), Aw.one (p := Sl T v' (l ++ r)) ⟨cs ++ ds, F', G2 ++ H2, rfl, by rw [Yo]; exact hrow', Dz.append ⟨cs, ds, G2, H2, rfl, rfl, hE', hE2', fun k hk hk' => hd k (by simp [hk]) (by simp [hk'])⟩, fun k hk hk' => ?_⟩, fun k hk => ?_⟩)
 ·simp [execOp, resolve, invoke, builtin, hF.eval hx, hF.eval hy, hrun]
 ·rw [Yq] at hk'
  rcases hF' k hk with h5 | h5
  ·rcases hk' with h6 | h6
   ·exact hd1 k h5 h6
   ·exact hd k (by simp [h5]) (by simp [h6])
  ·rcases hk' with h6 | h6
   ·have := hE.lt k h6; omega
   ·have := hE2.lt k h6; omega
 ·rw [Yq] at hk
  rcases hk with hk | hk
  ·rcases hF' k hk with h5 | h5
   ·left; simp [h5]
   ·right; exact h5
  ·left
   rw [Yq] at hk
   rcases hk with hk | hk <;> simp [hk]
def Jv (P : Program) (f : Nat) : Bool := match P.funcs[f]? with | some fn => fn.name != "runtime.NumGoroutine" && fn.body.isSome | none => false
def AN (S : Value → World → Prop) : Ending → World → Prop := fun e w => ∃ v, e = .returned v ∧ S v w
theorem Eb {f : Nat} (h : Jv P f = true) (args : Array Value) : (callFunc f args).run P w = .ok (.enter f args) w := by
 unfold Jv at h
 split at h
 ·rename_i fn hfn
  simp only [Yx, B9] at h
  obtain ⟨h1, h2⟩ := h
  have h3 : fn.body.isNone = false := by cases hb : fn.body <;> simp_all
  simp [callFunc, hfn, h1]
  intro h4
  rw [h4] at h2
  cases h2
 ·cases h
theorem QO {f : Nat} {args : List Operand} {ats : Array TypeId} {vs : List Value} {S : Value → World → Prop} (hF : Fr a n m) (hf : Jv P f = true) (hargs : Fp m args = some vs) (hc : Calls P f vs.toArray w (AN S)) (hlt : Nat.blt d n = true)
  (k : ∀ v w a, S v w → Fr a n ((d, v) :: m) → wpList P ops Q l' a w) : wpList P ops Q (⟨some d, .call { callee := .value (.func f), args := args.toArray, argTypes := ats }, ty, pos, aft, none⟩ :: l') a w :=
 wpList_plain rfl fun K hK => by
  unfold Oper.wp
  have h1 : (execOp a.eval ⟨some d, .call { callee := .value (.func f), args := args.toArray, argTypes := ats }, ty, pos, aft, none⟩).run P w = .ok (.enter f vs.toArray) w := by
   have h2 := hF.Ik hargs
   simp [execOp, resolve, Deferred.ofValue, Act.eval, invoke, h2, Eb hf]
  rw [h1, Oper.upon_enter]
  refine hc.mono ?_
  rintro e w' ⟨v, rfl, hS⟩
  exact hK _ _ (k v w' _ hS (hF.put d v hlt))
end
end Go.Pv
namespace Go.Pv
open Go Go.RowKit
section
variable {P : Program} {w : World} {m m' : List (Nat × Value)} {n d : Nat} {a : Act} {ops : Array Oper} {C : World → Prop} {o : Oper} {v : Value} {rest rest' : List Oper}
def QR (P : Program) (n : Nat) (ops : Array Oper) (C : World → Prop) (m : List (Nat × Value)) (l : List Oper) (m' : List (Nat × Value)) (l' : List Oper) : Prop :=
 ∀ (Q : Act → Prop) a, Fr a n m → (∀ a, Fr a n m' → wpQuiet P ops C Q l' a) → wpQuiet P ops C Q l a
theorem QR.nil {l : List Oper} : QR P n ops C m l m l := fun _ a hF k => k a hF
theorem QR.op (he : ∀ w, C w → EX P w m o v w) (k : QR P n ops C ((d, v) :: m) rest m' rest') (hg : o.guard = none := by rfl) (hd : o.dst = some d := by rfl) (hlt : Nat.blt d n = true := by rfl) : QR P n ops C m (o :: rest) m' rest' :=
 fun Q a hF k' => by
  unfold wpQuiet
  rw [Ab (by simp [Region.wanted, hg])]
  refine ⟨v, fun w hw => ?_, ?_⟩
  ·unfold Oper.quietAt
   rw [he w hw a n hF]
   exact ⟨rfl, rfl⟩
  ·rw [hd]
   exact k Q _ (hF.put d v hlt) k'
theorem QR.gop {j dj : Nat} {b : Bool} (he : ∀ w, C w → EX P w m o v w) (hg : o.guard = some (j, b)) (hj : (ops[j]?).bind (·.dst) = some dj) (hb : look m dj = some (.bool b)) (k : QR P n ops C ((d, v) :: m) rest m' rest') (hd : o.dst = some d := by rfl) (hlt : Nat.blt d n = true := by rfl) : QR P n ops C m (o :: rest) m' rest' :=
 fun Q a hF k' => by
  unfold wpQuiet
  rw [Ab (by simp [Region.wanted, hg, D7 hF hj hb])]
  refine ⟨v, fun w hw => ?_, ?_⟩
  ·unfold Oper.quietAt
   rw [he w hw a n hF]
   exact ⟨rfl, rfl⟩
  ·rw [hd]
   exact k Q _ (hF.put d v hlt) k'
theorem QR.Sq {j dj : Nat} {b c : Bool} (hg : o.guard = some (j, c)) (hj : (ops[j]?).bind (·.dst) = some dj) (hb : look m dj = some (.bool b)) (hne : b ≠ c) (k : QR P n ops C ((d, undef) :: m) rest m' rest') (hd : o.dst = some d := by rfl) (hlt : Nat.blt d n = true := by rfl) : QR P n ops C m (o :: rest) m' rest' :=
 fun Q a hF k' => by
  unfold wpQuiet
  rw [Ac (by simp [Region.wanted, hg, D7 hF hj hb]; exact hne)]
  rw [hd]
  exact k Q _ (hF.put d undef hlt) k'
theorem QR.Xc {j dj : Nat} {c : Bool} (hg : o.guard = some (j, c)) (hj : (ops[j]?).bind (·.dst) = some dj) (hb : look m dj = some undef) (k : QR P n ops C ((d, undef) :: m) rest m' rest') (hd : o.dst = some d := by rfl) (hlt : Nat.blt d n = true := by rfl) : QR P n ops C m (o :: rest) m' rest' :=
 fun Q a hF k' => by
  unfold wpQuiet
  have : yielded ops a.tmps j = none := by
   unfold yielded
   rw [hj]
   simp only [Yk]
   rw [hF.at_ _ _ hb]
   rfl
  rw [Ac (by simp [Region.wanted, hg, this])]
  rw [hd]
  exact k Q _ (hF.put d undef hlt) k'
theorem QR.call {f : Nat} {args : List Operand} {ats : Array TypeId} {vs : List Value} {ty : TypeId} {pos : String} {aft : Array Edge} (hf : Jv P f = true) (hargs : Fp m args = some vs) (hc : ∀ w, C w → Calls P f vs.toArray w (AN fun u w' => u = v ∧ C w'))
  (k : QR P n ops C ((d, v) :: m) rest m' rest') (hlt : Nat.blt d n = true := by rfl) : QR P n ops C m (⟨some d, .call { callee := .value (.func f), args := args.toArray, argTypes := ats }, ty, pos, aft, none⟩ :: rest) m' rest' :=
 fun Q a hF k' => by
  unfold wpQuiet
  rw [Ab (by simp [Region.wanted])]
  refine ⟨v, fun w hw => ?_, ?_⟩
  ·unfold Oper.quietAt
   have h2 := hF.Ik hargs
   have h1 : (execOp a.eval ⟨some d, .call { callee := .value (.func f), args := args.toArray, argTypes := ats }, ty, pos, aft, none⟩).run P w = .ok (.enter f vs.toArray) w := by
    simp [execOp, resolve, Deferred.ofValue, Act.eval, invoke, h2, Eb hf]
   rw [h1]
   exact ⟨rfl, (hc w hw).mono fun e w' ⟨u, he, hu, hw'⟩ => ⟨by rw [he, hu], hw'⟩⟩
  ·exact k Q _ (hF.put d v hlt) k'
theorem Vy {id : Nat} {l : List Oper} {Q : Exit → Act → World → Prop} (C : World → Prop) (hm : P.follows .mixedOrders = true) (hB : Region.lexB .any l.toArray = true) (hC : C w.drew) (hF : Fr a n m) (h : QR P n l.toArray C m l m' [])
  (k : ∀ w a, C w → Fr a n m' → Q .normal a w) : (Code.region id l.toArray true).wp P Q a w := by
 refine wp_region_quiet (C := C) hm hB hC ?_
 simp only
 exact h _ a hF fun a hF => wpQuiet_nil fun w' hw' => k w' a hw' hF
theorem PR.gop {j dj : Nat} {b : Bool} (he : EX P w m o v w) (hg : o.guard = some (j, b)) (hb : look m dj = some (.bool b)) (hj : (ops[j]?).bind (·.dst) = some dj) (hd : o.dst = some d) (hlt : Nat.blt d n = true)
  {Q : Exit → Act → World → Prop} (hF : Fr a n m) (k : ∀ a, Fr a n ((d, v) :: m) → wpList P ops Q rest a w) : wpList P ops Q (o :: rest) a w := Bu hF hg hj hb he hd hlt k
end
def VU (P : Program) (s f off : Nat) : Bool := match P.underlying s with
 | some (.struct fs) => match fs[f]? with
  | some fd => fd.offset == off && Do P fd.type
  | none => false
 | _ => false
def OH (P : Program) (t sz : Nat) : Bool := match P.info? t with | some i => i.size == sz | none => false
def HH (P : Program) (t : Nat) (pl : List (Nat × Nat)) : Bool := match P.underlying t with
 | some (.struct fs) => fs.size == pl.length && (fs.toList.zip pl).all fun p => p.1.offset == p.2.1 && OH P p.1.type p.2.2
 | _ => false
section
variable {P : Program} {w : World} {m : List (Nat × Value)} {dd : Option Tmp} {ty : TypeId} {pos : String} {aft : Array Edge} {g : Option (Nat × Bool)} {x y : Operand}
theorem EC {s f off : Nat} {cs : List Value} {u : Value} (hb : VU P s f off = true) (hx : ev m x = some (.agg ⟨cs⟩)) (hc : cs[off]? = some u) : EX P w m ⟨dd, .field s x f, ty, pos, aft, g⟩ u w := fun a n hF => by
 unfold VU at hb
 split at hb
 ·rename_i fs h1
  split at hb
  ·rename_i fd h2
   simp only [Yx, Ap] at hb
   obtain ⟨h3, h4⟩ := hb
   simp only [execOp, hF.eval hx]
   simp [Instr.field, run_underlying h1, h2, asAgg, part, O6 h4, h3, hc]
  ·cases hb
 ·cases hb
theorem run_sizeOf {t sz : Nat} (h : OH P t sz = true) (w : World) : (sizeOf t).run P w = .ok sz w := by
 unfold OH at h
 split at h
 ·rename_i i hi
  simp [sizeOf, typeInfo, hi, Ap.1 h]
 ·cases h
theorem run_places : ∀ (fs : List Field) (pl : List (Nat × Nat)), fs.length = pl.length → (fs.zip pl).all (fun p => p.1.offset == p.2.1 && OH P p.1.type p.2.2) = true →
  (fs.mapM (fun f => do pure (f.offset, ← sizeOf f.type) : Field → Sem (Nat × Nat))).run P w = .ok pl w
 | [], [], _, _ => rfl
 | f :: fs, (o, s) :: pl, hl, h => by
  simp only [List.zip_cons_cons, List.all_cons, Yx, Ap] at h
  obtain ⟨⟨h1, h2⟩, h3⟩ := h
  have ih := run_places fs pl (by simpa using hl) h3
  rw [List.mapM_cons]
  simp only [Sem.run_bind, Sem.run_pure, run_sizeOf h2, Result.andThen_ok, ih, h1]
theorem PU (ρ : Operand → Value) : ∀ parts : List (Nat × Operand), (parts.map fun p => (p.1, ρ p.2)) = (parts.map Prod.fst).zip ((parts.map Prod.snd).map ρ)
 | [] => rfl
 | p :: r => by simp only [List.map_cons, List.zip_cons_cons]; rw [PU ρ r]
theorem AP {t : Nat} {pl : List (Nat × Nat)} {zs : List Value} {parts : List (Nat × Operand)} {vs cs : List Value} (hz : (P.info? t).bind (·.zero) = some (.agg ⟨zs⟩)) (hp : HH P t pl = true) (hev : Fp m (parts.map Prod.snd) = some vs)
  (hfill : Instr.fill (fun i => pl[i]?) ⟨zs⟩ ((parts.map Prod.fst).zip vs) = some ⟨cs⟩) : EX P w m ⟨dd, .build t parts.toArray, ty, pos, aft, g⟩ (.agg ⟨cs⟩) w := fun a n hF => by
 obtain ⟨i, hi, hz⟩ := Option.bind_eq_some_iff.1 hz
 unfold HH at hp
 split at hp
 ·rename_i fs h1
  simp only [Yx, Ap] at hp
  obtain ⟨h2, h3⟩ := hp
  have hpl := run_places (P := P) (w := w) fs.toList pl (by simpa using h2) h3
  have h4 := hF.Ik hev
  have h5 : (parts.map fun p => (p.1, a.eval p.2)) = (parts.map Prod.fst).zip vs := by
   rw [← h4]
   exact PU _ _
  have h6 : (fs.mapM (fun f => do pure (f.offset, ← sizeOf f.type) : Field → Sem (Nat × Nat))).run P w = .ok pl.toArray w := by
   rw [← Array.toArray_toList (xs := fs), List.mapM_toArray]
   simp only [Sem.run_map, hpl, Result.andThen_ok]
  simp only [execOp, List.map_toArray]
  rw [h5]
  simp only [Instr.build, Sem.run_bind, zeroValue, typeInfo, run_program, Result.andThen_ok, hi, Sem.run_pure, hz, run_underlying h1, h6]
  simp [Value.cells, hfill]
 ·cases hp
end
end Go.Pv
namespace Go.Pv
open Go Go.RowKit
abbrev wr (n : Int) : Int := IntKind.i64.wrap n
def Ew (n : Int) : UInt8 := UInt8.ofNat (n % 256).toNat
theorem IY (n : Int) : ((Ew n).toNat : Int) = n % 256 := by
 unfold Ew
 rw [UInt8.toNat_ofNat']
 omega
theorem wrap_u8 (n : Int) : IntKind.u8.wrap n = ((Ew n).toNat : Int) := by
 rw [IY]
 rfl
theorem wrap_small {n : Int} (h0 : 0 ≤ n) (h1 : n ≤ 9223372036854775807) : IntKind.i64.wrap n = n := by
 rw [IntKind.wrap_i64]; omega
theorem bool_split {G : Prop} (b : Bool) (ht : b = true → G) (hf : b = false → G) : G := by
 cases b
 ·exact hf rfl
 ·exact ht rfl
theorem EY {m : List (Nat × Value)} {d : Nat} {b c : Bool} (h : look m d = some (.bool c)) (hb : c = b) : look m d = some (.bool b) := by rw [h, hb]
theorem WC {m : List (Nat × Value)} {x : Operand} {b c : Bool} (h : ev m x = some (.bool c)) (hb : c = b) : ev m x = some (.bool b) := by rw [h, hb]
section
variable {P : Program} {w : World} {m : List (Nat × Value)} {dd : Option Tmp} {ty : TypeId} {pos : String} {aft : Array Edge} {g : Option (Nat × Bool)} {x y z : Operand}
theorem EX.MP {o : Oper} {v u : Value} {w' : World} (h : EX P w m o v w') (e : v = u) : EX P w m o u w' := by subst e; exact h
theorem WN {s d : TypeId} {ds : TypeDesc} {k : IntKind} {p : Int} (hx : ev m x = some (.int k p)) (hs : P.underlying s = some ds) (hd : P.underlying d = some (.int .u8)) :
  EX P w m ⟨dd, .convert s d x, ty, pos, aft, g⟩ (.int .u8 ((Ew p).toNat : Int)) w := (C7 hx hs hd).MP (by rw [wrap_u8])
theorem Jw {s d : TypeId} {ds : TypeDesc} {p : UInt8} (hx : ev m x = some (.int .u8 (p.toNat : Int))) (hs : P.underlying s = some ds) (hd : P.underlying d = some (.int .i64)) :
  EX P w m ⟨dd, .convert s d x, ty, pos, aft, g⟩ (.int .i64 (p.toNat : Int)) w := (C7 hx hs hd).MP (by rw [wrap_small (by omega) (by have := p.toNat_lt; omega)])
theorem QF {t u : TypeId} {p q : Int} (hx : ev m x = some (.int .u8 p)) (hy : ev m y = some (.int .u8 q)) : EX P w m ⟨dd, .binOp .add t x y u, ty, pos, aft, g⟩ (.int .u8 ((Ew (p + q)).toNat : Int)) w := (Tr hx hy).MP (by rw [wrap_u8])
theorem LW {t u : TypeId} {p q : Int} (hx : ev m x = some (.int .u8 p)) (hy : ev m y = some (.int .u8 q)) : EX P w m ⟨dd, .binOp .sub t x y u, ty, pos, aft, g⟩ (.int .u8 ((Ew (p - q)).toNat : Int)) w := (Tw hx hy).MP (by rw [wrap_u8])
theorem JB (l : List UInt8) : (⟨⟨l⟩⟩ : ByteArray).toList = l := by
 exact ByteArray.toList_eq _
end
section
variable {P : Program} {w0 w : World} {F0 : List Nat} {ps rest : List Ck} {α : Type} {T : Ty α} {enc : α → List Value} {v : Value} {l r : List α}
theorem Rd.idx {t e sz bytes : Nat} {z : Value → Bool} {i : Int} {x : α} (h : Rd T w0 F0 v l) (hb : Dy P t e sz bytes z = true) (hz : T.sz = sz) (hx : idx l i = some x) :
  ∃ ad cs G, L8 P t v i ad ∧ (∀ w ps, SL w0 F0 w ps → Cells w ad cs) ∧ T.rd w0 G x cs ∧ ∀ k ∈ G, k < w0.heap.size ∧ k ∉ F0 := by
 obtain ⟨G, h1, h2⟩ := h
 obtain ⟨ad, cs, h3, h4, h5, h6⟩ := SZ h1 hb hz hx
 refine ⟨ad, cs, G, h3, fun w ps hs => h4.loc (hs.fm.block _ (h2 _ h6).1 (h2 _ h6).2), h5, h2⟩
theorem Rd.Qj (hFl : Flat T enc) {t e sz bytes : Nat} {z : Value → Bool} {i : Int} {x : α} (h : Rd T w0 F0 v l) (hb : Dy P t e sz bytes z = true) (hz : T.sz = sz) (hx : Pv.idx l i = some x) :
  ∃ ad, L8 P t v i ad ∧ ∀ w ps, SL w0 F0 w ps → Cells w ad (enc x) := by
 obtain ⟨ad, cs, G, h0, h1, h2, _⟩ := h.idx hb hz hx
 rw [hFl.rd.1 h2] at h1
 exact ⟨ad, h0, h1⟩
theorem Rd.cut {t e sz bytes : Nat} {z : Value → Bool} {lo hi : Int} (h : Rd T w0 F0 v l) (hb : Dy P t e sz bytes z = true) (hz : T.sz = sz) (hr : FQ l lo hi = some r)
  (lo' hi' : Option Int) (hlo : lo' = some lo ∨ (lo' = none ∧ lo = 0)) (hhi : hi' = some hi ∨ (hi' = none ∧ hi = l.length)) : ∃ v', US P t v lo' hi' v' ∧ Rd T w0 F0 v' r := by
 obtain ⟨G, h1, h2⟩ := h
 obtain ⟨v', h3, h4⟩ := Qb h1 hb hz hr lo' hi' hlo hhi
 exact ⟨v', h3, G, h4 _ _ h1, h2⟩
theorem CU {α : Type} {T : Ty α} {w0 w : World} {F0 : List Nat} {v : Value} {l : List α} {ps : List Ck} (h : Rd T w0 F0 v l) (hs : SL w0 F0 w ps) : ∃ G, CG T w G v l := by
 obtain ⟨G, h1, _⟩ := h.now hs
 exact ⟨G, h1⟩
end
end Go.Pv
namespace Go.Pv
open Go Go.RowKit
section
variable {P : Program} {Q : Exit → Act → World → Prop} {J : Act → World → Prop} {a : Act} {w : World} {c : Code}
theorem Vv (J : Act → World → Prop) (h1 : c.wp P (Exit.then J Q) a w) (h2 : ∀ a w, J a w → Q .normal a w) : c.wp P Q a w :=
 wp_mono h1 fun e a w h => by cases e <;> first | exact h2 _ _ h | exact h
theorem W4 (h : J a w) : Exit.then J Q .normal a w := h
theorem QP {id : Nat} (h : Q .normal a w) : Exit.inBlock id Q (.exit id) a w := by simpa [Exit.inBlock] using h
theorem Pn {id id' : Nat} (hne : Nat.beq id' id = false) (h : Q (.exit id') a w) : Exit.inBlock id Q (.exit id') a w := by
 have : id' ≠ id := fun e => by subst e; simp at hne
 simpa [Exit.inBlock, this] using h
theorem Q7 {n t : Nat} {m : List (Nat × Value)} {x y : Code} (hF : Fr a n m) (hc : look m t = some (.bool true)) (h : x.wp P Q a w) : (Code.cond (.tmp t) x y).wp P Q a w := wp_cond_true (hF.eval (x := .tmp t) hc) h
theorem NI {n t : Nat} {m : List (Nat × Value)} {x y : Code} (hF : Fr a n m) (hc : look m t = some (.bool false)) (h : y.wp P Q a w) : (Code.cond (.tmp t) x y).wp P Q a w := wp_cond_false (hF.eval (x := .tmp t) hc) h
end
def RV (P : Program) (w : World) (m : List (Nat × Value)) : ResultVar → Value → Prop
 | .tmp t, v => look m t = some v
 | .cell t ty, v => ∃ ad, look m t = some (.pointer (some ad)) ∧ (loadVar ty ad).run P w = .ok v w
theorem RV.tmp {P : Program} {w : World} {m : List (Nat × Value)} {t : Nat} {v : Value} (h : look m t = some v) : RV P w m (.tmp t) v := h
def UO (P : Program) (w : World) (m : List (Nat × Value)) : List ResultVar → List Value → Prop
 | [], vs => vs = []
 | r :: rs, vs => ∃ v vs', vs = v :: vs' ∧ RV P w m r v ∧ UO P w m rs vs'
def PZ : List Value → Value
 | [v] => v
 | vs => .tuple ⟨vs⟩
section
variable {P : Program} {w : World} {m : List (Nat × Value)} {n : Nat} {a : Act}
def Tc (tmps : Array Value) (r : ResultVar) : Sem Value := match r with
 | .tmp t => pure (tmps.getD t undef)
 | .cell c t => do loadVar t (← asAddr (tmps.getD c undef))
theorem My : ∀ {rs : List ResultVar} {vs : List Value}, Fr a n m → UO P w m rs vs → (rs.mapM (Tc a.tmps)).run P w = .ok vs w
 | [], vs, hF, h => by rw [show vs = [] from h]; rfl
 | r :: rs, vs, hF, ⟨v, vs', e, h1, h2⟩ => by
  subst e
  have ih := My hF h2
  rw [List.mapM_cons]
  have hv : (Tc a.tmps r).run P w = .ok v w := by
   cases r with
   | tmp t =>
    have h3 := hF.eval (x := .tmp t) h1
    simp only [Act.eval] at h3
    simp only [Tc, h3]
    rfl
   | cell t ty =>
    obtain ⟨ad, h3, h4⟩ := h1
    have h5 := hF.eval (x := .tmp t) h3
    simp only [Act.eval] at h5
    have h6 : (asAddr (a.tmps.getD t undef)).run P w = .ok ad w := by rw [h5]; rfl
    simp only [Tc, Sem.run_bind, h6, Result.andThen_ok, h4]
  simp only [Sem.run_bind, Sem.run_pure, Result.andThen_ok, ih, hv]
theorem B5 {fn : Func} {R : Ending → World → Prop} {rs : List ResultVar} {vs : List Value} (hF : Fr a n m) (hr : fn.results = rs.toArray) (h : UO P w m rs vs) (hR : R (.returned (PZ vs)) w) : bodyPost P fn R .ret a w := by
 have h1 := My (P := P) (w := w) hF h
 refine bodyPost_ret (v := PZ vs) ?_ hF.defers hR
 have h2 : results fn a.tmps = (do let vs ← fn.results.mapM (Tc a.tmps); pure (if h : vs.size = 1 then vs[0] else .tuple vs)) := rfl
 rw [h2, hr, List.mapM_toArray]
 simp only [Sem.run_bind, Sem.run_map, h1, Result.andThen_ok, Sem.run_pure]
 congr 1
 match vs with
 | [] => rfl
 | [v] => rfl
 | v :: u :: r => simp [PZ]
theorem Kd {fn : Func} {R : Ending → World → Prop} (hF : Fr a n m) (hr : fn.results = #[]) (hR : R (.returned (.tuple #[])) w) : bodyPost P fn R .normal a w :=
 bodyPost_end (results_none hr _ _ _) hF.defers hR
theorem RV.blk {w0 : World} {F0 : List Nat} {ps : List Ck} {g t ty k : Nat} {cs : List Value} (hs : SL w0 F0 w ps) (hm : Ae g ty cs ∈ ps) (hl : look m t = some (.pointer (some ⟨g, 0, none⟩))) (hb : El P ty k = true) (hk : cs.length = k) : RV P w m (.cell t ty) (.agg ⟨cs⟩) := by
 refine ⟨_, hl, ?_⟩
 have hc := hs.E0 hm (o := 0) (ds := cs) (fun j u hu => by simpa using hu)
 have h1 := run_loadCells_list (P := P) w _ cs hc
 subst hk
 simp [loadVar, Ot hb, h1]
end
def Fc {α : Type} (T : Ty α) (v : Value) (l : List α) (v' : Value) (r : List α) : Prop := ∀ w G, CG T w G v l → CG T w G v' r
section
variable {P : Program} {w0 w : World} {F0 F : List Nat} {ps rest : List Ck} {α : Type} {T : Ty α} {enc : α → List Value} {v v' v'' : Value} {l r s : List α}
theorem Fc.trans (h : Fc T v l v' r) (h' : Fc T v' r v'' s) : Fc T v l v'' s := fun w G hh => h' w G (h w G hh)
theorem Fc.rd (h : Fc T v l v' r) (hr : Rd T w0 F0 v l) : Rd T w0 F0 v' r := by
 obtain ⟨G, h1, h2⟩ := hr
 exact ⟨G, h _ _ h1, h2⟩
theorem Hm (hL : ∃ G, CG T w G v l) : ∃ A c, v = .slice A l.length c := by
 obtain ⟨G, h1⟩ := hL
 exact h1.form
theorem PM {t e sz bytes : Nat} {z : Value → Bool} {lo hi : Int} (hL : ∃ G, CG T w G v l) (hb : Dy P t e sz bytes z = true) (hz : T.sz = sz) (hr : FQ l lo hi = some r)
  (lo' hi' : Option Int) (hlo : lo' = some lo ∨ (lo' = none ∧ lo = 0)) (hhi : hi' = some hi ∨ (hi' = none ∧ hi = l.length)) : ∃ v', US P t v lo' hi' v' ∧ Fc T v l v' r := by
 obtain ⟨G, h1⟩ := hL
 exact Qb h1 hb hz hr lo' hi' hlo hhi
theorem GG (hFl : Flat T enc) {t e sz bytes : Nat} {z : Value → Bool} {i : Int} {x : α} (hL : ∃ G, CG T w G v l) (hb : Dy P t e sz bytes z = true) (hz : T.sz = sz) (hx : idx l i = some x) :
  ∃ ad, L8 P t v i ad ∧ Cells w ad (enc x) := by
 obtain ⟨G, h⟩ := hL
 obtain ⟨ad, cs, h3, h4, h5, _⟩ := SZ h hb hz hx
 rw [hFl.rd.1 h5] at h4
 exact ⟨ad, h3, h4⟩
end
theorem XG {α : Type} {T : Ty α} {enc : α → List Value} (hFl : Flat T enc) {P : Program} {w : World} {C : World → Prop} {v : Value} {l : List α} {t e sz bytes : Nat} {z : Value → Bool} {i : Int} {x : α} (h : ∀ w, C w → ∃ G, CG T w G v l) (hw : C w)
  (hb : Dy P t e sz bytes z = true) (hz : T.sz = sz) (hx : idx l i = some x) : ∃ ad, L8 P t v i ad ∧ ∀ w, C w → Cells w ad (enc x) := by
 obtain ⟨h0, h1, h2⟩ := DT hx
 obtain ⟨ad, h3, h4⟩ := GG hFl (h w hw) hb hz hx
 obtain ⟨G, A, c, hv, hc, hi⟩ := h w hw
 obtain ⟨ad0, cs0, hA, _, _, _⟩ := hi _ x h2
 refine ⟨ad0.add (i.toNat * T.sz), ?_, fun w' hw' => ?_⟩
 ·obtain ⟨hu, ti, zv, h5, h6, _⟩ := FW hb
  subst hv hA
  intro w m x y k dd ty pos aft g hx hy a _ hF
  have e1 : (0 ≤ i ∧ i < (l.length : Int)) := ⟨h0, h1⟩
  simp [execOp, hF.eval hx, hF.eval hy, Instr.indexAt, asIntOf, run_underlying hu, e1, sizeOf, typeInfo, h5, h6, hz]
 ·obtain ⟨G', A', c', hv', hc', hi'⟩ := h w' hw'
  obtain ⟨ad', cs', hA', _, h7, h8⟩ := hi' _ x h2
  rw [hv] at hv'
  injection hv' with hAA _ _
  rw [hA, hA'] at hAA
  cases hAA
  rw [hFl.rd.1 h8] at h7
  exact h7
section
variable {w0 w : World} {F0 : List Nat} {ps : List Ck} {α β : Type} {A : Ty α} {B : Ty β} {enc : α → List Value}
theorem SL.C6 (hs : SL w0 F0 w ps) (hFl : Flat A enc) (x : α) : SL w0 F0 w (Dt A x (enc x) :: ps) := by
 obtain ⟨F, h1, h2⟩ := hs.st
 exact ⟨hs.fm, F, ⟨[], F, rfl, hFl.own.2 ⟨rfl, rfl⟩, h1, by simp⟩, h2⟩
theorem SL.dsl {v : Value} {l : List α} (hs : SL w0 F0 w (Sl A v l :: ps)) : SL w0 F0 w (Dt (Ty.slice A) l [v] :: ps) :=
 hs.re fun F ⟨F1, F2, e, h1, h2, hd⟩ => ⟨F, ⟨F1, F2, e, ⟨v, rfl, h1⟩, h2, hd⟩, fun _ => Iff.rfl⟩
theorem SL.Dj {x : α} {y : β} {c d : List Value} (hs : SL w0 F0 w (Dt A x c :: Dt B y d :: ps)) : SL w0 F0 w (Dt (A.pair B) (x, y) (c ++ d) :: ps) :=
 hs.re fun F ⟨F1, F2, e, h1, ⟨G1, G2, e', h2, h3, hd'⟩, hd⟩ => by
  subst e' e
  exact ⟨(F1 ++ G1) ++ G2, ⟨F1 ++ G1, G2, rfl, ⟨c, d, F1, G1, rfl, rfl, h1, h2, fun k hk hk' => hd k hk (by simp [hk'])⟩, h3, fun k hk hk' => by
   rw [Yq] at hk
   rcases hk with hk | hk
   ·exact hd k hk (by simp [hk'])
   ·exact hd' k hk hk'⟩, fun k => by simp⟩
theorem SL.Ih {x : β} {f : β → α} {c : List Value} (hs : SL w0 F0 w (Dt A (f x) c :: ps)) : SL w0 F0 w (Dt (A.iso f) x c :: ps) := hs
theorem Ob {P : Program} {f : FuncId} {vs : Array Value} {u : Value} (h : Calls P f vs w (AN fun v w' => v = u ∧ SL w [] w' [])) (hC : SL w0 F0 w ps) : Calls P f vs w (AN fun v w' => v = u ∧ SL w0 F0 w' ps) :=
 h.mono fun _ _ ⟨v, he, hv, hs⟩ => ⟨v, he, hv, by simpa using hC.add hs⟩
end
section
variable {P : Program} {w : World} {m : List (Nat × Value)} {dd : Option Tmp} {ty : TypeId} {pos : String} {aft : Array Edge} {g : Option (Nat × Bool)} {x y : Operand}
theorem G6 {t : TypeId} {p q : Value} {b : Bool} (h : ∀ d, (Op.equalIn (d + 1) t p q).run P w = .ok b w) : (Op.equal t p q).run P w = .ok b w := by
 unfold Op.equal Op.maxDepth
 exact h 9999
theorem J3 {t : TypeId} {e : TypeDesc} (hp : P.underlying t = some e) (he : ∃ q, e = .pointer q) (ad : Addr) : (Op.equal t (.pointer (some ad)) (.pointer none)).run P w = .ok false w := by
 obtain ⟨q, rfl⟩ := he
 exact G6 fun d => by simp [Op.equalIn, run_underlying hp]
theorem run_eql_bool {t : TypeId} (hp : P.underlying t = some .bool) (p q : Bool) : (Op.equal t (.bool p) (.bool q)).run P w = .ok (p == q) w :=
 G6 fun d => by simp [Op.equalIn, run_underlying hp]
theorem L0 {t e u : TypeId} {ad : Addr} (hx : ev m x = some (.pointer (some ad))) (hy : ev m y = some (.pointer none)) (hp : P.underlying t = some (.pointer e)) : EX P w m ⟨dd, .binOp .neq t x y u, ty, pos, aft, g⟩ (.bool true) w :=
 Df hx hy (fun _ => Value.noConfusion) Value.noConfusion (by simp [binOp, J3 hp ⟨e, rfl⟩])
theorem J7 {t e u : TypeId} {ad : Addr} (hx : ev m x = some (.pointer (some ad))) (hy : ev m y = some (.pointer none)) (hp : P.underlying t = some (.pointer e)) : EX P w m ⟨dd, .binOp .eql t x y u, ty, pos, aft, g⟩ (.bool false) w :=
 Df hx hy (fun _ => Value.noConfusion) Value.noConfusion (by simp [binOp, J3 hp ⟨e, rfl⟩])
theorem U9 {t e u : TypeId} {A : Option Addr} {k c : Nat} (hx : ev m x = some (.slice A k c)) (hy : ev m y = some (.slice none 0 0)) (hp : P.underlying t = some (.slice e)) : EX P w m ⟨dd, .binOp .eql t x y u, ty, pos, aft, g⟩ (.bool A.isNone) w :=
 Df hx hy (fun _ => Value.noConfusion) Value.noConfusion (run_eql_slice_nil w t e A k c hp)
theorem SS {t u : TypeId} {p q : Bool} (hx : ev m x = some (.bool p)) (hy : ev m y = some (.bool q)) (hp : P.underlying t = some .bool) : EX P w m ⟨dd, .binOp .eql t x y u, ty, pos, aft, g⟩ (.bool (p == q)) w :=
 Df hx hy (fun _ => Value.noConfusion) Value.noConfusion (by simp [binOp, run_eql_bool hp])
theorem MQ {t u : TypeId} {p q : Bool} (hx : ev m x = some (.bool p)) (hy : ev m y = some (.bool q)) (hp : P.underlying t = some .bool) : EX P w m ⟨dd, .binOp .neq t x y u, ty, pos, aft, g⟩ (.bool (p != q)) w :=
 Df hx hy (fun _ => Value.noConfusion) Value.noConfusion (by simp [binOp, run_eql_bool hp, bne])
theorem Ln {t u : TypeId} {p q : List UInt8} (hx : ev m x = some (.string ⟨⟨p⟩⟩)) (hy : ev m y = some (.string ⟨⟨q⟩⟩)) : EX P w m ⟨dd, .binOp .eql t x y u, ty, pos, aft, g⟩ (.bool (p == q)) w :=
 Df hx hy (fun _ => Value.noConfusion) Value.noConfusion (by simp [binOp, Op.stringOp, JB])
theorem Rq {t : TypeId} {p : List UInt8} {i : Int} {k : IntKind} {b : UInt8} (hx : ev m x = some (.string ⟨⟨p⟩⟩)) (hy : ev m y = some (.int k i)) (ht : P.underlying t = some .string) (hb : idx p i = some b) :
  EX P w m ⟨dd, .index t x y, ty, pos, aft, g⟩ (.int .u8 (b.toNat : Int)) w := fun a n hF => by
 obtain ⟨h0, h1, h2⟩ := DT hb
 have h3 : (⟨⟨p⟩⟩ : ByteArray)[i.toNat]? = some b := by
  simp only [getElem?_def, ByteArray.size]
  rw [List.getElem?_eq_some_iff] at h2
  obtain ⟨hlt, h2⟩ := h2
  rw [dif_pos (by simpa using hlt)]
  rw [← h2]
  rfl
 simp only [execOp, hF.eval hx, hF.eval hy]
 simp [Instr.index, asIntOf, run_underlying ht, h0, h3]
end
end Go.Pv
namespace Go.Pv
open Go Go.RowKit
section
variable {P : Program} {Q : Exit → Act → World → Prop} {J : Act → World → Prop} {a : Act} {w : World} {n : Nat} {m : List (Nat × Value)} {ops : Array Oper} {rest : List Oper}
theorem Ax {dst : Option Tmp} {op : Op} {ty : TypeId} {pos : String} {aft : Array Edge} {j dj : Nat} {b : Bool} (hF : Fr a n m) (hj : (ops[j]?).bind (·.dst) = some dj) (hb : look m dj = some (.bool b))
  (h : wpList P ops Q (⟨dst, op, ty, pos, aft, none⟩ :: rest) a w) : wpList P ops Q (⟨dst, op, ty, pos, aft, some (j, b)⟩ :: rest) a w := by
 have hy := D7 hF hj hb
 unfold wpList at h ⊢
 rw [Ab (by simp [Region.wanted, hy])]
 rw [Ab (by simp [Region.wanted])] at h
 exact h
theorem Vw {l : Nat} (h : J a w) : Exit.jump l J Q (.goto l) a w := ⟨rfl, h⟩
end
def Lf (sz : Nat) (v : Value) (i : Int) (ad : Addr) : Prop := ∃ A n c, v = .slice (some A) n c ∧ ad = A.add (i.toNat * sz)
section
variable {P : Program} {w0 w : World} {F0 F : List Nat} {ps rest : List Ck} {m : List (Nat × Value)} {n d : Nat} {ty : TypeId} {pos : String} {aft : Array Edge} {x y : Operand} {ops : Array Oper} {Q : Exit → Act → World → Prop} {a : Act} {l' : List Oper}
variable {α : Type} {T : Ty α} {enc : α → List Value} {v u : Value} {l r : List α}
theorem E5.write {sz k : Nat} {xs ys : List Value} {A : Addr} {c o : Nat} (h : E5 sz w F (.slice (some A) k c) k xs) (hfit : o + ys.length ≤ k * sz) (h1 : ∀ u ∈ ys, u.oneCell' = true) :
  ∃ w', (storeCells (A.add o) ys).run P w = .ok () w' ∧ E5 sz w' F (.slice (some A) k c) k (xs.take o ++ ys ++ xs.drop (o + ys.length)) ∧ Fm w F w' := by
 rcases h.2 with ⟨h2, _⟩ | ⟨g, o', cap, cur, e', fz, hv, rfl, hg, hnc, hoc, hfz, hc⟩
 ·cases h2
 ·injection hv with hA _ Ki
  injection hA with hA
  subst hA Ki
  have hk : k * sz ≤ c * sz := Nat.mul_le_mul_right _ hnc
  have hst := Fq (P := P) g (o' + o) e' fz ys 0 cur w hg hfz (by omega) h1
  simp only [Nat.add_zero] at hst
  refine ⟨_, by rw [HL]; exact hst, ⟨?_, .inr ⟨g, o', c, _, e', fz, rfl, rfl, setRow_heap w g cur _ e' _ hg, hnc, ?_, ?_, ?_⟩⟩, Fm.one rfl rfl rfl (by simp) (fun k hk => setRow_other w g k _ hk)⟩
  ·simp only [Yo, Yp, List.length_drop, h.1]; omega
  ·simp only [List.size_toArray, Yo, Yp, List.length_drop, Array.length_toList]; omega
  ·intro j hj
   apply hfz
   simp only [List.size_toArray, Yo, Yp, List.length_drop, Array.length_toList] at hj
   omega
  ·intro j u hu
   have hl := h.1
   have hcs : cur.toList.length = cur.size := Array.length_toList
   rw [List.getElem?_toArray]
   rw [Yw] at hu ⊢
   by_cases hj : j < o
   ·rw [List.getElem?_append_left (by simp; omega), List.getElem?_take, Ab hj] at hu
    rw [List.getElem?_append_left (by simp; omega), List.getElem?_take, Ab (by omega), Array.getElem?_toList]
    exact hc j u hu
   ·rw [List.getElem?_append_right (by simp; omega)] at hu
    rw [List.getElem?_append_right (by simp; omega)]
    simp only [Yp] at hu ⊢
    rw [Nat.min_eq_left (by omega)] at hu ⊢
    by_cases hj' : j - o < ys.length
    ·rw [List.getElem?_append_left hj'] at hu
     rw [List.getElem?_append_left (by omega), ← hu]
     congr 1; omega
    ·rw [List.getElem?_append_right (by omega), List.getElem?_drop] at hu
     rw [List.getElem?_append_right (by omega), List.getElem?_drop, Array.getElem?_toList]
     have := hc _ _ hu
     rw [← this]
     congr 1; omega
theorem Flat.set (hFl : Flat T enc) : ∀ (l : List α) (i : Nat) (y : α), i < l.length → (l.set i y).flatMap enc = (l.flatMap enc).take (i * T.sz) ++ enc y ++ (l.flatMap enc).drop (i * T.sz + T.sz)
 | [], i, y, h => by simp at h
 | x :: l, 0, y, h => by
  simp only [List.set_cons_zero, List.flatMap_cons, Nat.zero_mul, List.take_zero, Yu, Nat.zero_add]
  rw [← hFl.len x, List.drop_left]
 | x :: l, i + 1, y, h => by
  have hl := hFl.len x
  simp only [List.set_cons_succ, List.flatMap_cons]
  rw [hFl.set l i y (by simpa using h)]
  rw [show (i + 1) * T.sz = (enc x).length + i * T.sz by rw [Nat.succ_mul, hl, Nat.add_comm]]
  rw [Nat.add_assoc (enc x).length, List.take_length_add_append, List.drop_length_add_append]
  simp
theorem Gm (hFl : Flat T enc) {t e sz bytes : Nat} {z : Value → Bool} {i : Int} {x : α} (hs : SL w0 F0 w ps) (hm : Sl T v l ∈ ps) (hb : Dy P t e sz bytes z = true) (hz : T.sz = sz) (hx : idx l i = some x) : ∃ ad, L8 P t v i ad ∧ Lf T.sz v i ad := by
 obtain ⟨h0, h1, h2⟩ := DT hx
 obtain ⟨G, hr⟩ := hs.Bm hm
 obtain ⟨A, c, rfl, hc, hi⟩ := hr
 obtain ⟨ad, cs, rfl, hG, h3, h4⟩ := hi _ x h2
 obtain ⟨hu, ti, zv, h5, h6, _⟩ := FW hb
 refine ⟨ad.add (i.toNat * T.sz), fun w m x y k dd ty pos aft g hx hy a _ hF => ?_, ad, _, _, rfl, rfl⟩
 have e1 : (0 ≤ i ∧ i < (l.length : Int)) := ⟨h0, h1⟩
 simp [execOp, hF.eval hx, hF.eval hy, Instr.indexAt, asIntOf, run_underlying hu, e1, sizeOf, typeInfo, h5, h6, hz]
theorem SL.GT (hFl : Flat T enc) {i : Int} {x : α} {ad : Addr} (hs : SL w0 F0 w ps) (hm : Sl T v l ∈ ps) (he : Lf T.sz v i ad) (hx : idx l i = some x) : Cells w ad (enc x) := by
 obtain ⟨h0, h1, h2⟩ := DT hx
 obtain ⟨G, A, c, hv, hc, hi⟩ := hs.Bm hm
 obtain ⟨ad', cs, rfl, hG, h3, h4⟩ := hi _ x h2
 obtain ⟨A', n', c', hv', rfl⟩ := he
 rw [hv] at hv'
 injection hv' with hA _ _
 injection hA with hA
 subst hA
 rw [hFl.rd.1 h4] at h3
 exact h3
theorem SL.X9 (hFl : Flat T enc) {i : Int} {x0 y' : α} {ad : Addr} (hs : SL w0 F0 w (Sl T v l :: ps)) (he : Lf T.sz v i ad) (hx0 : idx l i = some x0) :
  ∃ w', (storeCells ad (enc y')).run P w = .ok () w' ∧ SL w0 F0 w' (Sl T v (l.set i.toNat y') :: ps) := by
 obtain ⟨h0, h1, h2⟩ := DT hx0
 obtain ⟨F, hst, hF0, _, hcl⟩ := SL.open_ (ps := [Sl T v l]) hs
 have hrow := hFl.slOwn.1 (Aw.Ij hst)
 obtain ⟨A, k, c, rfl, rfl⟩ := he
 have hk : k = l.length := by
  rcases hrow.2 with ⟨h2, _⟩ | ⟨_, _, _, _, _, _, hv, _⟩
  ·cases h2
  ·injection hv
 subst hk
 have hil : i.toNat < l.length := by omega
 have hfit : i.toNat * T.sz + (enc y').length ≤ l.length * T.sz := by
  rw [hFl.len, ← Nat.succ_mul]
  exact Nat.mul_le_mul_right _ hil
 obtain ⟨w', h3, h4, h5⟩ := hrow.write (P := P) (o := i.toNat * T.sz) (ys := enc y') hfit (hFl.one y')
 refine ⟨w', h3, hcl w' [Sl T _ (l.set i.toNat y')] ⟨h5, F, Aw.one (p := Sl T _ (l.set i.toNat y')) (hFl.slOwn.2 ?_), fun k hk => .inl hk⟩⟩
 rw [List.length_set, hFl.set l _ y' hil]
 rw [hFl.len] at h4
 exact h4
theorem MM (hFl : Flat T enc) {i : Int} {x0 y' : α} {ad : Addr} {t' : TypeId} (hF : Fr a n m) (hs : SL w0 F0 w (Sl T v l :: ps)) (he : Lf T.sz v i ad) (hx0 : idx l i = some x0) (hx : ev m x = some (.pointer (some ad))) (hy : ev m y = some u)
  (hu : u.cells = ⟨enc y'⟩) (hi : (P.info? t').map (·.size) = some T.sz)
  (k : ∀ w a, Fr a n m → SL w0 F0 w (Sl T v (l.set i.toNat y') :: ps) → wpList P ops Q l' a w) : wpList P ops Q (⟨none, .store t' x y, ty, pos, aft, none⟩ :: l') a w := by
 obtain ⟨ti, hi, hsz⟩ := Option.map_eq_some_iff.1 hi
 obtain ⟨w', h1, h2⟩ := SL.X9 (P := P) hFl (y' := y') hs he hx0
 refine Lh hF (w' := w') (fun a n hF => ?_) rfl rfl fun a hF => k _ a hF h2
 simp [execOp, hF.eval hx, hF.eval hy, Instr.storeAt, Instr.sureAddr, storeVar, sizeOf, typeInfo, hi, hsz, hu, hFl.len, h1]
def UQ (P : Program) (t e k sz : Nat) : Bool := match P.underlying t, P.info? e with | some (.array k' e'), some i => k' == k && e' == e && i.size == sz | _, _ => false
theorem TP {t e k sz : Nat} (h : UQ P t e k sz = true) : P.underlying t = some (.array k e) ∧ ∃ i, P.info? e = some i ∧ i.size = sz := by
 unfold UQ at h
 split at h
 ·rename_i k' e' i h1 h2
  simp only [Yx, Ap] at h
  obtain ⟨⟨rfl, rfl⟩, rfl⟩ := h
  exact ⟨h1, i, h2, rfl⟩
 ·cases h
end
def Ol {α : Type} (by_ : Nat) (k : Int) (x0 : α) : Option (List α) := if 0 ≤ k ∧ by_ * k ≤ 281474976710656 ∧ k ≤ 9223372036854775807 then some (List.replicate k.toNat x0) else none
def FC {α : Type} (l r : List α) : List α := r.take l.length ++ l.drop r.length
def Q3 {α : Type} (l r : List α) : Int := (min r.length l.length : Nat)
section
variable {P : Program} {w0 w : World} {F0 F : List Nat} {ps rest : List Ck} {m : List (Nat × Value)} {n d : Nat} {ty : TypeId} {pos : String} {aft : Array Edge} {x y : Operand} {ops : Array Oper} {Q : Exit → Act → World → Prop} {a : Act} {l' : List Oper}
variable {α : Type} {T : Ty α} {enc : α → List Value} {v u : Value} {l r : List α}
theorem Ut (hFl : Flat T enc) (h0 : 0 < T.sz) (k : Nat) (x0 : α) : (madeCells ⟨enc x0⟩ (k * T.sz)) = ⟨(List.replicate k x0).flatMap enc⟩ := by
 have hl := GH hFl (List.replicate k x0)
 rw [List.length_replicate] at hl
 apply Array.ext
 ·simp [size_madeCells, hl]
 ·intro j h1 h2
  have h3 : j < k * T.sz := by simpa [size_madeCells] using h1
  have h4 := Yn (l := (List.replicate k x0).flatMap enc) (i := j) (by rw [hl]; exact h3)
  obtain ⟨x, h5, h6⟩ := QY hFl _ h4 h0
  rw [List.getElem?_replicate] at h5
  split at h5
  ·cases h5
   have BU := hFl.len x0
   simp only [madeCells, Array.getElem_map, Array.getElem_range]
   have h7 : (⟨enc x0⟩ : Array Value).size = T.sz := by simpa using BU
   rw [h7]
   have h8 : j % T.sz < (enc x0).length := by rw [BU]; exact Nat.mod_lt _ h0
   have h9 : (⟨enc x0⟩ : Array Value)[j % T.sz]! = (enc x0)[j % T.sz] := by simp [h8]
   rw [h9]
   rw [Yn h8] at h6
   injection h6
  ·cases h5
theorem LY (hFl : Flat T enc) (x0 : α) {s : List α} {t e sz by_ : Nat} {k : Int} {kk k2 : IntKind} {z : Value} (hF : Fr a n m) (hs : SL w0 F0 w ps) (hb : Dy P t e sz by_ (Gb sz) = true) (hsz : T.sz = sz) (h0 : Nat.blt 0 sz = true)
  (hz : (P.info? e).bind (·.zero) = some z) (hz' : z.cells = ⟨enc x0⟩) (hx : ev m x = some (.int kk k)) (hy : ev m y = some (.int k2 k)) (hk : Ol by_ k x0 = some s) (hlt : Nat.blt d n = true)
  (K : ∀ v w a, Fr a n ((d, v) :: m) → SL w0 F0 w (Sl T v s :: ps) → wpList P ops Q l' a w) : wpList P ops Q (⟨some d, .makeSlice t x y, ty, pos, aft, none⟩ :: l') a w := by
 subst hsz
 have h0 : 0 < T.sz := by simpa [Nat.blt_eq] using h0
 obtain ⟨ht, i, zv, hi, h2, h3, h4, _⟩ := FW hb
 obtain ⟨i', hi', hz⟩ := Option.bind_eq_some_iff.1 hz
 rw [hi] at hi'
 cases hi'
 unfold Ol at hk
 split at hk
 ·rename_i hh
  cases hk
  have hr := run_make (P := P) w t e i z ht hi hz kk k2 k k hh.1 (Int.le_refl _) (by rw [h3]; exact hh.2.1) hh.2.2
  rw [hz', h2, Ut hFl h0] at hr
  refine EQ hF (fun a n hF => ?_) rfl rfl hlt fun a hF => K _ _ a hF (SL.Qi (ps := []) (e := e) hs (cells := (List.replicate k.toNat x0).flatMap enc) ?_ (List.length_replicate) (fun F h => by
   obtain rfl := h
   exact hFl.els.2 ⟨rfl, rfl⟩))
  ·simp [execOp, hF.eval hx, hF.eval hy, hr]
  ·have hl := GH hFl (List.replicate k.toNat x0)
   rw [List.length_replicate] at hl
   exact hl
 ·cases hk
theorem Od (hFl : Flat T enc) : ∀ (l : List α) (k : Nat), (l.take k).flatMap enc = (l.flatMap enc).take (k * T.sz)
 | [], k => by simp
 | x :: l, 0 => by simp
 | x :: l, k + 1 => by
  simp only [List.take_succ_cons, List.flatMap_cons, Od hFl l k]
  rw [Nat.succ_mul, ← hFl.len x, Nat.add_comm, List.take_length_add_append]
theorem Oh (hFl : Flat T enc) : ∀ (l : List α) (k : Nat), (l.drop k).flatMap enc = (l.flatMap enc).drop (k * T.sz)
 | [], k => by simp
 | x :: l, 0 => by simp
 | x :: l, k + 1 => by
  simp only [List.drop_succ_cons, List.flatMap_cons, Oh hFl l k]
  rw [Nat.succ_mul, ← hFl.len x, Nat.add_comm, List.drop_length_add_append]
theorem OL (hFl : Flat T enc) (h0 : 0 < T.sz) {t t2 e by_ : Nat} {z : Value → Bool} {ty' : TypeId} {G : List Nat} (hs : SL w0 F0 w (Sl T v l :: ps)) (hb : Dy P t e T.sz by_ z = true) (hr : CG T w G u r) :
  ∃ w', (Builtin.copy_ #[t, t2] ty' #[v, u]).run P w = .ok (.int .i64 (Q3 l r)) w' ∧ SL w0 F0 w' (Sl T v (FC l r) :: ps) := by
 obtain ⟨ht, i, zv, hi, h2, h3, h4, _⟩ := FW hb
 obtain ⟨A, c, rfl, hcells⟩ := CG.cells hFl h0 hr
 obtain ⟨F, hst, hF0, _, hcl⟩ := SL.open_ (ps := [Sl T v l]) hs
 have hrow := hFl.slOwn.1 (Aw.Ij hst)
 have hform := hs.form (List.mem_cons_self)
 obtain ⟨A', c', rfl⟩ := hform
 have hsame : FC l r = l → ∃ w', Result.ok (Value.int .i64 (Q3 l r)) w = .ok (.int .i64 (Q3 l r)) w' ∧ SL w0 F0 w' (Sl T (.slice A' l.length c') (FC l r) :: ps) := fun e => ⟨w, rfl, by rw [e]; exact hs⟩
 by_cases hn : min r.length l.length = 0
 ·have e0 : FC l r = l := by
   unfold FC
   rcases Nat.min_eq_zero_iff.1 hn with h | h
   ·rw [List.eq_nil_of_length_eq_zero h]; simp
   ·rw [List.eq_nil_of_length_eq_zero h]; simp
  refine ⟨w, ?_, by rw [e0]; exact hs⟩
  have hf : (Builtin.firstCells T.sz 0 (.slice A r.length c)).run P w = .ok #[] w := by
   cases A <;> simp [Builtin.firstCells, loadCells, loadCellsFrom]
  have hn' : Nat.min r.length l.length = 0 := hn
  cases A' <;> simp [Builtin.copy_, run_underlying ht, Builtin.lenOf, sizeOf, typeInfo, hi, h2, hn', hf, storeCells, Q3, hn, goInt]
 ·have hrl : 0 < r.length := by omega
  have hll : 0 < l.length := by omega
  obtain ⟨ad, rfl⟩ : ∃ ad, A = some ad := by
   cases A with
   | some ad => exact ⟨ad, rfl⟩
   | none =>
    have h5 := hcells.none_
    have h6 := GH hFl r
    rw [h5] at h6
    have := Nat.mul_pos hrl h0
    simp at h6
    omega
  have hcells := hcells.some_
  obtain ⟨A', rfl⟩ : ∃ ad, A' = some ad := by
   cases A' with
   | some ad => exact ⟨ad, rfl⟩
   | none =>
    rcases hrow.2 with ⟨_, h5, _⟩ | ⟨_, _, _, _, _, _, hv, _⟩
    ·omega
    ·injection hv with hv; cases hv
  have hN : ((r.take (min r.length l.length)).flatMap enc).length = min r.length l.length * T.sz := by
   rw [GH hFl]; congr 1; simp
  have hld := run_loadCells_list (P := P) w ad ((r.take (min r.length l.length)).flatMap enc) (fun j u hu => by
   rw [Od hFl, List.getElem?_take] at hu
   split at hu
   ·exact hcells j u hu
   ·cases hu)
  rw [hN] at hld
  obtain ⟨w', h5, h6, h7⟩ := hrow.write (P := P) (o := 0) (ys := (r.take (min r.length l.length)).flatMap enc) (by rw [hN, Nat.zero_add]; exact Nat.mul_le_mul_right _ (Nat.min_le_right _ _)) (PH hFl _)
  have e0 : A'.add 0 = A' := rfl
  rw [e0] at h5
  refine ⟨w', ?_, hcl w' [Sl T _ (FC l r)] ⟨h7, F, Aw.one (p := Sl T _ (FC l r)) (hFl.slOwn.2 ?_), fun k hk => .inl hk⟩⟩
  ·have hn' : Nat.min r.length l.length = min r.length l.length := rfl
   simp [Builtin.copy_, run_underlying ht, Builtin.lenOf, sizeOf, typeInfo, hi, h2, hn', Builtin.firstCells, hld, h5, Q3, goInt]
  ·have BU : (FC l r).length = l.length := by simp [FC]; omega
   rw [BU]
   simp only [List.take_zero, Yu, Nat.zero_add, hN] at h6
   rw [← Oh hFl, ← List.flatMap_append] at h6
   have e1 : r.take (min r.length l.length) ++ l.drop (min r.length l.length) = FC l r := by
    unfold FC
    by_cases h : r.length ≤ l.length
    ·rw [Nat.min_eq_left h, List.take_of_length_le (Nat.le_refl _), List.take_of_length_le h]
    ·rw [Nat.min_eq_right (by omega), List.drop_eq_nil_of_le (Nat.le_refl _), List.drop_eq_nil_of_le (by omega)]
   rw [e1] at h6
   exact h6
theorem Rr (hFl : Flat T enc) {t t2 e sz by_ : Nat} {z : Value → Bool} {G : List Nat} (hF : Fr a n m) (hs : SL w0 F0 w (Sl T v l :: ps)) (hb : Dy P t e sz by_ z = true) (hsz : T.sz = sz) (h0 : Nat.blt 0 sz = true) (hx : ev m x = some v) (hy : ev m y = some u) (hr : CG T w G u r) (hlt : Nat.blt d n = true)
  (K : ∀ w a, Fr a n ((d, .int .i64 (Q3 l r)) :: m) → SL w0 F0 w (Sl T v (FC l r) :: ps) → wpList P ops Q l' a w) :
  wpList P ops Q (⟨some d, .call { callee := .builtin .copy, args := #[x, y], argTypes := #[t, t2] }, ty, pos, aft, none⟩ :: l') a w := by
 subst hsz
 obtain ⟨w', h1, h2⟩ := OL (P := P) (t2 := t2) (ty' := ty) hFl (by simpa [Nat.blt_eq] using h0) hs hb hr
 refine EQ hF (fun a n hF => ?_) rfl rfl hlt fun a hF => K w' a hF h2
 simp [execOp, resolve, invoke, builtin, hF.eval hx, hF.eval hy, h1]
theorem AM : ∀ u ∈ ([] : List Value), u.oneCell' = true := by simp
theorem Af {u : Value} {l : List Value} (h : u.oneCell' = true) (hl : ∀ u ∈ l, u.oneCell' = true) : ∀ x ∈ u :: l, x.oneCell' = true := by
 intro x hx
 rcases List.mem_cons.1 hx with rfl | hx
 ·exact h
 ·exact hl x hx
theorem KB {α : Type} {A B : Option α} {r : α} (H : A = some r) (h : A = B) : B = some r := by rw [← h]; exact H
theorem Nt {α : Type} {T : Ty α} {w : World} {v : Value} {l : List α} {A : Option Addr} {k c : Nat} (h : ∃ G, CG T w G v l) (hv : v = .slice A k c) (hb : A.isNone = true) : l = [] := by
 obtain ⟨G, A', c', h1, h2, h3⟩ := h
 rw [hv] at h1
 injection h1 with hA _ _
 subst hA
 cases l with
 | nil => rfl
 | cons x l =>
  obtain ⟨ad, _, h4, _⟩ := h3 0 x rfl
  subst h4
  cases hb
theorem JG {dd : Option Tmp} {g : Option (Nat × Bool)} {t e u : TypeId} {v : Value} {A : Option Addr} {k c : Nat} (hx : ev m x = some v) (hv : v = .slice A k c) (hy : ev m y = some (.slice none 0 0)) (hp : P.underlying t = some (.slice e)) : EX P w m ⟨dd, .binOp .eql t x y u, ty, pos, aft, g⟩ (.bool A.isNone) w := by
 subst hv
 exact U9 hx hy hp
theorem Fc.refl {α : Type} {T : Ty α} {v : Value} {l : List α} : Fc T v l v l := fun _ _ h => h
theorem Fc.nil {α : Type} {T : Ty α} {v : Value} {l : List α} : Fc T v l (.slice none 0 0) [] := fun _ _ _ => ⟨none, 0, rfl, Nat.le_refl _, fun i x h => by simp at h⟩
theorem AH {g t t' o : Nat} {cs ds : List Value} (hF : Fr a n m) (hs : SL w0 F0 w (Ae g t cs :: ps)) (hx : ev m x = some (.pointer (some ⟨g, o, none⟩))) (hy : ev m y = some (.agg ⟨ds⟩))
  (hi : (P.info? t').map (·.size) = some ds.length) (h1 : ∀ u ∈ ds, u.oneCell' = true) (hfit : o + ds.length ≤ cs.length)
  (k : ∀ w a, Fr a n m → SL w0 F0 w (Ae g t (cs.take o ++ ds ++ cs.drop (o + ds.length)) :: ps) → wpList P ops Q l' a w) : wpList P ops Q (⟨none, .store t' x y, ty, pos, aft, none⟩ :: l') a w := by
 obtain ⟨ti, hi, hsz⟩ := Option.map_eq_some_iff.1 hi
 obtain ⟨F, hst, hF0, _, hcl⟩ := SL.open_ (ps := [Ae g t cs]) hs
 obtain ⟨rfl, hg⟩ := Aw.Ij hst
 have hst := Fq (P := P) g o t (0, 0) ds 0 cs.toArray w hg (by simp) (by simpa using hfit) h1
 simp only [Nat.add_zero] at hst
 refine Lh hF (w' := w.setRow g (cs.take o ++ ds ++ cs.drop (o + ds.length)).toArray) (fun a n hF => ?_) rfl rfl fun a hF => k _ a hF (hcl _ [Ae g t (cs.take o ++ ds ++ cs.drop (o + ds.length))] ⟨Fm.one rfl rfl rfl (by simp) (fun k hk => setRow_other w g k _ hk), [g], Aw.one ⟨rfl, setRow_heap w g _ _ t _ hg⟩, fun k hk => .inl hk⟩)
 simp [execOp, hF.eval hx, hF.eval hy, Instr.storeAt, Instr.sureAddr, storeVar, sizeOf, typeInfo, hi, hsz, Value.cells, hst]
end
end Go.Pv
namespace Go.Pv
open Go Go.RowKit Go.ChangeShapes Go.WideShapes
abbrev bulk {H : Type} (d : DataW H) : Nat := Go.Proofs.YtpnacdckamiedaaGreat.Rows.uptoBulk d
abbrev DU {H : Type} (l : List (DataW H)) : Nat := Go.Proofs.YtpnacdckamiedaaGreat.Rows.uptoBulkAll l
theorem Qs {H : Type} (d : DataW H) : 1 ≤ bulk d := by
 cases d with
 | lit l => cases l <;> simp [bulk, Go.Proofs.YtpnacdckamiedaaGreat.Rows.uptoBulk]
 | _ => simp [bulk, Go.Proofs.YtpnacdckamiedaaGreat.Rows.uptoBulk]
theorem J4 {H : Type} {d : DataW H} : ∀ {l : List (DataW H)}, d ∈ l → bulk d ≤ DU l
 | x :: r, h => by
  simp only [DU, Go.Proofs.YtpnacdckamiedaaGreat.Rows.uptoBulkAll]
  rcases List.mem_cons.1 h with e | e
  ·subst e; simp [bulk]
  ·have := J4 e; simp only [bulk, DU] at this ⊢; omega
theorem Mw {H : Type} : ∀ l : List (DataW H), l.length ≤ DU l
 | [] => Nat.zero_le _
 | x :: r => by
  have := Mw r
  have := Qs x
  simp only [bulk, DU, Go.Proofs.YtpnacdckamiedaaGreat.Rows.uptoBulkAll, Yv] at *
  omega
theorem RX {H : Type} (e s : List (DataW H)) : DU e + DU s + 1 = bulk (.slice e s) := by simp [bulk, DU, Go.Proofs.YtpnacdckamiedaaGreat.Rows.uptoBulk]
theorem Uu {H : Type} (e : List (DataW H)) : DU e + 1 = bulk (.agg e) := by simp [bulk, DU, Go.Proofs.YtpnacdckamiedaaGreat.Rows.uptoBulk]
theorem TY {H : Type} (l : List UInt8) : bulk (DataW.lit (H := H) (.string l)) = l.length + 1 := by simp [bulk, Go.Proofs.YtpnacdckamiedaaGreat.Rows.uptoBulk]
abbrev Nk (w : World) : List Nat := List.range w.heap.size
structure Cr {α : Type} (P : Program) (T : Ty α) (t : TypeId) (ok : Nat → α → Prop) : Prop where
 sz : P.cellsOf t = T.sz
 rd : ∀ {H : Type} {enc : TypeId × Value → H} {w : World} {n : Nat} {cs : List Value} {x : DataW H × List MemPlace}, DataW.trod enc P w 0 (fun _ => true) true n t cs = some x → ∃ a, T.rd w (Nk w) a cs ∧ ok (bulk x.1) a
 mono : ∀ {B B' : Nat} {a : α}, B ≤ B' → ok B a → ok B' a
def ID (k : IntKind) (B : Nat) (n : Int) : Prop := k.min ≤ n ∧ n ≤ k.max
def HZ {α : Type} (B : Nat) (a : α) : Prop := True
def JH (B : Nat) (s : List UInt8) : Prop := s.length ≤ B
def GZ {α : Type} (ok : Nat → α → Prop) (B : Nat) (l : List α) : Prop := l.length ≤ B ∧ ∀ x ∈ l, ok B x
def DX {α β : Type} (oa : Nat → α → Prop) (ob : Nat → β → Prop) (B : Nat) (x : α × β) : Prop := oa B x.1 ∧ ob B x.2
def okF {α β : Type} (f : β → α) (oa : Nat → α → Prop) (B : Nat) (x : β) : Prop := oa B (f x)
section
variable {P : Program} {α β : Type}
theorem PD {k : IntKind} {n : Int} (h : (Lit.int k n).wf = true) : k.min ≤ n ∧ n ≤ k.max := by simpa [Lit.wf] using h
theorem Cr.int {t : TypeId} {k : IntKind} (hu : P.underlying t = some (.int k)) (hc : P.cellsOf t = 1) : Cr P (Ty.int k) t (ID k) :=
 ⟨hc, fun h => by
  obtain ⟨n, rfl, rfl, hw⟩ := DataW.trod_int hu h
  exact ⟨n, rfl, PD hw⟩, fun _ h => h⟩
theorem X6 {n : Int} (h : IntKind.u8.min ≤ n ∧ n ≤ IntKind.u8.max) : n = ((UInt8.ofNat n.toNat).toNat : Int) := by
 have h1 : (IntKind.u8.min : Int) = 0 := rfl
 have h2 : (IntKind.u8.max : Int) = 255 := rfl
 rw [h1, h2] at h
 have : (UInt8.ofNat n.toNat).toNat = n.toNat := by
  rw [UInt8.toNat_ofNat']
  omega
 omega
theorem Cr.u8 {t : TypeId} (hu : P.underlying t = some (.int .u8)) (hc : P.cellsOf t = 1) : Cr P Ty.u8 t HZ :=
 ⟨hc, fun h => by
  obtain ⟨n, rfl, rfl, hw⟩ := DataW.trod_int hu h
  refine ⟨UInt8.ofNat n.toNat, ?_, trivial⟩
  show [Value.int .u8 n] = [Value.int .u8 ((UInt8.ofNat n.toNat).toNat : Int)]
  rw [← X6 (PD hw)], fun _ h => h⟩
theorem Cr.bool {t : TypeId} (hu : P.underlying t = some .bool) (hc : P.cellsOf t = 1) : Cr P Ty.bool t HZ :=
 ⟨hc, fun h => by
  obtain ⟨b, rfl, rfl⟩ := DataW.trod_bool hu h
  exact ⟨b, rfl, trivial⟩, fun _ h => h⟩
theorem Cr.str {t : TypeId} (hu : P.underlying t = some .string) (hc : P.cellsOf t = 1) : Cr P Ty.str t JH :=
 ⟨hc, fun h => by
  obtain ⟨s, rfl, rfl, hs⟩ := DataW.trod_string hu h
  refine ⟨s.data.toList, ?_, ?_⟩
  ·show [Value.string s] = [Value.string ⟨⟨s.data.toList⟩⟩]
   rfl
  ·unfold JH
   rw [TY]
   omega, fun h1 h2 => Nat.le_trans h2 h1⟩
theorem Rf {p : Nat → α → Prop} : ∀ {n : Nat}, (∀ i, i < n → ∃ a, p i a) → ∃ l : List α, l.length = n ∧ ∀ i x, l[i]? = some x → p i x
 | 0, _ => ⟨[], rfl, fun i x h => by simp at h⟩
 | n + 1, h => by
  obtain ⟨l, h1, h2⟩ := Rf (n := n) (fun i hi => h i (Nat.lt_succ_of_lt hi))
  obtain ⟨a, ha⟩ := h n (Nat.lt_succ_self n)
  refine ⟨l ++ [a], by simp [h1], fun i x hx => ?_⟩
  by_cases hi : i < n
  ·rw [List.getElem?_append_left (by omega)] at hx
   exact h2 i x hx
  ·rw [List.getElem?_append_right (by omega)] at hx
   have : i - l.length = 0 := by
    have := (List.getElem?_eq_some_iff.1 hx).1
    simp at this
    omega
   rw [this] at hx
   simp at hx
   subst hx
   rw [show i = n by omega]
   exact ha
theorem U3 {w : World} {a : Addr} {n : Nat} {cs : List Value} (h : w.cells? 0 a n = some cs) : Cells w a cs := by
 obtain ⟨_, h1, h2⟩ := World.cells?_some h
 intro j u hu
 have hj := (List.getElem?_eq_some_iff.1 hu).1
 have := h2 j (by omega)
 rw [hu] at this
 exact this
theorem Cr.slice {T : Ty α} {t e : TypeId} {ok : Nat → α → Prop} (O : Cr P T e ok) (hu : P.underlying t = some (.slice e)) (hc : P.cellsOf t = 1) (h0 : Nat.blt 0 T.sz = true) : Cr P (Ty.slice T) t (GZ ok) :=
 ⟨hc, fun {H enc w n cs x} h => by
  have h0 : 0 < T.sz := by simpa [Nat.blt_eq] using h0
  rcases Go.Deep.open_slice hu h with ⟨rfl, rfl⟩ | ⟨a, len, cap, m, n', D, Pl, rfl, _, hl, _, hm, rfl, hi⟩
  ·exact ⟨[], ⟨_, rfl, none, 0, rfl, Nat.le_refl _, fun i x h => by simp at h⟩, Nat.zero_le _, fun x h => by cases h⟩
  ·simp only [if_true] at hm
   subst hm
   have hel : ∀ i, i < len → ∃ y : α, ∃ cs', Cells w (a.add (i * T.sz)) cs' ∧ T.rd w (Nk w) y cs' ∧ ok (bulk (D i)) y := fun i hlt => by
    obtain ⟨cs', h1, h2⟩ := hi i (by omega)
    rw [O.sz] at h1
    obtain ⟨y, h3, h4⟩ := O.rd h2
    exact ⟨y, cs', U3 h1, h3, h4⟩
   obtain ⟨l, BU, hl2⟩ := Rf hel
   have hb : DU ((List.range len).map D) + 1 ≤ bulk (DataW.slice (H := H) ((List.range len).map D) ((List.range (m - len)).map fun j => D (len + j))) := by
    rw [← RX]; omega
   refine ⟨l, ⟨_, rfl, some a, m, by rw [BU], by omega, fun i y hy => ?_⟩, ?_, fun y hy => ?_⟩
   ·obtain ⟨cs', h3, h4, _⟩ := hl2 i y hy
    have hlen' := T.Ev h4
    have hcell := h3 0 _ (Yn (by omega))
    refine ⟨a, cs', rfl, ?_, h3, h4⟩
    have := Vk hcell
    rw [block_add, block_add] at this
    exact List.mem_range.2 this
   ·have := Mw ((List.range len).map D)
    simp only [List.length_map, List.length_range] at this
    simp only [BU]
    omega
   ·obtain ⟨i, hy⟩ := List.getElem?_of_mem hy
    have hlt := (List.getElem?_eq_some_iff.1 hy).1
    obtain ⟨_, _, _, h5⟩ := hl2 i y hy
    have h6 := J4 (H := H) (d := D i) (l := (List.range len).map D) (List.mem_map.2 ⟨i, List.mem_range.2 (by omega), rfl⟩)
    exact O.mono (by dsimp only; omega) h5, fun hB ⟨h1, h2⟩ => ⟨Nat.le_trans h1 hB, fun x hx => O.mono hB (h2 x hx)⟩⟩
def W9 {H : Type} (enc : TypeId × Value → H) (P : Program) (w : World) (n : Nat) : List TypeId → List Value → List (DataW H × List MemPlace) → Prop
 | [], cs, xs => cs = [] ∧ xs = []
 | t :: ts, cs, xs => ∃ y ys, xs = y :: ys ∧ DataW.trod enc P w 0 (fun _ => true) true n t (cs.take (P.cellsOf t)) = some y ∧ W9 enc P w n ts (cs.drop (P.cellsOf t)) ys
def Q6 (P : Program) : Nat → List Field → Nat → Bool
 | o, [], k => o == k
 | o, f :: fs, k => f.offset == o && Q6 P (o + P.cellsOf f.type) fs k
theorem SY {H : Type} {enc : TypeId × Value → H} {w : World} {n : Nat} {cs : List Value} : ∀ {fs : List Field} {o : Nat} {xs : List (DataW H × List MemPlace)}, Q6 P o fs cs.length = true → xs.length = fs.length →
  (∀ (i : Nat) (f : Field), fs[i]? = some f → DataW.trod enc P w 0 (fun _ => true) true n f.type ((cs.drop f.offset).take (P.cellsOf f.type)) = xs[i]?) → W9 enc P w n (fs.map (·.type)) (cs.drop o) xs
 | [], o, xs, h, hl, _ => by
  simp only [Q6, Ap] at h
  refine ⟨by rw [h]; simp, List.eq_nil_of_length_eq_zero hl⟩
 | f :: fs, o, xs, h, hl, hx => by
  simp only [Q6, Yx, Ap] at h
  obtain ⟨h1, h2⟩ := h
  cases xs with
  | nil => simp at hl
  | cons y ys =>
   have h3 := hx 0 f rfl
   rw [h1] at h3
   refine ⟨y, ys, rfl, h3, ?_⟩
   rw [List.drop_drop]
   exact SY h2 (by simpa using hl) (fun i f' hf' => by
    have := hx (i + 1) f' (by simpa using hf')
    simpa using this)
structure Em (P : Program) (T : Ty α) (ts : List TypeId) (ok : Nat → α → Prop) : Prop where
 sz : (ts.map P.cellsOf).sum = T.sz
 rd : ∀ {H : Type} {enc : TypeId × Value → H} {w : World} {n : Nat} {cs : List Value} {xs : List (DataW H × List MemPlace)}, W9 enc P w n ts cs xs → ∃ a, T.rd w (Nk w) a cs ∧ ok (DU (xs.map (·.1))) a
 mono : ∀ {B B' : Nat} {a : α}, B ≤ B' → ok B a → ok B' a
theorem Em.one {T : Ty α} {t : TypeId} {ok : Nat → α → Prop} (O : Cr P T t ok) : Em P T [t] ok :=
 ⟨by simp [O.sz], fun {H enc w n cs xs} h => by
  obtain ⟨y, ys, rfl, h1, h2, rfl⟩ := h
  obtain ⟨a, h3, h4⟩ := O.rd h1
  have h5 : cs.take (P.cellsOf t) = cs := by
   have := List.take_append_drop (P.cellsOf t) cs
   rw [h2, Yt] at this
   exact this
  rw [h5] at h3
  refine ⟨a, h3, O.mono ?_ h4⟩
  exact J4 (by simp), O.mono⟩
theorem Em.cons {A : Ty α} {B : Ty β} {t : TypeId} {ts : List TypeId} {oa : Nat → α → Prop} {ob : Nat → β → Prop} (O : Cr P A t oa) (O' : Em P B ts ob) : Em P (A.pair B) (t :: ts) (DX oa ob) :=
 ⟨by simp [O.sz, O'.sz, Ty.pair], fun {H enc w n cs xs} h => by
  obtain ⟨y, ys, rfl, h1, h2⟩ := h
  obtain ⟨a, h3, h4⟩ := O.rd h1
  obtain ⟨b, h5, h6⟩ := O'.rd h2
  refine ⟨(a, b), ⟨_, _, (List.take_append_drop (P.cellsOf t) cs).symm, h3, h5⟩, O.mono (J4 (by simp)) h4, O'.mono ?_ h6⟩
  simp only [List.map_cons, DU, Go.Proofs.YtpnacdckamiedaaGreat.Rows.uptoBulkAll]
  omega, fun hB h => ⟨O.mono hB h.1, O'.mono hB h.2⟩⟩
def MW (P : Program) (t : TypeId) (ts : List TypeId) : Bool := match P.underlying t with
 | some (.struct fs) => fs.toList.map (·.type) == ts && Q6 P 0 fs.toList (P.cellsOf t)
 | _ => false
theorem TZ {t : TypeId} {ts : List TypeId} (h : MW P t ts = true) : ∃ fs, P.underlying t = some (.struct fs) ∧ fs.toList.map (·.type) = ts ∧ Q6 P 0 fs.toList (P.cellsOf t) = true := by
 unfold MW at h
 split at h
 ·rename_i fs h1
  simp only [Yx, Ap] at h
  exact ⟨fs, h1, h⟩
 ·cases h
theorem Cr.struct {A : Ty α} {t : TypeId} {ts : List TypeId} {oa : Nat → α → Prop} (O : Em P A ts oa) (hb : MW P t ts = true) (hc : P.cellsOf t = A.sz) (f : β → α) (g : α → β) (hfg : ∀ y, f (g y) = y) : Cr P (A.iso f) t (okF f oa) :=
 ⟨hc, fun {H enc w n cs x} h => by
  obtain ⟨fs, hu, h1, h2⟩ := TZ hb
  obtain ⟨xs, n', rfl, rfl, hl, hn, hx⟩ := DataW.trod_struct hu h
  have h3 := SY (fs := fs.toList) (o := 0) (xs := xs) (by rw [hl]; exact h2) (by simpa using hn) (fun i f hf => hx i f (by simpa using hf))
  rw [h1] at h3
  obtain ⟨a, h4, h5⟩ := O.rd h3
  refine ⟨g a, ?_, ?_⟩
  ·show A.rd w _ (f (g a)) cs
   rw [hfg]
   exact h4
  ·show oa _ (f (g a))
   rw [hfg]
   refine O.mono ?_ h5
   rw [← Uu]
   omega, fun hB h => O.mono hB h⟩
section
variable {H : Type} {enc : TypeId × Value → H} {w : World} {base : Nat} {t : TypeId} {v : Value} {d : DataW H} {p : List MemPlace}
theorem VG {k : IntKind} (hu : P.underlying t = some (.int k)) (hv : Value.okWide P w .any base t v) (hd : DataW.Trod enc P w 0 (fun _ => true) true t v d p) : ∃ n, v = .int k n ∧ k.min ≤ n ∧ n ≤ k.max := by
 obtain ⟨n, rfl, _, _, hw⟩ := open_int hu hv hd
 exact ⟨n, rfl, PD hw⟩
theorem P2 {k : IntKind} {ts : Array TypeId} {vs : Array Value} (hval : ∀ (j : Nat) t v, ts[j]? = some t → vs[j]? = some v → Value.okWide P w .any base t v) (j : Nat) (ht : ts[j]? = some t) (hv : vs[j]? = some v) (hu : P.underlying t = some (.int k)) (hd : DataW.Trod enc P w 0 (fun _ => true) true t v d p) : ∃ n, v = .int k n ∧ k.min ≤ n ∧ n ≤ k.max :=
 VG hu (hval j t v ht hv) hd
theorem Su {T : Ty α} {fs : Array Field} {ok : Nat → α → Prop} (O : Cr P T t ok) (hu : P.underlying t = some (.struct fs)) (hv : Value.okWide P w .any base t v) (hd : DataW.Trod enc P w 0 (fun _ => true) true t v d p) :
  ∃ x cs, v = .agg ⟨cs⟩ ∧ T.rd w (Nk w) x cs ∧ (∀ k ∈ Nk w, k < w.heap.size ∧ k ∉ ([] : List Nat)) ∧ ok (bulk d) x := by
 obtain ⟨cs, rfl, _⟩ := okWide_struct hu hv
 obtain ⟨fuel, hf⟩ := hd
 obtain ⟨x, h1, h2⟩ := O.rd hf
 exact ⟨x, cs.toList, rfl, h1, fun k hk => ⟨List.mem_range.1 hk, by simp⟩, h2⟩
end
theorem S0 {W W' : World} (hf : Fm W [] W') {p : MemPlace} (hp : p.block < W.heap.size) : W.sameAt W' p := by
 have h := hf.block p.block hp (by simp)
 cases p with
 | cell b o => exact Nj (a := ⟨b, o, none⟩) h
 | map b => exact h
theorem Kj {H : Type} {enc : TypeId × Value → H} {W W' : World} {sp : Nat → Bool} : ∀ {ts : List TypeId} {vs : List Value} {ds : List (DataW H)} {ps : List MemPlace}, DataW.TrodAll enc P W 0 sp true ts vs ds ps → (∀ p ∈ ps, W.sameAt W' p) → DataW.TrodAll enc P W' 0 sp true ts vs ds ps
 | [], vs, ds, ps, h, _ => by
  obtain ⟨rfl, rfl, rfl⟩ := trodAll_nil h
  exact rfl
 | t :: ts, vs, ds, ps, h, hs => by
  obtain ⟨v, vs', d, ds', p, q, rfl, rfl, rfl, ⟨n, h1⟩, h2⟩ := trodAll_cons h
  exact ⟨p, q, ⟨n, DataW.trod_carry n _ _ _ h1 (fun p hp => hs p (by simp [hp]))⟩, Kj h2 (fun p hp => hs p (by simp [hp])), rfl⟩
theorem SQ {H : Type} {enc : TypeId × Value → H} {f : Func} {s : ChangeSpec} {apart fresh handsOn again : Bool} {W W' : World} {args : Array Value} {ds gs : List (DataW H)} {before : List MemPlace} {tb : TypeId}
  (K : Kids P (· < P.types.size)) (hz : ∀ t e, t < P.types.size → P.underlying t = some (.slice e) → 0 < P.cellsOf e) (hpar : ∀ t ∈ f.params.toList, t < P.types.size) (hvars : s.vars = []) (hres : f.resultTypes = #[tb]) (hb : P.underlying tb = some .bool)
  (hW : DataW.Whole enc P f.params.toList s.vars apart W args.toList ds gs before) (hfn : s.fn H (ds ++ gs) = { results := [.lit (.bool true)], args := ds }) (hfm : Fm W [] W') : s.post enc P f apart fresh handsOn again W args (.bool true) W' := by
 have hlt := hW.lt
 have hW0 := hW
 obtain ⟨p, q, hA, hV, rfl, hfz, hnd⟩ := hW
 rw [hvars] at hV
 obtain ⟨rfl, rfl⟩ := trodVars_none hV
 have hsame : ∀ x ∈ p, W.sameAt W' x := fun x hx => S0 hfm (hlt x (by simp [hx]))
 have hA' := Kj hA hsame
 have hargs : ∀ sp : Nat → Bool, (∀ x ∈ p, sp x.block = true) → DataW.TrodAll enc P W' 0 sp true f.params.toList args.toList ds p := fun sp hsp => DataW.TrodAll.respare K hz hpar hA' hsp
 have hr : ∀ (b : Nat) (sp : Nat → Bool) (hd : Bool), DataW.TrodAll enc P W' b sp hd f.resultTypes.toList ((Value.bool true).resultList f.resultTypes.size) [.lit (.bool true)] [] := fun b sp hd => by
  rw [hres]
  exact trodAll_cons_mk (shut_bool hb true) trodAll_mk0
 have hold : ∀ x ∈ p, (fun b => decide (b < W.heap.size)) x.block = true := fun x hx => by simpa using hlt x (by simp [hx])
 have hk : ∀ may, W.keptBut W' may := fun may => ⟨hfm.os, hfm.output, fun i hi => by rw [hfm.block i hi (by simp)]; exact (World.keptBut_refl W may).2.2 i hi⟩
 have e1 : (s.fn H (ds ++ [])).results = [.lit (.bool true)] := by rw [hfn]
 have e2 : (s.fn H (ds ++ [])).args = ds := by rw [hfn]
 have e3 : (s.fn H (ds ++ [])).vars = [] := by rw [hfn]
 refine ⟨ds, [], p ++ [], [], p, [], hW0, by rw [e1]; exact hr _ _ _, by rw [e2]; exact hargs _ hold, by rw [hvars, e3]; rfl,
  hk _, fun _ => ⟨ok_one hres rfl (okWide_bool_mk hb true), _, [], ([] ++ p) ++ [], ⟨[] ++ p, [], trodAll_append (hargs _ (fun _ _ => rfl)) (hr _ _ _), by rw [hvars]; rfl, rfl, ?_, ?_⟩, ?_⟩⟩
 ·intro b off hp
  have hp' : MemPlace.cell b off ∈ p ++ [] := by simpa using hp
  have hb' : b < W.heap.size := hlt _ hp'
  have := hfz b off hp'
  simp only [World.frozen?] at this ⊢
  rw [hfm.block b hb' (by simp)]
  exact this
 ·intro ha
  have := hnd ha
  simpa using this
 ·intro x hx _
  simpa using hx
end
end Go.Pv
namespace Go.Pv
open Go Go.RowKit
theorem CN {S R : Type} {body : S → Option (S ⊕ R)} {s s' : S} (h : body s = some (.inl s')) : Ay body s = Ay body s' := by rw [Px, h]
theorem AY {S R : Type} {body : S → Option (S ⊕ R)} {s : S} {r : R} (h : body s = some (.inr r)) : Ay body s = some r := by rw [Px, h]
theorem CB {n : Int} (h0 : -9223372036854775808 ≤ n) (h1 : n ≤ 9223372036854775807) : wr n = n := by
 unfold wr
 rw [IntKind.wrap_i64]; omega
end Go.Pv
namespace Go.Proofs.YtpnacdckamiedaaGreat
open Go Go.RowKit Go.Pv
theorem LN {S R : Type} (n : Nat) {body : S → Option (S ⊕ R)} (st : Nat → S) {r : R} (hs : ∀ i, i < n → body (st i) = some (.inl (st (i + 1)))) (he : body (st n) = some (.inr r)) {s0 : S} (h0 : s0 = st 0) : Ay body s0 = some r := by
 subst h0
 have key : ∀ k i, i + k = n → Ay body (st i) = some r := by
  intro k
  induction k with
  | zero => intro i hi; have : i = n := by omega
            subst this; exact AY he
  | succ k ih => intro i hi; rw [CN (hs i (by omega))]; exact ih (i + 1) (by omega)
 exact key n 0 (by omega)
theorem Cg {α : Type} {lim : Nat} {l m : List α} (h : l.length + m.length ≤ lim) : app lim l m = some (l ++ m) := by unfold app; rw [Ab h]
theorem Km {α : Type} {l : List α} {lo hi : Int} (h : 0 ≤ lo ∧ lo ≤ hi ∧ hi ≤ l.length) : FQ l lo hi = some ((l.take hi.toNat).drop lo.toNat) := by unfold FQ; rw [Ab h]
theorem Vf {α : Type} {l : List α} {i : Nat} : idx l (i : Int) = l[i]? := by unfold idx; rw [Ab (by omega)]; simp
theorem AV {α : Type} {l : List α} {i : Nat} (h : i < l.length) : idx l (i : Int) = some l[i] := by rw [Vf, Yn h]
theorem FA {α : Type} {l : List α} {i : Int} (h0 : 0 ≤ i) (h : i < l.length) : ∃ x, idx l i = some x ∧ l[i.toNat]? = some x := by
 refine ⟨l[i.toNat]'(by omega), ?_, Yn _⟩
 unfold idx
 rw [Ab h0]
 exact Yn _
theorem Ef {i : Nat} (h : i < 4611686018427387904) : wr ((i : Int) + 1) = ((i + 1 : Nat) : Int) := by rw [CB] <;> omega
theorem IK {α β : Type} (f : α → β) (l : List α) (i : Nat) (h : i < l.length) : (l.take (i + 1)).map f = (l.take i).map f ++ [f l[i]] := by
 rw [List.take_add_one, Yn h, List.map_append]; rfl
theorem EB {α β : Type} (l : List α) (f : α → β) {body : List β × Int → Option ((List β × Int) ⊕ List β)} (hs : ∀ i (h : i < l.length) acc, acc.length = i → body (acc, (i : Int)) = some (.inl (acc ++ [f l[i]], ((i + 1 : Nat) : Int)))) (he : ∀ acc, body (acc, (l.length : Int)) = some (.inr acc)) :
  Ay body ([], 0) = some (l.map f) := by
 have := LN l.length (body := body) (fun i => ((l.take i).map f, (i : Int))) (r := l.map f) (fun i hi => by
  rw [hs i hi _ (by simp; omega), IK f l i hi]) (by simp only [List.take_length]; exact he _) (s0 := ([], 0)) (by simp)
 exact this
theorem SJ {α R : Type} (l : List α) {body : Int → Option (Int ⊕ R)} {r : R} (hs : ∀ i (h : i < l.length), body (i : Int) = some (.inl ((i + 1 : Nat) : Int))) (he : body (l.length : Int) = some (.inr r)) : Ay body 0 = some r :=
 LN l.length (body := body) (fun i => (i : Int)) hs he rfl
theorem or_some (b c : Bool) : (if b = true then some b else some c) = some (b || c) := by cases b <;> simp
theorem OQ (b c : Bool) : (if b = true then some true else some c) = some (b || c) := by cases b <;> simp
abbrev Dl : Nat := 1048576
end Go.Proofs.YtpnacdckamiedaaGreat
namespace Go.Pv
open Go Go.RowKit
section
variable {P : Program} {ops : Array Oper} {S : World → Prop} {Q : Exit → Act → World → Prop} {n d : Nat} {m : List (Nat × Value)} {a : Act} {w : World}
def KQ (K : Act → World → Prop) : Exit → Act → World → Prop
 | .normal, a, w => K a w
 | _, _, _ => False
theorem Wi {o : Oper} {K next : Act → World → Prop} {r : Result Next} (h : o.upon P a next (KQ K) r) : o.upon P a next Q r := by
 cases r with
 | ok x w' =>
  cases x <;> simp only [Oper.upon] at h ⊢ <;>
   first
    | exact h
    | exact Calls.mono h (fun e w'' he => by
      cases e with
      | returned v => exact he
      | panicked c => exact (he : False).elim
      | outgrown => obtain ⟨_, _, he⟩ := he; exact (he : False).elim)
 | halt x w' => cases x <;> simp only [Oper.upon] at h ⊢ <;> first | exact h | exact (h : False).elim
theorem Ge {i : Nat} {o : Oper} {K : Act → World → Prop} (hi : ops[i]? = some o) (h : wpList P ops (KQ K) [o] a w) : wpOp P ops Q i K a w := by
 unfold wpList at h
 unfold wpOp
 simp only [hi]
 split
 ·rename_i hw
  rw [Ab hw] at h
  rcases h with h | ⟨_, _, _, h⟩
  ·exact .inl (Wi h)
  ·exact (h : False).elim
 ·rename_i hw
  rw [Ac hw] at h
  exact h
theorem Vu {i : Nat} {oi : Oper} {v : Value} {fuel : Nat} {listed : Array Bool} (hi : ops[i]? = some oi) (hs : Region.noSelect ops = true) (hf : Region.free .any ops listed i = true) (hr : (Region.ready .any ops listed).contains i = true)
  (he : ∀ w, S w → EX P w m oi v w) (hg : oi.guard = none) (hd : oi.dst = some d) (hlt : Nat.blt d n = true) (hF : Fr a n m) (hS : S w)
  (k : ∀ a, Fr a n ((d, v) :: m) → wpAnyH P .any ops (NoPanic Q) S fuel (listed.setIfInBounds i true) a w) : wpAnyH P .any ops (NoPanic Q) S (fuel + 1) listed a w :=
 wpAnyH_take hi hs hf hr (fun _ _ _ h => (h : False).elim) (.inl ⟨by simp [Region.wanted, hg], fun w hw => he w hw a n hF⟩) hS (by rw [hd]; exact k _ (hF.put d v hlt))
theorem Vn {rs : List Nat} {fuel : Nat} {listed : Array Bool} (hr : Region.ready .any ops listed = rs) (hne : rs ≠ [])
  (h : ∀ i ∈ rs, wpOp P ops (NoPanic Q) i (fun a' w' => S w' ∧ wpAnyH P .any ops (NoPanic Q) S fuel (listed.setIfInBounds i true) a' w') a w) : wpAnyH P .any ops (NoPanic Q) S (fuel + 1) listed a w := wpAnyH_all hr hne h
theorem PS {C : Nat → Prop} : ∀ i ∈ ([] : List Nat), C i := by simp
theorem Ir {C : Nat → Prop} {i : Nat} {l : List Nat} (h : C i) (t : ∀ j ∈ l, C j) : ∀ j ∈ i :: l, C j := by
 intro j hj
 rcases List.mem_cons.1 hj with rfl | hj
 ·exact h
 ·exact t j hj
theorem Va {fuel : Nat} {listed : Array Bool} (hr : Region.ready .any ops listed = []) (h : Q .normal a w) : wpAnyH P .any ops (NoPanic Q) S fuel listed a w := wpAnyH_done hr (NoPanic.normal h) fuel
theorem Vx {id : Nat} {l : List Oper} (hm : P.follows .mixedOrders = true) (S : World → Prop) (h : wpAnyH P .any l.toArray (NoPanic Q) S l.length (Array.replicate l.length false) a w.drew) : (Code.region id l.toArray true).wp P Q a w :=
 wp_region_noPanic (wp_region_held (S := S) hm (by simpa using h))
theorem A8 {K : Act → World → Prop} (h : K a w) : wpList P ops (KQ K) [] a w := h
end
section
variable {P : Program} {w : World} {m : List (Nat × Value)} {dd : Option Tmp} {ty : TypeId} {pos : String} {aft : Array Edge} {g : Option (Nat × Bool)} {x y : Operand}
theorem Sm {t e : TypeId} (hp : P.underlying t = some (.pointer e)) : (Op.equal t (.pointer none) (.pointer none)).run P w = .ok true w :=
 G6 fun d => by simp [Op.equalIn, run_underlying hp]
theorem Jf {t e u : TypeId} (hx : ev m x = some (.pointer none)) (hy : ev m y = some (.pointer none)) (hp : P.underlying t = some (.pointer e)) : EX P w m ⟨dd, .binOp .eql t x y u, ty, pos, aft, g⟩ (.bool true) w :=
 Df hx hy (fun _ => Value.noConfusion) Value.noConfusion (by simp [binOp, Sm hp])
end
section
variable {P : Program} {w0 w : World} {F0 : List Nat} {ps : List Ck} {m : List (Nat × Value)} {n d : Nat} {ty : TypeId} {pos : String} {aft : Array Edge} {x y : Operand} {ops : Array Oper} {Q : Exit → Act → World → Prop} {a : Act} {l' : List Oper}
theorem Ql {c : Code} {k : Nat} (h : c.wp P (Exit.then (Code.rounds P c Q k) Q) a w) : Code.rounds P c Q (k + 1) a w := h
end
end Go.Pv
namespace Go.Pv
open Go Go.RowKit
section
variable {w0 w w' : World} {F0 : List Nat} {p q : Ck} {ps qs rest : List Ck}
def Jp {α : Type} : Nat → List α → List α
 | _, [] => []
 | 0, l => l
 | n + 1, a :: r => match Jp n r with
  | [] => [a]
  | b :: s => b :: a :: s
theorem N4 : ∀ (n : Nat) (ps : List Ck) (F : List Nat), Aw ps w F → ∃ F', Aw (Jp n ps) w F' ∧ ∀ k, k ∈ F' ↔ k ∈ F
 | _, [], F, h => ⟨F, by unfold Jp; exact h, fun _ => Iff.rfl⟩
 | 0, p :: ps, F, h => ⟨F, by unfold Jp; exact h, fun _ => Iff.rfl⟩
 | n + 1, p :: ps, F, h => by
  have h1 := Aw.I0 (qs := Jp n ps) (fun F hs => N4 n ps F hs) h
  unfold Jp
  split
  ·rename_i e
   rw [e] at h1
   exact h1
  ·rename_i b s e
   rw [e] at h1
   obtain ⟨F1, h2, h3⟩ := h1
   obtain ⟨F2, h4, h5⟩ := Aw.swap h2
   exact ⟨F2, h4, fun k => (h5 k).trans (h3 k)⟩
theorem SL.fr (h : SL w0 F0 w ps) (n : Nat) (e : Jp n ps = qs) : SL w0 F0 w qs := e ▸ h.re fun F hs => N4 n ps F hs
end
section
variable {κ ν : Type} [DecidableEq κ]
def Gq : List (κ × ν) → κ → Option ν
 | [], _ => none
 | p :: r, k => if k = p.1 then some p.2 else Gq r k
def FK : List (κ × ν) → κ → ν → List (κ × ν)
 | [], k, v => [(k, v)]
 | p :: r, k, v => if k = p.1 then (k, v) :: r else p :: FK r k v
def LC : List (κ × ν) → κ → List (κ × ν)
 | [], _ => []
 | p :: r, k => if k = p.1 then r else p :: LC r k
end
structure Key {κ : Type} [DecidableEq κ] (P : Program) (t : TypeId) (ek : κ → Value) : Prop where
 desc : ∃ d, P.underlying t = some d ∧ ∀ a b, Instr.sameNow d (ek a) (ek b) = some (decide (a = b))
 chk : ∀ e a w, (Instr.checkKey e 10000 t (ek a)).run P w = .ok () w
 stay : ∀ a, Instr.sameBits 10000 (ek a) (ek a) = true
theorem Key.int {P : Program} {t : TypeId} {k : IntKind} (h : P.underlying t = some (.int k)) : Key P t (Value.int k) where
 desc := ⟨_, h, fun a b => by
  simp only [Instr.sameNow, Ab rfl]
  congr 1⟩
 chk e a w := (by
  have h1 : ∀ n, (Instr.checkKey e (n + 1) t (.int k a)).run P w = .ok () w := fun n => by simp [Instr.checkKey, run_underlying h]
  exact h1 9999)
 stay a := (by
  have h1 : ∀ n, Instr.sameBits n (.int k a) (.int k a) = true := fun n => by cases n <;> simp [Instr.sameBits]
  exact h1 10000)
def M3 (s : List UInt8) : Value := .string ⟨⟨s⟩⟩
theorem Key.str {P : Program} {t : TypeId} (h : P.underlying t = some .string) : Key P t M3 where
 desc := ⟨_, h, fun a b => by
  simp only [Instr.sameNow, M3]
  congr 1
  rw [beq_toListBytes, JB, JB, Bool.eq_iff_iff, Ap, decide_eq_true_iff]⟩
 chk e a w := (by
  have h1 : ∀ n, (Instr.checkKey e (n + 1) t (M3 a)).run P w = .ok () w := fun n => by simp [Instr.checkKey, run_underlying h, M3]
  exact h1 9999)
 stay a := (by
  have h0 : ((⟨⟨a⟩⟩ : ByteArray) == ⟨⟨a⟩⟩) = true := by rw [beq_toListBytes, JB]; simp
  have h1 : ∀ n, Instr.sameBits n (M3 a) (M3 a) = true := fun n => by cases n <;> simpa [Instr.sameBits, M3] using h0
  exact h1 10000)
section
variable {κ ν : Type} [DecidableEq κ] {ek : κ → Value} {ev_ : ν → Value} {d : TypeDesc}
theorem find_eq (hd : ∀ a b, Instr.sameNow d (ek a) (ek b) = some (decide (a = b))) (k : κ) : ∀ (es : List MapEntry) (l : List (κ × ν)) (i : Nat), es.map (fun e => (e.key, e.val)) = l.map (fun p => (ek p.1, ev_ p.2)) →
  (Instr.findNow d (ek k) es i = some none ∧ Gq l k = none ∧ (∀ v, FK l k v = l ++ [(k, v)]) ∧ LC l k = l) ∨
  ∃ j u, Instr.findNow d (ek k) es i = some (some (i + j, ev_ u)) ∧ Gq l k = some u ∧ l[j]? = some (k, u) ∧ (∀ v, FK l k v = l.set j (k, v)) ∧ LC l k = l.eraseIdx j
 | [], [], i, _ => .inl ⟨rfl, rfl, fun _ => rfl, rfl⟩
 | [], _ :: _, i, h => by simp at h
 | _ :: _, [], i, h => by simp at h
 | e :: es, p :: l, i, h => by
  simp only [List.map_cons, List.cons.injEq, Prod.mk.injEq] at h
  obtain ⟨⟨h1, h2⟩, h3⟩ := h
  by_cases hk : k = p.1
  ·refine .inr ⟨0, p.2, ?_, ?_, ?_, ?_, ?_⟩
   ·simp only [Instr.findNow, h1, hd, hk, decide_true, h2, Nat.add_zero]
   ·simp [Gq, hk]
   ·simp [hk]
   ·intro v; simp [FK, hk]
   ·simp [LC, hk]
  ·have hf : Instr.findNow d (ek k) (e :: es) i = Instr.findNow d (ek k) es (i + 1) := by
    simp only [Instr.findNow, h1, hd, hk, decide_false]
   rcases find_eq hd k es l (i + 1) h3 with ⟨g1, g2, g3, g4⟩ | ⟨j, u, g1, g2, g3, g4, g5⟩
   ·exact .inl ⟨by rw [hf, g1], by simp [Gq, hk, g2], fun v => by simp [FK, hk, g3], by simp [LC, hk, g4]⟩
   ·exact .inr ⟨j + 1, u, by rw [hf, g1, Nat.add_right_comm]; rfl, by simp [Gq, hk, g2], by simpa using g3, fun v => by simp [FK, hk, g4], by simp [LC, hk, g5]⟩
end
structure MapAt {κ ν : Type} (ek : κ → Value) (ev_ : ν → Value) (w : World) (r : Nat) (l : List (κ × ν)) (es : Array MapEntry) (clock : Nat) : Prop where
 heap : w.heap[r]? = some (.map es clock)
 map : es.toList.map (fun e => (e.key, e.val)) = l.map (fun p => (ek p.1, ev_ p.2))
 born : (es.toList.map (·.born)).Pairwise (· < ·)
 lt : ∀ e ∈ es.toList, e.born < clock
 nodup : (l.map Prod.fst).Nodup
def Mp {κ ν : Type} (ek : κ → Value) (ev_ : ν → Value) (r : Nat) (l : List (κ × ν)) : Ck :=
 ⟨fun w F => F = [r] ∧ ∃ es clock, MapAt ek ev_ w r l es clock,
  fun ⟨h, es, c, h1⟩ hk => ⟨h, es, c, by rw [hk r (by simp [h])]; exact h1.heap, h1.map, h1.born, h1.lt, h1.nodup⟩,
  fun ⟨h, es, c, h1⟩ k hk => by rw [h, Yr] at hk; subst hk; exact Mc h1.heap⟩
section
variable {P : Program} {w0 w : World} {F0 F : List Nat} {ps rest : List Ck} {m : List (Nat × Value)} {n d : Nat} {ty : TypeId} {pos : String} {aft : Array Edge} {x y z : Operand} {ops : Array Oper} {Q : Exit → Act → World → Prop} {a : Act} {l' : List Oper} {gd : Option (Nat × Bool)} {dd : Option Tmp}
variable {κ ν : Type} {ek : κ → Value} {ev_ : ν → Value} {l : List (κ × ν)} {r : Nat}
theorem SL.Xb (hs : SL w0 F0 w ps) (hm : Mp ek ev_ r l ∈ ps) : ∃ es clock, MapAt ek ev_ w r l es clock := by
 obtain ⟨F, h1, _⟩ := hs.st
 obtain ⟨G, ⟨_, h3⟩, _⟩ := Jk hm h1
 exact h3
theorem TK [DecidableEq κ] (l : List (κ × ν)) (k : κ) (v : ν) : (FK l k v).map Prod.fst = if k ∈ l.map Prod.fst then l.map Prod.fst else l.map Prod.fst ++ [k] := by
 induction l with
 | nil => simp [FK]
 | cons p l ih =>
  by_cases hk : k = p.1
  ·simp [FK, hk]
  ·simp only [FK, hk, if_false, List.map_cons, ih, Ys, false_or]
   split <;> simp
theorem Nc [DecidableEq κ] {l : List (κ × ν)} (h : (l.map Prod.fst).Nodup) (k : κ) (v : ν) : ((FK l k v).map Prod.fst).Nodup := by
 rw [TK]
 split
 ·exact h
 ·rename_i hk
  rw [List.nodup_append]
  exact ⟨h, by simp, fun a ha b hb => by simp only [Yr] at hb; subst hb; exact fun e => hk (e ▸ ha)⟩
theorem IX {es : Array MapEntry} {c : Nat} (h : w.heap[r]? = some (.map es c)) : (getObj r).run P w = .ok (.map es c) w := by
 simp [getObj, Sem.run, h]
theorem Na {es : Array MapEntry} {c : Nat} (o : Obj) (h : w.heap[r]? = some (.map es c)) : (setObj r o).run P w = .ok () { w with heap := w.heap.setIfInBounds r o } := by
 simp [setObj, Sem.run, h]
theorem VW (o : Obj) : Fm w [r] { w with heap := w.heap.setIfInBounds r o } :=
 Fm.one rfl rfl rfl (by simp) (fun k hk => by simp only [Array.getElem?_setIfInBounds]; rw [Ac (fun h => hk h.symm)])
theorem SL.TN {l2 : List (κ × ν)} {es : Array MapEntry} {c : Nat} (hs : SL w0 F0 w (Mp ek ev_ r l :: ps)) (h1 : es.toList.map (fun e => (e.key, e.val)) = l2.map (fun p => (ek p.1, ev_ p.2)))
  (h2 : (es.toList.map (·.born)).Pairwise (· < ·)) (h3 : ∀ e ∈ es.toList, e.born < c) (h4 : (l2.map Prod.fst).Nodup) : SL w0 F0 { w with heap := w.heap.setIfInBounds r (.map es c) } (Mp ek ev_ r l2 :: ps) := by
 obtain ⟨F, hst, hF0, _, hcl⟩ := SL.open_ (ps := [Mp ek ev_ r l]) hs
 obtain ⟨rfl, es0, c0, h0⟩ := Aw.Ij hst
 refine hcl _ [Mp ek ev_ r l2] ⟨VW _, [r], Aw.one (p := Mp ek ev_ r l2) ⟨rfl, es, c, ⟨?_, h1, h2, h3, h4⟩⟩, fun k hk => .inl hk⟩
 have hlt := Mc h0.heap
 simp [Array.getElem?_setIfInBounds, hlt]
theorem Uy {t : TypeId} (ek : κ → Value) (ev_ : ν → Value) (hF : Fr a n m) (hs : SL w0 F0 w ps) (hlt : Nat.blt d n = true)
  (k : ∀ g w a, Fr a n ((d, .map (some g)) :: m) → SL w0 F0 w (Mp ek ev_ g ([] : List (κ × ν)) :: ps) → wpList P ops Q l' a w) : wpList P ops Q (⟨some d, .makeMap t none, ty, pos, aft, none⟩ :: l') a w := by
 refine EQ hF (v := .map (some w.heap.size)) (w' := w.alloc (.map #[] 0)) (fun a n hF => ?_) rfl rfl hlt fun a hF => k _ _ a hF (hs.add (qs := [Mp ek ev_ w.heap.size []]) ⟨Fm.alloc w [] _, [w.heap.size], Aw.one (p := Mp ek ev_ w.heap.size []) ⟨rfl, #[], 0, heap_alloc_new w _, rfl, by simp, by simp, by simp⟩, fun k hk => .inr (by simp at hk; omega)⟩)
 simp [execOp, Instr.makeMap, newObj, Sem.run]
variable [DecidableEq κ]
theorem Pk {t : TypeId} {es : Array MapEntry} {c : Nat} (hK : Key P t ek) (h : MapAt ek ev_ w r l es c) (k : κ) :
  ((Instr.findKey t (ek k) es.toList).run P w = .ok none w ∧ Gq l k = none ∧ (∀ v, FK l k v = l ++ [(k, v)]) ∧ LC l k = l) ∨
  ∃ j u, (Instr.findKey t (ek k) es.toList).run P w = .ok (some (j, ev_ u)) w ∧ Gq l k = some u ∧ l[j]? = some (k, u) ∧ (∀ v, FK l k v = l.set j (k, v)) ∧ LC l k = l.eraseIdx j := by
 obtain ⟨dsc, hu, hd⟩ := hK.desc
 rcases find_eq hd k es.toList l 0 h.map with ⟨g1, g2⟩ | ⟨j, u, g1, g2⟩
 ·exact .inl ⟨by simp [Instr.findKey, run_underlying hu, g1], g2⟩
 ·refine .inr ⟨j, u, ?_, g2⟩
  rw [Nat.zero_add] at g1
  simp [Instr.findKey, run_underlying hu, g1]
theorem Lq {t tk te : TypeId} {k : κ} {z0 : ν} (hs : SL w0 F0 w ps) (hm : Mp ek ev_ r l ∈ ps) (ht : P.underlying t = some (.map tk te)) (hK : Key P tk ek) (hz : (P.info? te).bind (·.zero) = some (ev_ z0)) (hx : ev m x = some (.map (some r))) (hy : ev m y = some (ek k)) :
  EX P w m ⟨dd, .lookup t x y false, ty, pos, aft, gd⟩ (ev_ ((Gq l k).getD z0)) w := fun a _ hF => by
 obtain ⟨es, c, h⟩ := hs.Xb hm
 obtain ⟨i, hi, hz⟩ := Option.bind_eq_some_iff.1 hz
 rcases Pk (P := P) hK h k with ⟨g1, g2, _⟩ | ⟨j, u, g1, g2, _⟩
 ·simp [execOp, hF.eval hx, hF.eval hy, Instr.lookup, run_underlying ht, IX h.heap, hK.chk, g1, g2, zeroValue, typeInfo, hi, hz]
 ·simp [execOp, hF.eval hx, hF.eval hy, Instr.lookup, run_underlying ht, IX h.heap, hK.chk, g1, g2]
theorem Sp {t tk te : TypeId} {k : κ} {u : ν} (hs : SL w0 F0 w (Mp ek ev_ r l :: ps)) (ht : P.underlying t = some (.map tk te)) (hK : Key P tk ek) :
  ∃ w', (Instr.mapUpdate t (.map (some r)) (ek k) (ev_ u)).run P w = .ok () w' ∧ SL w0 F0 w' (Mp ek ev_ r (FK l k u) :: ps) := by
 obtain ⟨es, c, h⟩ := hs.Xb (List.mem_cons_self)
 have hl : es.toList.length = l.length := by simpa using congrArg List.length h.map
 rcases Pk (P := P) hK h k with ⟨g1, g2, g3, _⟩ | ⟨j, u0, g1, g2, g3, g4, _⟩
 ·refine ⟨_, ?_, hs.TN (l2 := FK l k u) (es := es.push { key := ek k, val := ev_ u, born := c }) (c := c + 1) ?_ ?_ ?_ (Nc h.nodup k u)⟩
  ·simp [Instr.mapUpdate, run_underlying ht, IX h.heap, hK.chk, g1, Na _ h.heap]
  ·rw [g3, Array.toList_push, List.map_append, h.map]; simp
  ·rw [Array.toList_push, List.map_append, List.pairwise_append]
   refine ⟨h.born, by simp, fun a ha b hb => ?_⟩
   simp only [List.map_cons, List.map_nil, Yr] at hb
   rw [List.mem_map] at ha
   obtain ⟨e, he, rfl⟩ := ha
   rw [hb]
   exact h.lt e he
  ·intro e he
   rw [Array.toList_push, Yq] at he
   rcases he with he | he
   ·have := h.lt e he; omega
   ·simp only [Yr] at he; rw [he]; exact Nat.lt_succ_self _
 ·have hj : j < es.toList.length := by rw [hl]; exact (List.getElem?_eq_some_iff.1 g3).1
  have hkey : (es[j]?).map (·.key) = some (ek k) := by
   have h1 := congrArg (fun L => L[j]?) h.map
   simp only [List.getElem?_map, g3, Yl] at h1
   rw [Array.getElem?_toList] at h1
   rcases he : es[j]? with _ | e
   ·rw [he] at h1; cases h1
   ·rw [he] at h1
    simp only [Yl, Option.some.injEq, Prod.mk.injEq] at h1 ⊢
    exact h1.1
  have hmod : (es.modify j fun e => { e with key := ek k, val := ev_ u }).toList = es.toList.set j { es.toList[j] with key := ek k, val := ev_ u } := by
   rw [Array.toList_modify]
   apply List.ext_getElem?
   intro i
   rw [List.getElem?_modify, List.getElem?_set]
   by_cases hij : j = i
   ·subst hij
    have hj' : j < es.size := by simpa using hj
    simp [hj']
   ·simp [hij]
  refine ⟨_, ?_, hs.TN (l2 := FK l k u) (es := es.modify j fun e => { e with key := ek k, val := ev_ u }) (c := c) ?_ ?_ ?_ (Nc h.nodup k u)⟩
  ·simp [Instr.mapUpdate, run_underlying ht, IX h.heap, hK.chk, g1, hkey, Instr.keyThatStays, hK.stay, Na _ h.heap]
  ·rw [g4, hmod, List.map_set, List.map_set, h.map]
  ·have : (es.toList.set j { es.toList[j] with key := ek k, val := ev_ u }).map (·.born) = es.toList.map (·.born) := by
    rw [List.map_set]
    apply List.ext_getElem?
    intro i
    rw [List.getElem?_set]
    by_cases hij : j = i
    ·subst hij
     have hj' : j < es.size := by simpa using hj
     simp [hj']
    ·simp [hij]
   rw [hmod, this]
   exact h.born
  ·intro e he
   rw [hmod] at he
   rcases List.mem_or_eq_of_mem_set he with he | he
   ·exact h.lt e he
   ·rw [he]
    exact h.lt es.toList[j] (List.getElem_mem hj)
theorem SD {t tk te : TypeId} {k : κ} {u : ν} (hF : Fr a n m) (hs : SL w0 F0 w (Mp ek ev_ r l :: ps)) (ht : P.underlying t = some (.map tk te)) (hK : Key P tk ek) (hx : ev m x = some (.map (some r))) (hy : ev m y = some (ek k)) (hz : ev m z = some (ev_ u))
  (K : ∀ w a, Fr a n m → SL w0 F0 w (Mp ek ev_ r (FK l k u) :: ps) → wpList P ops Q l' a w) : wpList P ops Q (⟨none, .mapUpdate t x y z, ty, pos, aft, none⟩ :: l') a w := by
 obtain ⟨w', h1, h2⟩ := Sp (P := P) (k := k) (u := u) hs ht hK
 refine Lh hF (w' := w') (fun a n hF => ?_) rfl rfl fun a hF => K _ a hF h2
 simp [execOp, hF.eval hx, hF.eval hy, hF.eval hz, h1]
theorem RI {t tk te : TypeId} (ht : P.underlying t = some (.map tk te)) : (Op.equal t (.map (some r)) (.map none)).run P w = .ok false w :=
 G6 fun d => by simp [Op.equalIn, run_underlying ht]
theorem RZ {t tk te u : TypeId} (hx : ev m x = some (.map (some r))) (hy : ev m y = some (.map none)) (ht : P.underlying t = some (.map tk te)) : EX P w m ⟨dd, .binOp .neq t x y u, ty, pos, aft, gd⟩ (.bool true) w :=
 Df hx hy (fun _ => Value.noConfusion) Value.noConfusion (by simp [binOp, RI ht])
end
section
variable {P : Program} {w0 w : World} {F0 F : List Nat} {ps rest : List Ck} {m : List (Nat × Value)} {n d : Nat} {ty : TypeId} {pos : String} {aft : Array Edge} {x y z : Operand} {ops : Array Oper} {Q : Exit → Act → World → Prop} {a : Act} {l' : List Oper} {gd : Option (Nat × Bool)} {dd : Option Tmp}
abbrev J2 (f : Nat) (caps : List Value) : Value := .func (.func f) #[] ⟨caps⟩
theorem HA {f : Nat} {cs : List Operand} {vs : List Value} (h : Fp m cs = some vs) : EX P w m ⟨dd, .makeFunc (.func f) #[] cs.toArray, ty, pos, aft, gd⟩ (J2 f vs) w := fun a n hF => by
 have h2 := hF.Ik h
 simp [execOp, Instr.makeFunc, h2, J2]
theorem Hw {f : Nat} {args : List Operand} {ats : Array TypeId} {vs caps : List Value} {S : Value → World → Prop} (hF : Fr a n m) (hf : Jv P f = true) (ht : ev m x = some (J2 f caps)) (hargs : Fp m args = some vs) (hc : Calls P f (vs ++ caps).toArray w (AN S)) (hlt : Nat.blt d n = true)
  (k : ∀ v w a, S v w → Fr a n ((d, v) :: m) → wpList P ops Q l' a w) : wpList P ops Q (⟨some d, .call { callee := .value x, args := args.toArray, argTypes := ats }, ty, pos, aft, none⟩ :: l') a w :=
 wpList_plain rfl fun K hK => by
  unfold Oper.wp
  have h1 : (execOp a.eval ⟨some d, .call { callee := .value x, args := args.toArray, argTypes := ats }, ty, pos, aft, none⟩).run P w = .ok (.enter f (vs ++ caps).toArray) w := by
   have h2 := hF.Ik hargs
   simp [execOp, resolve, Deferred.ofValue, hF.eval ht, invoke, h2, Eb hf]
  rw [h1, Oper.upon_enter]
  refine hc.mono ?_
  rintro e w' ⟨v, rfl, hS⟩
  exact hK _ _ (k v w' _ hS (hF.put d v hlt))
end
section
variable {P : Program} {w : World} {m : List (Nat × Value)} {dd : Option Tmp} {ty : TypeId} {pos : String} {aft : Array Edge} {gd : Option (Nat × Bool)} {x y : Operand}
def EqAt (P : Program) (k : Nat) (t : TypeId) (p q : Value) (b : Bool) : Prop := ∀ d w, (Op.equalIn (d + k) t p q).run P w = .ok b w
theorem EqAt.up {k j : Nat} {t : TypeId} {p q : Value} {b : Bool} (h : EqAt P k t p q b) (hk : k ≤ j) : EqAt P j t p q b := fun d w => by
 have := h (d + (j - k)) w
 rwa [show d + (j - k) + k = d + j by omega] at this
end
end Go.Pv
namespace Go.Pv
open Go Go.RowKit
section
variable {P : Program} {w0 w w' : World} {F0 F : List Nat} {ps rest : List Ck} {m : List (Nat × Value)} {n d : Nat} {ty : TypeId} {pos : String} {aft : Array Edge} {x y z : Operand} {ops : Array Oper} {Q : Exit → Act → World → Prop} {a : Act} {l' : List Oper} {gd : Option (Nat × Bool)} {dd : Option Tmp}
variable {α : Type} {T : Ty α} {enc : α → List Value} {v u : Value} {l r : List α}
theorem Dz.UU : ∀ {F : List Nat} {l : List α} {cs : List Value} (k : Nat), Dz T w F l cs → ∃ F', Dz T w F' (l.take k) (cs.take (k * T.sz)) ∧ ∀ j ∈ F', j ∈ F
 | F, [], cs, k, h => ⟨[], by rw [h.1]; simp [Dz], by simp⟩
 | F, x :: l, cs, 0, h => ⟨[], by simp [Dz], by simp⟩
 | F, x :: l, cs, k + 1, ⟨c, d, F1, F2, e1, e2, h1, h2, hd⟩ => by
  obtain ⟨F', h3, h4⟩ := Dz.UU k h2
  have hl := T.Ev (T.Bm h1)
  subst e1 e2
  refine ⟨F1 ++ F', ⟨c, d.take (k * T.sz), F1, F', ?_, rfl, h1, h3, fun j hj hj' => hd j hj (h4 j hj')⟩, fun j hj => ?_⟩
  ·rw [Nat.succ_mul, ← hl, Nat.add_comm, List.take_length_add_append]
  ·rw [Yq] at hj ⊢
   rcases hj with hj | hj
   ·exact .inl hj
   ·exact .inr (h4 j hj)
theorem Dz.UV : ∀ {F : List Nat} {l : List α} {cs : List Value} (k : Nat), Dz T w F l cs → ∃ F', Dz T w F' (l.drop k) (cs.drop (k * T.sz)) ∧ ∀ j ∈ F', j ∈ F
 | F, [], cs, k, h => ⟨[], by rw [h.1]; simp [Dz], by simp⟩
 | F, x :: l, cs, 0, h => ⟨F, by simpa using h, fun j hj => hj⟩
 | F, x :: l, cs, k + 1, ⟨c, d, F1, F2, e1, e2, h1, h2, hd⟩ => by
  obtain ⟨F', h3, h4⟩ := Dz.UV k h2
  have hl := T.Ev (T.Bm h1)
  subst e1 e2
  refine ⟨F', ?_, fun j hj => by rw [Yq]; exact .inr (h4 j hj)⟩
  rw [List.drop_succ_cons, show (k + 1) * T.sz = c.length + k * T.sz by rw [Nat.succ_mul, hl, Nat.add_comm], List.drop_length_add_append]
  exact h3
theorem Tu {lo hi : Int} {A : Option Addr} {nn c : Nat} (h : slOwn T w F (.slice A nn c) l) (hr : FQ l lo hi = some r) :
  ∃ F', slOwn T w F' (.slice (if c = lo.toNat then A else A.map (·.add (lo.toNat * T.sz))) (hi.toNat - lo.toNat) (c - lo.toNat)) r ∧ ∀ k ∈ F', k ∈ F := by
 obtain ⟨⟨h0, h1, h2⟩, rfl⟩ := Lv hr
 obtain ⟨cs, F1, F2, rfl, hrow, hE, hd⟩ := h
 obtain ⟨G1, hE1, hG1⟩ := hE.UU hi.toNat
 obtain ⟨G2, hE2, hG2⟩ := hE1.UV lo.toNat
 have hcl := hE.len
 have hrl : ((l.take hi.toNat).drop lo.toNat).length = hi.toNat - lo.toNat := by simp; omega
 have hcut : ((cs.take (hi.toNat * T.sz)).drop (lo.toNat * T.sz)).length = (hi.toNat - lo.toNat) * T.sz := by
  have := hE2.len
  rw [this, hrl]
 rcases hrow.2 with ⟨hv, hn, rfl⟩ | ⟨g, o, cap, cur, e, fz, hv, rfl, hg, hnc, hoc, hfz, hcells⟩
 ·injection hv with hA hnn Ki
  subst hA Ki
  have e0 : lo.toNat = 0 := by omega
  have e1 : hi.toNat = 0 := by omega
  refine ⟨[] ++ G2, ⟨_, [], G2, rfl, ⟨by rw [hrl]; exact hcut, .inl ⟨by simp [e0, e1], by rw [hrl]; omega, rfl⟩⟩, hE2, by simp⟩, fun k hk => ?_⟩
  simp only [Yu] at hk ⊢
  exact hG1 k (hG2 k hk)
 ·injection hv with hA hnn Ki
  subst hA Ki
  refine ⟨[g] ++ G2, ⟨_, [g], G2, rfl, ⟨by rw [hrl]; exact hcut, .inr ?_⟩, hE2, fun k hk hk' => hd k hk (hG1 k (hG2 k hk'))⟩, fun k hk => ?_⟩
  ·rw [hrl]
   by_cases hc : c = lo.toNat
   ·refine ⟨g, o, c - lo.toNat, cur, e, fz, by rw [Ab hc], rfl, hg, by omega, ?_, hfz, fun j u hu => ?_⟩
    ·rw [hc, Nat.sub_self]; omega
    ·have hj := (List.getElem?_eq_some_iff.1 hu).1
     rw [hcut, show hi.toNat - lo.toNat = 0 by omega] at hj
     omega
   ·refine ⟨g, o + lo.toNat * T.sz, c - lo.toNat, cur, e, fz, by rw [Ac hc, Yl, HL], rfl, hg, by omega, ?_, hfz, fun j u hu => ?_⟩
    ·have : lo.toNat * T.sz + (c - lo.toNat) * T.sz = c * T.sz := by rw [← Nat.add_mul]; congr 1; omega
     omega
    ·rw [List.getElem?_drop, List.getElem?_take] at hu
     split at hu
     ·rw [← hcells _ _ hu]; congr 1; omega
     ·cases hu
  ·rw [Yq] at hk ⊢
   rcases hk with hk | hk
   ·exact .inl hk
   ·exact .inr (hG1 k (hG2 k hk))
theorem SL.Qg {t e sz bytes : Nat} {z : Value → Bool} {lo hi : Int} (hs : SL w0 F0 w (Sl T v l :: ps)) (hb : Dy P t e sz bytes z = true) (hz : T.sz = sz) (hr : FQ l lo hi = some r)
  (lo' hi' : Option Int) (hlo : lo' = some lo ∨ (lo' = none ∧ lo = 0)) (hhi : hi' = some hi ∨ (hi' = none ∧ hi = l.length)) : ∃ v', US P t v lo' hi' v' ∧ SL w0 F0 w (Sl T v' r :: ps) := by
 obtain ⟨G, hrd⟩ := hs.Bm (List.mem_cons_self)
 obtain ⟨A, c, rfl⟩ := hrd.form
 obtain ⟨hu, ti, zv, h5, h6, _⟩ := FW hb
 have Ki := Lv hr
 obtain ⟨⟨h0, h1, h2⟩, _⟩ := Ki
 obtain ⟨A', c', hv, hc', _⟩ := hrd
 injection hv with hA _ hc
 subst hA hc
 refine ⟨.slice (if c = lo.toNat then A else A.map (·.add (lo.toNat * T.sz))) (hi.toNat - lo.toNat) (c - lo.toNat), fun w m x l' h' kl kh dd ty pos aft g' hx hl' hh' a _ hF => ?_, ?_⟩
 ·have hL : (l'.map a.eval = none ∧ lo = 0) ∨ ∃ k, l'.map a.eval = some (.int k lo) := by
   rcases hlo with rfl | ⟨rfl, rfl⟩
   ·cases l' with
    | none => exact hl'.elim
    | some y => exact .inr ⟨kl, by rw [Yl, hF.eval hl']⟩
   ·cases l' with
    | none => exact .inl ⟨rfl, rfl⟩
    | some y => exact hl'.elim
  have hH : (h'.map a.eval = none ∧ hi = l.length) ∨ ∃ k, h'.map a.eval = some (.int k hi) := by
   rcases hhi with rfl | ⟨rfl, rfl⟩
   ·cases h' with
    | none => exact hh'.elim
    | some y => exact .inr ⟨kh, by rw [Yl, hF.eval hh']⟩
   ·cases h' with
    | none => exact .inl ⟨rfl, rfl⟩
    | some y => exact hh'.elim
  have := Oq (P := P) (w := w) (A := A) (c := c) hu h5 h0 h1 h2 hc' hL hH
  simp only [execOp, hF.eval hx, Option.map_none]
  simp [this, h6, hz]
 ·obtain ⟨F, ⟨F1, F2, e, g1, g2, hd⟩, hF⟩ := hs.st
  obtain ⟨F1', g3, g4⟩ := Tu (show slOwn T w F1 (.slice A l.length c) l from g1) hr
  exact ⟨hs.fm, F1' ++ F2, ⟨F1', F2, rfl, g3, g2, fun k hk => hd k (g4 k hk)⟩, fun k hk => hF k (by
   rw [e]
   rw [Yq] at hk ⊢
   rcases hk with hk | hk
   ·exact .inl (g4 k hk)
   ·exact .inr hk)⟩
theorem Ow {t : TypeId} {ms : Array (String × TypeId)} (hp : P.underlying t = some (.interface ms)) : (Op.equal t .nilIface .nilIface).run P w = .ok true w :=
 G6 fun d => by simp [Op.equalIn, run_underlying hp]
theorem Tx {t u : TypeId} {ms : Array (String × TypeId)} (hx : ev m x = some .nilIface) (hp : P.underlying t = some (.interface ms)) : EX P w m ⟨dd, .binOp .eql t x (.const .nilIface) u, ty, pos, aft, gd⟩ (.bool true) w := fun a n hF => by
 simp only [execOp, hF.eval hx]
 simp [eqGuard, Act.eval, binOp, Ow hp]
theorem Lb {t u : TypeId} {ms : Array (String × TypeId)} (hx : ev m x = some .nilIface) (hp : P.underlying t = some (.interface ms)) : EX P w m ⟨dd, .binOp .neq t x (.const .nilIface) u, ty, pos, aft, gd⟩ (.bool false) w := fun a n hF => by
 simp only [execOp, hF.eval hx]
 simp [eqGuard, Act.eval, binOp, Ow hp]
theorem SL.WZ (hFl : Flat T enc) {i : Int} {x0 y' : α} {ad : Addr} {o : Nat} {ds : List Value} (hs : SL w0 F0 w (Sl T v l :: ps)) (he : Lf T.sz v i ad) (hx0 : idx l i = some x0) (BU : o + ds.length ≤ T.sz) (h1 : ∀ u ∈ ds, u.oneCell' = true)
  (henc : enc y' = (enc x0).take o ++ ds ++ (enc x0).drop (o + ds.length)) : ∃ w', (storeCells (ad.add o) ds).run P w = .ok () w' ∧ SL w0 F0 w' (Sl T v (l.set i.toNat y') :: ps) := by
 obtain ⟨h0, h2, h3⟩ := DT hx0
 obtain ⟨A, nn, c, rfl, rfl⟩ := he
 obtain ⟨F, hst, hF0, _, hcl⟩ := SL.open_ (ps := [Sl T (.slice (some A) nn c) l]) hs
 have hrow := hFl.slOwn.1 (Aw.Ij hst)
 have hnn : nn = l.length := by
  obtain ⟨A', c', hv, _⟩ := hrow.cells
  injection hv
 subst hnn
 have hil : i.toNat < l.length := by omega
 have hfit : (i.toNat * T.sz + o) + ds.length ≤ l.length * T.sz := by
  have := Nat.mul_le_mul_right T.sz (show i.toNat + 1 ≤ l.length by omega)
  rw [Nat.succ_mul] at this
  omega
 obtain ⟨w', h5, h6, h7⟩ := hrow.write (P := P) (o := i.toNat * T.sz + o) (ys := ds) hfit h1
 refine ⟨w', by rw [add_add']; exact h5, hcl w' [Sl T _ (l.set i.toNat y')] ⟨h7, F, Aw.one (p := Sl T _ (l.set i.toNat y')) (hFl.slOwn.2 ?_), fun k hk => .inl hk⟩⟩
 rw [List.length_set, hFl.set l i.toNat y' hil, henc]
 have hx : ((l.flatMap enc).drop (i.toNat * T.sz)).take T.sz = enc x0 := by
  have h8 := hFl.set l i.toNat x0 hil
  have h9 : l.set i.toNat x0 = l := by
   apply List.ext_getElem?
   intro j
   rw [List.getElem?_set]
   by_cases hj : i.toNat = j
   ·subst hj; rw [Ab rfl, Ab hil, h3]
   ·rw [Ac hj]
  rw [h9] at h8
  rw [h8]
  have hfl := GH hFl l
  have hge : i.toNat * T.sz ≤ (l.flatMap enc).length := by rw [hfl]; exact Nat.mul_le_mul_right _ (by omega)
  have hcut : ∀ (A B C : List Value) (k : Nat), A.length = k → ((A ++ B ++ C).drop k).take B.length = B := by
   intro A B C k hk
   subst hk
   rw [Yw, List.drop_left, List.take_left]
  have h11 := hcut ((l.flatMap enc).take (i.toNat * T.sz)) (enc x0) ((l.flatMap enc).drop (i.toNat * T.sz + T.sz)) (i.toNat * T.sz) (by rw [Yp, Nat.min_eq_left hge])
  rw [hFl.len] at h11
  exact h11
 have e1 : (l.flatMap enc).take (i.toNat * T.sz + o) = (l.flatMap enc).take (i.toNat * T.sz) ++ (enc x0).take o := by
  rw [List.take_add, ← hx, List.take_take, Nat.min_eq_left (by omega)]
 have e2 : (l.flatMap enc).drop (i.toNat * T.sz + o + ds.length) = (enc x0).drop (o + ds.length) ++ (l.flatMap enc).drop (i.toNat * T.sz + T.sz) := by
  have h10 : ∀ (L M : List Value) (a b : Nat), a ≤ b → (L.take b).drop a ++ L.drop b = L.drop a := by
   intro L M a b hab
   conv => rhs; rw [← List.take_append_drop b L]
   rw [List.drop_append, Yp]
   congr 1
   by_cases hb : b ≤ L.length
   ·rw [Nat.min_eq_left hb, Nat.sub_eq_zero_of_le hab, List.drop_zero]
   ·rw [List.drop_of_length_le (l := L) (by omega), List.drop_nil]
  have e3 : (l.flatMap enc).drop (i.toNat * T.sz + o + ds.length) = ((l.flatMap enc).drop (i.toNat * T.sz)).drop (o + ds.length) := by rw [List.drop_drop, Nat.add_assoc]
  have e4 : (l.flatMap enc).drop (i.toNat * T.sz + T.sz) = ((l.flatMap enc).drop (i.toNat * T.sz)).drop T.sz := by rw [List.drop_drop]
  rw [e3, e4, ← hx, h10 _ [] _ _ BU]
 rw [e1, e2] at h6
 simpa [Yw] using h6
theorem J8 (hFl : Flat T enc) {i : Int} {x0 y' : α} {ad : Addr} {t' : TypeId} {o : Nat} {ds : List Value} (hF : Fr a n m) (hs : SL w0 F0 w (Sl T v l :: ps)) (he : Lf T.sz v i ad) (hx0 : idx l i = some x0) (hx : ev m x = some (.pointer (some (ad.add o)))) (hy : ev m y = some u)
  (hu : u.cells = ⟨ds⟩) (hi : (P.info? t').map (·.size) = some ds.length) (BU : Nat.ble (o + ds.length) T.sz = true) (h1 : ∀ u ∈ ds, u.oneCell' = true) (henc : enc y' = (enc x0).take o ++ ds ++ (enc x0).drop (o + ds.length))
  (k : ∀ w a, Fr a n m → SL w0 F0 w (Sl T v (l.set i.toNat y') :: ps) → wpList P ops Q l' a w) : wpList P ops Q (⟨none, .store t' x y, ty, pos, aft, none⟩ :: l') a w := by
 obtain ⟨ti, hi, hsz⟩ := Option.map_eq_some_iff.1 hi
 obtain ⟨w', h3, h2⟩ := SL.WZ (P := P) hFl (y' := y') hs he hx0 (Nat.le_of_ble_eq_true BU) h1 henc
 refine Lh hF (w' := w') (fun a n hF => ?_) rfl rfl fun a hF => k _ a hF h2
 simp [execOp, hF.eval hx, hF.eval hy, Instr.storeAt, Instr.sureAddr, storeVar, sizeOf, typeInfo, hi, hsz, hu, h3]
end
section
variable {P : Program} {w0 w w' : World} {F0 F : List Nat} {ps rest : List Ck} {m : List (Nat × Value)} {n d : Nat} {ty : TypeId} {pos : String} {aft : Array Edge} {x y z : Operand} {ops : Array Oper} {Q : Exit → Act → World → Prop} {a : Act} {l' : List Oper} {gd : Option (Nat × Bool)} {dd : Option Tmp}
variable {α : Type} {T : Ty α} {v u : Value} {l r : List α}
theorem SL.f6 {a b c d e f g : Ck} {r : List Ck} (h : SL w0 F0 w (a :: b :: c :: d :: e :: f :: g :: r)) : SL w0 F0 w (g :: a :: b :: c :: d :: e :: f :: r) := h.fr 6 rfl
theorem SL.f7 {a b c d e f g i : Ck} {r : List Ck} (h : SL w0 F0 w (a :: b :: c :: d :: e :: f :: g :: i :: r)) : SL w0 F0 w (i :: a :: b :: c :: d :: e :: f :: g :: r) := h.fr 7 rfl
theorem SL.f8 {a b c d e f g i j : Ck} {r : List Ck} (h : SL w0 F0 w (a :: b :: c :: d :: e :: f :: g :: i :: j :: r)) : SL w0 F0 w (j :: a :: b :: c :: d :: e :: f :: g :: i :: r) := h.fr 8 rfl
end
section
variable {P : Program} {m m' : List (Nat × Value)} {n d : Nat} {ops : Array Oper} {C : World → Prop} {v : Value} {rest rest' : List Oper}
theorem QR.X8 {j dj : Nat} {b : Bool} {f : Nat} {args : List Operand} {ats : Array TypeId} {vs : List Value} {ty : TypeId} {pos : String} {aft : Array Edge} (hj : (ops[j]?).bind (·.dst) = some dj) (hb : look m dj = some (.bool b)) (hf : Jv P f = true) (hargs : Fp m args = some vs)
  (hc : ∀ w, C w → Calls P f vs.toArray w (AN fun u w' => u = v ∧ C w')) (k : QR P n ops C ((d, v) :: m) rest m' rest') (hlt : Nat.blt d n = true := by rfl) :
  QR P n ops C m (⟨some d, .call { callee := .value (.func f), args := args.toArray, argTypes := ats }, ty, pos, aft, some (j, b)⟩ :: rest) m' rest' :=
 fun Q a hF k' => by
  unfold wpQuiet
  rw [Ab (by simp [Region.wanted, D7 hF hj hb])]
  refine ⟨v, fun w hw => ?_, ?_⟩
  ·unfold Oper.quietAt
   have h2 := hF.Ik hargs
   have h1 : (execOp a.eval ⟨some d, .call { callee := .value (.func f), args := args.toArray, argTypes := ats }, ty, pos, aft, some (j, b)⟩).run P w = .ok (.enter f vs.toArray) w := by
    simp [execOp, resolve, Deferred.ofValue, Act.eval, invoke, h2, Eb hf]
   rw [h1]
   exact ⟨rfl, (hc w hw).mono fun e w' ⟨u, he, hu, hw'⟩ => ⟨by rw [he, hu], hw'⟩⟩
  ·exact k Q _ (hF.put d v hlt) k'
end
theorem X4 {α : Type} {T : Ty α} {w : World} {F0 G : List Nat} {x : List α} {cs : List Value} (h : (Ty.slice T).rd w G x cs) (hG : ∀ k ∈ G, k < w.heap.size ∧ k ∉ F0) : ∃ v, cs = [v] ∧ Rd T w F0 v x := by
 obtain ⟨v, rfl, h⟩ := h
 exact ⟨v, rfl, G, h, hG⟩
theorem K4 {cs ds : List Value} (o : Nat) (h : (cs.drop o).take ds.length = ds) : ∀ j u, ds[j]? = some u → cs[o + j]? = some u := by
 intro j u hu
 rw [← h, List.getElem?_take] at hu
 split at hu
 ·rw [List.getElem?_drop] at hu; exact hu
 ·cases hu
end Go.Pv
namespace Go.Pv
open Go Go.RowKit
def Ty.Qk {α : Type} (w0 : World) (F0 : List Nat) (T : Ty α) : Ty (List α) where
 sz := 1
 rd _ _ l cs := ∃ v, cs = [v] ∧ Rd T w0 F0 v l
 own _ F l cs := (∃ v, cs = [v] ∧ Rd T w0 F0 v l) ∧ F = []
 Ev := by rintro w G l cs ⟨v, rfl, h⟩; rfl
 Hk := by
  rintro w G l cs ⟨v, rfl, G', ⟨A, c, rfl, _⟩, _⟩ u hu
  rw [Yr] at hu
  rw [hu]
  rfl
 Ii h _ := h
 Ei h _ := h
 Gp h _ := h
 Hl h k hk := by rw [h.2] at hk; cases hk
 Bm h := h.1
def OI (w0 : World) (F0 : List Nat) : List Nat := (List.range w0.heap.size).filter fun k => decide (k ∉ F0)
theorem mem_baseG {w0 : World} {F0 : List Nat} {k : Nat} : k ∈ OI w0 F0 ↔ k < w0.heap.size ∧ k ∉ F0 := by simp [OI]
structure Conv {α : Type} (w0 : World) (F0 : List Nat) (A B : Ty α) : Prop where
 sz : A.sz = B.sz
 rd : ∀ w G x cs, Fm w0 F0 w → A.rd w G x cs → B.rd w (G ++ OI w0 F0) x cs
section
variable {α β : Type} {w0 w : World} {F0 : List Nat}
theorem Conv.refl (A : Ty α) : Conv w0 F0 A A := ⟨rfl, fun w G x cs _ h => A.Ei h (fun k hk => List.mem_append_left _ hk)⟩
theorem Conv.pair {A A' : Ty α} {B B' : Ty β} (h1 : Conv w0 F0 A A') (h2 : Conv w0 F0 B B') : Conv w0 F0 (A.pair B) (A'.pair B') :=
 ⟨by show A.sz + B.sz = A'.sz + B'.sz; rw [h1.sz, h2.sz], fun w G x cs hf ⟨c, d, e, a1, a2⟩ => ⟨c, d, e, h1.rd _ _ _ _ hf a1, h2.rd _ _ _ _ hf a2⟩⟩
theorem Conv.iso {A A' : Ty α} (f : β → α) (h1 : Conv w0 F0 A A') : Conv w0 F0 (A.iso f) (A'.iso f) := ⟨h1.sz, fun w G x cs hf h => h1.rd w G (f x) cs hf h⟩
theorem Conv.row {A B : Ty α} (h : Conv w0 F0 A B) {G : List Nat} {v : Value} {l : List α} (hf : Fm w0 F0 w) (hr : CG A w G v l) : CG B w (G ++ OI w0 F0) v l := by
 obtain ⟨a, c, h1, h2, h3⟩ := hr
 refine ⟨a, c, h1, h2, fun i x hx => ?_⟩
 obtain ⟨ad, cs, b1, b2, b3, b4⟩ := h3 i x hx
 exact ⟨ad, cs, b1, List.mem_append_left _ b2, by rw [← h.sz]; exact b3, h.rd _ _ _ _ hf b4⟩
theorem Conv.slice {A B : Ty α} (h : Conv w0 F0 A B) : Conv w0 F0 A.slice B.slice := ⟨rfl, fun w G x cs hf ⟨v, e, hv⟩ => ⟨v, e, h.row hf hv⟩⟩
theorem Conv.Qk (T : Ty α) : Conv w0 F0 (Ty.Qk w0 F0 T) T.slice := ⟨rfl, fun w G x cs hf ⟨v, e, G', h1, h2⟩ => ⟨v, e, (h1.loc fun k hk => hf.block k (h2 k hk).1 (h2 k hk).2).mono fun k hk => List.mem_append_right _ (mem_baseG.mpr (h2 k hk))⟩⟩
theorem SL.X7 {T : Ty α} {w1 : World} {F1 : List Nat} {v : Value} {l : List α} {ps : List Ck} (hs : SL w0 F0 w ps) (h : Rd T w1 F1 v l) : SL w0 F0 w (Dt (Ty.Qk w1 F1 T) l [v] :: ps) :=
 hs.re fun F hF => ⟨F, ⟨[], F, rfl, ⟨⟨v, rfl, h⟩, rfl⟩, hF, by simp⟩, fun _ => Iff.rfl⟩
theorem SL.up {wb w w1 : World} {Fb F : List Nat} {ps : List Ck} (hb : Fm wb Fb w) (hB : ∀ k ∈ F, k ∈ Fb ∨ wb.heap.size ≤ k) (s : SL w F w1 ps) : SL wb Fb w1 ps := by
 obtain ⟨G, hs, hG⟩ := s.st
 exact ⟨hb.trans s.fm hB, G, hs, fun k hk => by
  rcases hG k hk with h | h
  ·exact hB k h
  ·exact .inr (Nat.le_trans hb.size h)⟩
theorem QN {Fb : List Nat} {n : Nat} : ∀ k ∈ ([] : List Nat), k ∈ Fb ∨ n ≤ k := fun k hk => by cases hk
theorem Rd.conv {A B : Ty α} {wb : World} {Fb F : List Nat} {v : Value} {l : List α} (h : Rd A w F v l) (hf : Fm wb Fb w) (hF : ∀ k ∈ F, k ∈ Fb ∨ wb.heap.size ≤ k) (c : Conv wb Fb A B) : Rd B w F v l := by
 obtain ⟨G, hG, hlt⟩ := h
 exact ⟨_, c.row hf hG, fun k hk => by
  rcases List.mem_append.mp hk with hk | hk
  ·exact hlt k hk
  ·obtain ⟨h1, h2⟩ := mem_baseG.mp hk
   exact ⟨Nat.lt_of_lt_of_le h1 hf.size, fun hin => by rcases hF k hin with h | h; exact h2 h; omega⟩⟩
end
end Go.Pv
namespace Go.Pv
open Go Go.RowKit
def Cp {n : Nat} (l : Vector UInt8 n) : List Value := l.toList.map fun b => .int .u8 (b.toNat : Int)
@[simp] theorem XW {n : Nat} (l : Vector UInt8 n) : (Cp l).length = n := by simp [Cp]
theorem Vi {n : Nat} {l : Vector UInt8 n} {i : Nat} {x : UInt8} (h : l.toList[i]? = some x) : (Cp l)[i]? = some (.int .u8 (x.toNat : Int)) := by
 unfold Cp
 rw [List.getElem?_map, h]
 rfl
theorem E4 {n : Nat} (l : Vector UInt8 n) : ∀ u ∈ Cp l, u.oneCell' = true := by
 intro u hu
 unfold Cp at hu
 rw [List.mem_map] at hu
 obtain ⟨x, _, rfl⟩ := hu
 rfl
def NS {n : Nat} (l : Vector UInt8 n) (i : Int) (y : UInt8) : Vector UInt8 n := l.setIfInBounds i.toNat y
theorem Vb {n : Nat} (l : Vector UInt8 n) (i : Int) (y : UInt8) : Cp (NS l i y) = (Cp l).set i.toNat (.int .u8 (y.toNat : Int)) := by
 unfold Cp NS
 rw [← List.map_set]
 congr 1
 simp
theorem QJ {n : Nat} {l : Vector UInt8 n} {i : Int} {x : UInt8} (h : idx l.toList i = some x) : 0 ≤ i ∧ i < n ∧ l.toList[i.toNat]? = some x := by
 obtain ⟨h0, h1, h2⟩ := DT h
 exact ⟨h0, by simpa using h1, h2⟩
section
variable {P : Program} {w0 w : World} {F0 : List Nat} {ps : List Ck} {m : List (Nat × Value)} {n d k : Nat} {ty : TypeId} {pos : String} {aft : Array Edge} {x y : Operand} {ops : Array Oper} {Q : Exit → Act → World → Prop} {a : Act} {l' : List Oper} {gd : Option (Nat × Bool)} {dd : Option Tmp} {l : Vector UInt8 k} {pre : List Value}
theorem TV {t e g o : Nat} {i : Int} {kk : IntKind} {x0 : UInt8} (hb : UQ P t e k 1 = true) (hx0 : idx l.toList i = some x0) (hx : ev m x = some (.pointer (some ⟨g, o, none⟩))) (hy : ev m y = some (.int kk i)) :
  EX P w m ⟨dd, .indexAddr t x y, ty, pos, aft, gd⟩ (.pointer (some ⟨g, o + i.toNat, none⟩)) w := fun a _ hF => by
 obtain ⟨h0, h1, _⟩ := QJ hx0
 obtain ⟨hu, ti, h5, h6⟩ := TP hb
 have e1 : (0 ≤ i ∧ i < (k : Int)) := ⟨h0, h1⟩
 simp [execOp, hF.eval hx, hF.eval hy, Instr.indexAt, asIntOf, run_underlying hu, e1, sizeOf, typeInfo, h5, h6, HL, Instr.sureAddr]
theorem SU {g t t' o : Nat} {i : Int} {x0 y' : UInt8} (hF : Fr a n m) (hs : SL w0 F0 w (Ae g t (pre ++ Cp l) :: ps)) (hp : pre.length = o) (hx0 : idx l.toList i = some x0) (hx : ev m x = some (.pointer (some ⟨g, o + i.toNat, none⟩))) (hy : ev m y = some (.int .u8 (y'.toNat : Int)))
  (hi : (P.info? t').map (·.size) = some 1) (kk : ∀ w a, Fr a n m → SL w0 F0 w (Ae g t (pre ++ Cp (NS l i y')) :: ps) → wpList P ops Q l' a w) : wpList P ops Q (⟨none, .store t' x y, ty, pos, aft, none⟩ :: l') a w := by
 obtain ⟨h0, h1, h2⟩ := QJ hx0
 subst hp
 refine AZ hF hs hx hy hi rfl rfl (u := .int .u8 (x0.toNat : Int)) (by rw [List.getElem?_append_right (by omega), Nat.add_sub_cancel_left]; exact Vi h2) fun w a hF hs => kk w a hF ?_
 rw [List.set_append_right _ _ (by omega), Nat.add_sub_cancel_left] at hs
 rw [Vb]
 exact hs
theorem A9 {g t t' : Nat} {cs ds : List Value} (hF : Fr a n m) (hs : SL w0 F0 w (Ae g t cs :: ps)) (hx : ev m x = some (.pointer (some ⟨g, 0, none⟩))) (hy : ev m y = some (.agg ⟨ds⟩)) (hi : (P.info? t').map (·.size) = some ds.length)
  (h1 : ∀ u ∈ ds, u.oneCell' = true) (hl : ds.length = cs.length) (kk : ∀ w a, Fr a n m → SL w0 F0 w (Ae g t ds :: ps) → wpList P ops Q l' a w) : wpList P ops Q (⟨none, .store t' x y, ty, pos, aft, none⟩ :: l') a w :=
 AH hF hs hx hy hi h1 (by omega) fun w a hF hs => kk w a hF (by
  rw [Nat.zero_add, hl, List.drop_length, List.take_zero, Yu, Yt] at hs
  exact hs)
end
section
variable {pl : Nat → Option (Nat × Nat)} {cs : List Value} {i off : Nat} {v : Value} {rest : List (Nat × Value)} {r : Array Value}
theorem CQ : Instr.fill pl ⟨cs⟩ [] = some ⟨cs⟩ := rfl
theorem Dc (hp : pl i = some (off, 1)) (hv : v.cells = #[v]) (hlt : off < cs.length) (h : Instr.fill pl ⟨cs.set off v⟩ rest = some r) : Instr.fill pl ⟨cs⟩ ((i, v) :: rest) = some r := by
 simp only [Instr.fill, hp, hv]
 rw [Ac (by simp; omega)]
 simpa [List.zipIdx] using h
end
section
variable {P : Program} {ops : Array Oper} {S : World → Prop} {Q : Exit → Act → World → Prop} {n d : Nat} {m : List (Nat × Value)} {a : Act} {w : World}
theorem TR {i j dj : Nat} {oi : Oper} {v : Value} {b : Bool} {fuel : Nat} {listed : Array Bool} (hi : ops[i]? = some oi) (hs : Region.noSelect ops = true) (hf : Region.free .any ops listed i = true) (hr : (Region.ready .any ops listed).contains i = true)
  (he : ∀ w, S w → EX P w m oi v w) (hg : oi.guard = some (j, b)) (hj : (ops[j]?).bind (·.dst) = some dj) (hb : look m dj = some (.bool b)) (hd : oi.dst = some d) (hlt : Nat.blt d n = true) (hF : Fr a n m) (hS : S w)
  (k : ∀ a, Fr a n ((d, v) :: m) → wpAnyH P .any ops (NoPanic Q) S fuel (listed.setIfInBounds i true) a w) : wpAnyH P .any ops (NoPanic Q) S (fuel + 1) listed a w :=
 wpAnyH_take hi hs hf hr (fun _ _ _ h => (h : False).elim) (.inl ⟨by simp [Region.wanted, hg, D7 hF hj hb], fun w hw => he w hw a n hF⟩) hS (by rw [hd]; exact k _ (hF.put d v hlt))
theorem U6 {i j dj : Nat} {oi : Oper} {b c : Bool} {fuel : Nat} {listed : Array Bool} (hi : ops[i]? = some oi) (hs : Region.noSelect ops = true) (hf : Region.free .any ops listed i = true) (hr : (Region.ready .any ops listed).contains i = true)
  (hg : oi.guard = some (j, c)) (hj : (ops[j]?).bind (·.dst) = some dj) (hb : look m dj = some (.bool b)) (hne : b ≠ c) (hd : oi.dst = some d) (hlt : Nat.blt d n = true) (hF : Fr a n m) (hS : S w)
  (k : ∀ a, Fr a n ((d, undef) :: m) → wpAnyH P .any ops (NoPanic Q) S fuel (listed.setIfInBounds i true) a w) : wpAnyH P .any ops (NoPanic Q) S (fuel + 1) listed a w :=
 wpAnyH_take (v := undef) hi hs hf hr (fun _ _ _ h => (h : False).elim) (.inr ⟨by simp [Region.wanted, hg, D7 hF hj hb]; exact hne, rfl⟩) hS (by rw [hd]; exact k _ (hF.put d undef hlt))
theorem SN {i j dj : Nat} {oi : Oper} {c : Bool} {fuel : Nat} {listed : Array Bool} (hi : ops[i]? = some oi) (hs : Region.noSelect ops = true) (hf : Region.free .any ops listed i = true) (hr : (Region.ready .any ops listed).contains i = true)
  (hg : oi.guard = some (j, c)) (hj : (ops[j]?).bind (·.dst) = some dj) (hb : look m dj = some undef) (hd : oi.dst = some d) (hlt : Nat.blt d n = true) (hF : Fr a n m) (hS : S w)
  (k : ∀ a, Fr a n ((d, undef) :: m) → wpAnyH P .any ops (NoPanic Q) S fuel (listed.setIfInBounds i true) a w) : wpAnyH P .any ops (NoPanic Q) S (fuel + 1) listed a w :=
 wpAnyH_take (v := undef) hi hs hf hr (fun _ _ _ h => (h : False).elim) (.inr ⟨by
  have : yielded ops a.tmps j = none := by
   unfold yielded
   rw [hj]
   simp only [Yk]
   rw [hF.at_ _ _ hb]
   rfl
  simp [Region.wanted, hg, this], rfl⟩) hS (by rw [hd]; exact k _ (hF.put d undef hlt))
end
end Go.Pv
namespace Go.Pv
open Go Go.RowKit
def Any (Q : List Ck → Prop) : Ck := ⟨fun w F => ∃ qs, Q qs ∧ Aw qs w F, fun ⟨qs, h, hs⟩ hk => ⟨qs, h, hs.loc hk⟩, fun ⟨_, _, hs⟩ => hs.lt⟩
inductive Gv where
 | const (l : List UInt8)
 | dup
 | swap
 | nil
def Gv.run : Gv → List UInt8 → Option (List UInt8)
 | .const l, _ => some l
 | .dup, l => (idx l 0).bind fun x => (idx l 0).bind fun y => some [x, y]
 | .swap, l => (idx l 1).bind fun x => (idx l 0).bind fun y => some [x, y]
 | .nil, _ => none
section
variable {P : Program} {w0 w w' : World} {F0 F : List Nat} {ps qs rest : List Ck} {v u : Value} {l : List UInt8}
theorem SL.Kn {Q : List Ck → Prop} (h : Q qs) (hs : SL w0 F0 w (qs ++ ps)) : SL w0 F0 w (Any Q :: ps) := hs.re fun F hst => by
 obtain ⟨F1, F2, e, h1, h2, hd⟩ := Aw.append.1 hst
 exact ⟨F, ⟨F1, F2, e, ⟨qs, h, h1⟩, h2, hd⟩, fun _ => Iff.rfl⟩
theorem SL.Mj {Q : List Ck → Prop} (hs : SL w0 F0 w (Any Q :: ps)) : ∃ qs, Q qs ∧ SL w0 F0 w (qs ++ ps) := by
 obtain ⟨F, ⟨F1, F2, e, ⟨qs, h, h1⟩, h2, hd⟩, hF⟩ := hs.st
 exact ⟨qs, h, hs.fm, F, Aw.append.2 ⟨F1, F2, e, h1, h2, hd⟩, hF⟩
theorem SL.tk (hs : SL w0 F0 w ps) (n : Nat) (e : ps.take n = qs) : SL w0 F0 w qs := by
 subst e
 rw [← List.take_append_drop n ps] at hs
 obtain ⟨F, hst, hF⟩ := hs.st
 obtain ⟨F1, F2, e, h1, h2, hd⟩ := Aw.append.1 hst
 exact ⟨hs.fm, F1, h1, fun k hk => hF k (by simp [e, hk])⟩
structure Yj where
 XX : Nat
 dup : Nat
 swap : Nat
 Yi : Nat
 call : Nat
 ret : Nat
 XV : Nat
 Yh : Nat
 types : Nat
 wants : Nat
 gv : Nat
 bool : Nat
end
end Go.Pv
namespace Go.Pv
open Go Go.RowKit
def pick {α : Type} (l : List α) (js : List Nat) : List α := js.filterMap fun j => l[j]?
section
variable {P : Program} {w0 w : World} {F0 F : List Nat} {ps rest : List Ck} {m : List (Nat × Value)} {n d : Nat} {ty : TypeId} {pos : String} {aft : Array Edge} {x y z : Operand} {ops : Array Oper} {Q : Exit → Act → World → Prop} {a : Act} {l' : List Oper} {gd : Option (Nat × Bool)} {dd : Option Tmp}
variable {κ ν : Type} {ek : κ → Value} {ev_ : ν → Value} {l : List (κ × ν)} {r it : Nat} {js : List Nat}
theorem MapAt.size {es : Array MapEntry} {c : Nat} (h : MapAt ek ev_ w r l es c) : es.size = l.length := by simpa using congrArg List.length h.map
end
end Go.Pv
namespace Go.Pv
open Go Go.RowKit
def JI : Option Nat → Value
 | none => .pointer none
 | some g => .pointer (some ⟨g, 0, none⟩)
section
variable {S : Type} {w0 w : World} {F0 : List Nat} {ps qs : List Ck} {v : Value} {o : Option S} {s : S} {Q : S → List Ck → Prop}
def P0 (v : Value) (o : Option S) (Q : S → List Ck → Prop) : Ck := Any fun qs => (o = none ∧ v = .pointer none ∧ qs = []) ∨ ∃ s, o = some s ∧ Q s qs
theorem SL.MN (hs : SL w0 F0 w ps) : SL w0 F0 w (P0 (S := S) (.pointer none) none Q :: ps) := SL.Kn (qs := []) (.inl ⟨rfl, rfl, rfl⟩) hs
theorem SL.UF (h : Q s qs) (hs : SL w0 F0 w (qs ++ ps)) : SL w0 F0 w (P0 v (some s) Q :: ps) := SL.Kn (.inr ⟨s, rfl, h⟩) hs
theorem SL.VM (hs : SL w0 F0 w (P0 v o Q :: ps)) (ho : o = some s) : ∃ qs, Q s qs ∧ SL w0 F0 w (qs ++ ps) := by
 subst ho
 obtain ⟨qs, (⟨h, _⟩ | ⟨s', h, hq⟩), h2⟩ := SL.Mj hs
 ·cases h
 ·cases h
  exact ⟨qs, hq, h2⟩
end
end Go.Pv
namespace Go.Pv
open Go Go.RowKit
structure EJ where
 fa : List (Nat × Nat × Nat × Nat)
 fn : List Nat
 ng : List Nat
 ag : List (Nat × Nat)
def Tf : List (Nat × Nat × Nat × Nat) → Nat → Nat → Option Nat
 | [], _, _ => none
 | (s, f, o, _) :: r, s', f' => bif Nat.beq s s' then bif Nat.beq f f' then some o else Tf r s' f' else Tf r s' f'
def Et : List Nat → Nat → Bool
 | [], _ => false
 | x :: r, y => bif Nat.beq x y then true else Et r y
def EJ.okB (T : EJ) (P : Program) : Bool := (T.fa.all fun x => FD P x.1 x.2.1 x.2.2.1 x.2.2.2) && ((T.fn.all fun f => Jv P f) && ((T.ng.all fun t => Do P t) && T.ag.all fun x => El P x.1 x.2))
class BO (P : Program) where
 T : EJ
 ok : T.okB P = true
theorem PL {P : Program} {s f o : Nat} : ∀ {l : List (Nat × Nat × Nat × Nat)}, (l.all fun x => FD P x.1 x.2.1 x.2.2.1 x.2.2.2) = true → Tf l s f = some o → ∃ sz, FD P s f o sz = true
 | [], _, h => by cases h
 | (s', f', o', z) :: r, ha, h => by
  simp only [List.all_cons, Yx] at ha
  unfold Tf at h
  rcases h1 : Nat.beq s' s with _ | _
  ·rw [h1] at h; exact PL ha.2 h
  ·rw [h1] at h
   rcases h2 : Nat.beq f' f with _ | _
   ·rw [h2] at h; exact PL ha.2 h
   ·rw [h2] at h
    cases h
    rw [← Nat.eq_of_beq_eq_true h1, ← Nat.eq_of_beq_eq_true h2]
    exact ⟨z, ha.1⟩
theorem Qd {B : Nat → Bool} {f : Nat} : ∀ {l : List Nat}, (l.all fun f => B f) = true → Et l f = true → B f = true
 | [], _, h => by cases h
 | x :: r, ha, h => by
  simp only [List.all_cons, Yx] at ha
  unfold Et at h
  rcases h1 : Nat.beq x f with _ | _
  ·rw [h1] at h; exact Qd ha.2 h
  ·rw [← Nat.eq_of_beq_eq_true h1]; exact ha.1
theorem PO {P : Program} [h : BO P] {f : Nat} (hf : Et h.T.fn f = true) : Jv P f = true := by
 have := h.ok
 unfold EJ.okB at this
 simp only [Yx] at this
 exact Qd this.2.1 hf
theorem Ye {P : Program} {T : EJ} (h : T.okB P = true) {t : Nat} (hf : Et T.ng t = true) : Do P t = true := by
 unfold EJ.okB at h
 simp only [Yx] at h
 exact Qd (B := fun t => Do P t) h.2.2.1 hf
def QQ : List (Nat × Nat) → Nat → Option Nat
 | [], _ => none
 | (s, k) :: r, t => bif Nat.beq s t then some k else QQ r t
theorem Tb {P : Program} {t k : Nat} : ∀ {l : List (Nat × Nat)}, (l.all fun x => El P x.1 x.2) = true → QQ l t = some k → El P t k = true
 | [], _, h => by cases h
 | (s, k') :: r, ha, h => by
  simp only [List.all_cons, Yx] at ha
  unfold QQ at h
  rcases h1 : Nat.beq s t with _ | _
  ·rw [h1] at h; exact Tb ha.2 h
  ·rw [h1] at h
   cases h
   rw [← Nat.eq_of_beq_eq_true h1]
   exact ha.1
theorem XB {P : Program} {T : EJ} (h : T.okB P = true) {t k : Nat} (hf : QQ T.ag t = some k) : El P t k = true := by
 unfold EJ.okB at h
 simp only [Yx] at h
 exact Tb h.2.2.2 hf
theorem Yd {P : Program} {T : EJ} (h : T.okB P = true) : (T.fa.all fun x => FD P x.1 x.2.1 x.2.2.1 x.2.2.2) = true := by
 unfold EJ.okB at h
 rw [Yx] at h
 exact h.1
def NC : IntKind → Bool
 | .u8 => true
 | _ => false
def RY : IntKind → IntKind → Bool
 | .i8, .i8 => true
 | .i16, .i16 => true
 | .i32, .i32 => true
 | .i64, .i64 => true
 | .u8, .u8 => true
 | .u16, .u16 => true
 | .u32, .u32 => true
 | .u64, .u64 => true
 | _, _ => false
theorem UB {k k' : IntKind} (h : RY k k' = true) : k = k' := by cases k <;> cases k' <;> first | rfl | cases h
def VZ (b : BinOp) (k : IntKind) (p q : Int) : Option Value :=
 match b with
 | .add => bif NC k then none else some (.int k (k.wrap (p + q)))
 | .sub => bif NC k then none else some (.int k (k.wrap (p - q)))
 | .mul => bif NC k then none else some (.int k (k.wrap (p * q)))
 | .eql => some (.bool (p == q))
 | .neq => some (.bool (p != q))
 | .lss => some (.bool (decide (p < q)))
 | .leq => some (.bool (decide (p ≤ q)))
 | .gtr => some (.bool (decide (p > q)))
 | .geq => some (.bool (decide (p ≥ q)))
 | _ => none
def Li (T : EJ) (m : List (Nat × Value)) : Op → Option Value
 | .move x => ev m x
 | .assign x => ev m x
 | .pick c x y => match ev m c with
  | some (.bool true) => ev m x
  | some (.bool false) => ev m y
  | _ => none
 | .unOp .not _ x => match ev m x with
  | some (.bool b) => some (.bool (!b))
  | _ => none
 | .binOp b _ x y _ => match ev m x with
  | some (.int k p) => match ev m y with
   | some (.int k' q) => bif RY k k' then VZ b k p q else none
   | _ => none
  | _ => none
 | .extract x j => match ev m x with
  | some (.tuple ⟨vs⟩) => vs[j]?
  | _ => none
 | .nilCheck x => match ev m x with
  | some (.pointer (some b)) => some (.pointer (some b))
  | _ => none
 | .fieldAddr s x f => match Tf T.fa s f with
  | some off => match ev m x with
   | some (.pointer (some ⟨g, o, none⟩)) => some (.pointer (some ⟨g, Nat.add o off, none⟩))
   | _ => none
  | none => none
 | _ => none
section
variable {P : Program} {w : World} {m m' : List (Nat × Value)} {ops : Array Oper} {Q : Exit → Act → World → Prop} {a : Act} {n : Nat} {l l' : List Oper} {v : Value}
theorem WJ {b : BinOp} {k : IntKind} {p q : Int} {x y : Operand} {dd : Option Tmp} {t u ty : TypeId} {pos : String} {aft : Array Edge} {g : Option (Nat × Bool)} (hx : ev m x = some (.int k p)) (hy : ev m y = some (.int k q)) (h : VZ b k p q = some v) :
  EX P w m ⟨dd, .binOp b t x y u, ty, pos, aft, g⟩ v w := by
 cases b <;> simp only [VZ] at h <;> try cases h
 ·rcases hk : NC k with _ | _ <;> rw [hk] at h <;> cases h; exact Tr hx hy
 ·rcases hk : NC k with _ | _ <;> rw [hk] at h <;> cases h; exact Tw hx hy
 ·rcases hk : NC k with _ | _ <;> rw [hk] at h <;> cases h; exact Wh hx hy
 ·exact Xl hx hy
 ·exact X0 hx hy
 ·exact Xk hx hy
 ·exact Xr hx hy
 ·exact Xn hx hy
 ·exact Xx hx hy
theorem Ig {T : EJ} (hT : T.okB P = true) {op : Op} {dd : Option Tmp} {ty : TypeId} {pos : String} {aft : Array Edge} {g : Option (Nat × Bool)} (h : Li T m op = some v) : EX P w m ⟨dd, op, ty, pos, aft, g⟩ v w := by
 cases op with
 | move x => exact QK h
 | assign x => exact WH h
 | pick c x y =>
  simp only [Li] at h
  split at h
  ·rename_i hc; exact O0 hc h
  ·rename_i hc; exact Ov hc h
  ·cases h
 | unOp u t x =>
  cases u <;> simp only [Li] at h <;> try cases h
  split at h
  ·rename_i hc; cases h; exact Wd hc
  ·cases h
 | binOp b t x y u =>
  simp only [Li] at h
  split at h
  ·rename_i hx
   split at h
   ·rename_i k p _ k' q hy
    rcases hk : RY k k' with _ | _
    ·rw [hk] at h; cases h
    ·rw [hk] at h
     obtain rfl := UB hk
     exact WJ hx hy h
   ·cases h
  ·cases h
 | extract x j =>
  simp only [Li] at h
  split at h
  ·rename_i hx; exact Sk hx (by simpa using h)
  ·cases h
 | nilCheck x =>
  simp only [Li] at h
  split at h
  ·rename_i hx; cases h; exact Qt hx
  ·cases h
 | fieldAddr s x f =>
  simp only [Li] at h
  split at h
  ·rename_i off hf
   split at h
   ·rename_i hx
    cases h
    obtain ⟨sz, hb⟩ := PL (Yd hT) hf
    exact PV hb hx rfl
   ·cases h
  ·cases h
 | _ => simp only [Li] at h; cases h
theorem Fr.sub' {d : Nat} {t b : Bool} (hF : Fr a n m) (ht : t = b) (hl : look m d = some (.bool t)) : Fr a n ((d, .bool b) :: m) := ⟨hF.size, hF.defers, fun i u hu => by
 by_cases hi : d = i
 ·subst hi
  rw [Dv] at hu
  cases hu
  rw [← ht]
  exact hF.at_ _ _ hl
 ·rw [HY _ _ hi] at hu
  exact hF.at_ _ _ hu⟩
def KZ (T : EJ) (ops : Array Oper) (n : Nat) (m : List (Nat × Value)) (o : Oper) : Option (List (Nat × Value)) :=
 match o.dst with
 | none => none
 | some d => bif Nat.blt d n then
   match o.guard with
   | none => match Li T m o.op with
    | some v => some ((d, v) :: m)
    | none => none
   | some (j, b) => match (ops[j]?).bind (·.dst) with
    | none => none
    | some dj => match look m dj with
     | some (.bool c) => match c, b with
      | true, true => (match Li T m o.op with
       | some v => some ((d, v) :: m)
       | none => none)
      | false, false => (match Li T m o.op with
       | some v => some ((d, v) :: m)
       | none => none)
      | true, false => some ((d, undef) :: m)
      | false, true => some ((d, undef) :: m)
     | some (.tuple ⟨[]⟩) => some ((d, undef) :: m)
     | _ => none
  else none
def UL (T : EJ) (ops : Array Oper) (n : Nat) : Nat → List (Nat × Value) → List Oper → Option (List (Nat × Value) × List Oper)
 | 0, m, l => some (m, l)
 | k + 1, m, o :: l => match KZ T ops n m o with
  | some m' => UL T ops n k m' l
  | none => none
 | _ + 1, _, [] => none
theorem PK {T : EJ} (hT : T.okB P = true) {o : Oper} (hF : Fr a n m) (h : KZ T ops n m o = some m') (k : ∀ a, Fr a n m' → wpList P ops Q l a w) : wpList P ops Q (o :: l) a w := by
 unfold KZ at h
 split at h
 ·cases h
 ·rename_i d hd
  rcases hlt : Nat.blt d n with _ | _
  ·rw [hlt] at h; cases h
  ·rw [hlt] at h
   simp only [cond_true] at h
   split at h
   ·rename_i hg
    split at h
    ·rename_i v hv
     cases h
     exact EQ hF (Ig (P := P) hT (w := w) hv) hg hd hlt k
    ·cases h
   ·rename_i j b hg
    split at h
    ·cases h
    ·rename_i dj hj
     split at h
     ·rename_i c hb
      split at h
      ·split at h
       ·rename_i v hv
        cases h
        exact Bu hF hg hj hb (Ig (P := P) hT (w := w) hv) hd hlt k
       ·cases h
      ·split at h
       ·rename_i v hv
        cases h
        exact Bu hF hg hj hb (Ig (P := P) hT (w := w) hv) hd hlt k
       ·cases h
      ·cases h
       exact OW hF hg hj hb Bool.noConfusion hd hlt k
      ·cases h
       exact OW hF hg hj hb Bool.noConfusion hd hlt k
     ·rename_i hb
      cases h
      exact T0 hF hg hj hb hd hlt k
     ·cases h
theorem sx {o : Oper} {d : Nat} (hF : Fr a n m) (he : EX P w m o v w) (k : ∀ a, Fr a n ((d, v) :: m) → wpList P ops Q l a w) (hg : o.guard = none := by rfl) (hd : o.dst = some d := by rfl) (hlt : Nat.blt d n = true := by rfl) : wpList P ops Q (o :: l) a w := EQ hF he hg hd hlt k
theorem Fr.kt {d : Nat} {t : Bool} (hF : Fr a n m) (ht : t = true) (hl : look m d = some (.bool t) := by rfl) : Fr a n ((d, .bool true) :: m) := hF.sub' ht hl
theorem Fr.kf {d : Nat} {t : Bool} (hF : Fr a n m) (ht : t = false) (hl : look m d = some (.bool t) := by rfl) : Fr a n ((d, .bool false) :: m) := hF.sub' ht hl
theorem ifs {α : Type} {t : Nat} {b : Bool} {x y : Code} {A B : Option α} {r : α} (hF : Fr a n m) (H : (if b = true then A else B) = some r) (ht : b = true → A = some r → Fr a n ((t, .bool true) :: m) → x.wp P Q a w) (hf : b = false → B = some r → Fr a n ((t, .bool false) :: m) → y.wp P Q a w) (hc : look m t = some (.bool b) := by rfl) : (Code.cond (.tmp t) x y).wp P Q a w :=
 MR hF hc (fun h => ht h (OE h H) (hF.kt h hc)) (fun h => hf h (OG h H) (hF.kf h hc))
theorem B2 {α : Type} {b : Bool} {A B : Option α} {r : α} {G : Prop} (d : Nat) (hF : Fr a n m) (H : (if b = true then A else B) = some r) (ht : b = true → A = some r → Fr a n ((d, .bool true) :: m) → G) (hf : b = false → B = some r → Fr a n ((d, .bool false) :: m) → G) (hc : look m d = some (.bool b) := by rfl) : G :=
 bool_split b (fun h => ht h (OE h H) (hF.kt h hc)) (fun h => hf h (OG h H) (hF.kf h hc))
def OZ (m : List (Nat × Value)) : List ResultVar → Option (List Value)
 | [] => some []
 | .tmp t :: r => match look m t with
  | some v => match OZ m r with
   | some l => some (v :: l)
   | none => none
  | none => none
 | .cell _ _ :: _ => none
theorem NB : ∀ {rs : List ResultVar} {vs : List Value}, OZ m rs = some vs → UO P w m rs vs
 | [], vs, h => by cases h; rfl
 | .tmp t :: r, vs, h => by
  simp only [OZ] at h
  split at h
  ·rename_i v hv
   split at h
   ·rename_i l hl
    cases h
    exact ⟨v, l, rfl, RV.tmp hv, NB hl⟩
   ·cases h
  ·cases h
 | .cell _ _ :: _, _, h => by cases h
theorem rt {fn : Func} {S : Value → World → Prop} {vs : List Value} (hF : Fr a n m) (hS : S (PZ vs) w) (hv : OZ m fn.results.toList = some vs := by rfl) : bodyPost P fn (AN S) .ret a w :=
 B5 (rs := fn.results.toList) hF (by simp) (NB hv) ⟨_, rfl, hS⟩
section
variable {w0 : World} {F0 : List Nat} {ps : List Ck} {d : Nat} {ty : TypeId} {pos : String} {aft : Array Edge} {S : Value → World → Prop}
theorem XY [BO P] {f : Nat} {args : List Operand} {ats : Array TypeId} {vs : List Value} (hF : Fr a n m) (hs : SL w0 F0 w ps) (hc : Calls P f vs.toArray w (AN fun u w' => u = v ∧ SL w [] w' [])) (k : ∀ w a, Fr a n ((d, v) :: m) → SL w0 F0 w ps → wpList P ops Q l a w)
  (hargs : Fp m args = some vs := by rfl) (hf : Et (BO.T P).fn f = true := by rfl) (hlt : Nat.blt d n = true := by rfl) : wpList P ops Q (⟨some d, .call { callee := .value (.func f), args := args.toArray, argTypes := ats }, ty, pos, aft, none⟩ :: l) a w :=
 QO hF (PO hf) hargs hc hlt fun _ w a ⟨e, hq⟩ hF => k w a (e ▸ hF) (hs.add hq)
theorem AU [BO P] {f : Nat} {args : List Operand} {ats : Array TypeId} {vs : List Value} (hF : Fr a n m) (hc : Calls P f vs.toArray w (AN S)) (k : ∀ v w a, S v w → Fr a n ((d, v) :: m) → wpList P ops Q l a w)
  (hargs : Fp m args = some vs := by rfl) (hf : Et (BO.T P).fn f = true := by rfl) (hlt : Nat.blt d n = true := by rfl) : wpList P ops Q (⟨some d, .call { callee := .value (.func f), args := args.toArray, argTypes := ats }, ty, pos, aft, none⟩ :: l) a w :=
 QO hF (PO hf) hargs hc hlt k
end
end
end Go.Pv
namespace Go.Pv
open Go Go.RowKit
inductive Kf
 | seq (y : Code)
 | blk (id : Nat)
 | thn (J : Act → World → Prop)
 | kq (J : Act → World → Prop)
 | jmp (l : Nat) (rest : Code)
 | nog
 | rnd (c : Code) (i : Nat)
def Bg (P : Program) (Q0 : Exit → Act → World → Prop) : List Kf → Exit → Act → World → Prop
 | [] => Q0
 | .seq y :: K => Exit.then (y.wp P (Bg P Q0 K)) (Bg P Q0 K)
 | .blk id :: K => Exit.inBlock id (Bg P Q0 K)
 | .thn J :: K => Exit.then J (Bg P Q0 K)
 | .kq J :: _ => KQ J
 | .jmp l rest :: K => Exit.jump l (fun a w => rest.wp P (Exit.noGoto (Bg P Q0 K)) a w) (Bg P Q0 K)
 | .nog :: K => Exit.noGoto (Bg P Q0 K)
 | .rnd c i :: K => Exit.then (Code.rounds P c (Bg P Q0 K) i) (Bg P Q0 K)
inductive Md
 | co (c : Code)
 | li (ops : Array Oper) (l : List Oper)
 | ex (e : Exit)
def gl (P : Program) (Q0 : Exit → Act → World → Prop) (K : List Kf) : Md → Act → World → Prop
 | .co c => c.wp P (Bg P Q0 K)
 | .li ops l => wpList P ops (Bg P Q0 K) l
 | .ex e => Bg P Q0 K e
abbrev CL := List (Nat × Value)
def run (P : Program) (Q0 : Exit → Act → World → Prop) (T : EJ) (n : Nat) : Nat → Md → List Kf → CL → Option (CL × (Act → World → Prop))
 | 0, .co c, K, m => some (m, c.wp P (Bg P Q0 K))
 | 0, .li ops l, K, m => some (m, wpList P ops (Bg P Q0 K) l)
 | 0, .ex .normal, .thn J :: _, m => some (m, J)
 | 0, .ex .normal, .kq J :: _, m => some (m, J)
 | 0, .ex e, [], m => some (m, Q0 e)
 | 0, .ex e, k :: K, m => some (m, Bg P Q0 (k :: K) e)
 | i + 1, .co (.seq x y), K, m => run P Q0 T n i (.co x) (.seq y :: K) m
 | i + 1, .co (.region _ ops false), K, m => run P Q0 T n i (.li ops ops.toList) K m
 | i + 1, .co .skip, K, m => run P Q0 T n i (.ex .normal) K m
 | i + 1, .co (.block id c), K, m => run P Q0 T n i (.co c) (.blk id :: K) m
 | i + 1, .co (.exit id), K, m => run P Q0 T n i (.ex (.exit id)) K m
 | i + 1, .co .ret, K, m => run P Q0 T n i (.ex .ret) K m
 | i + 1, .co (.cond (.tmp t) x y), K, m => match look m t with
  | some (.bool true) => run P Q0 T n i (.co x) K m
  | some (.bool false) => run P Q0 T n i (.co y) K m
  | _ => none
 | i + 1, .li _ [], K, m => run P Q0 T n i (.ex .normal) K m
 | i + 1, .li ops (o :: l), K, m => match KZ T ops n m o with
  | some m' => run P Q0 T n i (.li ops l) K m'
  | none => none
 | i + 1, .ex .normal, .seq y :: K, m => run P Q0 T n i (.co y) K m
 | i + 1, .ex .normal, .blk _ :: K, m => run P Q0 T n i (.ex .normal) K m
 | i + 1, .ex (.exit j), .seq _ :: K, m => run P Q0 T n i (.ex (.exit j)) K m
 | i + 1, .ex (.exit j), .thn _ :: K, m => run P Q0 T n i (.ex (.exit j)) K m
 | i + 1, .ex (.exit j), .blk k :: K, m => bif Nat.beq k j then run P Q0 T n i (.ex .normal) K m else run P Q0 T n i (.ex (.exit j)) K m
 | i + 1, .ex .ret, .seq _ :: K, m => run P Q0 T n i (.ex .ret) K m
 | i + 1, .ex .ret, .blk _ :: K, m => run P Q0 T n i (.ex .ret) K m
 | i + 1, .ex .ret, .thn _ :: K, m => run P Q0 T n i (.ex .ret) K m
 | i + 1, .co (.goto l), K, m => run P Q0 T n i (.ex (.goto l)) K m
 | i + 1, .co (.label _), K, m => run P Q0 T n i (.ex .normal) K m
 | i + 1, .ex (.goto j), .seq _ :: K, m => run P Q0 T n i (.ex (.goto j)) K m
 | i + 1, .ex (.goto j), .thn _ :: K, m => run P Q0 T n i (.ex (.goto j)) K m
 | i + 1, .ex (.goto j), .rnd _ _ :: K, m => run P Q0 T n i (.ex (.goto j)) K m
 | i + 1, .ex (.goto j), .blk _ :: K, m => run P Q0 T n i (.ex (.goto j)) K m
 | i + 1, .ex (.goto j), .jmp l y :: K, m => bif Nat.beq j l then run P Q0 T n i (.co y) (.nog :: K) m else none
 | i + 1, .ex .normal, .jmp _ _ :: K, m => run P Q0 T n i (.ex .normal) K m
 | i + 1, .ex (.exit j), .jmp _ _ :: K, m => run P Q0 T n i (.ex (.exit j)) K m
 | i + 1, .ex .ret, .jmp _ _ :: K, m => run P Q0 T n i (.ex .ret) K m
 | i + 1, .ex .normal, .nog :: K, m => run P Q0 T n i (.ex .normal) K m
 | i + 1, .ex (.exit j), .nog :: K, m => run P Q0 T n i (.ex (.exit j)) K m
 | i + 1, .ex .ret, .nog :: K, m => run P Q0 T n i (.ex .ret) K m
 | i + 2, .ex .normal, .rnd c (j + 1) :: K, m => run P Q0 T n i (.co c) (.rnd c j :: K) m
 | i + 1, .ex (.exit j), .rnd _ _ :: K, m => run P Q0 T n i (.ex (.exit j)) K m
 | i + 1, .ex .ret, .rnd _ _ :: K, m => run P Q0 T n i (.ex .ret) K m
 | _, _, _, _ => none
section
variable {P : Program} {w w' : World} {m m' : List (Nat × Value)} {ops : Array Oper} {Q Q0 : Exit → Act → World → Prop} {a : Act} {n : Nat} {l l' : List Oper} {v : Value} {K : List Kf} {X X' : Act → World → Prop}
theorem Bp [h0 : BO P] : ∀ (i : Nat) {d : Md} {K : List Kf} {m : CL} {a : Act}, Fr a n m → run P Q0 h0.T n i d K m = some (m', X) → (∀ a, Fr a n m' → X a w) → gl P Q0 K d a w
 | 0, .co c, K, m, a, hF, h, k => by cases h; exact k a hF
 | 0, .li ops l, K, m, a, hF, h, k => by cases h; exact k a hF
 | 0, .ex e, [], m, a, hF, h, k => by cases e <;> (cases h; exact k a hF)
 | 0, .ex e, .seq y :: K, m, a, hF, h, k => by cases e <;> (cases h; exact k a hF)
 | 0, .ex e, .blk y :: K, m, a, hF, h, k => by cases e <;> (cases h; exact k a hF)
 | 0, .ex e, .thn y :: K, m, a, hF, h, k => by cases e <;> (cases h; exact k a hF)
 | 0, .ex e, .kq y :: K, m, a, hF, h, k => by cases e <;> (cases h; exact k a hF)
 | 0, .ex e, .jmp l y :: K, m, a, hF, h, k => by cases e <;> (cases h; exact k a hF)
 | 0, .ex e, .nog :: K, m, a, hF, h, k => by cases e <;> (cases h; exact k a hF)
 | 0, .ex e, .rnd c j :: K, m, a, hF, h, k => by cases e <;> (cases h; exact k a hF)
 | i + 1, .co c, K, m, a, hF, h, k => by
  cases c with
  | seq x y => exact wp_seq (Bp i (K := .seq y :: K) hF h k)
  | region id ops b =>
   cases b with
   | false => exact Np (l := ops.toList) (Bp i hF h k)
   | true => simp only [run] at h; cases h
  | skip => exact wp_skip (Bp i hF h k)
  | block id c => exact wp_block (Bp i (K := .blk id :: K) hF h k)
  | exit id => exact wp_exit (Bp i (d := .ex (.exit id)) hF h k)
  | ret => exact wp_ret (Bp i (d := .ex .ret) hF h k)
  | goto l => exact wp_goto (Bp i (d := .ex (.goto l)) hF h k)
  | label l => exact wp_label (Bp i (d := .ex .normal) hF h k)
  | cond t x y =>
   cases t with
   | tmp t =>
    simp only [run] at h
    split at h
    ·rename_i ht; exact Q7 hF ht (Bp i hF h k)
    ·rename_i ht; exact NI hF ht (Bp i hF h k)
    ·cases h
   | _ => simp only [run] at h; cases h
  | _ => simp only [run] at h; cases h
 | i + 1, .li ops [], K, m, a, hF, h, k => Pq (P := P) (ops := ops) (Bp i (d := .ex .normal) hF h k)
 | i + 1, .li ops (o :: l), K, m, a, hF, h, k => by
  simp only [run] at h
  split at h
  ·rename_i m1 h1
   exact PK h0.ok hF h1 fun a hF => Bp i (d := .li ops l) hF h k
  ·cases h
 | i + 1, .ex e, [], m, a, hF, h, k => by cases e <;> (simp only [run] at h; cases h)
 | i + 1, .ex e, .seq y :: K, m, a, hF, h, k => by
  cases e with
  | normal => exact Bp i (d := .co y) hF h k
  | exit j => exact Bp i (d := .ex (.exit j)) (K := K) hF h k
  | goto j => exact Bp i (d := .ex (.goto j)) (K := K) hF h k
  | ret => exact Bp i (d := .ex .ret) (K := K) hF h k
  | _ => simp only [run] at h; cases h
 | i + 1, .ex e, .thn J :: K, m, a, hF, h, k => by
  cases e with
  | exit j => exact Bp i (d := .ex (.exit j)) (K := K) hF h k
  | goto j => exact Bp i (d := .ex (.goto j)) (K := K) hF h k
  | ret => exact Bp i (d := .ex .ret) (K := K) hF h k
  | _ => simp only [run] at h; cases h
 | i + 1, .ex e, .kq J :: K, m, a, hF, h, k => by cases e <;> (simp only [run] at h; cases h)
 | i + 1, .ex e, .blk id :: K, m, a, hF, h, k => by
  cases e with
  | normal => exact Bp i (d := .ex .normal) (K := K) hF h k
  | exit j =>
   simp only [run] at h
   rcases hb : Nat.beq id j with _ | _
   ·rw [hb] at h
    exact Pn (by
     rcases hb2 : Nat.beq j id with _ | _
     ·rfl
     ·rw [Nat.eq_of_beq_eq_true hb2, Nat.beq_refl] at hb; cases hb) (Bp i (d := .ex (.exit j)) (K := K) hF h k)
   ·rw [hb] at h
    obtain rfl := Nat.eq_of_beq_eq_true hb
    exact QP (Bp i (d := .ex .normal) (K := K) hF h k)
  | goto j => exact Bp i (d := .ex (.goto j)) (K := K) hF h k
  | ret => exact Bp i (d := .ex .ret) (K := K) hF h k
  | _ => simp only [run] at h; cases h
 | i + 1, .ex e, .jmp l y :: K, m, a, hF, h, k => by
  cases e with
  | normal => exact Bp i (d := .ex .normal) (K := K) hF h k
  | exit j => exact Bp i (d := .ex (.exit j)) (K := K) hF h k
  | ret => exact Bp i (d := .ex .ret) (K := K) hF h k
  | goto j =>
   simp only [run] at h
   rcases hb : Nat.beq j l with _ | _
   ·rw [hb] at h; cases h
   ·rw [hb] at h
    obtain rfl := Nat.eq_of_beq_eq_true hb
    exact Vw (Q := Bg P Q0 K) (Bp i (d := .co y) (K := .nog :: K) hF h k)
  | _ => simp only [run] at h; cases h
 | i + 1, .ex e, .nog :: K, m, a, hF, h, k => by
  cases e with
  | normal => exact Bp i (d := .ex .normal) (K := K) hF h k
  | exit j => exact Bp i (d := .ex (.exit j)) (K := K) hF h k
  | ret => exact Bp i (d := .ex .ret) (K := K) hF h k
  | _ => simp only [run] at h; cases h
 | i + 1, .ex e, .rnd c j :: K, m, a, hF, h, k => by
  cases e with
  | normal =>
   cases i with
   | zero => cases j <;> (simp only [run] at h; cases h)
   | succ i =>
    cases j with
    | zero => simp only [run] at h; cases h
    | succ j => exact Ql (Bp i (d := .co c) (K := .rnd c j :: K) hF h k)
  | exit j => exact Bp i (d := .ex (.exit j)) (K := K) hF h k
  | goto j => exact Bp i (d := .ex (.goto j)) (K := K) hF h k
  | ret => exact Bp i (d := .ex .ret) (K := K) hF h k
  | _ => simp only [run] at h; cases h
section
variable [h0 : BO P]
theorem gc {c : Code} (i : Nat) (hF : Fr a n m) (h : run P Q0 h0.T n i (.co c) K m = some (m', X)) (k : ∀ a, Fr a n m' → X a w) : c.wp P (Bg P Q0 K) a w := Bp i hF h k
theorem gw (i : Nat) (hF : Fr a n m) (h : run P Q0 h0.T n i (.li ops l) K m = some (m', X)) (k : ∀ a, Fr a n m' → X a w) : wpList P ops (Bg P Q0 K) l a w := Bp (d := .li ops l) i hF h k
theorem ge {e : Exit} (i : Nat) (hF : Fr a n m) (h : run P Q0 h0.T n i (.ex e) K m = some (m', X)) (k : ∀ a, Fr a n m' → X a w) : Bg P Q0 K e a w := Bp (d := .ex e) i hF h k
def FP (o : Oper) (n : Nat) : Option Nat := match o.guard, o.dst with
 | none, some d => bif Nat.blt d n then some d else none
 | _, _ => none
theorem Gh {o : Oper} {d : Nat} (h : FP o n = some d) : o.guard = none ∧ o.dst = some d ∧ Nat.blt d n = true := by
 unfold FP at h
 split at h
 ·rename_i d' h1 h2
  rcases hb : Nat.blt d' n with _ | _
  ·rw [hb] at h; cases h
  ·rw [hb] at h; cases h; exact ⟨h1, h2, hb⟩
 ·cases h
theorem gx {o : Oper} {d : Nat} (hF : Fr a n m) (he : EX P w m o v w) (i : Nat) (hd : FP o n = some d) (h : run P Q0 h0.T n i (.li ops l) K ((d, v) :: m) = some (m', X)) (k : ∀ a, Fr a n m' → X a w) : wpList P ops (Bg P Q0 K) (o :: l) a w :=
 have ⟨h1, h2, h3⟩ := Gh hd
 EQ hF he h1 h2 h3 fun a hF => gw i hF h k
theorem AK {α : Type} {t : Nat} {b : Bool} {x y : Code} {A B : Option α} {r : α} {m1 m2 : CL} (hF : Fr a n m) (H : (if b = true then A else B) = some r) (i j : Nat) (hc : look m t = some (.bool b))
  (h1 : run P Q0 h0.T n i (.co x) K ((t, .bool true) :: m) = some (m1, X)) (h2 : run P Q0 h0.T n j (.co y) K ((t, .bool false) :: m) = some (m2, X'))
  (ht : b = true → A = some r → ∀ a, Fr a n m1 → X a w) (hf : b = false → B = some r → ∀ a, Fr a n m2 → X' a w) : (Code.cond (.tmp t) x y).wp P (Bg P Q0 K) a w :=
 ifs hF H (fun hb H hF => gc i hF h1 (ht hb H)) (fun hb H hF => gc j hF h2 (hf hb H)) hc
section
variable {w0 : World} {F0 : List Nat} {ps : List Ck} {d : Nat} {ty : TypeId} {pos : String} {aft : Array Edge} {S : Value → World → Prop}
theorem DW {f : Nat} {args : List Operand} {ats : Array TypeId} {vs : List Value} (hF : Fr a n m) (hs : SL w0 F0 w ps) (hc : Calls P f vs.toArray w (AN fun u w' => u = v ∧ SL w [] w' [])) (i : Nat)
  (hargs : Fp m args = some vs) (hf : Et h0.T.fn f = true) (hlt : Nat.blt d n = true) (h : run P Q0 h0.T n i (.li ops l) K ((d, v) :: m) = some (m', X)) (k : ∀ w a, Fr a n m' → SL w0 F0 w ps → X a w) :
  wpList P ops (Bg P Q0 K) (⟨some d, .call { callee := .value (.func f), args := args.toArray, argTypes := ats }, ty, pos, aft, none⟩ :: l) a w :=
 XY hF hs hc (fun w a hF hs => gw i hF h fun a hF => k w a hF hs) hargs hf hlt
end
theorem BV {f : FuncId} {fn : Func} {c : Code} {args : List Value} {R : Ending → World → Prop} (hf : P.funcs[f]? = some fn) (hn : fn.ntmps = n) (i : Nat) (hb : fn.body = some c) (hl : Nat.ble args.length n = true)
  (h : run P (bodyPost P fn R) h0.T n i (.co c) [] (JK 0 args) = some (m', X)) (k : ∀ a, Fr a n m' → X a w) : Calls P f args.toArray w R :=
 Nr hf hb hn (Nat.le_of_ble_eq_true hl) fun a hF => gc i hF h k
omit h0 in
theorem BB {c : Code} (J : Act → World → Prop) (h1 : c.wp P (Bg P Q0 (.thn J :: K)) a w) (h2 : ∀ a w, J a w → Bg P Q0 K .normal a w) : c.wp P (Bg P Q0 K) a w := Vv J h1 h2
omit h0 in
theorem Dk {S R : Type} {c : Code} (body : S → Option (S ⊕ R)) (I : S → Act → World → Prop) {s : S} {r : R} (H : Ay body s = some r) (h0 : I s a w)
  (round : ∀ s a w, I s a w → ∀ o, body s = some o → (∀ r', o = .inr r' → r' = r) → c.wp P (Bg P Q0 (.thn (fun a' w' => ∃ s', o = .inl s' ∧ I s' a' w') :: K)) a w) : (Code.loop c).wp P (Bg P Q0 K) a w := Xg body I H h0 round
end
end
end Go.Pv
namespace Go.Pv
open Go Go.RowKit
def mark (k : Nat) (D : List Nat) : Array Bool := D.foldr (fun i A => A.setIfInBounds i true) (Array.replicate k false)
def HD (P : Program) (ops : Array Oper) (Q : Exit → Act → World → Prop) (S : World → Prop) (D : List Nat) (a : Act) (w : World) : Prop :=
 wpAnyH P .any ops (NoPanic Q) S (ops.size - D.length) (mark ops.size D) a w
def OM (ops : Array Oper) (D : List Nat) : List Nat := Region.ready .any ops (mark ops.size D)
def OK (ops : Array Oper) : List Nat → List Nat → Bool
 | _, [] => true
 | D, i :: is => Nat.blt D.length ops.size && (Region.free .any ops (mark ops.size D) i && ((OM ops D).contains i && OK ops (i :: D) is))
inductive QI (P : Program) (ops : Array Oper) (n : Nat) (S : World → Prop) : CL → List Nat → CL → Prop
 | nil {m : CL} : QI P ops n S m [] m
 | op {m m' : CL} {is : List Nat} {i d : Nat} {o : Oper} {v : Value} (hi : ops[i]? = some o) (he : ∀ w, S w → EX P w m o v w) (hd : FP o n = some d) (t : QI P ops n S ((d, v) :: m) is m') : QI P ops n S m (i :: is) m'
 | gop {m m' : CL} {is : List Nat} {i d j dj : Nat} {b : Bool} {o : Oper} {v : Value} (hi : ops[i]? = some o) (he : ∀ w, S w → EX P w m o v w) (hg : o.guard = some (j, b)) (hj : (ops[j]?).bind (·.dst) = some dj) (hb : look m dj = some (.bool b)) (hd : o.dst = some d) (hlt : Nat.blt d n = true) (t : QI P ops n S ((d, v) :: m) is m') : QI P ops n S m (i :: is) m'
 | skip {m m' : CL} {is : List Nat} {i d j dj : Nat} {b c : Bool} {o : Oper} (hi : ops[i]? = some o) (hg : o.guard = some (j, c)) (hj : (ops[j]?).bind (·.dst) = some dj) (hb : look m dj = some (.bool b)) (hne : b ≠ c) (hd : o.dst = some d) (hlt : Nat.blt d n = true) (t : QI P ops n S ((d, undef) :: m) is m') : QI P ops n S m (i :: is) m'
 | skip' {m m' : CL} {is : List Nat} {i d j dj : Nat} {c : Bool} {o : Oper} (hi : ops[i]? = some o) (hg : o.guard = some (j, c)) (hj : (ops[j]?).bind (·.dst) = some dj) (hb : look m dj = some undef) (hd : o.dst = some d) (hlt : Nat.blt d n = true) (t : QI P ops n S ((d, undef) :: m) is m') : QI P ops n S m (i :: is) m'
 | kn {m m' : CL} {is : List Nat} {dj : Nat} {t b : Bool} (hl : look m dj = some (.bool t)) (ht : t = b) (k : QI P ops n S ((dj, .bool b) :: m) is m') : QI P ops n S m is m'
def UI (T : EJ) (ops : Array Oper) (n : Nat) : Nat → CL → List Nat → Option (CL × List Nat)
 | 0, m, l => some (m, l)
 | k + 1, m, i :: l => match ops[i]? with
  | some o => match KZ T ops n m o with
   | some m' => UI T ops n k m' l
   | none => none
  | none => none
 | _ + 1, _, [] => none
section
variable {P : Program} {ops : Array Oper} {S : World → Prop} {Q : Exit → Act → World → Prop} {n d : Nat} {m m' m1 : CL} {a : Act} {w : World} {D is is' : List Nat} {v : Value}
theorem WG {T : EJ} (hT : T.okB P = true) {o : Oper} {i : Nat} (hi : ops[i]? = some o) (h : KZ T ops n m o = some m1) (t : QI P ops n S m1 is m') : QI P ops n S m (i :: is) m' := by
 unfold KZ at h
 split at h
 ·cases h
 ·rename_i d hd
  rcases hlt : Nat.blt d n with _ | _
  ·rw [hlt] at h; cases h
  ·rw [hlt] at h
   simp only [cond_true] at h
   split at h
   ·rename_i hg
    split at h
    ·rename_i v hv
     cases h
     exact QI.op hi (fun w _ => Ig hT hv) (by unfold FP; rw [hg, hd]; simp only [hlt, cond_true]) t
    ·cases h
   ·rename_i j b hg
    split at h
    ·cases h
    ·rename_i dj hj
     split at h
     ·rename_i c hb
      split at h
      ·split at h
       ·rename_i v hv
        cases h
        exact QI.gop hi (fun w _ => Ig hT hv) hg hj hb hd hlt t
       ·cases h
      ·split at h
       ·rename_i v hv
        cases h
        exact QI.gop hi (fun w _ => Ig hT hv) hg hj hb hd hlt t
       ·cases h
      ·cases h
       exact QI.skip hi hg hj hb Bool.noConfusion hd hlt t
      ·cases h
       exact QI.skip hi hg hj hb Bool.noConfusion hd hlt t
     ·rename_i hb
      cases h
      exact QI.skip' hi hg hj hb hd hlt t
     ·cases h
theorem QI.ev_ {T : EJ} (hT : T.okB P = true) : ∀ (k : Nat) {m : CL} {is : List Nat}, UI T ops n k m is = some (m1, is') → QI P ops n S m1 is' m' → QI P ops n S m is m'
 | 0, m, is, h, t => by cases h; exact t
 | k + 1, m, [], h, t => by cases h
 | k + 1, m, i :: is, h, t => by
  simp only [UI] at h
  split at h
  ·rename_i o ho
   split at h
   ·rename_i m2 h2
    exact WG hT ho h2 (QI.ev_ hT k h t)
   ·cases h
  ·cases h
theorem QI.ev [h0 : BO P] (k : Nat) (h : UI h0.T ops n k m is = some (m1, is') ) (t : QI P ops n S m1 is' m') : QI P ops n S m is m' := QI.ev_ h0.ok k h t
theorem Yc (hs : Region.noSelect ops = true) (hS : S w) : ∀ {is D : List Nat} {m : CL} {a : Act}, QI P ops n S m is m' → OK ops D is = true → Fr a n m → (∀ a, Fr a n m' → HD P ops Q S (is.reverseAux D) a w) → HD P ops Q S D a w := by
 intro is D m a h
 induction h generalizing D a with
 | nil => intro _ hF k; exact k a hF
 | op hi he hd _ ih =>
  intro hk hF k
  simp only [OK, Yx] at hk
  obtain ⟨h1, h2, h3, h4⟩ := hk
  rw [Nat.blt_eq] at h1
  obtain ⟨hg, hd, hlt⟩ := Gh hd
  unfold HD
  rw [show ops.size - D.length = (ops.size - (D.length + 1)) + 1 by omega]
  exact Vu hi hs h2 h3 he hg hd hlt hF hS fun a hF => ih h4 hF k
 | gop hi he hg hj hb hd hlt _ ih =>
  intro hk hF k
  simp only [OK, Yx] at hk
  obtain ⟨h1, h2, h3, h4⟩ := hk
  rw [Nat.blt_eq] at h1
  unfold HD
  rw [show ops.size - D.length = (ops.size - (D.length + 1)) + 1 by omega]
  exact TR hi hs h2 h3 he hg hj hb hd hlt hF hS fun a hF => ih h4 hF k
 | skip hi hg hj hb hne hd hlt _ ih =>
  intro hk hF k
  simp only [OK, Yx] at hk
  obtain ⟨h1, h2, h3, h4⟩ := hk
  rw [Nat.blt_eq] at h1
  unfold HD
  rw [show ops.size - D.length = (ops.size - (D.length + 1)) + 1 by omega]
  exact U6 hi hs h2 h3 hg hj hb hne hd hlt hF hS fun a hF => ih h4 hF k
 | skip' hi hg hj hb hd hlt _ ih =>
  intro hk hF k
  simp only [OK, Yx] at hk
  obtain ⟨h1, h2, h3, h4⟩ := hk
  rw [Nat.blt_eq] at h1
  unfold HD
  rw [show ops.size - D.length = (ops.size - (D.length + 1)) + 1 by omega]
  exact SN hi hs h2 h3 hg hj hb hd hlt hF hS fun a hF => ih h4 hF k
 | kn hl ht _ ih => exact fun hk hF k => ih hk (hF.sub' ht hl) k
theorem hq (is : List Nat) (hF : Fr a n m) (hS : S w) (h : QI P ops n S m is m') (hk : (Region.noSelect ops && OK ops D is) = true) (k : ∀ a, Fr a n m' → HD P ops Q S (is.reverseAux D) a w) : HD P ops Q S D a w := by
 rw [Yx] at hk
 exact Yc hk.1 hS h hk.2 hF k
abbrev KH (P : Program) (ops : Array Oper) (Q : Exit → Act → World → Prop) (S : World → Prop) (D : List Nat) : Act → World → Prop := fun a' w' => S w' ∧ HD P ops Q S D a' w'
def Jt (ops : Array Oper) (D rs : List Nat) : Bool := Nat.blt D.length ops.size && (OM ops D == rs)
theorem Wc {rs : List Nat} (hr : Jt ops D rs = true) (hne : rs ≠ []) (h : ∀ i ∈ rs, wpOp P ops (NoPanic Q) i (KH P ops Q S (i :: D)) a w) : HD P ops Q S D a w := by
 unfold Jt at hr
 rw [Yx, Ap] at hr
 have h1 := hr.1
 rw [Nat.blt_eq] at h1
 unfold HD
 rw [show ops.size - D.length = (ops.size - (D.length + 1)) + 1 by omega]
 exact Vn hr.2 hne fun i hi => h i hi
theorem ho (i : Nat) {o : Oper} (hi : ops[i]? = some o) (hr : Jt ops D [i] = true) (h : wpList P ops (Bg P Q [.kq (KH P ops Q S (i :: D))]) [o] a w) : HD P ops Q S D a w :=
 Wc hr (by simp) (Ir (Ge hi h) PS)
theorem Hh (i j : Nat) {o o' : Oper} (hi : ops[i]? = some o) (hj : ops[j]? = some o') (hr : Jt ops D [i, j] = true) (h : wpList P ops (Bg P Q [.kq (KH P ops Q S (i :: D))]) [o] a w) (h' : wpList P ops (Bg P Q [.kq (KH P ops Q S (j :: D))]) [o'] a w) : HD P ops Q S D a w :=
 Wc hr (by simp) (Ir (Ge hi h) (Ir (Ge hj h') PS))
theorem UN (i j l : Nat) {o o' o2 : Oper} (hi : ops[i]? = some o) (hj : ops[j]? = some o') (hl : ops[l]? = some o2) (hr : Jt ops D [i, j, l] = true) (h : wpList P ops (Bg P Q [.kq (KH P ops Q S (i :: D))]) [o] a w) (h' : wpList P ops (Bg P Q [.kq (KH P ops Q S (j :: D))]) [o'] a w)
  (h2 : wpList P ops (Bg P Q [.kq (KH P ops Q S (l :: D))]) [o2] a w) : HD P ops Q S D a w :=
 Wc hr (by simp) (Ir (Ge hi h) (Ir (Ge hj h') (Ir (Ge hl h2) PS)))
theorem Ki {i : Nat} {l : List Nat} {o : Oper} (hi : ops[i]? = some o) (h : wpList P ops (Bg P Q [.kq (KH P ops Q S (i :: D))]) [o] a w) (t : ∀ j ∈ l, wpOp P ops (NoPanic Q) j (KH P ops Q S (j :: D)) a w) : ∀ j ∈ i :: l, wpOp P ops (NoPanic Q) j (KH P ops Q S (j :: D)) a w :=
 Ir (C := fun j => wpOp P ops (NoPanic Q) j (KH P ops Q S (j :: D)) a w) (Ge hi h) t
theorem Jn (hr : (OM ops D == []) = true) (h : Q .normal a w) : HD P ops Q S D a w := Va (by rw [Ap] at hr; exact hr) h
theorem XO {id : Nat} {l : List Oper} (hm : P.follows .mixedOrders = true) (S : World → Prop) (h : HD P l.toArray Q S [] a w.drew) : (Code.region id l.toArray true).wp P Q a w := Vx hm S (by
 unfold HD at h
 simpa [mark] using h)
theorem Jj {D0 : List Nat} {a0 : Act} {w0 : World} (D : List Nat) (I : Act → World → Prop) (h : ∀ a w, I a w → HD P ops Q S D a w) (k : (∀ a w, I a w → HD P ops Q S D a w) → HD P ops Q S D0 a0 w0) : HD P ops Q S D0 a0 w0 := k h
theorem GV {D' : List Nat} {I : Act → World → Prop} (h : ∀ a w, I a w → HD P ops Q S D a w) (hI : I a w) (e : (Nat.beq D.length D'.length && (mark ops.size D == mark ops.size D')) = true) : HD P ops Q S D' a w := by
 rw [Yx, Ap] at e
 have := h a w hI
 unfold HD at this ⊢
 rw [← Nat.eq_of_beq_eq_true e.1, ← e.2]
 exact this
end
end Go.Pv
namespace Go.Pv
open Go Go.RowKit
section
variable {α : Type} {a b c d e f g h i j x : α} {l : List α}
theorem m0 : x ∈ x :: l := .head _
theorem m1 : x ∈ a :: x :: l := .tail _ m0
theorem m2 : x ∈ a :: b :: x :: l := .tail _ m1
theorem m3 : x ∈ a :: b :: c :: x :: l := .tail _ m2
theorem m4 : x ∈ a :: b :: c :: d :: x :: l := .tail _ m3
theorem m5 : x ∈ a :: b :: c :: d :: e :: x :: l := .tail _ m4
theorem m6 : x ∈ a :: b :: c :: d :: e :: f :: x :: l := .tail _ m5
theorem m7 : x ∈ a :: b :: c :: d :: e :: f :: g :: x :: l := .tail _ m6
theorem m8 : x ∈ a :: b :: c :: d :: e :: f :: g :: h :: x :: l := .tail _ m7
theorem m9 : x ∈ a :: b :: c :: d :: e :: f :: g :: h :: i :: x :: l := .tail _ m8
end
theorem Fr.sb {a : Act} {n : Nat} {m m' : CL} (h : Fr a n m) (hs : RL m' m := by (repeat refine ⟨rfl, ?_⟩); exact trivial) : Fr a n m' := h.sub hs
def MZ (T : EJ) (m : CL) (cs : List Value) (n : Nat) (o : Oper) : Option (Nat × Nat × Value) :=
 match o.op with
 | .load t x => match ev m x with
  | some (.pointer (some ⟨g, off, none⟩)) => match FP o n with
   | some d => bif Et T.ng t then (match cs[off]? with
     | some v => some (g, d, v)
     | none => none) else (match off with
     | 0 => (match QQ T.ag t with
      | some k => bif Nat.beq cs.length k then some (g, d, .agg ⟨cs⟩) else none
      | none => none)
     | _ => none)
   | none => none
  | _ => none
 | _ => none
def WE (T : EJ) (m : CL) (n : Nat) (o : Oper) : Option (Nat × Nat × Nat) :=
 match o.op with
 | .load t x => match ev m x with
  | some (.pointer (some ⟨g, 0, none⟩)) => match FP o n with
   | some d => (match QQ T.ag t with
    | some k => some (g, d, k)
    | none => none)
   | none => none
  | _ => none
 | _ => none
def Tm (m : CL) (n : Nat) (o : Oper) : Option (TypeId × Value × Int × Nat) :=
 match o.op with
 | .indexAddr t x y => match ev m x with
  | some v => match ev m y with
   | some (.int _ j) => match FP o n with
    | some d => some (t, v, j, d)
    | none => none
   | _ => none
  | none => none
 | _ => none
section
variable {P : Program} {w w' : World} {m m' : CL} {ops : Array Oper} {Q Q0 : Exit → Act → World → Prop} {a : Act} {n : Nat} {l l' : List Oper} {v : Value} {K : List Kf} {X X' : Act → World → Prop}
variable {w0 : World} {F0 : List Nat} {ps : List Ck} {o : Oper} {d g t : Nat} {cs : List Value}
theorem Q8 {T : EJ} (h2 : MZ T m cs n o = some (g, d, v)) : FP o n = some d := by
 unfold MZ at h2
 split at h2
 ·split at h2
  ·split at h2
   ·rename_i d' hd
    have : d' = d := by
     revert h2
     rcases Et T.ng _ with _ | _
     ·simp only [cond_false]
      intro h2
      split at h2
      ·split at h2
       ·rename_i k _
        rcases hb : Nat.beq cs.length k with _ | _
        ·rw [hb] at h2; cases h2
        ·rw [hb] at h2; cases h2; rfl
       ·cases h2
      ·cases h2
     ·simp only [cond_true]
      intro h2
      split at h2
      ·cases h2; rfl
      ·cases h2
    rw [hd, this]
   ·cases h2
  ·cases h2
 ·cases h2
theorem Ls {T : EJ} (hT : T.okB P = true) (hs : SL w0 F0 w ps) (hm : Ae g t cs ∈ ps) (h : MZ T m cs n o = some (g, d, v)) : EX P w m o v w ∧ FP o n = some d := by
 obtain ⟨dd, op, ty, pos, aft, gd⟩ := o
 unfold MZ at h
 split at h
 ·rename_i t' x hop
  simp only at hop
  subst hop
  split at h
  ·rename_i g' off hx
   split at h
   ·rename_i d' hd
    rcases hn : Et T.ng t' with _ | _
    ·rw [hn] at h
     simp only [cond_false] at h
     split at h
     ·split at h
      ·rename_i k hk
       rcases hb : Nat.beq cs.length k with _ | _
       ·rw [hb] at h; cases h
       ·rw [hb] at h
        cases h
        exact ⟨Be (XB hT hk) hx (hs.E0 hm (o := 0) (ds := cs) (fun j u hu => by rw [Nat.zero_add]; exact hu)) (Nat.eq_of_beq_eq_true hb), hd⟩
      ·cases h
     ·cases h
    ·rw [hn] at h
     simp only [cond_true] at h
     split at h
     ·rename_i u hu
      cases h
      exact ⟨Ar (Ye hT hn) hx (hs.Aq hm hu), hd⟩
     ·cases h
   ·cases h
  ·cases h
 ·cases h
theorem VY {T : EJ} {k : Nat} (hT : T.okB P = true) (hs : SL w0 F0 w ps) (hm : Ae g t cs ∈ ps) (h : WE T m n o = some (g, d, k)) (hk : cs.length = k) : EX P w m o (.agg ⟨cs⟩) w ∧ FP o n = some d := by
 obtain ⟨dd, op, ty, pos, aft, gd⟩ := o
 unfold WE at h
 split at h
 ·rename_i t' x hop
  simp only at hop
  subst hop
  split at h
  ·rename_i g' hx
   split at h
   ·rename_i d' hd
    split at h
    ·rename_i k' hk'
     cases h
     exact ⟨Be (XB hT hk') hx (hs.E0 hm (o := 0) (ds := cs) (fun j u hu => by rw [Nat.zero_add]; exact hu)) hk, hd⟩
    ·cases h
   ·cases h
  ·cases h
 ·cases h
theorem KY {t : TypeId} {i : Int} {ad : Addr} (hi : L8 P t v i ad) (h : Tm m n o = some (t, v, i, d)) : (∀ w, EX P w m o (.pointer (some ad)) w) ∧ FP o n = some d := by
 obtain ⟨dd, op, ty, pos, aft, gd⟩ := o
 unfold Tm at h
 split at h
 ·rename_i t' x y hop
  simp only at hop
  subst hop
  split at h
  ·rename_i v' hv
   split at h
   ·rename_i k j hj
    split at h
    ·rename_i d' hd
     cases h
     exact ⟨fun w => hi _ _ _ _ _ _ _ _ _ _ hv hj, hd⟩
    ·cases h
   ·cases h
  ·cases h
 ·cases h
section
variable [h0 : BO P]
theorem AA (hF : Fr a n m) (hs : SL w0 F0 w ps) (hm : Ae g t cs ∈ ps) (i : Nat) (h : ((MZ h0.T m cs n o).bind fun r => (run P Q0 h0.T n i (.li ops l) K ((r.2.1, r.2.2) :: m)).map fun x => (r.1, x)) = some (g, m', X)) (k : ∀ a, Fr a n m' → X a w) : wpList P ops (Bg P Q0 K) (o :: l) a w := by
 obtain ⟨⟨g', d, v⟩, h1, h2⟩ := Option.bind_eq_some_iff.1 h
 obtain ⟨x, h3, h4⟩ := Option.map_eq_some_iff.1 h2
 cases h4
 obtain ⟨he, hd⟩ := Ls h0.ok hs hm h1
 exact gx hF he i hd h3 k
theorem Ya {c : Nat} (hF : Fr a n m) (hs : SL w0 F0 w ps) (hm : Ae g t cs ∈ ps) (i : Nat) (h : ((WE h0.T m n o).bind fun r => (run P Q0 h0.T n i (.li ops l) K ((r.2.1, .agg ⟨cs⟩) :: m)).map fun x => (r.1, r.2.2, x)) = some (g, c, m', X)) (k : ∀ a, Fr a n m' → X a w) (hc : cs.length = c := by simp) : wpList P ops (Bg P Q0 K) (o :: l) a w := by
 obtain ⟨⟨g', d, v⟩, h1, h2⟩ := Option.bind_eq_some_iff.1 h
 obtain ⟨x, h3, h4⟩ := Option.map_eq_some_iff.1 h2
 cases h4
 obtain ⟨he, hd⟩ := VY h0.ok hs hm h1 hc
 exact gx hF he i hd h3 k
theorem gi {t : TypeId} {j : Int} {ad : Addr} (hF : Fr a n m) (hi : L8 P t v j ad) (i : Nat) (h : ((Tm m n o).bind fun r => (run P Q0 h0.T n i (.li ops l) K ((r.2.2.2, .pointer (some ad)) :: m)).map fun x => (r.1, r.2.1, r.2.2.1, x)) = some (t, v, j, m', X)) (k : ∀ a, Fr a n m' → X a w) : wpList P ops (Bg P Q0 K) (o :: l) a w := by
 obtain ⟨⟨t', v', j', d⟩, h1, h2⟩ := Option.bind_eq_some_iff.1 h
 obtain ⟨x, h3, h4⟩ := Option.map_eq_some_iff.1 h2
 cases h4
 obtain ⟨he, hd⟩ := KY hi h1
 exact gx hF (he w) i hd h3 k
theorem QI.ld {is : List Nat} {i : Nat} (hm : Ae g t cs ∈ ps) (h : ((ops[i]?).bind (MZ h0.T m cs n)) = some (g, d, v)) (k : QI P ops n (fun w_ => SL w0 F0 w_ ps) ((d, v) :: m) is m') : QI P ops n (fun w_ => SL w0 F0 w_ ps) m (i :: is) m' := by
 obtain ⟨o, h1, h2⟩ := Option.bind_eq_some_iff.1 h
 exact QI.op h1 (fun w hw => (Ls h0.ok hw hm h2).1) (Q8 h2) k
omit h0 in
theorem QI.ix {is : List Nat} {i : Nat} {S : World → Prop} {t : TypeId} {j : Int} {ad : Addr} (hi : L8 P t v j ad) (h : ((ops[i]?).bind (Tm m n)) = some (t, v, j, d)) (k : QI P ops n S ((d, .pointer (some ad)) :: m) is m') : QI P ops n S m (i :: is) m' := by
 obtain ⟨o, h1, h2⟩ := Option.bind_eq_some_iff.1 h
 exact QI.op h1 (fun w hw => (KY hi h2).1 w) (KY hi h2).2 k
omit h0 in
theorem IV {id : Nat} {l : List Oper} (hm : P.follows .mixedOrders = true) (hs : SL w0 F0 w ps) (h : HD P l.toArray Q (fun w_ => SL w0 F0 w_ ps) [] a w.drew) : (Code.region id l.toArray true).wp P Q a w := XO hm _ h
theorem QR.ld {rest rest' : List Oper} (hm : Ae g t cs ∈ ps) (h : MZ h0.T m cs n o = some (g, d, v)) (k : QR P n ops (fun w_ => SL w0 F0 w_ ps) ((d, v) :: m) rest m' rest') : QR P n ops (fun w_ => SL w0 F0 w_ ps) m (o :: rest) m' rest' :=
 have hd := Gh (Q8 h)
 QR.op (fun w hw => (Ls h0.ok hw hm h).1) k hd.1 hd.2.1 hd.2.2
omit h0 in
theorem QR.ix {rest rest' : List Oper} {S : World → Prop} {t : TypeId} {j : Int} {ad : Addr} (hi : L8 P t v j ad) (h : Tm m n o = some (t, v, j, d)) (k : QR P n ops S ((d, .pointer (some ad)) :: m) rest m' rest') : QR P n ops S m (o :: rest) m' rest' :=
 have hd := Gh (KY hi h).2
 QR.op (fun w hw => (KY hi h).1 w) k hd.1 hd.2.1 hd.2.2
omit h0 in
theorem QR.qo {rest rest' : List Oper} {S : World → Prop} (he : ∀ w, S w → EX P w m o v w) (hd : FP o n = some d) (k : QR P n ops S ((d, v) :: m) rest m' rest') : QR P n ops S m (o :: rest) m' rest' :=
 have h := Gh hd
 QR.op he k h.1 h.2.1 h.2.2
omit h0 in
theorem QR.qg {rest rest' : List Oper} {S : World → Prop} {j dj : Nat} {b : Bool} (he : ∀ w, S w → EX P w m o v w) (hg : o.guard = some (j, b)) (hj : (ops[j]?).bind (·.dst) = some dj) (hb : look m dj = some (.bool b)) (hd : o.dst = some d) (hlt : Nat.blt d n = true) (k : QR P n ops S ((d, v) :: m) rest m' rest') : QR P n ops S m (o :: rest) m' rest' := QR.gop he hg hj hb k hd hlt
omit h0 in
theorem QR.qs {rest rest' : List Oper} {S : World → Prop} {j dj : Nat} {b c : Bool} (hg : o.guard = some (j, c)) (hj : (ops[j]?).bind (·.dst) = some dj) (hb : look m dj = some (.bool b)) (hne : b ≠ c) (hd : o.dst = some d) (hlt : Nat.blt d n = true) (k : QR P n ops S ((d, undef) :: m) rest m' rest') : QR P n ops S m (o :: rest) m' rest' := QR.Sq hg hj hb hne k hd hlt
omit h0 in
theorem VV {S : World → Prop} {T : EJ} {m1 : CL} {rest rest' : List Oper} (hT : T.okB P = true) (h : KZ T ops n m o = some m1) (t : QR P n ops S m1 rest m' rest') : QR P n ops S m (o :: rest) m' rest' := by
 unfold KZ at h
 split at h
 ·cases h
 ·rename_i d hd
  rcases hlt : Nat.blt d n with _ | _
  ·rw [hlt] at h; cases h
  ·rw [hlt] at h
   simp only [cond_true] at h
   split at h
   ·rename_i hg
    split at h
    ·rename_i v hv
     cases h
     exact QR.op (fun w _ => Ig hT hv) t hg hd hlt
    ·cases h
   ·rename_i j b hg
    split at h
    ·cases h
    ·rename_i dj hj
     split at h
     ·rename_i c hb
      split at h
      ·split at h
       ·rename_i v hv
        cases h
        exact QR.gop (fun w _ => Ig hT hv) hg hj hb t hd hlt
       ·cases h
      ·split at h
       ·rename_i v hv
        cases h
        exact QR.gop (fun w _ => Ig hT hv) hg hj hb t hd hlt
       ·cases h
      ·cases h
       exact QR.Sq hg hj hb Bool.noConfusion t hd hlt
      ·cases h
       exact QR.Sq hg hj hb Bool.noConfusion t hd hlt
     ·rename_i hb
      cases h
      exact QR.Xc hg hj hb t hd hlt
     ·cases h
omit h0 in
theorem QR.ev_ {S : World → Prop} {T : EJ} (hT : T.okB P = true) {m1 : CL} {rest rest' : List Oper} : ∀ (k : Nat) {m : CL} {l : List Oper}, UL T ops n k m l = some (m1, rest) → QR P n ops S m1 rest m' rest' → QR P n ops S m l m' rest'
 | 0, m, l, h, t => by cases h; exact t
 | k + 1, m, [], h, t => by cases h
 | k + 1, m, o :: l, h, t => by
  simp only [UL] at h
  split at h
  ·rename_i m2 h2
   exact VV hT h2 (QR.ev_ hT k h t)
  ·cases h
theorem QR.ev {S : World → Prop} {m1 : CL} {rest rest' : List Oper} (k : Nat) (h : UL h0.T ops n k m l = some (m1, rest)) (t : QR P n ops S m1 rest m' rest') : QR P n ops S m l m' rest' := QR.ev_ h0.ok k h t
omit h0 in
theorem N8 {id : Nat} {l : List Oper} (hm : P.follows .mixedOrders = true) (hs : SL w0 F0 w ps) (hF : Fr a n m) (h : QR P n l.toArray (fun w_ => SL w0 F0 w_ ps) m l m' []) (k : ∀ w a, SL w0 F0 w ps → Fr a n m' → Q .normal a w) (hB : Region.lexB .any l.toArray = true := by kernel_rfl) : (Code.region id l.toArray true).wp P Q a w := Vy _ hm hB hs.drew hF h k
omit h0 in
theorem WM {α : Type} {T : Ty α} {enc : α → List Value} (hFl : Flat T enc) {v : Value} {l : List α} {t e sz bytes : Nat} {z : Value → Bool} {i : Int} {x : α} (h : ∀ w, SL w0 F0 w ps → ∃ G, CG T w G v l) (hw : SL w0 F0 w ps)
  (hb : Dy P t e sz bytes z = true) (hz : T.sz = sz) (hx : idx l i = some x) : ∃ ad, L8 P t v i ad ∧ ∀ w, SL w0 F0 w ps → Cells w ad (enc x) := XG (C := fun w_ => SL w0 F0 w_ ps) hFl h hw hb hz hx
end
theorem fR {α : Type} {T : Ty α} {v : Value} {l : List α} (h : Rd T w0 F0 v l) (hs : SL w0 F0 w ps) : ∃ A c, v = .slice A l.length c := Hm (CU h hs)
theorem fO {α : Type} {T : Ty α} {v : Value} {l : List α} (hs : SL w0 F0 w ps) (hm : Sl T v l ∈ ps) : ∃ A c, v = .slice A l.length c := Hm (hs.Bm hm)
end
abbrev jP (g : Nat) : Value := .pointer (some ⟨g, 0, none⟩)
end Go.Pv
namespace Go.Pv
open Go Go.RowKit
abbrev V1 := {u : Value // u.oneCell' = true}
def Ty.val : Ty V1 := Ty.scalar (fun u => u.1) (fun u => u.2)
theorem Flat.val : Flat Ty.val (fun u => [u.1]) := Flat.scalar _ _
end Go.Pv
namespace Go.Proofs.YtpnacdckamiedaaGreat
open Go Go.RowKit Go.Pv
structure Av where
 Name : List UInt8
 Fv : UInt8
def Gk (x : Av) := (x.Name, x.Fv)
def AW : Ty Av := Ty.iso (Ty.pair Ty.str Ty.u8) Gk
theorem Cv : Flat AW (fun x => [.string ⟨⟨x.Name⟩⟩, .int .u8 (x.Fv.toNat : Int)]) := Flat.iso (Flat.pair Flat.str Flat.u8) _
structure Ad where
 Name : List UInt8
 Al : Int
 Fields : List Av
def D2 (x : Ad) := (x.Name, x.Al, x.Fields)
def Ag : Ty Ad := Ty.iso (Ty.pair Ty.str (Ty.pair (Ty.int .i64) (Ty.slice AW))) D2
theorem BC {w : World} {F0 : List Nat} {G : List Nat} {x : Ad} {cs : List Value} (h : (Ag).rd w G x cs) (hG : ∀ k ∈ G, k < w.heap.size ∧ k ∉ F0) :
  ∃ v2 : Value, cs = [.string ⟨⟨x.Name⟩⟩, .int .i64 x.Al, v2] ∧ Rd AW w F0 v2 x.Fields := by
 obtain ⟨_, _, rfl, rfl, ⟨_, _, rfl, rfl, ⟨v2, rfl, h0⟩⟩⟩ := h
 exact ⟨v2, rfl, ⟨G, h0, hG⟩⟩
structure Am where
 Ai : List UInt8
 Result : UInt8
def CV (x : Am) := (x.Ai, x.Result)
def Bv : Ty Am := Ty.iso (Ty.pair (Ty.slice Ty.u8) Ty.u8) CV
theorem L6 {w : World} {F0 : List Nat} {G : List Nat} {x : Am} {cs : List Value} (h : (Bv).rd w G x cs) (hG : ∀ k ∈ G, k < w.heap.size ∧ k ∉ F0) :
  ∃ v0 : Value, cs = [v0, .int .u8 (x.Result.toNat : Int)] ∧ Rd Ty.u8 w F0 v0 x.Ai := by
 obtain ⟨_, _, rfl, ⟨v0, rfl, h0⟩, rfl⟩ := h
 exact ⟨v0, rfl, ⟨G, h0, hG⟩⟩
structure A3 where
 Name : List UInt8
 Sig : Am
 Ak : Int
 Code : List UInt8
def ES (x : A3) := (x.Name, x.Sig, x.Ak, x.Code)
def As : Ty A3 := Ty.iso (Ty.pair Ty.str (Ty.pair Bv (Ty.pair (Ty.int .i64) (Ty.slice Ty.u8)))) ES
theorem C2 {w : World} {F0 : List Nat} {G : List Nat} {x : A3} {cs : List Value} (h : (As).rd w G x cs) (hG : ∀ k ∈ G, k < w.heap.size ∧ k ∉ F0) :
  ∃ v1 v4 : Value, cs = [.string ⟨⟨x.Name⟩⟩, v1, .int .u8 (x.Sig.Result.toNat : Int), .int .i64 x.Ak, v4] ∧ Rd Ty.u8 w F0 v1 x.Sig.Ai ∧ Rd Ty.u8 w F0 v4 x.Code := by
 obtain ⟨_, _, rfl, rfl, ⟨_, _, rfl, ⟨_, _, rfl, ⟨v1, rfl, h0⟩, rfl⟩, ⟨_, _, rfl, rfl, ⟨v4, rfl, h1⟩⟩⟩⟩ := h
 exact ⟨v1, v4, rfl, ⟨G, h0, hG⟩, ⟨G, h1, hG⟩⟩
structure Ah where
 Name : List UInt8
 Classes : List Ad
 Funcs : List A3
 Cf : List (List UInt8)
def HS (x : Ah) := (x.Name, x.Classes, x.Funcs, x.Cf)
def Ll : Ty Ah := Ty.iso (Ty.pair Ty.str (Ty.pair (Ty.slice Ag) (Ty.pair (Ty.slice As) (Ty.slice (Ty.slice Ty.u8))))) HS
theorem Pm {w : World} {F0 : List Nat} {G : List Nat} {x : Ah} {cs : List Value} (h : (Ll).rd w G x cs) (hG : ∀ k ∈ G, k < w.heap.size ∧ k ∉ F0) :
  ∃ v1 v2 v3 : Value, cs = [.string ⟨⟨x.Name⟩⟩, v1, v2, v3] ∧ Rd Ag w F0 v1 x.Classes ∧ Rd As w F0 v2 x.Funcs ∧ Rd (Ty.slice Ty.u8) w F0 v3 x.Cf := by
 obtain ⟨_, _, rfl, rfl, ⟨_, _, rfl, ⟨v1, rfl, h0⟩, ⟨_, _, rfl, ⟨v2, rfl, h1⟩, ⟨v3, rfl, h2⟩⟩⟩⟩ := h
 exact ⟨v1, v2, v3, rfl, ⟨G, h0, hG⟩, ⟨G, h1, hG⟩, ⟨G, h2, hG⟩⟩
structure AD where
 Classes : List Ad
 AO : List Am
 Fn : Int
structure BM where
 Ak : Int
 Height : Int
 KI : Vector UInt8 24
structure Fi where
 classes : List Ad
 room : Int
 used : Int
 last : Int
 m : List (Int × Option Nat)
structure Bs where
 At : Int
 Op : UInt8
 A : Int
 B : Int
structure CJ where
 Err : Int
 Qh : Int
 Result : Int
 Told : List Int
 Steps : Int
 Cells : Int
def Dh (wb : World) (Fb : List Nat) : Ty Am := Ty.iso (Ty.pair (Ty.Qk wb Fb Ty.u8) Ty.u8) CV
end Go.Proofs.YtpnacdckamiedaaGreat
