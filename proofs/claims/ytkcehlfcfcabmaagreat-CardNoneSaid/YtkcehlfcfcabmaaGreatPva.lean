/- Walking by one lemma for each operation: a frame is known by some of its slots, an operation by what it yields; runs of operations that leave the world alone are chains of such facts. -/
import Derived.WalkKit
import Derived.KernelRfl
import Derived.Below
import Derived.Deep.Draws
import Derived.Deep.Quiet
import Derived.Deep.QuietTactic
import Derived.Lib.LazyBuf
set_option linter.unusedVariables false
set_option linter.unusedSimpArgs false
namespace Go.Pv
open Go Go.RowKit

/-! ### Frames -/
def look : List (Nat × Value) → Nat → Option Value
  | [], _ => none
  | (i, v) :: r, t => bif Nat.beq i t then some v else look r t

/-- The frame a has n slots, no deferred calls, and what m tells of its slots is so. -/
structure Fr (a : Act) (n : Nat) (m : List (Nat × Value)) : Prop where
  size : a.tmps.size = n
  defers : a.defers = []
  at_ : ∀ t v, look m t = some v → a.tmps[t]? = some v

def ev (m : List (Nat × Value)) : Operand → Option Value
  | .tmp t => look m t
  | .const v => some v
  | .func f => some (.func (.func f) #[] #[])
  | .global _ => none

def evs (m : List (Nat × Value)) : List Operand → Option (List Value)
  | [] => some []
  | x :: r => match ev m x with
    | some v => match evs m r with
      | some l => some (v :: l)
      | none => none
    | none => none

theorem Fr.eval {a : Act} {n : Nat} {m : List (Nat × Value)} (h : Fr a n m) {x : Operand} {v : Value} (hx : ev m x = some v) : a.eval x = v := by
  cases x with
  | tmp t =>
    have h1 := h.at_ t v hx
    simp only [Act.eval]
    rw [Array.getD_eq_getD_getElem?, h1]
    rfl
  | const v' => simpa [ev, Act.eval] using hx
  | global g => simp [ev] at hx
  | func f => simpa [ev, Act.eval] using hx

theorem Fr.evals {a : Act} {n : Nat} {m : List (Nat × Value)} (h : Fr a n m) : ∀ {l : List Operand} {vs : List Value}, evs m l = some vs → l.map a.eval = vs
  | [], vs, hx => by simpa [evs] using hx
  | x :: r, vs, hx => by
    simp only [evs] at hx
    split at hx
    · rename_i v hv
      split at hx
      · rename_i l hl
        cases hx
        rw [List.map_cons, h.eval hv, h.evals hl]
      · cases hx
    · cases hx

theorem look_cons_same (m : List (Nat × Value)) (d : Nat) (v : Value) : look ((d, v) :: m) d = some v := by simp [look]
theorem look_cons_ne (m : List (Nat × Value)) {d t : Nat} (v : Value) (h : d ≠ t) : look ((d, v) :: m) t = look m t := by
  have : Nat.beq d t = false := by
    rcases hb : Nat.beq d t with _ | _
    · rfl
    · exact absurd (Nat.eq_of_beq_eq_true hb) h
  simp [look, this]

theorem Fr.put {a : Act} {n : Nat} {m : List (Nat × Value)} (h : Fr a n m) (d : Nat) (v : Value) (hd : Nat.blt d n = true) : Fr (a.put (some d) v) n ((d, v) :: m) := by
  have hd' : d < n := by simpa [Nat.blt_eq] using hd
  refine ⟨by simp [Act.put, h.size], by simp [Act.put, h.defers], fun t u hu => ?_⟩
  simp only [Act.put]
  by_cases ht : d = t
  · subst ht
    rw [look_cons_same] at hu
    rw [Array.getElem?_setIfInBounds_self, if_pos (by rw [h.size]; exact hd')]
    exact hu
  · rw [look_cons_ne m v ht] at hu
    rw [Array.getElem?_setIfInBounds_ne ht]
    exact h.at_ t u hu

theorem Fr.put_none {a : Act} {n : Nat} {m : List (Nat × Value)} (h : Fr a n m) (v : Value) : Fr (a.put none v) n m := h

/-- Fewer slots told. -/
def subm : List (Nat × Value) → List (Nat × Value) → Prop
  | [], _ => True
  | (t, v) :: r, m => look m t = some v ∧ subm r m

theorem look_of_subm : ∀ {m' m : List (Nat × Value)}, subm m' m → ∀ t v, look m' t = some v → look m t = some v
  | [], _, _, t, v, h => by simp [look] at h
  | (i, u) :: r, m, hs, t, v, h => by
    obtain ⟨h1, h2⟩ := hs
    by_cases hi : i = t
    · subst hi
      rw [look_cons_same] at h
      cases h
      exact h1
    · rw [look_cons_ne r u hi] at h
      exact look_of_subm h2 t v h

theorem Fr.sub {a : Act} {n : Nat} {m m' : List (Nat × Value)} (h : Fr a n m) (hs : subm m' m) : Fr a n m' := ⟨h.size, h.defers, fun t v hv => h.at_ t v (look_of_subm hs t v hv)⟩

theorem fr_init {args : Array Value} {n : Nat} {m : List (Nat × Value)} (hn : args.size ≤ n) (h : ∀ t v, look m t = some v → args[t]? = some v) :
    Fr { tmps := args ++ Array.replicate (n - args.size) undef, defers := [] } n m :=
  ⟨by simp; omega, rfl, fun t v hv => by
    have h1 := h t v hv
    obtain ⟨hlt, h2⟩ := Array.getElem?_eq_some_iff.1 h1
    simp only
    rw [Array.getElem?_append_left hlt, h1]⟩

def argm : Nat → List Value → List (Nat × Value)
  | _, [] => []
  | i, v :: r => (i, v) :: argm (i + 1) r
theorem argm_look : ∀ (l : List Value) (i t : Nat) (v : Value), look (argm i l) t = some v → ∃ j, t = i + j ∧ l[j]? = some v
  | [], i, t, v, h => by simp [argm, look] at h
  | u :: r, i, t, v, h => by
    by_cases ht : i = t
    · subst ht
      rw [argm, look_cons_same] at h
      exact ⟨0, rfl, by simpa using h⟩
    · rw [argm, look_cons_ne _ _ ht] at h
      obtain ⟨j, rfl, hj⟩ := argm_look r (i + 1) t v h
      exact ⟨j + 1, by omega, by simpa using hj⟩

/-- A call is walked from its parameters on. -/
theorem call_enter {P : Program} {f : FuncId} {fn : Func} {c : Code} {args : List Value} {w : World} {R : Ending → World → Prop} {n : Nat}
    (hf : P.funcs[f]? = some fn) (hb : fn.body = some c) (hn : fn.ntmps = n) (hl : args.length ≤ n)
    (h : ∀ a, Fr a n (argm 0 args) → c.wp P (bodyPost P fn R) a w) : Calls P f args.toArray w R := by
  refine calls_of_wp hf hb (h _ ?_)
  subst hn
  refine fr_init (by simpa using hl) fun t v hv => ?_
  obtain ⟨j, rfl, hj⟩ := argm_look args 0 t v hv
  simpa using hj

/-! ### One operation -/
section
variable {P : Program}

/-- Over any frame of which m is so, the operation yields v and the world w'. -/
def EX (P : Program) (w : World) (m : List (Nat × Value)) (o : Oper) (v : Value) (w' : World) : Prop :=
  ∀ a n, Fr a n m → (execOp a.eval o).run P w = .ok (.value v) w'
def EXu (P : Program) (w : World) (m : List (Nat × Value)) (o : Oper) (w' : World) : Prop :=
  ∀ a n, Fr a n m → (execOp a.eval o).run P w = .ok .skip w'

variable {w w' : World} {m m' : List (Nat × Value)} {ops : Array Oper} {Q : Exit → Act → World → Prop} {a : Act} {n : Nat} {rest rest' : List Oper} {o : Oper} {d : Nat} {v : Value}

theorem st_op (hF : Fr a n m) (he : EX P w m o v w') (hg : o.guard = none) (hd : o.dst = some d) (hlt : Nat.blt d n = true)
    (k : ∀ a, Fr a n ((d, v) :: m) → wpList P ops Q rest a w') : wpList P ops Q (o :: rest) a w :=
  wpList_plain hg fun K hK => by
    unfold Oper.wp
    rw [he a n hF, Oper.upon_value, hd]
    exact hK _ _ (k _ (hF.put d v hlt))

theorem st_opu (hF : Fr a n m) (he : EXu P w m o w') (hg : o.guard = none) (hd : o.dst = none) (k : ∀ a, Fr a n m → wpList P ops Q rest a w') : wpList P ops Q (o :: rest) a w :=
  wpList_plain hg fun K hK => by
    unfold Oper.wp
    rw [he a n hF, Oper.upon_skip, hd]
    exact hK _ _ (k _ hF)

theorem st_opn (hF : Fr a n m) (he : EX P w m o v w') (hg : o.guard = none) (hd : o.dst = none) (k : ∀ a, Fr a n m → wpList P ops Q rest a w') : wpList P ops Q (o :: rest) a w :=
  wpList_plain hg fun K hK => by
    unfold Oper.wp
    rw [he a n hF, Oper.upon_value, hd]
    exact hK _ _ (k _ hF)

/-- A guarded operation: carried out, or passed over. -/
theorem yielded_of {j dj : Nat} {b : Bool} (hF : Fr a n m) (hj : (ops[j]?).bind (·.dst) = some dj) (hb : look m dj = some (.bool b)) : yielded ops a.tmps j = some b := by
  unfold yielded
  rw [hj]
  simp only [Option.bind_some]
  rw [hF.at_ _ _ hb]

theorem st_gop {j dj : Nat} {b : Bool} (hF : Fr a n m) (hg : o.guard = some (j, b)) (hj : (ops[j]?).bind (·.dst) = some dj) (hb : look m dj = some (.bool b))
    (he : EX P w m o v w') (hd : o.dst = some d) (hlt : Nat.blt d n = true)
    (k : ∀ a, Fr a n ((d, v) :: m) → wpList P ops Q rest a w') : wpList P ops Q (o :: rest) a w :=
  wpList_step fun K hK => by
    rw [if_pos (by simp [Region.wanted, hg, yielded_of hF hj hb])]
    unfold Oper.wp
    rw [he a n hF, Oper.upon_value, hd]
    exact hK _ _ (k _ (hF.put d v hlt))

theorem st_gskip {j dj : Nat} {b c : Bool} (hF : Fr a n m) (hg : o.guard = some (j, c)) (hj : (ops[j]?).bind (·.dst) = some dj) (hb : look m dj = some (.bool b)) (hne : b ≠ c)
    (hd : o.dst = some d) (hlt : Nat.blt d n = true)
    (k : ∀ a, Fr a n ((d, undef) :: m) → wpList P ops Q rest a w) : wpList P ops Q (o :: rest) a w :=
  wpList_step fun K hK => by
    rw [if_neg (by simp [Region.wanted, hg, yielded_of hF hj hb]; exact hne)]
    rw [hd]
    exact hK _ _ (k _ (hF.put d undef hlt))

theorem st_gskip' {j dj : Nat} {c : Bool} (hF : Fr a n m) (hg : o.guard = some (j, c)) (hj : (ops[j]?).bind (·.dst) = some dj) (hb : look m dj = some undef)
    (hd : o.dst = some d) (hlt : Nat.blt d n = true)
    (k : ∀ a, Fr a n ((d, undef) :: m) → wpList P ops Q rest a w) : wpList P ops Q (o :: rest) a w :=
  wpList_step fun K hK => by
    have : yielded ops a.tmps j = none := by
      unfold yielded
      rw [hj]
      simp only [Option.bind_some]
      rw [hF.at_ _ _ hb]
      rfl
    rw [if_neg (by simp [Region.wanted, hg, this])]
    rw [hd]
    exact hK _ _ (k _ (hF.put d undef hlt))

/-- A chain of operations that leave the world alone: from what m tells and the operations l to what m' tells and the operations l'. -/
def PR (P : Program) (w : World) (n : Nat) (m : List (Nat × Value)) (l : List Oper) (m' : List (Nat × Value)) (l' : List Oper) : Prop :=
  ∀ ops Q a, Fr a n m → (∀ a, Fr a n m' → wpList P ops Q l' a w) → wpList P ops Q l a w
theorem PR.nil {l : List Oper} : PR P w n m l m l := fun _ _ a hF k => k a hF
theorem PR.op (he : EX P w m o v w) (k : PR P w n ((d, v) :: m) rest m' rest') (hg : o.guard = none := by rfl) (hd : o.dst = some d := by rfl) (hlt : Nat.blt d n = true := by rfl) : PR P w n m (o :: rest) m' rest' :=
  fun ops Q _ hF k' => st_op hF he hg hd hlt fun a hF' => k ops Q a hF' k'
theorem st_pr (hF : Fr a n m) (h : PR P w n m rest m' rest') (k : ∀ a, Fr a n m' → wpList P ops Q rest' a w) : wpList P ops Q rest a w := h ops Q a hF k

/-! ### What operations yield -/
variable {ty : TypeId} {pos : String} {aft : Array Edge} {g : Option (Nat × Bool)} {dd : Option Tmp} {x y z : Operand}
theorem ex_move {v : Value} (h : ev m x = some v) : EX P w m ⟨dd, .move x, ty, pos, aft, g⟩ v w := fun a n hF => by
  simp only [execOp, hF.eval h]; rfl
theorem ex_asg {v : Value} (h : ev m x = some v) : EX P w m ⟨dd, .assign x, ty, pos, aft, g⟩ v w := fun a n hF => by
  simp only [execOp, hF.eval h]; rfl
theorem ex_pick {b : Bool} {u v : Value} (hx : ev m x = some (.bool b)) (hy : ev m y = some u) (hz : ev m z = some v) : EX P w m ⟨dd, .pick x y z, ty, pos, aft, g⟩ (if b = true then u else v) w := fun a n hF => by
  simp only [execOp, hF.eval hx, hF.eval hy, hF.eval hz, asBool]; rfl
theorem ex_pick_t {v : Value} (hx : ev m x = some (.bool true)) (hy : ev m y = some v) : EX P w m ⟨dd, .pick x y z, ty, pos, aft, g⟩ v w := fun a n hF => by
  simp only [execOp, hF.eval hx, hF.eval hy, asBool]; rfl
theorem ex_pick_f {v : Value} (hx : ev m x = some (.bool false)) (hz : ev m z = some v) : EX P w m ⟨dd, .pick x y z, ty, pos, aft, g⟩ v w := fun a n hF => by
  simp only [execOp, hF.eval hx, hF.eval hz, asBool]; rfl

theorem run_eqGuard_plain (bop : BinOp) (t : TypeId) (x y : Operand) (a b : Value) (h : ∀ u, a ≠ .agg u) (h' : a ≠ .nilIface) : (eqGuard bop t x y a b).run P w = .ok () w := by
  cases a with
  | agg u => exact absurd rfl (h u)
  | nilIface => exact absurd rfl h'
  | _ => cases bop <;> rfl

/-- Whatever two values that are no structs and no nil interface give. -/
theorem ex_bin {bop : BinOp} {t u : TypeId} {p q r : Value} (hx : ev m x = some p) (hy : ev m y = some q) (h : ∀ c, p ≠ .agg c) (h' : p ≠ .nilIface) (hr : (binOp bop t p q).run P w = .ok r w) :
    EX P w m ⟨dd, .binOp bop t x y u, ty, pos, aft, g⟩ r w := fun a n hF => by
  simp only [execOp, hF.eval hx, hF.eval hy]
  simp [run_eqGuard_plain bop t x y p q h h', hr]

section
variable {t u : TypeId} {k : IntKind} {p q : Int}
theorem ex_add (hx : ev m x = some (.int k p)) (hy : ev m y = some (.int k q)) : EX P w m ⟨dd, .binOp .add t x y u, ty, pos, aft, g⟩ (.int k (k.wrap (p + q))) w :=
  ex_bin hx hy (fun _ => Value.noConfusion) Value.noConfusion (by simp [binOp, Op.intArith])
theorem ex_sub (hx : ev m x = some (.int k p)) (hy : ev m y = some (.int k q)) : EX P w m ⟨dd, .binOp .sub t x y u, ty, pos, aft, g⟩ (.int k (k.wrap (p - q))) w :=
  ex_bin hx hy (fun _ => Value.noConfusion) Value.noConfusion (by simp [binOp, Op.intArith])
theorem ex_mul (hx : ev m x = some (.int k p)) (hy : ev m y = some (.int k q)) : EX P w m ⟨dd, .binOp .mul t x y u, ty, pos, aft, g⟩ (.int k (k.wrap (p * q))) w :=
  ex_bin hx hy (fun _ => Value.noConfusion) Value.noConfusion (by simp [binOp, Op.intArith])
theorem ex_quo (hx : ev m x = some (.int k p)) (hy : ev m y = some (.int k q)) (h : (q == 0) = false) : EX P w m ⟨dd, .binOp .quo t x y u, ty, pos, aft, g⟩ (.int k (k.wrap (p.tdiv q))) w :=
  ex_bin hx hy (fun _ => Value.noConfusion) Value.noConfusion (by simp [binOp, Op.intDiv, beq_eq_false_iff_ne.1 h])
theorem ex_rem (hx : ev m x = some (.int k p)) (hy : ev m y = some (.int k q)) (h : (q == 0) = false) : EX P w m ⟨dd, .binOp .rem t x y u, ty, pos, aft, g⟩ (.int k (p.tmod q)) w :=
  ex_bin hx hy (fun _ => Value.noConfusion) Value.noConfusion (by simp [binOp, Op.intDiv, beq_eq_false_iff_ne.1 h])
def bAnd (k : IntKind) (p q : Int) : Int := k.wrap (BitVec.ofInt k.bits p &&& BitVec.ofInt k.bits q).toNat
def bOr (k : IntKind) (p q : Int) : Int := k.wrap (BitVec.ofInt k.bits p ||| BitVec.ofInt k.bits q).toNat
def bXor (k : IntKind) (p q : Int) : Int := k.wrap (BitVec.ofInt k.bits p ^^^ BitVec.ofInt k.bits q).toNat
theorem ex_and (hx : ev m x = some (.int k p)) (hy : ev m y = some (.int k q)) : EX P w m ⟨dd, .binOp .and t x y u, ty, pos, aft, g⟩ (.int k (bAnd k p q)) w :=
  ex_bin hx hy (fun _ => Value.noConfusion) Value.noConfusion (by simp [binOp, Op.intBits, bAnd])
theorem ex_or (hx : ev m x = some (.int k p)) (hy : ev m y = some (.int k q)) : EX P w m ⟨dd, .binOp .or t x y u, ty, pos, aft, g⟩ (.int k (bOr k p q)) w :=
  ex_bin hx hy (fun _ => Value.noConfusion) Value.noConfusion (by simp [binOp, Op.intBits, bOr])
theorem ex_xor (hx : ev m x = some (.int k p)) (hy : ev m y = some (.int k q)) : EX P w m ⟨dd, .binOp .xor t x y u, ty, pos, aft, g⟩ (.int k (bXor k p q)) w :=
  ex_bin hx hy (fun _ => Value.noConfusion) Value.noConfusion (by simp [binOp, Op.intBits, bXor])
theorem ex_eq (hx : ev m x = some (.int k p)) (hy : ev m y = some (.int k q)) : EX P w m ⟨dd, .binOp .eql t x y u, ty, pos, aft, g⟩ (.bool (p == q)) w :=
  ex_bin hx hy (fun _ => Value.noConfusion) Value.noConfusion (by simp [binOp, Op.intCmp])
theorem ex_ne (hx : ev m x = some (.int k p)) (hy : ev m y = some (.int k q)) : EX P w m ⟨dd, .binOp .neq t x y u, ty, pos, aft, g⟩ (.bool (p != q)) w :=
  ex_bin hx hy (fun _ => Value.noConfusion) Value.noConfusion (by simp [binOp, Op.intCmp])
theorem ex_lt (hx : ev m x = some (.int k p)) (hy : ev m y = some (.int k q)) : EX P w m ⟨dd, .binOp .lss t x y u, ty, pos, aft, g⟩ (.bool (decide (p < q))) w :=
  ex_bin hx hy (fun _ => Value.noConfusion) Value.noConfusion (by simp [binOp, Op.intCmp])
theorem ex_le (hx : ev m x = some (.int k p)) (hy : ev m y = some (.int k q)) : EX P w m ⟨dd, .binOp .leq t x y u, ty, pos, aft, g⟩ (.bool (decide (p ≤ q))) w :=
  ex_bin hx hy (fun _ => Value.noConfusion) Value.noConfusion (by simp [binOp, Op.intCmp])
theorem ex_gt (hx : ev m x = some (.int k p)) (hy : ev m y = some (.int k q)) : EX P w m ⟨dd, .binOp .gtr t x y u, ty, pos, aft, g⟩ (.bool (decide (p > q))) w :=
  ex_bin hx hy (fun _ => Value.noConfusion) Value.noConfusion (by simp [binOp, Op.intCmp])
theorem ex_ge (hx : ev m x = some (.int k p)) (hy : ev m y = some (.int k q)) : EX P w m ⟨dd, .binOp .geq t x y u, ty, pos, aft, g⟩ (.bool (decide (p ≥ q))) w :=
  ex_bin hx hy (fun _ => Value.noConfusion) Value.noConfusion (by simp [binOp, Op.intCmp])
def sShl (k : IntKind) (p q : Int) : Int := k.wrap (p * 2 ^ min q.toNat k.bits)
def sShr (k : IntKind) (p q : Int) : Int := p.fdiv (2 ^ min q.toNat k.bits)
variable {k' : IntKind}
theorem ex_shl (hx : ev m x = some (.int k p)) (hy : ev m y = some (.int k' q)) (h : decide (q < 0) = false) : EX P w m ⟨dd, .binOp .shl t x y u, ty, pos, aft, g⟩ (.int k (sShl k p q)) w :=
  ex_bin hx hy (fun _ => Value.noConfusion) Value.noConfusion (by simp only [binOp, Op.shift]; rw [if_neg (of_decide_eq_false h)]; rfl)
theorem ex_shr (hx : ev m x = some (.int k p)) (hy : ev m y = some (.int k' q)) (h : decide (q < 0) = false) : EX P w m ⟨dd, .binOp .shr t x y u, ty, pos, aft, g⟩ (.int k (sShr k p q)) w :=
  ex_bin hx hy (fun _ => Value.noConfusion) Value.noConfusion (by simp only [binOp, Op.shift]; rw [if_neg (of_decide_eq_false h)]; rfl)
theorem ex_neg (hx : ev m x = some (.int k p)) : EX P w m ⟨dd, .unOp .neg t x, ty, pos, aft, g⟩ (.int k (k.wrap (0 - p))) w := fun a n hF => by
  simp only [execOp, hF.eval hx]
  simp [Op.unary, Op.intArith]
def bNot (k : IntKind) (p : Int) : Int := bXor k (if k.signed then -1 else k.max) p
theorem ex_bnot (hx : ev m x = some (.int k p)) : EX P w m ⟨dd, .unOp .xor t x, ty, pos, aft, g⟩ (.int k (bNot k p)) w := fun a n hF => by
  simp only [execOp, hF.eval hx]
  simp [Op.unary, Op.intBits, bNot, bXor]
theorem ex_conv {s d : TypeId} {ds : TypeDesc} (hx : ev m x = some (.int k' p)) (hs : P.underlying s = some ds) (hd : P.underlying d = some (.int k)) :
    EX P w m ⟨dd, .convert s d x, ty, pos, aft, g⟩ (.int k (k.wrap p)) w := fun a n hF => by
  simp only [execOp, hF.eval hx]
  simp [convert, run_underlying hs, run_underlying hd, Conv.intToInt]
end
theorem ex_not {t : TypeId} {b : Bool} (hx : ev m x = some (.bool b)) : EX P w m ⟨dd, .unOp .not t x, ty, pos, aft, g⟩ (.bool (!b)) w := fun a n hF => by
  simp only [execOp, hF.eval hx]
  simp [Op.unary]
theorem ex_extract {j : Nat} {vs : Array Value} {v : Value} (hx : ev m x = some (.tuple vs)) (hv : vs[j]? = some v) : EX P w m ⟨dd, .extract x j, ty, pos, aft, g⟩ v w := fun a n hF => by
  simp only [execOp, hF.eval hx]
  simp [Instr.extract, hv]
theorem ex_nilcheck {b : Addr} (hx : ev m x = some (.pointer (some b))) : EX P w m ⟨dd, .nilCheck x, ty, pos, aft, g⟩ (.pointer (some b)) w := fun a n hF => by
  simp only [execOp, hF.eval hx]
  simp
end

/-! ### Code -/
section
variable {P : Program} {w w' : World} {m m' : List (Nat × Value)} {Q : Exit → Act → World → Prop} {a : Act} {n : Nat}
theorem wp_reg {id : Nat} {l : List Oper} (h : wpList P l.toArray Q l a w) : (Code.region id l.toArray false).wp P Q a w := wp_region_lit h
theorem wp_if {t : Nat} {b : Bool} {x y : Code} (hF : Fr a n m) (hc : look m t = some (.bool b)) (ht : b = true → x.wp P Q a w) (hf : b = false → y.wp P Q a w) : (Code.cond (.tmp t) x y).wp P Q a w :=
  wp_cond_split (hF.eval (x := .tmp t) hc) ht hf
theorem st_end {ops : Array Oper} (h : Q .normal a w) : wpList P ops Q [] a w := h
/-- What follows is walked once, from a relation. -/
theorem wp_cut {x y : Code} (J : Act → World → Prop) (h1 : x.wp P (Exit.then J Q) a w) (h2 : ∀ a w, J a w → y.wp P Q a w) : (Code.seq x y).wp P Q a w :=
  wp_seq (wp_mono h1 fun e a w h => by cases e <;> first | exact h2 _ _ h | exact h)
theorem ret_tmp {fn : Func} {R : Ending → World → Prop} {t : Nat} {v : Value} (hF : Fr a n m) (hr : fn.results = #[.tmp t]) (hv : look m t = some v) (h : R (.returned v) w) : bodyPost P fn R .ret a w :=
  bodyPost_ret (results_tmp hr _ _ _) hF.defers (by
    have h1 := hF.at_ _ _ hv
    rw [Array.getD_eq_getD_getElem?, h1]
    exact h)
theorem ret_tmp2 {fn : Func} {R : Ending → World → Prop} {t u : Nat} {v v' : Value} (hF : Fr a n m) (hr : fn.results = #[.tmp t, .tmp u]) (hv : look m t = some v) (hv' : look m u = some v') (h : R (.returned (.tuple #[v, v'])) w) : bodyPost P fn R .ret a w :=
  bodyPost_ret (results_tmp2 hr _ _ _) hF.defers (by
    have h1 := hF.at_ _ _ hv
    have h2 := hF.at_ _ _ hv'
    simp only [Array.getD_eq_getD_getElem?, h1, h2]
    exact h)
theorem results_tmp3' {fn : Func} {t u v : Tmp} (h : fn.results = #[.tmp t, .tmp u, .tmp v]) (tmps : Array Value) (P : Program) (w : World) :
    (results fn tmps).run P w = .ok (.tuple #[tmps.getD t undef, tmps.getD u undef, tmps.getD v undef]) w := by simp [results, h]
theorem ret_tmp3 {fn : Func} {R : Ending → World → Prop} {t u x : Nat} {v v' v'' : Value} (hF : Fr a n m) (hr : fn.results = #[.tmp t, .tmp u, .tmp x]) (hv : look m t = some v) (hv' : look m u = some v') (hv'' : look m x = some v'')
    (h : R (.returned (.tuple #[v, v', v''])) w) : bodyPost P fn R .ret a w :=
  bodyPost_ret (results_tmp3' hr _ _ _) hF.defers (by
    have h1 := hF.at_ _ _ hv
    have h2 := hF.at_ _ _ hv'
    have h3 := hF.at_ _ _ hv''
    simp only [Array.getD_eq_getD_getElem?, h1, h2, h3]
    exact h)
end

/-! ### The plain functions' own words -/
theorem ite_t {α : Type} {b : Bool} {A B : Option α} {r : α} (hb : b = true) (H : (if b = true then A else B) = some r) : A = some r := by rw [if_pos hb] at H; exact H
theorem ite_f {α : Type} {b : Bool} {A B : Option α} {r : α} (hb : b = false) (H : (if b = true then A else B) = some r) : B = some r := by rw [if_neg (by simp [hb])] at H; exact H
theorem bind_ok {α β : Type} {E : Option α} {K : α → Option β} {r : β} (H : E.bind K = some r) : ∃ x, E = some x ∧ K x = some r := Option.bind_eq_some_iff.1 H

section
variable {S R : Type}
/-- Rounds of a loop: at most n of them. -/
def iterN (body : S → Option (S ⊕ R)) : Nat → S → Option R
  | 0, _ => none
  | n + 1, s => match body s with
    | none => none
    | some (.inl s') => iterN body n s'
    | some (.inr r) => some r
theorem iterN_mono (body : S → Option (S ⊕ R)) {r : R} : ∀ {n k : Nat} {s : S}, iterN body n s = some r → n ≤ k → iterN body k s = some r
  | 0, _, _, h, _ => by simp [iterN] at h
  | n + 1, 0, _, _, hk => by omega
  | n + 1, k + 1, s, h, hk => by
    simp only [iterN] at h ⊢
    split at h
    · cases h
    · rename_i s' hb
      exact iterN_mono body h (by omega)
    · exact h
open Classical in
/-- What a loop comes to, however many rounds it takes; none, if it does not end, or falls. -/
noncomputable def loopO (body : S → Option (S ⊕ R)) (s : S) : Option R :=
  if h : ∃ n r, iterN body n s = some r then some (Classical.choose (Classical.choose_spec h)) else none
theorem loopO_iff {body : S → Option (S ⊕ R)} {s : S} {r : R} : loopO body s = some r ↔ ∃ n, iterN body n s = some r := by
  unfold loopO
  constructor
  · intro h
    split at h
    · rename_i hx
      have h1 := Classical.choose_spec (Classical.choose_spec hx)
      cases h
      exact ⟨_, h1⟩
    · cases h
  · rintro ⟨n, hn⟩
    have hx : ∃ n r, iterN body n s = some r := ⟨n, r, hn⟩
    rw [dif_pos hx]
    have h1 := Classical.choose_spec (Classical.choose_spec hx)
    have h2 := iterN_mono body h1 (Nat.le_max_left _ n)
    have h3 := iterN_mono body hn (Nat.le_max_right (Classical.choose hx) _)
    rw [h2] at h3
    exact h3
theorem loopO_eq (body : S → Option (S ⊕ R)) (s : S) : loopO body s = match body s with
    | none => none
    | some (.inl s') => loopO body s'
    | some (.inr r) => some r := by
  apply Option.ext
  intro r
  rw [loopO_iff]
  constructor
  · rintro ⟨n, hn⟩
    cases n with
    | zero => simp [iterN] at hn
    | succ n =>
      simp only [iterN] at hn
      rcases hb : body s with _ | ⟨s' | r'⟩
      · rw [hb] at hn; cases hn
      · rw [hb] at hn; exact loopO_iff.2 ⟨n, hn⟩
      · rw [hb] at hn; exact hn
  · intro h
    rcases hb : body s with _ | ⟨s' | r'⟩
    · rw [hb] at h; cases h
    · rw [hb] at h
      obtain ⟨n, hn⟩ := loopO_iff.1 h
      exact ⟨n + 1, by simp only [iterN, hb]; exact hn⟩
    · rw [hb] at h
      exact ⟨1, by simp only [iterN, hb]; exact h⟩

/-- The walk of a loop: the relation I holds at each head; a round that goes on comes to the next head. -/
theorem wp_lp {P : Program} {c : Code} {Q : Exit → Act → World → Prop} {a : Act} {w : World} (body : S → Option (S ⊕ R)) (I : S → Act → World → Prop) {s : S} {r : R} (H : loopO body s = some r) (h0 : I s a w)
    (round : ∀ s a w, I s a w → ∀ o, body s = some o → (∀ r', o = .inr r' → r' = r) → c.wp P (Exit.then (fun a' w' => ∃ s', o = .inl s' ∧ I s' a' w') Q) a w) : (Code.loop c).wp P Q a w := by
  obtain ⟨n, hn⟩ := loopO_iff.1 H
  clear H
  intro b k cs
  have key : ∀ n s, iterN body n s = some r → ∀ a w, I s a w →
      ∃ e a' w', Q e a' w' ∧ Arrives P (lone (b.at a (.code c :: .inLoop c :: k)) cs w) b k cs e a' w' := by
    intro n
    induction n with
    | zero => intro s hs; simp [iterN] at hs
    | succ n ih =>
      intro s hs a w hI
      simp only [iterN] at hs
      have hb : ∃ o, body s = some o ∧ (∀ r', o = .inr r' → r' = r) ∧ (∀ s', o = .inl s' → iterN body n s' = some r) := by
        rcases hb : body s with _ | ⟨s' | r'⟩
        · rw [hb] at hs; cases hs
        · rw [hb] at hs
          exact ⟨_, rfl, fun r' h => (by cases h), fun s'' h => by cases h; exact hs⟩
        · rw [hb] at hs
          exact ⟨_, rfl, fun r'' h => by cases h; cases hs; rfl, fun s'' h => (by cases h)⟩
      obtain ⟨o, hb1, hb2, hb3⟩ := hb
      obtain ⟨e, a₁, w₁, hq, harr⟩ := round s a w hI o hb1 hb2 b (.inLoop c :: k) cs
      cases e with
      | normal =>
        obtain ⟨s', rfl, hI₁⟩ := hq
        obtain ⟨e₂, a₂, w₂, hq₂, harr₂⟩ := ih s' (hb3 _ rfl) a₁ w₁ hI₁
        exact ⟨e₂, a₂, w₂, hq₂, .of_steps (Steps.trans harr (.one step_inLoop)) harr₂⟩
      | exit id => exact ⟨_, a₁, w₁, hq, .pass (x := .inLoop c) rfl (fun _ _ => .inl (by simp)) harr⟩
      | goto l => exact ⟨_, a₁, w₁, hq, .pass (x := .inLoop c) rfl (fun _ _ => .inl (by simp)) harr⟩
      | ret => exact ⟨_, a₁, w₁, hq, .pass (x := .inLoop c) rfl (fun _ _ => .inl (by simp)) harr⟩
      | panic ch => exact ⟨_, a₁, w₁, hq, .pass (x := .inLoop c) rfl (fun _ _ => .inl (by simp)) harr⟩
      | outgrown => exact ⟨_, a₁, w₁, hq, .pass (x := .inLoop c) rfl (fun _ _ => .inl (by simp)) harr⟩
  obtain ⟨e, a', w', hq, harr⟩ := key n s hn a w h0
  exact ⟨e, a', w', hq, .of_steps (.one step_loop) harr⟩
end
end Go.Pv
