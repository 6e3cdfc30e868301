/- Lemmas, walks and laws that the row of this claim rests on, merged into few texts: part 1. -/
import Derived.WalkKit
import Derived.KernelRfl
import Derived.Below
import Derived.Deep.Draws
import Derived.Deep.Quiet
import Derived.Deep.QuietTactic
import Derived.Lib.LazyBuf
import Derived.Laws.Append
import Derived.Laws.CopyRow
import Derived.Laws.OwnMore
import Derived.ScopeJumps
import Derived.Test.YtfcpkcehecmcpaaGreatRows
import Derived.ProofKit
import Derived.OpenShut
import Derived.JoinedCond
import Derived.ReadAgain
import Derived.Deep.Slices
import Derived.OrdersHeld
import Derived.LoopN
import Derived.Deep.RegionHeld3
import Derived.Laws.StructEq
import Derived.ChangeKeysEq
import Derived.Laws.IdiomRangeMap
set_option linter.unusedVariables false
set_option linter.unusedSimpArgs false
open Option renaming bind_some → Al6, map_some → Al7, bind_eq_some_iff → Al8
open List renaming getElem?_eq_getElem → Al9, length_append → Ama, length_take → Amb, mem_append → Amc, mem_singleton → Amd, mem_cons → Ame, mem_range → Amf, mem_map → Amg, map_append → Amh, append_nil → Ami, nil_append → Amj, length_cons → Amk, append_assoc → Aml
open Bool renaming and_eq_true → Amm
namespace Go.Pv
theorem A1 {c : Prop} {h : Decidable c} (hc : c) {α : Sort _} {t e : α} : (ite c t e) = t := if_pos hc
theorem Ay {c : Prop} {h : Decidable c} (hc : ¬ c) {α : Sort _} {t e : α} : (ite c t e) = e := if_neg hc
theorem Az {p : Prop} [Decidable p] : (decide p = true) = p := decide_eq_true_eq
theorem AN {α : Type} [BEq α] [LawfulBEq α] {a b : α} : (a != b) = true ↔ a ≠ b := bne_iff_ne
theorem AG {α : Type} [BEq α] [LawfulBEq α] {a b : α} : (a == b) = true ↔ a = b := beq_iff_eq
end Go.Pv
namespace Go.Pv
open Go Go.RowKit
def look : List (Nat × Value) → Nat → Option Value
 | [], _ => none
 | (i, v) :: r, t => bif Nat.beq i t then some v else look r t
structure Fr (a : Act) (n : Nat) (m : List (Nat × Value)) : Prop where
 size : a.tmps.size = n
 defers : a.defers = []
 at_ : ∀ t v, look m t = some v → a.tmps[t]? = some v
def ev (m : List (Nat × Value)) : Operand → Option Value
 | .tmp t => look m t
 | .const v => some v
 | .func f => some (.func (.func f) #[] #[])
 | .global _ => none
def Mt (m : List (Nat × Value)) : List Operand → Option (List Value)
 | [] => some []
 | x :: r => match ev m x with
  | some v => match Mt m r with
   | some l => some (v :: l)
   | none => none
  | none => none
theorem Fr.eval {a : Act} {n : Nat} {m : List (Nat × Value)} (h : Fr a n m) {x : Operand} {v : Value} (hx : ev m x = some v) : a.eval x = v := by
 cases x with
 | tmp t =>
  have h1 := h.at_ t v hx
  simp only [Act.eval]
  rw [Array.getD_eq_getD_getElem?, h1]
  rfl
 | const v' => simpa [ev, Act.eval] using hx
 | global g => simp [ev] at hx
 | func f => simpa [ev, Act.eval] using hx
theorem Fr.Nt {a : Act} {n : Nat} {m : List (Nat × Value)} (h : Fr a n m) : ∀ {l : List Operand} {vs : List Value}, Mt m l = some vs → l.map a.eval = vs
 | [], vs, hx => by simpa [Mt] using hx
 | x :: r, vs, hx => by
  simp only [Mt] at hx
  split at hx
  ·rename_i v hv
   split at hx
   ·rename_i l hl
    cases hx
    rw [List.map_cons, h.eval hv, h.Nt hl]
   ·cases hx
  ·cases hx
theorem Lf (m : List (Nat × Value)) (d : Nat) (v : Value) : look ((d, v) :: m) d = some v := by simp [look]
theorem M1 (m : List (Nat × Value)) {d t : Nat} (v : Value) (h : d ≠ t) : look ((d, v) :: m) t = look m t := by
 have : Nat.beq d t = false := by
  rcases hb : Nat.beq d t with _ | _
  ·rfl
  ·exact absurd (Nat.eq_of_beq_eq_true hb) h
 simp [look, this]
theorem Fr.put {a : Act} {n : Nat} {m : List (Nat × Value)} (h : Fr a n m) (d : Nat) (v : Value) (hd : Nat.blt d n = true) : Fr (a.put (some d) v) n ((d, v) :: m) := by
 have hd' : d < n := by simpa [Nat.blt_eq] using hd
 refine ⟨by simp [Act.put, h.size], by simp [Act.put, h.defers], fun t u hu => ?_⟩
 simp only [Act.put]
 by_cases ht : d = t
 ·subst ht
  rw [Lf] at hu
  rw [Array.getElem?_setIfInBounds_self, A1 (by rw [h.size]; exact hd')]
  exact hu
 ·rw [M1 m v ht] at hu
  rw [Array.getElem?_setIfInBounds_ne ht]
  exact h.at_ t u hu
def Aak : List (Nat × Value) → List (Nat × Value) → Prop
 | [], _ => True
 | (t, v) :: r, m => look m t = some v ∧ Aak r m
theorem Sz : ∀ {m' m : List (Nat × Value)}, Aak m' m → ∀ t v, look m' t = some v → look m t = some v
 | [], _, _, t, v, h => by simp [look] at h
 | (i, u) :: r, m, hs, t, v, h => by
  obtain ⟨h1, h2⟩ := hs
  by_cases hi : i = t
  ·subst hi
   rw [Lf] at h
   cases h
   exact h1
  ·rw [M1 r u hi] at h
   exact Sz h2 t v h
theorem Fr.sub {a : Act} {n : Nat} {m m' : List (Nat × Value)} (h : Fr a n m) (hs : Aak m' m) : Fr a n m' := ⟨h.size, h.defers, fun t v hv => h.at_ t v (Sz hs t v hv)⟩
theorem Ahk {args : Array Value} {n : Nat} {m : List (Nat × Value)} (hn : args.size ≤ n) (h : ∀ t v, look m t = some v → args[t]? = some v) :
  Fr { tmps := args ++ Array.replicate (n - args.size) undef, defers := [] } n m :=
 ⟨by simp; omega, rfl, fun t v hv => by
  have h1 := h t v hv
  obtain ⟨hlt, h2⟩ := Array.getElem?_eq_some_iff.1 h1
  simp only
  rw [Array.getElem?_append_left hlt, h1]⟩
def Uh : Nat → List Value → List (Nat × Value)
 | _, [] => []
 | i, v :: r => (i, v) :: Uh (i + 1) r
theorem WG : ∀ (l : List Value) (i t : Nat) (v : Value), look (Uh i l) t = some v → ∃ j, t = i + j ∧ l[j]? = some v
 | [], i, t, v, h => by simp [Uh, look] at h
 | u :: r, i, t, v, h => by
  by_cases ht : i = t
  ·subst ht
   rw [Uh, Lf] at h
   exact ⟨0, rfl, by simpa using h⟩
  ·rw [Uh, M1 _ _ ht] at h
   obtain ⟨j, rfl, hj⟩ := WG r (i + 1) t v h
   exact ⟨j + 1, by omega, by simpa using hj⟩
theorem D7 {P : Program} {f : FuncId} {fn : Func} {c : Code} {args : List Value} {w : World} {R : Ending → World → Prop} {n : Nat}
  (hf : P.funcs[f]? = some fn) (hb : fn.body = some c) (hn : fn.ntmps = n) (hl : args.length ≤ n)
  (h : ∀ a, Fr a n (Uh 0 args) → c.wp P (bodyPost P fn R) a w) : Calls P f args.toArray w R := by
 refine calls_of_wp hf hb (h _ ?_)
 subst hn
 refine Ahk (by simpa using hl) fun t v hv => ?_
 obtain ⟨j, rfl, hj⟩ := WG args 0 t v hv
 simpa using hj
section
variable {P : Program}
def EX (P : Program) (w : World) (m : List (Nat × Value)) (o : Oper) (v : Value) (w' : World) : Prop :=
 ∀ a n, Fr a n m → (execOp a.eval o).run P w = .ok (.value v) w'
def EXu (P : Program) (w : World) (m : List (Nat × Value)) (o : Oper) (w' : World) : Prop :=
 ∀ a n, Fr a n m → (execOp a.eval o).run P w = .ok .skip w'
variable {w w' : World} {m m' : List (Nat × Value)} {ops : Array Oper} {Q : Exit → Act → World → Prop} {a : Act} {n : Nat} {rest rest' : List Oper} {o : Oper} {d : Nat} {v : Value}
theorem I5 (hF : Fr a n m) (he : EX P w m o v w') (hg : o.guard = none) (hd : o.dst = some d) (hlt : Nat.blt d n = true)
  (k : ∀ a, Fr a n ((d, v) :: m) → wpList P ops Q rest a w') : wpList P ops Q (o :: rest) a w :=
 wpList_plain hg fun K hK => by
  unfold Oper.wp
  rw [he a n hF, Oper.upon_value, hd]
  exact hK _ _ (k _ (hF.put d v hlt))
theorem OQ (hF : Fr a n m) (he : EXu P w m o w') (hg : o.guard = none) (hd : o.dst = none) (k : ∀ a, Fr a n m → wpList P ops Q rest a w') : wpList P ops Q (o :: rest) a w :=
 wpList_plain hg fun K hK => by
  unfold Oper.wp
  rw [he a n hF, Oper.upon_skip, hd]
  exact hK _ _ (k _ hF)
theorem Akj (hF : Fr a n m) (he : EX P w m o v w') (hg : o.guard = none) (hd : o.dst = none) (k : ∀ a, Fr a n m → wpList P ops Q rest a w') : wpList P ops Q (o :: rest) a w :=
 wpList_plain hg fun K hK => by
  unfold Oper.wp
  rw [he a n hF, Oper.upon_value, hd]
  exact hK _ _ (k _ hF)
theorem IG {j dj : Nat} {b : Bool} (hF : Fr a n m) (hj : (ops[j]?).bind (·.dst) = some dj) (hb : look m dj = some (.bool b)) : yielded ops a.tmps j = some b := by
 unfold yielded
 rw [hj]
 simp only [Al6]
 rw [hF.at_ _ _ hb]
theorem Nv {j dj : Nat} {b : Bool} (hF : Fr a n m) (hg : o.guard = some (j, b)) (hj : (ops[j]?).bind (·.dst) = some dj) (hb : look m dj = some (.bool b))
  (he : EX P w m o v w') (hd : o.dst = some d) (hlt : Nat.blt d n = true)
  (k : ∀ a, Fr a n ((d, v) :: m) → wpList P ops Q rest a w') : wpList P ops Q (o :: rest) a w :=
 wpList_step fun K hK => by
  rw [A1 (by simp [Region.wanted, hg, IG hF hj hb])]
  unfold Oper.wp
  rw [he a n hF, Oper.upon_value, hd]
  exact hK _ _ (k _ (hF.put d v hlt))
theorem XQ {j dj : Nat} {b c : Bool} (hF : Fr a n m) (hg : o.guard = some (j, c)) (hj : (ops[j]?).bind (·.dst) = some dj) (hb : look m dj = some (.bool b)) (hne : b ≠ c)
  (hd : o.dst = some d) (hlt : Nat.blt d n = true)
  (k : ∀ a, Fr a n ((d, undef) :: m) → wpList P ops Q rest a w) : wpList P ops Q (o :: rest) a w :=
 wpList_step fun K hK => by
  rw [Ay (by simp [Region.wanted, hg, IG hF hj hb]; exact hne)]
  rw [hd]
  exact hK _ _ (k _ (hF.put d undef hlt))
theorem Acu {j dj : Nat} {c : Bool} (hF : Fr a n m) (hg : o.guard = some (j, c)) (hj : (ops[j]?).bind (·.dst) = some dj) (hb : look m dj = some undef)
  (hd : o.dst = some d) (hlt : Nat.blt d n = true)
  (k : ∀ a, Fr a n ((d, undef) :: m) → wpList P ops Q rest a w) : wpList P ops Q (o :: rest) a w :=
 wpList_step fun K hK => by
  have : yielded ops a.tmps j = none := by
   unfold yielded
   rw [hj]
   simp only [Al6]
   rw [hF.at_ _ _ hb]
   rfl
  rw [Ay (by simp [Region.wanted, hg, this])]
  rw [hd]
  exact hK _ _ (k _ (hF.put d undef hlt))
def PR (P : Program) (w : World) (n : Nat) (m : List (Nat × Value)) (l : List Oper) (m' : List (Nat × Value)) (l' : List Oper) : Prop :=
 ∀ ops Q a, Fr a n m → (∀ a, Fr a n m' → wpList P ops Q l' a w) → wpList P ops Q l a w
theorem PR.nil {l : List Oper} : PR P w n m l m l := fun _ _ a hF k => k a hF
theorem PR.op (he : EX P w m o v w) (k : PR P w n ((d, v) :: m) rest m' rest') (hg : o.guard = none := by rfl) (hd : o.dst = some d := by rfl) (hlt : Nat.blt d n = true := by rfl) : PR P w n m (o :: rest) m' rest' :=
 fun ops Q _ hF k' => I5 hF he hg hd hlt fun a hF' => k ops Q a hF' k'
theorem Gg (hF : Fr a n m) (h : PR P w n m rest m' rest') (k : ∀ a, Fr a n m' → wpList P ops Q rest' a w) : wpList P ops Q rest a w := h ops Q a hF k
variable {ty : TypeId} {pos : String} {aft : Array Edge} {g : Option (Nat × Bool)} {dd : Option Tmp} {x y z : Operand}
theorem Ou {v : Value} (h : ev m x = some v) : EX P w m ⟨dd, .move x, ty, pos, aft, g⟩ v w := fun a n hF => by
 simp only [execOp, hF.eval h]; rfl
theorem Hm {v : Value} (h : ev m x = some v) : EX P w m ⟨dd, .assign x, ty, pos, aft, g⟩ v w := fun a n hF => by
 simp only [execOp, hF.eval h]; rfl
theorem Wc {v : Value} (hx : ev m x = some (.bool true)) (hy : ev m y = some v) : EX P w m ⟨dd, .pick x y z, ty, pos, aft, g⟩ v w := fun a n hF => by
 simp only [execOp, hF.eval hx, hF.eval hy, asBool]; rfl
theorem WM {v : Value} (hx : ev m x = some (.bool false)) (hz : ev m z = some v) : EX P w m ⟨dd, .pick x y z, ty, pos, aft, g⟩ v w := fun a n hF => by
 simp only [execOp, hF.eval hx, hF.eval hz, asBool]; rfl
theorem Tb (bop : BinOp) (t : TypeId) (x y : Operand) (a b : Value) (h : ∀ u, a ≠ .agg u) (h' : a ≠ .nilIface) : (eqGuard bop t x y a b).run P w = .ok () w := by
 cases a with
 | agg u => exact absurd rfl (h u)
 | nilIface => exact absurd rfl h'
 | _ => cases bop <;> rfl
theorem Hl {bop : BinOp} {t u : TypeId} {p q r : Value} (hx : ev m x = some p) (hy : ev m y = some q) (h : ∀ c, p ≠ .agg c) (h' : p ≠ .nilIface) (hr : (binOp bop t p q).run P w = .ok r w) :
  EX P w m ⟨dd, .binOp bop t x y u, ty, pos, aft, g⟩ r w := fun a n hF => by
 simp only [execOp, hF.eval hx, hF.eval hy]
 simp [Tb bop t x y p q h h', hr]
section
variable {t u : TypeId} {k : IntKind} {p q : Int}
theorem Adt (hx : ev m x = some (.int k p)) (hy : ev m y = some (.int k q)) : EX P w m ⟨dd, .binOp .add t x y u, ty, pos, aft, g⟩ (.int k (k.wrap (p + q))) w :=
 Hl hx hy (fun _ => Value.noConfusion) Value.noConfusion (by simp [binOp, Op.intArith])
theorem Adc (hx : ev m x = some (.int k p)) (hy : ev m y = some (.int k q)) : EX P w m ⟨dd, .binOp .sub t x y u, ty, pos, aft, g⟩ (.int k (k.wrap (p - q))) w :=
 Hl hx hy (fun _ => Value.noConfusion) Value.noConfusion (by simp [binOp, Op.intArith])
theorem Akh (hx : ev m x = some (.int k p)) (hy : ev m y = some (.int k q)) : EX P w m ⟨dd, .binOp .mul t x y u, ty, pos, aft, g⟩ (.int k (k.wrap (p * q))) w :=
 Hl hx hy (fun _ => Value.noConfusion) Value.noConfusion (by simp [binOp, Op.intArith])
theorem Ajf (hx : ev m x = some (.int k p)) (hy : ev m y = some (.int k q)) (h : (q == 0) = false) : EX P w m ⟨dd, .binOp .rem t x y u, ty, pos, aft, g⟩ (.int k (p.tmod q)) w :=
 Hl hx hy (fun _ => Value.noConfusion) Value.noConfusion (by simp [binOp, Op.intDiv, beq_eq_false_iff_ne.1 h])
def bOr (k : IntKind) (p q : Int) : Int := k.wrap (BitVec.ofInt k.bits p ||| BitVec.ofInt k.bits q).toNat
theorem Akx (hx : ev m x = some (.int k p)) (hy : ev m y = some (.int k q)) : EX P w m ⟨dd, .binOp .or t x y u, ty, pos, aft, g⟩ (.int k (bOr k p q)) w :=
 Hl hx hy (fun _ => Value.noConfusion) Value.noConfusion (by simp [binOp, Op.intBits, bOr])
theorem Alf (hx : ev m x = some (.int k p)) (hy : ev m y = some (.int k q)) : EX P w m ⟨dd, .binOp .eql t x y u, ty, pos, aft, g⟩ (.bool (p == q)) w :=
 Hl hx hy (fun _ => Value.noConfusion) Value.noConfusion (by simp [binOp, Op.intCmp])
theorem Akz (hx : ev m x = some (.int k p)) (hy : ev m y = some (.int k q)) : EX P w m ⟨dd, .binOp .neq t x y u, ty, pos, aft, g⟩ (.bool (p != q)) w :=
 Hl hx hy (fun _ => Value.noConfusion) Value.noConfusion (by simp [binOp, Op.intCmp])
theorem Ala (hx : ev m x = some (.int k p)) (hy : ev m y = some (.int k q)) : EX P w m ⟨dd, .binOp .lss t x y u, ty, pos, aft, g⟩ (.bool (decide (p < q))) w :=
 Hl hx hy (fun _ => Value.noConfusion) Value.noConfusion (by simp [binOp, Op.intCmp])
theorem Alb (hx : ev m x = some (.int k p)) (hy : ev m y = some (.int k q)) : EX P w m ⟨dd, .binOp .leq t x y u, ty, pos, aft, g⟩ (.bool (decide (p ≤ q))) w :=
 Hl hx hy (fun _ => Value.noConfusion) Value.noConfusion (by simp [binOp, Op.intCmp])
theorem Ak1 (hx : ev m x = some (.int k p)) (hy : ev m y = some (.int k q)) : EX P w m ⟨dd, .binOp .gtr t x y u, ty, pos, aft, g⟩ (.bool (decide (p > q))) w :=
 Hl hx hy (fun _ => Value.noConfusion) Value.noConfusion (by simp [binOp, Op.intCmp])
theorem Ak5 (hx : ev m x = some (.int k p)) (hy : ev m y = some (.int k q)) : EX P w m ⟨dd, .binOp .geq t x y u, ty, pos, aft, g⟩ (.bool (decide (p ≥ q))) w :=
 Hl hx hy (fun _ => Value.noConfusion) Value.noConfusion (by simp [binOp, Op.intCmp])
def XZ (k : IntKind) (p q : Int) : Int := k.wrap (p * 2 ^ min q.toNat k.bits)
variable {k' : IntKind}
theorem Aj9 (hx : ev m x = some (.int k p)) (hy : ev m y = some (.int k' q)) (h : decide (q < 0) = false) : EX P w m ⟨dd, .binOp .shl t x y u, ty, pos, aft, g⟩ (.int k (XZ k p q)) w :=
 Hl hx hy (fun _ => Value.noConfusion) Value.noConfusion (by simp only [binOp, Op.shift]; rw [Ay (of_decide_eq_false h)]; rfl)
theorem Ow {s d : TypeId} {ds : TypeDesc} (hx : ev m x = some (.int k' p)) (hs : P.underlying s = some ds) (hd : P.underlying d = some (.int k)) :
  EX P w m ⟨dd, .convert s d x, ty, pos, aft, g⟩ (.int k (k.wrap p)) w := fun a n hF => by
 simp only [execOp, hF.eval hx]
 simp [convert, run_underlying hs, run_underlying hd, Conv.intToInt]
end
theorem OL {t : TypeId} {b : Bool} (hx : ev m x = some (.bool b)) : EX P w m ⟨dd, .unOp .not t x, ty, pos, aft, g⟩ (.bool (!b)) w := fun a n hF => by
 simp only [execOp, hF.eval hx]
 simp [Op.unary]
theorem NW {j : Nat} {vs : Array Value} {v : Value} (hx : ev m x = some (.tuple vs)) (hv : vs[j]? = some v) : EX P w m ⟨dd, .extract x j, ty, pos, aft, g⟩ v w := fun a n hF => by
 simp only [execOp, hF.eval hx]
 simp [Instr.extract, hv]
theorem YX {b : Addr} (hx : ev m x = some (.pointer (some b))) : EX P w m ⟨dd, .nilCheck x, ty, pos, aft, g⟩ (.pointer (some b)) w := fun a n hF => by
 simp only [execOp, hF.eval hx]
 simp
end
section
variable {P : Program} {w w' : World} {m m' : List (Nat × Value)} {Q : Exit → Act → World → Prop} {a : Act} {n : Nat}
theorem AZ {id : Nat} {l : List Oper} (h : wpList P l.toArray Q l a w) : (Code.region id l.toArray false).wp P Q a w := wp_region_lit h
theorem Xi {t : Nat} {b : Bool} {x y : Code} (hF : Fr a n m) (hc : look m t = some (.bool b)) (ht : b = true → x.wp P Q a w) (hf : b = false → y.wp P Q a w) : (Code.cond (.tmp t) x y).wp P Q a w :=
 wp_cond_split (hF.eval (x := .tmp t) hc) ht hf
theorem AW {ops : Array Oper} (h : Q .normal a w) : wpList P ops Q [] a w := h
end
theorem Xk {α : Type} {b : Bool} {A B : Option α} {r : α} (hb : b = true) (H : (if b = true then A else B) = some r) : A = some r := by rw [A1 hb] at H; exact H
theorem Xp {α : Type} {b : Bool} {A B : Option α} {r : α} (hb : b = false) (H : (if b = true then A else B) = some r) : B = some r := by rw [Ay (by simp [hb])] at H; exact H
theorem bind_ok {α β : Type} {E : Option α} {K : α → Option β} {r : β} (H : E.bind K = some r) : ∃ x, E = some x ∧ K x = some r := Option.bind_eq_some_iff.1 H
section
variable {S R : Type}
def Jk (body : S → Option (S ⊕ R)) : Nat → S → Option R
 | 0, _ => none
 | n + 1, s => match body s with
  | none => none
  | some (.inl s') => Jk body n s'
  | some (.inr r) => some r
theorem Qh (body : S → Option (S ⊕ R)) {r : R} : ∀ {n k : Nat} {s : S}, Jk body n s = some r → n ≤ k → Jk body k s = some r
 | 0, _, _, h, _ => by simp [Jk] at h
 | n + 1, 0, _, _, hk => by omega
 | n + 1, k + 1, s, h, hk => by
  simp only [Jk] at h ⊢
  split at h
  ·cases h
  ·rename_i s' hb
   exact Qh body h (by omega)
  ·exact h
open Classical in
noncomputable def AQ (body : S → Option (S ⊕ R)) (s : S) : Option R :=
 if h : ∃ n r, Jk body n s = some r then some (Classical.choose (Classical.choose_spec h)) else none
theorem Pr {body : S → Option (S ⊕ R)} {s : S} {r : R} : AQ body s = some r ↔ ∃ n, Jk body n s = some r := by
 unfold AQ
 constructor
 ·intro h
  split at h
  ·rename_i hx
   have h1 := Classical.choose_spec (Classical.choose_spec hx)
   cases h
   exact ⟨_, h1⟩
  ·cases h
 ·rintro ⟨n, hn⟩
  have hx : ∃ n r, Jk body n s = some r := ⟨n, r, hn⟩
  rw [dif_pos hx]
  have h1 := Classical.choose_spec (Classical.choose_spec hx)
  have h2 := Qh body h1 (Nat.le_max_left _ n)
  have h3 := Qh body hn (Nat.le_max_right (Classical.choose hx) _)
  rw [h2] at h3
  exact h3
theorem GY (body : S → Option (S ⊕ R)) (s : S) : AQ body s = match body s with
  | none => none
  | some (.inl s') => AQ body s'
  | some (.inr r) => some r := by
 apply Option.ext
 intro r
 rw [Pr]
 constructor
 ·rintro ⟨n, hn⟩
  cases n with
  | zero => simp [Jk] at hn
  | succ n =>
   simp only [Jk] at hn
   rcases hb : body s with _ | ⟨s' | r'⟩
   ·rw [hb] at hn; cases hn
   ·rw [hb] at hn; exact Pr.2 ⟨n, hn⟩
   ·rw [hb] at hn; exact hn
 ·intro h
  rcases hb : body s with _ | ⟨s' | r'⟩
  ·rw [hb] at h; cases h
  ·rw [hb] at h
   obtain ⟨n, hn⟩ := Pr.1 h
   exact ⟨n + 1, by simp only [Jk, hb]; exact hn⟩
  ·rw [hb] at h
   exact ⟨1, by simp only [Jk, hb]; exact h⟩
theorem QA {P : Program} {c : Code} {Q : Exit → Act → World → Prop} {a : Act} {w : World} (body : S → Option (S ⊕ R)) (I : S → Act → World → Prop) {s : S} {r : R} (H : AQ body s = some r) (h0 : I s a w)
  (round : ∀ s a w, I s a w → ∀ o, body s = some o → (∀ r', o = .inr r' → r' = r) → c.wp P (Exit.then (fun a' w' => ∃ s', o = .inl s' ∧ I s' a' w') Q) a w) : (Code.loop c).wp P Q a w := by
 obtain ⟨n, hn⟩ := Pr.1 H
 clear H
 intro b k cs
 have key : ∀ n s, Jk body n s = some r → ∀ a w, I s a w →
   ∃ e a' w', Q e a' w' ∧ Arrives P (lone (b.at a (.code c :: .inLoop c :: k)) cs w) b k cs e a' w' := by
  intro n
  induction n with
  | zero => intro s hs; simp [Jk] at hs
  | succ n ih =>
   intro s hs a w hI
   simp only [Jk] at hs
   have hb : ∃ o, body s = some o ∧ (∀ r', o = .inr r' → r' = r) ∧ (∀ s', o = .inl s' → Jk body n s' = some r) := by
    rcases hb : body s with _ | ⟨s' | r'⟩
    ·rw [hb] at hs; cases hs
    ·rw [hb] at hs
     exact ⟨_, rfl, fun r' h => (by cases h), fun s'' h => by cases h; exact hs⟩
    ·rw [hb] at hs
     exact ⟨_, rfl, fun r'' h => by cases h; cases hs; rfl, fun s'' h => (by cases h)⟩
   obtain ⟨o, hb1, hb2, hb3⟩ := hb
   obtain ⟨e, a₁, w₁, hq, harr⟩ := round s a w hI o hb1 hb2 b (.inLoop c :: k) cs
   cases e with
   | normal =>
    obtain ⟨s', rfl, hI₁⟩ := hq
    obtain ⟨e₂, a₂, w₂, hq₂, harr₂⟩ := ih s' (hb3 _ rfl) a₁ w₁ hI₁
    exact ⟨e₂, a₂, w₂, hq₂, .of_steps (Steps.trans harr (.one step_inLoop)) harr₂⟩
   | exit id => exact ⟨_, a₁, w₁, hq, .pass (x := .inLoop c) rfl (fun _ _ => .inl (by simp)) harr⟩
   | goto l => exact ⟨_, a₁, w₁, hq, .pass (x := .inLoop c) rfl (fun _ _ => .inl (by simp)) harr⟩
   | ret => exact ⟨_, a₁, w₁, hq, .pass (x := .inLoop c) rfl (fun _ _ => .inl (by simp)) harr⟩
   | panic ch => exact ⟨_, a₁, w₁, hq, .pass (x := .inLoop c) rfl (fun _ _ => .inl (by simp)) harr⟩
   | outgrown => exact ⟨_, a₁, w₁, hq, .pass (x := .inLoop c) rfl (fun _ _ => .inl (by simp)) harr⟩
 obtain ⟨e, a', w', hq, harr⟩ := key n s hn a w h0
 exact ⟨e, a', w', hq, .of_steps (.one step_loop) harr⟩
end
end Go.Pv
namespace Go.Pv
open Go Go.RowKit
theorem block_add (a : Addr) (n : Nat) : (a.add n).block = a.block := by unfold Addr.add; split <;> rfl
theorem add_add' (a : Addr) (i j : Nat) : (a.add i).add j = a.add (i + j) := by
 unfold Addr.add
 by_cases hi : i = 0 <;> by_cases hj : j = 0 <;> simp [hi, hj, Nat.add_assoc]
theorem J0 (g o n : Nat) : (⟨g, o, none⟩ : Addr).add n = ⟨g, o + n, none⟩ := by
 unfold Addr.add
 by_cases h : n = 0 <;> simp [h]
theorem Aij {w : World} {a : Addr} {u : Value} (h : w.cell? a = some u) : a.block < w.heap.size := by
 rcases Nat.lt_or_ge a.block w.heap.size with h1 | h1
 ·exact h1
 ·unfold World.cell? at h; rw [Array.getElem?_eq_none h1] at h; cases h
theorem GT {w : World} {k : Nat} {o : Obj} (h : w.heap[k]? = some o) : k < w.heap.size := by
 rcases Nat.lt_or_ge k w.heap.size with h1 | h1
 ·exact h1
 ·rw [Array.getElem?_eq_none h1] at h; cases h
theorem UB {w w' : World} {a : Addr} (h : w'.heap[a.block]? = w.heap[a.block]?) : w'.cell? a = w.cell? a := by simp [World.cell?, h]
structure Fm (w0 : World) (F0 : List Nat) (w : World) : Prop where
 os : w.os = w0.os
 tape : w.tape = w0.tape
 output : w.output = w0.output
 size : w0.heap.size ≤ w.heap.size
 block : ∀ k, k < w0.heap.size → k ∉ F0 → w.heap[k]? = w0.heap[k]?
theorem Fm.refl (w : World) (F : List Nat) : Fm w F w := ⟨rfl, rfl, rfl, Nat.le_refl _, fun _ _ _ => rfl⟩
theorem Fm.trans {w0 w w1 : World} {F0 F1 : List Nat} (h : Fm w0 F0 w) (h1 : Fm w F1 w1) (hF : ∀ k ∈ F1, k ∈ F0 ∨ w0.heap.size ≤ k) : Fm w0 F0 w1 :=
 ⟨h1.os.trans h.os, h1.tape.trans h.tape, h1.output.trans h.output, Nat.le_trans h.size h1.size, fun k hk hn => by
  rw [h1.block k (Nat.lt_of_lt_of_le hk h.size) (fun hin => by rcases hF k hin with h2 | h2; exact hn h2; omega)]
  exact h.block k hk hn⟩
theorem Fm.below {w0 w : World} (h : Fm w0 [] w) : Below w0.heap.size w0 w := ⟨h.os, h.tape, h.output, h.size, fun k hk => h.block k hk (by simp)⟩
theorem Fm.drew (w : World) (F : List Nat) : Fm w F w.drew := ⟨rfl, rfl, rfl, Nat.le_refl _, fun _ _ _ => rfl⟩
theorem Fm.alloc (w : World) (F : List Nat) (o : Obj) : Fm w F (w.alloc o) := ⟨rfl, rfl, rfl, by simp, fun k hk _ => Below.heap_alloc w o k hk⟩
theorem Fm.one {w w' : World} {g : Nat} (h1 : w'.os = w.os) (h2 : w'.tape = w.tape) (h3 : w'.output = w.output) (h4 : w'.heap.size = w.heap.size) (h5 : ∀ k, k ≠ g → w'.heap[k]? = w.heap[k]?) : Fm w [g] w' :=
 ⟨h1, h2, h3, by omega, fun k _ hn => h5 k (by simpa using hn)⟩
structure Ck where
 P : World → List Nat → Prop
 loc : ∀ {w w' F}, P w F → (∀ k ∈ F, w'.heap[k]? = w.heap[k]?) → P w' F
 lt : ∀ {w F}, P w F → ∀ k ∈ F, k < w.heap.size
def Ba : List Ck → World → List Nat → Prop
 | [], _, F => F = []
 | p :: ps, w, F => ∃ F1 F2, F = F1 ++ F2 ∧ p.P w F1 ∧ Ba ps w F2 ∧ ∀ k ∈ F1, k ∉ F2
theorem Ba.loc : ∀ {ps : List Ck} {w w' : World} {F : List Nat}, Ba ps w F → (∀ k ∈ F, w'.heap[k]? = w.heap[k]?) → Ba ps w' F
 | [], _, _, _, h, _ => h
 | p :: ps, w, w', F, ⟨F1, F2, e, h1, h2, hd⟩, hk => ⟨F1, F2, e, p.loc h1 (fun k hk' => hk k (by simp [e, hk'])), Ba.loc h2 (fun k hk' => hk k (by simp [e, hk'])), hd⟩
theorem Ba.lt : ∀ {ps : List Ck} {w : World} {F : List Nat}, Ba ps w F → ∀ k ∈ F, k < w.heap.size
 | [], _, _, h, k, hk => by rw [h] at hk; cases hk
 | p :: ps, w, F, ⟨F1, F2, e, h1, h2, _⟩, k, hk => by
  rw [e, Amc] at hk
  rcases hk with hk | hk
  ·exact p.lt h1 k hk
  ·exact Ba.lt h2 k hk
theorem Ba.append : ∀ {ps qs : List Ck} {w : World} {F : List Nat}, Ba (ps ++ qs) w F ↔ ∃ F1 F2, F = F1 ++ F2 ∧ Ba ps w F1 ∧ Ba qs w F2 ∧ ∀ k ∈ F1, k ∉ F2
 | [], qs, w, F => by
  constructor
  ·intro h; exact ⟨[], F, rfl, rfl, h, by simp⟩
  ·rintro ⟨F1, F2, e, h1, h2, _⟩
   rw [show F1 = [] from h1, Amj] at e
   subst e
   exact h2
 | p :: ps, qs, w, F => by
  constructor
  ·rintro ⟨F1, F2, e, h1, h2, hd⟩
   obtain ⟨G1, G2, e', h3, h4, hd'⟩ := Ba.append.1 h2
   subst e' e
   exact ⟨F1 ++ G1, G2, by simp, ⟨F1, G1, rfl, h1, h3, fun k hk hk' => hd k hk (by simp [hk'])⟩, h4, fun k hk hk' => by
    rw [Amc] at hk
    rcases hk with hk | hk
    ·exact hd k hk (by simp [hk'])
    ·exact hd' k hk hk'⟩
  ·rintro ⟨F1, F2, e, ⟨G1, G2, e', h1, h2, hd⟩, h3, hd'⟩
   subst e' e
   exact ⟨G1, G2 ++ F2, by simp, h1, Ba.append.2 ⟨G2, F2, rfl, h2, h3, fun k hk => hd' k (by simp [hk])⟩, fun k hk hk' => by
    rw [Amc] at hk'
    rcases hk' with hk' | hk'
    ·exact hd k hk hk'
    ·exact hd' k (by simp [hk]) hk'⟩
theorem Ba.one {p : Ck} {w : World} {F : List Nat} (h : p.P w F) : Ba [p] w F := ⟨F, [], by simp, h, rfl, by simp⟩
theorem Ba.J5 {p : Ck} {w : World} {F : List Nat} (h : Ba [p] w F) : p.P w F := by
 obtain ⟨F1, F2, e, h1, h2, _⟩ := h
 rw [show F2 = [] from h2, Ami] at e
 subst e
 exact h1
theorem Ba.swap {p q : Ck} {ps : List Ck} {w : World} {F : List Nat} (h : Ba (p :: q :: ps) w F) : ∃ F', Ba (q :: p :: ps) w F' ∧ ∀ k, k ∈ F' ↔ k ∈ F := by
 obtain ⟨F1, F2, e, h1, ⟨G1, G2, e', h2, h3, hd'⟩, hd⟩ := h
 subst e' e
 refine ⟨G1 ++ (F1 ++ G2), ⟨G1, F1 ++ G2, rfl, h2, ⟨F1, G2, rfl, h1, h3, fun k hk hk' => hd k hk (by simp [hk'])⟩, fun k hk hk' => ?_⟩, fun k => by simp only [Amc]; exact or_left_comm⟩
 rw [Amc] at hk'
 rcases hk' with hk' | hk'
 ·exact hd k hk' (by simp [hk])
 ·exact hd' k hk hk'
theorem Ba.OU {p : Ck} {ps qs : List Ck} {w : World} (h : ∀ F, Ba ps w F → ∃ F', Ba qs w F' ∧ ∀ k, k ∈ F' ↔ k ∈ F) {F : List Nat} (hs : Ba (p :: ps) w F) :
  ∃ F', Ba (p :: qs) w F' ∧ ∀ k, k ∈ F' ↔ k ∈ F := by
 obtain ⟨F1, F2, e, h1, h2, hd⟩ := hs
 obtain ⟨F2', h3, h4⟩ := h F2 h2
 subst e
 exact ⟨F1 ++ F2', ⟨F1, F2', rfl, h1, h3, fun k hk hk' => hd k hk ((h4 k).1 hk')⟩, fun k => by simp [h4]⟩
structure SL (w0 : World) (F0 : List Nat) (w : World) (ps : List Ck) : Prop where
 fm : Fm w0 F0 w
 st : ∃ F, Ba ps w F ∧ ∀ k ∈ F, k ∈ F0 ∨ w0.heap.size ≤ k
section
variable {w0 w w' : World} {F0 : List Nat} {p q : Ck} {ps qs rest : List Ck}
theorem SL.init (w : World) (F : List Nat) (h : Ba ps w F) : SL w F w ps := ⟨Fm.refl w F, F, h, fun _ hk => .inl hk⟩
theorem SL.BF (w : World) : SL w [] w [] := ⟨Fm.refl w [], [], rfl, by simp⟩
theorem SL.re (h : SL w0 F0 w ps) (hp : ∀ F, Ba ps w F → ∃ F', Ba qs w F' ∧ ∀ k, k ∈ F' ↔ k ∈ F) : SL w0 F0 w qs := by
 obtain ⟨F, hs, hF⟩ := h.st
 obtain ⟨F', hs', hi⟩ := hp F hs
 exact ⟨h.fm, F', hs', fun k hk => hF k ((hi k).1 hk)⟩
theorem SL.f1 {a b : Ck} {r : List Ck} (h : SL w0 F0 w (a :: b :: r)) : SL w0 F0 w (b :: a :: r) := h.re fun _ hs => Ba.swap hs
theorem ZH {a b c : Ck} {r : List Ck} {F : List Nat} (h : Ba (a :: b :: c :: r) w F) : ∃ F', Ba (c :: a :: b :: r) w F' ∧ ∀ k, k ∈ F' ↔ k ∈ F := by
 obtain ⟨F1, h1, i1⟩ := Ba.OU (fun _ hs => Ba.swap hs) h
 obtain ⟨F2, h2, i2⟩ := Ba.swap h1
 exact ⟨F2, h2, fun k => (i2 k).trans (i1 k)⟩
theorem SL.f2 {a b c : Ck} {r : List Ck} (h : SL w0 F0 w (a :: b :: c :: r)) : SL w0 F0 w (c :: a :: b :: r) := h.re fun _ hs => ZH hs
theorem ZE {a b c d : Ck} {r : List Ck} {F : List Nat} (h : Ba (a :: b :: c :: d :: r) w F) : ∃ F', Ba (d :: a :: b :: c :: r) w F' ∧ ∀ k, k ∈ F' ↔ k ∈ F := by
 obtain ⟨F1, h1, i1⟩ := Ba.OU (fun _ hs => ZH hs) h
 obtain ⟨F2, h2, i2⟩ := Ba.swap h1
 exact ⟨F2, h2, fun k => (i2 k).trans (i1 k)⟩
theorem SL.f3 {a b c d : Ck} {r : List Ck} (h : SL w0 F0 w (a :: b :: c :: d :: r)) : SL w0 F0 w (d :: a :: b :: c :: r) := h.re fun _ hs => ZE hs
theorem Zy {a b c d e : Ck} {r : List Ck} {F : List Nat} (h : Ba (a :: b :: c :: d :: e :: r) w F) : ∃ F', Ba (e :: a :: b :: c :: d :: r) w F' ∧ ∀ k, k ∈ F' ↔ k ∈ F := by
 obtain ⟨F1, h1, i1⟩ := Ba.OU (fun _ hs => ZE hs) h
 obtain ⟨F2, h2, i2⟩ := Ba.swap h1
 exact ⟨F2, h2, fun k => (i2 k).trans (i1 k)⟩
theorem SL.f4 {a b c d e : Ck} {r : List Ck} (h : SL w0 F0 w (a :: b :: c :: d :: e :: r)) : SL w0 F0 w (e :: a :: b :: c :: d :: r) := h.re fun _ hs => Zy hs
theorem Ahu {a b c d e f : Ck} {r : List Ck} {F : List Nat} (h : Ba (a :: b :: c :: d :: e :: f :: r) w F) : ∃ F', Ba (f :: a :: b :: c :: d :: e :: r) w F' ∧ ∀ k, k ∈ F' ↔ k ∈ F := by
 obtain ⟨F1, h1, i1⟩ := Ba.OU (fun _ hs => Zy hs) h
 obtain ⟨F2, h2, i2⟩ := Ba.swap h1
 exact ⟨F2, h2, fun k => (i2 k).trans (i1 k)⟩
theorem SL.f5 {a b c d e f : Ck} {r : List Ck} (h : SL w0 F0 w (a :: b :: c :: d :: e :: f :: r)) : SL w0 F0 w (f :: a :: b :: c :: d :: e :: r) := h.re fun _ hs => Ahu hs
theorem SL.drop (h : SL w0 F0 w (p :: ps)) : SL w0 F0 w ps := by
 obtain ⟨F, ⟨F1, F2, e, h1, h2, hd⟩, hF⟩ := h.st
 exact ⟨h.fm, F2, h2, fun k hk => hF k (by simp [e, hk])⟩
theorem SL.rot {a : Ck} (h : SL w0 F0 w (a :: ps)) : SL w0 F0 w (ps ++ [a]) := h.re fun F hs => by
 obtain ⟨F1, F2, e, h1, h2, hd⟩ := hs
 subst e
 exact ⟨F2 ++ F1, Ba.append.2 ⟨F2, F1, rfl, h2, Ba.one h1, fun k hk hk' => hd k hk' hk⟩, fun k => by simp only [Amc]; exact or_comm⟩
theorem SL.open_ (h : SL w0 F0 w (ps ++ rest)) : ∃ F, Ba ps w F ∧ (∀ k ∈ F, k ∈ F0 ∨ w0.heap.size ≤ k) ∧ (∃ G, Ba rest w G ∧ ∀ k ∈ F, k ∉ G) ∧
  ∀ w' qs, SL w F w' qs → SL w0 F0 w' (qs ++ rest) := by
 obtain ⟨F, hs, hF⟩ := h.st
 obtain ⟨F1, F2, e, h1, h2, hd⟩ := Ba.append.1 hs
 subst e
 refine ⟨F1, h1, fun k hk => hF k (by simp [hk]), ⟨F2, h2, hd⟩, fun w' qs hq => ?_⟩
 obtain ⟨G, hg, hG⟩ := hq.st
 have hlt := Ba.lt h2
 refine ⟨h.fm.trans hq.fm (fun k hk => hF k (by simp [hk])), G ++ F2, Ba.append.2 ⟨G, F2, rfl, hg, Ba.loc h2 (fun k hk => hq.fm.block k (hlt k hk) (fun hin => hd k hin hk)), fun k hk hk' => ?_⟩, fun k hk => ?_⟩
 ·rcases hG k hk with h3 | h3
  ·exact hd k h3 hk'
  ·have := hlt k hk'; omega
 ·rw [Amc] at hk
  rcases hk with hk | hk
  ·rcases hG k hk with h3 | h3
   ·exact hF k (by simp [h3])
   ·right; have := h.fm.size; omega
  ·exact hF k (by simp [hk])
theorem SL.add (h : SL w0 F0 w ps) (hq : SL w [] w' qs) : SL w0 F0 w' (qs ++ ps) := by
 obtain ⟨F, hs, _, _, hk⟩ := SL.open_ (ps := []) (rest := ps) (by simpa using h)
 rw [show F = [] from hs] at hk
 exact hk w' qs hq
theorem SL.drew (h : SL w0 F0 w ps) : SL w0 F0 w.drew ps := by
 have := h.add (w' := w.drew) (qs := []) ⟨Fm.drew w [], [], rfl, by simp⟩
 simpa using this
end
structure Ty (α : Type) where
 sz : Nat
 rd : World → List Nat → α → List Value → Prop
 own : World → List Nat → α → List Value → Prop
 FZ : ∀ {w G x cs}, rd w G x cs → cs.length = sz
 KG : ∀ {w G x cs}, rd w G x cs → ∀ u ∈ cs, u.oneCell' = true
 KI : ∀ {w w' G x cs}, rd w G x cs → (∀ k ∈ G, w'.heap[k]? = w.heap[k]?) → rd w' G x cs
 FA : ∀ {w G G' x cs}, rd w G x cs → (∀ k ∈ G, k ∈ G') → rd w G' x cs
 IC : ∀ {w w' F x cs}, own w F x cs → (∀ k ∈ F, w'.heap[k]? = w.heap[k]?) → own w' F x cs
 JL : ∀ {w F x cs}, own w F x cs → ∀ k ∈ F, k < w.heap.size
 BO : ∀ {w F x cs}, own w F x cs → rd w F x cs
namespace Ty
def scalar {α : Type} (enc : α → Value) (h1 : ∀ x, (enc x).oneCell' = true) : Ty α where
 sz := 1
 rd _ _ x cs := cs = [enc x]
 own _ F x cs := cs = [enc x] ∧ F = []
 FZ h := by rw [h]; rfl
 KG h u hu := by rw [h] at hu; simp only [Amd] at hu; rw [hu]; exact h1 _
 KI h _ := h
 FA h _ := h
 IC h _ := h
 JL h k hk := by rw [h.2] at hk; cases hk
 BO h := h.1
def int (k : IntKind) : Ty Int := scalar (Value.int k) (fun _ => rfl)
def bool : Ty Bool := scalar Value.bool (fun _ => rfl)
def u8 : Ty UInt8 := scalar (fun b => Value.int .u8 (b.toNat : Int)) (fun _ => rfl)
def u32 : Ty UInt32 := scalar (fun b => Value.int .u32 (b.toNat : Int)) (fun _ => rfl)
def u64 : Ty UInt64 := scalar (fun b => Value.int .u64 (b.toNat : Int)) (fun _ => rfl)
def str : Ty (List UInt8) := scalar (fun s => Value.string ⟨⟨s⟩⟩) (fun _ => rfl)
def pair {α β : Type} (A : Ty α) (B : Ty β) : Ty (α × β) where
 sz := A.sz + B.sz
 rd w G x cs := ∃ c d, cs = c ++ d ∧ A.rd w G x.1 c ∧ B.rd w G x.2 d
 own w F x cs := ∃ c d F1 F2, cs = c ++ d ∧ F = F1 ++ F2 ∧ A.own w F1 x.1 c ∧ B.own w F2 x.2 d ∧ ∀ k ∈ F1, k ∉ F2
 FZ := by rintro w G x cs ⟨c, d, rfl, h1, h2⟩; rw [Ama, A.FZ h1, B.FZ h2]
 KG := by
  rintro w G x cs ⟨c, d, rfl, h1, h2⟩ u hu
  rw [Amc] at hu
  rcases hu with hu | hu
  ·exact A.KG h1 u hu
  ·exact B.KG h2 u hu
 KI := by rintro w w' G x cs ⟨c, d, rfl, h1, h2⟩ hk; exact ⟨c, d, rfl, A.KI h1 hk, B.KI h2 hk⟩
 FA := by rintro w G G' x cs ⟨c, d, rfl, h1, h2⟩ hk; exact ⟨c, d, rfl, A.FA h1 hk, B.FA h2 hk⟩
 IC := by
  rintro w w' F x cs ⟨c, d, F1, F2, rfl, rfl, h1, h2, hd⟩ hk
  exact ⟨c, d, F1, F2, rfl, rfl, A.IC h1 (fun k h => hk k (by simp [h])), B.IC h2 (fun k h => hk k (by simp [h])), hd⟩
 JL := by
  rintro w F x cs ⟨c, d, F1, F2, rfl, rfl, h1, h2, hd⟩ k hk
  rw [Amc] at hk
  rcases hk with hk | hk
  ·exact A.JL h1 k hk
  ·exact B.JL h2 k hk
 BO := by
  rintro w F x cs ⟨c, d, F1, F2, rfl, rfl, h1, h2, hd⟩
  exact ⟨c, d, rfl, A.FA (A.BO h1) (fun k h => by simp [h]), B.FA (B.BO h2) (fun k h => by simp [h])⟩
def iso {α β : Type} (A : Ty α) (f : β → α) : Ty β where
 sz := A.sz
 rd w G x cs := A.rd w G (f x) cs
 own w F x cs := A.own w F (f x) cs
 FZ := A.FZ
 KG := A.KG
 KI := A.KI
 FA := A.FA
 IC := A.IC
 JL := A.JL
 BO := A.BO
end Ty
def Cells (w : World) (ad : Addr) (cs : List Value) : Prop := ∀ j u, cs[j]? = some u → w.cell? (ad.add j) = some u
def Eu {α : Type} (T : Ty α) (w : World) (G : List Nat) (v : Value) (l : List α) : Prop :=
 ∃ A c, v = .slice A l.length c ∧ l.length ≤ c ∧ ∀ i x, l[i]? = some x → ∃ ad cs, A = some ad ∧ ad.block ∈ G ∧ Cells w (ad.add (i * T.sz)) cs ∧ T.rd w G x cs
def DG {α : Type} (T : Ty α) (w : World) : List Nat → List α → List Value → Prop
 | F, [], cs => cs = [] ∧ F = []
 | F, x :: l, cs => ∃ c d F1 F2, cs = c ++ d ∧ F = F1 ++ F2 ∧ T.own w F1 x c ∧ DG T w F2 l d ∧ ∀ k ∈ F1, k ∉ F2
def Hp (sz : Nat) (w : World) (F : List Nat) (v : Value) (n : Nat) (xs : List Value) : Prop :=
 xs.length = n * sz ∧ ((v = .slice none 0 0 ∧ n = 0 ∧ F = []) ∨
  ∃ g o cap cur e fz, v = .slice (some ⟨g, o, none⟩) n cap ∧ F = [g] ∧ w.heap[g]? = some (.cells cur e fz) ∧ n ≤ cap ∧ o + cap * sz ≤ cur.size ∧ (∀ j, j < cur.size → ¬ (fz.1 ≤ j ∧ j < fz.2)) ∧
   ∀ j u, xs[j]? = some u → cur[o + j]? = some u)
def slOwn {α : Type} (T : Ty α) (w : World) (F : List Nat) (v : Value) (l : List α) : Prop :=
 ∃ cs F1 F2, F = F1 ++ F2 ∧ Hp T.sz w F1 v l.length cs ∧ DG T w F2 l cs ∧ ∀ k ∈ F1, k ∉ F2
section
variable {α : Type} {T : Ty α} {w w' : World} {G G' F : List Nat} {v : Value} {l : List α}
theorem Cells.loc {ad : Addr} {cs : List Value} (h : Cells w ad cs) (hk : w'.heap[ad.block]? = w.heap[ad.block]?) : Cells w' ad cs := fun j u hu => by
 rw [UB (w := w) (by rw [block_add]; exact hk)]
 exact h j u hu
theorem Eu.loc (h : Eu T w G v l) (hk : ∀ k ∈ G, w'.heap[k]? = w.heap[k]?) : Eu T w' G v l := by
 obtain ⟨A, c, hv, hc, hi⟩ := h
 refine ⟨A, c, hv, hc, fun i x hx => ?_⟩
 obtain ⟨ad, cs, h1, h2, h3, h4⟩ := hi i x hx
 exact ⟨ad, cs, h1, h2, h3.loc (by rw [block_add]; exact hk _ h2), T.KI h4 hk⟩
theorem Eu.mono (h : Eu T w G v l) (hk : ∀ k ∈ G, k ∈ G') : Eu T w G' v l := by
 obtain ⟨A, c, hv, hc, hi⟩ := h
 refine ⟨A, c, hv, hc, fun i x hx => ?_⟩
 obtain ⟨ad, cs, h1, h2, h3, h4⟩ := hi i x hx
 exact ⟨ad, cs, h1, hk _ h2, h3, T.FA h4 hk⟩
theorem DG.loc : ∀ {F : List Nat} {l : List α} {cs : List Value}, DG T w F l cs → (∀ k ∈ F, w'.heap[k]? = w.heap[k]?) → DG T w' F l cs
 | _, [], _, h, _ => h
 | _, x :: l, _, ⟨c, d, F1, F2, e1, e2, h1, h2, hd⟩, hk => ⟨c, d, F1, F2, e1, e2, T.IC h1 (fun k h => hk k (by simp [e2, h])), DG.loc h2 (fun k h => hk k (by simp [e2, h])), hd⟩
theorem DG.lt : ∀ {F : List Nat} {l : List α} {cs : List Value}, DG T w F l cs → ∀ k ∈ F, k < w.heap.size
 | _, [], _, h, k, hk => by rw [h.2] at hk; cases hk
 | _, x :: l, _, ⟨c, d, F1, F2, e1, e2, h1, h2, hd⟩, k, hk => by
  rw [e2, Amc] at hk
  rcases hk with hk | hk
  ·exact T.JL h1 k hk
  ·exact DG.lt h2 k hk
theorem DG.len : ∀ {F : List Nat} {l : List α} {cs : List Value}, DG T w F l cs → cs.length = l.length * T.sz
 | _, [], _, h => by rw [h.1]; simp
 | _, x :: l, _, ⟨c, d, F1, F2, e1, e2, h1, h2, hd⟩ => by
  rw [e1, Ama, T.FZ (T.BO h1), h2.len, Amk, Nat.add_mul]; omega
theorem DG.at_ : ∀ {F : List Nat} {l : List α} {cs : List Value}, DG T w F l cs → ∀ i x, l[i]? = some x → ∃ c F1, T.own w F1 x c ∧ (∀ k ∈ F1, k ∈ F) ∧ ∀ j u, c[j]? = some u → cs[i * T.sz + j]? = some u
 | _, [], _, _, i, x, hx => by simp at hx
 | _, y :: l, _, ⟨c, d, F1, F2, e1, e2, h1, h2, hd⟩, 0, x, hx => by
  simp only [List.getElem?_cons_zero, Option.some.injEq] at hx
  subst hx
  refine ⟨c, F1, h1, fun k hk => by simp [e2, hk], fun j u hu => ?_⟩
  rw [e1, Nat.zero_mul, Nat.zero_add, List.getElem?_append_left (List.getElem?_eq_some_iff.1 hu).1]
  exact hu
 | _, y :: l, _, ⟨c, d, F1, F2, e1, e2, h1, h2, hd⟩, i + 1, x, hx => by
  simp only [List.getElem?_cons_succ] at hx
  obtain ⟨c', F', h3, h4, h5⟩ := DG.at_ h2 i x hx
  refine ⟨c', F', h3, fun k hk => by simp [e2, h4 k hk], fun j u hu => ?_⟩
  have hl := T.FZ (T.BO h1)
  rw [e1, List.getElem?_append_right (by rw [hl, Nat.add_mul]; omega), ← h5 j u hu]
  congr 1
  rw [hl, Nat.add_mul]; omega
theorem DG.append : ∀ {F : List Nat} {l m : List α} {cs : List Value}, (∃ c d F1 F2, cs = c ++ d ∧ F = F1 ++ F2 ∧ DG T w F1 l c ∧ DG T w F2 m d ∧ ∀ k ∈ F1, k ∉ F2) → DG T w F (l ++ m) cs
 | _, [], m, _, ⟨c, d, F1, F2, e1, e2, h1, h2, hd⟩ => by
  obtain ⟨rfl, rfl⟩ := h1
  simp only [Amj] at e1 e2 ⊢
  subst e1 e2
  exact h2
 | _, x :: l, m, _, ⟨c, d, F1, F2, e1, e2, ⟨c1, c2, G1, G2, e3, e4, h3, h4, hd'⟩, h2, hd⟩ => by
  subst e1 e2 e3 e4
  refine ⟨c1, c2 ++ d, G1, G2 ++ F2, by simp, by simp, h3, DG.append ⟨c2, d, G2, F2, rfl, rfl, h4, h2, fun k hk => hd k (by simp [hk])⟩, fun k hk hk' => ?_⟩
  rw [Amc] at hk'
  rcases hk' with hk' | hk'
  ·exact hd' k hk hk'
  ·exact hd k (by simp [hk]) hk'
theorem DG.one {x : α} {cs : List Value} (h : T.own w F x cs) : DG T w F [x] cs := ⟨cs, [], F, [], by simp, by simp, h, ⟨rfl, rfl⟩, by simp⟩
theorem Hp.loc {sz n : Nat} {xs : List Value} (h : Hp sz w F v n xs) (hk : ∀ k ∈ F, w'.heap[k]? = w.heap[k]?) : Hp sz w' F v n xs := by
 refine ⟨h.1, ?_⟩
 rcases h.2 with h2 | ⟨g, o, cap, cur, e, fz, h1, h2, h3, h4⟩
 ·exact .inl h2
 ·exact .inr ⟨g, o, cap, cur, e, fz, h1, h2, by rw [hk g (by simp [h2])]; exact h3, h4⟩
theorem Hp.lt {sz n : Nat} {xs : List Value} (h : Hp sz w F v n xs) : ∀ k ∈ F, k < w.heap.size := by
 intro k hk
 rcases h.2 with ⟨_, _, h2⟩ | ⟨g, o, cap, cur, e, fz, h1, h2, h3, h4⟩
 ·rw [h2] at hk; cases hk
 ·rw [h2, Amd] at hk; subst hk; exact GT h3
theorem Hp.cells {sz n : Nat} {xs : List Value} (h : Hp sz w F v n xs) : ∃ A c, v = .slice A n c ∧ n ≤ c ∧ ∀ j u, xs[j]? = some u → ∃ ad, A = some ad ∧ ad.block ∈ F ∧ w.cell? (ad.add j) = some u := by
 rcases h.2 with ⟨h1, h2, _⟩ | ⟨g, o, cap, cur, e, fz, h1, h2, h3, h4, h5, h6, h7⟩
 ·subst h2
  have hx : xs = [] := List.eq_nil_of_length_eq_zero (by simpa using h.1)
  subst hx
  exact ⟨none, 0, h1, Nat.le_refl _, fun j u hu => by simp at hu⟩
 ·exact ⟨_, cap, h1, h4, fun j u hu => ⟨_, rfl, by simp [h2], by rw [J0]; simp [World.cell?, h3, h7 j u hu]⟩⟩
theorem slOwn.loc (h : slOwn T w F v l) (hk : ∀ k ∈ F, w'.heap[k]? = w.heap[k]?) : slOwn T w' F v l := by
 obtain ⟨cs, F1, F2, e, h1, h2, hd⟩ := h
 exact ⟨cs, F1, F2, e, h1.loc (fun k h => hk k (by simp [e, h])), h2.loc (fun k h => hk k (by simp [e, h])), hd⟩
theorem slOwn.lt (h : slOwn T w F v l) : ∀ k ∈ F, k < w.heap.size := by
 obtain ⟨cs, F1, F2, e, h1, h2, hd⟩ := h
 intro k hk
 rw [e, Amc] at hk
 rcases hk with hk | hk
 ·exact h1.lt k hk
 ·exact h2.lt k hk
theorem slOwn.rd (h : slOwn T w F v l) : Eu T w F v l := by
 obtain ⟨cs, F1, F2, e, h1, h2, hd⟩ := h
 obtain ⟨A, c, hv, hc, hcell⟩ := h1.cells
 refine ⟨A, c, hv, hc, fun i x hx => ?_⟩
 obtain ⟨c', F', h3, h4, h5⟩ := h2.at_ i x hx
 have hl := T.FZ (T.BO h3)
 have hil : i < l.length := (List.getElem?_eq_some_iff.1 hx).1
 rcases Nat.eq_zero_or_pos T.sz with hz | hz
 ·-- no cells: any address of the row
  rw [hz] at hl
  have : c' = [] := List.eq_nil_of_length_eq_zero hl
  subst this
  rcases h1.2 with ⟨_, h0, _⟩ | ⟨g, o, cap, cur, e', fz, g1, g2, g3, g4, g5, g6, g7⟩
  ·omega
  ·have : A = some ⟨g, o, none⟩ := by rw [g1] at hv; injection hv with hv; exact hv.symm
   exact ⟨_, [], this, by simp [e, g2], fun j u hu => by simp at hu, T.FA (T.BO h3) (fun k hk => by simp [e, h4 k hk])⟩
 ·have h0 : 0 < c'.length := by omega
  obtain ⟨ad, had, hb, _⟩ := hcell (i * T.sz + 0) (c'[0]) (h5 0 _ (Al9 h0))
  refine ⟨ad, c', had, by simp [e, hb], fun j u hu => ?_, T.FA (T.BO h3) (fun k hk => by simp [e, h4 k hk])⟩
  obtain ⟨ad', had', _, hc'⟩ := hcell (i * T.sz + j) u (h5 j u hu)
  rw [had] at had'
  cases had'
  rw [add_add']
  exact hc'
theorem slOwn.nil (w : World) : slOwn T w [] (.slice none 0 0) [] := ⟨[], [], [], rfl, ⟨by simp, .inl ⟨rfl, rfl, rfl⟩⟩, ⟨rfl, rfl⟩, by simp⟩
end
def Ty.slice {α : Type} (T : Ty α) : Ty (List α) where
 sz := 1
 rd w G l cs := ∃ v, cs = [v] ∧ Eu T w G v l
 own w F l cs := ∃ v, cs = [v] ∧ slOwn T w F v l
 FZ := by rintro w G l cs ⟨v, rfl, h⟩; rfl
 KG := by
  rintro w G l cs ⟨v, rfl, A, c, rfl, _⟩ u hu
  rw [Amd] at hu
  rw [hu]
  rfl
 KI := by rintro w w' G l cs ⟨v, rfl, h⟩ hk; exact ⟨v, rfl, h.loc hk⟩
 FA := by rintro w G G' l cs ⟨v, rfl, h⟩ hk; exact ⟨v, rfl, h.mono hk⟩
 IC := by rintro w w' F l cs ⟨v, rfl, h⟩ hk; exact ⟨v, rfl, h.loc hk⟩
 JL := by rintro w F l cs ⟨v, rfl, h⟩; exact h.lt
 BO := by rintro w F l cs ⟨v, rfl, h⟩; exact ⟨v, rfl, h.rd⟩
def Sl {α : Type} (T : Ty α) (v : Value) (l : List α) : Ck := ⟨fun w F => slOwn T w F v l, fun h hk => h.loc hk, fun h => h.lt⟩
def AB (g : Nat) (t : TypeId) (cs : List Value) : Ck := ⟨fun w F => F = [g] ∧ w.heap[g]? = some (.cells cs.toArray t (0, 0)), fun h hk => ⟨h.1, by rw [hk g (by simp [h.1])]; exact h.2⟩,
 fun h k hk => by rw [h.1, Amd] at hk; subst hk; exact GT h.2⟩
def Dt {α : Type} (T : Ty α) (x : α) (cs : List Value) : Ck := ⟨fun w F => T.own w F x cs, fun h hk => T.IC h hk, fun h => T.JL h⟩
def Rd {α : Type} (T : Ty α) (w0 : World) (F0 : List Nat) (v : Value) (l : List α) : Prop := ∃ G, Eu T w0 G v l ∧ ∀ k ∈ G, k < w0.heap.size ∧ k ∉ F0
section
variable {α : Type} {T : Ty α} {w0 w w' : World} {F0 F : List Nat} {v : Value} {l : List α} {ps rest : List Ck}
theorem Rd.now (h : Rd T w0 F0 v l) (hs : SL w0 F0 w ps) : ∃ G, Eu T w G v l ∧ ∀ k ∈ G, k < w0.heap.size ∧ k ∉ F0 := by
 obtain ⟨G, h1, h2⟩ := h
 exact ⟨G, h1.loc (fun k hk => hs.fm.block k (h2 k hk).1 (h2 k hk).2), h2⟩
theorem Rd.pass (h : Rd T w0 F0 v l) (hs : SL w0 F0 w ps) (hF : ∀ k ∈ F, k ∈ F0 ∨ w0.heap.size ≤ k) : Rd T w F v l := by
 obtain ⟨G, h1, h2⟩ := h.now hs
 refine ⟨G, h1, fun k hk => ⟨Nat.lt_of_lt_of_le (h2 k hk).1 hs.fm.size, fun hin => ?_⟩⟩
 rcases hF k hin with h3 | h3
 ·exact (h2 k hk).2 h3
 ·have := (h2 k hk).1; omega
theorem Rd.Bp (h : Rd T w0 F0 v l) (hs : SL w0 F0 w ps) : Rd T w [] v l := h.pass hs (by simp)
theorem Ij : ∀ {ps : List Ck} {p : Ck} {w : World} {F : List Nat}, p ∈ ps → Ba ps w F → ∃ G, p.P w G ∧ ∀ k ∈ G, k ∈ F
 | q :: ps, p, w, F, hm, ⟨F1, F2, e, h1, h2, hd⟩ => by
  rcases List.mem_cons.1 hm with rfl | hm
  ·exact ⟨F1, h1, fun k hk => by simp [e, hk]⟩
  ·obtain ⟨G, h3, h4⟩ := Ij hm h2
   exact ⟨G, h3, fun k hk => by simp [e, h4 k hk]⟩
theorem SL.BO (hs : SL w0 F0 w ps) (hm : Sl T v l ∈ ps) : ∃ G, Eu T w G v l := by
 obtain ⟨F, h1, _⟩ := hs.st
 obtain ⟨G, h3, _⟩ := Ij hm h1
 exact ⟨G, slOwn.rd h3⟩
theorem N2 (hm : Sl T v l ∈ rest) (hG : ∃ G, Ba rest w G ∧ ∀ k ∈ F, k ∉ G) : Rd T w F v l := by
 obtain ⟨G, h1, h2⟩ := hG
 obtain ⟨G', h3, h4⟩ := Ij hm h1
 have h5 : slOwn T w G' v l := h3
 exact ⟨G', h5.rd, fun k hk => ⟨h5.lt k hk, fun hin => h2 k hin (h4 k hk)⟩⟩
theorem SL.rd0 (hs : SL w0 F0 w ps) (hm : Sl T v l ∈ ps) : Rd T w [] v l := by
 obtain ⟨F, h1, _⟩ := hs.st
 exact N2 hm ⟨F, h1, by simp⟩
end
end Go.Pv
namespace Go.Pv
open Go Go.RowKit
def Ey (P : Program) (t e sz bytes : Nat) (z : Value → Bool) : Bool :=
 match P.underlying t, P.info? e with
 | some (.slice e'), some i => e' == e && i.size == sz && i.bytes == bytes && (match i.zero with | some v => z v | none => false) && !(match P.underlying t with | some (.int _) => true | _ => false)
 | _, _ => false
def Hd (P : Program) (t : Nat) : Bool := match P.underlying t with | some (.struct _) | some (.array _ _) => false | some _ => true | none => false
def Gf (P : Program) (t n : Nat) : Bool := match P.underlying t, P.info? t with | some (.struct _), some i | some (.array _ _), some i => i.size == n | _, _ => false
def PK (P : Program) (s f off sz : Nat) : Bool := match P.underlying s with
 | some (.struct fs) => match fs[f]? with
  | some fd => fd.offset == off && sz != 0 && (match P.info? fd.type with | some i => i.size == sz | none => false)
  | none => false
 | _ => false
theorem GX {P : Program} {t e sz bytes : Nat} {z : Value → Bool} (h : Ey P t e sz bytes z = true) : P.underlying t = some (.slice e) ∧ ∃ i v, P.info? e = some i ∧ i.size = sz ∧ i.bytes = bytes ∧ i.zero = some v ∧ z v = true := by
 unfold Ey at h
 split at h
 ·rename_i e' i h1 h2
  simp only [Amm, AG] at h
  obtain ⟨⟨⟨⟨rfl, h3⟩, h4⟩, h5⟩, _⟩ := h
  split at h5
  ·rename_i v hv
   exact ⟨h1, i, v, h2, h3, h4, hv, h5⟩
  ·cases h5
 ·cases h
theorem Ra {P : Program} {t : Nat} (h : Hd P t = true) (w : World) : (isAgg t).run P w = .ok false w := by
 unfold Hd at h
 rcases hu : P.underlying t with _ | u
 ·rw [hu] at h; cases h
 ·rw [hu] at h
  unfold isAgg
  simp only [Sem.run_bind, run_underlying hu, Result.andThen_ok]
  cases u <;> first | rfl | (simp at h)
theorem Pk {P : Program} {t n : Nat} (h : Gf P t n = true) (w : World) : (isAgg t).run P w = .ok true w ∧ (sizeOf t).run P w = .ok n w := by
 unfold Gf at h
 split at h
 ·rename_i fs i h1 h2
  exact ⟨by simp [isAgg, run_underlying h1], by simp [sizeOf, typeInfo, h2, AG.1 h]⟩
 ·rename_i k e i h1 h2
  exact ⟨by simp [isAgg, run_underlying h1], by simp [sizeOf, typeInfo, h2, AG.1 h]⟩
 ·cases h
theorem Aey {P : Program} {s f off sz : Nat} (h : PK P s f off sz = true) : ∃ fs fd i, P.underlying s = some (.struct fs) ∧ fs[f]? = some fd ∧ fd.offset = off ∧ P.info? fd.type = some i ∧ i.size = sz ∧ sz ≠ 0 := by
 unfold PK at h
 split at h
 ·rename_i fs h1
  split at h
  ·rename_i fd h2
   simp only [Amm, AG, AN] at h
   obtain ⟨⟨h3, h4⟩, h5⟩ := h
   split at h5
   ·rename_i i h6
    exact ⟨fs, fd, i, h1, h2, h3, h6, AG.1 h5, h4⟩
   ·cases h5
  ·cases h
 ·cases h
section
variable {P : Program} {w : World} {m : List (Nat × Value)} {dd : Option Tmp} {ty : TypeId} {pos : String} {aft : Array Edge} {g : Option (Nat × Bool)} {x y : Operand}
theorem Io {t e : TypeId} {v : Value} {n : Nat} (hx : ev m x = some v) (ht : P.underlying t = some (.slice e)) (hv : ∃ A c, v = .slice A n c) :
  EX P w m ⟨dd, .call { callee := .builtin .len, args := #[x], argTypes := #[t] }, ty, pos, aft, g⟩ (.int .i64 (n : Int)) w := fun a _ hF => by
 obtain ⟨A, c, rfl⟩ := hv
 simp [execOp, resolve, invoke, builtin, hF.eval hx, Builtin.len_, run_underlying ht, goInt]
theorem Qf {t : TypeId} {s : List UInt8} (hx : ev m x = some (.string ⟨⟨s⟩⟩)) (ht : P.underlying t = some .string) :
  EX P w m ⟨dd, .call { callee := .builtin .len, args := #[x], argTypes := #[t] }, ty, pos, aft, g⟩ (.int .i64 (s.length : Int)) w := fun a _ hF => by
 simp [execOp, resolve, invoke, builtin, hF.eval hx, Builtin.len_, run_underlying ht, goInt]
 rfl
theorem ZZ {ts : Array TypeId} {k : IntKind} {p q : Int} (hx : ev m x = some (.int k p)) (hy : ev m y = some (.int k q)) :
  EX P w m ⟨dd, .call { callee := .builtin .min, args := #[x, y], argTypes := ts }, ty, pos, aft, g⟩ (.int k (if q < p then q else p)) w := fun a _ hF => by
 simp [execOp, resolve, invoke, builtin, hF.eval hx, hF.eval hy, Builtin.min_, Builtin.min2]
theorem SQ {ts : Array TypeId} {k : IntKind} {p q : Int} (hx : ev m x = some (.int k p)) (hy : ev m y = some (.int k q)) :
  EX P w m ⟨dd, .call { callee := .builtin .max, args := #[x, y], argTypes := ts }, ty, pos, aft, g⟩ (.int k (if p < q then q else p)) w := fun a _ hF => by
 simp [execOp, resolve, invoke, builtin, hF.eval hx, hF.eval hy, Builtin.max_, Builtin.max2]
theorem Ke {s f off sz : Nat} {ad : Addr} (hb : PK P s f off sz = true) (hx : ev m x = some (.pointer (some ad))) :
  EX P w m ⟨dd, .fieldAddr s x f, ty, pos, aft, g⟩ (.pointer (some (ad.add off))) w := fun a _ hF => by
 obtain ⟨fs, fd, i, h1, h2, h3, h4, h5, h6⟩ := Aey hb
 subst h3 h5
 simp [execOp, hF.eval hx, Instr.fieldAt, run_underlying h1, h2, Instr.sureAddr, fieldPlace, sizeOf, typeInfo, h4, h6]
theorem Ajj {s f off sz gb o o' : Nat} (hb : PK P s f off sz = true) (hx : ev m x = some (.pointer (some ⟨gb, o, none⟩))) (ho : o + off = o') :
  EX P w m ⟨dd, .fieldAddr s x f, ty, pos, aft, g⟩ (.pointer (some ⟨gb, o', none⟩)) w := by
 have := Ke (w := w) (dd := dd) (ty := ty) (pos := pos) (aft := aft) (g := g) hb hx
 rw [J0, ho] at this
 exact this
theorem Ce {t : TypeId} {ad : Addr} {u : Value} (hb : Hd P t = true) (hx : ev m x = some (.pointer (some ad))) (hc : w.cell? ad = some u) :
  EX P w m ⟨dd, .load t x, ty, pos, aft, g⟩ u w := fun a _ hF => by
 simp [execOp, hF.eval hx, Instr.loadAt, Instr.sureAddr, loadVar, Ra hb, load, Sem.run, hc]
theorem Iu {t n : Nat} {ad : Addr} {cs : List Value} (hb : Gf P t n = true) (hx : ev m x = some (.pointer (some ad))) (hc : Cells w ad cs) (hl : cs.length = n) :
  EX P w m ⟨dd, .load t x, ty, pos, aft, g⟩ (.agg ⟨cs⟩) w := fun a _ hF => by
 subst hl
 have h1 := run_loadCells_list (P := P) w ad cs hc
 simp only [execOp, hF.eval hx]
 simp [Instr.loadAt, Instr.sureAddr, loadVar, Pk hb, h1]
theorem Cells.at_ {ad : Addr} {cs : List Value} (h : Cells w ad cs) {o : Nat} {u : Value} (hu : cs[o]? = some u) : w.cell? (ad.add o) = some u := h o u hu
theorem Cells.sub {ad : Addr} {cs ds : List Value} (h : Cells w ad cs) (o : Nat) (hd : ∀ j u, ds[j]? = some u → cs[o + j]? = some u) : Cells w (ad.add o) ds := fun j u hu => by
 rw [add_add']; exact h _ _ (hd j u hu)
def Pg (P : Program) (t : TypeId) (v : Value) (i : Int) (ad : Addr) : Prop :=
 ∀ (w : World) (m : List (Nat × Value)) (x y : Operand) (k : IntKind) (dd : Option Tmp) (ty : TypeId) (pos : String) (aft : Array Edge) (g : Option (Nat × Bool)), ev m x = some v → ev m y = some (.int k i) →
  EX P w m ⟨dd, .indexAddr t x y, ty, pos, aft, g⟩ (.pointer (some ad)) w
def idx {α : Type} (l : List α) (i : Int) : Option α := if 0 ≤ i then l[i.toNat]? else none
theorem Dd {α : Type} {l : List α} {i : Int} {x : α} (h : idx l i = some x) : 0 ≤ i ∧ i < l.length ∧ l[i.toNat]? = some x := by
 unfold idx at h
 split at h
 ·have := (List.getElem?_eq_some_iff.1 h).1
  exact ⟨by omega, by omega, h⟩
 ·cases h
theorem Vd {α : Type} {T : Ty α} {G : List Nat} {v : Value} {l : List α} {t e sz bytes : Nat} {z : Value → Bool} {i : Int} {x : α} (h : Eu T w G v l) (hb : Ey P t e sz bytes z = true) (hz : T.sz = sz)
  (hx : idx l i = some x) : ∃ ad cs, Pg P t v i ad ∧ Cells w ad cs ∧ T.rd w G x cs ∧ ad.block ∈ G := by
 obtain ⟨h0, h1, h2⟩ := Dd hx
 obtain ⟨A, c, rfl, hc, hi⟩ := h
 obtain ⟨ad, cs, rfl, hG, h3, h4⟩ := hi _ x h2
 obtain ⟨hu, ti, zv, h5, h6, _⟩ := GX hb
 refine ⟨ad.add (i.toNat * T.sz), cs, fun w m x y k dd ty pos aft g hx hy a _ hF => ?_, h3, h4, by rw [block_add]; exact hG⟩
 have e1 : (0 ≤ i ∧ i < (l.length : Int)) := ⟨h0, h1⟩
 simp [execOp, hF.eval hx, hF.eval hy, Instr.indexAt, asIntOf, run_underlying hu, e1, sizeOf, typeInfo, h5, h6, hz]
def GZ {α : Type} (l : List α) (lo hi : Int) : Option (List α) := if 0 ≤ lo ∧ lo ≤ hi ∧ hi ≤ l.length then some ((l.take hi.toNat).drop lo.toNat) else none
theorem Px {α : Type} {l r : List α} {lo hi : Int} (h : GZ l lo hi = some r) : (0 ≤ lo ∧ lo ≤ hi ∧ hi ≤ l.length) ∧ r = (l.take hi.toNat).drop lo.toNat := by
 unfold GZ at h
 split at h
 ·rename_i h1; cases h; exact ⟨h1, rfl⟩
 ·cases h
def ScA (P : Program) (t : TypeId) (v : Value) (lo hi : Option Int) (v' : Value) : Prop :=
 ∀ (w : World) (m : List (Nat × Value)) (x : Operand) (l h : Option Operand) (k k' : IntKind) (dd : Option Tmp) (ty : TypeId) (pos : String) (aft : Array Edge) (g : Option (Nat × Bool)), ev m x = some v →
  (match l, lo with | none, none => True | some y, some p => ev m y = some (.int k p) | _, _ => False) → (match h, hi with | none, none => True | some y, some p => ev m y = some (.int k' p) | _, _ => False) →
  EX P w m ⟨dd, .slice t x l h none, ty, pos, aft, g⟩ v' w
theorem Wp {t e : TypeId} {ti : TypeInfo} {A : Option Addr} {n c : Nat} {lo hi : Int} {l h : Option Value} (ht : P.underlying t = some (.slice e)) (hi' : P.info? e = some ti) (h0 : 0 ≤ lo) (h1 : lo ≤ hi) (h2 : hi ≤ n) (h3 : n ≤ c)
  (hl : (l = none ∧ lo = 0) ∨ ∃ k, l = some (.int k lo)) (hh : (h = none ∧ hi = n) ∨ ∃ k, h = some (.int k hi)) :
  (Instr.sliceAt t (.slice A n c) l h none).run P w = .ok (.slice (if c = lo.toNat then A else A.map (·.add (lo.toNat * ti.size))) (hi.toNat - lo.toNat) (c - lo.toNat)) w := by
 have e1 : (0 ≤ hi ∧ hi ≤ (c : Int)) := by omega
 have e2 : (0 ≤ lo ∧ lo ≤ hi) := by omega
 have e3 : ((hi.toNat : Nat) : Int) = hi := by omega
 have e4 : (0 ≤ lo ∧ lo ≤ ((hi.toNat : Nat) : Int)) := by omega
 have e5 : ¬ (max hi 0 < lo) := by omega
 rcases hl with ⟨rfl, rfl⟩ | ⟨k, rfl⟩ <;> rcases hh with ⟨rfl, rfl⟩ | ⟨k', rfl⟩ <;>
  simp [Instr.sliceAt, Instr.slice, run_underlying ht, Instr.sliceBounds, Instr.sliceBound, asIntOf, sizeOf, typeInfo, hi', e1, e2, e4, e5, h0, h1, h2]
theorem Y2 {α : Type} {T : Ty α} {G : List Nat} {v : Value} {l r : List α} {t e sz bytes : Nat} {z : Value → Bool} {lo hi : Int} (h : Eu T w G v l) (hb : Ey P t e sz bytes z = true) (hz : T.sz = sz) (hr : GZ l lo hi = some r)
  (lo' hi' : Option Int) (hlo : lo' = some lo ∨ (lo' = none ∧ lo = 0)) (hhi : hi' = some hi ∨ (hi' = none ∧ hi = l.length)) :
  ∃ v', ScA P t v lo' hi' v' ∧ ∀ w1 G1, Eu T w1 G1 v l → Eu T w1 G1 v' r := by
 obtain ⟨⟨h0, h1, h2⟩, rfl⟩ := Px hr
 obtain ⟨A, c, rfl, hc, _⟩ := h
 obtain ⟨hu, ti, zv, h5, h6, _⟩ := GX hb
 refine ⟨.slice (if c = lo.toNat then A else A.map (·.add (lo.toNat * ti.size))) (hi.toNat - lo.toNat) (c - lo.toNat), fun w m x l' h' k k' dd ty pos aft g hx hl' hh' a _ hF => ?_, fun w1 G1 h => ?_⟩
 ·have hL : (l'.map a.eval = none ∧ lo = 0) ∨ ∃ k, l'.map a.eval = some (.int k lo) := by
   rcases hlo with rfl | ⟨rfl, rfl⟩
   ·cases l' with
    | none => exact hl'.elim
    | some y => exact .inr ⟨k, by rw [Al7, hF.eval hl']⟩
   ·cases l' with
    | none => exact .inl ⟨rfl, rfl⟩
    | some y => exact hl'.elim
  have hH : (h'.map a.eval = none ∧ hi = l.length) ∨ ∃ k, h'.map a.eval = some (.int k hi) := by
   rcases hhi with rfl | ⟨rfl, rfl⟩
   ·cases h' with
    | none => exact hh'.elim
    | some y => exact .inr ⟨k', by rw [Al7, hF.eval hh']⟩
   ·cases h' with
    | none => exact .inl ⟨rfl, rfl⟩
    | some y => exact hh'.elim
  have := Wp (P := P) (w := w) (A := A) (c := c) hu h5 h0 h1 h2 hc hL hH
  simp only [execOp, hF.eval hx, Option.map_none]
  simp [this]
 ·obtain ⟨A', c', hv, hc', hcell⟩ := h
  injection hv with hA hn T8
  subst hA T8
  refine ⟨_, _, by congr 1; simp; omega, by simp; omega, fun i x hx => ?_⟩
  rw [List.getElem?_drop, List.getElem?_take] at hx
  split at hx
  ·rename_i hlt
   obtain ⟨ad, cs, rfl, hG, h3, h4⟩ := hcell _ x hx
   have hil := (List.getElem?_eq_some_iff.1 hx).1
   rw [Ay (by omega)]
   refine ⟨_, cs, rfl, by rw [block_add]; exact hG, ?_, h4⟩
   rw [add_add', h6, ← hz, ← Nat.add_mul]
   exact h3
  ·cases hx
end
end Go.Pv
namespace Go.Pv
open Go Go.RowKit
section
variable {P : Program}
theorem Ho (g o : Nat) (t : TypeId) (fz : Nat × Nat) : ∀ (vs : List Value) (i : Nat) (cur : Array Value) (w : World), w.heap[g]? = some (.cells cur t fz) → (∀ j, j < cur.size → ¬ (fz.1 ≤ j ∧ j < fz.2)) → o + i + vs.length ≤ cur.size → (∀ v ∈ vs, v.oneCell' = true) →
  (storeCells ⟨g, o, none⟩ vs i).run P w = .ok () (w.setRow g (cur.toList.take (o + i) ++ vs ++ cur.toList.drop (o + i + vs.length)).toArray)
 | [], i, cur, w, hg, _, _, _ => by
  simp only [storeCells, Ami, List.length_nil, Nat.add_zero, List.take_append_drop, Array.toArray_toList]
  rw [setRow_self w g cur t fz hg]
  rfl
 | v :: rest, i, cur, w, hg, hz, hl, h1 => by
  have hi : o + i < cur.size := by simp at hl; omega
  have hadd : (⟨g, o, none⟩ : Addr).add i = ⟨g, o + i, none⟩ := J0 g o i
  have hcell : w.cell? ⟨g, o + i, none⟩ = some cur[o + i] := by simp [World.cell?, hg, hi]
  have hfro : w.frozen? ⟨g, o + i, none⟩ = false := by
   have := hz _ hi
   simp [World.frozen?, hg]
   omega
  have hst : (store ((⟨g, o, none⟩ : Addr).add i) v).run P w = .ok () (w.setRow g (cur.setIfInBounds (o + i) v)) := by
   rw [hadd, run_store P w _ v _ (h1 v (by simp)), hcell]
   simp [hfro, setCell_eq_setRow w g (o + i) cur t fz v hg]
  have ih := Ho g o t fz rest (i + 1) (cur.setIfInBounds (o + i) v) (w.setRow g (cur.setIfInBounds (o + i) v)) (setRow_heap w g cur _ t _ hg) (by simpa using hz) (by simp at hl ⊢; omega) (fun x hx => h1 x (by simp [hx]))
  simp only [storeCells, Sem.run_bind, hst, Result.andThen_ok, ih, setRow_setRow]
  congr 3
  have e := list_seg_step cur.toList (o + i) v rest (by simp at hl ⊢; omega)
  simpa [Array.toList_setIfInBounds, Nat.add_assoc] using e
def Qc (w : World) (A : Option Addr) (xs : List Value) : Prop := ∀ j u, xs[j]? = some u → ∃ ad, A = some ad ∧ w.cell? (ad.add j) = some u
theorem Qc.none_ {w : World} {xs : List Value} (h : Qc w none xs) : xs = [] := by
 cases xs with
 | nil => rfl
 | cons x l => obtain ⟨ad, h1, _⟩ := h 0 x rfl; cases h1
theorem Qc.some_ {w : World} {ad : Addr} {xs : List Value} (h : Qc w (some ad) xs) : ∀ j u, xs[j]? = some u → w.cell? (ad.add j) = some u := fun j u hu => by
 obtain ⟨ad', h1, h2⟩ := h j u hu
 cases h1
 exact h2
theorem Zb {l news : List Value} {o n : Nat} {xs : List Value} (hx : xs.length = n) (h : ∀ j u, xs[j]? = some u → l[o + j]? = some u) (hfit : o + n + news.length ≤ l.length) :
  ∀ j u, (xs ++ news)[j]? = some u → (l.take (o + n) ++ news ++ l.drop (o + n + news.length))[o + j]? = some u := by
 intro j u hu
 rw [Aml]
 by_cases hj : j < n
 ·rw [List.getElem?_append_left (by omega)] at hu
  rw [List.getElem?_append_left (by simp; omega), List.getElem?_take, A1 (by omega)]
  exact h j u hu
 ·rw [List.getElem?_append_right (by omega), hx] at hu
  have hlt := (List.getElem?_eq_some_iff.1 hu).1
  rw [List.getElem?_append_right (by simp; omega), List.getElem?_append_left (by simp; omega)]
  rw [← hu]
  congr 1
  simp
  omega
theorem PP {w : World} {t e sz bytes ty : Nat} {z : Value → Bool} (hb : Ey P t e sz bytes z = true) (hz : ∀ v, z v = true → v.cells.size = sz) (hsz : 0 < sz)
  {F : List Nat} {v : Value} {n : Nat} {xs : List Value} (h : Hp sz w F v n xs) {A : Option Addr} {m c : Nat} {news : List Value} (hl : news.length = m * sz) (hnews : Qc w A news) (h1 : ∀ u ∈ news, u.oneCell' = true)
  (hbytes : (n + m) * bytes ≤ 140737488355328) (h63 : n + m ≤ 9223372036854775807) :
  ∃ v' w' F', (Builtin.append_ #[t, t] ty #[v, .slice A m c]).run P w = .ok v' w' ∧ Hp sz w' F' v' (n + m) (xs ++ news) ∧ Fm w F w' ∧ (∀ k ∈ F', k ∈ F ∨ w.heap.size ≤ k) := by
 obtain ⟨ht, i, zv, hi, h2, h3, h4, h5⟩ := GX hb
 have hzs := hz _ h5
 subst h2 h3
 have hlen : (xs ++ news).length = (n + m) * i.size := by rw [Ama, h.1, hl, Nat.add_mul]
 -- what the growing arm leaves, whatever was there before
 have grown : ∀ (old : Nat), old < n + m → ∀ F : List Nat,
   Hp i.size (w.drew.alloc (.cells (xs.toArray ++ news.toArray ++ Builtin.zeroCells zv.cells (grownCap w (n + m) old e - (n + m))) e)) [w.heap.size]
    (.slice (some ⟨w.heap.size, 0, none⟩) (n + m) (grownCap w (n + m) old e)) (n + m) (xs ++ news) ∧
   Fm w F (w.drew.alloc (.cells (xs.toArray ++ news.toArray ++ Builtin.zeroCells zv.cells (grownCap w (n + m) old e - (n + m))) e)) := by
  intro old ho F
  have hge := grownCap_ge w (n + m) old e
  refine ⟨⟨hlen, .inr ⟨w.heap.size, 0, _, _, e, (0, 0), rfl, rfl, heap_alloc_new w.drew _, hge, ?_, by simp, ?_⟩⟩, (Fm.drew w F).trans (Fm.alloc _ F _) (fun k hk => .inl hk)⟩
  ·simp only [Array.size_append, List.size_toArray, size_zeroCells, hzs, h.1, hl, ← Nat.add_mul, Nat.zero_add]
   exact Nat.mul_le_mul_right _ (by omega)
  ·intro j u hu
   have hj := (List.getElem?_eq_some_iff.1 hu).1
   rw [Nat.zero_add, Array.getElem?_append_left (by simpa using hj)]
   simpa using hu
 by_cases hm : m = 0
 ·subst hm
  have hn : news = [] := List.eq_nil_of_length_eq_zero (by simpa using hl)
  subst hn
  have hf : (Builtin.firstCells i.size 0 (.slice A 0 c)).run P w = .ok #[] w := by
   cases A <;> simp [Builtin.firstCells, loadCells, loadCellsFrom]
  have hcap : ∃ A' cap, v = .slice A' n cap ∧ n ≤ cap := by
   rcases h.2 with ⟨rfl, rfl, rfl⟩ | ⟨g, o, cap, cur, e', fz, rfl, rfl, hg, hnc, _⟩
   ·exact ⟨_, _, rfl, Nat.le_refl _⟩
   ·exact ⟨_, _, rfl, hnc⟩
  obtain ⟨A', cap, rfl, hnc⟩ := hcap
  refine ⟨.slice A' n cap, w, F, ?_, by simpa using h, Fm.refl w F, fun k hk => .inl hk⟩
  cases A' <;> simp [Builtin.append_, run_underlying ht, sizeOf, typeInfo, hi, Builtin.lenOf, hf, hnc, storeCells]
 ·have hA : ∃ ad, A = some ad := by
   cases A with
   | some ad => exact ⟨ad, rfl⟩
   | none =>
    have hn := hnews.none_
    rw [hn] at hl
    have : 0 < m * i.size := Nat.mul_pos (by omega) hsz
    simp at hl
    omega
  obtain ⟨a, rfl⟩ := hA
  have hnews := hnews.some_
  rcases h.2 with ⟨rfl, rfl, rfl⟩ | ⟨g, o, cap, cur, e', fz, rfl, rfl, hg, hnc, hoc, hfz, htake⟩
  ·have hx : xs = [] := List.eq_nil_of_length_eq_zero (by simpa using h.1)
   subst hx
   have hr := run_append_nil (P := P) w t ty e i zv ht hi h4 a m c news hl hnews (by omega) (by omega) (by simp only [Nat.zero_add] at hbytes; omega)
   have hgr := grown 0 (by omega) []
   simp only [Nat.zero_add, Amj, Array.empty_append] at hgr ⊢
   exact ⟨_, _, _, hr, hgr.1, hgr.2, by simp⟩
  ·by_cases hroom : n + m ≤ cap
   ·have hfit : o + n * i.size + news.length ≤ cur.size := by
     have := Nat.mul_le_mul_right i.size hroom
     rw [Nat.add_mul, ← hl] at this
     omega
    have hst := Ho (P := P) g (o + n * i.size) e' fz news 0 cur w hg hfz (by simpa using hfit) h1
    simp only [Nat.add_zero] at hst
    have hf := run_firstCells_some (P := P) w i.size m a m c news hl hnews
    have hr : (Builtin.append_ #[t, t] ty #[Value.slice (some ⟨g, o, none⟩) n cap, .slice (some a) m c]).run P w =
      .ok (.slice (some ⟨g, o, none⟩) (n + m) cap) (w.setRow g (cur.toList.take (o + n * i.size) ++ news ++ cur.toList.drop (o + n * i.size + news.length)).toArray) := by
     simp [Builtin.append_, run_underlying ht, sizeOf, typeInfo, hi, Builtin.lenOf, hroom, hf, J0, hst]
    refine ⟨_, _, [g], hr, ⟨hlen, .inr ⟨g, o, cap, _, e', fz, rfl, rfl, setRow_heap w g cur _ e' _ hg, hroom, ?_, ?_, ?_⟩⟩,
     Fm.one rfl rfl rfl (by simp) (fun k hk => setRow_other w g k _ hk), fun k hk => .inl hk⟩
    ·simp only [List.size_toArray, Ama, Amb, List.length_drop, Array.length_toList]
     omega
    ·intro j hj
     apply hfz
     simp only [List.size_toArray, Ama, Amb, List.length_drop, Array.length_toList] at hj
     omega
    ·intro j u hu
     have := Zb (l := cur.toList) (o := o) h.1 (fun j u hu => by rw [Array.getElem?_toList]; exact htake j u hu) (by simpa using hfit) j u hu
     simpa using this
   ·have holds : ∀ j u, xs[j]? = some u → w.cell? ((⟨g, o, none⟩ : Addr).add j) = some u := fun j u hu => by rw [J0]; simp [World.cell?, hg, htake j u hu]
    have hr := run_append_grow (P := P) w t ty e i zv ht hi h4 ⟨g, o, none⟩ n cap xs h.1 holds a m c news hl hnews (by omega) (by omega) (growslice_fits (by omega) hbytes)
    have hgr := grown cap (by omega) [g]
    exact ⟨_, _, _, hr, hgr.1, hgr.2, fun k hk => .inr (by simp at hk; omega)⟩
end
structure Flat {α : Type} (T : Ty α) (enc : α → List Value) : Prop where
 rd : ∀ {w G x cs}, T.rd w G x cs ↔ cs = enc x
 own : ∀ {w F x cs}, T.own w F x cs ↔ cs = enc x ∧ F = []
theorem Flat.scalar {α : Type} (enc : α → Value) (h1 : ∀ x, (enc x).oneCell' = true) : Flat (Ty.scalar enc h1) (fun x => [enc x]) := ⟨Iff.rfl, Iff.rfl⟩
theorem Flat.iso {α β : Type} {A : Ty α} {enc : α → List Value} (h : Flat A enc) (f : β → α) : Flat (A.iso f) (fun x => enc (f x)) := ⟨h.rd, h.own⟩
theorem Flat.pair {α β : Type} {A : Ty α} {B : Ty β} {ea : α → List Value} {eb : β → List Value} (h : Flat A ea) (h' : Flat B eb) : Flat (A.pair B) (fun x => ea x.1 ++ eb x.2) := by
 refine ⟨?_, ?_⟩
 ·intro w G x cs
  constructor
  ·rintro ⟨c, d, rfl, h1, h2⟩; rw [h.rd.1 h1, h'.rd.1 h2]
  ·rintro rfl; exact ⟨_, _, rfl, h.rd.2 rfl, h'.rd.2 rfl⟩
 ·intro w F x cs
  constructor
  ·rintro ⟨c, d, F1, F2, rfl, rfl, h1, h2, hd⟩
   obtain ⟨rfl, rfl⟩ := h.own.1 h1
   obtain ⟨rfl, rfl⟩ := h'.own.1 h2
   exact ⟨rfl, rfl⟩
  ·rintro ⟨rfl, rfl⟩; exact ⟨_, _, [], [], rfl, rfl, h.own.2 ⟨rfl, rfl⟩, h'.own.2 ⟨rfl, rfl⟩, by simp⟩
theorem Flat.int (k : IntKind) : Flat (Ty.int k) (fun x => [.int k x]) := Flat.scalar _ _
theorem Flat.u8 : Flat Ty.u8 (fun x => [.int .u8 (x.toNat : Int)]) := Flat.scalar _ _
theorem Flat.bool : Flat Ty.bool (fun x => [.bool x]) := Flat.scalar _ _
theorem Flat.str : Flat Ty.str (fun x => [.string ⟨⟨x⟩⟩]) := Flat.scalar _ _
section
variable {α : Type} {T : Ty α} {enc : α → List Value}
theorem Flat.len (h : Flat T enc) (x : α) : (enc x).length = T.sz := T.FZ (w := default) (G := []) (h.rd.2 rfl)
theorem Flat.one (h : Flat T enc) (x : α) : ∀ u ∈ enc x, u.oneCell' = true := T.KG (w := default) (G := []) (h.rd.2 rfl)
theorem Flat.els (h : Flat T enc) {w : World} : ∀ {l : List α} {F : List Nat} {cs : List Value}, DG T w F l cs ↔ cs = l.flatMap enc ∧ F = []
 | [], F, cs => by simp [DG]
 | x :: l, F, cs => by
  constructor
  ·rintro ⟨c, d, F1, F2, rfl, rfl, h1, h2, hd⟩
   obtain ⟨rfl, rfl⟩ := h.own.1 h1
   obtain ⟨rfl, rfl⟩ := h.els.1 h2
   exact ⟨by simp, rfl⟩
  ·rintro ⟨rfl, rfl⟩
   exact ⟨enc x, l.flatMap enc, [], [], by simp, rfl, h.own.2 ⟨rfl, rfl⟩, h.els.2 ⟨rfl, rfl⟩, by simp⟩
theorem Flat.slOwn (h : Flat T enc) {w : World} {F : List Nat} {v : Value} {l : List α} : slOwn T w F v l ↔ Hp T.sz w F v l.length (l.flatMap enc) := by
 constructor
 ·rintro ⟨cs, F1, F2, rfl, h1, h2, hd⟩
  obtain ⟨rfl, rfl⟩ := h.els.1 h2
  simpa using h1
 ·intro h1
  exact ⟨_, F, [], by simp, h1, h.els.2 ⟨rfl, rfl⟩, by simp⟩
theorem KD (h : Flat T enc) (l : List α) : (l.flatMap enc).length = l.length * T.sz := by
 have := (h.els (w := default) (l := l) (F := [])).2 ⟨rfl, rfl⟩
 exact this.len
theorem Af1 (h : Flat T enc) (l : List α) : ∀ u ∈ l.flatMap enc, u.oneCell' = true := by
 intro u hu
 rw [List.mem_flatMap] at hu
 obtain ⟨x, _, hx⟩ := hu
 exact h.one x u hx
theorem ZV (h : Flat T enc) (l : List α) {j : Nat} {u : Value} (hu : (l.flatMap enc)[j]? = some u) (hsz : 0 < T.sz) : ∃ x, l[j / T.sz]? = some x ∧ (enc x)[j % T.sz]? = some u := by
 have hE := (h.els (w := default) (l := l) (F := [])).2 ⟨rfl, rfl⟩
 have hj := (List.getElem?_eq_some_iff.1 hu).1
 rw [KD h] at hj
 have hq : j / T.sz < l.length := Nat.div_lt_of_lt_mul (by rw [Nat.mul_comm]; exact hj)
 have hx := Al9 hq
 obtain ⟨c, F1, h1, _, h3⟩ := hE.at_ _ _ hx
 obtain ⟨rfl, _⟩ := h.own.1 h1
 refine ⟨_, hx, ?_⟩
 have hm : j % T.sz < (enc (l[j / T.sz])).length := by rw [h.len]; exact Nat.mod_lt _ hsz
 have h4 := h3 (j % T.sz) _ (Al9 hm)
 rw [show j / T.sz * T.sz + j % T.sz = j from by rw [Nat.mul_comm]; exact Nat.div_add_mod j T.sz] at h4
 rw [hu] at h4
 rw [Al9 hm, ← h4]
theorem Eu.cells (h : Flat T enc) (hsz : 0 < T.sz) {w : World} {G : List Nat} {v : Value} {l : List α} (hr : Eu T w G v l) : ∃ A c, v = .slice A l.length c ∧ Qc w A (l.flatMap enc) := by
 obtain ⟨A, c, hv, hc, hi⟩ := hr
 refine ⟨A, c, hv, fun j u hu => ?_⟩
 obtain ⟨x, hx, hxu⟩ := ZV h l hu hsz
 obtain ⟨ad, cs, rfl, _, h3, h4⟩ := hi _ x hx
 rw [h.rd.1 h4] at h3
 refine ⟨ad, rfl, ?_⟩
 have := h3 _ _ hxu
 rw [add_add', show j / T.sz * T.sz + j % T.sz = j from by rw [Nat.mul_comm]; exact Nat.div_add_mod j T.sz] at this
 exact this
end
section
variable {P : Program} {w0 w : World} {F0 : List Nat} {ps rest : List Ck} {m : List (Nat × Value)} {n d : Nat} {ty : TypeId} {pos : String} {aft : Array Edge} {x y : Operand} {ops : Array Oper} {Q : Exit → Act → World → Prop} {a : Act} {l' : List Oper}
theorem SL.YO (hs : SL w0 F0 w ps) (cs : List Value) (t : TypeId) : SL w0 F0 (w.alloc (.cells ⟨cs⟩ t)) (AB w.heap.size t cs :: ps) :=
 hs.add (qs := [AB w.heap.size t cs]) ⟨Fm.alloc w [] _, [w.heap.size], Ba.one (p := AB w.heap.size t cs) ⟨rfl, heap_alloc_new w _⟩, fun k hk => .inr (by simp at hk; omega)⟩
theorem Hu {t : TypeId} {v : Value} {cs : List Value} (hF : Fr a n m) (hs : SL w0 F0 w ps) (hx : ev m x = some v) (hc : v.cells = ⟨cs⟩) (hlt : Nat.blt d n = true)
  (k : ∀ g w a, Fr a n ((d, .pointer (some ⟨g, 0, none⟩)) :: m) → SL w0 F0 w (AB g t cs :: ps) → wpList P ops Q l' a w) : wpList P ops Q (⟨some d, .box t x, ty, pos, aft, none⟩ :: l') a w := by
 refine I5 hF (v := .pointer (some ⟨w.heap.size, 0, none⟩)) (w' := w.alloc (.cells ⟨cs⟩ t)) (fun a n hF => ?_) rfl rfl hlt fun a hF => ?_
 ·simp [execOp, hF.eval hx, Instr.box, newVar, newRow, hc, newObj, Sem.run]
 ·exact k _ _ a hF (hs.YO cs t)
theorem MY {t : TypeId} {v : Value} {cs : List Value} (hF : Fr a n m) (hs : SL w0 F0 w ps) (hz : (P.info? t).bind (·.zero) = some v) (hc : v.cells = ⟨cs⟩) (hlt : Nat.blt d n = true)
  (k : ∀ g w a, Fr a n ((d, .pointer (some ⟨g, 0, none⟩)) :: m) → SL w0 F0 w (AB g t cs :: ps) → wpList P ops Q l' a w) : wpList P ops Q (⟨some d, .alloc t, ty, pos, aft, none⟩ :: l') a w := by
 obtain ⟨i, hi, hz⟩ := Option.bind_eq_some_iff.1 hz
 refine I5 hF (v := .pointer (some ⟨w.heap.size, 0, none⟩)) (w' := w.alloc (.cells ⟨cs⟩ t)) (fun a n hF => ?_) rfl rfl hlt fun a hF => ?_
 ·simp [execOp, Instr.alloc, zeroValue, typeInfo, hi, hz, newVar, newRow, hc, newObj, Sem.run]
 ·exact k _ _ a hF (hs.YO cs t)
theorem SL.BP {g : Nat} {t : TypeId} {cs : List Value} (hs : SL w0 F0 w ps) (hm : AB g t cs ∈ ps) {o : Nat} {u : Value} (hu : cs[o]? = some u) : w.cell? ⟨g, o, none⟩ = some u := by
 obtain ⟨F, h1, _⟩ := hs.st
 obtain ⟨G, ⟨_, h3⟩, _⟩ := Ij hm h1
 simp [World.cell?, h3, hu]
theorem SL.Do {g : Nat} {t : TypeId} {cs : List Value} (hs : SL w0 F0 w ps) (hm : AB g t cs ∈ ps) {o : Nat} {ds : List Value} (hd : ∀ j u, ds[j]? = some u → cs[o + j]? = some u) : Cells w ⟨g, o, none⟩ ds := fun j u hu => by
 rw [J0]
 exact hs.BP hm (hd j u hu)
theorem Xa {t : TypeId} {ad : Addr} {v u : Value} {i : TypeInfo} (hi : P.info? t = some i) (hsz : i.size = 1) (hv : v.cells = #[v]) (h1 : v.oneCell' = true) (hc : w.cell? ad = some u) (hf : w.frozen? ad = false) :
  (storeVar t ad v).run P w = .ok () (w.setCell ad v) := by
 have hst : (store ad v).run P w = .ok () (w.setCell ad v) := by
  rw [run_store P w _ v _ h1, hc]
  simp [hf]
 simp [storeVar, sizeOf, typeInfo, hi, hsz, hv, storeCells]
 rw [show ad.add 0 = ad from rfl, hst]
theorem MN {g t t' o : Nat} {cs : List Value} {v u : Value} (hF : Fr a n m) (hs : SL w0 F0 w (AB g t cs :: ps)) (hx : ev m x = some (.pointer (some ⟨g, o, none⟩))) (hy : ev m y = some v)
  (hi : (P.info? t').map (·.size) = some 1) (hv : v.cells = #[v]) (h1 : v.oneCell' = true) (hu : cs[o]? = some u)
  (k : ∀ w a, Fr a n m → SL w0 F0 w (AB g t (cs.set o v) :: ps) → wpList P ops Q l' a w) : wpList P ops Q (⟨none, .store t' x y, ty, pos, aft, none⟩ :: l') a w := by
 obtain ⟨i, hi, hsz⟩ := Option.map_eq_some_iff.1 hi
 obtain ⟨F, hst, hF0, _, hcl⟩ := SL.open_ (ps := [AB g t cs]) hs
 obtain ⟨rfl, hg⟩ := Ba.J5 hst
 have hc := hs.BP (List.mem_cons_self) hu
 have hf : w.frozen? ⟨g, o, none⟩ = false := by simp [World.frozen?, hg]
 have hr := Xa (P := P) hi hsz hv h1 hc hf
 refine OQ hF (w' := w.setCell ⟨g, o, none⟩ v) (fun a n hF => ?_) rfl rfl fun a hF => k _ a hF (hcl _ [_] ⟨Fm.one rfl rfl rfl (by simp [World.setCell]) (fun k hk => Below.heap_setCell w _ v k hk), [g], Ba.one ⟨rfl, ?_⟩, fun k hk => .inl hk⟩)
 ·simp [execOp, hF.eval hx, hF.eval hy, Instr.storeAt, Instr.sureAddr, hr]
 ·simp [World.setCell, Array.getElem?_modify, hg, List.set_toArray]
theorem XA : ∀ (l : List Value) (k o : Nat) (cells : List Value), o + k + l.length ≤ cells.length →
  (l.zipIdx k).foldl (fun (cs : Array Value) (p : Value × Nat) => cs.setIfInBounds (o + p.2) p.1) cells.toArray = (cells.take (o + k) ++ l ++ cells.drop (o + k + l.length)).toArray
 | [], k, o, cells, h => by simp
 | v :: r, k, o, cells, h => by
  simp only [List.zipIdx_cons, List.foldl_cons, List.setIfInBounds_toArray]
  rw [XA r (k + 1) o (cells.set (o + k) v) (by simp at h ⊢; omega)]
  have e := list_seg_step cells (o + k) v r (by simp at h; omega)
  simp only [Amk]
  rw [← e]
  simp [Nat.add_assoc]
theorem Yr {sz : Nat} : ∀ (vs : List Value) (i : Nat) (cells : List Value), (∀ v ∈ vs, v.cells.size = sz) → (i + vs.length) * sz = cells.length →
  Instr.fill (fun i => some (i * sz, sz)) cells.toArray ((vs.zipIdx i).map fun p => (p.2, p.1)) = some (cells.take (i * sz) ++ vs.flatMap (fun v => v.cells.toList)).toArray
 | [], i, cells, _, hl => by
  simp only [List.length_nil, Nat.add_zero] at hl
  simp [Instr.fill, hl]
 | v :: r, i, cells, h, hl => by
  have hv := h v (by simp)
  have hfit : (i + 1) * sz ≤ cells.length := by
   rw [← hl, Amk]
   exact Nat.mul_le_mul_right _ (by omega)
  rw [Nat.succ_mul] at hfit
  have h1 : ¬ (v.cells.size ≠ sz) := by simpa using hv
  have h2 : ¬ (cells.length < i * sz + sz) := by omega
  have hfold := XA v.cells.toList 0 (i * sz) cells (by simp [hv]; omega)
  have hsz : v.cells.toList.length = sz := by simpa using hv
  simp only [Nat.add_zero, hsz] at hfold
  have hconv : v.cells.zipIdx.foldl (fun (cs : Array Value) (p : Value × Nat) => cs.setIfInBounds (i * sz + p.2) p.1) cells.toArray = (cells.take (i * sz) ++ v.cells.toList ++ cells.drop (i * sz + sz)).toArray := by
   rw [← hfold, ← Array.foldl_toList, Array.toList_zipIdx]
  simp only [List.zipIdx_cons, List.map_cons, Instr.fill]
  simp only [hv, List.size_toArray, ne_eq, not_true_eq_false, decide_false, Bool.false_or, gt_iff_lt, Az, h2, if_false, Bool.false_eq_true, decide_eq_false_iff_not]
  have ih := Yr r (i + 1) (cells.take (i * sz) ++ v.cells.toList ++ cells.drop (i * sz + sz)) (fun u hu => h u (by simp [hu])) (by
   simp only [Ama, Amb, List.length_drop, hsz]
   rw [Amk] at hl
   rw [show i + 1 + r.length = i + (r.length + 1) by omega, hl]
   omega)
  refine Eq.trans (congrArg (fun z => Instr.fill (fun i => some (i * sz, sz)) z ((r.zipIdx (i + 1)).map fun p => (p.2, p.1))) hconv) (ih.trans ?_)
  congr 2
  rw [List.flatMap_cons, ← Aml]
  congr 1
  rw [List.take_append_of_le_length (by simp [hsz, Nat.succ_mul]; omega)]
  rw [List.take_of_length_le (by simp [hsz, Nat.succ_mul]; omega)]
end
end Go.Pv
namespace Go.Pv
open Go Go.RowKit
def Ji (sz : Nat) (v : Value) : Bool := v.cells.size == sz
theorem YI {sz : Nat} : ∀ v, Ji sz v = true → v.cells.size = sz := fun v h => by simpa [Ji] using h
section
variable {P : Program} {w0 w : World} {F0 : List Nat} {ps rest : List Ck} {m : List (Nat × Value)} {n d : Nat} {ty : TypeId} {pos : String} {aft : Array Edge} {x y : Operand} {ops : Array Oper} {Q : Exit → Act → World → Prop} {a : Act} {l' : List Oper}
variable {α : Type} {T : Ty α} {enc : α → List Value}
theorem SL.Ca (hs : SL w0 F0 w ps) : SL w0 F0 w (Sl T (.slice none 0 0) [] :: ps) := by
 obtain ⟨F, h1, h2⟩ := hs.st
 exact ⟨hs.fm, F, ⟨[], F, rfl, slOwn.nil w, h1, by simp⟩, h2⟩
theorem Eu.form {G : List Nat} {v : Value} {l : List α} (h : Eu T w G v l) : ∃ A c, v = .slice A l.length c := by
 obtain ⟨A, c, hv, _⟩ := h
 exact ⟨A, c, hv⟩
theorem Rd.form {v : Value} {l : List α} (h : Rd T w0 F0 v l) : ∃ A c, v = .slice A l.length c := by
 obtain ⟨G, h, _⟩ := h
 exact h.form
theorem SL.form {v : Value} {l : List α} (hs : SL w0 F0 w ps) (hm : Sl T v l ∈ ps) : ∃ A c, v = .slice A l.length c := by
 obtain ⟨G, h⟩ := hs.BO hm
 exact h.form
theorem KO {v : Value} {k : Nat} (h : ∃ A c, v = .slice A k c) : v.cells = #[v] := by
 obtain ⟨A, c, rfl⟩ := h
 rfl
theorem Uw {v : Value} {k : Nat} (h : ∃ A c, v = .slice A k c) : v.oneCell' = true := by
 obtain ⟨A, c, rfl⟩ := h
 rfl
theorem SL.YN {cells : List Value} {l : List α} {e : TypeId} {k : Nat} (hs : SL w0 F0 w (ps ++ rest)) (hl : cells.length = k * T.sz) (hk : l.length = k) (hE : ∀ F, Ba ps w F → DG T w F l cells) :
  SL w0 F0 (w.alloc (.cells ⟨cells⟩ e)) (Sl T (.slice (some ⟨w.heap.size, 0, none⟩) k k) l :: rest) := by
 obtain ⟨F, h1, hF0, _, hcl⟩ := SL.open_ hs
 have hEl := hE F h1
 refine hcl _ [Sl T (.slice (some ⟨w.heap.size, 0, none⟩) k k) l] ⟨Fm.alloc w F _, [w.heap.size] ++ F, Ba.one (p := Sl T _ l) ⟨cells, [w.heap.size], F, rfl, ⟨by rw [hk]; exact hl, .inr ⟨w.heap.size, 0, k, ⟨cells⟩, e, (0, 0), by rw [hk], rfl, heap_alloc_new w _, by omega, ?_, by simp, ?_⟩⟩, ?_, ?_⟩, ?_⟩
 ·simp [hl]
 ·intro j u hu; simpa using hu
 ·exact hEl.loc (fun k hk => Below.heap_alloc w _ k (hEl.lt k hk))
 ·intro k hk hk'
  rw [Amd] at hk
  have := hEl.lt k hk'
  omega
 ·intro k hk
  simp only [List.cons_append, Amj, Ame] at hk
  rcases hk with rfl | hk
  ·right; exact Nat.le_refl _
  ·exact .inl hk
theorem run_buildSlice {t e sz bytes len : Nat} {z : Value → Bool} (hb : Ey P t e sz bytes z = true) (hle : len * sz ≤ 16777216) {vs : List Value} (hlen : vs.length = len) (hv : ∀ v ∈ vs, v.cells.size = sz) :
  (Instr.buildSlice t len ((vs.zipIdx).map fun p => (p.2, p.1)).toArray).run P w = .ok (.slice (some ⟨w.heap.size, 0, none⟩) len len) (w.alloc (.cells ⟨vs.flatMap fun v => v.cells.toList⟩ e)) := by
 obtain ⟨ht, i, zv, hi, h2, h3, h4, h5⟩ := GX hb
 subst h2
 have h6 : ¬ (16777216 < len * i.size) := by omega
 have hfill : ∀ A : Array Value, A.size = len * i.size → Instr.fill (fun j => some (j * i.size, i.size)) A ((vs.zipIdx).map fun p => (p.2, p.1)) = some (vs.flatMap (fun v => v.cells.toList)).toArray := by
  intro A hA
  have := Yr (sz := i.size) vs 0 A.toList hv (by simp [hlen, hA])
  rw [Array.toArray_toList] at this
  simp only [Nat.zero_mul, List.take_zero, Amj] at this
  exact this
 by_cases h0 : len * i.size = 0
 ·simp only [Instr.buildSlice, Sem.run_bind, run_underlying ht, Result.andThen_ok]
  have := hfill (Array.map (fun x => default) (Array.range 0)) (by simp [h0])
  simp [sizeOf, typeInfo, hi, h0, this, newRow, newObj, Sem.run]
 ·simp only [Instr.buildSlice, Sem.run_bind, run_underlying ht, Result.andThen_ok]
  have := hfill (Array.map (fun x => zv.cells[x % zv.cells.size]!) (Array.range (len * i.size))) (by simp)
  simp [sizeOf, typeInfo, hi, h0, h6, zeroValue, h4, this, newRow, newObj, Sem.run]
theorem VM : ∀ {l : List Operand} {vs : List Value}, Mt m l = some vs → vs.length = l.length
 | [], vs, h => by simp only [Mt, Option.some.injEq] at h; rw [← h]; rfl
 | x :: r, vs, h => by
  simp only [Mt] at h
  split at h
  ·split at h
   ·rename_i l hl
    cases h
    simp [VM hl]
   ·cases h
  ·cases h
theorem Rq (ρ : Operand → Value) : ∀ (l : List (Nat × Operand)) (k : Nat), (l.map Prod.fst) = List.range' k l.length → (l.map fun p => (p.1, ρ p.2)) = (((l.map Prod.snd).map ρ).zipIdx k).map fun p => (p.2, p.1)
 | [], _, _ => rfl
 | (i, x) :: r, k, h => by
  simp only [List.map_cons, Amk, List.range'_succ, List.cons.injEq] at h
  obtain ⟨rfl, h⟩ := h
  simp only [List.map_cons, List.zipIdx_cons]
  rw [Rq ρ r (i + 1) h]
theorem LZ (hFl : Flat T enc) (l : List α) {t e sz bytes len : Nat} {parts : List (Nat × Operand)} {vs : List Value} (hF : Fr a n m) (hs : SL w0 F0 w ps) (hb : Ey P t e sz bytes (Ji sz) = true) (hsz : T.sz = sz)
  (hle : Nat.ble (len * sz) 16777216 = true) (hp : parts.map Prod.fst = List.range' 0 len) (hpl : parts.length = len) (hev : Mt m (parts.map Prod.snd) = some vs) (hv : ∀ v ∈ vs, v.cells.size = sz)
  (hl : (vs.flatMap fun v => v.cells.toList) = l.flatMap enc) (hll : l.length = len) (hlt : Nat.blt d n = true)
  (k : ∀ v w a, Fr a n ((d, v) :: m) → SL w0 F0 w (Sl T v l :: ps) → wpList P ops Q l' a w) : wpList P ops Q (⟨some d, .buildSlice t len parts.toArray, ty, pos, aft, none⟩ :: l') a w := by
 have hvl : vs.length = len := by rw [VM hev, List.length_map, hpl]
 subst hsz
 have hr := run_buildSlice (P := P) (w := w) hb (Nat.le_of_ble_eq_true hle) hvl hv
 refine I5 hF (v := .slice (some ⟨w.heap.size, 0, none⟩) len len) (fun a n hF => ?_) rfl rfl hlt fun a hF => k _ _ a hF (SL.YN (ps := []) hs (e := e) (k := len) (cells := vs.flatMap fun v => v.cells.toList) (by rw [hl, KD hFl, hll]) hll (fun F hF' => ?_))
 ·have h1 := hF.Nt hev
  have h2 := Rq a.eval parts 0 (by rw [hp, hpl])
  simp only [execOp, List.map_toArray]
  rw [h2, h1]
  simp [hr]
 ·rw [show F = [] from hF', hl]
  exact hFl.els.2 ⟨rfl, rfl⟩
theorem Og {xx : α} {cs : List Value} {t e sz bytes : Nat} {v : Value} (hF : Fr a n m) (hs : SL w0 F0 w (Dt T xx cs :: ps)) (hb : Ey P t e sz bytes (Ji sz) = true) (hsz : T.sz = sz)
  (hle : Nat.ble (1 * sz) 16777216 = true) (hx : ev m x = some v) (hv : v.cells = ⟨cs⟩) (hlt : Nat.blt d n = true)
  (k : ∀ v w a, Fr a n ((d, v) :: m) → SL w0 F0 w (Sl T v [xx] :: ps) → wpList P ops Q l' a w) : wpList P ops Q (⟨some d, .buildSlice t 1 #[(0, x)], ty, pos, aft, none⟩ :: l') a w := by
 subst hsz
 obtain ⟨F, h1, _⟩ := hs.st
 have hcs : cs.length = T.sz := by
  obtain ⟨F1, F2, _, h2, _⟩ := h1
  exact T.FZ (T.BO h2)
 have hr := run_buildSlice (P := P) (w := w) (len := 1) (vs := [v]) hb (Nat.le_of_ble_eq_true hle) rfl (by simp [hv, hcs])
 simp only [List.flatMap_cons, List.flatMap_nil, Ami, hv] at hr
 refine I5 hF (v := .slice (some ⟨w.heap.size, 0, none⟩) 1 1) (fun a n hF => ?_) rfl rfl hlt fun a hF => k _ _ a hF (SL.YN (ps := [Dt T xx cs]) hs (e := e) (k := 1) (cells := cs) (by omega) rfl (fun F hF' => DG.one (Ba.J5 hF')))
 ·have hr' : (Instr.buildSlice t 1 #[(0, v)]).run P w = .ok (.slice (some ⟨w.heap.size, 0, none⟩) 1 1) (w.alloc (.cells ⟨cs⟩ e)) := hr
  simp only [execOp, List.map_toArray, List.map_cons, List.map_nil, hF.eval hx]
  simp [hr']
def app {α : Type} (lim : Nat) (l m : List α) : Option (List α) := if l.length + m.length ≤ lim then some (l ++ m) else none
theorem Yf {lim : Nat} {l r s : List α} (h : app lim l r = some s) : l.length + r.length ≤ lim ∧ s = l ++ r := by
 unfold app at h
 split at h
 ·rename_i h1; cases h; exact ⟨h1, rfl⟩
 ·cases h
theorem Km (hFl : Flat T enc) {v u : Value} {l r s : List α} {G : List Nat} {t e sz bytes lim : Nat} (hF : Fr a n m) (hs : SL w0 F0 w (Sl T v l :: ps)) (hb : Ey P t e sz bytes (Ji sz) = true) (hsz : T.sz = sz) (h0 : Nat.blt 0 sz = true)
  (hx : ev m x = some v) (hy : ev m y = some u) (hr : Eu T w G u r) (hlim : Nat.ble (lim * bytes) 140737488355328 = true) (hlim' : Nat.ble lim 9223372036854775807 = true) (happ : app lim l r = some s) (hlt : Nat.blt d n = true)
  (k : ∀ v w a, Fr a n ((d, v) :: m) → SL w0 F0 w (Sl T v s :: ps) → wpList P ops Q l' a w) :
  wpList P ops Q (⟨some d, .call { callee := .builtin .append, args := #[x, y], argTypes := #[t, t] }, ty, pos, aft, none⟩ :: l') a w := by
 subst hsz
 have h0 : 0 < T.sz := by simpa [Nat.blt_eq] using h0
 obtain ⟨h1, rfl⟩ := Yf happ
 obtain ⟨A, c, rfl, hcells⟩ := Eu.cells hFl h0 hr
 obtain ⟨F, hst, hF0, _, hcl⟩ := SL.open_ (ps := [Sl T v l]) hs
 have hrow := hFl.slOwn.1 (Ba.J5 hst)
 have hlim := Nat.le_of_ble_eq_true hlim
 obtain ⟨v', w', F', hrun, hrow', hfm, hF'⟩ := PP (ty := ty) (c := c) hb YI h0 hrow (KD hFl r) hcells (Af1 hFl r) (Nat.le_trans (Nat.mul_le_mul_right _ h1) hlim) (Nat.le_trans h1 (Nat.le_of_ble_eq_true hlim'))
 refine I5 hF (v := v') (w' := w') (fun a n hF => ?_) rfl rfl hlt fun a hF => k _ _ a hF (hcl w' [Sl T v' (l ++ r)] ⟨hfm, F', Ba.one (p := Sl T v' (l ++ r)) (hFl.slOwn.2 ?_), hF'⟩)
 ·simp [execOp, resolve, invoke, builtin, hF.eval hx, hF.eval hy, hrun]
 ·rw [List.flatMap_append, Ama]
  exact hrow'
theorem QO {v u : Value} {l r s : List α} {t e sz bytes lim : Nat} (hF : Fr a n m) (hs : SL w0 F0 w (Sl T v l :: Sl T u r :: ps)) (hb : Ey P t e sz bytes (Ji sz) = true) (hsz : T.sz = sz) (h0 : Nat.blt 0 sz = true)
  (hx : ev m x = some v) (hy : ev m y = some u) (hlim : Nat.ble (lim * bytes) 140737488355328 = true) (hlim' : Nat.ble lim 9223372036854775807 = true) (happ : app lim l r = some s) (hlt : Nat.blt d n = true)
  (k : ∀ v w a, Fr a n ((d, v) :: m) → SL w0 F0 w (Sl T v s :: ps) → wpList P ops Q l' a w) :
  wpList P ops Q (⟨some d, .call { callee := .builtin .append, args := #[x, y], argTypes := #[t, t] }, ty, pos, aft, none⟩ :: l') a w := by
 subst hsz
 have h0 : 0 < T.sz := by simpa [Nat.blt_eq] using h0
 obtain ⟨h1, rfl⟩ := Yf happ
 obtain ⟨F, hst, hF0, _, hcl⟩ := SL.open_ (ps := [Sl T v l, Sl T u r]) hs
 obtain ⟨F1, F2, rfl, ⟨cs, G1, G2, rfl, hrow, hE, hd1⟩, h2, hd⟩ := hst
 obtain ⟨ds, H1, H2, rfl, hrow2, hE2, hd2⟩ := Ba.J5 h2
 obtain ⟨A, c, rfl, hc, hcell⟩ := hrow2.cells
 have hlim := Nat.le_of_ble_eq_true hlim
 have hone : ∀ {F : List Nat} {l : List α} {cs : List Value}, DG T w F l cs → ∀ u ∈ cs, u.oneCell' = true := by
  intro F l
  induction l generalizing F with
  | nil => intro cs h u hu; rw [h.1] at hu; cases hu
  | cons x l ih =>
   rintro cs ⟨c, d, F1, F2, rfl, rfl, h3, h4, _⟩ u hu
   rw [Amc] at hu
   rcases hu with hu | hu
   ·exact T.KG (T.BO h3) u hu
   ·exact ih h4 u hu
 obtain ⟨v', w', F', hrun, hrow', hfm, hF'⟩ := PP (ty := ty) hb YI h0 hrow hrow2.1 (A := A) (c := c) (fun j u hu => by obtain ⟨ad, h5, _, h6⟩ := hcell j u hu; exact ⟨ad, h5, h6⟩) (hone hE2) (Nat.le_trans (Nat.mul_le_mul_right _ h1) hlim) (Nat.le_trans h1 (Nat.le_of_ble_eq_true hlim'))
 have hE' : DG T w' G2 l cs := hE.loc (fun k hk => hfm.block k (hE.lt k hk) (fun hin => hd1 k hin hk))
 have hE2' : DG T w' H2 r ds := hE2.loc (fun k hk => hfm.block k (hE2.lt k hk) (fun hin => hd k (by simp [hin]) (by simp [hk])))
 refine I5 hF (v := v') (w' := w') (fun a n hF => ?_) rfl rfl hlt fun a hF => k _ _ a hF (hcl w' [Sl T v' (l ++ r)]
  ⟨⟨hfm.os, hfm.tape, hfm.output, hfm.size, fun k hk hn => hfm.block k hk (fun hin => hn (by simp [hin]))⟩, F' ++ (G2 ++ H2), Ba.one (p := Sl T v' (l ++ r)) ⟨cs ++ ds, F', G2 ++ H2, rfl, by rw [Ama]; exact hrow', DG.append ⟨cs, ds, G2, H2, rfl, rfl, hE', hE2', fun k hk hk' => hd k (by simp [hk]) (by simp [hk'])⟩, fun k hk hk' => ?_⟩, fun k hk => ?_⟩)
 ·simp [execOp, resolve, invoke, builtin, hF.eval hx, hF.eval hy, hrun]
 ·rw [Amc] at hk'
  rcases hF' k hk with h5 | h5
  ·rcases hk' with h6 | h6
   ·exact hd1 k h5 h6
   ·exact hd k (by simp [h5]) (by simp [h6])
  ·rcases hk' with h6 | h6
   ·have := hE.lt k h6; omega
   ·have := hE2.lt k h6; omega
 ·rw [Amc] at hk
  rcases hk with hk | hk
  ·rcases hF' k hk with h5 | h5
   ·left; simp [h5]
   ·right; exact h5
  ·left
   rw [Amc] at hk
   rcases hk with hk | hk <;> simp [hk]
def DL (P : Program) (f : Nat) : Bool := match P.funcs[f]? with | some fn => fn.name != "runtime.NumGoroutine" && fn.body.isSome | none => false
def B8 (S : Value → World → Prop) : Ending → World → Prop := fun e w => ∃ v, e = .returned v ∧ S v w
theorem Ig {f : Nat} (h : DL P f = true) (args : Array Value) : (callFunc f args).run P w = .ok (.enter f args) w := by
 unfold DL at h
 split at h
 ·rename_i fn hfn
  simp only [Amm, AN] at h
  obtain ⟨h1, h2⟩ := h
  have h3 : fn.body.isNone = false := by cases hb : fn.body <;> simp_all
  simp [callFunc, hfn, h1]
  intro h4
  rw [h4] at h2
  cases h2
 ·cases h
theorem HW {f : Nat} {args : List Operand} {ats : Array TypeId} {vs : List Value} {S : Value → World → Prop} (hF : Fr a n m) (hf : DL P f = true) (hargs : Mt m args = some vs) (hc : Calls P f vs.toArray w (B8 S)) (hlt : Nat.blt d n = true)
  (k : ∀ v w a, S v w → Fr a n ((d, v) :: m) → wpList P ops Q l' a w) : wpList P ops Q (⟨some d, .call { callee := .value (.func f), args := args.toArray, argTypes := ats }, ty, pos, aft, none⟩ :: l') a w :=
 wpList_plain rfl fun K hK => by
  unfold Oper.wp
  have h1 : (execOp a.eval ⟨some d, .call { callee := .value (.func f), args := args.toArray, argTypes := ats }, ty, pos, aft, none⟩).run P w = .ok (.enter f vs.toArray) w := by
   have h2 := hF.Nt hargs
   simp [execOp, resolve, Deferred.ofValue, Act.eval, invoke, h2, Ig hf]
  rw [h1, Oper.upon_enter]
  refine hc.mono ?_
  rintro e w' ⟨v, rfl, hS⟩
  exact hK _ _ (k v w' _ hS (hF.put d v hlt))
end
end Go.Pv
namespace Go.Pv
open Go Go.RowKit
section
variable {P : Program} {w : World} {m m' : List (Nat × Value)} {n d : Nat} {a : Act} {ops : Array Oper} {C : World → Prop} {o : Oper} {v : Value} {rest rest' : List Oper}
def QR (P : Program) (n : Nat) (ops : Array Oper) (C : World → Prop) (m : List (Nat × Value)) (l : List Oper) (m' : List (Nat × Value)) (l' : List Oper) : Prop :=
 ∀ (Q : Act → Prop) a, Fr a n m → (∀ a, Fr a n m' → wpQuiet P ops C Q l' a) → wpQuiet P ops C Q l a
theorem QR.nil {l : List Oper} : QR P n ops C m l m l := fun _ a hF k => k a hF
theorem QR.op (he : ∀ w, C w → EX P w m o v w) (k : QR P n ops C ((d, v) :: m) rest m' rest') (hg : o.guard = none := by rfl) (hd : o.dst = some d := by rfl) (hlt : Nat.blt d n = true := by rfl) : QR P n ops C m (o :: rest) m' rest' :=
 fun Q a hF k' => by
  unfold wpQuiet
  rw [A1 (by simp [Region.wanted, hg])]
  refine ⟨v, fun w hw => ?_, ?_⟩
  ·unfold Oper.quietAt
   rw [he w hw a n hF]
   exact ⟨rfl, rfl⟩
  ·rw [hd]
   exact k Q _ (hF.put d v hlt) k'
theorem QR.gop {j dj : Nat} {b : Bool} (he : ∀ w, C w → EX P w m o v w) (hg : o.guard = some (j, b)) (hj : (ops[j]?).bind (·.dst) = some dj) (hb : look m dj = some (.bool b)) (k : QR P n ops C ((d, v) :: m) rest m' rest') (hd : o.dst = some d := by rfl) (hlt : Nat.blt d n = true := by rfl) : QR P n ops C m (o :: rest) m' rest' :=
 fun Q a hF k' => by
  unfold wpQuiet
  rw [A1 (by simp [Region.wanted, hg, IG hF hj hb])]
  refine ⟨v, fun w hw => ?_, ?_⟩
  ·unfold Oper.quietAt
   rw [he w hw a n hF]
   exact ⟨rfl, rfl⟩
  ·rw [hd]
   exact k Q _ (hF.put d v hlt) k'
theorem QR.Abt {j dj : Nat} {b c : Bool} (hg : o.guard = some (j, c)) (hj : (ops[j]?).bind (·.dst) = some dj) (hb : look m dj = some (.bool b)) (hne : b ≠ c) (k : QR P n ops C ((d, undef) :: m) rest m' rest') (hd : o.dst = some d := by rfl) (hlt : Nat.blt d n = true := by rfl) : QR P n ops C m (o :: rest) m' rest' :=
 fun Q a hF k' => by
  unfold wpQuiet
  rw [Ay (by simp [Region.wanted, hg, IG hF hj hb]; exact hne)]
  rw [hd]
  exact k Q _ (hF.put d undef hlt) k'
theorem QR.Akm {j dj : Nat} {c : Bool} (hg : o.guard = some (j, c)) (hj : (ops[j]?).bind (·.dst) = some dj) (hb : look m dj = some undef) (k : QR P n ops C ((d, undef) :: m) rest m' rest') (hd : o.dst = some d := by rfl) (hlt : Nat.blt d n = true := by rfl) : QR P n ops C m (o :: rest) m' rest' :=
 fun Q a hF k' => by
  unfold wpQuiet
  have : yielded ops a.tmps j = none := by
   unfold yielded
   rw [hj]
   simp only [Al6]
   rw [hF.at_ _ _ hb]
   rfl
  rw [Ay (by simp [Region.wanted, hg, this])]
  rw [hd]
  exact k Q _ (hF.put d undef hlt) k'
theorem QR.call {f : Nat} {args : List Operand} {ats : Array TypeId} {vs : List Value} {ty : TypeId} {pos : String} {aft : Array Edge} (hf : DL P f = true) (hargs : Mt m args = some vs) (hc : ∀ w, C w → Calls P f vs.toArray w (B8 fun u w' => u = v ∧ C w'))
  (k : QR P n ops C ((d, v) :: m) rest m' rest') (hlt : Nat.blt d n = true := by rfl) : QR P n ops C m (⟨some d, .call { callee := .value (.func f), args := args.toArray, argTypes := ats }, ty, pos, aft, none⟩ :: rest) m' rest' :=
 fun Q a hF k' => by
  unfold wpQuiet
  rw [A1 (by simp [Region.wanted])]
  refine ⟨v, fun w hw => ?_, ?_⟩
  ·unfold Oper.quietAt
   have h2 := hF.Nt hargs
   have h1 : (execOp a.eval ⟨some d, .call { callee := .value (.func f), args := args.toArray, argTypes := ats }, ty, pos, aft, none⟩).run P w = .ok (.enter f vs.toArray) w := by
    simp [execOp, resolve, Deferred.ofValue, Act.eval, invoke, h2, Ig hf]
   rw [h1]
   exact ⟨rfl, (hc w hw).mono fun e w' ⟨u, he, hu, hw'⟩ => ⟨by rw [he, hu], hw'⟩⟩
  ·exact k Q _ (hF.put d v hlt) k'
theorem Ahf {id : Nat} {l : List Oper} {Q : Exit → Act → World → Prop} (C : World → Prop) (hm : P.follows .mixedOrders = true) (hB : Region.lexB .any l.toArray = true) (hC : C w.drew) (hF : Fr a n m) (h : QR P n l.toArray C m l m' [])
  (k : ∀ w a, C w → Fr a n m' → Q .normal a w) : (Code.region id l.toArray true).wp P Q a w := by
 refine wp_region_quiet (C := C) hm hB hC ?_
 simp only
 exact h _ a hF fun a hF => wpQuiet_nil fun w' hw' => k w' a hw' hF
theorem PR.gop {j dj : Nat} {b : Bool} (he : EX P w m o v w) (hg : o.guard = some (j, b)) (hb : look m dj = some (.bool b)) (hj : (ops[j]?).bind (·.dst) = some dj) (hd : o.dst = some d) (hlt : Nat.blt d n = true)
  {Q : Exit → Act → World → Prop} (hF : Fr a n m) (k : ∀ a, Fr a n ((d, v) :: m) → wpList P ops Q rest a w) : wpList P ops Q (o :: rest) a w := Nv hF hg hj hb he hd hlt k
end
def fdB (P : Program) (s f off : Nat) : Bool := match P.underlying s with
 | some (.struct fs) => match fs[f]? with
  | some fd => fd.offset == off && Hd P fd.type
  | none => false
 | _ => false
def Aep (P : Program) (s f off sz : Nat) : Bool := match P.underlying s with
 | some (.struct fs) => match fs[f]? with
  | some fd => fd.offset == off && Gf P fd.type sz
  | none => false
 | _ => false
def Xq (P : Program) (t sz : Nat) : Bool := match P.info? t with | some i => i.size == sz | none => false
def MM (P : Program) (t : Nat) (pl : List (Nat × Nat)) : Bool := match P.underlying t with
 | some (.struct fs) => fs.size == pl.length && (fs.toList.zip pl).all fun p => p.1.offset == p.2.1 && Xq P p.1.type p.2.2
 | _ => false
section
variable {P : Program} {w : World} {m : List (Nat × Value)} {dd : Option Tmp} {ty : TypeId} {pos : String} {aft : Array Edge} {g : Option (Nat × Bool)} {x y : Operand}
theorem Yc {s f off : Nat} {cs : List Value} {u : Value} (hb : fdB P s f off = true) (hx : ev m x = some (.agg ⟨cs⟩)) (hc : cs[off]? = some u) : EX P w m ⟨dd, .field s x f, ty, pos, aft, g⟩ u w := fun a n hF => by
 unfold fdB at hb
 split at hb
 ·rename_i fs h1
  split at hb
  ·rename_i fd h2
   simp only [Amm, AG] at hb
   obtain ⟨h3, h4⟩ := hb
   simp only [execOp, hF.eval hx]
   simp [Instr.field, run_underlying h1, h2, asAgg, part, Ra h4, h3, hc]
  ·cases hb
 ·cases hb
theorem Ph {s f off sz : Nat} {cs ds : List Value} (hb : Aep P s f off sz = true) (hx : ev m x = some (.agg ⟨cs⟩)) (hd : (cs.drop off).take sz = ds) : EX P w m ⟨dd, .field s x f, ty, pos, aft, g⟩ (.agg ⟨ds⟩) w := fun a n hF => by
 unfold Aep at hb
 split at hb
 ·rename_i fs h1
  split at hb
  ·rename_i fd h2
   simp only [Amm, AG] at hb
   obtain ⟨h3, h4⟩ := hb
   simp only [execOp, hF.eval hx]
   simp [Instr.field, run_underlying h1, h2, asAgg, part, Pk h4, h3]
   rw [← hd]
  ·cases hb
 ·cases hb
theorem run_sizeOf {t sz : Nat} (h : Xq P t sz = true) (w : World) : (sizeOf t).run P w = .ok sz w := by
 unfold Xq at h
 split at h
 ·rename_i i hi
  simp [sizeOf, typeInfo, hi, AG.1 h]
 ·cases h
theorem run_places : ∀ (fs : List Field) (pl : List (Nat × Nat)), fs.length = pl.length → (fs.zip pl).all (fun p => p.1.offset == p.2.1 && Xq P p.1.type p.2.2) = true →
  (fs.mapM (fun f => do pure (f.offset, ← sizeOf f.type) : Field → Sem (Nat × Nat))).run P w = .ok pl w
 | [], [], _, _ => rfl
 | f :: fs, (o, s) :: pl, hl, h => by
  simp only [List.zip_cons_cons, List.all_cons, Amm, AG] at h
  obtain ⟨⟨h1, h2⟩, h3⟩ := h
  have ih := run_places fs pl (by simpa using hl) h3
  rw [List.mapM_cons]
  simp only [Sem.run_bind, Sem.run_pure, run_sizeOf h2, Result.andThen_ok, ih, h1]
theorem Y9 (ρ : Operand → Value) : ∀ parts : List (Nat × Operand), (parts.map fun p => (p.1, ρ p.2)) = (parts.map Prod.fst).zip ((parts.map Prod.snd).map ρ)
 | [] => rfl
 | p :: r => by simp only [List.map_cons, List.zip_cons_cons]; rw [Y9 ρ r]
theorem Ii {t : Nat} {pl : List (Nat × Nat)} {zs : List Value} {parts : List (Nat × Operand)} {vs cs : List Value} (hz : (P.info? t).bind (·.zero) = some (.agg ⟨zs⟩)) (hp : MM P t pl = true) (hev : Mt m (parts.map Prod.snd) = some vs)
  (hfill : Instr.fill (fun i => pl[i]?) ⟨zs⟩ ((parts.map Prod.fst).zip vs) = some ⟨cs⟩) : EX P w m ⟨dd, .build t parts.toArray, ty, pos, aft, g⟩ (.agg ⟨cs⟩) w := fun a n hF => by
 obtain ⟨i, hi, hz⟩ := Option.bind_eq_some_iff.1 hz
 unfold MM at hp
 split at hp
 ·rename_i fs h1
  simp only [Amm, AG] at hp
  obtain ⟨h2, h3⟩ := hp
  have hpl := run_places (P := P) (w := w) fs.toList pl (by simpa using h2) h3
  have h4 := hF.Nt hev
  have h5 : (parts.map fun p => (p.1, a.eval p.2)) = (parts.map Prod.fst).zip vs := by
   rw [← h4]
   exact Y9 _ _
  have h6 : (fs.mapM (fun f => do pure (f.offset, ← sizeOf f.type) : Field → Sem (Nat × Nat))).run P w = .ok pl.toArray w := by
   rw [← Array.toArray_toList (xs := fs), List.mapM_toArray]
   simp only [Sem.run_map, hpl, Result.andThen_ok]
  simp only [execOp, List.map_toArray]
  rw [h5]
  simp only [Instr.build, Sem.run_bind, zeroValue, typeInfo, run_program, Result.andThen_ok, hi, Sem.run_pure, hz, run_underlying h1, h6]
  simp [Value.cells, hfill]
 ·cases hp
end
end Go.Pv
namespace Go.Pv
open Go Go.RowKit
abbrev wr (n : Int) : Int := IntKind.i64.wrap n
def E2 (n : Int) : UInt8 := UInt8.ofNat (n % 256).toNat
theorem Oa (n : Int) : ((E2 n).toNat : Int) = n % 256 := by
 unfold E2
 rw [UInt8.toNat_ofNat']
 omega
theorem wrap_u8 (n : Int) : IntKind.u8.wrap n = ((E2 n).toNat : Int) := by
 rw [Oa]
 rfl
theorem wrap_small {n : Int} (h0 : 0 ≤ n) (h1 : n ≤ 9223372036854775807) : IntKind.i64.wrap n = n := by
 rw [IntKind.wrap_i64]; omega
theorem bool_split {G : Prop} (b : Bool) (ht : b = true → G) (hf : b = false → G) : G := by
 cases b
 ·exact hf rfl
 ·exact ht rfl
theorem Nz {m : List (Nat × Value)} {d : Nat} {b c : Bool} (h : look m d = some (.bool c)) (hb : c = b) : look m d = some (.bool b) := by rw [h, hb]
theorem Aji {m : List (Nat × Value)} {x : Operand} {b c : Bool} (h : ev m x = some (.bool c)) (hb : c = b) : ev m x = some (.bool b) := by rw [h, hb]
theorem Ac9 {α : Type} {b : Bool} {A : Option α} {r : α} (H : (if b = true then none else A) = some r) : b = false ∧ A = some r := by
 cases b
 ·exact ⟨rfl, by simpa using H⟩
 ·simp at H
theorem BS {α : Type} {x r : α} (H : some x = some r) : x = r := by cases H; rfl
section
variable {P : Program} {w : World} {m : List (Nat × Value)} {dd : Option Tmp} {ty : TypeId} {pos : String} {aft : Array Edge} {g : Option (Nat × Bool)} {x y z : Operand}
theorem EX.Abu {o : Oper} {v u : Value} {w' : World} (h : EX P w m o v w') (e : v = u) : EX P w m o u w' := by subst e; exact h
theorem Ad9 {s d : TypeId} {ds : TypeDesc} {k : IntKind} {p : Int} (hx : ev m x = some (.int k p)) (hs : P.underlying s = some ds) (hd : P.underlying d = some (.int .u8)) :
  EX P w m ⟨dd, .convert s d x, ty, pos, aft, g⟩ (.int .u8 ((E2 p).toNat : Int)) w := (Ow hx hs hd).Abu (by rw [wrap_u8])
theorem TS {s d : TypeId} {ds : TypeDesc} {p : UInt8} (hx : ev m x = some (.int .u8 (p.toNat : Int))) (hs : P.underlying s = some ds) (hd : P.underlying d = some (.int .i64)) :
  EX P w m ⟨dd, .convert s d x, ty, pos, aft, g⟩ (.int .i64 (p.toNat : Int)) w := (Ow hx hs hd).Abu (by rw [wrap_small (by omega) (by have := p.toNat_lt; omega)])
theorem ZR {t u : TypeId} {p q : Int} (hx : ev m x = some (.int .u8 p)) (hy : ev m y = some (.int .u8 q)) : EX P w m ⟨dd, .binOp .add t x y u, ty, pos, aft, g⟩ (.int .u8 ((E2 (p + q)).toNat : Int)) w := (Adt hx hy).Abu (by rw [wrap_u8])
theorem ZO {t u : TypeId} {p q : Int} (hx : ev m x = some (.int .u8 p)) (hy : ev m y = some (.int .u8 q)) : EX P w m ⟨dd, .binOp .sub t x y u, ty, pos, aft, g⟩ (.int .u8 ((E2 (p - q)).toNat : Int)) w := (Adc hx hy).Abu (by rw [wrap_u8])
theorem Pw (l : List UInt8) : (⟨⟨l⟩⟩ : ByteArray).toList = l := by
 exact ByteArray.toList_eq _
end
section
variable {P : Program} {w0 w : World} {F0 : List Nat} {ps rest : List Ck} {α : Type} {T : Ty α} {enc : α → List Value} {v : Value} {l r : List α}
theorem Rd.idx {t e sz bytes : Nat} {z : Value → Bool} {i : Int} {x : α} (h : Rd T w0 F0 v l) (hb : Ey P t e sz bytes z = true) (hz : T.sz = sz) (hx : idx l i = some x) :
  ∃ ad cs G, Pg P t v i ad ∧ (∀ w ps, SL w0 F0 w ps → Cells w ad cs) ∧ T.rd w0 G x cs ∧ ∀ k ∈ G, k < w0.heap.size ∧ k ∉ F0 := by
 obtain ⟨G, h1, h2⟩ := h
 obtain ⟨ad, cs, h3, h4, h5, h6⟩ := Vd h1 hb hz hx
 refine ⟨ad, cs, G, h3, fun w ps hs => h4.loc (hs.fm.block _ (h2 _ h6).1 (h2 _ h6).2), h5, h2⟩
theorem Rd.Alw (hFl : Flat T enc) {t e sz bytes : Nat} {z : Value → Bool} {i : Int} {x : α} (h : Rd T w0 F0 v l) (hb : Ey P t e sz bytes z = true) (hz : T.sz = sz) (hx : Pv.idx l i = some x) :
  ∃ ad, Pg P t v i ad ∧ ∀ w ps, SL w0 F0 w ps → Cells w ad (enc x) := by
 obtain ⟨ad, cs, G, h0, h1, h2, _⟩ := h.idx hb hz hx
 rw [hFl.rd.1 h2] at h1
 exact ⟨ad, h0, h1⟩
theorem TO (hFl : Flat T enc) {t e sz bytes : Nat} {z : Value → Bool} {i : Int} {x : α} (hs : SL w0 F0 w ps) (hm : Sl T v l ∈ ps) (hb : Ey P t e sz bytes z = true) (hz : T.sz = sz) (hx : idx l i = some x) :
  ∃ ad, Pg P t v i ad ∧ Cells w ad (enc x) := by
 obtain ⟨G, h⟩ := hs.BO hm
 obtain ⟨ad, cs, h3, h4, h5, _⟩ := Vd h hb hz hx
 rw [hFl.rd.1 h5] at h4
 exact ⟨ad, h3, h4⟩
theorem Rd.cut {t e sz bytes : Nat} {z : Value → Bool} {lo hi : Int} (h : Rd T w0 F0 v l) (hb : Ey P t e sz bytes z = true) (hz : T.sz = sz) (hr : GZ l lo hi = some r)
  (lo' hi' : Option Int) (hlo : lo' = some lo ∨ (lo' = none ∧ lo = 0)) (hhi : hi' = some hi ∨ (hi' = none ∧ hi = l.length)) : ∃ v', ScA P t v lo' hi' v' ∧ Rd T w0 F0 v' r := by
 obtain ⟨G, h1, h2⟩ := h
 obtain ⟨v', h3, h4⟩ := Y2 h1 hb hz hr lo' hi' hlo hhi
 exact ⟨v', h3, G, h4 _ _ h1, h2⟩
theorem EZ {α : Type} {T : Ty α} {w0 w : World} {F0 : List Nat} {v : Value} {l : List α} {ps : List Ck} (h : Rd T w0 F0 v l) (hs : SL w0 F0 w ps) : ∃ G, Eu T w G v l := by
 obtain ⟨G, h1, _⟩ := h.now hs
 exact ⟨G, h1⟩
end
end Go.Pv
namespace Go.Pv
open Go Go.RowKit
section
variable {P : Program} {Q : Exit → Act → World → Prop} {J : Act → World → Prop} {a : Act} {w : World} {c : Code}
theorem Lh (J : Act → World → Prop) (h1 : c.wp P (Exit.then J Q) a w) (h2 : ∀ a w, J a w → Q .normal a w) : c.wp P Q a w :=
 wp_mono h1 fun e a w h => by cases e <;> first | exact h2 _ _ h | exact h
theorem Fe (h : J a w) : Exit.then J Q .normal a w := h
theorem IP {i : Nat} (h : Q (.exit i) a w) : Exit.then J Q (.exit i) a w := h
theorem NY {id : Nat} (h : Q .normal a w) : Exit.inBlock id Q .normal a w := h
theorem Ag4 {id : Nat} (h : Q .ret a w) : Exit.inBlock id Q .ret a w := h
theorem KP {id : Nat} (h : Q .normal a w) : Exit.inBlock id Q (.exit id) a w := by simpa [Exit.inBlock] using h
theorem Afv {id id' : Nat} (hne : Nat.beq id' id = false) (h : Q (.exit id') a w) : Exit.inBlock id Q (.exit id') a w := by
 have : id' ≠ id := fun e => by subst e; simp at hne
 simpa [Exit.inBlock, this] using h
theorem DO {n t : Nat} {m : List (Nat × Value)} {x y : Code} (hF : Fr a n m) (hc : look m t = some (.bool true)) (h : x.wp P Q a w) : (Code.cond (.tmp t) x y).wp P Q a w := wp_cond_true (hF.eval (x := .tmp t) hc) h
theorem Fv {n t : Nat} {m : List (Nat × Value)} {x y : Code} (hF : Fr a n m) (hc : look m t = some (.bool false)) (h : y.wp P Q a w) : (Code.cond (.tmp t) x y).wp P Q a w := wp_cond_false (hF.eval (x := .tmp t) hc) h
end
def RV (P : Program) (w : World) (m : List (Nat × Value)) : ResultVar → Value → Prop
 | .tmp t, v => look m t = some v
 | .cell t ty, v => ∃ ad, look m t = some (.pointer (some ad)) ∧ (loadVar ty ad).run P w = .ok v w
theorem RV.tmp {P : Program} {w : World} {m : List (Nat × Value)} {t : Nat} {v : Value} (h : look m t = some v) : RV P w m (.tmp t) v := h
def RVs (P : Program) (w : World) (m : List (Nat × Value)) : List ResultVar → List Value → Prop
 | [], vs => vs = []
 | r :: rs, vs => ∃ v vs', vs = v :: vs' ∧ RV P w m r v ∧ RVs P w m rs vs'
def Aah : List Value → Value
 | [v] => v
 | vs => .tuple ⟨vs⟩
section
variable {P : Program} {w : World} {m : List (Nat × Value)} {n : Nat} {a : Act}
def rvs (tmps : Array Value) (r : ResultVar) : Sem Value := match r with
 | .tmp t => pure (tmps.getD t undef)
 | .cell c t => do loadVar t (← asAddr (tmps.getD c undef))
theorem Tz : ∀ {rs : List ResultVar} {vs : List Value}, Fr a n m → RVs P w m rs vs → (rs.mapM (rvs a.tmps)).run P w = .ok vs w
 | [], vs, hF, h => by rw [show vs = [] from h]; rfl
 | r :: rs, vs, hF, ⟨v, vs', e, h1, h2⟩ => by
  subst e
  have ih := Tz hF h2
  rw [List.mapM_cons]
  have hv : (rvs a.tmps r).run P w = .ok v w := by
   cases r with
   | tmp t =>
    have h3 := hF.eval (x := .tmp t) h1
    simp only [Act.eval] at h3
    simp only [rvs, h3]
    rfl
   | cell t ty =>
    obtain ⟨ad, h3, h4⟩ := h1
    have h5 := hF.eval (x := .tmp t) h3
    simp only [Act.eval] at h5
    have h6 : (asAddr (a.tmps.getD t undef)).run P w = .ok ad w := by rw [h5]; rfl
    simp only [rvs, Sem.run_bind, h6, Result.andThen_ok, h4]
  simp only [Sem.run_bind, Sem.run_pure, Result.andThen_ok, ih, hv]
theorem HY {fn : Func} {R : Ending → World → Prop} {rs : List ResultVar} {vs : List Value} (hF : Fr a n m) (hr : fn.results = rs.toArray) (h : RVs P w m rs vs) (hR : R (.returned (Aah vs)) w) : bodyPost P fn R .ret a w := by
 have h1 := Tz (P := P) (w := w) hF h
 refine bodyPost_ret (v := Aah vs) ?_ hF.defers hR
 have h2 : results fn a.tmps = (do let vs ← fn.results.mapM (rvs a.tmps); pure (if h : vs.size = 1 then vs[0] else .tuple vs)) := rfl
 rw [h2, hr, List.mapM_toArray]
 simp only [Sem.run_bind, Sem.run_map, h1, Result.andThen_ok, Sem.run_pure]
 congr 1
 match vs with
 | [] => rfl
 | [v] => rfl
 | v :: u :: r => simp [Aah]
theorem Ni {fn : Func} {R : Ending → World → Prop} (hF : Fr a n m) (hr : fn.results = #[]) (hR : R (.returned (.tuple #[])) w) : bodyPost P fn R .normal a w :=
 bodyPost_end (results_none hr _ _ _) hF.defers hR
theorem RV.blk {w0 : World} {F0 : List Nat} {ps : List Ck} {g t ty k : Nat} {cs : List Value} (hs : SL w0 F0 w ps) (hm : AB g ty cs ∈ ps) (hl : look m t = some (.pointer (some ⟨g, 0, none⟩))) (hb : Gf P ty k = true) (hk : cs.length = k) : RV P w m (.cell t ty) (.agg ⟨cs⟩) := by
 refine ⟨_, hl, ?_⟩
 have hc := hs.Do hm (o := 0) (ds := cs) (fun j u hu => by simpa using hu)
 have h1 := run_loadCells_list (P := P) w _ cs hc
 subst hk
 simp [loadVar, Pk hb, h1]
end
def BD {α : Type} (T : Ty α) (v : Value) (l : List α) (v' : Value) (r : List α) : Prop := ∀ w G, Eu T w G v l → Eu T w G v' r
section
variable {P : Program} {w0 w : World} {F0 F : List Nat} {ps rest : List Ck} {α : Type} {T : Ty α} {enc : α → List Value} {v v' v'' : Value} {l r s : List α}
theorem BD.trans (h : BD T v l v' r) (h' : BD T v' r v'' s) : BD T v l v'' s := fun w G hh => h' w G (h w G hh)
theorem BD.rd (h : BD T v l v' r) (hr : Rd T w0 F0 v l) : Rd T w0 F0 v' r := by
 obtain ⟨G, h1, h2⟩ := hr
 exact ⟨G, h _ _ h1, h2⟩
theorem H7 (hL : ∃ G, Eu T w G v l) : ∃ A c, v = .slice A l.length c := by
 obtain ⟨G, h1⟩ := hL
 exact h1.form
theorem YC {t e sz bytes : Nat} {z : Value → Bool} {lo hi : Int} (hL : ∃ G, Eu T w G v l) (hb : Ey P t e sz bytes z = true) (hz : T.sz = sz) (hr : GZ l lo hi = some r)
  (lo' hi' : Option Int) (hlo : lo' = some lo ∨ (lo' = none ∧ lo = 0)) (hhi : hi' = some hi ∨ (hi' = none ∧ hi = l.length)) : ∃ v', ScA P t v lo' hi' v' ∧ BD T v l v' r := by
 obtain ⟨G, h1⟩ := hL
 exact Y2 h1 hb hz hr lo' hi' hlo hhi
theorem Lm (hFl : Flat T enc) {t e sz bytes : Nat} {z : Value → Bool} {i : Int} {x : α} (hL : ∃ G, Eu T w G v l) (hb : Ey P t e sz bytes z = true) (hz : T.sz = sz) (hx : idx l i = some x) :
  ∃ ad, Pg P t v i ad ∧ Cells w ad (enc x) := by
 obtain ⟨G, h⟩ := hL
 obtain ⟨ad, cs, h3, h4, h5, _⟩ := Vd h hb hz hx
 rw [hFl.rd.1 h5] at h4
 exact ⟨ad, h3, h4⟩
end
theorem Als {α : Type} {T : Ty α} {enc : α → List Value} (hFl : Flat T enc) {P : Program} {w : World} {C : World → Prop} {v : Value} {l : List α} {t e sz bytes : Nat} {z : Value → Bool} {i : Int} {x : α} (h : ∀ w, C w → ∃ G, Eu T w G v l) (hw : C w)
  (hb : Ey P t e sz bytes z = true) (hz : T.sz = sz) (hx : idx l i = some x) : ∃ ad, Pg P t v i ad ∧ ∀ w, C w → Cells w ad (enc x) := by
 obtain ⟨h0, h1, h2⟩ := Dd hx
 obtain ⟨ad, h3, h4⟩ := Lm hFl (h w hw) hb hz hx
 obtain ⟨G, A, c, hv, hc, hi⟩ := h w hw
 obtain ⟨ad0, cs0, hA, _, _, _⟩ := hi _ x h2
 refine ⟨ad0.add (i.toNat * T.sz), ?_, fun w' hw' => ?_⟩
 ·obtain ⟨hu, ti, zv, h5, h6, _⟩ := GX hb
  subst hv hA
  intro w m x y k dd ty pos aft g hx hy a _ hF
  have e1 : (0 ≤ i ∧ i < (l.length : Int)) := ⟨h0, h1⟩
  simp [execOp, hF.eval hx, hF.eval hy, Instr.indexAt, asIntOf, run_underlying hu, e1, sizeOf, typeInfo, h5, h6, hz]
 ·obtain ⟨G', A', c', hv', hc', hi'⟩ := h w' hw'
  obtain ⟨ad', cs', hA', _, h7, h8⟩ := hi' _ x h2
  rw [hv] at hv'
  injection hv' with hAA _ _
  rw [hA, hA'] at hAA
  cases hAA
  rw [hFl.rd.1 h8] at h7
  exact h7
section
variable {w0 w : World} {F0 : List Nat} {ps : List Ck} {α β : Type} {A : Ty α} {B : Ty β} {enc : α → List Value}
theorem SL.JI (hs : SL w0 F0 w ps) (hFl : Flat A enc) (x : α) : SL w0 F0 w (Dt A x (enc x) :: ps) := by
 obtain ⟨F, h1, h2⟩ := hs.st
 exact ⟨hs.fm, F, ⟨[], F, rfl, hFl.own.2 ⟨rfl, rfl⟩, h1, by simp⟩, h2⟩
theorem SL.dsl {v : Value} {l : List α} (hs : SL w0 F0 w (Sl A v l :: ps)) : SL w0 F0 w (Dt (Ty.slice A) l [v] :: ps) :=
 hs.re fun F ⟨F1, F2, e, h1, h2, hd⟩ => ⟨F, ⟨F1, F2, e, ⟨v, rfl, h1⟩, h2, hd⟩, fun _ => Iff.rfl⟩
theorem SL.Ahd {l : List α} {cs : List Value} (hs : SL w0 F0 w (Dt (Ty.slice A) l cs :: ps)) : ∃ v, cs = [v] ∧ SL w0 F0 w (Sl A v l :: ps) := by
 obtain ⟨F, ⟨F1, F2, e, ⟨v, hv, h1⟩, h2, hd⟩, h3⟩ := hs.st
 exact ⟨v, hv, hs.fm, F, ⟨F1, F2, e, h1, h2, hd⟩, h3⟩
theorem SL.Kl {x : α} {y : β} {c d : List Value} (hs : SL w0 F0 w (Dt A x c :: Dt B y d :: ps)) : SL w0 F0 w (Dt (A.pair B) (x, y) (c ++ d) :: ps) :=
 hs.re fun F ⟨F1, F2, e, h1, ⟨G1, G2, e', h2, h3, hd'⟩, hd⟩ => by
  subst e' e
  exact ⟨(F1 ++ G1) ++ G2, ⟨F1 ++ G1, G2, rfl, ⟨c, d, F1, G1, rfl, rfl, h1, h2, fun k hk hk' => hd k hk (by simp [hk'])⟩, h3, fun k hk hk' => by
   rw [Amc] at hk
   rcases hk with hk | hk
   ·exact hd k hk (by simp [hk'])
   ·exact hd' k hk hk'⟩, fun k => by simp⟩
theorem SL.OV {x : β} {f : β → α} {c : List Value} (hs : SL w0 F0 w (Dt A (f x) c :: ps)) : SL w0 F0 w (Dt (A.iso f) x c :: ps) := hs
theorem PZ {P : Program} {f : FuncId} {vs : Array Value} {u : Value} (h : Calls P f vs w (B8 fun v w' => v = u ∧ SL w [] w' [])) (hC : SL w0 F0 w ps) : Calls P f vs w (B8 fun v w' => v = u ∧ SL w0 F0 w' ps) :=
 h.mono fun _ _ ⟨v, he, hv, hs⟩ => ⟨v, he, hv, by simpa using hC.add hs⟩
end
section
variable {P : Program} {w : World} {m : List (Nat × Value)} {dd : Option Tmp} {ty : TypeId} {pos : String} {aft : Array Edge} {g : Option (Nat × Bool)} {x y : Operand}
theorem WF {t : TypeId} {p q : Value} {b : Bool} (h : ∀ d, (Op.equalIn (d + 1) t p q).run P w = .ok b w) : (Op.equal t p q).run P w = .ok b w := by
 unfold Op.equal Op.maxDepth
 exact h 9999
theorem U2 {t : TypeId} {e : TypeDesc} (hp : P.underlying t = some e) (he : ∃ q, e = .pointer q) (ad : Addr) : (Op.equal t (.pointer (some ad)) (.pointer none)).run P w = .ok false w := by
 obtain ⟨q, rfl⟩ := he
 exact WF fun d => by simp [Op.equalIn, run_underlying hp]
theorem Ado {t e u : TypeId} {ad : Addr} (hx : ev m x = some (.pointer (some ad))) (hy : ev m y = some (.pointer none)) (hp : P.underlying t = some (.pointer e)) : EX P w m ⟨dd, .binOp .eql t x y u, ty, pos, aft, g⟩ (.bool false) w :=
 Hl hx hy (fun _ => Value.noConfusion) Value.noConfusion (by simp [binOp, U2 hp ⟨e, rfl⟩])
theorem Afw {t e u : TypeId} {A : Option Addr} {k c : Nat} (hx : ev m x = some (.slice A k c)) (hy : ev m y = some (.slice none 0 0)) (hp : P.underlying t = some (.slice e)) : EX P w m ⟨dd, .binOp .eql t x y u, ty, pos, aft, g⟩ (.bool A.isNone) w :=
 Hl hx hy (fun _ => Value.noConfusion) Value.noConfusion (run_eql_slice_nil w t e A k c hp)
theorem Ach {t u : TypeId} {p q : List UInt8} (hx : ev m x = some (.string ⟨⟨p⟩⟩)) (hy : ev m y = some (.string ⟨⟨q⟩⟩)) : EX P w m ⟨dd, .binOp .eql t x y u, ty, pos, aft, g⟩ (.bool (p == q)) w :=
 Hl hx hy (fun _ => Value.noConfusion) Value.noConfusion (by simp [binOp, Op.stringOp, Pw])
theorem Aiv {t : TypeId} {p : List UInt8} {i : Int} {k : IntKind} {b : UInt8} (hx : ev m x = some (.string ⟨⟨p⟩⟩)) (hy : ev m y = some (.int k i)) (ht : P.underlying t = some .string) (hb : idx p i = some b) :
  EX P w m ⟨dd, .index t x y, ty, pos, aft, g⟩ (.int .u8 (b.toNat : Int)) w := fun a n hF => by
 obtain ⟨h0, h1, h2⟩ := Dd hb
 have h3 : (⟨⟨p⟩⟩ : ByteArray)[i.toNat]? = some b := by
  simp only [getElem?_def, ByteArray.size]
  rw [List.getElem?_eq_some_iff] at h2
  obtain ⟨hlt, h2⟩ := h2
  rw [dif_pos (by simpa using hlt)]
  rw [← h2]
  rfl
 simp only [execOp, hF.eval hx, hF.eval hy]
 simp [Instr.index, asIntOf, run_underlying ht, h0, h3]
end
end Go.Pv
namespace Go.Pv
open Go Go.RowKit
section
variable {P : Program} {Q : Exit → Act → World → Prop} {J : Act → World → Prop} {a : Act} {w : World} {n : Nat} {m : List (Nat × Value)} {ops : Array Oper} {rest : List Oper}
theorem AY {dst : Option Tmp} {op : Op} {ty : TypeId} {pos : String} {aft : Array Edge} {j dj : Nat} {b : Bool} (hF : Fr a n m) (hj : (ops[j]?).bind (·.dst) = some dj) (hb : look m dj = some (.bool b))
  (h : wpList P ops Q (⟨dst, op, ty, pos, aft, none⟩ :: rest) a w) : wpList P ops Q (⟨dst, op, ty, pos, aft, some (j, b)⟩ :: rest) a w := by
 have hy := IG hF hj hb
 unfold wpList at h ⊢
 rw [A1 (by simp [Region.wanted, hy])]
 rw [A1 (by simp [Region.wanted])] at h
 exact h
theorem Rk {c rest : Code} (l : Nat) (hf : findLabel c l = some rest) (h : c.wp P (Exit.jump l (fun a w => rest.wp P (Exit.noGoto Q) a w) Q) a w) : (Code.scope c).wp P Q a w :=
 wp_scope_jumps l (fun a w => rest.wp P (Exit.noGoto Q) a w) (fun _ _ => 0) hf h fun a w hJ => wp_mono hJ fun e a w h => by
  cases e <;> first | exact h | exact h.elim
theorem Ahs {l : Nat} (h : J a w) : Exit.jump l J Q (.goto l) a w := ⟨rfl, h⟩
end
theorem Rd.Akq {α : Type} {T : Ty α} {w : World} {F0 : List Nat} : Rd T w F0 (.slice none 0 0) [] := ⟨[], (slOwn.nil w).rd, by simp⟩
def Aa2 (sz : Nat) (v : Value) (i : Int) (ad : Addr) : Prop := ∃ A n c, v = .slice (some A) n c ∧ ad = A.add (i.toNat * sz)
section
variable {P : Program} {w0 w : World} {F0 F : List Nat} {ps rest : List Ck} {m : List (Nat × Value)} {n d : Nat} {ty : TypeId} {pos : String} {aft : Array Edge} {x y : Operand} {ops : Array Oper} {Q : Exit → Act → World → Prop} {a : Act} {l' : List Oper}
variable {α : Type} {T : Ty α} {enc : α → List Value} {v u : Value} {l r : List α}
theorem Hp.write {sz k : Nat} {xs ys : List Value} {A : Addr} {c o : Nat} (h : Hp sz w F (.slice (some A) k c) k xs) (hfit : o + ys.length ≤ k * sz) (h1 : ∀ u ∈ ys, u.oneCell' = true) :
  ∃ w', (storeCells (A.add o) ys).run P w = .ok () w' ∧ Hp sz w' F (.slice (some A) k c) k (xs.take o ++ ys ++ xs.drop (o + ys.length)) ∧ Fm w F w' := by
 rcases h.2 with ⟨h2, _⟩ | ⟨g, o', cap, cur, e', fz, hv, rfl, hg, hnc, hoc, hfz, hc⟩
 ·cases h2
 ·injection hv with hA _ T8
  injection hA with hA
  subst hA T8
  have hk : k * sz ≤ c * sz := Nat.mul_le_mul_right _ hnc
  have hst := Ho (P := P) g (o' + o) e' fz ys 0 cur w hg hfz (by omega) h1
  simp only [Nat.add_zero] at hst
  refine ⟨_, by rw [J0]; exact hst, ⟨?_, .inr ⟨g, o', c, _, e', fz, rfl, rfl, setRow_heap w g cur _ e' _ hg, hnc, ?_, ?_, ?_⟩⟩, Fm.one rfl rfl rfl (by simp) (fun k hk => setRow_other w g k _ hk)⟩
  ·simp only [Ama, Amb, List.length_drop, h.1]; omega
  ·simp only [List.size_toArray, Ama, Amb, List.length_drop, Array.length_toList]; omega
  ·intro j hj
   apply hfz
   simp only [List.size_toArray, Ama, Amb, List.length_drop, Array.length_toList] at hj
   omega
  ·intro j u hu
   have hl := h.1
   have hcs : cur.toList.length = cur.size := Array.length_toList
   rw [List.getElem?_toArray]
   rw [Aml] at hu ⊢
   by_cases hj : j < o
   ·rw [List.getElem?_append_left (by simp; omega), List.getElem?_take, A1 hj] at hu
    rw [List.getElem?_append_left (by simp; omega), List.getElem?_take, A1 (by omega), Array.getElem?_toList]
    exact hc j u hu
   ·rw [List.getElem?_append_right (by simp; omega)] at hu
    rw [List.getElem?_append_right (by simp; omega)]
    simp only [Amb] at hu ⊢
    rw [Nat.min_eq_left (by omega)] at hu ⊢
    by_cases hj' : j - o < ys.length
    ·rw [List.getElem?_append_left hj'] at hu
     rw [List.getElem?_append_left (by omega), ← hu]
     congr 1; omega
    ·rw [List.getElem?_append_right (by omega), List.getElem?_drop] at hu
     rw [List.getElem?_append_right (by omega), List.getElem?_drop, Array.getElem?_toList]
     have := hc _ _ hu
     rw [← this]
     congr 1; omega
theorem Flat.set (hFl : Flat T enc) : ∀ (l : List α) (i : Nat) (y : α), i < l.length → (l.set i y).flatMap enc = (l.flatMap enc).take (i * T.sz) ++ enc y ++ (l.flatMap enc).drop (i * T.sz + T.sz)
 | [], i, y, h => by simp at h
 | x :: l, 0, y, h => by
  simp only [List.set_cons_zero, List.flatMap_cons, Nat.zero_mul, List.take_zero, Amj, Nat.zero_add]
  rw [← hFl.len x, List.drop_left]
 | x :: l, i + 1, y, h => by
  have hl := hFl.len x
  simp only [List.set_cons_succ, List.flatMap_cons]
  rw [hFl.set l i y (by simpa using h)]
  rw [show (i + 1) * T.sz = (enc x).length + i * T.sz by rw [Nat.succ_mul, hl, Nat.add_comm]]
  rw [Nat.add_assoc (enc x).length, List.take_length_add_append, List.drop_length_add_append]
  simp
theorem HS (hFl : Flat T enc) {t e sz bytes : Nat} {z : Value → Bool} {i : Int} {x : α} (hs : SL w0 F0 w ps) (hm : Sl T v l ∈ ps) (hb : Ey P t e sz bytes z = true) (hz : T.sz = sz) (hx : idx l i = some x) : ∃ ad, Pg P t v i ad ∧ Aa2 T.sz v i ad := by
 obtain ⟨h0, h1, h2⟩ := Dd hx
 obtain ⟨G, hr⟩ := hs.BO hm
 obtain ⟨A, c, rfl, hc, hi⟩ := hr
 obtain ⟨ad, cs, rfl, hG, h3, h4⟩ := hi _ x h2
 obtain ⟨hu, ti, zv, h5, h6, _⟩ := GX hb
 refine ⟨ad.add (i.toNat * T.sz), fun w m x y k dd ty pos aft g hx hy a _ hF => ?_, ad, _, _, rfl, rfl⟩
 have e1 : (0 ≤ i ∧ i < (l.length : Int)) := ⟨h0, h1⟩
 simp [execOp, hF.eval hx, hF.eval hy, Instr.indexAt, asIntOf, run_underlying hu, e1, sizeOf, typeInfo, h5, h6, hz]
theorem SL.CC (hFl : Flat T enc) {i : Int} {x : α} {ad : Addr} (hs : SL w0 F0 w ps) (hm : Sl T v l ∈ ps) (he : Aa2 T.sz v i ad) (hx : idx l i = some x) : Cells w ad (enc x) := by
 obtain ⟨h0, h1, h2⟩ := Dd hx
 obtain ⟨G, A, c, hv, hc, hi⟩ := hs.BO hm
 obtain ⟨ad', cs, rfl, hG, h3, h4⟩ := hi _ x h2
 obtain ⟨A', n', c', hv', rfl⟩ := he
 rw [hv] at hv'
 injection hv' with hA _ _
 injection hA with hA
 subst hA
 rw [hFl.rd.1 h4] at h3
 exact h3
theorem SL.Alj (hFl : Flat T enc) {i : Int} {x0 y' : α} {ad : Addr} (hs : SL w0 F0 w (Sl T v l :: ps)) (he : Aa2 T.sz v i ad) (hx0 : idx l i = some x0) :
  ∃ w', (storeCells ad (enc y')).run P w = .ok () w' ∧ SL w0 F0 w' (Sl T v (l.set i.toNat y') :: ps) := by
 obtain ⟨h0, h1, h2⟩ := Dd hx0
 obtain ⟨F, hst, hF0, _, hcl⟩ := SL.open_ (ps := [Sl T v l]) hs
 have hrow := hFl.slOwn.1 (Ba.J5 hst)
 obtain ⟨A, k, c, rfl, rfl⟩ := he
 have hk : k = l.length := by
  rcases hrow.2 with ⟨h2, _⟩ | ⟨_, _, _, _, _, _, hv, _⟩
  ·cases h2
  ·injection hv
 subst hk
 have hil : i.toNat < l.length := by omega
 have hfit : i.toNat * T.sz + (enc y').length ≤ l.length * T.sz := by
  rw [hFl.len, ← Nat.succ_mul]
  exact Nat.mul_le_mul_right _ hil
 obtain ⟨w', h3, h4, h5⟩ := hrow.write (P := P) (o := i.toNat * T.sz) (ys := enc y') hfit (hFl.one y')
 refine ⟨w', h3, hcl w' [Sl T _ (l.set i.toNat y')] ⟨h5, F, Ba.one (p := Sl T _ (l.set i.toNat y')) (hFl.slOwn.2 ?_), fun k hk => .inl hk⟩⟩
 rw [List.length_set, hFl.set l _ y' hil]
 rw [hFl.len] at h4
 exact h4
theorem Na (hFl : Flat T enc) {i : Int} {x0 y' : α} {ad : Addr} {t' : TypeId} (hF : Fr a n m) (hs : SL w0 F0 w (Sl T v l :: ps)) (he : Aa2 T.sz v i ad) (hx0 : idx l i = some x0) (hx : ev m x = some (.pointer (some ad))) (hy : ev m y = some u)
  (hu : u.cells = ⟨enc y'⟩) (hi : (P.info? t').map (·.size) = some T.sz)
  (k : ∀ w a, Fr a n m → SL w0 F0 w (Sl T v (l.set i.toNat y') :: ps) → wpList P ops Q l' a w) : wpList P ops Q (⟨none, .store t' x y, ty, pos, aft, none⟩ :: l') a w := by
 obtain ⟨ti, hi, hsz⟩ := Option.map_eq_some_iff.1 hi
 obtain ⟨w', h1, h2⟩ := SL.Alj (P := P) hFl (y' := y') hs he hx0
 refine OQ hF (w' := w') (fun a n hF => ?_) rfl rfl fun a hF => k _ a hF h2
 simp [execOp, hF.eval hx, hF.eval hy, Instr.storeAt, Instr.sureAddr, storeVar, sizeOf, typeInfo, hi, hsz, hu, hFl.len, h1]
def Rs (P : Program) (t e k sz : Nat) : Bool := match P.underlying t, P.info? e with | some (.array k' e'), some i => k' == k && e' == e && i.size == sz | _, _ => false
theorem LP {t e k sz : Nat} (h : Rs P t e k sz = true) : P.underlying t = some (.array k e) ∧ ∃ i, P.info? e = some i ∧ i.size = sz := by
 unfold Rs at h
 split at h
 ·rename_i k' e' i h1 h2
  simp only [Amm, AG] at h
  obtain ⟨⟨rfl, rfl⟩, rfl⟩ := h
  exact ⟨h1, i, h2, rfl⟩
 ·cases h
end
def Jj {α : Type} (by_ : Nat) (k : Int) (x0 : α) : Option (List α) := if 0 ≤ k ∧ by_ * k ≤ 281474976710656 ∧ k ≤ 9223372036854775807 then some (List.replicate k.toNat x0) else none
section
variable {P : Program} {w0 w : World} {F0 F : List Nat} {ps rest : List Ck} {m : List (Nat × Value)} {n d : Nat} {ty : TypeId} {pos : String} {aft : Array Edge} {x y : Operand} {ops : Array Oper} {Q : Exit → Act → World → Prop} {a : Act} {l' : List Oper}
variable {α : Type} {T : Ty α} {enc : α → List Value} {v u : Value} {l r : List α}
theorem Agb (hFl : Flat T enc) (h0 : 0 < T.sz) (k : Nat) (x0 : α) : (madeCells ⟨enc x0⟩ (k * T.sz)) = ⟨(List.replicate k x0).flatMap enc⟩ := by
 have hl := KD hFl (List.replicate k x0)
 rw [List.length_replicate] at hl
 apply Array.ext
 ·simp [size_madeCells, hl]
 ·intro j h1 h2
  have h3 : j < k * T.sz := by simpa [size_madeCells] using h1
  have h4 := Al9 (l := (List.replicate k x0).flatMap enc) (i := j) (by rw [hl]; exact h3)
  obtain ⟨x, h5, h6⟩ := ZV hFl _ h4 h0
  rw [List.getElem?_replicate] at h5
  split at h5
  ·cases h5
   have hlen := hFl.len x0
   simp only [madeCells, Array.getElem_map, Array.getElem_range]
   have h7 : (⟨enc x0⟩ : Array Value).size = T.sz := by simpa using hlen
   rw [h7]
   have h8 : j % T.sz < (enc x0).length := by rw [hlen]; exact Nat.mod_lt _ h0
   have h9 : (⟨enc x0⟩ : Array Value)[j % T.sz]! = (enc x0)[j % T.sz] := by simp [h8]
   rw [h9]
   rw [Al9 h8] at h6
   injection h6
  ·cases h5
theorem PW (hFl : Flat T enc) (x0 : α) {s : List α} {t e sz by_ : Nat} {k : Int} {kk k2 : IntKind} {z : Value} (hF : Fr a n m) (hs : SL w0 F0 w ps) (hb : Ey P t e sz by_ (Ji sz) = true) (hsz : T.sz = sz) (h0 : Nat.blt 0 sz = true)
  (hz : (P.info? e).bind (·.zero) = some z) (hz' : z.cells = ⟨enc x0⟩) (hx : ev m x = some (.int kk k)) (hy : ev m y = some (.int k2 k)) (hk : Jj by_ k x0 = some s) (hlt : Nat.blt d n = true)
  (K : ∀ v w a, Fr a n ((d, v) :: m) → SL w0 F0 w (Sl T v s :: ps) → wpList P ops Q l' a w) : wpList P ops Q (⟨some d, .makeSlice t x y, ty, pos, aft, none⟩ :: l') a w := by
 subst hsz
 have h0 : 0 < T.sz := by simpa [Nat.blt_eq] using h0
 obtain ⟨ht, i, zv, hi, h2, h3, h4, _⟩ := GX hb
 obtain ⟨i', hi', hz⟩ := Option.bind_eq_some_iff.1 hz
 rw [hi] at hi'
 cases hi'
 unfold Jj at hk
 split at hk
 ·rename_i hh
  cases hk
  have hr := run_make (P := P) w t e i z ht hi hz kk k2 k k hh.1 (Int.le_refl _) (by rw [h3]; exact hh.2.1) hh.2.2
  rw [hz', h2, Agb hFl h0] at hr
  refine I5 hF (fun a n hF => ?_) rfl rfl hlt fun a hF => K _ _ a hF (SL.YN (ps := []) (e := e) hs (cells := (List.replicate k.toNat x0).flatMap enc) ?_ (List.length_replicate) (fun F h => by
   obtain rfl := h
   exact hFl.els.2 ⟨rfl, rfl⟩))
  ·simp [execOp, hF.eval hx, hF.eval hy, hr]
  ·have hl := KD hFl (List.replicate k.toNat x0)
   rw [List.length_replicate] at hl
   exact hl
 ·cases hk
theorem GI : ∀ u ∈ ([] : List Value), u.oneCell' = true := by simp
theorem Bl {u : Value} {l : List Value} (h : u.oneCell' = true) (hl : ∀ u ∈ l, u.oneCell' = true) : ∀ x ∈ u :: l, x.oneCell' = true := by
 intro x hx
 rcases List.mem_cons.1 hx with rfl | hx
 ·exact h
 ·exact hl x hx
theorem Uq {α : Type} {A B : Option α} {r : α} (H : A = some r) (h : A = B) : B = some r := by rw [← h]; exact H
theorem YB {α : Type} {T : Ty α} {w : World} {v : Value} {l : List α} {A : Option Addr} {k c : Nat} (h : ∃ G, Eu T w G v l) (hv : v = .slice A k c) (hb : A.isNone = true) : l = [] := by
 obtain ⟨G, A', c', h1, h2, h3⟩ := h
 rw [hv] at h1
 injection h1 with hA _ _
 subst hA
 cases l with
 | nil => rfl
 | cons x l =>
  obtain ⟨ad, _, h4, _⟩ := h3 0 x rfl
  subst h4
  cases hb
theorem Ru {dd : Option Tmp} {g : Option (Nat × Bool)} {t e u : TypeId} {v : Value} {A : Option Addr} {k c : Nat} (hx : ev m x = some v) (hv : v = .slice A k c) (hy : ev m y = some (.slice none 0 0)) (hp : P.underlying t = some (.slice e)) : EX P w m ⟨dd, .binOp .eql t x y u, ty, pos, aft, g⟩ (.bool A.isNone) w := by
 subst hv
 exact Afw hx hy hp
theorem BD.refl {α : Type} {T : Ty α} {v : Value} {l : List α} : BD T v l v l := fun _ _ h => h
theorem BD.nil {α : Type} {T : Ty α} {v : Value} {l : List α} : BD T v l (.slice none 0 0) [] := fun _ _ _ => ⟨none, 0, rfl, Nat.le_refl _, fun i x h => by simp at h⟩
theorem EL {g t t' o : Nat} {cs ds : List Value} (hF : Fr a n m) (hs : SL w0 F0 w (AB g t cs :: ps)) (hx : ev m x = some (.pointer (some ⟨g, o, none⟩))) (hy : ev m y = some (.agg ⟨ds⟩))
  (hi : (P.info? t').map (·.size) = some ds.length) (h1 : ∀ u ∈ ds, u.oneCell' = true) (hfit : o + ds.length ≤ cs.length)
  (k : ∀ w a, Fr a n m → SL w0 F0 w (AB g t (cs.take o ++ ds ++ cs.drop (o + ds.length)) :: ps) → wpList P ops Q l' a w) : wpList P ops Q (⟨none, .store t' x y, ty, pos, aft, none⟩ :: l') a w := by
 obtain ⟨ti, hi, hsz⟩ := Option.map_eq_some_iff.1 hi
 obtain ⟨F, hst, hF0, _, hcl⟩ := SL.open_ (ps := [AB g t cs]) hs
 obtain ⟨rfl, hg⟩ := Ba.J5 hst
 have hst := Ho (P := P) g o t (0, 0) ds 0 cs.toArray w hg (by simp) (by simpa using hfit) h1
 simp only [Nat.add_zero] at hst
 refine OQ hF (w' := w.setRow g (cs.take o ++ ds ++ cs.drop (o + ds.length)).toArray) (fun a n hF => ?_) rfl rfl fun a hF => k _ a hF (hcl _ [AB g t (cs.take o ++ ds ++ cs.drop (o + ds.length))] ⟨Fm.one rfl rfl rfl (by simp) (fun k hk => setRow_other w g k _ hk), [g], Ba.one ⟨rfl, setRow_heap w g _ _ t _ hg⟩, fun k hk => .inl hk⟩)
 simp [execOp, hF.eval hx, hF.eval hy, Instr.storeAt, Instr.sureAddr, storeVar, sizeOf, typeInfo, hi, hsz, Value.cells, hst]
end
end Go.Pv
namespace Go.Pv
open Go Go.RowKit Go.ChangeShapes Go.WideShapes
abbrev bulk {H : Type} (d : DataW H) : Nat := Go.Proofs.YtfcpkcehecmcpaaGreat.Rows.uptoBulk d
abbrev Ge {H : Type} (l : List (DataW H)) : Nat := Go.Proofs.YtfcpkcehecmcpaaGreat.Rows.uptoBulkAll l
theorem Zp {H : Type} (d : DataW H) : 1 ≤ bulk d := by
 cases d with
 | lit l => cases l <;> simp [bulk, Go.Proofs.YtfcpkcehecmcpaaGreat.Rows.uptoBulk]
 | _ => simp [bulk, Go.Proofs.YtfcpkcehecmcpaaGreat.Rows.uptoBulk]
theorem Pi {H : Type} {d : DataW H} : ∀ {l : List (DataW H)}, d ∈ l → bulk d ≤ Ge l
 | x :: r, h => by
  simp only [Ge, Go.Proofs.YtfcpkcehecmcpaaGreat.Rows.uptoBulkAll]
  rcases List.mem_cons.1 h with e | e
  ·subst e; simp [bulk]
  ·have := Pi e; simp only [bulk, Ge] at this ⊢; omega
theorem Tn {H : Type} : ∀ l : List (DataW H), l.length ≤ Ge l
 | [] => Nat.zero_le _
 | x :: r => by
  have := Tn r
  have := Zp x
  simp only [bulk, Ge, Go.Proofs.YtfcpkcehecmcpaaGreat.Rows.uptoBulkAll, Amk] at *
  omega
theorem Aa7 {H : Type} (e s : List (DataW H)) : Ge e + Ge s + 1 = bulk (.slice e s) := by simp [bulk, Ge, Go.Proofs.YtfcpkcehecmcpaaGreat.Rows.uptoBulk]
theorem Af5 {H : Type} (e : List (DataW H)) : Ge e + 1 = bulk (.agg e) := by simp [bulk, Ge, Go.Proofs.YtfcpkcehecmcpaaGreat.Rows.uptoBulk]
theorem Ae9 {H : Type} (l : List UInt8) : bulk (DataW.lit (H := H) (.string l)) = l.length + 1 := by simp [bulk, Go.Proofs.YtfcpkcehecmcpaaGreat.Rows.uptoBulk]
abbrev Vl (w : World) : List Nat := List.range w.heap.size
structure EM {α : Type} (P : Program) (T : Ty α) (t : TypeId) (ok : Nat → α → Prop) : Prop where
 sz : P.cellsOf t = T.sz
 rd : ∀ {H : Type} {enc : TypeId × Value → H} {w : World} {n : Nat} {cs : List Value} {x : DataW H × List MemPlace}, DataW.trod enc P w 0 (fun _ => true) true n t cs = some x → ∃ a, T.rd w (Vl w) a cs ∧ ok (bulk x.1) a
 mono : ∀ {B B' : Nat} {a : α}, B ≤ B' → ok B a → ok B' a
def Wx (k : IntKind) (B : Nat) (n : Int) : Prop := k.min ≤ n ∧ n ≤ k.max
def Mr {α : Type} (B : Nat) (a : α) : Prop := True
def OZ (B : Nat) (s : List UInt8) : Prop := s.length ≤ B
def My {α : Type} (ok : Nat → α → Prop) (B : Nat) (l : List α) : Prop := l.length ≤ B ∧ ∀ x ∈ l, ok B x
def I7 {α β : Type} (oa : Nat → α → Prop) (ob : Nat → β → Prop) (B : Nat) (x : α × β) : Prop := oa B x.1 ∧ ob B x.2
def okF {α β : Type} (f : β → α) (oa : Nat → α → Prop) (B : Nat) (x : β) : Prop := oa B (f x)
section
variable {P : Program} {α β : Type}
theorem XF {k : IntKind} {n : Int} (h : (Lit.int k n).wf = true) : k.min ≤ n ∧ n ≤ k.max := by simpa [Lit.wf] using h
theorem EM.int {t : TypeId} {k : IntKind} (hu : P.underlying t = some (.int k)) (hc : P.cellsOf t = 1) : EM P (Ty.int k) t (Wx k) :=
 ⟨hc, fun h => by
  obtain ⟨n, rfl, rfl, hw⟩ := DataW.trod_int hu h
  exact ⟨n, rfl, XF hw⟩, fun _ h => h⟩
theorem Alg {n : Int} (h : IntKind.u8.min ≤ n ∧ n ≤ IntKind.u8.max) : n = ((UInt8.ofNat n.toNat).toNat : Int) := by
 have h1 : (IntKind.u8.min : Int) = 0 := rfl
 have h2 : (IntKind.u8.max : Int) = 255 := rfl
 rw [h1, h2] at h
 have : (UInt8.ofNat n.toNat).toNat = n.toNat := by
  rw [UInt8.toNat_ofNat']
  omega
 omega
theorem EM.u8 {t : TypeId} (hu : P.underlying t = some (.int .u8)) (hc : P.cellsOf t = 1) : EM P Ty.u8 t Mr :=
 ⟨hc, fun h => by
  obtain ⟨n, rfl, rfl, hw⟩ := DataW.trod_int hu h
  refine ⟨UInt8.ofNat n.toNat, ?_, trivial⟩
  show [Value.int .u8 n] = [Value.int .u8 ((UInt8.ofNat n.toNat).toNat : Int)]
  rw [← Alg (XF hw)], fun _ h => h⟩
theorem EM.bool {t : TypeId} (hu : P.underlying t = some .bool) (hc : P.cellsOf t = 1) : EM P Ty.bool t Mr :=
 ⟨hc, fun h => by
  obtain ⟨b, rfl, rfl⟩ := DataW.trod_bool hu h
  exact ⟨b, rfl, trivial⟩, fun _ h => h⟩
theorem EM.str {t : TypeId} (hu : P.underlying t = some .string) (hc : P.cellsOf t = 1) : EM P Ty.str t OZ :=
 ⟨hc, fun h => by
  obtain ⟨s, rfl, rfl, hs⟩ := DataW.trod_string hu h
  refine ⟨s.data.toList, ?_, ?_⟩
  ·show [Value.string s] = [Value.string ⟨⟨s.data.toList⟩⟩]
   rfl
  ·unfold OZ
   rw [Ae9]
   omega, fun h1 h2 => Nat.le_trans h2 h1⟩
theorem Zu {p : Nat → α → Prop} : ∀ {n : Nat}, (∀ i, i < n → ∃ a, p i a) → ∃ l : List α, l.length = n ∧ ∀ i x, l[i]? = some x → p i x
 | 0, _ => ⟨[], rfl, fun i x h => by simp at h⟩
 | n + 1, h => by
  obtain ⟨l, h1, h2⟩ := Zu (n := n) (fun i hi => h i (Nat.lt_succ_of_lt hi))
  obtain ⟨a, ha⟩ := h n (Nat.lt_succ_self n)
  refine ⟨l ++ [a], by simp [h1], fun i x hx => ?_⟩
  by_cases hi : i < n
  ·rw [List.getElem?_append_left (by omega)] at hx
   exact h2 i x hx
  ·rw [List.getElem?_append_right (by omega)] at hx
   have : i - l.length = 0 := by
    have := (List.getElem?_eq_some_iff.1 hx).1
    simp at this
    omega
   rw [this] at hx
   simp at hx
   subst hx
   rw [show i = n by omega]
   exact ha
theorem Ae4 {w : World} {a : Addr} {n : Nat} {cs : List Value} (h : w.cells? 0 a n = some cs) : Cells w a cs := by
 obtain ⟨_, h1, h2⟩ := World.cells?_some h
 intro j u hu
 have hj := (List.getElem?_eq_some_iff.1 hu).1
 have := h2 j (by omega)
 rw [hu] at this
 exact this
theorem EM.slice {T : Ty α} {t e : TypeId} {ok : Nat → α → Prop} (O : EM P T e ok) (hu : P.underlying t = some (.slice e)) (hc : P.cellsOf t = 1) (h0 : Nat.blt 0 T.sz = true) : EM P (Ty.slice T) t (My ok) :=
 ⟨hc, fun {H enc w n cs x} h => by
  have h0 : 0 < T.sz := by simpa [Nat.blt_eq] using h0
  rcases Go.Deep.open_slice hu h with ⟨rfl, rfl⟩ | ⟨a, len, cap, m, n', D, Pl, rfl, _, hl, _, hm, rfl, hi⟩
  ·exact ⟨[], ⟨_, rfl, none, 0, rfl, Nat.le_refl _, fun i x h => by simp at h⟩, Nat.zero_le _, fun x h => by cases h⟩
  ·simp only [if_true] at hm
   subst hm
   have hel : ∀ i, i < len → ∃ y : α, ∃ cs', Cells w (a.add (i * T.sz)) cs' ∧ T.rd w (Vl w) y cs' ∧ ok (bulk (D i)) y := fun i hlt => by
    obtain ⟨cs', h1, h2⟩ := hi i (by omega)
    rw [O.sz] at h1
    obtain ⟨y, h3, h4⟩ := O.rd h2
    exact ⟨y, cs', Ae4 h1, h3, h4⟩
   obtain ⟨l, hlen, hl2⟩ := Zu hel
   have hb : Ge ((List.range len).map D) + 1 ≤ bulk (DataW.slice (H := H) ((List.range len).map D) ((List.range (m - len)).map fun j => D (len + j))) := by
    rw [← Aa7]; omega
   refine ⟨l, ⟨_, rfl, some a, m, by rw [hlen], by omega, fun i y hy => ?_⟩, ?_, fun y hy => ?_⟩
   ·obtain ⟨cs', h3, h4, _⟩ := hl2 i y hy
    have hlen' := T.FZ h4
    have hcell := h3 0 _ (Al9 (by omega))
    refine ⟨a, cs', rfl, ?_, h3, h4⟩
    have := Aij hcell
    rw [block_add, block_add] at this
    exact List.mem_range.2 this
   ·have := Tn ((List.range len).map D)
    simp only [List.length_map, List.length_range] at this
    simp only [hlen]
    omega
   ·obtain ⟨i, hy⟩ := List.getElem?_of_mem hy
    have hlt := (List.getElem?_eq_some_iff.1 hy).1
    obtain ⟨_, _, _, h5⟩ := hl2 i y hy
    have h6 := Pi (H := H) (d := D i) (l := (List.range len).map D) (List.mem_map.2 ⟨i, List.mem_range.2 (by omega), rfl⟩)
    exact O.mono (by dsimp only; omega) h5, fun hB ⟨h1, h2⟩ => ⟨Nat.le_trans h1 hB, fun x hx => O.mono hB (h2 x hx)⟩⟩
def FsR {H : Type} (enc : TypeId × Value → H) (P : Program) (w : World) (n : Nat) : List TypeId → List Value → List (DataW H × List MemPlace) → Prop
 | [], cs, xs => cs = [] ∧ xs = []
 | t :: ts, cs, xs => ∃ y ys, xs = y :: ys ∧ DataW.trod enc P w 0 (fun _ => true) true n t (cs.take (P.cellsOf t)) = some y ∧ FsR enc P w n ts (cs.drop (P.cellsOf t)) ys
def Z7 (P : Program) : Nat → List Field → Nat → Bool
 | o, [], k => o == k
 | o, f :: fs, k => f.offset == o && Z7 P (o + P.cellsOf f.type) fs k
theorem Abx {H : Type} {enc : TypeId × Value → H} {w : World} {n : Nat} {cs : List Value} : ∀ {fs : List Field} {o : Nat} {xs : List (DataW H × List MemPlace)}, Z7 P o fs cs.length = true → xs.length = fs.length →
  (∀ (i : Nat) (f : Field), fs[i]? = some f → DataW.trod enc P w 0 (fun _ => true) true n f.type ((cs.drop f.offset).take (P.cellsOf f.type)) = xs[i]?) → FsR enc P w n (fs.map (·.type)) (cs.drop o) xs
 | [], o, xs, h, hl, _ => by
  simp only [Z7, AG] at h
  refine ⟨by rw [h]; simp, List.eq_nil_of_length_eq_zero hl⟩
 | f :: fs, o, xs, h, hl, hx => by
  simp only [Z7, Amm, AG] at h
  obtain ⟨h1, h2⟩ := h
  cases xs with
  | nil => simp at hl
  | cons y ys =>
   have h3 := hx 0 f rfl
   rw [h1] at h3
   refine ⟨y, ys, rfl, h3, ?_⟩
   rw [List.drop_drop]
   exact Abx h2 (by simpa using hl) (fun i f' hf' => by
    have := hx (i + 1) f' (by simpa using hf')
    simpa using this)
structure Ja (P : Program) (T : Ty α) (ts : List TypeId) (ok : Nat → α → Prop) : Prop where
 sz : (ts.map P.cellsOf).sum = T.sz
 rd : ∀ {H : Type} {enc : TypeId × Value → H} {w : World} {n : Nat} {cs : List Value} {xs : List (DataW H × List MemPlace)}, FsR enc P w n ts cs xs → ∃ a, T.rd w (Vl w) a cs ∧ ok (Ge (xs.map (·.1))) a
 mono : ∀ {B B' : Nat} {a : α}, B ≤ B' → ok B a → ok B' a
theorem Ja.one {T : Ty α} {t : TypeId} {ok : Nat → α → Prop} (O : EM P T t ok) : Ja P T [t] ok :=
 ⟨by simp [O.sz], fun {H enc w n cs xs} h => by
  obtain ⟨y, ys, rfl, h1, h2, rfl⟩ := h
  obtain ⟨a, h3, h4⟩ := O.rd h1
  have h5 : cs.take (P.cellsOf t) = cs := by
   have := List.take_append_drop (P.cellsOf t) cs
   rw [h2, Ami] at this
   exact this
  rw [h5] at h3
  refine ⟨a, h3, O.mono ?_ h4⟩
  exact Pi (by simp), O.mono⟩
theorem Ja.cons {A : Ty α} {B : Ty β} {t : TypeId} {ts : List TypeId} {oa : Nat → α → Prop} {ob : Nat → β → Prop} (O : EM P A t oa) (O' : Ja P B ts ob) : Ja P (A.pair B) (t :: ts) (I7 oa ob) :=
 ⟨by simp [O.sz, O'.sz, Ty.pair], fun {H enc w n cs xs} h => by
  obtain ⟨y, ys, rfl, h1, h2⟩ := h
  obtain ⟨a, h3, h4⟩ := O.rd h1
  obtain ⟨b, h5, h6⟩ := O'.rd h2
  refine ⟨(a, b), ⟨_, _, (List.take_append_drop (P.cellsOf t) cs).symm, h3, h5⟩, O.mono (Pi (by simp)) h4, O'.mono ?_ h6⟩
  simp only [List.map_cons, Ge, Go.Proofs.YtfcpkcehecmcpaaGreat.Rows.uptoBulkAll]
  omega, fun hB h => ⟨O.mono hB h.1, O'.mono hB h.2⟩⟩
def Wg (P : Program) (t : TypeId) (ts : List TypeId) : Bool := match P.underlying t with
 | some (.struct fs) => fs.toList.map (·.type) == ts && Z7 P 0 fs.toList (P.cellsOf t)
 | _ => false
theorem Aff {t : TypeId} {ts : List TypeId} (h : Wg P t ts = true) : ∃ fs, P.underlying t = some (.struct fs) ∧ fs.toList.map (·.type) = ts ∧ Z7 P 0 fs.toList (P.cellsOf t) = true := by
 unfold Wg at h
 split at h
 ·rename_i fs h1
  simp only [Amm, AG] at h
  exact ⟨fs, h1, h⟩
 ·cases h
theorem EM.struct {A : Ty α} {t : TypeId} {ts : List TypeId} {oa : Nat → α → Prop} (O : Ja P A ts oa) (hb : Wg P t ts = true) (hc : P.cellsOf t = A.sz) (f : β → α) (g : α → β) (hfg : ∀ y, f (g y) = y) : EM P (A.iso f) t (okF f oa) :=
 ⟨hc, fun {H enc w n cs x} h => by
  obtain ⟨fs, hu, h1, h2⟩ := Aff hb
  obtain ⟨xs, n', rfl, rfl, hl, hn, hx⟩ := DataW.trod_struct hu h
  have h3 := Abx (fs := fs.toList) (o := 0) (xs := xs) (by rw [hl]; exact h2) (by simpa using hn) (fun i f hf => hx i f (by simpa using hf))
  rw [h1] at h3
  obtain ⟨a, h4, h5⟩ := O.rd h3
  refine ⟨g a, ?_, ?_⟩
  ·show A.rd w _ (f (g a)) cs
   rw [hfg]
   exact h4
  ·show oa _ (f (g a))
   rw [hfg]
   refine O.mono ?_ h5
   rw [← Af5]
   omega, fun hB h => O.mono hB h⟩
section
variable {H : Type} {enc : TypeId × Value → H} {w : World} {base : Nat} {t : TypeId} {v : Value} {d : DataW H} {p : List MemPlace}
theorem Ahq {k : IntKind} (hu : P.underlying t = some (.int k)) (hv : Value.okWide P w .any base t v) (hd : DataW.Trod enc P w 0 (fun _ => true) true t v d p) : ∃ n, v = .int k n ∧ k.min ≤ n ∧ n ≤ k.max := by
 obtain ⟨n, rfl, _, _, hw⟩ := open_int hu hv hd
 exact ⟨n, rfl, XF hw⟩
theorem Aeg {k : IntKind} {ts : Array TypeId} {vs : Array Value} (hval : ∀ (j : Nat) t v, ts[j]? = some t → vs[j]? = some v → Value.okWide P w .any base t v) (j : Nat) (ht : ts[j]? = some t) (hv : vs[j]? = some v) (hu : P.underlying t = some (.int k)) (hd : DataW.Trod enc P w 0 (fun _ => true) true t v d p) : ∃ n, v = .int k n ∧ k.min ≤ n ∧ n ≤ k.max :=
 Ahq hu (hval j t v ht hv) hd
theorem Ajw {T : Ty α} {fs : Array Field} {ok : Nat → α → Prop} (O : EM P T t ok) (hu : P.underlying t = some (.struct fs)) (hv : Value.okWide P w .any base t v) (hd : DataW.Trod enc P w 0 (fun _ => true) true t v d p) :
  ∃ x cs, v = .agg ⟨cs⟩ ∧ T.rd w (Vl w) x cs ∧ (∀ k ∈ Vl w, k < w.heap.size ∧ k ∉ ([] : List Nat)) ∧ ok (bulk d) x := by
 obtain ⟨cs, rfl, _⟩ := okWide_struct hu hv
 obtain ⟨fuel, hf⟩ := hd
 obtain ⟨x, h1, h2⟩ := O.rd hf
 exact ⟨x, cs.toList, rfl, h1, fun k hk => ⟨List.mem_range.1 hk, by simp⟩, h2⟩
end
theorem Adp {W W' : World} (hf : Fm W [] W') {p : MemPlace} (hp : p.block < W.heap.size) : W.sameAt W' p := by
 have h := hf.block p.block hp (by simp)
 cases p with
 | cell b o => exact UB (a := ⟨b, o, none⟩) h
 | map b => exact h
theorem Qb {H : Type} {enc : TypeId × Value → H} {W W' : World} {sp : Nat → Bool} : ∀ {ts : List TypeId} {vs : List Value} {ds : List (DataW H)} {ps : List MemPlace}, DataW.TrodAll enc P W 0 sp true ts vs ds ps → (∀ p ∈ ps, W.sameAt W' p) → DataW.TrodAll enc P W' 0 sp true ts vs ds ps
 | [], vs, ds, ps, h, _ => by
  obtain ⟨rfl, rfl, rfl⟩ := trodAll_nil h
  exact rfl
 | t :: ts, vs, ds, ps, h, hs => by
  obtain ⟨v, vs', d, ds', p, q, rfl, rfl, rfl, ⟨n, h1⟩, h2⟩ := trodAll_cons h
  exact ⟨p, q, ⟨n, DataW.trod_carry n _ _ _ h1 (fun p hp => hs p (by simp [hp]))⟩, Qb h2 (fun p hp => hs p (by simp [hp])), rfl⟩
theorem Acn {H : Type} {enc : TypeId × Value → H} {f : Func} {s : ChangeSpec} {apart fresh handsOn again : Bool} {W W' : World} {args : Array Value} {ds gs : List (DataW H)} {before : List MemPlace} {tb : TypeId}
  (K : Kids P (· < P.types.size)) (hz : ∀ t e, t < P.types.size → P.underlying t = some (.slice e) → 0 < P.cellsOf e) (hpar : ∀ t ∈ f.params.toList, t < P.types.size) (hvars : s.vars = []) (hres : f.resultTypes = #[tb]) (hb : P.underlying tb = some .bool)
  (hW : DataW.Whole enc P f.params.toList s.vars apart W args.toList ds gs before) (hfn : s.fn H (ds ++ gs) = { results := [.lit (.bool true)], args := ds }) (hfm : Fm W [] W') : s.post enc P f apart fresh handsOn again W args (.bool true) W' := by
 have hlt := hW.lt
 have hW0 := hW
 obtain ⟨p, q, hA, hV, rfl, hfz, hnd⟩ := hW
 rw [hvars] at hV
 obtain ⟨rfl, rfl⟩ := trodVars_none hV
 have hsame : ∀ x ∈ p, W.sameAt W' x := fun x hx => Adp hfm (hlt x (by simp [hx]))
 have hA' := Qb hA hsame
 have hargs : ∀ sp : Nat → Bool, (∀ x ∈ p, sp x.block = true) → DataW.TrodAll enc P W' 0 sp true f.params.toList args.toList ds p := fun sp hsp => DataW.TrodAll.respare K hz hpar hA' hsp
 have hr : ∀ (b : Nat) (sp : Nat → Bool) (hd : Bool), DataW.TrodAll enc P W' b sp hd f.resultTypes.toList ((Value.bool true).resultList f.resultTypes.size) [.lit (.bool true)] [] := fun b sp hd => by
  rw [hres]
  exact trodAll_cons_mk (shut_bool hb true) trodAll_mk0
 have hold : ∀ x ∈ p, (fun b => decide (b < W.heap.size)) x.block = true := fun x hx => by simpa using hlt x (by simp [hx])
 have hk : ∀ may, W.keptBut W' may := fun may => ⟨hfm.os, hfm.output, fun i hi => by rw [hfm.block i hi (by simp)]; exact (World.keptBut_refl W may).2.2 i hi⟩
 have e1 : (s.fn H (ds ++ [])).results = [.lit (.bool true)] := by rw [hfn]
 have e2 : (s.fn H (ds ++ [])).args = ds := by rw [hfn]
 have e3 : (s.fn H (ds ++ [])).vars = [] := by rw [hfn]
 refine ⟨ds, [], p ++ [], [], p, [], hW0, by rw [e1]; exact hr _ _ _, by rw [e2]; exact hargs _ hold, by rw [hvars, e3]; rfl,
  hk _, fun _ => ⟨ok_one hres rfl (okWide_bool_mk hb true), _, [], ([] ++ p) ++ [], ⟨[] ++ p, [], trodAll_append (hargs _ (fun _ _ => rfl)) (hr _ _ _), by rw [hvars]; rfl, rfl, ?_, ?_⟩, ?_⟩⟩
 ·intro b off hp
  have hp' : MemPlace.cell b off ∈ p ++ [] := by simpa using hp
  have hb' : b < W.heap.size := hlt _ hp'
  have := hfz b off hp'
  simp only [World.frozen?] at this ⊢
  rw [hfm.block b hb' (by simp)]
  exact this
 ·intro ha
  have := hnd ha
  simpa using this
 ·intro x hx _
  simpa using hx
end
end Go.Pv
namespace Go.Pv
open Go Go.RowKit
theorem BQ {S R : Type} {body : S → Option (S ⊕ R)} {s s' : S} (h : body s = some (.inl s')) : AQ body s = AQ body s' := by rw [GY, h]
theorem Bm {S R : Type} {body : S → Option (S ⊕ R)} {s : S} {r : R} (h : body s = some (.inr r)) : AQ body s = some r := by rw [GY, h]
theorem Cc {n : Int} (h0 : -9223372036854775808 ≤ n) (h1 : n ≤ 9223372036854775807) : wr n = n := by
 unfold wr
 rw [IntKind.wrap_i64]; omega
theorem Ya {n : Nat} (h : n ≤ 9223372036854775807) : wr (n : Int) = n := Cc (by omega) (by omega)
end Go.Pv
namespace Go.Proofs.YtfcpkcehecmcpaaGreat
open Go Go.RowKit Go.Pv
theorem GE {S R : Type} (n : Nat) {body : S → Option (S ⊕ R)} (st : Nat → S) {r : R} (hs : ∀ i, i < n → body (st i) = some (.inl (st (i + 1)))) (he : body (st n) = some (.inr r)) {s0 : S} (h0 : s0 = st 0) : AQ body s0 = some r := by
 subst h0
 have key : ∀ k i, i + k = n → AQ body (st i) = some r := by
  intro k
  induction k with
  | zero => intro i hi; have : i = n := by omega
            subst this; exact Bm he
  | succ k ih => intro i hi; rw [BQ (hs i (by omega))]; exact ih (i + 1) (by omega)
 exact key n 0 (by omega)
theorem Afk {S R : Type} (n : Nat) {body : S → Option (S ⊕ R)} (I : Nat → S → Prop) {Post : R → Prop} (hs : ∀ i s, i < n → I i s → ∃ s', body s = some (.inl s') ∧ I (i + 1) s') (he : ∀ s, I n s → ∃ r, body s = some (.inr r) ∧ Post r) {s : S} (h0 : I 0 s) :
  ∃ r, AQ body s = some r ∧ Post r := by
 have key : ∀ k i s, i + k = n → I i s → ∃ r, AQ body s = some r ∧ Post r := by
  intro k
  induction k with
  | zero =>
   intro i s hi h
   have : i = n := by omega
   subst this
   obtain ⟨r, h1, h2⟩ := he s h
   exact ⟨r, Bm h1, h2⟩
  | succ k ih =>
   intro i s hi h
   obtain ⟨s', h1, h2⟩ := hs i s (by omega) h
   rw [BQ h1]
   exact ih (i + 1) s' (by omega) h2
 exact key n 0 s (by omega) h0
theorem C9 {α : Type} {lim : Nat} {l m : List α} (h : l.length + m.length ≤ lim) : app lim l m = some (l ++ m) := by unfold app; rw [A1 h]
theorem LD {α : Type} {l : List α} {lo hi : Int} (h : 0 ≤ lo ∧ lo ≤ hi ∧ hi ≤ l.length) : GZ l lo hi = some ((l.take hi.toNat).drop lo.toNat) := by unfold GZ; rw [A1 h]
theorem Ot {α : Type} {l : List α} {i : Nat} : idx l (i : Int) = l[i]? := by unfold idx; rw [A1 (by omega)]; simp
theorem Bv {α : Type} {l : List α} {i : Nat} (h : i < l.length) : idx l (i : Int) = some l[i] := by rw [Ot, Al9 h]
theorem ZW {α : Type} {l : List α} {i : Int} (h0 : 0 ≤ i) (h : i < l.length) : ∃ x, idx l i = some x ∧ l[i.toNat]? = some x := by
 refine ⟨l[i.toNat]'(by omega), ?_, Al9 _⟩
 unfold idx
 rw [A1 h0]
 exact Al9 _
theorem CU {i : Nat} (h : i < 4611686018427387904) : wr ((i : Int) + 1) = ((i + 1 : Nat) : Int) := by rw [Cc] <;> omega
theorem NK {α β : Type} (f : α → β) (l : List α) (i : Nat) (h : i < l.length) : (l.take (i + 1)).map f = (l.take i).map f ++ [f l[i]] := by
 rw [List.take_add_one, Al9 h, Amh]; rfl
theorem Nk {α β : Type} (l : List α) (f : α → β) {body : List β × Int → Option ((List β × Int) ⊕ List β)} (hs : ∀ i (h : i < l.length) acc, acc.length = i → body (acc, (i : Int)) = some (.inl (acc ++ [f l[i]], ((i + 1 : Nat) : Int)))) (he : ∀ acc, body (acc, (l.length : Int)) = some (.inr acc)) :
  AQ body ([], 0) = some (l.map f) := by
 have := GE l.length (body := body) (fun i => ((l.take i).map f, (i : Int))) (r := l.map f) (fun i hi => by
  rw [hs i hi _ (by simp; omega), NK f l i hi]) (by simp only [List.take_length]; exact he _) (s0 := ([], 0)) (by simp)
 exact this
theorem RR {α R : Type} (l : List α) {body : Int → Option (Int ⊕ R)} {r : R} (hs : ∀ i (h : i < l.length), body (i : Int) = some (.inl ((i + 1 : Nat) : Int))) (he : body (l.length : Int) = some (.inr r)) : AQ body 0 = some r :=
 GE l.length (body := body) (fun i => (i : Int)) hs he rfl
theorem or_some (b c : Bool) : (if b = true then some b else some c) = some (b || c) := by cases b <;> simp
theorem O6 (b c : Bool) : (if b = true then some true else some c) = some (b || c) := by cases b <;> simp
abbrev ED : Nat := 1048576
end Go.Proofs.YtfcpkcehecmcpaaGreat
namespace Go.Pv
open Go Go.RowKit
section
variable {P : Program} {ops : Array Oper} {S : World → Prop} {Q : Exit → Act → World → Prop} {n d : Nat} {m : List (Nat × Value)} {a : Act} {w : World}
def KQ (K : Act → World → Prop) : Exit → Act → World → Prop
 | .normal, a, w => K a w
 | _, _, _ => False
theorem Ajh {o : Oper} {K next : Act → World → Prop} {r : Result Next} (h : o.upon P a next (KQ K) r) : o.upon P a next Q r := by
 cases r with
 | ok x w' =>
  cases x <;> simp only [Oper.upon] at h ⊢ <;>
   first
    | exact h
    | exact Calls.mono h (fun e w'' he => by
      cases e with
      | returned v => exact he
      | panicked c => exact (he : False).elim
      | outgrown => obtain ⟨_, _, he⟩ := he; exact (he : False).elim)
 | halt x w' => cases x <;> simp only [Oper.upon] at h ⊢ <;> first | exact h | exact (h : False).elim
theorem MS {i : Nat} {o : Oper} {K : Act → World → Prop} (hi : ops[i]? = some o) (h : wpList P ops (KQ K) [o] a w) : wpOp P ops Q i K a w := by
 unfold wpList at h
 unfold wpOp
 simp only [hi]
 split
 ·rename_i hw
  rw [A1 hw] at h
  rcases h with h | ⟨_, _, _, h⟩
  ·exact .inl (Ajh h)
  ·exact (h : False).elim
 ·rename_i hw
  rw [Ay hw] at h
  exact h
theorem Ahv {i : Nat} {oi : Oper} {v : Value} {fuel : Nat} {listed : Array Bool} (hi : ops[i]? = some oi) (hs : Region.noSelect ops = true) (hf : Region.free .any ops listed i = true) (hr : (Region.ready .any ops listed).contains i = true)
  (he : ∀ w, S w → EX P w m oi v w) (hg : oi.guard = none) (hd : oi.dst = some d) (hlt : Nat.blt d n = true) (hF : Fr a n m) (hS : S w)
  (k : ∀ a, Fr a n ((d, v) :: m) → wpAnyH P .any ops (NoPanic Q) S fuel (listed.setIfInBounds i true) a w) : wpAnyH P .any ops (NoPanic Q) S (fuel + 1) listed a w :=
 wpAnyH_take hi hs hf hr (fun _ _ _ h => (h : False).elim) (.inl ⟨by simp [Region.wanted, hg], fun w hw => he w hw a n hF⟩) hS (by rw [hd]; exact k _ (hF.put d v hlt))
theorem Aht {rs : List Nat} {fuel : Nat} {listed : Array Bool} (hr : Region.ready .any ops listed = rs) (hne : rs ≠ [])
  (h : ∀ i ∈ rs, wpOp P ops (NoPanic Q) i (fun a' w' => S w' ∧ wpAnyH P .any ops (NoPanic Q) S fuel (listed.setIfInBounds i true) a' w') a w) : wpAnyH P .any ops (NoPanic Q) S (fuel + 1) listed a w := wpAnyH_all hr hne h
theorem Y1 {C : Nat → Prop} : ∀ i ∈ ([] : List Nat), C i := by simp
theorem MV {C : Nat → Prop} {i : Nat} {l : List Nat} (h : C i) (t : ∀ j ∈ l, C j) : ∀ j ∈ i :: l, C j := by
 intro j hj
 rcases List.mem_cons.1 hj with rfl | hj
 ·exact h
 ·exact t j hj
theorem Aiz {fuel : Nat} {listed : Array Bool} (hr : Region.ready .any ops listed = []) (h : Q .normal a w) : wpAnyH P .any ops (NoPanic Q) S fuel listed a w := wpAnyH_done hr (NoPanic.normal h) fuel
theorem Ai2 {id : Nat} {l : List Oper} (hm : P.follows .mixedOrders = true) (S : World → Prop) (h : wpAnyH P .any l.toArray (NoPanic Q) S l.length (Array.replicate l.length false) a w.drew) : (Code.region id l.toArray true).wp P Q a w :=
 wp_region_noPanic (wp_region_held (S := S) hm (by simpa using h))
theorem Dv {K : Act → World → Prop} (h : K a w) : wpList P ops (KQ K) [] a w := h
end
section
variable {P : Program} {w0 w : World} {F0 : List Nat} {ps : List Ck} {m : List (Nat × Value)} {n d : Nat} {ty : TypeId} {pos : String} {aft : Array Edge} {x y : Operand} {ops : Array Oper} {Q : Exit → Act → World → Prop} {a : Act} {l' : List Oper}
theorem JS {c : Code} {k : Nat} (h : c.wp P (Exit.then (Code.rounds P c Q k) Q) a w) : Code.rounds P c Q (k + 1) a w := h
theorem UT : ∀ v ∈ ([] : List Value), v.cells = #[v] := by simp
theorem HI {u : Value} {l : List Value} (h : u.cells = #[u]) (hl : ∀ v ∈ l, v.cells = #[v]) : ∀ v ∈ u :: l, v.cells = #[v] := by
 intro v hv
 rcases List.mem_cons.1 hv with rfl | hv
 ·exact h
 ·exact hl v hv
theorem QN {l : List Value} (h : ∀ v ∈ l, v.cells = #[v]) : ∀ v ∈ l, v.cells = #[v] := h
theorem Tm : ∀ {l : List Value}, (∀ v ∈ l, v.cells = #[v]) → (l.flatMap fun v => v.cells.toList) = l
 | [], _ => rfl
 | v :: l, h => by rw [List.flatMap_cons, h v (by simp), Tm (fun u hu => h u (by simp [hu]))]; rfl
theorem UL {t e sz bytes len : Nat} {parts : List (Nat × Operand)} {vs : List Value} (hF : Fr a n m) (hs : SL w0 F0 w ps) (hb : Ey P t e sz bytes (Ji sz) = true) (hsz : sz = 1) (hle : len ≤ 16777216)
  (hp : parts.map Prod.fst = List.range' 0 parts.length) (hlen : parts.length = len) (hev : Mt m (parts.map Prod.snd) = some vs) (hc : ∀ v ∈ vs, v.cells = #[v]) (hlt : Nat.blt d n = true)
  (k : ∀ g w a, Fr a n ((d, .slice (some ⟨g, 0, none⟩) len len) :: m) → SL w0 F0 w (AB g e vs :: ps) → wpList P ops Q l' a w) : wpList P ops Q (⟨some d, .buildSlice t len parts.toArray, ty, pos, aft, none⟩ :: l') a w := by
 subst hsz
 have hvl := VM hev
 rw [List.length_map] at hvl
 have hrun := run_buildSlice (P := P) (w := w) (len := len) hb (by omega) (vs := vs) (by omega) (fun v hv => by rw [hc v hv]; rfl)
 rw [Tm hc] at hrun
 refine I5 hF (v := .slice (some ⟨w.heap.size, 0, none⟩) len len) (w' := w.alloc (.cells ⟨vs⟩ e)) (fun a n hF => ?_) rfl rfl hlt fun a hF => k _ _ a hF (hs.YO vs e)
 have h2 := Rq a.eval parts 0 (by simpa using hp)
 have h3 := hF.Nt hev
 rw [h3] at h2
 simp only [execOp, List.map_toArray]
 rw [h2]
 simp [hrun]
theorem K2 {dd : Option Tmp} {gd : Option (Nat × Bool)} {t e sz bytes g k c : Nat} {z : Value → Bool} {i : Nat} {kk : IntKind} (hb : Ey P t e sz bytes z = true) (hx : ev m x = some (.slice (some ⟨g, 0, none⟩) k c)) (hy : ev m y = some (.int kk (i : Int))) (hi : i < k) :
  EX P w m ⟨dd, .indexAddr t x y, ty, pos, aft, gd⟩ (.pointer (some ⟨g, i * sz, none⟩)) w := fun a _ hF => by
 obtain ⟨hu, ti, zv, h5, h6, _⟩ := GX hb
 have e1 : (0 ≤ (i : Int) ∧ (i : Int) < (k : Int)) := by omega
 simp [execOp, hF.eval hx, hF.eval hy, Instr.indexAt, asIntOf, run_underlying hu, hi, sizeOf, typeInfo, h5, h6, J0]
end
end Go.Pv
namespace Go.Pv
open Go Go.RowKit
section
variable {w0 w w' : World} {F0 : List Nat} {p q : Ck} {ps qs rest : List Ck}
def OC {α : Type} : Nat → List α → List α
 | _, [] => []
 | 0, l => l
 | n + 1, a :: r => match OC n r with
  | [] => [a]
  | b :: s => b :: a :: s
theorem UA : ∀ (n : Nat) (ps : List Ck) (F : List Nat), Ba ps w F → ∃ F', Ba (OC n ps) w F' ∧ ∀ k, k ∈ F' ↔ k ∈ F
 | _, [], F, h => ⟨F, by unfold OC; exact h, fun _ => Iff.rfl⟩
 | 0, p :: ps, F, h => ⟨F, by unfold OC; exact h, fun _ => Iff.rfl⟩
 | n + 1, p :: ps, F, h => by
  have h1 := Ba.OU (qs := OC n ps) (fun F hs => UA n ps F hs) h
  unfold OC
  split
  ·rename_i e
   rw [e] at h1
   exact h1
  ·rename_i b s e
   rw [e] at h1
   obtain ⟨F1, h2, h3⟩ := h1
   obtain ⟨F2, h4, h5⟩ := Ba.swap h2
   exact ⟨F2, h4, fun k => (h5 k).trans (h3 k)⟩
theorem SL.fr (h : SL w0 F0 w ps) (n : Nat) (e : OC n ps = qs) : SL w0 F0 w qs := e ▸ h.re fun F hs => UA n ps F hs
end
section
variable {κ ν : Type} [DecidableEq κ]
def BJ : List (κ × ν) → κ → Option ν
 | [], _ => none
 | p :: r, k => if k = p.1 then some p.2 else BJ r k
def C7 : List (κ × ν) → κ → ν → List (κ × ν)
 | [], k, v => [(k, v)]
 | p :: r, k, v => if k = p.1 then (k, v) :: r else p :: C7 r k v
def H8 : List (κ × ν) → κ → List (κ × ν)
 | [], _ => []
 | p :: r, k => if k = p.1 then r else p :: H8 r k
end
structure Key {κ : Type} [DecidableEq κ] (P : Program) (t : TypeId) (ek : κ → Value) : Prop where
 desc : ∃ d, P.underlying t = some d ∧ ∀ a b, Instr.sameNow d (ek a) (ek b) = some (decide (a = b))
 chk : ∀ e a w, (Instr.checkKey e 10000 t (ek a)).run P w = .ok () w
 stay : ∀ a, Instr.sameBits 10000 (ek a) (ek a) = true
theorem Key.int {P : Program} {t : TypeId} {k : IntKind} (h : P.underlying t = some (.int k)) : Key P t (Value.int k) where
 desc := ⟨_, h, fun a b => by
  simp only [Instr.sameNow, A1 rfl]
  congr 1⟩
 chk e a w := (by
  have h1 : ∀ n, (Instr.checkKey e (n + 1) t (.int k a)).run P w = .ok () w := fun n => by simp [Instr.checkKey, run_underlying h]
  exact h1 9999)
 stay a := (by
  have h1 : ∀ n, Instr.sameBits n (.int k a) (.int k a) = true := fun n => by cases n <;> simp [Instr.sameBits]
  exact h1 10000)
def Ux (s : List UInt8) : Value := .string ⟨⟨s⟩⟩
theorem Key.str {P : Program} {t : TypeId} (h : P.underlying t = some .string) : Key P t Ux where
 desc := ⟨_, h, fun a b => by
  simp only [Instr.sameNow, Ux]
  congr 1
  rw [beq_toListBytes, Pw, Pw, Bool.eq_iff_iff, AG, decide_eq_true_iff]⟩
 chk e a w := (by
  have h1 : ∀ n, (Instr.checkKey e (n + 1) t (Ux a)).run P w = .ok () w := fun n => by simp [Instr.checkKey, run_underlying h, Ux]
  exact h1 9999)
 stay a := (by
  have h0 : ((⟨⟨a⟩⟩ : ByteArray) == ⟨⟨a⟩⟩) = true := by rw [beq_toListBytes, Pw]; simp
  have h1 : ∀ n, Instr.sameBits n (Ux a) (Ux a) = true := fun n => by cases n <;> simpa [Instr.sameBits, Ux] using h0
  exact h1 10000)
section
variable {κ ν : Type} [DecidableEq κ] {ek : κ → Value} {ev_ : ν → Value} {d : TypeDesc}
theorem find_eq (hd : ∀ a b, Instr.sameNow d (ek a) (ek b) = some (decide (a = b))) (k : κ) : ∀ (es : List MapEntry) (l : List (κ × ν)) (i : Nat), es.map (fun e => (e.key, e.val)) = l.map (fun p => (ek p.1, ev_ p.2)) →
  (Instr.findNow d (ek k) es i = some none ∧ BJ l k = none ∧ (∀ v, C7 l k v = l ++ [(k, v)]) ∧ H8 l k = l) ∨
  ∃ j u, Instr.findNow d (ek k) es i = some (some (i + j, ev_ u)) ∧ BJ l k = some u ∧ l[j]? = some (k, u) ∧ (∀ v, C7 l k v = l.set j (k, v)) ∧ H8 l k = l.eraseIdx j
 | [], [], i, _ => .inl ⟨rfl, rfl, fun _ => rfl, rfl⟩
 | [], _ :: _, i, h => by simp at h
 | _ :: _, [], i, h => by simp at h
 | e :: es, p :: l, i, h => by
  simp only [List.map_cons, List.cons.injEq, Prod.mk.injEq] at h
  obtain ⟨⟨h1, h2⟩, h3⟩ := h
  by_cases hk : k = p.1
  ·refine .inr ⟨0, p.2, ?_, ?_, ?_, ?_, ?_⟩
   ·simp only [Instr.findNow, h1, hd, hk, decide_true, h2, Nat.add_zero]
   ·simp [BJ, hk]
   ·simp [hk]
   ·intro v; simp [C7, hk]
   ·simp [H8, hk]
  ·have hf : Instr.findNow d (ek k) (e :: es) i = Instr.findNow d (ek k) es (i + 1) := by
    simp only [Instr.findNow, h1, hd, hk, decide_false]
   rcases find_eq hd k es l (i + 1) h3 with ⟨g1, g2, g3, g4⟩ | ⟨j, u, g1, g2, g3, g4, g5⟩
   ·exact .inl ⟨by rw [hf, g1], by simp [BJ, hk, g2], fun v => by simp [C7, hk, g3], by simp [H8, hk, g4]⟩
   ·exact .inr ⟨j + 1, u, by rw [hf, g1, Nat.add_right_comm]; rfl, by simp [BJ, hk, g2], by simpa using g3, fun v => by simp [C7, hk, g4], by simp [H8, hk, g5]⟩
end
structure MapAt {κ ν : Type} (ek : κ → Value) (ev_ : ν → Value) (w : World) (r : Nat) (l : List (κ × ν)) (es : Array MapEntry) (clock : Nat) : Prop where
 heap : w.heap[r]? = some (.map es clock)
 map : es.toList.map (fun e => (e.key, e.val)) = l.map (fun p => (ek p.1, ev_ p.2))
 born : (es.toList.map (·.born)).Pairwise (· < ·)
 lt : ∀ e ∈ es.toList, e.born < clock
 nodup : (l.map Prod.fst).Nodup
def Mp {κ ν : Type} (ek : κ → Value) (ev_ : ν → Value) (r : Nat) (l : List (κ × ν)) : Ck :=
 ⟨fun w F => F = [r] ∧ ∃ es clock, MapAt ek ev_ w r l es clock,
  fun ⟨h, es, c, h1⟩ hk => ⟨h, es, c, by rw [hk r (by simp [h])]; exact h1.heap, h1.map, h1.born, h1.lt, h1.nodup⟩,
  fun ⟨h, es, c, h1⟩ k hk => by rw [h, Amd] at hk; subst hk; exact GT h1.heap⟩
section
variable {P : Program} {w0 w : World} {F0 F : List Nat} {ps rest : List Ck} {m : List (Nat × Value)} {n d : Nat} {ty : TypeId} {pos : String} {aft : Array Edge} {x y z : Operand} {ops : Array Oper} {Q : Exit → Act → World → Prop} {a : Act} {l' : List Oper} {gd : Option (Nat × Bool)} {dd : Option Tmp}
variable {κ ν : Type} {ek : κ → Value} {ev_ : ν → Value} {l : List (κ × ν)} {r : Nat}
theorem SL.YR (hs : SL w0 F0 w ps) (hm : Mp ek ev_ r l ∈ ps) : ∃ es clock, MapAt ek ev_ w r l es clock := by
 obtain ⟨F, h1, _⟩ := hs.st
 obtain ⟨G, ⟨_, h3⟩, _⟩ := Ij hm h1
 exact h3
theorem Ac2 [DecidableEq κ] (l : List (κ × ν)) (k : κ) (v : ν) : (C7 l k v).map Prod.fst = if k ∈ l.map Prod.fst then l.map Prod.fst else l.map Prod.fst ++ [k] := by
 induction l with
 | nil => simp [C7]
 | cons p l ih =>
  by_cases hk : k = p.1
  ·simp [C7, hk]
  ·simp only [C7, hk, if_false, List.map_cons, ih, Ame, false_or]
   split <;> simp
theorem MI [DecidableEq κ] {l : List (κ × ν)} (h : (l.map Prod.fst).Nodup) (k : κ) (v : ν) : ((C7 l k v).map Prod.fst).Nodup := by
 rw [Ac2]
 split
 ·exact h
 ·rename_i hk
  rw [List.nodup_append]
  exact ⟨h, by simp, fun a ha b hb => by simp only [Amd] at hb; subst hb; exact fun e => hk (e ▸ ha)⟩
theorem FI {es : Array MapEntry} {c : Nat} (h : w.heap[r]? = some (.map es c)) : (getObj r).run P w = .ok (.map es c) w := by
 simp [getObj, Sem.run, h]
theorem Od {es : Array MapEntry} {c : Nat} (o : Obj) (h : w.heap[r]? = some (.map es c)) : (setObj r o).run P w = .ok () { w with heap := w.heap.setIfInBounds r o } := by
 simp [setObj, Sem.run, h]
theorem Ajt (o : Obj) : Fm w [r] { w with heap := w.heap.setIfInBounds r o } :=
 Fm.one rfl rfl rfl (by simp) (fun k hk => by simp only [Array.getElem?_setIfInBounds]; rw [Ay (fun h => hk h.symm)])
theorem SL.Vt {l2 : List (κ × ν)} {es : Array MapEntry} {c : Nat} (hs : SL w0 F0 w (Mp ek ev_ r l :: ps)) (h1 : es.toList.map (fun e => (e.key, e.val)) = l2.map (fun p => (ek p.1, ev_ p.2)))
  (h2 : (es.toList.map (·.born)).Pairwise (· < ·)) (h3 : ∀ e ∈ es.toList, e.born < c) (h4 : (l2.map Prod.fst).Nodup) : SL w0 F0 { w with heap := w.heap.setIfInBounds r (.map es c) } (Mp ek ev_ r l2 :: ps) := by
 obtain ⟨F, hst, hF0, _, hcl⟩ := SL.open_ (ps := [Mp ek ev_ r l]) hs
 obtain ⟨rfl, es0, c0, h0⟩ := Ba.J5 hst
 refine hcl _ [Mp ek ev_ r l2] ⟨Ajt _, [r], Ba.one (p := Mp ek ev_ r l2) ⟨rfl, es, c, ⟨?_, h1, h2, h3, h4⟩⟩, fun k hk => .inl hk⟩
 have hlt := GT h0.heap
 simp [Array.getElem?_setIfInBounds, hlt]
theorem QB {t : TypeId} (ek : κ → Value) (ev_ : ν → Value) (hF : Fr a n m) (hs : SL w0 F0 w ps) (hlt : Nat.blt d n = true)
  (k : ∀ g w a, Fr a n ((d, .map (some g)) :: m) → SL w0 F0 w (Mp ek ev_ g ([] : List (κ × ν)) :: ps) → wpList P ops Q l' a w) : wpList P ops Q (⟨some d, .makeMap t none, ty, pos, aft, none⟩ :: l') a w := by
 refine I5 hF (v := .map (some w.heap.size)) (w' := w.alloc (.map #[] 0)) (fun a n hF => ?_) rfl rfl hlt fun a hF => k _ _ a hF (hs.add (qs := [Mp ek ev_ w.heap.size []]) ⟨Fm.alloc w [] _, [w.heap.size], Ba.one (p := Mp ek ev_ w.heap.size []) ⟨rfl, #[], 0, heap_alloc_new w _, rfl, by simp, by simp, by simp⟩, fun k hk => .inr (by simp at hk; omega)⟩)
 simp [execOp, Instr.makeMap, newObj, Sem.run]
theorem Adw {t tk te : TypeId} (hs : SL w0 F0 w ps) (hm : Mp ek ev_ r l ∈ ps) (ht : P.underlying t = some (.map tk te)) (hx : ev m x = some (.map (some r))) :
  EX P w m ⟨dd, .call { callee := .builtin .len, args := #[x], argTypes := #[t] }, ty, pos, aft, gd⟩ (.int .i64 (l.length : Int)) w := fun a _ hF => by
 obtain ⟨es, c, h⟩ := hs.YR hm
 have hl : es.size = l.length := by simpa using congrArg List.length h.map
 simp [execOp, resolve, invoke, builtin, hF.eval hx, Builtin.len_, run_underlying ht, FI h.heap, goInt, hl]
variable [DecidableEq κ]
theorem Q5 {t : TypeId} {es : Array MapEntry} {c : Nat} (hK : Key P t ek) (h : MapAt ek ev_ w r l es c) (k : κ) :
  ((Instr.findKey t (ek k) es.toList).run P w = .ok none w ∧ BJ l k = none ∧ (∀ v, C7 l k v = l ++ [(k, v)]) ∧ H8 l k = l) ∨
  ∃ j u, (Instr.findKey t (ek k) es.toList).run P w = .ok (some (j, ev_ u)) w ∧ BJ l k = some u ∧ l[j]? = some (k, u) ∧ (∀ v, C7 l k v = l.set j (k, v)) ∧ H8 l k = l.eraseIdx j := by
 obtain ⟨dsc, hu, hd⟩ := hK.desc
 rcases find_eq hd k es.toList l 0 h.map with ⟨g1, g2⟩ | ⟨j, u, g1, g2⟩
 ·exact .inl ⟨by simp [Instr.findKey, run_underlying hu, g1], g2⟩
 ·refine .inr ⟨j, u, ?_, g2⟩
  rw [Nat.zero_add] at g1
  simp [Instr.findKey, run_underlying hu, g1]
theorem Wa {t tk te : TypeId} {k : κ} {z0 : ν} (hs : SL w0 F0 w ps) (hm : Mp ek ev_ r l ∈ ps) (ht : P.underlying t = some (.map tk te)) (hK : Key P tk ek) (hz : (P.info? te).bind (·.zero) = some (ev_ z0)) (hx : ev m x = some (.map (some r))) (hy : ev m y = some (ek k)) :
  EX P w m ⟨dd, .lookup t x y false, ty, pos, aft, gd⟩ (ev_ ((BJ l k).getD z0)) w := fun a _ hF => by
 obtain ⟨es, c, h⟩ := hs.YR hm
 obtain ⟨i, hi, hz⟩ := Option.bind_eq_some_iff.1 hz
 rcases Q5 (P := P) hK h k with ⟨g1, g2, _⟩ | ⟨j, u, g1, g2, _⟩
 ·simp [execOp, hF.eval hx, hF.eval hy, Instr.lookup, run_underlying ht, FI h.heap, hK.chk, g1, g2, zeroValue, typeInfo, hi, hz]
 ·simp [execOp, hF.eval hx, hF.eval hy, Instr.lookup, run_underlying ht, FI h.heap, hK.chk, g1, g2]
theorem Vr {t tk te : TypeId} {k : κ} {z0 : ν} (hs : SL w0 F0 w ps) (hm : Mp ek ev_ r l ∈ ps) (ht : P.underlying t = some (.map tk te)) (hK : Key P tk ek) (hz : (P.info? te).bind (·.zero) = some (ev_ z0)) (hx : ev m x = some (.map (some r))) (hy : ev m y = some (ek k)) :
  EX P w m ⟨dd, .lookup t x y true, ty, pos, aft, gd⟩ (.tuple #[ev_ ((BJ l k).getD z0), .bool (BJ l k).isSome]) w := fun a _ hF => by
 obtain ⟨es, c, h⟩ := hs.YR hm
 obtain ⟨i, hi, hz⟩ := Option.bind_eq_some_iff.1 hz
 rcases Q5 (P := P) hK h k with ⟨g1, g2, _⟩ | ⟨j, u, g1, g2, _⟩
 ·simp [execOp, hF.eval hx, hF.eval hy, Instr.lookup, run_underlying ht, FI h.heap, hK.chk, g1, g2, zeroValue, typeInfo, hi, hz]
 ·simp [execOp, hF.eval hx, hF.eval hy, Instr.lookup, run_underlying ht, FI h.heap, hK.chk, g1, g2]
theorem U7 {t tk te : TypeId} {k : κ} {u : ν} (hs : SL w0 F0 w (Mp ek ev_ r l :: ps)) (ht : P.underlying t = some (.map tk te)) (hK : Key P tk ek) :
  ∃ w', (Instr.mapUpdate t (.map (some r)) (ek k) (ev_ u)).run P w = .ok () w' ∧ SL w0 F0 w' (Mp ek ev_ r (C7 l k u) :: ps) := by
 obtain ⟨es, c, h⟩ := hs.YR (List.mem_cons_self)
 have hl : es.toList.length = l.length := by simpa using congrArg List.length h.map
 rcases Q5 (P := P) hK h k with ⟨g1, g2, g3, _⟩ | ⟨j, u0, g1, g2, g3, g4, _⟩
 ·refine ⟨_, ?_, hs.Vt (l2 := C7 l k u) (es := es.push { key := ek k, val := ev_ u, born := c }) (c := c + 1) ?_ ?_ ?_ (MI h.nodup k u)⟩
  ·simp [Instr.mapUpdate, run_underlying ht, FI h.heap, hK.chk, g1, Od _ h.heap]
  ·rw [g3, Array.toList_push, Amh, h.map]; simp
  ·rw [Array.toList_push, Amh, List.pairwise_append]
   refine ⟨h.born, by simp, fun a ha b hb => ?_⟩
   simp only [List.map_cons, List.map_nil, Amd] at hb
   rw [Amg] at ha
   obtain ⟨e, he, rfl⟩ := ha
   rw [hb]
   exact h.lt e he
  ·intro e he
   rw [Array.toList_push, Amc] at he
   rcases he with he | he
   ·have := h.lt e he; omega
   ·simp only [Amd] at he; rw [he]; exact Nat.lt_succ_self _
 ·have hj : j < es.toList.length := by rw [hl]; exact (List.getElem?_eq_some_iff.1 g3).1
  have hkey : (es[j]?).map (·.key) = some (ek k) := by
   have h1 := congrArg (fun L => L[j]?) h.map
   simp only [List.getElem?_map, g3, Al7] at h1
   rw [Array.getElem?_toList] at h1
   rcases he : es[j]? with _ | e
   ·rw [he] at h1; cases h1
   ·rw [he] at h1
    simp only [Al7, Option.some.injEq, Prod.mk.injEq] at h1 ⊢
    exact h1.1
  have hmod : (es.modify j fun e => { e with key := ek k, val := ev_ u }).toList = es.toList.set j { es.toList[j] with key := ek k, val := ev_ u } := by
   rw [Array.toList_modify]
   apply List.ext_getElem?
   intro i
   rw [List.getElem?_modify, List.getElem?_set]
   by_cases hij : j = i
   ·subst hij
    have hj' : j < es.size := by simpa using hj
    simp [hj']
   ·simp [hij]
  refine ⟨_, ?_, hs.Vt (l2 := C7 l k u) (es := es.modify j fun e => { e with key := ek k, val := ev_ u }) (c := c) ?_ ?_ ?_ (MI h.nodup k u)⟩
  ·simp [Instr.mapUpdate, run_underlying ht, FI h.heap, hK.chk, g1, hkey, Instr.keyThatStays, hK.stay, Od _ h.heap]
  ·rw [g4, hmod, List.map_set, List.map_set, h.map]
  ·have : (es.toList.set j { es.toList[j] with key := ek k, val := ev_ u }).map (·.born) = es.toList.map (·.born) := by
    rw [List.map_set]
    apply List.ext_getElem?
    intro i
    rw [List.getElem?_set]
    by_cases hij : j = i
    ·subst hij
     have hj' : j < es.size := by simpa using hj
     simp [hj']
    ·simp [hij]
   rw [hmod, this]
   exact h.born
  ·intro e he
   rw [hmod] at he
   rcases List.mem_or_eq_of_mem_set he with he | he
   ·exact h.lt e he
   ·rw [he]
    exact h.lt es.toList[j] (List.getElem_mem hj)
theorem IQ {t tk te : TypeId} {k : κ} {u : ν} (hF : Fr a n m) (hs : SL w0 F0 w (Mp ek ev_ r l :: ps)) (ht : P.underlying t = some (.map tk te)) (hK : Key P tk ek) (hx : ev m x = some (.map (some r))) (hy : ev m y = some (ek k)) (hz : ev m z = some (ev_ u))
  (K : ∀ w a, Fr a n m → SL w0 F0 w (Mp ek ev_ r (C7 l k u) :: ps) → wpList P ops Q l' a w) : wpList P ops Q (⟨none, .mapUpdate t x y z, ty, pos, aft, none⟩ :: l') a w := by
 obtain ⟨w', h1, h2⟩ := U7 (P := P) (k := k) (u := u) hs ht hK
 refine OQ hF (w' := w') (fun a n hF => ?_) rfl rfl fun a hF => K _ a hF h2
 simp [execOp, hF.eval hx, hF.eval hy, hF.eval hz, h1]
theorem N9 {α β : Type} (f : α → β) : ∀ (l : List α) (j : Nat), (l.eraseIdx j).map f = (l.map f).eraseIdx j
 | [], j => by simp
 | x :: l, 0 => by simp
 | x :: l, j + 1 => by simp [N9 f l j]
theorem Aax {t t2 tk te ty' : TypeId} {k : κ} (hs : SL w0 F0 w (Mp ek ev_ r l :: ps)) (ht : P.underlying t = some (.map tk te)) (hK : Key P tk ek) :
  ∃ w', (Builtin.delete_ #[t, t2] ty' #[.map (some r), ek k]).run P w = .ok (.tuple #[]) w' ∧ SL w0 F0 w' (Mp ek ev_ r (H8 l k) :: ps) := by
 obtain ⟨es, c, h⟩ := hs.YR (List.mem_cons_self)
 have hl : es.toList.length = l.length := by simpa using congrArg List.length h.map
 rcases Q5 (P := P) hK h k with ⟨g1, g2, g3, g4⟩ | ⟨j, u0, g1, g2, g3, g4, g5⟩
 ·refine ⟨_, ?_, hs.Vt (l2 := H8 l k) (es := es) (c := c) (by rw [g4]; exact h.map) h.born h.lt (by rw [g4]; exact h.nodup)⟩
  simp [Builtin.delete_, run_underlying ht, FI h.heap, hK.chk, g1, Od _ h.heap]
 ·have he : (es.eraseIdxIfInBounds j).toList = es.toList.eraseIdx j := by
   unfold Array.eraseIdxIfInBounds
   have hj' : j < es.size := by
    have := (List.getElem?_eq_some_iff.1 g3).1
    rw [← hl] at this
    simpa using this
   rw [dif_pos hj', Array.toList_eraseIdx]
  refine ⟨_, ?_, hs.Vt (l2 := H8 l k) (es := es.eraseIdxIfInBounds j) (c := c) ?_ ?_ ?_ ?_⟩
  ·simp [Builtin.delete_, run_underlying ht, FI h.heap, hK.chk, g1, Od _ h.heap]
  ·rw [he, g5, N9, h.map, N9]
  ·rw [he, N9]
   exact h.born.sublist (List.eraseIdx_sublist _ _)
  ·intro e hin
   rw [he] at hin
   exact h.lt e (List.mem_of_mem_eraseIdx hin)
  ·rw [g5, N9]
   exact h.nodup.sublist (List.eraseIdx_sublist _ _)
theorem Adv {t t2 tk te : TypeId} {k : κ} (hF : Fr a n m) (hs : SL w0 F0 w (Mp ek ev_ r l :: ps)) (ht : P.underlying t = some (.map tk te)) (hK : Key P tk ek) (hx : ev m x = some (.map (some r))) (hy : ev m y = some (ek k))
  (K : ∀ w a, Fr a n m → SL w0 F0 w (Mp ek ev_ r (H8 l k) :: ps) → wpList P ops Q l' a w) : wpList P ops Q (⟨none, .call { callee := .builtin .delete, args := #[x, y], argTypes := #[t, t2] }, ty, pos, aft, none⟩ :: l') a w := by
 obtain ⟨w', h1, h2⟩ := Aax (P := P) (t2 := t2) (ty' := ty) (k := k) hs ht hK
 refine Akj hF (v := .tuple #[]) (w' := w') (fun a n hF => ?_) rfl rfl fun a hF => K _ a hF h2
 simp [execOp, resolve, invoke, builtin, hF.eval hx, hF.eval hy, h1]
theorem W2 {t tk te : TypeId} {k : κ} {u : ν} (hF : Fr a n m) (hs : SL w0 F0 w (Mp ek ev_ r l :: ps)) (ht : P.underlying t = some (.map tk te)) (hK : Key P tk ek) (hx : ev m x = some (.map (some r))) (hy : ev m y = some (ek k)) (hz : ev m z = some (ev_ u))
  (K : ∀ w a, Fr a n m → SL w0 F0 w (Mp ek ev_ r (C7 l k u) :: ps) → wpList P ops Q l' a w) : wpList P ops Q (⟨none, .insert t x y z, ty, pos, aft, none⟩ :: l') a w := by
 obtain ⟨w', h1, h2⟩ := U7 (P := P) (k := k) (u := u) hs ht hK
 refine OQ hF (w' := w') (fun a n hF => ?_) rfl rfl fun a hF => K _ a hF h2
 simp [execOp, hF.eval hx, hF.eval hy, hF.eval hz, h1]
end
section
variable {P : Program} {w0 w : World} {F0 F : List Nat} {ps rest : List Ck} {m : List (Nat × Value)} {n d : Nat} {ty : TypeId} {pos : String} {aft : Array Edge} {x y z : Operand} {ops : Array Oper} {Q : Exit → Act → World → Prop} {a : Act} {l' : List Oper} {gd : Option (Nat × Bool)} {dd : Option Tmp}
abbrev clo (f : Nat) (caps : List Value) : Value := .func (.func f) #[] ⟨caps⟩
theorem Eg {f : Nat} {cs : List Operand} {vs : List Value} (h : Mt m cs = some vs) : EX P w m ⟨dd, .makeFunc (.func f) #[] cs.toArray, ty, pos, aft, gd⟩ (clo f vs) w := fun a n hF => by
 have h2 := hF.Nt h
 simp [execOp, Instr.makeFunc, h2, clo]
theorem El {f : Nat} {args : List Operand} {ats : Array TypeId} {vs caps : List Value} {S : Value → World → Prop} (hF : Fr a n m) (hf : DL P f = true) (ht : ev m x = some (clo f caps)) (hargs : Mt m args = some vs) (hc : Calls P f (vs ++ caps).toArray w (B8 S)) (hlt : Nat.blt d n = true)
  (k : ∀ v w a, S v w → Fr a n ((d, v) :: m) → wpList P ops Q l' a w) : wpList P ops Q (⟨some d, .call { callee := .value x, args := args.toArray, argTypes := ats }, ty, pos, aft, none⟩ :: l') a w :=
 wpList_plain rfl fun K hK => by
  unfold Oper.wp
  have h1 : (execOp a.eval ⟨some d, .call { callee := .value x, args := args.toArray, argTypes := ats }, ty, pos, aft, none⟩).run P w = .ok (.enter f (vs ++ caps).toArray) w := by
   have h2 := hF.Nt hargs
   simp [execOp, resolve, Deferred.ofValue, hF.eval ht, invoke, h2, Ig hf]
  rw [h1, Oper.upon_enter]
  refine hc.mono ?_
  rintro e w' ⟨v, rfl, hS⟩
  exact hK _ _ (k v w' _ hS (hF.put d v hlt))
end
section
variable {P : Program} {w : World} {m : List (Nat × Value)} {dd : Option Tmp} {ty : TypeId} {pos : String} {aft : Array Edge} {gd : Option (Nat × Bool)} {x y : Operand}
def EqAt (P : Program) (k : Nat) (t : TypeId) (p q : Value) (b : Bool) : Prop := ∀ d w, (Op.equalIn (d + k) t p q).run P w = .ok b w
theorem Nb {t : TypeId} {k : IntKind} {p q : Int} (h : P.underlying t = some (.int k)) : EqAt P 1 t (.int k p) (.int k q) (p == q) := fun d w => run_equalIn_int w d t k k p q h
theorem Aiy {t : TypeId} {p q : UInt8} (h : P.underlying t = some (.int .u8)) : EqAt P 1 t (.int .u8 (p.toNat : Int)) (.int .u8 (q.toNat : Int)) (p == q) := fun d w => by
 rw [run_equalIn_int w d t .u8 .u8 _ _ h]
 congr 1
 rw [Bool.eq_iff_iff, AG, AG, ← UInt8.toNat_inj]
 omega
theorem WS {t : TypeId} {p q : Bool} (h : P.underlying t = some .bool) : EqAt P 1 t (.bool p) (.bool q) (p == q) := fun d w => run_equalIn_bool' w d t p q h
theorem EqAt.up {k j : Nat} {t : TypeId} {p q : Value} {b : Bool} (h : EqAt P k t p q b) (hk : k ≤ j) : EqAt P j t p q b := fun d w => by
 have := h (d + (j - k)) w
 rwa [show d + (j - k) + k = d + j by omega] at this
def EqF (P : Program) (k : Nat) (xs ys : Array Value) (fs : List Field) (b : Bool) : Prop := ∀ d w, (Op.eqFields (d + k) xs ys fs).run P w = .ok b w
theorem SU {k : Nat} {xs ys : Array Value} : EqF P k xs ys [] true := fun d w => by simp [Op.eqFields]
theorem Us {k : Nat} {xs ys : Array Value} {f : Field} {fs : List Field} {p q : Value} {b c : Bool} (hn : (f.name != "_") = true) (hp : ∀ w, (part f.type xs f.offset).run P w = .ok p w) (hq : ∀ w, (part f.type ys f.offset).run P w = .ok q w)
  (he : EqAt P k f.type p q b) (hr : EqF P k xs ys fs c) : EqF P k xs ys (f :: fs) (b && c) := fun d w => by
 have hn' : f.name ≠ "_" := by simpa using hn
 simp only [Op.eqFields, A1 hn', Sem.run_bind, hp, hq, Result.andThen_ok, he d w, Sem.run_ite]
 cases b
 ·simp
 ·simpa using hr d w
theorem OB {t : TypeId} {cs : List Value} {o : Nat} {u : Value} (hb : Hd P t = true) (hu : cs[o]? = some u) (w : World) : (part t ⟨cs⟩ o).run P w = .ok u w := by
 simp [part, Ra hb, hu]
theorem UW {t : TypeId} {cs ds : List Value} {o sz : Nat} (hb : Gf P t sz = true) (hd : (cs.drop o).take sz = ds) (hl : o + sz ≤ cs.length) (w : World) : (part t ⟨cs⟩ o).run P w = .ok (.agg ⟨ds⟩) w := by
 simp [part, Pk hb]
 rw [← hd]
def TQ (P : Program) (t : TypeId) : Bool := (match P.underlying t with | some (.struct _) => true | _ => false) && !P.stoodInHeld t && !P.eqGuardType P.depth t
theorem QT {t : TypeId} (h : TQ P t = true) : P.underlying t = some (.struct (P.fieldsOf t)) ∧ P.stoodInHeld t = false ∧ P.eqGuardType P.depth t = false := by
 unfold TQ at h
 simp only [Amm, Bool.not_eq_true'] at h
 obtain ⟨⟨h1, h2⟩, h3⟩ := h
 refine ⟨?_, h2, h3⟩
 unfold Program.fieldsOf
 split at h1
 ·rename_i fs hu; rw [hu]
 ·cases h1
theorem SB {k : Nat} {t : TypeId} {fs : List Field} {xs ys : List Value} {b : Bool} (hb : TQ P t = true) (hf : (P.fieldsOf t).toList = fs) (h : EqF P k ⟨xs⟩ ⟨ys⟩ fs b) : EqAt P (k + 1) t (.agg ⟨xs⟩) (.agg ⟨ys⟩) b := fun d w => by
 obtain ⟨h1, h2, _⟩ := QT hb
 rw [← Nat.add_assoc, run_equalIn_struct w (d + k) t _ _ h1 h2, hf]
 exact h d w
theorem Aad {k : Nat} {t u : TypeId} {xs ys : List Value} {b : Bool} (hb : TQ P t = true) (hk : Nat.ble k 10000 = true) (hx : ev m x = some (.agg ⟨xs⟩)) (hy : ev m y = some (.agg ⟨ys⟩)) (h : EqAt P k t (.agg ⟨xs⟩) (.agg ⟨ys⟩) b) : EX P w m ⟨dd, .binOp .eql t x y u, ty, pos, aft, gd⟩ (.bool b) w := fun a n hF => by
 obtain ⟨_, _, h3⟩ := QT hb
 have h4 := (h.up (Nat.le_of_ble_eq_true hk)) 0 w
 rw [Nat.zero_add] at h4
 simp only [execOp, hF.eval hx, hF.eval hy]
 simp [run_eqGuard_agg w .eql t x y ⟨xs⟩ ⟨ys⟩ h3, run_eql_struct, h4]
theorem ZM {k : Nat} {t u : TypeId} {xs ys : List Value} {b : Bool} (hb : TQ P t = true) (hk : Nat.ble k 10000 = true) (hx : ev m x = some (.agg ⟨xs⟩)) (hy : ev m y = some (.agg ⟨ys⟩)) (h : EqAt P k t (.agg ⟨xs⟩) (.agg ⟨ys⟩) b) : EX P w m ⟨dd, .binOp .neq t x y u, ty, pos, aft, gd⟩ (.bool (!b)) w := fun a n hF => by
 obtain ⟨_, _, h3⟩ := QT hb
 have h4 := (h.up (Nat.le_of_ble_eq_true hk)) 0 w
 rw [Nat.zero_add] at h4
 simp only [execOp, hF.eval hx, hF.eval hy]
 simp [run_eqGuard_agg w .neq t x y ⟨xs⟩ ⟨ys⟩ h3, run_neq_struct, h4]
end
end Go.Pv
namespace Go.Pv
open Go Go.RowKit
section
variable {P : Program} {w0 w w' : World} {F0 F : List Nat} {ps rest : List Ck} {m : List (Nat × Value)} {n d : Nat} {ty : TypeId} {pos : String} {aft : Array Edge} {x y z : Operand} {ops : Array Oper} {Q : Exit → Act → World → Prop} {a : Act} {l' : List Oper} {gd : Option (Nat × Bool)} {dd : Option Tmp}
variable {α : Type} {T : Ty α} {enc : α → List Value} {v u : Value} {l r : List α}
theorem DG.Ahc : ∀ {F : List Nat} {l : List α} {cs : List Value} (k : Nat), DG T w F l cs → ∃ F', DG T w F' (l.take k) (cs.take (k * T.sz)) ∧ ∀ j ∈ F', j ∈ F
 | F, [], cs, k, h => ⟨[], by rw [h.1]; simp [DG], by simp⟩
 | F, x :: l, cs, 0, h => ⟨[], by simp [DG], by simp⟩
 | F, x :: l, cs, k + 1, ⟨c, d, F1, F2, e1, e2, h1, h2, hd⟩ => by
  obtain ⟨F', h3, h4⟩ := DG.Ahc k h2
  have hl := T.FZ (T.BO h1)
  subst e1 e2
  refine ⟨F1 ++ F', ⟨c, d.take (k * T.sz), F1, F', ?_, rfl, h1, h3, fun j hj hj' => hd j hj (h4 j hj')⟩, fun j hj => ?_⟩
  ·rw [Nat.succ_mul, ← hl, Nat.add_comm, List.take_length_add_append]
  ·rw [Amc] at hj ⊢
   rcases hj with hj | hj
   ·exact .inl hj
   ·exact .inr (h4 j hj)
theorem DG.Ag9 : ∀ {F : List Nat} {l : List α} {cs : List Value} (k : Nat), DG T w F l cs → ∃ F', DG T w F' (l.drop k) (cs.drop (k * T.sz)) ∧ ∀ j ∈ F', j ∈ F
 | F, [], cs, k, h => ⟨[], by rw [h.1]; simp [DG], by simp⟩
 | F, x :: l, cs, 0, h => ⟨F, by simpa using h, fun j hj => hj⟩
 | F, x :: l, cs, k + 1, ⟨c, d, F1, F2, e1, e2, h1, h2, hd⟩ => by
  obtain ⟨F', h3, h4⟩ := DG.Ag9 k h2
  have hl := T.FZ (T.BO h1)
  subst e1 e2
  refine ⟨F', ?_, fun j hj => by rw [Amc]; exact .inr (h4 j hj)⟩
  rw [List.drop_succ_cons, show (k + 1) * T.sz = c.length + k * T.sz by rw [Nat.succ_mul, hl, Nat.add_comm], List.drop_length_add_append]
  exact h3
theorem Acm {lo hi : Int} {A : Option Addr} {nn c : Nat} (h : slOwn T w F (.slice A nn c) l) (hr : GZ l lo hi = some r) :
  ∃ F', slOwn T w F' (.slice (if c = lo.toNat then A else A.map (·.add (lo.toNat * T.sz))) (hi.toNat - lo.toNat) (c - lo.toNat)) r ∧ ∀ k ∈ F', k ∈ F := by
 obtain ⟨⟨h0, h1, h2⟩, rfl⟩ := Px hr
 obtain ⟨cs, F1, F2, rfl, hrow, hE, hd⟩ := h
 obtain ⟨G1, hE1, hG1⟩ := hE.Ahc hi.toNat
 obtain ⟨G2, hE2, hG2⟩ := hE1.Ag9 lo.toNat
 have hcl := hE.len
 have hrl : ((l.take hi.toNat).drop lo.toNat).length = hi.toNat - lo.toNat := by simp; omega
 have hcut : ((cs.take (hi.toNat * T.sz)).drop (lo.toNat * T.sz)).length = (hi.toNat - lo.toNat) * T.sz := by
  have := hE2.len
  rw [this, hrl]
 rcases hrow.2 with ⟨hv, hn, rfl⟩ | ⟨g, o, cap, cur, e, fz, hv, rfl, hg, hnc, hoc, hfz, hcells⟩
 ·injection hv with hA hnn T8
  subst hA T8
  have e0 : lo.toNat = 0 := by omega
  have e1 : hi.toNat = 0 := by omega
  refine ⟨[] ++ G2, ⟨_, [], G2, rfl, ⟨by rw [hrl]; exact hcut, .inl ⟨by simp [e0, e1], by rw [hrl]; omega, rfl⟩⟩, hE2, by simp⟩, fun k hk => ?_⟩
  simp only [Amj] at hk ⊢
  exact hG1 k (hG2 k hk)
 ·injection hv with hA hnn T8
  subst hA T8
  refine ⟨[g] ++ G2, ⟨_, [g], G2, rfl, ⟨by rw [hrl]; exact hcut, .inr ?_⟩, hE2, fun k hk hk' => hd k hk (hG1 k (hG2 k hk'))⟩, fun k hk => ?_⟩
  ·rw [hrl]
   by_cases hc : c = lo.toNat
   ·refine ⟨g, o, c - lo.toNat, cur, e, fz, by rw [A1 hc], rfl, hg, by omega, ?_, hfz, fun j u hu => ?_⟩
    ·rw [hc, Nat.sub_self]; omega
    ·have hj := (List.getElem?_eq_some_iff.1 hu).1
     rw [hcut, show hi.toNat - lo.toNat = 0 by omega] at hj
     omega
   ·refine ⟨g, o + lo.toNat * T.sz, c - lo.toNat, cur, e, fz, by rw [Ay hc, Al7, J0], rfl, hg, by omega, ?_, hfz, fun j u hu => ?_⟩
    ·have : lo.toNat * T.sz + (c - lo.toNat) * T.sz = c * T.sz := by rw [← Nat.add_mul]; congr 1; omega
     omega
    ·rw [List.getElem?_drop, List.getElem?_take] at hu
     split at hu
     ·rw [← hcells _ _ hu]; congr 1; omega
     ·cases hu
  ·rw [Amc] at hk ⊢
   rcases hk with hk | hk
   ·exact .inl hk
   ·exact .inr (hG1 k (hG2 k hk))
theorem SL.YS {t e sz bytes : Nat} {z : Value → Bool} {lo hi : Int} (hs : SL w0 F0 w (Sl T v l :: ps)) (hb : Ey P t e sz bytes z = true) (hz : T.sz = sz) (hr : GZ l lo hi = some r)
  (lo' hi' : Option Int) (hlo : lo' = some lo ∨ (lo' = none ∧ lo = 0)) (hhi : hi' = some hi ∨ (hi' = none ∧ hi = l.length)) : ∃ v', ScA P t v lo' hi' v' ∧ SL w0 F0 w (Sl T v' r :: ps) := by
 obtain ⟨G, hrd⟩ := hs.BO (List.mem_cons_self)
 obtain ⟨A, c, rfl⟩ := hrd.form
 obtain ⟨hu, ti, zv, h5, h6, _⟩ := GX hb
 have T8 := Px hr
 obtain ⟨⟨h0, h1, h2⟩, _⟩ := T8
 obtain ⟨A', c', hv, hc', _⟩ := hrd
 injection hv with hA _ hc
 subst hA hc
 refine ⟨.slice (if c = lo.toNat then A else A.map (·.add (lo.toNat * T.sz))) (hi.toNat - lo.toNat) (c - lo.toNat), fun w m x l' h' kl kh dd ty pos aft g' hx hl' hh' a _ hF => ?_, ?_⟩
 ·have hL : (l'.map a.eval = none ∧ lo = 0) ∨ ∃ k, l'.map a.eval = some (.int k lo) := by
   rcases hlo with rfl | ⟨rfl, rfl⟩
   ·cases l' with
    | none => exact hl'.elim
    | some y => exact .inr ⟨kl, by rw [Al7, hF.eval hl']⟩
   ·cases l' with
    | none => exact .inl ⟨rfl, rfl⟩
    | some y => exact hl'.elim
  have hH : (h'.map a.eval = none ∧ hi = l.length) ∨ ∃ k, h'.map a.eval = some (.int k hi) := by
   rcases hhi with rfl | ⟨rfl, rfl⟩
   ·cases h' with
    | none => exact hh'.elim
    | some y => exact .inr ⟨kh, by rw [Al7, hF.eval hh']⟩
   ·cases h' with
    | none => exact .inl ⟨rfl, rfl⟩
    | some y => exact hh'.elim
  have := Wp (P := P) (w := w) (A := A) (c := c) hu h5 h0 h1 h2 hc' hL hH
  simp only [execOp, hF.eval hx, Option.map_none]
  simp [this, h6, hz]
 ·obtain ⟨F, ⟨F1, F2, e, g1, g2, hd⟩, hF⟩ := hs.st
  obtain ⟨F1', g3, g4⟩ := Acm (show slOwn T w F1 (.slice A l.length c) l from g1) hr
  exact ⟨hs.fm, F1' ++ F2, ⟨F1', F2, rfl, g3, g2, fun k hk => hd k (g4 k hk)⟩, fun k hk => hF k (by
   rw [e]
   rw [Amc] at hk ⊢
   rcases hk with hk | hk
   ·exact .inl (g4 k hk)
   ·exact .inr hk)⟩
end
def J8 {α : Type} (T : Ty α) (v : Value) (l : List α) (i : Nat) (cs : List Value) : Ck :=
 ⟨fun w F => ∃ c1 c2 F1 F2 F3, F = F1 ++ (F2 ++ F3) ∧ i < l.length ∧ cs.length = T.sz ∧ Hp T.sz w F1 v l.length (c1 ++ cs ++ c2) ∧ DG T w F2 (l.take i) c1 ∧ DG T w F3 (l.drop (i + 1)) c2 ∧ (∀ k ∈ F1, k ∉ F2 ∧ k ∉ F3) ∧ ∀ k ∈ F2, k ∉ F3,
  fun ⟨c1, c2, F1, F2, F3, e, hi, hl, h1, h2, h3, hd, hd'⟩ hk => ⟨c1, c2, F1, F2, F3, e, hi, hl, h1.loc (fun k h => hk k (by simp [e, h])), h2.loc (fun k h => hk k (by simp [e, h])), h3.loc (fun k h => hk k (by simp [e, h])), hd, hd'⟩,
  fun ⟨c1, c2, F1, F2, F3, e, hi, hl, h1, h2, h3, hd, hd'⟩ k hk => by
   rw [e, Amc, Amc] at hk
   rcases hk with hk | hk | hk
   ·exact h1.lt k hk
   ·exact h2.lt k hk
   ·exact h3.lt k hk⟩
section
variable {P : Program} {w0 w w' : World} {F0 F : List Nat} {ps rest : List Ck} {m : List (Nat × Value)} {n d : Nat} {ty : TypeId} {pos : String} {aft : Array Edge} {x y z : Operand} {ops : Array Oper} {Q : Exit → Act → World → Prop} {a : Act} {l' : List Oper} {gd : Option (Nat × Bool)} {dd : Option Tmp}
variable {α : Type} {T : Ty α} {v u : Value} {l r : List α}
theorem DG.split : ∀ {F : List Nat} {l : List α} {cs : List Value} (i : Nat) (x : α), DG T w F l cs → l[i]? = some x →
  ∃ c1 c c2 F1 Fx F2, cs = c1 ++ c ++ c2 ∧ F = F1 ++ (Fx ++ F2) ∧ DG T w F1 (l.take i) c1 ∧ T.own w Fx x c ∧ DG T w F2 (l.drop (i + 1)) c2 ∧ (∀ k ∈ F1, k ∉ Fx ∧ k ∉ F2) ∧ ∀ k ∈ Fx, k ∉ F2
 | _, [], _, i, x, _, hx => by simp at hx
 | F, y :: l, cs, 0, x, ⟨c, d, F1, F2, e1, e2, h1, h2, hd⟩, hx => by
  simp only [List.getElem?_cons_zero, Option.some.injEq] at hx
  subst hx
  exact ⟨[], c, d, [], F1, F2, by simp [e1], by simp [e2], ⟨rfl, rfl⟩, h1, h2, by simp, hd⟩
 | F, y :: l, cs, i + 1, x, ⟨c, d, F1, F2, e1, e2, h1, h2, hd⟩, hx => by
  simp only [List.getElem?_cons_succ] at hx
  obtain ⟨c1, cx, c2, G1, Gx, G2, e3, e4, h3, h4, h5, hd1, hd2⟩ := DG.split i x h2 hx
  subst e1 e2 e3 e4
  refine ⟨c ++ c1, cx, c2, F1 ++ G1, Gx, G2, by simp, by simp, ⟨c, c1, F1, G1, rfl, rfl, h1, h3, fun k hk hk' => hd k hk (by simp [hk'])⟩, h4, by simpa using h5, fun k hk => ?_, hd2⟩
  rw [Amc] at hk
  rcases hk with hk | hk
  ·exact ⟨fun h => hd k hk (by simp [h]), fun h => hd k hk (by simp [h])⟩
  ·exact hd1 k hk
theorem DG.join {F1 Fx F2 : List Nat} {c1 c c2 : List Value} {i : Nat} {x : α} (hi : i < l.length) (h1 : DG T w F1 (l.take i) c1) (hx : T.own w Fx x c) (h2 : DG T w F2 (l.drop (i + 1)) c2) (hd : ∀ k ∈ F1, k ∉ Fx ∧ k ∉ F2) (hd' : ∀ k ∈ Fx, k ∉ F2) :
  DG T w (F1 ++ (Fx ++ F2)) (l.set i x) (c1 ++ c ++ c2) := by
 have e : l.set i x = l.take i ++ (x :: l.drop (i + 1)) := by rw [List.set_eq_take_append_cons_drop, A1 hi]
 rw [e, Aml]
 refine DG.append ⟨c1, c ++ c2, F1, Fx ++ F2, rfl, rfl, h1, ⟨c, c2, Fx, F2, rfl, rfl, hx, h2, hd'⟩, fun k hk hk' => ?_⟩
 rw [Amc] at hk'
 rcases hk' with hk' | hk'
 ·exact (hd k hk).1 hk'
 ·exact (hd k hk).2 hk'
theorem SL.focus {i : Int} {x : α} (hs : SL w0 F0 w (Sl T v l :: ps)) (hx : idx l i = some x) : ∃ cs A c, v = .slice (some A) l.length c ∧ SL w0 F0 w (J8 T v l i.toNat cs :: Dt T x cs :: ps) := by
 obtain ⟨h0, h1, h2⟩ := Dd hx
 obtain ⟨F, ⟨G1, G2, e, ⟨cs, F1, F2, rfl, hrow, hE, hd⟩, hst, hdis⟩, hF⟩ := hs.st
 obtain ⟨c1, c, c2, H1, Hx, H2, rfl, rfl, g1, g2, g3, gd1, gd2⟩ := hE.split i.toNat x h2
 have hil : i.toNat < l.length := by omega
 have hv : ∃ A c, v = .slice (some A) l.length c := by
  rcases hrow.2 with ⟨_, h, _⟩ | ⟨g, o, cap, cur, e, fz, hv, _⟩
  ·omega
  ·exact ⟨_, _, hv⟩
 obtain ⟨A, cp, rfl⟩ := hv
 refine ⟨c, A, cp, rfl, hs.fm, (F1 ++ (H1 ++ H2)) ++ (Hx ++ G2), ⟨F1 ++ (H1 ++ H2), Hx ++ G2, rfl, ⟨c1, c2, F1, H1, H2, rfl, hil, T.FZ (T.BO g2), hrow, g1, g3, fun k hk => ⟨fun h => hd k hk (by simp [h]), fun h => hd k hk (by simp [h])⟩, fun k hk => (gd1 k hk).2⟩, ⟨Hx, G2, rfl, g2, hst, fun k hk => hdis k (by simp [hk])⟩, fun k hk hk' => ?_⟩, fun k hk => hF k ?_⟩
 ·simp only [Amc] at hk hk'
  rcases hk' with hk' | hk'
  ·rcases hk with hk | hk | hk
   ·exact hd k hk (by simp [hk'])
   ·exact (gd1 k hk).1 hk'
   ·exact gd2 k hk' hk
  ·exact hdis k (by simp only [Amc]; rcases hk with hk | hk | hk <;> simp [hk]) hk'
 ·rw [e]
  simp only [Amc] at hk ⊢
  rcases hk with (hk | hk | hk) | hk | hk <;> simp [hk]
theorem SL.Aaf {i : Nat} {x : α} {cs : List Value} (hs : SL w0 F0 w (J8 T v l i cs :: Dt T x cs :: ps)) : SL w0 F0 w (Sl T v (l.set i x) :: ps) := by
 obtain ⟨F, ⟨G1, G2, e, ⟨c1, c2, F1, F2, F3, rfl, hi, hl, hrow, g1, g3, gd, gd'⟩, ⟨Hx, G3, rfl, g2, hst, hd2⟩, hdis⟩, hF⟩ := hs.st
 refine ⟨hs.fm, (F1 ++ (F2 ++ (Hx ++ F3))) ++ G3, ⟨F1 ++ (F2 ++ (Hx ++ F3)), G3, rfl, ⟨c1 ++ cs ++ c2, F1, F2 ++ (Hx ++ F3), rfl, by rw [List.length_set]; exact hrow, DG.join hi g1 g2 g3 (fun k hk => ⟨fun h => hdis k (by simp [hk]) (by simp [h]), gd' k hk⟩) (fun k hk h => hdis k (by simp [h]) (by simp [hk])), fun k hk hk' => ?_⟩, hst, fun k hk hk' => ?_⟩, fun k hk => hF k ?_⟩
 ·simp only [Amc] at hk'
  rcases hk' with hk' | hk' | hk'
  ·exact (gd k hk).1 hk'
  ·exact hdis k (by simp [hk]) (by simp [hk'])
  ·exact (gd k hk).2 hk'
 ·simp only [Amc] at hk
  rcases hk with hk | hk | hk | hk
  ·exact hdis k (by simp [hk]) (by simp [hk'])
  ·exact hdis k (by simp [hk]) (by simp [hk'])
  ·exact hd2 k hk hk'
  ·exact hdis k (by simp [hk]) (by simp [hk'])
 ·rw [e]
  simp only [Amc] at hk ⊢
  rcases hk with (hk | hk | hk | hk) | hk <;> simp [hk]
theorem SL.Aee {i : Nat} {cs : List Value} {A : Addr} {k c : Nat} (hs : SL w0 F0 w ps) (hm : J8 T v l i cs ∈ ps) (hv : v = .slice (some A) k c) : Cells w (A.add (i * T.sz)) cs := by
 obtain ⟨F, h1, _⟩ := hs.st
 obtain ⟨G, ⟨c1, c2, F1, F2, F3, rfl, hi, hl, hrow, g1, g3, gd, gd'⟩, _⟩ := Ij hm h1
 intro j u hu
 have hl1 : c1.length = i * T.sz := by rw [g1.len, Amb, Nat.min_eq_left (by omega)]
 have hju := (List.getElem?_eq_some_iff.1 hu).1
 have h2 : (c1 ++ cs ++ c2)[i * T.sz + j]? = some u := by
  rw [Aml, List.getElem?_append_right (by omega), hl1, Nat.add_sub_cancel_left, List.getElem?_append_left hju]
  exact hu
 obtain ⟨A', c', hv', _, hc⟩ := hrow.cells
 rw [hv] at hv'
 injection hv' with hA _ _
 obtain ⟨ad, rfl, _, h3⟩ := hc _ _ h2
 cases hA
 rw [add_add']
 exact h3
theorem TK {t e sz bytes : Nat} {z : Value → Bool} {i : Int} {A : Addr} {k c : Nat} {kk : IntKind} (hb : Ey P t e sz bytes z = true) (hv : v = .slice (some A) k c) (h0 : 0 ≤ i) (h1 : i < k) (hx : ev m x = some v) (hy : ev m y = some (.int kk i)) :
  EX P w m ⟨dd, .indexAddr t x y, ty, pos, aft, gd⟩ (.pointer (some (A.add (i.toNat * sz)))) w := fun a _ hF => by
 subst hv
 obtain ⟨hu, ti, zv, h5, h6, _⟩ := GX hb
 have e1 : (0 ≤ i ∧ i < (k : Int)) := ⟨h0, h1⟩
 simp [execOp, hF.eval hx, hF.eval hy, Instr.indexAt, asIntOf, run_underlying hu, e1, sizeOf, typeInfo, h5, h6]
theorem SL.Aed {i o : Nat} {cs ds : List Value} {A : Addr} {k c : Nat} (hs : SL w0 F0 w (J8 T v l i cs :: ps)) (hv : v = .slice (some A) k c) (hlen : o + ds.length ≤ cs.length) (h1 : ∀ u ∈ ds, u.oneCell' = true) :
  ∃ w', (storeCells ((A.add (i * T.sz)).add o) ds).run P w = .ok () w' ∧ SL w0 F0 w' (J8 T v l i (cs.take o ++ ds ++ cs.drop (o + ds.length)) :: ps) := by
 subst hv
 obtain ⟨F, hst, hF0, _, hcl⟩ := SL.open_ (ps := [J8 T (.slice (some A) k c) l i cs]) hs
 obtain ⟨c1, c2, F1, F2, F3, rfl, hi, hl, hrow, g1, g3, gd, gd'⟩ := Ba.J5 hst
 have hk : k = l.length := by
  obtain ⟨A', c', hv, _⟩ := hrow.cells
  injection hv
 subst hk
 have hl1 : c1.length = i * T.sz := by rw [g1.len, Amb, Nat.min_eq_left (by omega)]
 have hfit : (i * T.sz + o) + ds.length ≤ l.length * T.sz := by
  have := Nat.mul_le_mul_right T.sz (show i + 1 ≤ l.length by omega)
  rw [Nat.succ_mul] at this
  omega
 obtain ⟨w', h5, h6, h7⟩ := hrow.write (P := P) (o := i * T.sz + o) (ys := ds) hfit h1
 have e1 : (c1 ++ cs ++ c2).take (i * T.sz + o) ++ ds ++ (c1 ++ cs ++ c2).drop (i * T.sz + o + ds.length) = c1 ++ (cs.take o ++ ds ++ cs.drop (o + ds.length)) ++ c2 := by
  rw [← hl1, Aml c1, List.take_length_add_append, Nat.add_assoc, List.drop_length_add_append, List.take_append_of_le_length (by omega), List.drop_append_of_le_length (by omega)]
  simp only [Aml]
 rw [e1] at h6
 have hF2 : ∀ k ∈ F2, w'.heap[k]? = w.heap[k]? := fun k hk => h7.block k (g1.lt k hk) (fun h => (gd k h).1 hk)
 have hF3 : ∀ k ∈ F3, w'.heap[k]? = w.heap[k]? := fun k hk => h7.block k (g3.lt k hk) (fun h => (gd k h).2 hk)
 refine ⟨w', by rw [add_add']; exact h5, hcl w' [J8 T (.slice (some A) l.length c) l i (cs.take o ++ ds ++ cs.drop (o + ds.length))] ⟨⟨h7.os, h7.tape, h7.output, h7.size, fun k hk hn => h7.block k hk (fun h => hn (by simp [h]))⟩, F1 ++ (F2 ++ F3), Ba.one (p := J8 T (.slice (some A) l.length c) l i (cs.take o ++ ds ++ cs.drop (o + ds.length))) ⟨c1, c2, F1, F2, F3, rfl, hi, ?_, h6, g1.loc hF2, g3.loc hF3, gd, gd'⟩, fun k hk => .inl hk⟩⟩
 simp only [Ama, Amb, List.length_drop]
 omega
theorem Ab4 {i o : Nat} {cs ds : List Value} {A : Addr} {k c : Nat} {t' : TypeId} {ad : Addr} (hF : Fr a n m) (hs : SL w0 F0 w (J8 T v l i cs :: ps)) (hv : v = .slice (some A) k c) (hx : ev m x = some (.pointer (some ad))) (had : ad = (A.add (i * T.sz)).add o) (hy : ev m y = some u)
  (hu : u.cells = ⟨ds⟩) (hi : (P.info? t').map (·.size) = some ds.length) (hlen : Nat.ble (o + ds.length) cs.length = true) (h1 : ∀ u ∈ ds, u.oneCell' = true)
  (K : ∀ w a, Fr a n m → SL w0 F0 w (J8 T v l i (cs.take o ++ ds ++ cs.drop (o + ds.length)) :: ps) → wpList P ops Q l' a w) : wpList P ops Q (⟨none, .store t' x y, ty, pos, aft, none⟩ :: l') a w := by
 obtain ⟨ti, hi, hsz⟩ := Option.map_eq_some_iff.1 hi
 obtain ⟨w', h3, h2⟩ := SL.Aed (P := P) hs hv (Nat.le_of_ble_eq_true hlen) h1
 subst had
 refine OQ hF (w' := w') (fun a n hF => ?_) rfl rfl fun a hF => K _ a hF h2
 simp [execOp, hF.eval hx, hF.eval hy, Instr.storeAt, Instr.sureAddr, storeVar, sizeOf, typeInfo, hi, hsz, hu, h3]
theorem SL.Aja {β : Type} {B : Ty β} {p : α × β} {cs : List Value} (hs : SL w0 F0 w (Dt (T.pair B) p cs :: ps)) : ∃ c d, cs = c ++ d ∧ SL w0 F0 w (Dt T p.1 c :: Dt B p.2 d :: ps) := by
 obtain ⟨F, ⟨G1, G2, e, ⟨c, d, F1, F2, rfl, rfl, h1, h2, hd⟩, hst, hdis⟩, hF⟩ := hs.st
 refine ⟨c, d, rfl, hs.fm, F1 ++ (F2 ++ G2), ⟨F1, F2 ++ G2, rfl, h1, ⟨F2, G2, rfl, h2, hst, fun k hk => hdis k (by simp [hk])⟩, fun k hk hk' => ?_⟩, fun k hk => hF k (by rw [e]; simpa using hk)⟩
 rw [Amc] at hk'
 rcases hk' with hk' | hk'
 ·exact hd k hk hk'
 ·exact hdis k (by simp [hk]) hk'
theorem SL.Akk {β : Type} {x : β} {f : β → α} {c : List Value} (hs : SL w0 F0 w (Dt (T.iso f) x c :: ps)) : SL w0 F0 w (Dt T (f x) c :: ps) := hs
theorem SL.Aag {enc : α → List Value} {x : α} {cs : List Value} (hFl : Flat T enc) (hs : SL w0 F0 w (Dt T x cs :: ps)) : cs = enc x ∧ SL w0 F0 w ps := by
 obtain ⟨F, ⟨G1, G2, e, h1, hst, hdis⟩, hF⟩ := hs.st
 obtain ⟨rfl, rfl⟩ := hFl.own.1 h1
 exact ⟨rfl, hs.fm, G2, hst, fun k hk => hF k (by rw [e]; simpa using hk)⟩
theorem SL.f6 {a b c d e f g : Ck} {r : List Ck} (h : SL w0 F0 w (a :: b :: c :: d :: e :: f :: g :: r)) : SL w0 F0 w (g :: a :: b :: c :: d :: e :: f :: r) := h.fr 6 rfl
theorem SL.f7 {a b c d e f g i : Ck} {r : List Ck} (h : SL w0 F0 w (a :: b :: c :: d :: e :: f :: g :: i :: r)) : SL w0 F0 w (i :: a :: b :: c :: d :: e :: f :: g :: r) := h.fr 7 rfl
theorem SL.f8 {a b c d e f g i j : Ck} {r : List Ck} (h : SL w0 F0 w (a :: b :: c :: d :: e :: f :: g :: i :: j :: r)) : SL w0 F0 w (j :: a :: b :: c :: d :: e :: f :: g :: i :: r) := h.fr 8 rfl
theorem SL.f9 {a b c d e f g i j k : Ck} {r : List Ck} (h : SL w0 F0 w (a :: b :: c :: d :: e :: f :: g :: i :: j :: k :: r)) : SL w0 F0 w (k :: a :: b :: c :: d :: e :: f :: g :: i :: j :: r) := h.fr 9 rfl
theorem SL.f10 {a b c d e f g i j k l : Ck} {r : List Ck} (h : SL w0 F0 w (a :: b :: c :: d :: e :: f :: g :: i :: j :: k :: l :: r)) : SL w0 F0 w (l :: a :: b :: c :: d :: e :: f :: g :: i :: j :: k :: r) := h.fr 10 rfl
theorem SL.f11 {a b c d e f g i j k l q : Ck} {r : List Ck} (h : SL w0 F0 w (a :: b :: c :: d :: e :: f :: g :: i :: j :: k :: l :: q :: r)) : SL w0 F0 w (q :: a :: b :: c :: d :: e :: f :: g :: i :: j :: k :: l :: r) := h.fr 11 rfl
theorem SL.f12 {a b c d e f g i j k l q p : Ck} {r : List Ck} (h : SL w0 F0 w (a :: b :: c :: d :: e :: f :: g :: i :: j :: k :: l :: q :: p :: r)) : SL w0 F0 w (p :: a :: b :: c :: d :: e :: f :: g :: i :: j :: k :: l :: q :: r) := h.fr 12 rfl
end
section
variable {P : Program} {m m' : List (Nat × Value)} {n d : Nat} {ops : Array Oper} {C : World → Prop} {v : Value} {rest rest' : List Oper}
theorem QR.Alh {j dj : Nat} {b : Bool} {f : Nat} {args : List Operand} {ats : Array TypeId} {vs : List Value} {ty : TypeId} {pos : String} {aft : Array Edge} (hj : (ops[j]?).bind (·.dst) = some dj) (hb : look m dj = some (.bool b)) (hf : DL P f = true) (hargs : Mt m args = some vs)
  (hc : ∀ w, C w → Calls P f vs.toArray w (B8 fun u w' => u = v ∧ C w')) (k : QR P n ops C ((d, v) :: m) rest m' rest') (hlt : Nat.blt d n = true := by rfl) :
  QR P n ops C m (⟨some d, .call { callee := .value (.func f), args := args.toArray, argTypes := ats }, ty, pos, aft, some (j, b)⟩ :: rest) m' rest' :=
 fun Q a hF k' => by
  unfold wpQuiet
  rw [A1 (by simp [Region.wanted, IG hF hj hb])]
  refine ⟨v, fun w hw => ?_, ?_⟩
  ·unfold Oper.quietAt
   have h2 := hF.Nt hargs
   have h1 : (execOp a.eval ⟨some d, .call { callee := .value (.func f), args := args.toArray, argTypes := ats }, ty, pos, aft, some (j, b)⟩).run P w = .ok (.enter f vs.toArray) w := by
    simp [execOp, resolve, Deferred.ofValue, Act.eval, invoke, h2, Ig hf]
   rw [h1]
   exact ⟨rfl, (hc w hw).mono fun e w' ⟨u, he, hu, hw'⟩ => ⟨by rw [he, hu], hw'⟩⟩
  ·exact k Q _ (hF.put d v hlt) k'
end
theorem Xo {α : Type} {T : Ty α} {w : World} {F0 G : List Nat} {x : List α} {cs : List Value} (h : (Ty.slice T).rd w G x cs) (hG : ∀ k ∈ G, k < w.heap.size ∧ k ∉ F0) : ∃ v, cs = [v] ∧ Rd T w F0 v x := by
 obtain ⟨v, rfl, h⟩ := h
 exact ⟨v, rfl, G, h, hG⟩
theorem TB {cs ds : List Value} (o : Nat) (h : (cs.drop o).take ds.length = ds) : ∀ j u, ds[j]? = some u → cs[o + j]? = some u := by
 intro j u hu
 rw [← h, List.getElem?_take] at hu
 split at hu
 ·rw [List.getElem?_drop] at hu; exact hu
 ·cases hu
def D5 (l : List Int) : List Int := l.mergeSort fun x y => decide (x ≤ y)
def Ol (l : List Int) : Option (List Int) := if l.length < 4611686018427387904 then some (D5 l) else none
end Go.Pv
namespace Go.Pv
open Go Go.RowKit
def Agx (w0 : World) (F0 : List Nat) : List Nat := (List.range w0.heap.size).filter fun k => decide (k ∉ F0)
structure Conv {α : Type} (w0 : World) (F0 : List Nat) (A B : Ty α) : Prop where
 sz : A.sz = B.sz
 rd : ∀ w G x cs, Fm w0 F0 w → A.rd w G x cs → B.rd w (G ++ Agx w0 F0) x cs
section
variable {α β : Type} {w0 w : World} {F0 : List Nat}
theorem Conv.refl (A : Ty α) : Conv w0 F0 A A := ⟨rfl, fun w G x cs _ h => A.FA h (fun k hk => List.mem_append_left _ hk)⟩
theorem Conv.pair {A A' : Ty α} {B B' : Ty β} (h1 : Conv w0 F0 A A') (h2 : Conv w0 F0 B B') : Conv w0 F0 (A.pair B) (A'.pair B') :=
 ⟨by show A.sz + B.sz = A'.sz + B'.sz; rw [h1.sz, h2.sz], fun w G x cs hf ⟨c, d, e, a1, a2⟩ => ⟨c, d, e, h1.rd _ _ _ _ hf a1, h2.rd _ _ _ _ hf a2⟩⟩
theorem Conv.iso {A A' : Ty α} (f : β → α) (h1 : Conv w0 F0 A A') : Conv w0 F0 (A.iso f) (A'.iso f) := ⟨h1.sz, fun w G x cs hf h => h1.rd w G (f x) cs hf h⟩
theorem Conv.row {A B : Ty α} (h : Conv w0 F0 A B) {G : List Nat} {v : Value} {l : List α} (hf : Fm w0 F0 w) (hr : Eu A w G v l) : Eu B w (G ++ Agx w0 F0) v l := by
 obtain ⟨a, c, h1, h2, h3⟩ := hr
 refine ⟨a, c, h1, h2, fun i x hx => ?_⟩
 obtain ⟨ad, cs, b1, b2, b3, b4⟩ := h3 i x hx
 exact ⟨ad, cs, b1, List.mem_append_left _ b2, by rw [← h.sz]; exact b3, h.rd _ _ _ _ hf b4⟩
theorem Conv.slice {A B : Ty α} (h : Conv w0 F0 A B) : Conv w0 F0 A.slice B.slice := ⟨rfl, fun w G x cs hf ⟨v, e, hv⟩ => ⟨v, e, h.row hf hv⟩⟩
theorem SL.up {wb w w1 : World} {Fb F : List Nat} {ps : List Ck} (hb : Fm wb Fb w) (hB : ∀ k ∈ F, k ∈ Fb ∨ wb.heap.size ≤ k) (s : SL w F w1 ps) : SL wb Fb w1 ps := by
 obtain ⟨G, hs, hG⟩ := s.st
 exact ⟨hb.trans s.fm hB, G, hs, fun k hk => by
  rcases hG k hk with h | h
  ·exact hB k h
  ·exact .inr (Nat.le_trans hb.size h)⟩
end
end Go.Pv
namespace Go.Pv
open Go Go.RowKit
def Bb {n : Nat} (l : Vector UInt8 n) : List Value := l.toList.map fun b => .int .u8 (b.toNat : Int)
@[simp] theorem V7 {n : Nat} (l : Vector UInt8 n) : (Bb l).length = n := by simp [Bb]
theorem On {n : Nat} {l : Vector UInt8 n} {i : Nat} {x : UInt8} (h : l.toList[i]? = some x) : (Bb l)[i]? = some (.int .u8 (x.toNat : Int)) := by
 unfold Bb
 rw [List.getElem?_map, h]
 rfl
theorem BH {n : Nat} (l : Vector UInt8 n) : ∀ u ∈ Bb l, u.oneCell' = true := by
 intro u hu
 unfold Bb at hu
 rw [Amg] at hu
 obtain ⟨x, _, rfl⟩ := hu
 rfl
def Ty.Abv (n : Nat) : Ty (Vector UInt8 n) where
 sz := n
 rd _ _ x cs := cs = Bb x
 own _ F x cs := cs = Bb x ∧ F = []
 FZ h := by rw [h, V7]
 KG h u hu := by rw [h] at hu; exact BH _ u hu
 KI h _ := h
 FA h _ := h
 IC h _ := h
 JL h k hk := by rw [h.2] at hk; cases hk
 BO h := h.1
theorem Flat.Abv (n : Nat) : Flat (Ty.Abv n) (fun x => Bb x) := ⟨Iff.rfl, Iff.rfl⟩
def H5 {n : Nat} (l : Vector UInt8 n) (i : Int) (y : UInt8) : Vector UInt8 n := l.setIfInBounds i.toNat y
theorem Ah6 {n : Nat} (l : Vector UInt8 n) (i : Int) (y : UInt8) : Bb (H5 l i y) = (Bb l).set i.toNat (.int .u8 (y.toNat : Int)) := by
 unfold Bb H5
 rw [← List.map_set]
 congr 1
 simp
theorem SS {n : Nat} {l : Vector UInt8 n} {i : Int} {x : UInt8} (h : idx l.toList i = some x) : 0 ≤ i ∧ i < n ∧ l.toList[i.toNat]? = some x := by
 obtain ⟨h0, h1, h2⟩ := Dd h
 exact ⟨h0, by simpa using h1, h2⟩
section
variable {P : Program} {w0 w : World} {F0 : List Nat} {ps : List Ck} {m : List (Nat × Value)} {n d k : Nat} {ty : TypeId} {pos : String} {aft : Array Edge} {x y : Operand} {ops : Array Oper} {Q : Exit → Act → World → Prop} {a : Act} {l' : List Oper} {gd : Option (Nat × Bool)} {dd : Option Tmp} {l : Vector UInt8 k} {pre : List Value}
theorem K5 {t e g o : Nat} {i : Int} {kk : IntKind} {x0 : UInt8} (hb : Rs P t e k 1 = true) (hx0 : idx l.toList i = some x0) (hx : ev m x = some (.pointer (some ⟨g, o, none⟩))) (hy : ev m y = some (.int kk i)) :
  EX P w m ⟨dd, .indexAddr t x y, ty, pos, aft, gd⟩ (.pointer (some ⟨g, o + i.toNat, none⟩)) w := fun a _ hF => by
 obtain ⟨h0, h1, _⟩ := SS hx0
 obtain ⟨hu, ti, h5, h6⟩ := LP hb
 have e1 : (0 ≤ i ∧ i < (k : Int)) := ⟨h0, h1⟩
 simp [execOp, hF.eval hx, hF.eval hy, Instr.indexAt, asIntOf, run_underlying hu, e1, sizeOf, typeInfo, h5, h6, J0, Instr.sureAddr]
theorem SL.QF {g t o : Nat} {i : Int} {x0 : UInt8} (hs : SL w0 F0 w ps) (hm : AB g t (pre ++ Bb l) ∈ ps) (hp : pre.length = o) (hx0 : idx l.toList i = some x0) : w.cell? ⟨g, o + i.toNat, none⟩ = some (.int .u8 (x0.toNat : Int)) := by
 obtain ⟨h0, h1, h2⟩ := SS hx0
 subst hp
 refine hs.BP hm ?_
 rw [List.getElem?_append_right (by omega), Nat.add_sub_cancel_left]
 exact On h2
theorem Po {g t t' o : Nat} {i : Int} {x0 y' : UInt8} (hF : Fr a n m) (hs : SL w0 F0 w (AB g t (pre ++ Bb l) :: ps)) (hp : pre.length = o) (hx0 : idx l.toList i = some x0) (hx : ev m x = some (.pointer (some ⟨g, o + i.toNat, none⟩))) (hy : ev m y = some (.int .u8 (y'.toNat : Int)))
  (hi : (P.info? t').map (·.size) = some 1) (kk : ∀ w a, Fr a n m → SL w0 F0 w (AB g t (pre ++ Bb (H5 l i y')) :: ps) → wpList P ops Q l' a w) : wpList P ops Q (⟨none, .store t' x y, ty, pos, aft, none⟩ :: l') a w := by
 obtain ⟨h0, h1, h2⟩ := SS hx0
 subst hp
 refine MN hF hs hx hy hi rfl rfl (u := .int .u8 (x0.toNat : Int)) (by rw [List.getElem?_append_right (by omega), Nat.add_sub_cancel_left]; exact On h2) fun w a hF hs => kk w a hF ?_
 rw [List.set_append_right _ _ (by omega), Nat.add_sub_cancel_left] at hs
 rw [Ah6]
 exact hs
theorem SL.WV {g t o : Nat} (hs : SL w0 F0 w ps) (hm : AB g t (pre ++ Bb l) ∈ ps) (hp : pre.length = o) : Cells w ⟨g, o, none⟩ (Bb l) := by
 subst hp
 exact hs.Do hm fun j u hu => by rw [List.getElem?_append_right (by omega), Nat.add_sub_cancel_left]; exact hu
theorem Aex {t g o tt : Nat} (hs : SL w0 F0 w ps) (hm : AB g tt (pre ++ Bb l) ∈ ps) (hp : pre.length = o) (hb : Gf P t k = true) (hx : ev m x = some (.pointer (some ⟨g, o, none⟩))) : EX P w m ⟨dd, .load t x, ty, pos, aft, gd⟩ (.agg ⟨Bb l⟩) w :=
 Iu hb hx (hs.WV hm hp) (V7 l)
theorem Aca {t e : Nat} {i : Int} {kk : IntKind} {x0 : UInt8} (hb : Rs P t e k 1 = true) (hn : Hd P e = true) (hx : ev m x = some (.agg ⟨Bb l⟩)) (hy : ev m y = some (.int kk i)) (hx0 : idx l.toList i = some x0) :
  EX P w m ⟨dd, .index t x y, ty, pos, aft, gd⟩ (.int .u8 (x0.toNat : Int)) w := fun a _ hF => by
 obtain ⟨h0, h1, h2⟩ := SS hx0
 obtain ⟨hu, ti, h5, h6⟩ := LP hb
 have e1 : (0 ≤ i ∧ i < (k : Int)) := ⟨h0, h1⟩
 have h3 := On h2
 have h4 : (part e ⟨Bb l⟩ (i.toNat * 1)).run P w = .ok (.int .u8 (x0.toNat : Int)) w := OB hn (by rw [Nat.mul_one]; exact h3) w
 simp only [execOp, hF.eval hx, hF.eval hy]
 rw [Nat.mul_one] at h4
 simp [Instr.index, asIntOf, run_underlying hu, e1, sizeOf, typeInfo, h5, h6, h4]
theorem SX {cs : List Value} {o : Nat} (hp : pre.length = o) (he : cs = pre ++ Bb l) : (cs.drop o).take k = Bb l := by
 subst hp he
 rw [List.drop_append_of_le_length (Nat.le_refl _), List.drop_length, Amj]
 exact List.take_of_length_le (by simp)
theorem Br {g t t' : Nat} {cs ds : List Value} (hF : Fr a n m) (hs : SL w0 F0 w (AB g t cs :: ps)) (hx : ev m x = some (.pointer (some ⟨g, 0, none⟩))) (hy : ev m y = some (.agg ⟨ds⟩)) (hi : (P.info? t').map (·.size) = some ds.length)
  (h1 : ∀ u ∈ ds, u.oneCell' = true) (hl : ds.length = cs.length) (kk : ∀ w a, Fr a n m → SL w0 F0 w (AB g t ds :: ps) → wpList P ops Q l' a w) : wpList P ops Q (⟨none, .store t' x y, ty, pos, aft, none⟩ :: l') a w :=
 EL hF hs hx hy hi h1 (by omega) fun w a hF hs => kk w a hF (by
  rw [Nat.zero_add, hl, List.drop_length, List.take_zero, Amj, Ami] at hs
  exact hs)
theorem Yy {e : Nat} (hu : P.underlying e = some (.int .u8)) (xs ys : List Value) (w : World) (d : Nat) : ∀ (is : List Nat) (f g : Nat → UInt8), (∀ i ∈ is, xs[i]? = some (.int .u8 ((f i).toNat : Int)) ∧ ys[i]? = some (.int .u8 ((g i).toNat : Int))) →
  (Op.eqItems (d + 1) e 1 ⟨xs⟩ ⟨ys⟩ is).run P w = .ok (is.all fun i => f i == g i) w
 | [], _, _, _ => by simp [Op.eqItems]
 | i :: is, f, g, h => by
  obtain ⟨h1, h2⟩ := h i (by simp)
  have hn : Hd P e = true := by unfold Hd; rw [hu]
  have p1 : (part e ⟨xs⟩ (i * 1)).run P w = .ok (.int .u8 ((f i).toNat : Int)) w := OB hn (by rw [Nat.mul_one]; exact h1) w
  have p2 : (part e ⟨ys⟩ (i * 1)).run P w = .ok (.int .u8 ((g i).toNat : Int)) w := OB hn (by rw [Nat.mul_one]; exact h2) w
  have p3 := Aiy (P := P) (p := f i) (q := g i) hu d w
  have ih := Yy hu xs ys w d is f g fun j hj => h j (by simp [hj])
  simp only [Op.eqItems, Sem.run_bind, p1, p2, p3, Result.andThen_ok]
  rcases hb : (f i == g i) with _ | _
  ·simp [hb]
  ·simp [hb, ih]
theorem Ym {t e : Nat} {l r : Vector UInt8 k} (hb : Rs P t e k 1 = true) (hu : P.underlying e = some (.int .u8)) (hc : P.cellsOf e = 1) : EqAt P 2 t (.agg ⟨Bb l⟩) (.agg ⟨Bb r⟩) (l == r) := fun d w => by
 obtain ⟨ht, ti, h5, h6⟩ := LP hb
 rw [show d + 2 = (d + 1) + 1 from rfl, run_equalIn_array w (d + 1) _ _ ht h5, hc]
 have h := Yy hu (Bb l) (Bb r) w d (List.range k) (fun i => l.toList[i]?.getD 0) (fun i => r.toList[i]?.getD 0) (fun i hi => by
  have hi := List.mem_range.1 hi
  have h1 : l.toList[i]? = some (l.toList[i]'(by simpa using hi)) := Al9 _
  have h2 : r.toList[i]? = some (r.toList[i]'(by simpa using hi)) := Al9 _
  exact ⟨by rw [On h1, h1]; rfl, by rw [On h2, h2]; rfl⟩)
 rw [h]
 congr 1
 rw [Bool.eq_iff_iff, List.all_eq_true, AG]
 constructor
 ·intro h
  apply Vector.ext
  intro i hi
  have h0 := h i (List.mem_range.2 hi)
  have h1 : l.toList[i]? = some (l.toList[i]'(by simpa using hi)) := Al9 _
  have h2 : r.toList[i]? = some (r.toList[i]'(by simpa using hi)) := Al9 _
  rw [h1, h2] at h0
  simpa using h0
 ·rintro rfl i _
  simp
end
section
variable {pl : Nat → Option (Nat × Nat)} {cs : List Value} {i off : Nat} {v : Value} {rest : List (Nat × Value)} {r : Array Value}
theorem Ch : Instr.fill pl ⟨cs⟩ [] = some ⟨cs⟩ := rfl
theorem D8 (hp : pl i = some (off, 1)) (hv : v.cells = #[v]) (hlt : off < cs.length) (h : Instr.fill pl ⟨cs.set off v⟩ rest = some r) : Instr.fill pl ⟨cs⟩ ((i, v) :: rest) = some r := by
 simp only [Instr.fill, hp, hv]
 rw [Ay (by simp; omega)]
 simpa [List.zipIdx] using h
theorem U9 {α β : Type} {f g : β → α → β} : ∀ (l : List α) (a : β), (∀ x ∈ l, ∀ b, f b x = g b x) → l.foldl f a = l.foldl g a
 | [], _, _ => rfl
 | x :: l, a, h => by
  rw [List.foldl_cons, List.foldl_cons, h x (by simp), U9 l _ fun y hy => h y (by simp [hy])]
theorem Yv : ∀ (ds : List Value) (k : Nat) (pre zs post : List Value), zs.length = ds.length → ((ds.zipIdx k).foldl (fun (cs : Array Value) (p : Value × Nat) => cs.setIfInBounds (pre.length + (p.2 - k)) p.1) ⟨pre ++ zs ++ post⟩) = (⟨pre ++ ds ++ post⟩ : Array Value)
 | [], k, pre, zs, post, h => by
  obtain rfl := List.eq_nil_of_length_eq_zero h
  simp
 | d :: ds, k, pre, [], post, h => by simp at h
 | d :: ds, k, pre, z :: zs, post, h => by
  have ih := Yv ds (k + 1) (pre ++ [d]) zs post (by simpa using h)
  rw [List.zipIdx_cons, List.foldl_cons]
  have e1 : (⟨pre ++ (z :: zs) ++ post⟩ : Array Value).setIfInBounds (pre.length + (k - k)) d = ⟨(pre ++ [d]) ++ zs ++ post⟩ := by
   rw [Nat.sub_self, Nat.add_zero]
   apply Array.toList_inj.1
   rw [Array.toList_setIfInBounds]
   simp [List.set_append_right]
  dsimp only
  rw [e1]
  have e2 : (pre ++ [d]) ++ ds ++ post = pre ++ (d :: ds) ++ post := by simp
  rw [← e2, ← ih]
  apply U9
  intro p hp acc
  have hk2 : k + 1 ≤ p.2 := List.le_snd_of_mem_zipIdx hp
  congr 1
  simp
  omega
theorem YJ {pre zs post ds : List Value} (hp : pl i = some (pre.length, ds.length)) (hl : zs.length = ds.length) (h : Instr.fill pl ⟨pre ++ ds ++ post⟩ rest = some r) : Instr.fill pl ⟨pre ++ zs ++ post⟩ ((i, .agg ⟨ds⟩) :: rest) = some r := by
 unfold Instr.fill
 simp only [hp]
 have hc : (Value.agg ⟨ds⟩).cells = ⟨ds⟩ := rfl
 rw [Ay (by rw [hc]; simp; omega), hc]
 have := Yv ds 0 pre zs post hl
 simp only [Nat.sub_zero] at this
 rw [← Array.foldl_toList, Array.toList_zipIdx]
 rw [this]
 exact h
end
theorem Mj {pre cs ds : List Value} {o : Nat} (hp : pre.length = o) (he : cs = pre ++ ds) : ∀ (j : Nat) (u : Value), ds[j]? = some u → cs[o + j]? = some u := by
 subst hp he
 intro j u hu
 rw [List.getElem?_append_right (by omega), Nat.add_sub_cancel_left]
 exact hu
section
variable {P : Program} {ops : Array Oper} {S : World → Prop} {Q : Exit → Act → World → Prop} {n d : Nat} {m : List (Nat × Value)} {a : Act} {w : World}
theorem Agd {i j dj : Nat} {oi : Oper} {v : Value} {b : Bool} {fuel : Nat} {listed : Array Bool} (hi : ops[i]? = some oi) (hs : Region.noSelect ops = true) (hf : Region.free .any ops listed i = true) (hr : (Region.ready .any ops listed).contains i = true)
  (he : ∀ w, S w → EX P w m oi v w) (hg : oi.guard = some (j, b)) (hj : (ops[j]?).bind (·.dst) = some dj) (hb : look m dj = some (.bool b)) (hd : oi.dst = some d) (hlt : Nat.blt d n = true) (hF : Fr a n m) (hS : S w)
  (k : ∀ a, Fr a n ((d, v) :: m) → wpAnyH P .any ops (NoPanic Q) S fuel (listed.setIfInBounds i true) a w) : wpAnyH P .any ops (NoPanic Q) S (fuel + 1) listed a w :=
 wpAnyH_take hi hs hf hr (fun _ _ _ h => (h : False).elim) (.inl ⟨by simp [Region.wanted, hg, IG hF hj hb], fun w hw => he w hw a n hF⟩) hS (by rw [hd]; exact k _ (hF.put d v hlt))
theorem Ae1 {i j dj : Nat} {oi : Oper} {b c : Bool} {fuel : Nat} {listed : Array Bool} (hi : ops[i]? = some oi) (hs : Region.noSelect ops = true) (hf : Region.free .any ops listed i = true) (hr : (Region.ready .any ops listed).contains i = true)
  (hg : oi.guard = some (j, c)) (hj : (ops[j]?).bind (·.dst) = some dj) (hb : look m dj = some (.bool b)) (hne : b ≠ c) (hd : oi.dst = some d) (hlt : Nat.blt d n = true) (hF : Fr a n m) (hS : S w)
  (k : ∀ a, Fr a n ((d, undef) :: m) → wpAnyH P .any ops (NoPanic Q) S fuel (listed.setIfInBounds i true) a w) : wpAnyH P .any ops (NoPanic Q) S (fuel + 1) listed a w :=
 wpAnyH_take (v := undef) hi hs hf hr (fun _ _ _ h => (h : False).elim) (.inr ⟨by simp [Region.wanted, hg, IG hF hj hb]; exact hne, rfl⟩) hS (by rw [hd]; exact k _ (hF.put d undef hlt))
theorem Aby {i j dj : Nat} {oi : Oper} {c : Bool} {fuel : Nat} {listed : Array Bool} (hi : ops[i]? = some oi) (hs : Region.noSelect ops = true) (hf : Region.free .any ops listed i = true) (hr : (Region.ready .any ops listed).contains i = true)
  (hg : oi.guard = some (j, c)) (hj : (ops[j]?).bind (·.dst) = some dj) (hb : look m dj = some undef) (hd : oi.dst = some d) (hlt : Nat.blt d n = true) (hF : Fr a n m) (hS : S w)
  (k : ∀ a, Fr a n ((d, undef) :: m) → wpAnyH P .any ops (NoPanic Q) S fuel (listed.setIfInBounds i true) a w) : wpAnyH P .any ops (NoPanic Q) S (fuel + 1) listed a w :=
 wpAnyH_take (v := undef) hi hs hf hr (fun _ _ _ h => (h : False).elim) (.inr ⟨by
  have : yielded ops a.tmps j = none := by
   unfold yielded
   rw [hj]
   simp only [Al6]
   rw [hF.at_ _ _ hb]
   rfl
  simp [Region.wanted, hg, this], rfl⟩) hS (by rw [hd]; exact k _ (hF.put d undef hlt))
end
end Go.Pv
namespace Go.Pv
open Go Go.RowKit
def Pu {k : Nat} (l r : Vector UInt8 k) (n : Nat) : Vector UInt8 k := Vector.ofFn fun i => if i.val < n then r[i] else l[i]
theorem Aii {k : Nat} (l r : Vector UInt8 k) (n : Nat) (h : n ≤ k) : Bb (Pu l r n) = (Bb r).take n ++ (Bb l).drop n := by
 apply List.ext_getElem?
 intro j
 have h1 : (Bb (Pu l r n)).length = k := V7 _
 have h2 : ((Bb r).take n ++ (Bb l).drop n).length = k := by simp; omega
 by_cases hj : j < k
 ·have g0 : ∀ v : Vector UInt8 k, (Bb v)[j]? = some (.int .u8 ((v[j]'hj).toNat : Int)) := fun v => On (by
   rw [Vector.getElem?_toList]
   simp [hj])
  rw [g0]
  by_cases hn : j < n
  ·rw [List.getElem?_append_left (by simp; omega), List.getElem?_take, A1 hn, g0]
   simp [Pu, hn]
  ·rw [List.getElem?_append_right (by simp; omega), List.getElem?_drop]
   rw [show n + (j - ((Bb r).take n).length) = j from by simp; omega, g0]
   simp [Pu, hn]
 ·rw [List.getElem?_eq_none (by omega), List.getElem?_eq_none (by omega)]
section
variable {P : Program} {w0 w : World} {F0 : List Nat} {ps : List Ck} {m : List (Nat × Value)} {n d k : Nat} {ty : TypeId} {pos : String} {aft : Array Edge} {x y : Operand} {ops : Array Oper} {Q : Exit → Act → World → Prop} {a : Act} {l' : List Oper} {gd : Option (Nat × Bool)} {dd : Option Tmp} {l r : Vector UInt8 k} {pre pre2 : List Value}
theorem Aem {t e g o : Nat} {hi : Int} {kk : IntKind} (hb : Rs P t e k 1 = true) (h0 : 0 ≤ hi) (h1 : hi ≤ k) (hx : ev m x = some (.pointer (some ⟨g, o, none⟩))) (hy : ev m y = some (.int kk hi)) :
  EX P w m ⟨dd, .slice t x none (some y) none, ty, pos, aft, gd⟩ (.slice (some ⟨g, o, none⟩) hi.toNat k) w := fun a _ hF => by
 obtain ⟨hu, ti, h5, h6⟩ := LP hb
 have e1 : (0 ≤ hi ∧ hi ≤ (k : Int)) := by omega
 have e2 : ((0 : Int) ≤ 0 ∧ 0 ≤ hi) := by omega
 have e4 : ((0 : Int) ≤ 0 ∧ 0 ≤ ((hi.toNat : Nat) : Int)) := by omega
 have e5 : ¬ (max hi 0 < 0) := by omega
 have e6 : (0 : Int) ≤ max hi 0 := by omega
 simp only [execOp, hF.eval hx, Al7, Option.map_none, hF.eval hy]
 simp [Instr.sliceAt, run_underlying hu, Instr.sliceBounds, Instr.sliceBound, asIntOf, sizeOf, typeInfo, h5, h6, e1, e2, e4, e5, e6, h0, h1, Instr.sureAddr, J0]
theorem Ac3 {t e g o : Nat} (hb : Rs P t e k 1 = true) (hx : ev m x = some (.pointer (some ⟨g, o, none⟩))) :
  EX P w m ⟨dd, .slice t x none none none, ty, pos, aft, gd⟩ (.slice (some ⟨g, o, none⟩) k k) w := fun a _ hF => by
 obtain ⟨hu, ti, h5, h6⟩ := LP hb
 simp only [execOp, hF.eval hx, Option.map_none]
 simp [Instr.sliceAt, run_underlying hu, Instr.sliceBounds, Instr.sliceBound, asIntOf, sizeOf, typeInfo, h5, h6, Instr.sureAddr, J0]
theorem Aaj {cs' : List Value} {g g2 t1 t2 o o2 q t t' e by_ : Nat} {z : Value → Bool} (hF : Fr a n m) (hs : SL w0 F0 w (AB g t1 (pre ++ Bb l) :: ps)) (hm : AB g2 t2 (pre2 ++ Bb r) ∈ ps) (hp : pre.length = o) (hp2 : pre2.length = o2) (hq : q ≤ k) (hb : Ey P t e 1 by_ z = true)
  (hx : ev m x = some (.slice (some ⟨g, o, none⟩) q k)) (hy : ev m y = some (.slice (some ⟨g2, o2, none⟩) k k)) (hlt : Nat.blt d n = true) (hc : pre ++ Bb (Pu l r q) = cs')
  (kk : ∀ w a, Fr a n ((d, .int .i64 (q : Int)) :: m) → SL w0 F0 w (AB g t1 cs' :: ps) → wpList P ops Q l' a w) :
  wpList P ops Q (⟨some d, .call { callee := .builtin .copy, args := #[x, y], argTypes := #[t, t'] }, ty, pos, aft, none⟩ :: l') a w := by
 subst hc hp hp2
 obtain ⟨ht, i, zv, hi, h2, h3, h4, _⟩ := GX hb
 have hmin : min k q = q := by omega
 have hcs : Cells w ⟨g2, pre2.length, none⟩ (Bb r) := hs.WV (List.mem_cons_of_mem _ hm) rfl
 have hlen : ((Bb r).take q).length = q := by simp; omega
 have hld := run_loadCells_list (P := P) w ⟨g2, pre2.length, none⟩ ((Bb r).take q) (fun j u hu => by
  rw [List.getElem?_take] at hu
  split at hu
  ·exact hcs j u hu
  ·cases hu)
 rw [hlen] at hld
 obtain ⟨F, hst, hF0, _, hcl⟩ := SL.open_ (ps := [AB g t1 (pre ++ Bb l)]) hs
 obtain ⟨rfl, hg⟩ := Ba.J5 hst
 have hstore := Ho (P := P) g pre.length t1 (0, 0) ((Bb r).take q) 0 (pre ++ Bb l).toArray w hg (by simp) (by simp; omega) (fun u hu => BH r u (List.mem_of_mem_take hu))
 simp only [Nat.add_zero] at hstore
 have heq : ((pre ++ Bb l).take pre.length ++ (Bb r).take q ++ (pre ++ Bb l).drop (pre.length + ((Bb r).take q).length)) = pre ++ Bb (Pu l r q) := by
  rw [hlen, Aii l r q hq, List.take_left, List.drop_append]
  simp
 refine I5 hF (v := .int .i64 (q : Int)) (w' := w.setRow g (pre ++ Bb (Pu l r q)).toArray) (fun a n hF => ?_) rfl rfl hlt fun a hF => kk _ a hF (hcl _ [AB g t1 (pre ++ Bb (Pu l r q))] ⟨Fm.one rfl rfl rfl (by simp) (fun k hk => setRow_other w g k _ hk), [g], Ba.one ⟨rfl, setRow_heap w g _ _ t1 _ hg⟩, fun k hk => .inl hk⟩)
 have hn' : Nat.min k q = q := hmin
 rw [← heq]
 simp [execOp, resolve, invoke, builtin, hF.eval hx, hF.eval hy, Builtin.copy_, run_underlying ht, Builtin.lenOf, sizeOf, typeInfo, hi, h2, hn', hmin, Builtin.firstCells, hld, hstore, goInt]
end
theorem X8 {k : Nat} {l : Vector UInt8 k} {hi : Int} {r : List UInt8} (h : GZ l.toList 0 hi = some r) : 0 ≤ hi ∧ hi ≤ k := by
 obtain ⟨⟨h0, h1, h2⟩, _⟩ := Px h
 exact ⟨by omega, by simpa using h2⟩
theorem Ahz {k : Nat} {l : Vector UInt8 k} {hi : Int} {r : List UInt8} (h : GZ l.toList 0 hi = some r) : hi.toNat ≤ k := by
 have := X8 h
 omega
end Go.Pv
namespace Go.Pv
open Go Go.RowKit
def Any (Q : List Ck → Prop) : Ck := ⟨fun w F => ∃ qs, Q qs ∧ Ba qs w F, fun ⟨qs, h, hs⟩ hk => ⟨qs, h, hs.loc hk⟩, fun ⟨_, _, hs⟩ => hs.lt⟩
inductive Gv where
 | const (l : List UInt8)
 | dup
 | swap
 | nil
def Gv.run : Gv → List UInt8 → Option (List UInt8)
 | .const l, _ => some l
 | .dup, l => (idx l 0).bind fun x => (idx l 0).bind fun y => some [x, y]
 | .swap, l => (idx l 1).bind fun x => (idx l 0).bind fun y => some [x, y]
 | .nil, _ => none
inductive Db (W : Type) where
 | fixed (takes : List W) (gives : Gv)
 | call
 | ret (gives : Gv)
 | classed (takes : List W) (gives : Bool)
 | field (put : Bool)
 | nil
section
variable {P : Program} {w0 w w' : World} {F0 F : List Nat} {ps qs rest : List Ck} {v u : Value} {l : List UInt8}
theorem SL.KJ {Q : List Ck → Prop} (h : Q qs) (hs : SL w0 F0 w (qs ++ ps)) : SL w0 F0 w (Any Q :: ps) := hs.re fun F hst => by
 obtain ⟨F1, F2, e, h1, h2, hd⟩ := Ba.append.1 hst
 exact ⟨F, ⟨F1, F2, e, ⟨qs, h, h1⟩, h2, hd⟩, fun _ => Iff.rfl⟩
theorem SL.Ai7 {Q : List Ck → Prop} (hs : SL w0 F0 w (Any Q :: ps)) : ∃ qs, Q qs ∧ SL w0 F0 w (qs ++ ps) := by
 obtain ⟨F, ⟨F1, F2, e, ⟨qs, h, h1⟩, h2, hd⟩, hF⟩ := hs.st
 exact ⟨qs, h, hs.fm, F, Ba.append.2 ⟨F1, F2, e, h1, h2, hd⟩, hF⟩
theorem SL.tk (hs : SL w0 F0 w ps) (n : Nat) (e : ps.take n = qs) : SL w0 F0 w qs := by
 subst e
 rw [← List.take_append_drop n ps] at hs
 obtain ⟨F, hst, hF⟩ := hs.st
 obtain ⟨F1, F2, e, h1, h2, hd⟩ := Ba.append.1 hst
 exact ⟨hs.fm, F1, h1, fun k hk => hF k (by simp [e, hk])⟩
def Ju (c d s t : Nat) (v : Value) : Gv → Ck
 | .const l => Any fun qs => ∃ g u, v = clo c [.pointer (some ⟨g, 0, none⟩)] ∧ qs = [AB g t [u], Sl Ty.u8 u l]
 | .dup => Any fun qs => v = clo d [] ∧ qs = []
 | .swap => Any fun qs => v = clo s [] ∧ qs = []
 | .nil => Any fun qs => v = .nilFunc ∧ qs = []
theorem SL.Cq {c d s t g : Nat} (hv : v = clo c [.pointer (some ⟨g, 0, none⟩)]) (hs : SL w0 F0 w (AB g t [u] :: Sl Ty.u8 u l :: ps)) : SL w0 F0 w (Ju c d s t v (.const l) :: ps) :=
 SL.KJ (qs := [AB g t [u], Sl Ty.u8 u l]) ⟨g, u, hv, rfl⟩ hs
theorem SL.Akl {c d s t : Nat} (hs : SL w0 F0 w ps) : SL w0 F0 w (Ju c d s t (clo d []) .dup :: ps) := SL.KJ (qs := []) ⟨rfl, rfl⟩ hs
theorem SL.Ai8 {c d s t : Nat} (hs : SL w0 F0 w ps) : SL w0 F0 w (Ju c d s t (clo s []) .swap :: ps) := SL.KJ (qs := []) ⟨rfl, rfl⟩ hs
theorem SL.ML {c d s t : Nat} (hs : SL w0 F0 w ps) : SL w0 F0 w (Ju c d s t .nilFunc .nil :: ps) := SL.KJ (qs := []) ⟨rfl, rfl⟩ hs
theorem SL.EU {c d s t : Nat} {x : Gv} (hs : SL w0 F0 w ps) (hm : Ju c d s t v x ∈ ps) : v.cells = #[v] ∧ v.oneCell' = true := by
 obtain ⟨F, hst, _⟩ := hs.st
 obtain ⟨G, h, _⟩ := Ij hm hst
 cases x with
 | const l => obtain ⟨qs, ⟨g, u, rfl, _⟩, _⟩ := h; exact ⟨rfl, rfl⟩
 | dup => obtain ⟨qs, ⟨rfl, _⟩, _⟩ := h; exact ⟨rfl, rfl⟩
 | swap => obtain ⟨qs, ⟨rfl, _⟩, _⟩ := h; exact ⟨rfl, rfl⟩
 | nil => obtain ⟨qs, ⟨rfl, _⟩, _⟩ := h; exact ⟨rfl, rfl⟩
structure VJ where
 Oy : Nat
 dup : Nat
 swap : Nat
 Aec : Nat
 call : Nat
 ret : Nat
 YM : Nat
 Aef : Nat
 types : Nat
 wants : Nat
 gv : Nat
 bool : Nat
def PN {W : Type} (n : VJ) (T : Ty W) (v : Value) : Db W → Ck
 | .fixed takes x => Any fun qs => ∃ g1 g2 u1 u2, v = clo n.Aec [.pointer (some ⟨g1, 0, none⟩), .pointer (some ⟨g2, 0, none⟩)] ∧ qs = [AB g1 n.wants [u1], Sl T u1 takes, AB g2 n.gv [u2], Ju n.Oy n.dup n.swap n.types u2 x]
 | .call => Any fun qs => v = clo n.call [] ∧ qs = []
 | .ret x => Any fun qs => ∃ g u, v = clo n.ret [.pointer (some ⟨g, 0, none⟩)] ∧ qs = [AB g n.gv [u], Ju n.Oy n.dup n.swap n.types u x]
 | .classed takes b => Any fun qs => ∃ g1 g2 u, v = clo n.YM [.pointer (some ⟨g1, 0, none⟩), .pointer (some ⟨g2, 0, none⟩)] ∧ qs = [AB g1 n.bool [.bool b], AB g2 n.wants [u], Sl T u takes]
 | .field b => Any fun qs => ∃ g, v = clo n.Aef [.pointer (some ⟨g, 0, none⟩)] ∧ qs = [AB g n.bool [.bool b]]
 | .nil => Any fun qs => v = .nilFunc ∧ qs = []
section
variable {W : Type} {n : VJ} {T : Ty W} {takes : List W} {x : Gv} {u1 u2 : Value} {g g1 g2 : Nat} {b : Bool}
theorem SL.CE (hv : v = clo n.Aec [.pointer (some ⟨g1, 0, none⟩), .pointer (some ⟨g2, 0, none⟩)]) (hs : SL w0 F0 w (AB g1 n.wants [u1] :: Sl T u1 takes :: AB g2 n.gv [u2] :: Ju n.Oy n.dup n.swap n.types u2 x :: ps)) : SL w0 F0 w [PN n T v (.fixed takes x)] :=
 SL.KJ (qs := [AB g1 n.wants [u1], Sl T u1 takes, AB g2 n.gv [u2], Ju n.Oy n.dup n.swap n.types u2 x]) ⟨g1, g2, u1, u2, hv, rfl⟩ (ps := []) (hs.tk 4 rfl)
theorem SL.Ai9 (hv : v = clo n.call []) (hs : SL w0 F0 w ps) : SL w0 F0 w [PN n T v .call] := SL.KJ (qs := []) ⟨hv, rfl⟩ (ps := []) (hs.tk 0 rfl)
theorem SL.Akp (hv : v = clo n.ret [.pointer (some ⟨g, 0, none⟩)]) (hs : SL w0 F0 w (AB g n.gv [u2] :: Ju n.Oy n.dup n.swap n.types u2 x :: ps)) : SL w0 F0 w [PN n T v (.ret x)] :=
 SL.KJ (qs := [AB g n.gv [u2], Ju n.Oy n.dup n.swap n.types u2 x]) ⟨g, u2, hv, rfl⟩ (ps := []) (hs.tk 2 rfl)
theorem SL.QE (hv : v = clo n.YM [.pointer (some ⟨g1, 0, none⟩), .pointer (some ⟨g2, 0, none⟩)]) (hs : SL w0 F0 w (AB g1 n.bool [.bool b] :: AB g2 n.wants [u1] :: Sl T u1 takes :: ps)) : SL w0 F0 w [PN n T v (.classed takes b)] :=
 SL.KJ (qs := [AB g1 n.bool [.bool b], AB g2 n.wants [u1], Sl T u1 takes]) ⟨g1, g2, u1, hv, rfl⟩ (ps := []) (hs.tk 3 rfl)
theorem SL.YP (hv : v = clo n.Aef [.pointer (some ⟨g, 0, none⟩)]) (hs : SL w0 F0 w (AB g n.bool [.bool b] :: ps)) : SL w0 F0 w [PN n T v (.field b)] :=
 SL.KJ (qs := [AB g n.bool [.bool b]]) ⟨g, hv, rfl⟩ (ps := []) (hs.tk 1 rfl)
end
theorem K0 {Q : List Ck → Prop} (h : Ba [Any Q] w F) : ∃ qs, Q qs ∧ Ba qs w F := by
 obtain ⟨F1, F2, e, ⟨qs, h1, h2⟩, h3, _⟩ := h
 have h4 : F2 = [] := h3
 subst h4
 rw [Ami] at e
 exact ⟨qs, h1, e ▸ h2⟩
end
section
variable {P : Program} {w0 w : World} {F0 F : List Nat} {ps rest : List Ck} {m : List (Nat × Value)} {n d : Nat} {ty : TypeId} {pos : String} {aft : Array Edge} {x y z : Operand} {ops : Array Oper} {Q : Exit → Act → World → Prop} {a : Act} {l' : List Oper} {dd : Option Tmp} {gd : Option (Nat × Bool)}
theorem C0 {t e g k i : Nat} {kk : IntKind} (hb : Rs P t e k 1 = true) (hx : ev m x = some (.pointer (some ⟨g, 0, none⟩))) (hy : ev m y = some (.int kk (i : Int))) (hi : i < k) :
  EX P w m ⟨dd, .indexAddr t x y, ty, pos, aft, gd⟩ (.pointer (some ⟨g, i, none⟩)) w := fun a _ hF => by
 obtain ⟨hu, ti, h5, h6⟩ := LP hb
 have e1 : (0 ≤ (i : Int) ∧ (i : Int) < (k : Int)) := by omega
 simp [execOp, hF.eval hx, hF.eval hy, Instr.indexAt, asIntOf, run_underlying hu, e1, sizeOf, typeInfo, h5, h6, hi, J0, Instr.sureAddr]
theorem Af3 {t e k : Nat} {vs : List Value} {tv : Value} {b : UInt8} (hb : Rs P t e k 1 = true) (hn : Hd P e = true) (hl : vs.length = k) (hx : ev m x = some (.agg ⟨vs⟩)) (hy : ev m y = some (.int .u8 (b.toNat : Int))) (hi : vs[b.toNat]? = some tv) :
  EX P w m ⟨dd, .index t x y, ty, pos, aft, gd⟩ tv w := fun a _ hF => by
 obtain ⟨hu, ti, h5, h6⟩ := LP hb
 have e1 : b.toNat < k := by
  have := (List.getElem?_eq_some_iff.1 hi).1
  omega
 have h4 : (part e ⟨vs⟩ (b.toNat * 1)).run P w = .ok tv w := OB hn (by rw [Nat.mul_one]; exact hi) w
 simp only [execOp, hF.eval hx, hF.eval hy]
 rw [Nat.mul_one] at h4
 simp [Instr.index, asIntOf, run_underlying hu, e1, sizeOf, typeInfo, h5, h6, h4]
end
end Go.Pv
namespace Go.Pv
open Go Go.RowKit
structure Alr {κ ν : Type} (ek : κ → Value) (ev_ : ν → Value) (w : World) (r it : Nat) (l : List (κ × ν)) (js : List Nat) (es : Array MapEntry) (clock : Nat) (seen : Array Nat) (last : Nat) : Prop where
 map : MapAt ek ev_ w r l es clock
 iter : w.heap[it]? = some (.mapIter (some r) clock seen last)
 cl : clock ≤ last
 seen : seen.toList.map some = js.map fun j => (es[j]?).map (·.born)
 nodup : js.Nodup
 lt : ∀ j ∈ js, j < l.length
 back : last = clock
def NP {κ ν : Type} (ek : κ → Value) (ev_ : ν → Value) (r it : Nat) (l : List (κ × ν)) (js : List Nat) : Ck :=
 ⟨fun w F => F = [r, it] ∧ r ≠ it ∧ ∃ es clock seen last, Alr ek ev_ w r it l js es clock seen last,
  fun ⟨h, hn, es, c, s, la, h1⟩ hk => ⟨h, hn, es, c, s, la, ⟨by rw [hk r (by simp [h])]; exact h1.map.heap, h1.map.map, h1.map.born, h1.map.lt, h1.map.nodup⟩, by rw [hk it (by simp [h])]; exact h1.iter, h1.cl, h1.seen, h1.nodup, h1.lt, h1.back⟩,
  fun ⟨h, hn, es, c, s, la, h1⟩ k hk => by
   rw [h] at hk
   simp only [Ame, List.not_mem_nil, or_false] at hk
   rcases hk with rfl | rfl
   ·exact GT h1.map.heap
   ·exact GT h1.iter⟩
def pick {α : Type} (l : List α) (js : List Nat) : List α := js.filterMap fun j => l[j]?
theorem RD {js : List Nat} {n : Nat} (hn : js.Nodup) (hl : ∀ j ∈ js, j < n) : (js ++ (List.range n).filter fun j => decide (j ∉ js)).Perm (List.range n) := by
 rw [List.perm_ext_iff_of_nodup ?_ List.nodup_range]
 ·intro j
  simp only [Amc, List.mem_filter, Amf, Az]
  constructor
  ·rintro (h | h)
   ·exact hl j h
   ·exact h.1
  ·intro h
   by_cases hj : j ∈ js
   ·exact .inl hj
   ·exact .inr ⟨h, hj⟩
 ·rw [List.nodup_append]
  refine ⟨hn, (List.filter_sublist).nodup List.nodup_range, fun a ha b hb => ?_⟩
  simp only [List.mem_filter, Az] at hb
  exact fun e => hb.2 (e ▸ ha)
theorem UJ {α : Type} (l : List α) : ∀ k, k ≤ l.length → (List.range k).filterMap (fun j => l[j]?) = l.take k
 | 0, _ => by simp
 | k + 1, h => by
  rw [List.range_succ, List.filterMap_append, UJ l k (by omega), List.take_add_one]
  rw [Al9 (show k < l.length by omega)]
  simp [Al9 (show k < l.length by omega)]
theorem RS {α : Type} {l : List α} {js : List Nat} (h : js.Perm (List.range l.length)) : (pick l js).Perm l := by
 have h2 := h.filterMap (fun j => l[j]?)
 rw [UJ l l.length (Nat.le_refl _), List.take_length] at h2
 exact h2
theorem RG {α : Type} {l : List α} {js : List Nat} {j : Nat} {x : α} (h : l[j]? = some x) : pick l (js ++ [j]) = pick l js ++ [x] := by
 unfold pick
 rw [List.filterMap_append]
 simp [h]
section
variable {P : Program} {w0 w : World} {F0 F : List Nat} {ps rest : List Ck} {m : List (Nat × Value)} {n d : Nat} {ty : TypeId} {pos : String} {aft : Array Edge} {x y z : Operand} {ops : Array Oper} {Q : Exit → Act → World → Prop} {a : Act} {l' : List Oper} {gd : Option (Nat × Bool)} {dd : Option Tmp}
variable {κ ν : Type} {ek : κ → Value} {ev_ : ν → Value} {l : List (κ × ν)} {r it : Nat} {js : List Nat}
theorem MapAt.entry {es : Array MapEntry} {c : Nat} (h : MapAt ek ev_ w r l es c) {j : Nat} {e : MapEntry} (he : es[j]? = some e) : ∃ p, l[j]? = some p ∧ e.key = ek p.1 ∧ e.val = ev_ p.2 := by
 have h1 := congrArg (fun L => L[j]?) h.map
 simp only [List.getElem?_map, Array.getElem?_toList, he, Al7] at h1
 rcases hp : l[j]? with _ | p
 ·rw [hp] at h1; cases h1
 ·rw [hp] at h1
  simp only [Al7, Option.some.injEq, Prod.mk.injEq] at h1
  exact ⟨p, rfl, h1.1, h1.2⟩
theorem MapAt.size {es : Array MapEntry} {c : Nat} (h : MapAt ek ev_ w r l es c) : es.size = l.length := by simpa using congrArg List.length h.map
theorem MapAt.inj {es : Array MapEntry} {c : Nat} (h : MapAt ek ev_ w r l es c) {i j : Nat} {e f : MapEntry} (he : es[i]? = some e) (hf : es[j]? = some f) (hb : e.born = f.born) : i = j := by
 have h1 := h.born
 rw [List.pairwise_iff_getElem] at h1
 obtain ⟨hi, hie⟩ := Array.getElem?_eq_some_iff.1 he
 obtain ⟨hj, hjf⟩ := Array.getElem?_eq_some_iff.1 hf
 rcases Nat.lt_trichotomy i j with hlt | heq | hgt
 ·have := h1 i j (by simpa using hi) (by simpa using hj) hlt
  simp only [List.getElem_map, Array.getElem_toList, hie, hjf] at this
  omega
 ·exact heq
 ·have := h1 j i (by simpa using hj) (by simpa using hi) hgt
  simp only [List.getElem_map, Array.getElem_toList, hie, hjf] at this
  omega
theorem XN {t tk te : TypeId} (hF : Fr a n m) (hs : SL w0 F0 w (Mp ek ev_ r l :: ps)) (ht : P.underlying t = some (.map tk te)) (hx : ev m x = some (.map (some r))) (hlt : Nat.blt d n = true)
  (k : ∀ it w a, Fr a n ((d, .pointer (some ⟨it, 0, none⟩)) :: m) → SL w0 F0 w (NP ek ev_ r it l [] :: ps) → wpList P ops Q l' a w) : wpList P ops Q (⟨some d, .range t x, ty, pos, aft, none⟩ :: l') a w := by
 obtain ⟨F, hst, hF0, _, hcl⟩ := SL.open_ (ps := [Mp ek ev_ r l]) hs
 obtain ⟨rfl, es, c, h⟩ := Ba.J5 hst
 have hlr := GT h.heap
 have hr : (w.alloc (.mapIter (some r) c #[] c)).heap[r]? = w.heap[r]? := Below.heap_alloc w _ r hlr
 refine I5 hF (v := .pointer (some ⟨w.heap.size, 0, none⟩)) (w' := w.alloc (.mapIter (some r) c #[] c)) (fun a n hF => ?_) rfl rfl hlt fun a hF => k w.heap.size _ a hF (hcl _ [NP ek ev_ r w.heap.size l []]
  ⟨Fm.alloc w _ _, [r, w.heap.size], Ba.one (p := NP ek ev_ r w.heap.size l []) ⟨rfl, by omega, es, c, #[], c, ⟨by rw [hr]; exact h.heap, h.map, h.born, h.lt, h.nodup⟩, heap_alloc_new w _, Nat.le_refl _, rfl, by simp, by simp, rfl⟩, fun k hk => ?_⟩)
 ·have := run_range_map (P := P) w t tk te r es c ht h.heap
  simp [execOp, hF.eval hx, this]
 ·simp only [Ame, List.not_mem_nil, or_false] at hk
  rcases hk with rfl | rfl
  ·exact .inl (by simp)
  ·exact .inr (Nat.le_refl _)
theorem ZI (hF : Fr a n m) (hs : SL w0 F0 w (NP ek ev_ r it l js :: ps)) (hx : ev m x = some (.pointer (some ⟨it, 0, none⟩))) (hlt : Nat.blt d n = true)
  (k0 : ∀ a, js.Perm (List.range l.length) → Fr a n ((d, .tuple #[.bool false]) :: m) → wpList P ops Q l' a w)
  (k1 : ∀ j p w a, l[j]? = some p → (js ++ [j]).Nodup → (∀ i ∈ js ++ [j], i < l.length) → Fr a n ((d, .tuple #[.bool true, ek p.1, ev_ p.2]) :: m) → SL w0 F0 w (NP ek ev_ r it l (js ++ [j]) :: ps) → wpList P ops Q l' a w) :
  wpList P ops Q (⟨some d, .next x false, ty, pos, aft, none⟩ :: l') a w := by
 obtain ⟨F, hst, hF0, _, hcl⟩ := SL.open_ (ps := [NP ek ev_ r it l js]) hs
 obtain ⟨rfl, hne, es, c, seen, last, h⟩ := Ba.J5 hst
 have hold : ∀ e ∈ es.toList, e.born < c := h.map.lt
 have htest := next_test_false seen es c last hold h.cl
 have hsz := h.map.size
 have hseen : ∀ (j : Nat) (e : MapEntry), es[j]? = some e → (e.born ∈ seen ↔ j ∈ js) := by
  intro j e he
  constructor
  ·intro hb
   have h1 : some e.born ∈ seen.toList.map some := List.mem_map.2 ⟨e.born, by simpa using hb, rfl⟩
   rw [h.seen, Amg] at h1
   obtain ⟨i, hi, h2⟩ := h1
   rcases hei : es[i]? with _ | f
   ·rw [hei] at h2; cases h2
   ·rw [hei] at h2
    simp only [Al7, Option.some.injEq] at h2
    have := h.map.inj hei he h2
    rw [← this]
    exact hi
  ·intro hj
   have h1 : some e.born ∈ js.map (fun j => (es[j]?).map (·.born)) := List.mem_map.2 ⟨j, hj, by rw [he]; rfl⟩
   rw [← h.seen, Amg] at h1
   obtain ⟨b, hb, h2⟩ := h1
   cases h2
   simpa using hb
 have hgetI : (getObj it).run P w = .ok (.mapIter (some r) c seen last) w := by simp [getObj, Sem.run, h.iter]
 have hgetM : (getObj r).run P w = .ok (.map es c) w := FI h.map.heap
 have hrun : ∀ L : Array MapEntry, L = es.filter (fun e => !seen.contains e.born) → (Instr.next (.pointer (some ⟨it, 0, none⟩)) false ty).run P w =
   ((choose (.mapNext ((if L.isEmpty then #[none] else #[]) ++ L.map some : Array (Option MapEntry)).size)).run P w).andThen fun j w1 =>
    (match ((if L.isEmpty then #[none] else #[]) ++ L.map some : Array (Option MapEntry))[j]? with
     | some (some e) => (do setObj it (.mapIter (some r) c (seen.push e.born) c); pure (.tuple #[.bool true, e.key, e.val]) : Sem Value)
     | some none => pure (.tuple #[.bool false])
     | none => stuck "Next: no such candidate").run P w1 := by
  intro L hL
  have hmem : ∀ x ∈ L.toList, x.born < c := fun x hx => hold x (by rw [hL] at hx; simp at hx ⊢; exact hx.1)
  have e1 : L.filter (fun x => decide (x.born < c)) = L := Array.filter_eq_self.2 (fun x hx => by simpa using hmem x (by simpa using hx))
  have e2 : L.filter (fun x => decide (x.born ≥ c)) = #[] := by
   rw [Array.filter_eq_empty_iff]
   intro x hx
   have := hmem x (by simpa using hx)
   simp
   omega
  simp only [Instr.next, Sem.run_bind, hgetI, Result.andThen_ok, hgetM, htest, Bool.false_eq_true, if_false, ← hL, e1, e2, Array.append_empty]
  rfl
 obtain ⟨L, hL⟩ : ∃ L, L = es.filter (fun e => !seen.contains e.born) := ⟨_, rfl⟩
 have hr := hrun L hL
 by_cases h0 : L.size = 0
 ·have hLe : L = #[] := Array.eq_empty_of_size_eq_zero h0
  refine I5 hF (v := .tuple #[.bool false]) (w' := w) (fun a n hF => ?_) rfl rfl hlt fun a hF => k0 a ?_ hF
  ·simp only [execOp, hF.eval hx]
   rw [hLe] at hr
   have hfo : (Question.mapNext 1).forced = true := rfl
   simp only [Sem.run_bind, hr]
   simp [hfo]
  ·rw [List.perm_ext_iff_of_nodup h.nodup List.nodup_range]
   intro j
   rw [Amf]
   refine ⟨h.lt j, fun hj => ?_⟩
   have hj' : j < es.size := by omega
   have he : es[j]? = some es[j] := Array.getElem?_eq_getElem hj'
   rw [← hseen j _ he]
   refine Classical.byContradiction fun hn => ?_
   have : es[j] ∈ L := by
    rw [hL, Array.mem_filter]
    exact ⟨Array.getElem_mem hj', by simpa using hn⟩
   rw [hLe] at this
   simp at this
 ·have hne0 : L.isEmpty = false := by simp [Array.isEmpty, h0]
  have hch : ∃ (j : Nat) (w1 : World), j < L.size ∧ (w1 = w ∨ w1 = w.drew) ∧ (choose (Question.mapNext L.size)).run P w = .ok j w1 := by
   by_cases hf : L.size ≤ 1
   ·exact ⟨0, w, by omega, .inl rfl, by simp [choose, Sem.run, Question.forced, hf]⟩
   ·exact ⟨_, w.drew, Nat.mod_lt _ (by omega), .inr rfl, by
     simp only [choose, Sem.run, Question.forced, Az, hf, if_false, Question.cut]
     rfl⟩
  obtain ⟨i, w1, hi, hw1, hch⟩ := hch
  have hLi : L[i] ∈ L := Array.getElem_mem hi
  have hgi : L[i]? = some L[i] := Array.getElem?_eq_getElem hi
  generalize L[i] = e0 at hLi hgi
  have hLi' : e0 ∈ es ∧ (!seen.contains e0.born) = true := by rw [hL, Array.mem_filter] at hLi; exact hLi
  obtain ⟨j, hj, hje⟩ := Array.mem_iff_getElem.1 hLi'.1
  have hej : es[j]? = some e0 := by rw [Array.getElem?_eq_getElem hj, hje]
  have hjn : j ∉ js := fun hin => by
   have := (hseen j _ hej).2 hin
   have h3 := hLi'.2
   have h4 : seen.contains e0.born = true := by simpa using this
   rw [h4] at h3
   cases h3
  obtain ⟨p, hp, hk, hv⟩ := h.map.entry hej
  have hfr : Fm w [r, it] { w1 with heap := w1.heap.setIfInBounds it (.mapIter (some r) c (seen.push e0.born) c) } := by
   have hh : w1.heap = w.heap ∧ w1.os = w.os ∧ w1.tape = w.tape ∧ w1.output = w.output := by rcases hw1 with rfl | rfl <;> exact ⟨rfl, rfl, rfl, rfl⟩
   refine ⟨hh.2.1, hh.2.2.1, hh.2.2.2, by simp [hh.1], fun k hk hn => ?_⟩
   simp only [Ame, List.not_mem_nil, or_false, not_or] at hn
   simp only [hh.1, Array.getElem?_setIfInBounds]
   rw [Ay (fun e => hn.2 e.symm)]
  have hheap : w1.heap = w.heap := by rcases hw1 with rfl | rfl <;> rfl
  have hit := GT h.iter
  refine I5 hF (v := .tuple #[.bool true, ek p.1, ev_ p.2]) (w' := { w1 with heap := w1.heap.setIfInBounds it (.mapIter (some r) c (seen.push e0.born) c) }) (fun a n hF => ?_) rfl rfl hlt fun a hF =>
   k1 j p _ a hp ?_ ?_ hF (hcl _ [NP ek ev_ r it l (js ++ [j])] ⟨hfr, [r, it], Ba.one (p := NP ek ev_ r it l (js ++ [j])) ⟨rfl, hne, es, c, seen.push e0.born, c, ⟨?_, h.map.map, h.map.born, h.map.lt, h.map.nodup⟩, ?_, Nat.le_refl _, ?_, ?_, ?_, rfl⟩, fun k hk => .inl hk⟩)
  ·simp only [execOp, hF.eval hx]
   simp only [hne0, Bool.false_eq_true, if_false, Array.empty_append, Array.size_map] at hr
   have hset : (setObj it (.mapIter (some r) c (seen.push e0.born) c)).run P w1 = .ok () { w1 with heap := w1.heap.setIfInBounds it (.mapIter (some r) c (seen.push e0.born) c) } := by
    have h5 : w1.heap[it]? = some (.mapIter (some r) c seen last) := by rw [hheap]; exact h.iter
    simp [setObj, Sem.run, h5]
   simp only [Sem.run_bind, hr, hch, Result.andThen_ok, Array.getElem?_map, hgi, Al7, hset, Sem.run_pure, hk, hv]
  ·rw [List.nodup_append]
   exact ⟨h.nodup, by simp, fun a ha b hb => by simp only [Amd] at hb; subst hb; exact fun e => hjn (e ▸ ha)⟩
  ·intro i' hi'
   rw [Amc, Amd] at hi'
   rcases hi' with hi' | rfl
   ·exact h.lt i' hi'
   ·omega
  ·simp only [hheap, Array.getElem?_setIfInBounds]
   rw [Ay (fun e => hne e.symm)]
   exact h.map.heap
  ·simp [hheap, Array.getElem?_setIfInBounds, hit]
  ·rw [Array.toList_push, Amh, h.seen, Amh]
   simp [hej]
  ·rw [List.nodup_append]
   exact ⟨h.nodup, by simp, fun a ha b hb => by simp only [Amd] at hb; subst hb; exact fun e => hjn (e ▸ ha)⟩
  ·intro i' hi'
   rw [Amc, Amd] at hi'
   rcases hi' with hi' | rfl
   ·exact h.lt i' hi'
   ·omega
theorem Yb {j : Nat} {p : κ × ν} (hs : SL w0 F0 w ps) (hm : NP ek ev_ r it l (js ++ [j]) ∈ ps) (hp : l[j]? = some p) (hx : ev m x = some (.pointer (some ⟨it, 0, none⟩))) : EX P w m ⟨dd, .entry x, ty, pos, aft, gd⟩ (.tuple #[ek p.1, ev_ p.2]) w := fun a _ hF => by
 obtain ⟨F, h1, _⟩ := hs.st
 obtain ⟨G, ⟨_, hne, es, c, seen, last, h⟩, _⟩ := Ij hm h1
 have hj : j < es.size := by rw [h.map.size]; exact (List.getElem?_eq_some_iff.1 hp).1
 have hej : es[j]? = some es[j] := Array.getElem?_eq_getElem hj
 obtain ⟨p', hp', hk, hv⟩ := h.map.entry hej
 rw [hp] at hp'
 cases hp'
 have hback : seen.back? = some es[j].born := by
  have h2 := h.seen
  rw [Amh, List.map_singleton, hej] at h2
  have h3 := congrArg List.getLast? h2
  rw [List.getLast?_append] at h3
  simp only [List.getLast?_singleton, Al7, Option.some_or, List.getLast?_map] at h3
  rw [← Array.getLast?_toList]
  rcases hl : seen.toList.getLast? with _ | b
  ·rw [hl] at h3; cases h3
  ·rw [hl] at h3
   simp only [Al7, Option.some.injEq] at h3
   rw [h3]
 have hnd : (es.toList.map (·.born)).Nodup := h.map.born.imp (fun h => by omega)
 have hf : es.find? (·.born == es[j].born) = some es[j] := by rw [← Array.find?_toList]; exact find_born es[j] es.toList hnd (by simp)
 have hgetI : (getObj it).run P w = .ok (.mapIter (some r) c seen last) w := by simp [getObj, Sem.run, h.iter]
 have hb := h.back
 subst hb
 simp [execOp, hF.eval hx, Instr.entry, hgetI, FI h.map.heap, hback, hf, hk, hv]
theorem SL.unit {F0 : List Nat} (hs : SL w0 F0 w (NP ek ev_ r it l js :: ps)) : SL w0 F0 w (Mp ek ev_ r l :: ps) := by
 obtain ⟨F, ⟨G1, G2, e, ⟨rfl, hne, es, c, seen, last, h⟩, hst, hd⟩, hF⟩ := hs.st
 exact ⟨hs.fm, [r] ++ G2, ⟨[r], G2, rfl, ⟨rfl, es, c, h.map⟩, hst, fun k hk => hd k (by simp only [Amd] at hk; simp [hk])⟩, fun k hk => hF k (by
  rw [e]
  simp only [Amc, Amd, Ame, List.not_mem_nil, or_false] at hk ⊢
  rcases hk with hk | hk
  ·exact .inl (.inl hk)
  ·exact .inr hk)⟩
end
end Go.Pv
namespace Go.Pv
open Go Go.RowKit
section
variable {α S R : Type}
def Lk (body : α → S → Option (S ⊕ R)) : List α → S → Option (S ⊕ R)
 | [], s => some (.inl s)
 | p :: l, s => match body p s with
  | none => none
  | some (.inl s') => Lk body l s'
  | some (.inr r) => some (.inr r)
open Classical in
noncomputable def NH (body : α → S → Option (S ⊕ R)) (l : List α) (s : S) : Option (S ⊕ R) :=
 if h : ∃ r, ∀ l', l'.Perm l → Lk body l' s = some r then some (Classical.choose h) else none
theorem Qj {body : α → S → Option (S ⊕ R)} {l : List α} {s : S} {r : S ⊕ R} : NH body l s = some r ↔ ∀ l', l'.Perm l → Lk body l' s = some r := by
 unfold NH
 constructor
 ·intro h
  split at h
  ·rename_i hx
   cases h
   exact Classical.choose_spec hx
  ·cases h
 ·intro h
  rw [dif_pos ⟨r, h⟩]
  have h1 := Classical.choose_spec (p := fun r => ∀ l', l'.Perm l → Lk body l' s = some r) ⟨r, h⟩
  have h2 := h1 l (List.Perm.refl l)
  rw [h l (List.Perm.refl l)] at h2
  exact h2.symm
def Abk (f : S → Option R) : S ⊕ R → Option R
 | .inl s => f s
 | .inr x => some x
theorem Ak8 {f : S → Option R} {o : S ⊕ R} {q r : R} (h : Abk f o = some q) (e : o = .inr r) : r = q := by
 subst e
 exact Option.some.inj h
theorem Ak2 {f : S → Option R} {o : S ⊕ R} {q : R} {s : S} (h : Abk f o = some q) (e : o = .inl s) : f s = some q := by
 subst e
 exact h
theorem PD (body : α → S → Option (S ⊕ R)) : ∀ (l m : List α) (s : S), Lk body (l ++ m) s = (Lk body l s).bind fun o => match o with
  | .inl s' => Lk body m s'
  | .inr r => some (.inr r)
 | [], m, s => rfl
 | p :: l, m, s => by
  simp only [List.cons_append, Lk]
  rcases body p s with _ | ⟨s' | r⟩
  ·rfl
  ·exact PD body l m s'
  ·rfl
theorem Aen {body : α → S → Option (S ⊕ R)} {l : List α} {s0 s : S} {r : S ⊕ R} {js : List Nat} (H : NH body l s0 = some r) (hj : js.Perm (List.range l.length)) (hr : Lk body (pick l js) s0 = some (.inl s)) : r = .inl s := by
 have h1 := Qj.1 H _ (RS hj)
 rw [hr] at h1
 exact (Option.some.inj h1).symm
theorem Ye {body : α → S → Option (S ⊕ R)} {l : List α} {s0 s : S} {r : S ⊕ R} {js : List Nat} {j : Nat} {p : α} (H : NH body l s0 = some r) (hr : Lk body (pick l js) s0 = some (.inl s))
  (hn : (js ++ [j]).Nodup) (hl : ∀ i ∈ js ++ [j], i < l.length) (hp : l[j]? = some p) :
  ∃ o, body p s = some o ∧ (∀ r', o = .inr r' → r = .inr r') ∧ (∀ s', o = .inl s' → Lk body (pick l (js ++ [j])) s0 = some (.inl s')) := by
 have h1 := Qj.1 H _ (RS (RD hn hl))
 unfold pick at h1
 rw [List.filterMap_append] at h1
 have h2 : List.filterMap (fun j => l[j]?) (js ++ [j]) = pick l js ++ [p] := RG hp
 rw [h2, Aml, PD, hr] at h1
 simp only [Al6, List.cons_append, Amj, Lk] at h1
 rw [RG hp]
 rcases hb : body p s with _ | ⟨s' | r'⟩
 ·rw [hb] at h1; cases h1
 ·refine ⟨_, rfl, fun r' h => (by cases h), fun s'' h => ?_⟩
  cases h
  rw [PD, hr]
  simp only [Al6, Lk, hb]
 ·rw [hb] at h1
  refine ⟨_, rfl, fun r'' h => ?_, fun s'' h => (by cases h)⟩
  cases h
  exact (Option.some.inj h1).symm
theorem Ac6 {js : List Nat} {n : Nat} (hn : js.Nodup) (hl : ∀ j ∈ js, j < n) : js.length ≤ n := by
 have := (RD hn hl).length_eq
 rw [Ama, List.length_range] at this
 omega
theorem UM : ∀ k : Nat, AQ (fun s : Nat => if s = 0 then some (.inr ()) else some (.inl (s - 1))) k = some ()
 | 0 => by rw [GY]; rfl
 | k + 1 => by
  rw [GY, Ay (by omega)]
  exact UM k
theorem Akf {P : Program} {c : Code} {Q : Exit → Act → World → Prop} {a : Act} {w : World} {l : List α} (body : α → S → Option (S ⊕ R)) (I : List Nat → S → Act → World → Prop) {s0 : S} {r : S ⊕ R}
  (H : NH body l s0 = some r) (h0 : I [] s0 a w)
  (round : ∀ js s a w, I js s a w → (js.Perm (List.range l.length) → r = .inl s) →
   (∀ j p, l[j]? = some p → (js ++ [j]).Nodup → (∀ i ∈ js ++ [j], i < l.length) → ∃ o, body p s = some o ∧ (∀ r', o = .inr r' → r = .inr r')) →
   c.wp P (Exit.then (fun a' w' => ∃ j p s', l[j]? = some p ∧ (js ++ [j]).Nodup ∧ (∀ i ∈ js ++ [j], i < l.length) ∧ body p s = some (.inl s') ∧ I (js ++ [j]) s' a' w') Q) a w) : (Code.loop c).wp P Q a w := by
 refine QA (S := Nat) (R := Unit) (fun s => if s = 0 then some (.inr ()) else some (.inl (s - 1))) (fun k a w => ∃ js s, js.Nodup ∧ (∀ j ∈ js, j < l.length) ∧ js.length + k = l.length ∧ Lk body (pick l js) s0 = some (.inl s) ∧ I js s a w) (UM l.length)
  ⟨[], s0, by simp, by simp, by simp, rfl, h0⟩ ?_
 rintro k a w ⟨js, s, hn, hl, hk, hr, hI⟩ o ho _
 refine wp_mono (round js s a w hI (fun hp => Aen H hp hr) (fun j p hp hn' hl' => ?_)) ?_
 ·obtain ⟨o, h1, h2, _⟩ := Ye H hr hn' hl' hp
  exact ⟨o, h1, h2⟩
 ·intro e a' w' h
  cases e with
  | normal =>
   obtain ⟨j, p, s', hp, hn', hl', hb, hI'⟩ := h
   have hlen := Ac6 hn' hl'
   rw [Ama, List.length_singleton] at hlen
   rw [Ay (by omega)] at ho
   cases ho
   obtain ⟨o, h1, _, h3⟩ := Ye H hr hn' hl' hp
   rw [hb] at h1
   cases h1
   exact ⟨k - 1, rfl, js ++ [j], s', hn', hl', by simp; omega, h3 _ rfl, hI'⟩
  | exit id => exact h
  | goto l => exact h
  | ret => exact h
  | panic ch => exact h
  | outgrown => exact h
end
theorem Rd.l {α : Type} {T : Ty α} {w : World} {F : List Nat} {v : Value} {l : List α} (h : Rd T w F v l) : ∃ G, Eu T w G v l := by
 obtain ⟨G, h1, _⟩ := h
 exact ⟨G, h1⟩
section
variable {S : Type} {w0 w : World} {F0 : List Nat} {ps qs : List Ck} {v : Value} {o : Option S} {s : S} {Q : S → List Ck → Prop}
def X5 (v : Value) (o : Option S) (Q : S → List Ck → Prop) : Ck := Any fun qs => (o = none ∧ v = .pointer none ∧ qs = []) ∨ ∃ s, o = some s ∧ Q s qs
theorem SL.OS (hs : SL w0 F0 w ps) : SL w0 F0 w (X5 (S := S) (.pointer none) none Q :: ps) := SL.KJ (qs := []) (.inl ⟨rfl, rfl, rfl⟩) hs
theorem SL.YU (h : Q s qs) (hs : SL w0 F0 w (qs ++ ps)) : SL w0 F0 w (X5 v (some s) Q :: ps) := SL.KJ (.inr ⟨s, rfl, h⟩) hs
theorem SL.VW (hs : SL w0 F0 w (X5 v o Q :: ps)) (ho : o = some s) : ∃ qs, Q s qs ∧ SL w0 F0 w (qs ++ ps) := by
 subst ho
 obtain ⟨qs, (⟨h, _⟩ | ⟨s', h, hq⟩), h2⟩ := SL.Ai7 hs
 ·cases h
 ·cases h
  exact ⟨qs, hq, h2⟩
end
end Go.Pv
namespace Go.Pv
open Go Go.RowKit
structure Jh where
 fa : List (Nat × Nat × Nat × Nat)
 fn : List Nat
 ng : List Nat
 ag : List (Nat × Nat)
def faL : List (Nat × Nat × Nat × Nat) → Nat → Nat → Option Nat
 | [], _, _ => none
 | (s, f, o, _) :: r, s', f' => bif Nat.beq s s' then bif Nat.beq f f' then some o else faL r s' f' else faL r s' f'
def R9 : List Nat → Nat → Bool
 | [], _ => false
 | x :: r, y => bif Nat.beq x y then true else R9 r y
def Jh.okB (T : Jh) (P : Program) : Bool := (T.fa.all fun x => PK P x.1 x.2.1 x.2.2.1 x.2.2.2) && ((T.fn.all fun f => DL P f) && ((T.ng.all fun t => Hd P t) && T.ag.all fun x => Gf P x.1 x.2))
class IE (P : Program) where
 T : Jh
 ok : T.okB P = true
theorem Xw {P : Program} {s f o : Nat} : ∀ {l : List (Nat × Nat × Nat × Nat)}, (l.all fun x => PK P x.1 x.2.1 x.2.2.1 x.2.2.2) = true → faL l s f = some o → ∃ sz, PK P s f o sz = true
 | [], _, h => by cases h
 | (s', f', o', z) :: r, ha, h => by
  simp only [List.all_cons, Amm] at ha
  unfold faL at h
  rcases h1 : Nat.beq s' s with _ | _
  ·rw [h1] at h; exact Xw ha.2 h
  ·rw [h1] at h
   rcases h2 : Nat.beq f' f with _ | _
   ·rw [h2] at h; exact Xw ha.2 h
   ·rw [h2] at h
    cases h
    rw [← Nat.eq_of_beq_eq_true h1, ← Nat.eq_of_beq_eq_true h2]
    exact ⟨z, ha.1⟩
theorem XU {B : Nat → Bool} {f : Nat} : ∀ {l : List Nat}, (l.all fun f => B f) = true → R9 l f = true → B f = true
 | [], _, h => by cases h
 | x :: r, ha, h => by
  simp only [List.all_cons, Amm] at ha
  unfold R9 at h
  rcases h1 : Nat.beq x f with _ | _
  ·rw [h1] at h; exact XU ha.2 h
  ·rw [← Nat.eq_of_beq_eq_true h1]; exact ha.1
theorem fnT {P : Program} [h : IE P] {f : Nat} (hf : R9 h.T.fn f = true) : DL P f = true := by
 have := h.ok
 unfold Jh.okB at this
 simp only [Amm] at this
 exact XU this.2.1 hf
theorem ngT {P : Program} {T : Jh} (h : T.okB P = true) {t : Nat} (hf : R9 T.ng t = true) : Hd P t = true := by
 unfold Jh.okB at h
 simp only [Amm] at h
 exact XU (B := fun t => Hd P t) h.2.2.1 hf
def Z5 : List (Nat × Nat) → Nat → Option Nat
 | [], _ => none
 | (s, k) :: r, t => bif Nat.beq s t then some k else Z5 r t
theorem Adz {P : Program} {t k : Nat} : ∀ {l : List (Nat × Nat)}, (l.all fun x => Gf P x.1 x.2) = true → Z5 l t = some k → Gf P t k = true
 | [], _, h => by cases h
 | (s, k') :: r, ha, h => by
  simp only [List.all_cons, Amm] at ha
  unfold Z5 at h
  rcases h1 : Nat.beq s t with _ | _
  ·rw [h1] at h; exact Adz ha.2 h
  ·rw [h1] at h
   cases h
   rw [← Nat.eq_of_beq_eq_true h1]
   exact ha.1
theorem agT {P : Program} {T : Jh} (h : T.okB P = true) {t k : Nat} (hf : Z5 T.ag t = some k) : Gf P t k = true := by
 unfold Jh.okB at h
 simp only [Amm] at h
 exact Adz h.2.2.2 hf
theorem faT {P : Program} {T : Jh} (h : T.okB P = true) : (T.fa.all fun x => PK P x.1 x.2.1 x.2.2.1 x.2.2.2) = true := by
 unfold Jh.okB at h
 rw [Amm] at h
 exact h.1
def V4 : IntKind → Bool
 | .u8 => true
 | _ => false
def Aas : IntKind → IntKind → Bool
 | .i8, .i8 => true
 | .i16, .i16 => true
 | .i32, .i32 => true
 | .i64, .i64 => true
 | .u8, .u8 => true
 | .u16, .u16 => true
 | .u32, .u32 => true
 | .u64, .u64 => true
 | _, _ => false
theorem Agg {k k' : IntKind} (h : Aas k k' = true) : k = k' := by cases k <;> cases k' <;> first | rfl | cases h
def evB (b : BinOp) (k : IntKind) (p q : Int) : Option Value :=
 match b with
 | .add => bif V4 k then none else some (.int k (k.wrap (p + q)))
 | .sub => bif V4 k then none else some (.int k (k.wrap (p - q)))
 | .mul => bif V4 k then none else some (.int k (k.wrap (p * q)))
 | .eql => some (.bool (p == q))
 | .neq => some (.bool (p != q))
 | .lss => some (.bool (decide (p < q)))
 | .leq => some (.bool (decide (p ≤ q)))
 | .gtr => some (.bool (decide (p > q)))
 | .geq => some (.bool (decide (p ≥ q)))
 | _ => none
def Rl (T : Jh) (m : List (Nat × Value)) : Op → Option Value
 | .move x => ev m x
 | .assign x => ev m x
 | .pick c x y => match ev m c with
  | some (.bool true) => ev m x
  | some (.bool false) => ev m y
  | _ => none
 | .unOp .not _ x => match ev m x with
  | some (.bool b) => some (.bool (!b))
  | _ => none
 | .binOp b _ x y _ => match ev m x with
  | some (.int k p) => match ev m y with
   | some (.int k' q) => bif Aas k k' then evB b k p q else none
   | _ => none
  | _ => none
 | .extract x j => match ev m x with
  | some (.tuple ⟨vs⟩) => vs[j]?
  | _ => none
 | .nilCheck x => match ev m x with
  | some (.pointer (some b)) => some (.pointer (some b))
  | _ => none
 | .fieldAddr s x f => match ev m x with
  | some (.pointer (some ⟨g, o, none⟩)) => match faL T.fa s f with
   | some off => some (.pointer (some ⟨g, Nat.add o off, none⟩))
   | none => none
  | _ => none
 | _ => none
section
variable {P : Program} {w : World} {m m' : List (Nat × Value)} {ops : Array Oper} {Q : Exit → Act → World → Prop} {a : Act} {n : Nat} {l l' : List Oper} {v : Value}
theorem Aj5 {b : BinOp} {k : IntKind} {p q : Int} {x y : Operand} {dd : Option Tmp} {t u ty : TypeId} {pos : String} {aft : Array Edge} {g : Option (Nat × Bool)} (hx : ev m x = some (.int k p)) (hy : ev m y = some (.int k q)) (h : evB b k p q = some v) :
  EX P w m ⟨dd, .binOp b t x y u, ty, pos, aft, g⟩ v w := by
 cases b <;> simp only [evB] at h <;> try cases h
 ·rcases hk : V4 k with _ | _ <;> rw [hk] at h <;> cases h; exact Adt hx hy
 ·rcases hk : V4 k with _ | _ <;> rw [hk] at h <;> cases h; exact Adc hx hy
 ·rcases hk : V4 k with _ | _ <;> rw [hk] at h <;> cases h; exact Akh hx hy
 ·exact Alf hx hy
 ·exact Akz hx hy
 ·exact Ala hx hy
 ·exact Alb hx hy
 ·exact Ak1 hx hy
 ·exact Ak5 hx hy
theorem Ms {T : Jh} (hT : T.okB P = true) {op : Op} {dd : Option Tmp} {ty : TypeId} {pos : String} {aft : Array Edge} {g : Option (Nat × Bool)} (h : Rl T m op = some v) : EX P w m ⟨dd, op, ty, pos, aft, g⟩ v w := by
 cases op with
 | move x => exact Ou h
 | assign x => exact Hm h
 | pick c x y =>
  simp only [Rl] at h
  split at h
  ·rename_i hc; exact Wc hc h
  ·rename_i hc; exact WM hc h
  ·cases h
 | unOp u t x =>
  cases u <;> simp only [Rl] at h <;> try cases h
  split at h
  ·rename_i hc; cases h; exact OL hc
  ·cases h
 | binOp b t x y u =>
  simp only [Rl] at h
  split at h
  ·rename_i hx
   split at h
   ·rename_i k p _ k' q hy
    rcases hk : Aas k k' with _ | _
    ·rw [hk] at h; cases h
    ·rw [hk] at h
     obtain rfl := Agg hk
     exact Aj5 hx hy h
   ·cases h
  ·cases h
 | extract x j =>
  simp only [Rl] at h
  split at h
  ·rename_i hx; exact NW hx (by simpa using h)
  ·cases h
 | nilCheck x =>
  simp only [Rl] at h
  split at h
  ·rename_i hx; cases h; exact YX hx
  ·cases h
 | fieldAddr s x f =>
  simp only [Rl] at h
  split at h
  ·rename_i hx
   split at h
   ·rename_i off hf
    cases h
    obtain ⟨sz, hb⟩ := Xw (faT hT) hf
    exact Ajj hb hx rfl
   ·cases h
  ·cases h
 | _ => simp only [Rl] at h; cases h
theorem Fr.sub' {d : Nat} {t b : Bool} (hF : Fr a n m) (ht : t = b) (hl : look m d = some (.bool t)) : Fr a n ((d, .bool b) :: m) := ⟨hF.size, hF.defers, fun i u hu => by
 by_cases hi : d = i
 ·subst hi
  rw [Lf] at hu
  cases hu
  rw [← ht]
  exact hF.at_ _ _ hl
 ·rw [M1 _ _ hi] at hu
  exact hF.at_ _ _ hu⟩
def Vq (T : Jh) (ops : Array Oper) (n : Nat) (m : List (Nat × Value)) (o : Oper) : Option (List (Nat × Value)) :=
 match o.dst with
 | none => none
 | some d => bif Nat.blt d n then
   match o.guard with
   | none => match Rl T m o.op with
    | some v => some ((d, v) :: m)
    | none => none
   | some (j, b) => match (ops[j]?).bind (·.dst) with
    | none => none
    | some dj => match look m dj with
     | some (.bool c) => match c, b with
      | true, true => (match Rl T m o.op with
       | some v => some ((d, v) :: m)
       | none => none)
      | false, false => (match Rl T m o.op with
       | some v => some ((d, v) :: m)
       | none => none)
      | true, false => some ((d, undef) :: m)
      | false, true => some ((d, undef) :: m)
     | some (.tuple ⟨[]⟩) => some ((d, undef) :: m)
     | _ => none
  else none
def YE (T : Jh) (ops : Array Oper) (n : Nat) : Nat → List (Nat × Value) → List Oper → Option (List (Nat × Value) × List Oper)
 | 0, m, l => some (m, l)
 | k + 1, m, o :: l => match Vq T ops n m o with
  | some m' => YE T ops n k m' l
  | none => none
 | _ + 1, _, [] => none
theorem Ab2 {T : Jh} (hT : T.okB P = true) {o : Oper} (hF : Fr a n m) (h : Vq T ops n m o = some m') (k : ∀ a, Fr a n m' → wpList P ops Q l a w) : wpList P ops Q (o :: l) a w := by
 unfold Vq at h
 split at h
 ·cases h
 ·rename_i d hd
  rcases hlt : Nat.blt d n with _ | _
  ·rw [hlt] at h; cases h
  ·rw [hlt] at h
   simp only [cond_true] at h
   split at h
   ·rename_i hg
    split at h
    ·rename_i v hv
     cases h
     exact I5 hF (Ms (P := P) hT (w := w) hv) hg hd hlt k
    ·cases h
   ·rename_i j b hg
    split at h
    ·cases h
    ·rename_i dj hj
     split at h
     ·rename_i c hb
      split at h
      ·split at h
       ·rename_i v hv
        cases h
        exact Nv hF hg hj hb (Ms (P := P) hT (w := w) hv) hd hlt k
       ·cases h
      ·split at h
       ·rename_i v hv
        cases h
        exact Nv hF hg hj hb (Ms (P := P) hT (w := w) hv) hd hlt k
       ·cases h
      ·cases h
       exact XQ hF hg hj hb Bool.noConfusion hd hlt k
      ·cases h
       exact XQ hF hg hj hb Bool.noConfusion hd hlt k
     ·rename_i hb
      cases h
      exact Acu hF hg hj hb hd hlt k
     ·cases h
theorem Acs {T : Jh} (hT : T.okB P = true) : ∀ (k : Nat) {m : List (Nat × Value)} {l : List Oper} {a : Act}, Fr a n m → YE T ops n k m l = some (m', l') → (∀ a, Fr a n m' → wpList P ops Q l' a w) → wpList P ops Q l a w
 | 0, m, l, a, hF, h, k => by
  cases h
  exact k a hF
 | i + 1, m, [], a, hF, h, k => by cases h
 | i + 1, m, o :: l, a, hF, h, k => by
  simp only [YE] at h
  split at h
  ·rename_i m1 h1
   exact Ab2 hT hF h1 fun a hF => Acs hT i hF h k
  ·cases h
theorem sv [IE P] (i : Nat) (hF : Fr a n m) (k : ∀ a, Fr a n m' → wpList P ops Q l' a w) (h : YE (IE.T P) ops n i m l = some (m', l') := by rfl) : wpList P ops Q l a w := Acs IE.ok i hF h k
theorem sx {o : Oper} {d : Nat} (hF : Fr a n m) (he : EX P w m o v w) (k : ∀ a, Fr a n ((d, v) :: m) → wpList P ops Q l a w) (hg : o.guard = none := by rfl) (hd : o.dst = some d := by rfl) (hlt : Nat.blt d n = true := by rfl) : wpList P ops Q (o :: l) a w := I5 hF he hg hd hlt k
theorem Fr.kt {d : Nat} {t : Bool} (hF : Fr a n m) (ht : t = true) (hl : look m d = some (.bool t) := by rfl) : Fr a n ((d, .bool true) :: m) := hF.sub' ht hl
theorem Fr.kf {d : Nat} {t : Bool} (hF : Fr a n m) (ht : t = false) (hl : look m d = some (.bool t) := by rfl) : Fr a n ((d, .bool false) :: m) := hF.sub' ht hl
theorem ifs {α : Type} {t : Nat} {b : Bool} {x y : Code} {A B : Option α} {r : α} (hF : Fr a n m) (H : (if b = true then A else B) = some r) (ht : b = true → A = some r → Fr a n ((t, .bool true) :: m) → x.wp P Q a w) (hf : b = false → B = some r → Fr a n ((t, .bool false) :: m) → y.wp P Q a w) (hc : look m t = some (.bool b) := by rfl) : (Code.cond (.tmp t) x y).wp P Q a w :=
 Xi hF hc (fun h => ht h (Xk h H) (hF.kt h hc)) (fun h => hf h (Xp h H) (hF.kf h hc))
theorem Cp {α : Type} {b : Bool} {A B : Option α} {r : α} {G : Prop} (d : Nat) (hF : Fr a n m) (H : (if b = true then A else B) = some r) (ht : b = true → A = some r → Fr a n ((d, .bool true) :: m) → G) (hf : b = false → B = some r → Fr a n ((d, .bool false) :: m) → G) (hc : look m d = some (.bool b) := by rfl) : G :=
 bool_split b (fun h => ht h (Xk h H) (hF.kt h hc)) (fun h => hf h (Xp h H) (hF.kf h hc))
def J1 (m : List (Nat × Value)) : List ResultVar → Option (List Value)
 | [] => some []
 | .tmp t :: r => match look m t with
  | some v => match J1 m r with
   | some l => some (v :: l)
   | none => none
  | none => none
 | .cell _ _ :: _ => none
theorem Aaa : ∀ {rs : List ResultVar} {vs : List Value}, J1 m rs = some vs → RVs P w m rs vs
 | [], vs, h => by cases h; rfl
 | .tmp t :: r, vs, h => by
  simp only [J1] at h
  split at h
  ·rename_i v hv
   split at h
   ·rename_i l hl
    cases h
    exact ⟨v, l, rfl, RV.tmp hv, Aaa hl⟩
   ·cases h
  ·cases h
 | .cell _ _ :: _, _, h => by cases h
theorem rt {fn : Func} {S : Value → World → Prop} {vs : List Value} (hF : Fr a n m) (hS : S (Aah vs) w) (hv : J1 m fn.results.toList = some vs := by rfl) : bodyPost P fn (B8 S) .ret a w :=
 HY (rs := fn.results.toList) hF (by simp) (Aaa hv) ⟨_, rfl, hS⟩
section
variable {w0 : World} {F0 : List Nat} {ps : List Ck} {d : Nat} {ty : TypeId} {pos : String} {aft : Array Edge} {S : Value → World → Prop}
theorem stc [IE P] {f : Nat} {args : List Operand} {ats : Array TypeId} {vs : List Value} (hF : Fr a n m) (hs : SL w0 F0 w ps) (hc : Calls P f vs.toArray w (B8 fun u w' => u = v ∧ SL w [] w' [])) (k : ∀ w a, Fr a n ((d, v) :: m) → SL w0 F0 w ps → wpList P ops Q l a w)
  (hargs : Mt m args = some vs := by rfl) (hf : R9 (IE.T P).fn f = true := by rfl) (hlt : Nat.blt d n = true := by rfl) : wpList P ops Q (⟨some d, .call { callee := .value (.func f), args := args.toArray, argTypes := ats }, ty, pos, aft, none⟩ :: l) a w :=
 HW hF (fnT hf) hargs hc hlt fun _ w a ⟨e, hq⟩ hF => k w a (e ▸ hF) (hs.add hq)
theorem Ei [IE P] {f : Nat} {args : List Operand} {ats : Array TypeId} {vs : List Value} (hF : Fr a n m) (hc : Calls P f vs.toArray w (B8 S)) (k : ∀ v w a, S v w → Fr a n ((d, v) :: m) → wpList P ops Q l a w)
  (hargs : Mt m args = some vs := by rfl) (hf : R9 (IE.T P).fn f = true := by rfl) (hlt : Nat.blt d n = true := by rfl) : wpList P ops Q (⟨some d, .call { callee := .value (.func f), args := args.toArray, argTypes := ats }, ty, pos, aft, none⟩ :: l) a w :=
 HW hF (fnT hf) hargs hc hlt k
theorem se {J : Act → World → Prop} {Q' : Exit → Act → World → Prop} (h : J a w) : wpList P ops (Exit.then J Q') [] a w := AW (Fe h)
theorem sr {id : Nat} {y : Code} (h : wpList P l.toArray (Exit.then (y.wp P Q) Q) l a w) : (Code.seq (Code.region id l.toArray false) y).wp P Q a w := wp_seq (AZ h)
end
end
end Go.Pv
namespace Go.Pv
open Go Go.RowKit
inductive Kf
 | seq (y : Code)
 | blk (id : Nat)
 | thn (J : Act → World → Prop)
 | kq (J : Act → World → Prop)
 | jmp (l : Nat) (rest : Code)
 | nog
 | rnd (c : Code) (i : Nat)
def Ds (P : Program) (Q0 : Exit → Act → World → Prop) : List Kf → Exit → Act → World → Prop
 | [] => Q0
 | .seq y :: K => Exit.then (y.wp P (Ds P Q0 K)) (Ds P Q0 K)
 | .blk id :: K => Exit.inBlock id (Ds P Q0 K)
 | .thn J :: K => Exit.then J (Ds P Q0 K)
 | .kq J :: _ => KQ J
 | .jmp l rest :: K => Exit.jump l (fun a w => rest.wp P (Exit.noGoto (Ds P Q0 K)) a w) (Ds P Q0 K)
 | .nog :: K => Exit.noGoto (Ds P Q0 K)
 | .rnd c i :: K => Exit.then (Code.rounds P c (Ds P Q0 K) i) (Ds P Q0 K)
inductive Md
 | co (c : Code)
 | li (ops : Array Oper) (l : List Oper)
 | ex (e : Exit)
def gl (P : Program) (Q0 : Exit → Act → World → Prop) (K : List Kf) : Md → Act → World → Prop
 | .co c => c.wp P (Ds P Q0 K)
 | .li ops l => wpList P ops (Ds P Q0 K) l
 | .ex e => Ds P Q0 K e
abbrev J9 := List (Nat × Value)
def run (P : Program) (Q0 : Exit → Act → World → Prop) (T : Jh) (n : Nat) : Nat → Md → List Kf → J9 → Option (J9 × (Act → World → Prop))
 | 0, .co c, K, m => some (m, c.wp P (Ds P Q0 K))
 | 0, .li ops l, K, m => some (m, wpList P ops (Ds P Q0 K) l)
 | 0, .ex .normal, .thn J :: _, m => some (m, J)
 | 0, .ex .normal, .kq J :: _, m => some (m, J)
 | 0, .ex e, [], m => some (m, Q0 e)
 | 0, .ex e, k :: K, m => some (m, Ds P Q0 (k :: K) e)
 | i + 1, .co (.seq x y), K, m => run P Q0 T n i (.co x) (.seq y :: K) m
 | i + 1, .co (.region _ ops false), K, m => run P Q0 T n i (.li ops ops.toList) K m
 | i + 1, .co .skip, K, m => run P Q0 T n i (.ex .normal) K m
 | i + 1, .co (.block id c), K, m => run P Q0 T n i (.co c) (.blk id :: K) m
 | i + 1, .co (.exit id), K, m => run P Q0 T n i (.ex (.exit id)) K m
 | i + 1, .co .ret, K, m => run P Q0 T n i (.ex .ret) K m
 | i + 1, .co (.cond (.tmp t) x y), K, m => match look m t with
  | some (.bool true) => run P Q0 T n i (.co x) K m
  | some (.bool false) => run P Q0 T n i (.co y) K m
  | _ => none
 | i + 1, .li _ [], K, m => run P Q0 T n i (.ex .normal) K m
 | i + 1, .li ops (o :: l), K, m => match Vq T ops n m o with
  | some m' => run P Q0 T n i (.li ops l) K m'
  | none => none
 | i + 1, .ex .normal, .seq y :: K, m => run P Q0 T n i (.co y) K m
 | i + 1, .ex .normal, .blk _ :: K, m => run P Q0 T n i (.ex .normal) K m
 | i + 1, .ex (.exit j), .seq _ :: K, m => run P Q0 T n i (.ex (.exit j)) K m
 | i + 1, .ex (.exit j), .thn _ :: K, m => run P Q0 T n i (.ex (.exit j)) K m
 | i + 1, .ex (.exit j), .blk k :: K, m => bif Nat.beq k j then run P Q0 T n i (.ex .normal) K m else run P Q0 T n i (.ex (.exit j)) K m
 | i + 1, .ex .ret, .seq _ :: K, m => run P Q0 T n i (.ex .ret) K m
 | i + 1, .ex .ret, .blk _ :: K, m => run P Q0 T n i (.ex .ret) K m
 | i + 1, .ex .ret, .thn _ :: K, m => run P Q0 T n i (.ex .ret) K m
 | i + 1, .co (.goto l), K, m => run P Q0 T n i (.ex (.goto l)) K m
 | i + 1, .co (.label _), K, m => run P Q0 T n i (.ex .normal) K m
 | i + 1, .ex (.goto j), .seq _ :: K, m => run P Q0 T n i (.ex (.goto j)) K m
 | i + 1, .ex (.goto j), .thn _ :: K, m => run P Q0 T n i (.ex (.goto j)) K m
 | i + 1, .ex (.goto j), .rnd _ _ :: K, m => run P Q0 T n i (.ex (.goto j)) K m
 | i + 1, .ex (.goto j), .blk _ :: K, m => run P Q0 T n i (.ex (.goto j)) K m
 | i + 1, .ex (.goto j), .jmp l y :: K, m => bif Nat.beq j l then run P Q0 T n i (.co y) (.nog :: K) m else none
 | i + 1, .ex .normal, .jmp _ _ :: K, m => run P Q0 T n i (.ex .normal) K m
 | i + 1, .ex (.exit j), .jmp _ _ :: K, m => run P Q0 T n i (.ex (.exit j)) K m
 | i + 1, .ex .ret, .jmp _ _ :: K, m => run P Q0 T n i (.ex .ret) K m
 | i + 1, .ex .normal, .nog :: K, m => run P Q0 T n i (.ex .normal) K m
 | i + 1, .ex (.exit j), .nog :: K, m => run P Q0 T n i (.ex (.exit j)) K m
 | i + 1, .ex .ret, .nog :: K, m => run P Q0 T n i (.ex .ret) K m
 | i + 2, .ex .normal, .rnd c (j + 1) :: K, m => run P Q0 T n i (.co c) (.rnd c j :: K) m
 | i + 1, .ex (.exit j), .rnd _ _ :: K, m => run P Q0 T n i (.ex (.exit j)) K m
 | i + 1, .ex .ret, .rnd _ _ :: K, m => run P Q0 T n i (.ex .ret) K m
 | _, _, _, _ => none
section
variable {P : Program} {w w' : World} {m m' : List (Nat × Value)} {ops : Array Oper} {Q Q0 : Exit → Act → World → Prop} {a : Act} {n : Nat} {l l' : List Oper} {v : Value} {K : List Kf} {X X' : Act → World → Prop}
theorem Cu [h0 : IE P] : ∀ (i : Nat) {d : Md} {K : List Kf} {m : J9} {a : Act}, Fr a n m → run P Q0 h0.T n i d K m = some (m', X) → (∀ a, Fr a n m' → X a w) → gl P Q0 K d a w
 | 0, .co c, K, m, a, hF, h, k => by cases h; exact k a hF
 | 0, .li ops l, K, m, a, hF, h, k => by cases h; exact k a hF
 | 0, .ex e, [], m, a, hF, h, k => by cases e <;> (cases h; exact k a hF)
 | 0, .ex e, .seq y :: K, m, a, hF, h, k => by cases e <;> (cases h; exact k a hF)
 | 0, .ex e, .blk y :: K, m, a, hF, h, k => by cases e <;> (cases h; exact k a hF)
 | 0, .ex e, .thn y :: K, m, a, hF, h, k => by cases e <;> (cases h; exact k a hF)
 | 0, .ex e, .kq y :: K, m, a, hF, h, k => by cases e <;> (cases h; exact k a hF)
 | 0, .ex e, .jmp l y :: K, m, a, hF, h, k => by cases e <;> (cases h; exact k a hF)
 | 0, .ex e, .nog :: K, m, a, hF, h, k => by cases e <;> (cases h; exact k a hF)
 | 0, .ex e, .rnd c j :: K, m, a, hF, h, k => by cases e <;> (cases h; exact k a hF)
 | i + 1, .co c, K, m, a, hF, h, k => by
  cases c with
  | seq x y => exact wp_seq (Cu i (K := .seq y :: K) hF h k)
  | region id ops b =>
   cases b with
   | false => exact AZ (l := ops.toList) (Cu i hF h k)
   | true => simp only [run] at h; cases h
  | skip => exact wp_skip (Cu i hF h k)
  | block id c => exact wp_block (Cu i (K := .blk id :: K) hF h k)
  | exit id => exact wp_exit (Cu i (d := .ex (.exit id)) hF h k)
  | ret => exact wp_ret (Cu i (d := .ex .ret) hF h k)
  | goto l => exact wp_goto (Cu i (d := .ex (.goto l)) hF h k)
  | label l => exact wp_label (Cu i (d := .ex .normal) hF h k)
  | cond t x y =>
   cases t with
   | tmp t =>
    simp only [run] at h
    split at h
    ·rename_i ht; exact DO hF ht (Cu i hF h k)
    ·rename_i ht; exact Fv hF ht (Cu i hF h k)
    ·cases h
   | _ => simp only [run] at h; cases h
  | _ => simp only [run] at h; cases h
 | i + 1, .li ops [], K, m, a, hF, h, k => AW (P := P) (ops := ops) (Cu i (d := .ex .normal) hF h k)
 | i + 1, .li ops (o :: l), K, m, a, hF, h, k => by
  simp only [run] at h
  split at h
  ·rename_i m1 h1
   exact Ab2 h0.ok hF h1 fun a hF => Cu i (d := .li ops l) hF h k
  ·cases h
 | i + 1, .ex e, [], m, a, hF, h, k => by cases e <;> (simp only [run] at h; cases h)
 | i + 1, .ex e, .seq y :: K, m, a, hF, h, k => by
  cases e with
  | normal => exact Cu i (d := .co y) hF h k
  | exit j => exact Cu i (d := .ex (.exit j)) (K := K) hF h k
  | goto j => exact Cu i (d := .ex (.goto j)) (K := K) hF h k
  | ret => exact Cu i (d := .ex .ret) (K := K) hF h k
  | _ => simp only [run] at h; cases h
 | i + 1, .ex e, .thn J :: K, m, a, hF, h, k => by
  cases e with
  | exit j => exact Cu i (d := .ex (.exit j)) (K := K) hF h k
  | goto j => exact Cu i (d := .ex (.goto j)) (K := K) hF h k
  | ret => exact Cu i (d := .ex .ret) (K := K) hF h k
  | _ => simp only [run] at h; cases h
 | i + 1, .ex e, .kq J :: K, m, a, hF, h, k => by cases e <;> (simp only [run] at h; cases h)
 | i + 1, .ex e, .blk id :: K, m, a, hF, h, k => by
  cases e with
  | normal => exact Cu i (d := .ex .normal) (K := K) hF h k
  | exit j =>
   simp only [run] at h
   rcases hb : Nat.beq id j with _ | _
   ·rw [hb] at h
    exact Afv (by
     rcases hb2 : Nat.beq j id with _ | _
     ·rfl
     ·rw [Nat.eq_of_beq_eq_true hb2, Nat.beq_refl] at hb; cases hb) (Cu i (d := .ex (.exit j)) (K := K) hF h k)
   ·rw [hb] at h
    obtain rfl := Nat.eq_of_beq_eq_true hb
    exact KP (Cu i (d := .ex .normal) (K := K) hF h k)
  | goto j => exact Cu i (d := .ex (.goto j)) (K := K) hF h k
  | ret => exact Cu i (d := .ex .ret) (K := K) hF h k
  | _ => simp only [run] at h; cases h
 | i + 1, .ex e, .jmp l y :: K, m, a, hF, h, k => by
  cases e with
  | normal => exact Cu i (d := .ex .normal) (K := K) hF h k
  | exit j => exact Cu i (d := .ex (.exit j)) (K := K) hF h k
  | ret => exact Cu i (d := .ex .ret) (K := K) hF h k
  | goto j =>
   simp only [run] at h
   rcases hb : Nat.beq j l with _ | _
   ·rw [hb] at h; cases h
   ·rw [hb] at h
    obtain rfl := Nat.eq_of_beq_eq_true hb
    exact Ahs (Q := Ds P Q0 K) (Cu i (d := .co y) (K := .nog :: K) hF h k)
  | _ => simp only [run] at h; cases h
 | i + 1, .ex e, .nog :: K, m, a, hF, h, k => by
  cases e with
  | normal => exact Cu i (d := .ex .normal) (K := K) hF h k
  | exit j => exact Cu i (d := .ex (.exit j)) (K := K) hF h k
  | ret => exact Cu i (d := .ex .ret) (K := K) hF h k
  | _ => simp only [run] at h; cases h
 | i + 1, .ex e, .rnd c j :: K, m, a, hF, h, k => by
  cases e with
  | normal =>
   cases i with
   | zero => cases j <;> (simp only [run] at h; cases h)
   | succ i =>
    cases j with
    | zero => simp only [run] at h; cases h
    | succ j => exact JS (Cu i (d := .co c) (K := .rnd c j :: K) hF h k)
  | exit j => exact Cu i (d := .ex (.exit j)) (K := K) hF h k
  | goto j => exact Cu i (d := .ex (.goto j)) (K := K) hF h k
  | ret => exact Cu i (d := .ex .ret) (K := K) hF h k
  | _ => simp only [run] at h; cases h
section
variable [h0 : IE P]
theorem gc {c : Code} (i : Nat) (hF : Fr a n m) (h : run P Q0 h0.T n i (.co c) K m = some (m', X)) (k : ∀ a, Fr a n m' → X a w) : c.wp P (Ds P Q0 K) a w := Cu i hF h k
theorem gw (i : Nat) (hF : Fr a n m) (h : run P Q0 h0.T n i (.li ops l) K m = some (m', X)) (k : ∀ a, Fr a n m' → X a w) : wpList P ops (Ds P Q0 K) l a w := Cu (d := .li ops l) i hF h k
theorem ge {e : Exit} (i : Nat) (hF : Fr a n m) (h : run P Q0 h0.T n i (.ex e) K m = some (m', X)) (k : ∀ a, Fr a n m' → X a w) : Ds P Q0 K e a w := Cu (d := .ex e) i hF h k
def MW (o : Oper) (n : Nat) : Option Nat := match o.guard, o.dst with
 | none, some d => bif Nat.blt d n then some d else none
 | _, _ => none
theorem PQ {o : Oper} {d : Nat} (h : MW o n = some d) : o.guard = none ∧ o.dst = some d ∧ Nat.blt d n = true := by
 unfold MW at h
 split at h
 ·rename_i d' h1 h2
  rcases hb : Nat.blt d' n with _ | _
  ·rw [hb] at h; cases h
  ·rw [hb] at h; cases h; exact ⟨h1, h2, hb⟩
 ·cases h
theorem gx {o : Oper} {d : Nat} (hF : Fr a n m) (he : EX P w m o v w) (i : Nat) (hd : MW o n = some d) (h : run P Q0 h0.T n i (.li ops l) K ((d, v) :: m) = some (m', X)) (k : ∀ a, Fr a n m' → X a w) : wpList P ops (Ds P Q0 K) (o :: l) a w :=
 have ⟨h1, h2, h3⟩ := PQ hd
 I5 hF he h1 h2 h3 fun a hF => gw i hF h k
theorem Be {α : Type} {t : Nat} {b : Bool} {x y : Code} {A B : Option α} {r : α} {m1 m2 : J9} (hF : Fr a n m) (H : (if b = true then A else B) = some r) (i j : Nat) (hc : look m t = some (.bool b))
  (h1 : run P Q0 h0.T n i (.co x) K ((t, .bool true) :: m) = some (m1, X)) (h2 : run P Q0 h0.T n j (.co y) K ((t, .bool false) :: m) = some (m2, X'))
  (ht : b = true → A = some r → ∀ a, Fr a n m1 → X a w) (hf : b = false → B = some r → ∀ a, Fr a n m2 → X' a w) : (Code.cond (.tmp t) x y).wp P (Ds P Q0 K) a w :=
 ifs hF H (fun hb H hF => gc i hF h1 (ht hb H)) (fun hb H hF => gc j hF h2 (hf hb H)) hc
section
variable {w0 : World} {F0 : List Nat} {ps : List Ck} {d : Nat} {ty : TypeId} {pos : String} {aft : Array Edge} {S : Value → World → Prop}
theorem BW {f : Nat} {args : List Operand} {ats : Array TypeId} {vs : List Value} (hF : Fr a n m) (hs : SL w0 F0 w ps) (hc : Calls P f vs.toArray w (B8 fun u w' => u = v ∧ SL w [] w' [])) (i : Nat)
  (hargs : Mt m args = some vs) (hf : R9 h0.T.fn f = true) (hlt : Nat.blt d n = true) (h : run P Q0 h0.T n i (.li ops l) K ((d, v) :: m) = some (m', X)) (k : ∀ w a, Fr a n m' → SL w0 F0 w ps → X a w) :
  wpList P ops (Ds P Q0 K) (⟨some d, .call { callee := .value (.func f), args := args.toArray, argTypes := ats }, ty, pos, aft, none⟩ :: l) a w :=
 stc hF hs hc (fun w a hF hs => gw i hF h fun a hF => k w a hF hs) hargs hf hlt
end
theorem Cb {f : FuncId} {fn : Func} {c : Code} {args : List Value} {R : Ending → World → Prop} (hf : P.funcs[f]? = some fn) (hn : fn.ntmps = n) (i : Nat) (hb : fn.body = some c) (hl : Nat.ble args.length n = true)
  (h : run P (bodyPost P fn R) h0.T n i (.co c) [] (Uh 0 args) = some (m', X)) (k : ∀ a, Fr a n m' → X a w) : Calls P f args.toArray w R :=
 D7 hf hb hn (Nat.le_of_ble_eq_true hl) fun a hF => gc i hF h k
omit h0 in
theorem Cx {c : Code} (J : Act → World → Prop) (h1 : c.wp P (Ds P Q0 (.thn J :: K)) a w) (h2 : ∀ a w, J a w → Ds P Q0 K .normal a w) : c.wp P (Ds P Q0 K) a w := Lh J h1 h2
omit h0 in
theorem E6 {S R : Type} {c : Code} (body : S → Option (S ⊕ R)) (I : S → Act → World → Prop) {s : S} {r : R} (H : AQ body s = some r) (h0 : I s a w)
  (round : ∀ s a w, I s a w → ∀ o, body s = some o → (∀ r', o = .inr r' → r' = r) → c.wp P (Ds P Q0 (.thn (fun a' w' => ∃ s', o = .inl s' ∧ I s' a' w') :: K)) a w) : (Code.loop c).wp P (Ds P Q0 K) a w := QA body I H h0 round
omit h0 in
theorem Alo {α S R : Type} {c : Code} {l : List α} (body : α → S → Option (S ⊕ R)) (I : List Nat → S → Act → World → Prop) {s0 : S} {r : S ⊕ R}
  (H : NH body l s0 = some r) (h0 : I [] s0 a w)
  (round : ∀ js s a w, I js s a w → (js.Perm (List.range l.length) → r = .inl s) →
   (∀ j p, l[j]? = some p → (js ++ [j]).Nodup → (∀ i ∈ js ++ [j], i < l.length) → ∃ o, body p s = some o ∧ (∀ r', o = .inr r' → r = .inr r')) →
   c.wp P (Ds P Q0 (.thn (fun a' w' => ∃ j p s', l[j]? = some p ∧ (js ++ [j]).Nodup ∧ (∀ i ∈ js ++ [j], i < l.length) ∧ body p s = some (.inl s') ∧ I (js ++ [j]) s' a' w') :: K)) a w) : (Code.loop c).wp P (Ds P Q0 K) a w := Akf body I H h0 round
omit h0 in
theorem rdk {c : Code} (i : Nat) (h : c.wp P (Ds P Q0 (.rnd c i :: K)) a w) : (Code.loop c).wp P (Ds P Q0 K) a w := wp_loop_rounds (i + 1) (JS h)
omit h0 in
theorem sck {c rest : Code} (l : Nat) (hf : findLabel c l = some rest) (h : c.wp P (Ds P Q0 (.jmp l rest :: K)) a w) : (Code.scope c).wp P (Ds P Q0 K) a w := Rk l hf h
end
end
end Go.Pv
