/- Ways through code, reckoned: the code, what waits behind it, and runs of steps in one row. -/
import Derived.Test.YtkcehlfcfcabmaaGreatPvx
import Derived.Test.YtkcehlfcfcabmaaGreatPvA
set_option linter.unusedVariables false
set_option linter.unusedSimpArgs false
namespace Go.Pv
open Go Go.RowKit
/-- What waits behind the code. -/
inductive Kf
  | seq (y : Code)
  | blk (id : Nat)
  | thn (J : Act → World → Prop)
  | kq (J : Act → World → Prop)
  | jmp (l : Nat) (rest : Code)
  | nog
  | rnd (c : Code) (i : Nat)
def cont (P : Program) (Q0 : Exit → Act → World → Prop) : List Kf → Exit → Act → World → Prop
  | [] => Q0
  | .seq y :: K => Exit.then (y.wp P (cont P Q0 K)) (cont P Q0 K)
  | .blk id :: K => Exit.inBlock id (cont P Q0 K)
  | .thn J :: K => Exit.then J (cont P Q0 K)
  | .kq J :: _ => KQ J
  | .jmp l rest :: K => Exit.jump l (fun a w => rest.wp P (Exit.noGoto (cont P Q0 K)) a w) (cont P Q0 K)
  | .nog :: K => Exit.noGoto (cont P Q0 K)
  | .rnd c i :: K => Exit.then (Code.rounds P c (cont P Q0 K) i) (cont P Q0 K)
inductive Md
  | co (c : Code)
  | li (ops : Array Oper) (l : List Oper)
  | ex (e : Exit)
def gl (P : Program) (Q0 : Exit → Act → World → Prop) (K : List Kf) : Md → Act → World → Prop
  | .co c => c.wp P (cont P Q0 K)
  | .li ops l => wpList P ops (cont P Q0 K) l
  | .ex e => cont P Q0 K e
abbrev Mp_ := List (Nat × Value)
def run (P : Program) (Q0 : Exit → Act → World → Prop) (T : Tab) (n : Nat) : Nat → Md → List Kf → Mp_ → Option (Mp_ × (Act → World → Prop))
  | 0, .co c, K, m => some (m, c.wp P (cont P Q0 K))
  | 0, .li ops l, K, m => some (m, wpList P ops (cont P Q0 K) l)
  | 0, .ex .normal, .thn J :: _, m => some (m, J)
  | 0, .ex .normal, .kq J :: _, m => some (m, J)
  | 0, .ex e, [], m => some (m, Q0 e)
  | 0, .ex e, k :: K, m => some (m, cont P Q0 (k :: K) e)
  | i + 1, .co (.seq x y), K, m => run P Q0 T n i (.co x) (.seq y :: K) m
  | i + 1, .co (.region _ ops false), K, m => run P Q0 T n i (.li ops ops.toList) K m
  | i + 1, .co .skip, K, m => run P Q0 T n i (.ex .normal) K m
  | i + 1, .co (.block id c), K, m => run P Q0 T n i (.co c) (.blk id :: K) m
  | i + 1, .co (.exit id), K, m => run P Q0 T n i (.ex (.exit id)) K m
  | i + 1, .co .ret, K, m => run P Q0 T n i (.ex .ret) K m
  | i + 1, .co (.cond (.tmp t) x y), K, m => match look m t with
    | some (.bool true) => run P Q0 T n i (.co x) K m
    | some (.bool false) => run P Q0 T n i (.co y) K m
    | _ => none
  | i + 1, .li _ [], K, m => run P Q0 T n i (.ex .normal) K m
  | i + 1, .li ops (o :: l), K, m => match evG T ops n m o with
    | some m' => run P Q0 T n i (.li ops l) K m'
    | none => none
  | i + 1, .ex .normal, .seq y :: K, m => run P Q0 T n i (.co y) K m
  | i + 1, .ex .normal, .blk _ :: K, m => run P Q0 T n i (.ex .normal) K m
  | i + 1, .ex (.exit j), .seq _ :: K, m => run P Q0 T n i (.ex (.exit j)) K m
  | i + 1, .ex (.exit j), .thn _ :: K, m => run P Q0 T n i (.ex (.exit j)) K m
  | i + 1, .ex (.exit j), .blk k :: K, m => bif Nat.beq k j then run P Q0 T n i (.ex .normal) K m else run P Q0 T n i (.ex (.exit j)) K m
  | i + 1, .ex .ret, .seq _ :: K, m => run P Q0 T n i (.ex .ret) K m
  | i + 1, .ex .ret, .blk _ :: K, m => run P Q0 T n i (.ex .ret) K m
  | i + 1, .ex .ret, .thn _ :: K, m => run P Q0 T n i (.ex .ret) K m
  | i + 1, .co (.goto l), K, m => run P Q0 T n i (.ex (.goto l)) K m
  | i + 1, .co (.label _), K, m => run P Q0 T n i (.ex .normal) K m
  | i + 1, .ex (.goto j), .seq _ :: K, m => run P Q0 T n i (.ex (.goto j)) K m
  | i + 1, .ex (.goto j), .thn _ :: K, m => run P Q0 T n i (.ex (.goto j)) K m
  | i + 1, .ex (.goto j), .rnd _ _ :: K, m => run P Q0 T n i (.ex (.goto j)) K m
  | i + 1, .ex (.goto j), .blk _ :: K, m => run P Q0 T n i (.ex (.goto j)) K m
  | i + 1, .ex (.goto j), .jmp l y :: K, m => bif Nat.beq j l then run P Q0 T n i (.co y) (.nog :: K) m else none
  | i + 1, .ex .normal, .jmp _ _ :: K, m => run P Q0 T n i (.ex .normal) K m
  | i + 1, .ex (.exit j), .jmp _ _ :: K, m => run P Q0 T n i (.ex (.exit j)) K m
  | i + 1, .ex .ret, .jmp _ _ :: K, m => run P Q0 T n i (.ex .ret) K m
  | i + 1, .ex .normal, .nog :: K, m => run P Q0 T n i (.ex .normal) K m
  | i + 1, .ex (.exit j), .nog :: K, m => run P Q0 T n i (.ex (.exit j)) K m
  | i + 1, .ex .ret, .nog :: K, m => run P Q0 T n i (.ex .ret) K m
  | i + 2, .ex .normal, .rnd c (j + 1) :: K, m => run P Q0 T n i (.co c) (.rnd c j :: K) m
  | i + 1, .ex (.exit j), .rnd _ _ :: K, m => run P Q0 T n i (.ex (.exit j)) K m
  | i + 1, .ex .ret, .rnd _ _ :: K, m => run P Q0 T n i (.ex .ret) K m
  | _, _, _, _ => none
section
variable {P : Program} {w w' : World} {m m' : List (Nat × Value)} {ops : Array Oper} {Q Q0 : Exit → Act → World → Prop} {a : Act} {n : Nat} {l l' : List Oper} {v : Value} {K : List Kf} {X X' : Act → World → Prop}
theorem run_ok [h0 : HasTab P] : ∀ (i : Nat) {d : Md} {K : List Kf} {m : Mp_} {a : Act}, Fr a n m → run P Q0 h0.T n i d K m = some (m', X) → (∀ a, Fr a n m' → X a w) → gl P Q0 K d a w
  | 0, .co c, K, m, a, hF, h, k => by cases h; exact k a hF
  | 0, .li ops l, K, m, a, hF, h, k => by cases h; exact k a hF
  | 0, .ex e, [], m, a, hF, h, k => by cases e <;> (cases h; exact k a hF)
  | 0, .ex e, .seq y :: K, m, a, hF, h, k => by cases e <;> (cases h; exact k a hF)
  | 0, .ex e, .blk y :: K, m, a, hF, h, k => by cases e <;> (cases h; exact k a hF)
  | 0, .ex e, .thn y :: K, m, a, hF, h, k => by cases e <;> (cases h; exact k a hF)
  | 0, .ex e, .kq y :: K, m, a, hF, h, k => by cases e <;> (cases h; exact k a hF)
  | 0, .ex e, .jmp l y :: K, m, a, hF, h, k => by cases e <;> (cases h; exact k a hF)
  | 0, .ex e, .nog :: K, m, a, hF, h, k => by cases e <;> (cases h; exact k a hF)
  | 0, .ex e, .rnd c j :: K, m, a, hF, h, k => by cases e <;> (cases h; exact k a hF)
  | i + 1, .co c, K, m, a, hF, h, k => by
    cases c with
    | seq x y => exact wp_seq (run_ok i (K := .seq y :: K) hF h k)
    | region id ops b =>
      cases b with
      | false => exact wp_reg (l := ops.toList) (run_ok i hF h k)
      | true => simp only [run] at h; cases h
    | skip => exact wp_skip (run_ok i hF h k)
    | block id c => exact wp_block (run_ok i (K := .blk id :: K) hF h k)
    | exit id => exact wp_exit (run_ok i (d := .ex (.exit id)) hF h k)
    | ret => exact wp_ret (run_ok i (d := .ex .ret) hF h k)
    | goto l => exact wp_goto (run_ok i (d := .ex (.goto l)) hF h k)
    | label l => exact wp_label (run_ok i (d := .ex .normal) hF h k)
    | cond t x y =>
      cases t with
      | tmp t =>
        simp only [run] at h
        split at h
        · rename_i ht; exact wp_if_t hF ht (run_ok i hF h k)
        · rename_i ht; exact wp_if_f hF ht (run_ok i hF h k)
        · cases h
      | _ => simp only [run] at h; cases h
    | _ => simp only [run] at h; cases h
  | i + 1, .li ops [], K, m, a, hF, h, k => st_end (P := P) (ops := ops) (run_ok i (d := .ex .normal) hF h k)
  | i + 1, .li ops (o :: l), K, m, a, hF, h, k => by
    simp only [run] at h
    split at h
    · rename_i m1 h1
      exact evG_ok h0.ok hF h1 fun a hF => run_ok i (d := .li ops l) hF h k
    · cases h
  | i + 1, .ex e, [], m, a, hF, h, k => by cases e <;> (simp only [run] at h; cases h)
  | i + 1, .ex e, .seq y :: K, m, a, hF, h, k => by
    cases e with
    | normal => exact run_ok i (d := .co y) hF h k
    | exit j => exact run_ok i (d := .ex (.exit j)) (K := K) hF h k
    | goto j => exact run_ok i (d := .ex (.goto j)) (K := K) hF h k
    | ret => exact run_ok i (d := .ex .ret) (K := K) hF h k
    | _ => simp only [run] at h; cases h
  | i + 1, .ex e, .thn J :: K, m, a, hF, h, k => by
    cases e with
    | exit j => exact run_ok i (d := .ex (.exit j)) (K := K) hF h k
    | goto j => exact run_ok i (d := .ex (.goto j)) (K := K) hF h k
    | ret => exact run_ok i (d := .ex .ret) (K := K) hF h k
    | _ => simp only [run] at h; cases h
  | i + 1, .ex e, .kq J :: K, m, a, hF, h, k => by cases e <;> (simp only [run] at h; cases h)
  | i + 1, .ex e, .blk id :: K, m, a, hF, h, k => by
    cases e with
    | normal => exact run_ok i (d := .ex .normal) (K := K) hF h k
    | exit j =>
      simp only [run] at h
      rcases hb : Nat.beq id j with _ | _
      · rw [hb] at h
        exact blk_miss (by
          rcases hb2 : Nat.beq j id with _ | _
          · rfl
          · rw [Nat.eq_of_beq_eq_true hb2, Nat.beq_refl] at hb; cases hb) (run_ok i (d := .ex (.exit j)) (K := K) hF h k)
      · rw [hb] at h
        obtain rfl := Nat.eq_of_beq_eq_true hb
        exact blk_hit (run_ok i (d := .ex .normal) (K := K) hF h k)
    | goto j => exact run_ok i (d := .ex (.goto j)) (K := K) hF h k
    | ret => exact run_ok i (d := .ex .ret) (K := K) hF h k
    | _ => simp only [run] at h; cases h
  | i + 1, .ex e, .jmp l y :: K, m, a, hF, h, k => by
    cases e with
    | normal => exact run_ok i (d := .ex .normal) (K := K) hF h k
    | exit j => exact run_ok i (d := .ex (.exit j)) (K := K) hF h k
    | ret => exact run_ok i (d := .ex .ret) (K := K) hF h k
    | goto j =>
      simp only [run] at h
      rcases hb : Nat.beq j l with _ | _
      · rw [hb] at h; cases h
      · rw [hb] at h
        obtain rfl := Nat.eq_of_beq_eq_true hb
        exact jmp_hit (Q := cont P Q0 K) (run_ok i (d := .co y) (K := .nog :: K) hF h k)
    | _ => simp only [run] at h; cases h
  | i + 1, .ex e, .nog :: K, m, a, hF, h, k => by
    cases e with
    | normal => exact run_ok i (d := .ex .normal) (K := K) hF h k
    | exit j => exact run_ok i (d := .ex (.exit j)) (K := K) hF h k
    | ret => exact run_ok i (d := .ex .ret) (K := K) hF h k
    | _ => simp only [run] at h; cases h
  | i + 1, .ex e, .rnd c j :: K, m, a, hF, h, k => by
    cases e with
    | normal =>
      cases i with
      | zero => cases j <;> (simp only [run] at h; cases h)
      | succ i =>
        cases j with
        | zero => simp only [run] at h; cases h
        | succ j => exact rounds_step (run_ok i (d := .co c) (K := .rnd c j :: K) hF h k)
    | exit j => exact run_ok i (d := .ex (.exit j)) (K := K) hF h k
    | goto j => exact run_ok i (d := .ex (.goto j)) (K := K) hF h k
    | ret => exact run_ok i (d := .ex .ret) (K := K) hF h k
    | _ => simp only [run] at h; cases h
/-! ### Rows: a step, and what follows it up to the next -/
section
variable [h0 : HasTab P]
theorem gc {c : Code} (i : Nat) (hF : Fr a n m) (h : run P Q0 h0.T n i (.co c) K m = some (m', X)) (k : ∀ a, Fr a n m' → X a w) : c.wp P (cont P Q0 K) a w := run_ok i hF h k
theorem gw (i : Nat) (hF : Fr a n m) (h : run P Q0 h0.T n i (.li ops l) K m = some (m', X)) (k : ∀ a, Fr a n m' → X a w) : wpList P ops (cont P Q0 K) l a w := run_ok (d := .li ops l) i hF h k
theorem ge {e : Exit} (i : Nat) (hF : Fr a n m) (h : run P Q0 h0.T n i (.ex e) K m = some (m', X)) (k : ∀ a, Fr a n m' → X a w) : cont P Q0 K e a w := run_ok (d := .ex e) i hF h k
/-- What an operation's place takes. -/
def dstG (o : Oper) (n : Nat) : Option Nat := match o.guard, o.dst with
  | none, some d => bif Nat.blt d n then some d else none
  | _, _ => none
theorem dstG_ok {o : Oper} {d : Nat} (h : dstG o n = some d) : o.guard = none ∧ o.dst = some d ∧ Nat.blt d n = true := by
  unfold dstG at h
  split at h
  · rename_i d' h1 h2
    rcases hb : Nat.blt d' n with _ | _
    · rw [hb] at h; cases h
    · rw [hb] at h; cases h; exact ⟨h1, h2, hb⟩
  · cases h
/-- An operation that yields v, and so many steps. -/
theorem gx {o : Oper} {d : Nat} (hF : Fr a n m) (he : EX P w m o v w) (i : Nat) (hd : dstG o n = some d) (h : run P Q0 h0.T n i (.li ops l) K ((d, v) :: m) = some (m', X)) (k : ∀ a, Fr a n m' → X a w) : wpList P ops (cont P Q0 K) (o :: l) a w :=
  have ⟨h1, h2, h3⟩ := dstG_ok hd
  st_op hF he h1 h2 h3 fun a hF => gw i hF h k
theorem gif {α : Type} {t : Nat} {b : Bool} {x y : Code} {A B : Option α} {r : α} {m1 m2 : Mp_} (hF : Fr a n m) (H : (if b = true then A else B) = some r) (i j : Nat) (hc : look m t = some (.bool b))
    (h1 : run P Q0 h0.T n i (.co x) K ((t, .bool true) :: m) = some (m1, X)) (h2 : run P Q0 h0.T n j (.co y) K ((t, .bool false) :: m) = some (m2, X'))
    (ht : b = true → A = some r → ∀ a, Fr a n m1 → X a w) (hf : b = false → B = some r → ∀ a, Fr a n m2 → X' a w) : (Code.cond (.tmp t) x y).wp P (cont P Q0 K) a w :=
  ifs hF H (fun hb H hF => gc i hF h1 (ht hb H)) (fun hb H hF => gc j hF h2 (hf hb H)) hc
section
variable {w0 : World} {F0 : List Nat} {ps : List Ck} {d : Nat} {ty : TypeId} {pos : String} {aft : Array Edge} {S : Value → World → Prop}
theorem gca {f : Nat} {args : List Operand} {ats : Array TypeId} {vs : List Value} (hF : Fr a n m) (hs : SL w0 F0 w ps) (hc : Calls P f vs.toArray w (Ret fun u w' => u = v ∧ SL w [] w' [])) (i : Nat)
    (hargs : evs m args = some vs) (hf : inL h0.T.fn f = true) (hlt : Nat.blt d n = true) (h : run P Q0 h0.T n i (.li ops l) K ((d, v) :: m) = some (m', X)) (k : ∀ w a, Fr a n m' → SL w0 F0 w ps → X a w) :
    wpList P ops (cont P Q0 K) (⟨some d, .call { callee := .value (.func f), args := args.toArray, argTypes := ats }, ty, pos, aft, none⟩ :: l) a w :=
  stc hF hs hc (fun w a hF hs => gw i hF h fun a hF => k w a hF hs) hargs hf hlt
end
/-- A call, walked from its parameters to the first step that isn't reckoned. -/
theorem cin {f : FuncId} {fn : Func} {c : Code} {args : List Value} {R : Ending → World → Prop} (hf : P.funcs[f]? = some fn) (hn : fn.ntmps = n) (i : Nat) (hb : fn.body = some c) (hl : Nat.ble args.length n = true)
    (h : run P (bodyPost P fn R) h0.T n i (.co c) [] (argm 0 args) = some (m', X)) (k : ∀ a, Fr a n m' → X a w) : Calls P f args.toArray w R :=
  call_enter hf hb hn (Nat.le_of_ble_eq_true hl) fun a hF => gc i hF h k
omit h0 in
theorem cutk {c : Code} (J : Act → World → Prop) (h1 : c.wp P (cont P Q0 (.thn J :: K)) a w) (h2 : ∀ a w, J a w → cont P Q0 K .normal a w) : c.wp P (cont P Q0 K) a w := wp_cutn J h1 h2
omit h0 in
theorem lpk {S R : Type} {c : Code} (body : S → Option (S ⊕ R)) (I : S → Act → World → Prop) {s : S} {r : R} (H : loopO body s = some r) (h0 : I s a w)
    (round : ∀ s a w, I s a w → ∀ o, body s = some o → (∀ r', o = .inr r' → r' = r) → c.wp P (cont P Q0 (.thn (fun a' w' => ∃ s', o = .inl s' ∧ I s' a' w') :: K)) a w) : (Code.loop c).wp P (cont P Q0 K) a w := wp_lp body I H h0 round
omit h0 in
theorem rngk {α S R : Type} {c : Code} {l : List α} (body : α → S → Option (S ⊕ R)) (I : List Nat → S → Act → World → Prop) {s0 : S} {r : S ⊕ R}
    (H : rangeO body l s0 = some r) (h0 : I [] s0 a w)
    (round : ∀ js s a w, I js s a w → (js.Perm (List.range l.length) → r = .inl s) →
      (∀ j p, l[j]? = some p → (js ++ [j]).Nodup → (∀ i ∈ js ++ [j], i < l.length) → ∃ o, body p s = some o ∧ (∀ r', o = .inr r' → r = .inr r')) →
      c.wp P (cont P Q0 (.thn (fun a' w' => ∃ j p s', l[j]? = some p ∧ (js ++ [j]).Nodup ∧ (∀ i ∈ js ++ [j], i < l.length) ∧ body p s = some (.inl s') ∧ I (js ++ [j]) s' a' w') :: K)) a w) : (Code.loop c).wp P (cont P Q0 K) a w := wp_rng body I H h0 round
omit h0 in
/-- A loop unrolled, so many rounds; a scope with a jump ahead. -/
theorem rdk {c : Code} (i : Nat) (h : c.wp P (cont P Q0 (.rnd c i :: K)) a w) : (Code.loop c).wp P (cont P Q0 K) a w := wp_loop_rounds (i + 1) (rounds_step h)
omit h0 in
theorem sck {c rest : Code} (l : Nat) (hf : findLabel c l = some rest) (h : c.wp P (cont P Q0 (.jmp l rest :: K)) a w) : (Code.scope c).wp P (cont P Q0 K) a w := wp_scope_fwd l hf h
theorem bnd {α β : Type} {G : Prop} {o : Option α} {f : α → Option β} {r : β} (H : o.bind f = some r) (k : ∀ x, o = some x → f x = some r → G) : G :=
  have ⟨x, h1, h2⟩ := bind_ok H
  k x h1 h2
end
end
end Go.Pv
