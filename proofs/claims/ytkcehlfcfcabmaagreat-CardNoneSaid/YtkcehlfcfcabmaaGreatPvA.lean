/- Operations that leave the world alone, reckoned: runs of them in one step. -/
import Derived.Test.YtkcehlfcfcabmaaGreatPvr
set_option linter.unusedVariables false
set_option linter.unusedSimpArgs false
namespace Go.Pv
open Go Go.RowKit
/-- What a program's types say of fields: type, field, place, size. -/
structure Tab where
  fa : List (Nat × Nat × Nat × Nat)
  fn : List Nat
  ng : List Nat
  ag : List (Nat × Nat)
def faL : List (Nat × Nat × Nat × Nat) → Nat → Nat → Option Nat
  | [], _, _ => none
  | (s, f, o, _) :: r, s', f' => bif Nat.beq s s' then bif Nat.beq f f' then some o else faL r s' f' else faL r s' f'
def inL : List Nat → Nat → Bool
  | [], _ => false
  | x :: r, y => bif Nat.beq x y then true else inL r y
def Tab.okB (T : Tab) (P : Program) : Bool := (T.fa.all fun x => faB P x.1 x.2.1 x.2.2.1 x.2.2.2) && ((T.fn.all fun f => fnB P f) && ((T.ng.all fun t => nagB P t) && T.ag.all fun x => aggB P x.1 x.2))
class HasTab (P : Program) where
  T : Tab
  ok : T.okB P = true
theorem faL_ok {P : Program} {s f o : Nat} : ∀ {l : List (Nat × Nat × Nat × Nat)}, (l.all fun x => faB P x.1 x.2.1 x.2.2.1 x.2.2.2) = true → faL l s f = some o → ∃ sz, faB P s f o sz = true
  | [], _, h => by cases h
  | (s', f', o', z) :: r, ha, h => by
    simp only [List.all_cons, Bool.and_eq_true] at ha
    unfold faL at h
    rcases h1 : Nat.beq s' s with _ | _
    · rw [h1] at h; exact faL_ok ha.2 h
    · rw [h1] at h
      rcases h2 : Nat.beq f' f with _ | _
      · rw [h2] at h; exact faL_ok ha.2 h
      · rw [h2] at h
        cases h
        rw [← Nat.eq_of_beq_eq_true h1, ← Nat.eq_of_beq_eq_true h2]
        exact ⟨z, ha.1⟩
theorem inL_ok {B : Nat → Bool} {f : Nat} : ∀ {l : List Nat}, (l.all fun f => B f) = true → inL l f = true → B f = true
  | [], _, h => by cases h
  | x :: r, ha, h => by
    simp only [List.all_cons, Bool.and_eq_true] at ha
    unfold inL at h
    rcases h1 : Nat.beq x f with _ | _
    · rw [h1] at h; exact inL_ok ha.2 h
    · rw [← Nat.eq_of_beq_eq_true h1]; exact ha.1
theorem fnT {P : Program} [h : HasTab P] {f : Nat} (hf : inL h.T.fn f = true) : fnB P f = true := by
  have := h.ok
  unfold Tab.okB at this
  simp only [Bool.and_eq_true] at this
  exact inL_ok this.2.1 hf
theorem ngT {P : Program} {T : Tab} (h : T.okB P = true) {t : Nat} (hf : inL T.ng t = true) : nagB P t = true := by
  unfold Tab.okB at h
  simp only [Bool.and_eq_true] at h
  exact inL_ok (B := fun t => nagB P t) h.2.2.1 hf
def agL : List (Nat × Nat) → Nat → Option Nat
  | [], _ => none
  | (s, k) :: r, t => bif Nat.beq s t then some k else agL r t
theorem agL_ok {P : Program} {t k : Nat} : ∀ {l : List (Nat × Nat)}, (l.all fun x => aggB P x.1 x.2) = true → agL l t = some k → aggB P t k = true
  | [], _, h => by cases h
  | (s, k') :: r, ha, h => by
    simp only [List.all_cons, Bool.and_eq_true] at ha
    unfold agL at h
    rcases h1 : Nat.beq s t with _ | _
    · rw [h1] at h; exact agL_ok ha.2 h
    · rw [h1] at h
      cases h
      rw [← Nat.eq_of_beq_eq_true h1]
      exact ha.1
theorem agT {P : Program} {T : Tab} (h : T.okB P = true) {t k : Nat} (hf : agL T.ag t = some k) : aggB P t k = true := by
  unfold Tab.okB at h
  simp only [Bool.and_eq_true] at h
  exact agL_ok h.2.2.2 hf
theorem faT {P : Program} {T : Tab} (h : T.okB P = true) : (T.fa.all fun x => faB P x.1 x.2.1 x.2.2.1 x.2.2.2) = true := by
  unfold Tab.okB at h
  rw [Bool.and_eq_true] at h
  exact h.1
def isU8 : IntKind → Bool
  | .u8 => true
  | _ => false
def kindB : IntKind → IntKind → Bool
  | .i8, .i8 => true
  | .i16, .i16 => true
  | .i32, .i32 => true
  | .i64, .i64 => true
  | .u8, .u8 => true
  | .u16, .u16 => true
  | .u32, .u32 => true
  | .u64, .u64 => true
  | _, _ => false
theorem kindB_eq {k k' : IntKind} (h : kindB k k' = true) : k = k' := by cases k <;> cases k' <;> first | rfl | cases h
def evB (b : BinOp) (k : IntKind) (p q : Int) : Option Value :=
  match b with
  | .add => bif isU8 k then none else some (.int k (k.wrap (p + q)))
  | .sub => bif isU8 k then none else some (.int k (k.wrap (p - q)))
  | .mul => bif isU8 k then none else some (.int k (k.wrap (p * q)))
  | .eql => some (.bool (p == q))
  | .neq => some (.bool (p != q))
  | .lss => some (.bool (decide (p < q)))
  | .leq => some (.bool (decide (p ≤ q)))
  | .gtr => some (.bool (decide (p > q)))
  | .geq => some (.bool (decide (p ≥ q)))
  | _ => none
def ev1 (T : Tab) (m : List (Nat × Value)) : Op → Option Value
  | .move x => ev m x
  | .assign x => ev m x
  | .pick c x y => match ev m c with
    | some (.bool true) => ev m x
    | some (.bool false) => ev m y
    | _ => none
  | .unOp .not _ x => match ev m x with
    | some (.bool b) => some (.bool (!b))
    | _ => none
  | .binOp b _ x y _ => match ev m x with
    | some (.int k p) => match ev m y with
      | some (.int k' q) => bif kindB k k' then evB b k p q else none
      | _ => none
    | _ => none
  | .extract x j => match ev m x with
    | some (.tuple ⟨vs⟩) => vs[j]?
    | _ => none
  | .nilCheck x => match ev m x with
    | some (.pointer (some b)) => some (.pointer (some b))
    | _ => none
  | .fieldAddr s x f => match ev m x with
    | some (.pointer (some ⟨g, o, none⟩)) => match faL T.fa s f with
      | some off => some (.pointer (some ⟨g, Nat.add o off, none⟩))
      | none => none
    | _ => none
  | _ => none
section
variable {P : Program} {w : World} {m m' : List (Nat × Value)} {ops : Array Oper} {Q : Exit → Act → World → Prop} {a : Act} {n : Nat} {l l' : List Oper} {v : Value}
theorem evB_ok {b : BinOp} {k : IntKind} {p q : Int} {x y : Operand} {dd : Option Tmp} {t u ty : TypeId} {pos : String} {aft : Array Edge} {g : Option (Nat × Bool)} (hx : ev m x = some (.int k p)) (hy : ev m y = some (.int k q)) (h : evB b k p q = some v) :
    EX P w m ⟨dd, .binOp b t x y u, ty, pos, aft, g⟩ v w := by
  cases b <;> simp only [evB] at h <;> try cases h
  · rcases hk : isU8 k with _ | _ <;> rw [hk] at h <;> cases h; exact ex_add hx hy
  · rcases hk : isU8 k with _ | _ <;> rw [hk] at h <;> cases h; exact ex_sub hx hy
  · rcases hk : isU8 k with _ | _ <;> rw [hk] at h <;> cases h; exact ex_mul hx hy
  · exact ex_eq hx hy
  · exact ex_ne hx hy
  · exact ex_lt hx hy
  · exact ex_le hx hy
  · exact ex_gt hx hy
  · exact ex_ge hx hy
theorem ev1_ok {T : Tab} (hT : T.okB P = true) {op : Op} {dd : Option Tmp} {ty : TypeId} {pos : String} {aft : Array Edge} {g : Option (Nat × Bool)} (h : ev1 T m op = some v) : EX P w m ⟨dd, op, ty, pos, aft, g⟩ v w := by
  cases op with
  | move x => exact ex_move h
  | assign x => exact ex_asg h
  | pick c x y =>
    simp only [ev1] at h
    split at h
    · rename_i hc; exact ex_pick_t hc h
    · rename_i hc; exact ex_pick_f hc h
    · cases h
  | unOp u t x =>
    cases u <;> simp only [ev1] at h <;> try cases h
    split at h
    · rename_i hc; cases h; exact ex_not hc
    · cases h
  | binOp b t x y u =>
    simp only [ev1] at h
    split at h
    · rename_i hx
      split at h
      · rename_i k p _ k' q hy
        rcases hk : kindB k k' with _ | _
        · rw [hk] at h; cases h
        · rw [hk] at h
          obtain rfl := kindB_eq hk
          exact evB_ok hx hy h
      · cases h
    · cases h
  | extract x j =>
    simp only [ev1] at h
    split at h
    · rename_i hx; exact ex_extract hx (by simpa using h)
    · cases h
  | nilCheck x =>
    simp only [ev1] at h
    split at h
    · rename_i hx; cases h; exact ex_nilcheck hx
    · cases h
  | fieldAddr s x f =>
    simp only [ev1] at h
    split at h
    · rename_i hx
      split at h
      · rename_i off hf
        cases h
        obtain ⟨sz, hb⟩ := faL_ok (faT hT) hf
        exact ex_fab hb hx rfl
      · cases h
    · cases h
  | _ => simp only [ev1] at h; cases h
theorem Fr.sub' {d : Nat} {t b : Bool} (hF : Fr a n m) (ht : t = b) (hl : look m d = some (.bool t)) : Fr a n ((d, .bool b) :: m) := ⟨hF.size, hF.defers, fun i u hu => by
  by_cases hi : d = i
  · subst hi
    rw [look_cons_same] at hu
    cases hu
    rw [← ht]
    exact hF.at_ _ _ hl
  · rw [look_cons_ne _ _ hi] at hu
    exact hF.at_ _ _ hu⟩
/-- One operation, guarded or not. -/
def evG (T : Tab) (ops : Array Oper) (n : Nat) (m : List (Nat × Value)) (o : Oper) : Option (List (Nat × Value)) :=
  match o.dst with
  | none => none
  | some d => bif Nat.blt d n then
      match o.guard with
      | none => match ev1 T m o.op with
        | some v => some ((d, v) :: m)
        | none => none
      | some (j, b) => match (ops[j]?).bind (·.dst) with
        | none => none
        | some dj => match look m dj with
          | some (.bool c) => match c, b with
            | true, true => (match ev1 T m o.op with
              | some v => some ((d, v) :: m)
              | none => none)
            | false, false => (match ev1 T m o.op with
              | some v => some ((d, v) :: m)
              | none => none)
            | true, false => some ((d, undef) :: m)
            | false, true => some ((d, undef) :: m)
          | some (.tuple ⟨[]⟩) => some ((d, undef) :: m)
          | _ => none
    else none
def evR (T : Tab) (ops : Array Oper) (n : Nat) : Nat → List (Nat × Value) → List Oper → Option (List (Nat × Value) × List Oper)
  | 0, m, l => some (m, l)
  | k + 1, m, o :: l => match evG T ops n m o with
    | some m' => evR T ops n k m' l
    | none => none
  | _ + 1, _, [] => none
theorem evG_ok {T : Tab} (hT : T.okB P = true) {o : Oper} (hF : Fr a n m) (h : evG T ops n m o = some m') (k : ∀ a, Fr a n m' → wpList P ops Q l a w) : wpList P ops Q (o :: l) a w := by
  unfold evG at h
  split at h
  · cases h
  · rename_i d hd
    rcases hlt : Nat.blt d n with _ | _
    · rw [hlt] at h; cases h
    · rw [hlt] at h
      simp only [cond_true] at h
      split at h
      · rename_i hg
        split at h
        · rename_i v hv
          cases h
          exact st_op hF (ev1_ok (P := P) hT (w := w) hv) hg hd hlt k
        · cases h
      · rename_i j b hg
        split at h
        · cases h
        · rename_i dj hj
          split at h
          · rename_i c hb
            split at h
            · split at h
              · rename_i v hv
                cases h
                exact st_gop hF hg hj hb (ev1_ok (P := P) hT (w := w) hv) hd hlt k
              · cases h
            · split at h
              · rename_i v hv
                cases h
                exact st_gop hF hg hj hb (ev1_ok (P := P) hT (w := w) hv) hd hlt k
              · cases h
            · cases h
              exact st_gskip hF hg hj hb Bool.noConfusion hd hlt k
            · cases h
              exact st_gskip hF hg hj hb Bool.noConfusion hd hlt k
          · rename_i hb
            cases h
            exact st_gskip' hF hg hj hb hd hlt k
          · cases h
theorem evR_ok {T : Tab} (hT : T.okB P = true) : ∀ (k : Nat) {m : List (Nat × Value)} {l : List Oper} {a : Act}, Fr a n m → evR T ops n k m l = some (m', l') → (∀ a, Fr a n m' → wpList P ops Q l' a w) → wpList P ops Q l a w
  | 0, m, l, a, hF, h, k => by
    cases h
    exact k a hF
  | i + 1, m, [], a, hF, h, k => by cases h
  | i + 1, m, o :: l, a, hF, h, k => by
    simp only [evR] at h
    split at h
    · rename_i m1 h1
      exact evG_ok hT hF h1 fun a hF => evR_ok hT i hF h k
    · cases h
/-- Some operations, reckoned. -/
theorem sv [HasTab P] (i : Nat) (hF : Fr a n m) (k : ∀ a, Fr a n m' → wpList P ops Q l' a w) (h : evR (HasTab.T P) ops n i m l = some (m', l') := by rfl) : wpList P ops Q l a w := evR_ok HasTab.ok i hF h k
theorem sx {o : Oper} {d : Nat} (hF : Fr a n m) (he : EX P w m o v w) (k : ∀ a, Fr a n ((d, v) :: m) → wpList P ops Q l a w) (hg : o.guard = none := by rfl) (hd : o.dst = some d := by rfl) (hlt : Nat.blt d n = true := by rfl) : wpList P ops Q (o :: l) a w := st_op hF he hg hd hlt k
theorem Fr.kt {d : Nat} {t : Bool} (hF : Fr a n m) (ht : t = true) (hl : look m d = some (.bool t) := by rfl) : Fr a n ((d, .bool true) :: m) := hF.sub' ht hl
theorem Fr.kf {d : Nat} {t : Bool} (hF : Fr a n m) (ht : t = false) (hl : look m d = some (.bool t) := by rfl) : Fr a n ((d, .bool false) :: m) := hF.sub' ht hl
/-- A test that isn't decided. -/
theorem ifs {α : Type} {t : Nat} {b : Bool} {x y : Code} {A B : Option α} {r : α} (hF : Fr a n m) (H : (if b = true then A else B) = some r) (ht : b = true → A = some r → Fr a n ((t, .bool true) :: m) → x.wp P Q a w) (hf : b = false → B = some r → Fr a n ((t, .bool false) :: m) → y.wp P Q a w) (hc : look m t = some (.bool b) := by rfl) : (Code.cond (.tmp t) x y).wp P Q a w :=
  wp_if hF hc (fun h => ht h (ite_t h H) (hF.kt h hc)) (fun h => hf h (ite_f h H) (hF.kf h hc))
theorem bsp {α : Type} {b : Bool} {A B : Option α} {r : α} {G : Prop} (d : Nat) (hF : Fr a n m) (H : (if b = true then A else B) = some r) (ht : b = true → A = some r → Fr a n ((d, .bool true) :: m) → G) (hf : b = false → B = some r → Fr a n ((d, .bool false) :: m) → G) (hc : look m d = some (.bool b) := by rfl) : G :=
  bool_split b (fun h => ht h (ite_t h H) (hF.kt h hc)) (fun h => hf h (ite_f h H) (hF.kf h hc))
def resL (m : List (Nat × Value)) : List ResultVar → Option (List Value)
  | [] => some []
  | .tmp t :: r => match look m t with
    | some v => match resL m r with
      | some l => some (v :: l)
      | none => none
    | none => none
  | .cell _ _ :: _ => none
theorem resL_ok : ∀ {rs : List ResultVar} {vs : List Value}, resL m rs = some vs → RVs P w m rs vs
  | [], vs, h => by cases h; rfl
  | .tmp t :: r, vs, h => by
    simp only [resL] at h
    split at h
    · rename_i v hv
      split at h
      · rename_i l hl
        cases h
        exact ⟨v, l, rfl, RV.tmp hv, resL_ok hl⟩
      · cases h
    · cases h
  | .cell _ _ :: _, _, h => by cases h
/-- The end: the results stand in slots. -/
theorem rt {fn : Func} {S : Value → World → Prop} {vs : List Value} (hF : Fr a n m) (hS : S (retv vs) w) (hv : resL m fn.results.toList = some vs := by rfl) : bodyPost P fn (Ret S) .ret a w :=
  ret_gen (rs := fn.results.toList) hF (by simp) (resL_ok hv) ⟨_, rfl, hS⟩
section
variable {w0 : World} {F0 : List Nat} {ps : List Ck} {d : Nat} {ty : TypeId} {pos : String} {aft : Array Edge} {S : Value → World → Prop}
/-- A call that gives a known value and leaves no more. -/
theorem stc [HasTab P] {f : Nat} {args : List Operand} {ats : Array TypeId} {vs : List Value} (hF : Fr a n m) (hs : SL w0 F0 w ps) (hc : Calls P f vs.toArray w (Ret fun u w' => u = v ∧ SL w [] w' [])) (k : ∀ w a, Fr a n ((d, v) :: m) → SL w0 F0 w ps → wpList P ops Q l a w)
    (hargs : evs m args = some vs := by rfl) (hf : inL (HasTab.T P).fn f = true := by rfl) (hlt : Nat.blt d n = true := by rfl) : wpList P ops Q (⟨some d, .call { callee := .value (.func f), args := args.toArray, argTypes := ats }, ty, pos, aft, none⟩ :: l) a w :=
  st_call hF (fnT hf) hargs hc hlt fun _ w a ⟨e, hq⟩ hF => k w a (e ▸ hF) (hs.add hq)
theorem std [HasTab P] {f : Nat} {args : List Operand} {ats : Array TypeId} {vs : List Value} (hF : Fr a n m) (hc : Calls P f vs.toArray w (Ret S)) (k : ∀ v w a, S v w → Fr a n ((d, v) :: m) → wpList P ops Q l a w)
    (hargs : evs m args = some vs := by rfl) (hf : inL (HasTab.T P).fn f = true := by rfl) (hlt : Nat.blt d n = true := by rfl) : wpList P ops Q (⟨some d, .call { callee := .value (.func f), args := args.toArray, argTypes := ats }, ty, pos, aft, none⟩ :: l) a w :=
  st_call hF (fnT hf) hargs hc hlt k
theorem std0 [HasTab P] {f : Nat} {args : List Operand} {ats : Array TypeId} {vs : List Value} (hF : Fr a n m) (hc : Calls P f vs.toArray w (Ret S)) (k : ∀ v w a, S v w → Fr a n m → wpList P ops Q l a w)
    (hargs : evs m args = some vs := by rfl) (hf : inL (HasTab.T P).fn f = true := by rfl) : wpList P ops Q (⟨none, .call { callee := .value (.func f), args := args.toArray, argTypes := ats }, ty, pos, aft, none⟩ :: l) a w :=
  st_call0 hF (fnT hf) hargs hc k
theorem se {J : Act → World → Prop} {Q' : Exit → Act → World → Prop} (h : J a w) : wpList P ops (Exit.then J Q') [] a w := st_end (then_n h)
theorem sr {id : Nat} {y : Code} (h : wpList P l.toArray (Exit.then (y.wp P Q) Q) l a w) : (Code.seq (Code.region id l.toArray false) y).wp P Q a w := wp_seq (wp_reg h)
end
end
end Go.Pv
