/- Plain laws of loops with places; of copies; of comparisons; of instructions read (as Lka, without modules). -/
import Derived.Test.YtmeodoidfpcjlaaLwa
import Derived.Test.YtmeodoidfpcjlaaDf
set_option linter.unusedVariables false
set_option linter.unusedSimpArgs false
namespace Go.Proofs.Ytmeodoidfpcjlaa
open Go Go.RowKit Go.Pv

/-! ### Loops -/
theorem loop_at {S R : Type} (n : Nat) {body : S → Option (S ⊕ R)} (st : Nat → S) {r : R} (hs : ∀ i, i < n → body (st i) = some (.inl (st (i + 1)))) (he : body (st n) = some (.inr r)) {s0 : S} (h0 : s0 = st 0) : loopO body s0 = some r := by
  subst h0
  have key : ∀ k i, i + k = n → loopO body (st i) = some r := by
    intro k
    induction k with
    | zero => intro i hi; have : i = n := by omega
              subst this; exact loopO_stop he
    | succ k ih => intro i hi; rw [loopO_step (hs i (by omega))]; exact ih (i + 1) (by omega)
  exact key n 0 (by omega)
theorem loop_inv {S R : Type} (n : Nat) {body : S → Option (S ⊕ R)} (I : Nat → S → Prop) {Post : R → Prop} (hs : ∀ i s, i < n → I i s → ∃ s', body s = some (.inl s') ∧ I (i + 1) s') (he : ∀ s, I n s → ∃ r, body s = some (.inr r) ∧ Post r) {s : S} (h0 : I 0 s) :
    ∃ r, loopO body s = some r ∧ Post r := by
  have key : ∀ k i s, i + k = n → I i s → ∃ r, loopO body s = some r ∧ Post r := by
    intro k
    induction k with
    | zero =>
      intro i s hi h
      have : i = n := by omega
      subst this
      obtain ⟨r, h1, h2⟩ := he s h
      exact ⟨r, loopO_stop h1, h2⟩
    | succ k ih =>
      intro i s hi h
      obtain ⟨s', h1, h2⟩ := hs i s (by omega) h
      rw [loopO_step h1]
      exact ih (i + 1) s' (by omega) h2
  exact key n 0 s (by omega) h0
theorem app_ok {α : Type} {lim : Nat} {l m : List α} (h : l.length + m.length ≤ lim) : app lim l m = some (l ++ m) := by unfold app; rw [if_pos h]
theorem cut_ok {α : Type} {l : List α} {lo hi : Int} (h : 0 ≤ lo ∧ lo ≤ hi ∧ hi ≤ l.length) : cutL l lo hi = some ((l.take hi.toNat).drop lo.toNat) := by unfold cutL; rw [if_pos h]
theorem idx_nat {α : Type} {l : List α} {i : Nat} : idx l (i : Int) = l[i]? := by unfold idx; rw [if_pos (by omega)]; simp
theorem idx_at {α : Type} {l : List α} {i : Nat} (h : i < l.length) : idx l (i : Int) = some l[i] := by rw [idx_nat, List.getElem?_eq_getElem h]
theorem idx_int {α : Type} {l : List α} {i : Int} (h0 : 0 ≤ i) (h : i < l.length) : ∃ x, idx l i = some x ∧ l[i.toNat]? = some x := by
  refine ⟨l[i.toNat]'(by omega), ?_, List.getElem?_eq_getElem _⟩
  unfold idx
  rw [if_pos h0]
  exact List.getElem?_eq_getElem _
theorem wr1 {i : Nat} (h : i < 4611686018427387904) : wr ((i : Int) + 1) = ((i + 1 : Nat) : Int) := by rw [wr_id] <;> omega
theorem take_succ_map {α β : Type} (f : α → β) (l : List α) (i : Nat) (h : i < l.length) : (l.take (i + 1)).map f = (l.take i).map f ++ [f l[i]] := by
  rw [List.take_add_one, List.getElem?_eq_getElem h, List.map_append]; rfl
/-- A loop that makes a list, one element a round. -/
theorem loop_map {α β : Type} (l : List α) (f : α → β) {body : List β × Int → Option ((List β × Int) ⊕ List β)} (hs : ∀ i (h : i < l.length) acc, acc.length = i → body (acc, (i : Int)) = some (.inl (acc ++ [f l[i]], ((i + 1 : Nat) : Int)))) (he : ∀ acc, body (acc, (l.length : Int)) = some (.inr acc)) :
    loopO body ([], 0) = some (l.map f) := by
  have := loop_at l.length (body := body) (fun i => ((l.take i).map f, (i : Int))) (r := l.map f) (fun i hi => by
    rw [hs i hi _ (by simp; omega), take_succ_map f l i hi]) (by simp only [List.take_length]; exact he _) (s0 := ([], 0)) (by simp)
  exact this
/-- A loop that finds nothing. -/
theorem loop_none {α R : Type} (l : List α) {body : Int → Option (Int ⊕ R)} {r : R} (hs : ∀ i (h : i < l.length), body (i : Int) = some (.inl ((i + 1 : Nat) : Int))) (he : body (l.length : Int) = some (.inr r)) : loopO body 0 = some r :=
  loop_at l.length (body := body) (fun i => (i : Int)) hs he rfl
theorem or_some (b c : Bool) : (if b = true then some b else some c) = some (b || c) := by cases b <;> simp

/-! ### Copies -/
abbrev big : Nat := 1048576
def okFunc (f : S_api_Func) : Prop := f.Sig.Params.length ≤ big ∧ f.Code.length ≤ big
theorem cloneB (l : List UInt8) (h : l.length ≤ big) : slices_Clone_byte_byte l = some l := by
  unfold slices_Clone_byte_byte
  rw [app_ok (by simp only [big] at h; simp; omega)]; simp
theorem cloneT (l : List UInt8) (h : l.length ≤ big) : slices_Clone_api_Type_api_Type l = some l := by
  unfold slices_Clone_api_Type_api_Type
  rw [app_ok (by simp only [big] at h; simp; omega)]; simp
theorem sig_law (s : S_api_Sig) (h : s.Params.length ≤ big) : provisoplain_Sig s = some s := by
  unfold provisoplain_Sig
  rw [cloneT _ h]; rfl
theorem func_law (f : S_api_Func) (h : okFunc f) : provisoplain_Func f = some f := by
  unfold provisoplain_Func
  rw [show (⟨f.Sig.Params, f.Sig.Result⟩ : S_api_Sig) = f.Sig from rfl, sig_law _ h.1, Option.bind_some, cloneB _ h.2, Option.bind_some]
/-! ### A thing is the same as itself -/
theorem eqB (l : List UInt8) (h : l.length ≤ big) : slices_Equal_byte_byte l l = some true := by
  simp only [big] at h
  unfold slices_Equal_byte_byte
  rw [if_neg (by simp), loop_none l (r := .inr ()) (fun i hi => by
    unfold slices_Equal_byte_byte_b0
    rw [if_pos (by simpa using hi), idx_at hi, Option.bind_some, Option.bind_some, if_neg (by simp), wr1 (by omega)]) (by unfold slices_Equal_byte_byte_b0; simp)]
  rfl
theorem eqT (l : List UInt8) (h : l.length ≤ big) : slices_Equal_api_Type_api_Type l l = some true := by
  simp only [big] at h
  unfold slices_Equal_api_Type_api_Type
  rw [if_neg (by simp), loop_none l (r := .inr ()) (fun i hi => by
    unfold slices_Equal_api_Type_api_Type_b0
    rw [if_pos (by simpa using hi), idx_at hi, Option.bind_some, Option.bind_some, if_neg (by simp), wr1 (by omega)]) (by unfold slices_Equal_api_Type_api_Type_b0; simp)]
  rfl
theorem sameSig (s : S_api_Sig) (h : s.Params.length ≤ big) : provisoplain_SameSig s s = some true := by
  unfold provisoplain_SameSig
  rw [if_pos (by simp), eqT _ h]; rfl
theorem sameFunc (f : S_api_Func) (h : okFunc f) : provisoplain_SameFunc f f = some true := by
  unfold provisoplain_SameFunc
  rw [if_pos (by simp), show (⟨f.Sig.Params, f.Sig.Result⟩ : S_api_Sig) = f.Sig from rfl, sameSig _ h.1, Option.bind_some, if_pos (by simp), if_pos (by simp), eqB _ h.2]; rfl
/-! ### Instructions read -/
theorem widths_eq (op : UInt8) : code_widths op = provisoref04_wide op := by
  unfold code_widths provisoref04_wide
  simp only [or_some, Option.bind_some]
  generalize (op.toNat : Int) = n
  cases h2 : (n == 2) <;> cases h4 : (n == 4) <;> cases h5 : (n == 5) <;> simp only [Bool.false_or, Bool.true_or, Bool.or_true, Bool.false_eq_true, if_false, if_true]
theorem size_eq (op : UInt8) : code_Size op = provisoref04_Size op := by
  unfold code_Size provisoref04_Size
  rw [widths_eq]
/-- How wide the operands are. -/
def wid (op : UInt8) : Nat × Nat :=
  if op.toNat = 1 then (4, 0) else if op.toNat = 19 ∨ op.toNat = 20 then (2, 0) else if op.toNat = 24 ∨ op.toNat = 25 then (1, 1) else
  if op.toNat = 2 ∨ op.toNat = 4 ∨ op.toNat = 5 ∨ op.toNat = 21 ∨ op.toNat = 23 ∨ op.toNat = 30 ∨ op.toNat = 31 ∨ op.toNat = 32 then (1, 0) else (0, 0)
theorem nat_beq (a b : Nat) : ((a : Int) == (b : Int)) = decide (a = b) := by
  rw [Bool.eq_iff_iff, beq_iff_eq, decide_eq_true_iff, Int.natCast_inj]
theorem wide_law (op : UInt8) : provisoref04_wide op = some (((wid op).1 : Int), ((wid op).2 : Int)) := by
  unfold provisoref04_wide wid
  simp only [or_some, Option.bind_some]
  generalize op.toNat = n
  have e1 : ((n : Int) == 1) = decide (n = 1) := nat_beq n 1
  have e2 : ((n : Int) == 2) = decide (n = 2) := nat_beq n 2
  have e4 : ((n : Int) == 4) = decide (n = 4) := nat_beq n 4
  have e5 : ((n : Int) == 5) = decide (n = 5) := nat_beq n 5
  have e19 : ((n : Int) == 19) = decide (n = 19) := nat_beq n 19
  have e20 : ((n : Int) == 20) = decide (n = 20) := nat_beq n 20
  have e21 : ((n : Int) == 21) = decide (n = 21) := nat_beq n 21
  have e23 : ((n : Int) == 23) = decide (n = 23) := nat_beq n 23
  have e24 : ((n : Int) == 24) = decide (n = 24) := nat_beq n 24
  have e25 : ((n : Int) == 25) = decide (n = 25) := nat_beq n 25
  have e30 : ((n : Int) == 30) = decide (n = 30) := nat_beq n 30
  have e31 : ((n : Int) == 31) = decide (n = 31) := nat_beq n 31
  have e32 : ((n : Int) == 32) = decide (n = 32) := nat_beq n 32
  rw [e1, e2, e4, e5, e19, e20, e21, e23, e24, e25, e30, e31, e32]
  simp only [← Bool.decide_or, decide_eq_true_eq]
  split
  · rfl
  · split
    · rfl
    · split
      · rfl
      · split <;> rfl
theorem wid_le (op : UInt8) : (wid op).1 ≤ 4 ∧ (wid op).2 ≤ 1 := by
  unfold wid
  repeat' split
  all_goals simp
/-- How many bytes an instruction has. -/
def siz (op : UInt8) : Nat := if 34 ≤ op.toNat then 0 else 1 + (wid op).1 + (wid op).2
theorem size_law (op : UInt8) : provisoref04_Size op = some (siz op : Int) := by
  have := wid_le op
  unfold provisoref04_Size siz
  rw [wide_law]
  by_cases h : 34 ≤ op.toNat
  · rw [if_pos (by simp; omega), if_pos h]; rfl
  · rw [if_neg (by simp; omega), if_neg h, Option.bind_some]
    dsimp only
    rw [wr_id (n := 1 + ((wid op).1 : Int)) (by omega) (by omega), wr_id (by omega) (by omega)]
    congr 1
/-- The number of bytes, the first the highest. -/
def num (l : List UInt8) : Nat := l.foldl (fun n b => 256 * n + b.toNat) 0
theorem num_lt : ∀ (l : List UInt8), num l < 256 ^ l.length := by
  have key : ∀ (l : List UInt8) (n k : Nat), n < 256 ^ k → l.foldl (fun n b => 256 * n + b.toNat) n < 256 ^ (k + l.length) := by
    intro l
    induction l with
    | nil => intro n k h; simpa using h
    | cons b l ih =>
      intro n k h
      have hb := b.toNat_lt
      have := ih (256 * n + b.toNat) (k + 1) (by rw [Nat.pow_succ]; omega)
      rw [List.foldl_cons, List.length_cons, show k + (l.length + 1) = k + 1 + l.length by omega]
      exact this
  intro l
  have := key l 0 0 (by simp)
  simpa [num] using this
theorem num_snoc (l : List UInt8) (b : UInt8) : num (l ++ [b]) = 256 * num l + b.toNat := by simp [num]
theorem bor_lem {n : Nat} (b : UInt8) (h : n < 16777216) : bOr .i64 (sShl .i64 (n : Int) 8) (b.toNat : Int) = ((256 * n + b.toNat : Nat) : Int) := by
  have hb := b.toNat_lt
  have e0 : sShl .i64 (n : Int) 8 = ((256 * n : Nat) : Int) := by
    unfold sShl
    rw [show min ((8 : Int)).toNat IntKind.i64.bits = 8 from rfl, IntKind.wrap_i64]
    omega
  rw [e0]
  unfold bOr
  have e1 : IntKind.i64.bits = 64 := rfl
  rw [e1]
  have ea : BitVec.ofInt 64 ((256 * n : Nat) : Int) = BitVec.ofNat 64 (256 * n) := by apply BitVec.eq_of_toNat_eq; simp <;> omega
  have eb : BitVec.ofInt 64 ((b.toNat : Nat) : Int) = BitVec.ofNat 64 b.toNat := by apply BitVec.eq_of_toNat_eq; simp <;> omega
  have e2 : 256 * n ||| b.toNat = 256 * n + b.toNat := by
    have h3 := Nat.two_pow_add_eq_or_of_lt (i := 8) (b := b.toNat) (by omega) n
    rw [show (2 : Nat) ^ 8 = 256 from rfl] at h3
    exact h3.symm
  rw [ea, eb, BitVec.toNat_or, BitVec.toNat_ofNat, BitVec.toNat_ofNat, Nat.mod_eq_of_lt (by omega), Nat.mod_eq_of_lt (by omega), e2, IntKind.wrap_i64]
  omega
/-- A number of so many bytes: of four bytes it has a sign. -/
def sgn (w : Nat) (n : Nat) : Int := if w = 4 ∧ 2147483647 < n then (n : Int) - 4294967296 else n
theorem take_code (l : List UInt8) (w : Nat) (hw : w ≤ l.length) (h4 : w ≤ 4) (hl : l.length ≤ big) : code_Decode_1_s0 (w : Int) l = some (sgn w (num (l.take w)), l.drop w) := by
  simp only [big] at hl
  unfold code_Decode_1_s0
  rw [cut_ok (by omega), Option.bind_some]
  simp only [Int.toNat_natCast, Int.toNat_zero, List.drop_zero]
  have hlen : (l.take w).length = w := by simp; omega
  generalize hM : l.take w = M at *
  rw [loop_at w (body := code_Decode_1_s0_b0 M) (fun i => ((num (M.take i) : Int), (i : Int))) (r := (num M : Int)) (fun i hi => by
    unfold code_Decode_1_s0_b0
    dsimp only
    have hi' : i < M.length := by omega
    have hn := num_lt (M.take i)
    have hp : (M.take i).length ≤ 3 := by simp; omega
    have hp2 : 256 ^ (M.take i).length ≤ 256 ^ 3 := Nat.pow_le_pow_right (by decide) hp
    rw [if_pos (by simpa using hi'), idx_at hi', Option.bind_some, bor_lem _ (by omega), wr1 (by omega), List.take_add_one, List.getElem?_eq_getElem hi', Option.toList_some, num_snoc]) (by
    unfold code_Decode_1_s0_b0
    dsimp only
    rw [if_neg (by simp; omega), ← hlen, List.take_length]) (s0 := (0, 0)) (by simp [num]), Option.bind_some, cut_ok (by omega), Option.bind_some]
  have e : ((l.take (l.length : Int).toNat).drop (w : Int).toNat) = l.drop w := by simp
  rw [e]
  unfold sgn
  have hn := num_lt M
  by_cases hw4 : w = 4
  · subst hw4
    rw [if_pos (by simp)]
    rw [hlen] at hn
    congr 2
    have e32 : IntKind.i32.wrap (num M : Int) = if 2147483647 < num M then (num M : Int) - 4294967296 else num M := by
      rw [IntKind.wrap_i32]
      split <;> omega
    rw [e32]
    split
    · rw [if_pos (by omega), wr_id] <;> omega
    · rw [if_neg (by omega), wr_id] <;> omega
  · rw [if_neg (by simp; omega), if_neg (by omega)]
theorem take_ref (l : List UInt8) (w : Nat) (hw : w ≤ l.length) (h4 : w ≤ 4) (hl : l.length ≤ big) : provisoref04_take l (w : Int) = some (sgn w (num (l.take w))) := by
  simp only [big] at hl
  unfold provisoref04_take
  have hlen : (l.take w).length = w := by simp; omega
  rw [loop_at w (body := provisoref04_take_b0 l (w : Int)) (fun i => ((num (l.take i) : Int), (i : Int))) (r := (num (l.take w) : Int)) (fun i hi => by
    unfold provisoref04_take_b0
    dsimp only
    have hi' : i < l.length := by omega
    have hn := num_lt (l.take i)
    have hp : (l.take i).length ≤ 3 := by simp; omega
    have hp2 : 256 ^ (l.take i).length ≤ 256 ^ 3 := Nat.pow_le_pow_right (by decide) hp
    have hb := l[i].toNat_lt
    rw [if_pos (by simpa using hi), idx_at hi', Option.bind_some, wr1 (by omega), List.take_add_one, List.getElem?_eq_getElem hi', Option.toList_some, num_snoc, wr_id (n := 256 * (num (l.take i) : Int)) (by omega) (by omega), wr_id (by omega) (by omega)]
    congr 4) (by
    unfold provisoref04_take_b0
    dsimp only
    rw [if_neg (by simp)]) (s0 := (0, 0)) (by simp [num]), Option.bind_some]
  unfold sgn
  have hn := num_lt (l.take w)
  rw [hlen] at hn
  by_cases hw4 : w = 4
  · subst hw4
    rw [if_pos (by simp)]
    by_cases h : 2147483647 < num (l.take 4)
    · rw [if_pos (by simp; omega), if_pos ⟨rfl, h⟩, wr_id] <;> omega
    · rw [if_neg (by simp; omega), if_neg (by omega)]
  · rw [if_neg (by simp; omega), if_neg (by omega)]
/-- The instruction at a place where there is one: what it is, or the error. -/
def dec (b : List UInt8) (at_ : Nat) (op : UInt8) : S_api_Instr × Int :=
  if siz op = 0 then (⟨0, 0, 0, 0⟩, 40) else if b.length < at_ + siz op then (⟨0, 0, 0, 0⟩, 2) else
    let A := sgn (wid op).1 (num ((b.drop (at_ + 1)).take (wid op).1))
    let B := sgn (wid op).2 (num ((b.drop (at_ + 1 + (wid op).1)).take (wid op).2))
    if op.toNat = 2 ∧ 1 < A then (⟨0, 0, 0, 0⟩, 5) else (⟨at_, op, A, B⟩, 0)
theorem dec_ref (b : List UInt8) (hl : b.length ≤ big) (i : Nat) (hi : i < b.length) : provisoref04_Decode b (i : Int) = some (dec b i b[i]) := by
  simp only [big] at hl
  have hw := wid_le b[i]
  unfold provisoref04_Decode dec
  rw [if_neg (by simp), if_neg (by simp; omega), if_neg (by simp; omega), idx_at hi, Option.bind_some, size_law, Option.bind_some]
  generalize b[i] = op at hw
  by_cases h0 : siz op = 0
  · rw [if_pos (by simp [h0]), if_pos h0]
  · have hs : siz op = 1 + (wid op).1 + (wid op).2 := by
      unfold siz at h0 ⊢
      split
      · rename_i h; rw [if_pos h] at h0; exact absurd rfl h0
      · rfl
    rw [if_neg (by simp; omega), if_neg h0, wr_id (by omega) (by omega)]
    by_cases h1 : b.length < i + siz op
    · rw [if_pos (by simp; omega), if_pos h1]
    · rw [if_neg (by simp; omega), if_neg h1, wide_law, Option.bind_some]
      dsimp only
      rw [wr1 (by omega), cut_ok (by omega), Option.bind_some]
      have e1 : ((b.take (b.length : Int).toNat).drop ((i + 1 : Nat) : Int).toNat) = b.drop (i + 1) := by simp
      rw [e1, take_ref _ _ (by simp; omega) (by omega) (by simp only [big, List.length_drop]; omega), Option.bind_some, wr_id (n := ((i + 1 : Nat) : Int) + ((wid op).1 : Int)) (by omega) (by omega), show ((i + 1 : Nat) : Int) + ((wid op).1 : Int) = ((i + 1 + (wid op).1 : Nat) : Int) by omega, cut_ok (by omega), Option.bind_some]
      have e2 : ((b.take (b.length : Int).toNat).drop ((i + 1 + (wid op).1 : Nat) : Int).toNat) = b.drop (i + 1 + (wid op).1) := by rw [Int.toNat_natCast, Int.toNat_natCast, List.take_length]
      rw [e2, take_ref _ _ (by simp; omega) (by omega) (by simp only [big, List.length_drop]; omega), Option.bind_some, Option.bind_some]
      dsimp only
      by_cases h2 : op.toNat = 2
      · rw [if_pos (by simp [h2])]
        by_cases h3 : 1 < sgn (wid op).1 (num ((b.drop (i + 1)).take (wid op).1))
        · rw [if_pos (by simp; omega), if_pos ⟨h2, h3⟩]
        · rw [if_neg (by simp; omega), if_neg (by omega)]
      · rw [if_neg (by simp; omega), if_neg (by omega)]
theorem dec_code (b : List UInt8) (hl : b.length ≤ big) (i : Nat) (hi : i < b.length) : code_Decode b (i : Int) = some (dec b i b[i]) := by
  simp only [big] at hl
  have hw := wid_le b[i]
  unfold code_Decode dec
  rw [if_neg (by simp), if_neg (by simp; omega), if_neg (by simp; omega), idx_at hi, Option.bind_some, size_eq, size_law, Option.bind_some]
  generalize b[i] = op at hw
  by_cases h0 : siz op = 0
  · rw [if_pos (by simp [h0]), if_pos h0]
  · have hs : siz op = 1 + (wid op).1 + (wid op).2 := by
      unfold siz at h0 ⊢
      split
      · rename_i h; rw [if_pos h] at h0; exact absurd rfl h0
      · rfl
    rw [if_neg (by simp; omega), if_neg h0, Option.bind_some, size_eq, size_law, Option.bind_some, wr_id (by omega) (by omega)]
    by_cases h1 : b.length < i + siz op
    · rw [if_pos (by simp; omega), if_pos h1]
    · rw [if_neg (by simp; omega), if_neg h1, Option.bind_some, wr1 (by omega), cut_ok (by omega), Option.bind_some]
      have e1 : ((b.take (b.length : Int).toNat).drop ((i + 1 : Nat) : Int).toNat) = b.drop (i + 1) := by simp
      rw [e1, widths_eq, wide_law, Option.bind_some]
      dsimp only
      rw [take_code _ _ (by simp; omega) (by omega) (by simp only [big, List.length_drop]; omega), Option.bind_some]
      dsimp only
      rw [List.drop_drop, show i + 1 + (wid op).1 = i + 1 + (wid op).1 from rfl, take_code _ _ (by simp; omega) (by omega) (by simp only [big, List.length_drop]; omega), Option.bind_some]
      dsimp only
      by_cases h2 : op.toNat = 2
      · rw [if_pos (by simp [h2])]
        by_cases h3 : 1 < sgn (wid op).1 (num ((b.drop (i + 1)).take (wid op).1))
        · rw [if_pos (by simp; omega), if_pos ⟨h2, h3⟩]
        · rw [if_neg (by simp; omega), if_neg (by omega)]
      · rw [if_neg (by simp; omega), if_neg (by omega)]
theorem decode_eq (b : List UInt8) (hl : b.length ≤ big) (i : Int) : code_Decode b i = provisoref04_Decode b i := by
  by_cases h0 : i < 0
  · unfold code_Decode provisoref04_Decode
    rw [if_pos (by simpa using h0), if_pos (by simpa using h0)]
  · obtain ⟨n, rfl⟩ := Int.eq_ofNat_of_zero_le (show 0 ≤ i by omega)
    by_cases h1 : n < b.length
    · rw [dec_code b hl n h1, dec_ref b hl n h1]
    · unfold code_Decode provisoref04_Decode
      have c1 : ¬ (decide ((n : Int) < 0) = true) := by simp
      rw [if_neg c1, if_neg c1]
      by_cases h2 : b.length < n
      · have c2 : decide ((n : Int) > (b.length : Int)) = true := by simp; omega
        rw [if_pos c2, if_pos c2]
      · have c2 : ¬ (decide ((n : Int) > (b.length : Int)) = true) := by simp; omega
        have c3 : ((n : Int) == (b.length : Int)) = true := by simp; omega
        rw [if_neg c2, if_neg c2, if_pos c3, if_pos c3]
theorem scan_eq (b : List UInt8) : flow_Scan b = provisoref05_Scan b := by
  unfold flow_Scan provisoref05_Scan
  by_cases h : b.length > 4096
  · rw [if_pos (by simp; omega), if_pos (by simp; omega)]
  · have hl : b.length ≤ big := by simp only [big]; omega
    rw [if_neg (by simp; omega), if_neg (by simp; omega)]
    have e : flow_Scan_b0 b = provisoref05_Scan_b0 b := by
      funext s
      unfold flow_Scan_b0 provisoref05_Scan_b0
      rw [decode_eq b hl]
      simp only [size_eq]
    rw [e]
end Go.Proofs.Ytmeodoidfpcjlaa
