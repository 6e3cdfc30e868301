/- The forms in which the generated walks use the laws. -/
import Derived.Test.YtkcehlfcfcabmaaGreatPvf
set_option linter.unusedVariables false
set_option linter.unusedSimpArgs false
namespace Go.Pv
open Go Go.RowKit

abbrev wr (n : Int) : Int := IntKind.i64.wrap n
def toU8 (n : Int) : UInt8 := UInt8.ofNat (n % 256).toNat
theorem toU8_toNat (n : Int) : ((toU8 n).toNat : Int) = n % 256 := by
  unfold toU8
  rw [UInt8.toNat_ofNat']
  omega
theorem wrap_u8 (n : Int) : IntKind.u8.wrap n = ((toU8 n).toNat : Int) := by
  rw [toU8_toNat]
  rfl
theorem toU8_nat (x : UInt8) : toU8 (x.toNat : Int) = x := by
  apply UInt8.toNat_inj.1
  have := toU8_toNat (x.toNat : Int)
  have h := x.toNat_lt
  omega
theorem wrap_small {n : Int} (h0 : 0 ≤ n) (h1 : n ≤ 9223372036854775807) : IntKind.i64.wrap n = n := by
  rw [IntKind.wrap_i64]; omega

theorem bool_split {G : Prop} (b : Bool) (ht : b = true → G) (hf : b = false → G) : G := by
  cases b
  · exact hf rfl
  · exact ht rfl
theorem look_b {m : List (Nat × Value)} {d : Nat} {b c : Bool} (h : look m d = some (.bool c)) (hb : c = b) : look m d = some (.bool b) := by rw [h, hb]
theorem ev_b {m : List (Nat × Value)} {x : Operand} {b c : Bool} (h : ev m x = some (.bool c)) (hb : c = b) : ev m x = some (.bool b) := by rw [h, hb]
theorem none_else {α : Type} {b : Bool} {A : Option α} {r : α} (H : (if b = true then none else A) = some r) : b = false ∧ A = some r := by
  cases b
  · exact ⟨rfl, by simpa using H⟩
  · simp at H
theorem some_ok {α : Type} {x r : α} (H : some x = some r) : x = r := by cases H; rfl

section
variable {P : Program} {w : World} {m : List (Nat × Value)} {dd : Option Tmp} {ty : TypeId} {pos : String} {aft : Array Edge} {g : Option (Nat × Bool)} {x y z : Operand}
theorem EX.cong {o : Oper} {v u : Value} {w' : World} (h : EX P w m o v w') (e : v = u) : EX P w m o u w' := by subst e; exact h
/-- Into a byte. -/
theorem ex_cv8 {s d : TypeId} {ds : TypeDesc} {k : IntKind} {p : Int} (hx : ev m x = some (.int k p)) (hs : P.underlying s = some ds) (hd : P.underlying d = some (.int .u8)) :
    EX P w m ⟨dd, .convert s d x, ty, pos, aft, g⟩ (.int .u8 ((toU8 p).toNat : Int)) w := (ex_conv hx hs hd).cong (by rw [wrap_u8])
theorem ex_cv88 {s d : TypeId} {ds : TypeDesc} {k : IntKind} {p : UInt8} (hx : ev m x = some (.int k (p.toNat : Int))) (hs : P.underlying s = some ds) (hd : P.underlying d = some (.int .u8)) :
    EX P w m ⟨dd, .convert s d x, ty, pos, aft, g⟩ (.int .u8 (p.toNat : Int)) w := (ex_conv hx hs hd).cong (by rw [wrap_u8, toU8_nat])
/-- A byte into an int. -/
theorem ex_cv864 {s d : TypeId} {ds : TypeDesc} {p : UInt8} (hx : ev m x = some (.int .u8 (p.toNat : Int))) (hs : P.underlying s = some ds) (hd : P.underlying d = some (.int .i64)) :
    EX P w m ⟨dd, .convert s d x, ty, pos, aft, g⟩ (.int .i64 (p.toNat : Int)) w := (ex_conv hx hs hd).cong (by rw [wrap_small (by omega) (by have := p.toNat_lt; omega)])
theorem ex_add8 {t u : TypeId} {p q : Int} (hx : ev m x = some (.int .u8 p)) (hy : ev m y = some (.int .u8 q)) : EX P w m ⟨dd, .binOp .add t x y u, ty, pos, aft, g⟩ (.int .u8 ((toU8 (p + q)).toNat : Int)) w := (ex_add hx hy).cong (by rw [wrap_u8])
theorem ex_sub8 {t u : TypeId} {p q : Int} (hx : ev m x = some (.int .u8 p)) (hy : ev m y = some (.int .u8 q)) : EX P w m ⟨dd, .binOp .sub t x y u, ty, pos, aft, g⟩ (.int .u8 ((toU8 (p - q)).toNat : Int)) w := (ex_sub hx hy).cong (by rw [wrap_u8])
theorem ex_mul8 {t u : TypeId} {p q : Int} (hx : ev m x = some (.int .u8 p)) (hy : ev m y = some (.int .u8 q)) : EX P w m ⟨dd, .binOp .mul t x y u, ty, pos, aft, g⟩ (.int .u8 ((toU8 (p * q)).toNat : Int)) w := (ex_mul hx hy).cong (by rw [wrap_u8])
theorem bXor_u8 (p q : UInt8) : bXor .u8 (p.toNat : Int) (q.toNat : Int) = ((p ^^^ q).toNat : Int) := by
  unfold bXor
  have h1 : BitVec.ofInt IntKind.u8.bits (p.toNat : Int) = p.toBitVec := by
    apply BitVec.eq_of_toNat_eq
    rw [BitVec.ofInt_natCast]
    simp [IntKind.bits]
  have h2 : BitVec.ofInt IntKind.u8.bits (q.toNat : Int) = q.toBitVec := by
    apply BitVec.eq_of_toNat_eq
    rw [BitVec.ofInt_natCast]
    simp [IntKind.bits]
  rw [h1, h2, wrap_u8, toU8_toNat]
  have h4 := (p ^^^ q).toNat_lt
  show (((p ^^^ q).toNat : Nat) : Int) % 256 = _
  omega
theorem ex_xor8 {t u : TypeId} {p q : UInt8} (hx : ev m x = some (.int .u8 (p.toNat : Int))) (hy : ev m y = some (.int .u8 (q.toNat : Int))) : EX P w m ⟨dd, .binOp .xor t x y u, ty, pos, aft, g⟩ (.int .u8 ((p ^^^ q).toNat : Int)) w := (ex_xor hx hy).cong (by rw [bXor_u8])

/-! Strings -/
theorem ba_toList (l : List UInt8) : (⟨⟨l⟩⟩ : ByteArray).toList = l := by
  exact ByteArray.toList_eq _
end

section
variable {P : Program} {w0 w : World} {F0 : List Nat} {ps rest : List Ck} {α : Type} {T : Ty α} {enc : α → List Value} {v : Value} {l r : List α}

/-- Element i of a row that came in. -/
theorem Rd.idx {t e sz bytes : Nat} {z : Value → Bool} {i : Int} {x : α} (h : Rd T w0 F0 v l) (hb : slB P t e sz bytes z = true) (hz : T.sz = sz) (hx : idx l i = some x) :
    ∃ ad cs G, IxA P t v i ad ∧ (∀ w ps, SL w0 F0 w ps → Cells w ad cs) ∧ T.rd w0 G x cs ∧ ∀ k ∈ G, k < w0.heap.size ∧ k ∉ F0 := by
  obtain ⟨G, h1, h2⟩ := h
  obtain ⟨ad, cs, h3, h4, h5, h6⟩ := idx_ok h1 hb hz hx
  refine ⟨ad, cs, G, h3, fun w ps hs => h4.loc (hs.fm.block _ (h2 _ h6).1 (h2 _ h6).2), h5, h2⟩
theorem Rd.idxf (hFl : Flat T enc) {t e sz bytes : Nat} {z : Value → Bool} {i : Int} {x : α} (h : Rd T w0 F0 v l) (hb : slB P t e sz bytes z = true) (hz : T.sz = sz) (hx : Pv.idx l i = some x) :
    ∃ ad, IxA P t v i ad ∧ ∀ w ps, SL w0 F0 w ps → Cells w ad (enc x) := by
  obtain ⟨ad, cs, G, h0, h1, h2, _⟩ := h.idx hb hz hx
  rw [hFl.rd.1 h2] at h1
  exact ⟨ad, h0, h1⟩
/-- Element i of a row of one's own. -/
theorem own_idxf (hFl : Flat T enc) {t e sz bytes : Nat} {z : Value → Bool} {i : Int} {x : α} (hs : SL w0 F0 w ps) (hm : Sl T v l ∈ ps) (hb : slB P t e sz bytes z = true) (hz : T.sz = sz) (hx : idx l i = some x) :
    ∃ ad, IxA P t v i ad ∧ Cells w ad (enc x) := by
  obtain ⟨G, h⟩ := hs.own_rd hm
  obtain ⟨ad, cs, h3, h4, h5, _⟩ := idx_ok h hb hz hx
  rw [hFl.rd.1 h5] at h4
  exact ⟨ad, h3, h4⟩
theorem Rd.cut {t e sz bytes : Nat} {z : Value → Bool} {lo hi : Int} (h : Rd T w0 F0 v l) (hb : slB P t e sz bytes z = true) (hz : T.sz = sz) (hr : cutL l lo hi = some r)
    (lo' hi' : Option Int) (hlo : lo' = some lo ∨ (lo' = none ∧ lo = 0)) (hhi : hi' = some hi ∨ (hi' = none ∧ hi = l.length)) : ∃ v', ScA P t v lo' hi' v' ∧ Rd T w0 F0 v' r := by
  obtain ⟨G, h1, h2⟩ := h
  obtain ⟨v', h3, h4⟩ := slice_rd h1 hb hz hr lo' hi' hlo hhi
  exact ⟨v', h3, G, h4 _ _ h1, h2⟩
theorem rdL {α : Type} {T : Ty α} {w0 w : World} {F0 : List Nat} {v : Value} {l : List α} {ps : List Ck} (h : Rd T w0 F0 v l) (hs : SL w0 F0 w ps) : ∃ G, slRd T w G v l := by
  obtain ⟨G, h1, _⟩ := h.now hs
  exact ⟨G, h1⟩
end
end Go.Pv
