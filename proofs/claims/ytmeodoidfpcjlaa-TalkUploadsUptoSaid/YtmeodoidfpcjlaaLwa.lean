/- Plain laws of loops, sums, lists. -/
import Derived.Test.YtmeodoidfpcjlaaPvj
set_option linter.unusedVariables false
set_option linter.unusedSimpArgs false
namespace Go.Pv
open Go Go.RowKit

/-! ### Loops over lists -/
theorem loopO_step {S R : Type} {body : S → Option (S ⊕ R)} {s s' : S} (h : body s = some (.inl s')) : loopO body s = loopO body s' := by rw [loopO_eq, h]
theorem loopO_stop {S R : Type} {body : S → Option (S ⊕ R)} {s : S} {r : R} (h : body s = some (.inr r)) : loopO body s = some r := by rw [loopO_eq, h]
theorem loopO_from {S R σ α : Type} (l : List α) {body : S → Option (S ⊕ R)} (E : σ → Nat → S) (f : σ → α → σ) (g : σ → R) (h : ∀ s i x, l[i]? = some x → body (E s i) = some (.inl (E (f s x) (i + 1))))
    (he : ∀ s, body (E s l.length) = some (.inr (g s))) : ∀ (k i : Nat) (s : σ), i + k = l.length → loopO body (E s i) = some (g ((l.drop i).foldl f s))
  | 0, i, s, hi => by
    have : i = l.length := by omega
    subst this
    rw [loopO_stop (he s)]
    simp
  | k + 1, i, s, hi => by
    have hlt : i < l.length := by omega
    rw [loopO_step (h s i _ (List.getElem?_eq_getElem hlt)), loopO_from l E f g h he k (i + 1) _ (by omega), List.drop_eq_getElem_cons hlt, List.foldl_cons]
theorem loopO_list {S R σ α : Type} (l : List α) {body : S → Option (S ⊕ R)} (E : σ → Nat → S) (f : σ → α → σ) (g : σ → R) (h : ∀ s i x, l[i]? = some x → body (E s i) = some (.inl (E (f s x) (i + 1))))
    (he : ∀ s, body (E s l.length) = some (.inr (g s))) (s : σ) : loopO body (E s 0) = some (g (l.foldl f s)) := by
  have := loopO_from l E f g h he l.length 0 s (by omega)
  simpa using this

/-! ### Numbers -/
theorem wr_id {n : Int} (h0 : -9223372036854775808 ≤ n) (h1 : n ≤ 9223372036854775807) : wr n = n := by
  unfold wr
  rw [IntKind.wrap_i64]; omega
theorem wr_nat {n : Nat} (h : n ≤ 9223372036854775807) : wr (n : Int) = n := wr_id (by omega) (by omega)
theorem wrapU32 (n : Int) : IntKind.u32.wrap n = n % 4294967296 := by simp [IntKind.wrap, IntKind.signed, IntKind.bits]
theorem wrap32_nat {n : Nat} (h : n < 4294967296) : IntKind.u32.wrap (n : Int) = n := by rw [wrapU32]; omega
theorem bXor32 {a b : Nat} (ha : a < 4294967296) (hb : b < 4294967296) : bXor .u32 (a : Int) (b : Int) = ((a ^^^ b : Nat) : Int) := by
  have hab : a ^^^ b < 4294967296 := Nat.xor_lt_two_pow (n := 32) ha hb
  have e1 : IntKind.u32.bits = 32 := rfl
  unfold bXor
  rw [e1]
  have ea : BitVec.ofInt 32 (a : Int) = BitVec.ofNat 32 a := by apply BitVec.eq_of_toNat_eq; simp <;> omega
  have eb : BitVec.ofInt 32 (b : Int) = BitVec.ofNat 32 b := by apply BitVec.eq_of_toNat_eq; simp <;> omega
  rw [ea, eb, BitVec.toNat_xor, BitVec.toNat_ofNat, BitVec.toNat_ofNat, Nat.mod_eq_of_lt ha, Nat.mod_eq_of_lt hb, wrap32_nat hab]
theorem sShr32 {a k : Nat} (hk : k ≤ 32) : sShr .u32 (a : Int) (k : Int) = ((a / 2 ^ k : Nat) : Int) := by
  unfold sShr
  rw [show min ((k : Int)).toNat IntKind.u32.bits = k from by simp [IntKind.bits]; omega]
  rw [Int.fdiv_eq_ediv_of_nonneg _ (Int.le_of_lt (Int.pow_pos (by decide)))]
  simp
theorem bAnd32_one {a : Nat} (ha : a < 4294967296) : bAnd .u32 (a : Int) 1 = ((a % 2 : Nat) : Int) := by
  have e1 : IntKind.u32.bits = 32 := rfl
  unfold bAnd
  rw [e1]
  have ea : BitVec.ofInt 32 (a : Int) = BitVec.ofNat 32 a := by apply BitVec.eq_of_toNat_eq; simp <;> omega
  have eb : BitVec.ofInt 32 (1 : Int) = BitVec.ofNat 32 1 := rfl
  rw [ea, eb, BitVec.toNat_and, BitVec.toNat_ofNat, BitVec.toNat_ofNat, Nat.mod_eq_of_lt ha, Nat.mod_eq_of_lt (by decide), Nat.and_one_is_mod, wrap32_nat (by omega)]

/-! ### The check sum -/
def stp (c : Nat) : Nat := if c % 2 = 1 then (c / 2) ^^^ 3988292384 else c / 2
def rep {α : Type} (f : α → α) : Nat → α → α
  | 0, x => x
  | n + 1, x => rep f n (f x)
theorem foldl_replicate {α : Type} (f : α → α) : ∀ (n : Nat) (x : α), (List.replicate n ()).foldl (fun s _ => f s) x = rep f n x
  | 0, x => rfl
  | n + 1, x => by rw [List.replicate_succ, List.foldl_cons, foldl_replicate f n]; rfl
def stp8 (c : Nat) : Nat := rep stp 8 c
def crcStep (c : Nat) (x : UInt8) : Nat := stp8 (c ^^^ x.toNat)
def crcRun (l : List UInt8) (c : Nat) : Nat := l.foldl crcStep c
def crc (l : List UInt8) : Nat := crcRun l 4294967295 ^^^ 4294967295
theorem stp_lt {c : Nat} (h : c < 4294967296) : stp c < 4294967296 := by
  unfold stp
  split
  · exact Nat.xor_lt_two_pow (n := 32) (by omega) (by decide)
  · omega
theorem rep_lt {c : Nat} : ∀ n, c < 4294967296 → rep stp n c < 4294967296
  | 0, h => h
  | n + 1, h => by
    rw [show rep stp (n + 1) c = rep stp n (stp c) from rfl]
    exact rep_lt n (stp_lt h)
theorem byte_lt (x : UInt8) : x.toNat < 256 := x.toNat_lt
theorem crcStep_lt {c : Nat} {x : UInt8} (h : c < 4294967296) : crcStep c x < 4294967296 := by
  have := byte_lt x
  exact rep_lt 8 (Nat.xor_lt_two_pow (n := 32) h (by omega))
theorem crcRun_lt : ∀ {l : List UInt8} {c : Nat}, c < 4294967296 → crcRun l c < 4294967296
  | [], c, h => h
  | x :: l, c, h => crcRun_lt (l := l) (crcStep_lt h)
theorem crc_lt (l : List UInt8) : crc l < 4294967296 := Nat.xor_lt_two_pow (n := 32) (crcRun_lt (by decide)) (by decide)
theorem xor_div2 (a b : Nat) : (a ^^^ b) / 2 = (a / 2) ^^^ (b / 2) := by
  have := Nat.shiftRight_xor_distrib (a := a) (b := b) (i := 1)
  simpa [Nat.shiftRight_eq_div_pow] using this
theorem xor_mod2 (a b : Nat) : (a ^^^ b) % 2 = (a % 2 + b % 2) % 2 := by
  rw [← Nat.and_one_is_mod, Nat.and_xor_distrib_right, Nat.and_one_is_mod, Nat.and_one_is_mod]
  rcases Nat.mod_two_eq_zero_or_one a with h | h <;> rcases Nat.mod_two_eq_zero_or_one b with h' | h' <;> rw [h, h'] <;> rfl
theorem stp_xor (a b : Nat) : stp (a ^^^ b) = stp a ^^^ stp b := by
  unfold stp
  rw [xor_mod2, xor_div2]
  rcases Nat.mod_two_eq_zero_or_one a with h | h <;> rcases Nat.mod_two_eq_zero_or_one b with h' | h' <;> simp only [h, h', Nat.add_zero, Nat.zero_add, Nat.zero_mod, Nat.reduceAdd, Nat.reduceMod, Nat.zero_ne_one, if_true, if_false]
  · rw [Nat.xor_assoc]
  · rw [Nat.xor_assoc, Nat.xor_assoc, Nat.xor_comm (b / 2)]
  · rw [Nat.xor_assoc, ← Nat.xor_assoc 3988292384, Nat.xor_comm 3988292384 (b / 2), Nat.xor_assoc, Nat.xor_self, Nat.xor_zero]
theorem rep_xor : ∀ (n a b : Nat), rep stp n (a ^^^ b) = rep stp n a ^^^ rep stp n b
  | 0, a, b => rfl
  | n + 1, a, b => by
    show rep stp n (stp (a ^^^ b)) = rep stp n (stp a) ^^^ rep stp n (stp b)
    rw [stp_xor, rep_xor n]
theorem stp_double (h : Nat) : stp (2 * h) = h := by
  unfold stp
  rw [if_neg (by omega)]
  omega
theorem stp8_high (h : Nat) : stp8 (256 * h) = h := by
  unfold stp8
  simp only [rep]
  rw [show 256 * h = 2 * (2 * (2 * (2 * (2 * (2 * (2 * (2 * h))))))) by omega]
  simp only [stp_double]
theorem split_xor (c : Nat) : c = (256 * (c / 256)) ^^^ (c % 256) := by
  apply Nat.eq_of_testBit_eq
  intro j
  rw [Nat.testBit_xor]
  have e : c = 2 ^ 8 * (c / 256) + c % 256 := by omega
  have h1 := Nat.testBit_two_pow_mul_add (c / 256) (b := c % 256) (i := 8) (by omega) j
  rw [← e] at h1
  have h2 := Nat.testBit_two_pow_mul_add (c / 256) (b := 0) (i := 8) (by decide) j
  rw [Nat.add_zero] at h2
  rw [show 256 * (c / 256) = 2 ^ 8 * (c / 256) by rfl, h1, h2]
  by_cases hj : j < 8
  · simp [hj]
  · have h3 : (c % 256).testBit j = false := Nat.testBit_lt_two_pow (Nat.lt_of_lt_of_le (show c % 256 < 2 ^ 8 by omega) (Nat.pow_le_pow_right (by decide) (show 8 ≤ j by omega)))
    simp [hj, h3]
/-- A step by the table is a step bit by bit. -/
theorem crc_table (c : Nat) (x : UInt8) : crcStep c x = stp8 ((c % 256) ^^^ x.toNat) ^^^ (c / 256) := by
  unfold crcStep
  conv => lhs; rw [split_xor c]
  rw [Nat.xor_assoc]
  unfold stp8
  rw [rep_xor]
  rw [show rep stp 8 (256 * (c / 256)) = c / 256 from stp8_high _]
  rw [Nat.xor_comm]
end Go.Pv
