/- Plain laws of the talk seat's functions: readers, Unpack and Heard. -/
import Derived.Test.YtpcdphfneidalaaLwc
set_option linter.unusedVariables false
set_option linter.unusedSimpArgs false
namespace Go.Proofs.Ytpcdphfneidalaa
open Go Go.RowKit Go.Pv

/-! ### Numbers out of bytes -/
def beV (l : List UInt8) : Nat := l.foldl (fun x c => x * 256 + c.toNat) 0
theorem beV_snoc (l : List UInt8) (c : UInt8) : beV (l ++ [c]) = beV l * 256 + c.toNat := by unfold beV; rw [List.foldl_append]; rfl
theorem beV_lt : ∀ (n : Nat) (l : List UInt8), l.length = n → beV l < 256 ^ n
  | 0, l, h => by rw [List.eq_nil_of_length_eq_zero h]; decide
  | n + 1, l, h => by
    have hne : l ≠ [] := fun e => by rw [e] at h; cases h
    rw [← List.dropLast_concat_getLast hne, beV_snoc]
    have h1 := beV_lt n l.dropLast (by simp [h])
    have h2 := byte_lt (l.getLast hne)
    rw [Nat.pow_succ]
    omega
theorem bOr32 {x : Nat} {c : UInt8} (h : x < 16777216) : bOr .u32 (sShl .u32 (x : Int) 8) (IntKind.u32.wrap (c.toNat : Int)) = ((x * 256 + c.toNat : Nat) : Int) := by
  have hc := byte_lt c
  have e0 : sShl .u32 (x : Int) 8 = ((x * 256 : Nat) : Int) := by
    unfold sShl
    rw [show min ((8 : Int)).toNat IntKind.u32.bits = 8 from rfl, wrapU32]
    omega
  rw [e0, wrapU32, show (c.toNat : Int) % 4294967296 = (c.toNat : Int) by omega]
  have e1 : IntKind.u32.bits = 32 := rfl
  unfold bOr
  rw [e1]
  have ea : BitVec.ofInt 32 ((x * 256 : Nat) : Int) = BitVec.ofNat 32 (x * 256) := by apply BitVec.eq_of_toNat_eq; simp <;> omega
  have eb : BitVec.ofInt 32 (c.toNat : Int) = BitVec.ofNat 32 c.toNat := by apply BitVec.eq_of_toNat_eq; simp <;> omega
  rw [ea, eb, BitVec.toNat_or, BitVec.toNat_ofNat, BitVec.toNat_ofNat, Nat.mod_eq_of_lt (by omega), Nat.mod_eq_of_lt (by omega)]
  have h3 := Nat.two_pow_add_eq_or_of_lt (i := 8) (b := c.toNat) hc x
  rw [show x * 256 ||| c.toNat = x * 256 + c.toNat by rw [Nat.mul_comm x 256]; exact h3.symm, wrap32_nat (by omega)]
theorem num_loop (q : List UInt8 × Int × S_wire_Reader) (hq : q.1.length ≤ 4) : loopO (wire_Reader_number_b0 q) (0, 0) = some ((beV q.1 : Nat) : Int) := by
  have := loopO_list q.1 (body := wire_Reader_number_b0 q) (fun (_ : Unit) i => (((beV (q.1.take i) : Nat) : Int), (i : Int))) (fun s x => s) (fun s => ((beV q.1 : Nat) : Int))
    (fun s i x hx => by
      have hi := (List.getElem?_eq_some_iff.1 hx).1
      unfold wire_Reader_number_b0
      simp only
      rw [if_pos (by simpa using hi), idx_nat, hx]
      simp only [Option.bind_some]
      have hb := beV_lt i (q.1.take i) (by simp; omega)
      have hb2 : 256 ^ i ≤ 256 ^ 3 := Nat.pow_le_pow_right (by decide) (by omega)
      rw [bOr32 (by omega), show wr ((i : Int) + 1) = ((i + 1 : Nat) : Int) by rw [wr_id] <;> omega]
      have e : q.1.take (i + 1) = q.1.take i ++ [x] := by
        rw [List.take_add_one, hx]; rfl
      rw [e, beV_snoc]) (fun s => by unfold wire_Reader_number_b0; simp) ()
  simpa [beV] using this
theorem beV_be4 (c : Nat) (h : c < 4294967296) : beV (be4 c) = c := by
  have h1 := toU8_toNat ((c : Int) / 16777216)
  have h2 := toU8_toNat ((c : Int) / 65536)
  have h3 := toU8_toNat ((c : Int) / 256)
  have h4 := toU8_toNat (c : Int)
  unfold beV be4
  simp only [List.foldl_cons, List.foldl_nil]
  omega

/-! ### Readers -/
theorem over_law (b : List UInt8) (h : b.length ≤ 1000000000) : wire_Over b = some ⟨b, 0, true⟩ := by
  unfold wire_Over
  rw [mk_ok _ h]
  simp only [Option.bind_some]
  rw [cp_full]
theorem next_law (b : List UInt8) (a n : Nat) (hb : b.length ≤ 1000000000) (h : a + n ≤ b.length) : wire_Reader_next ⟨b, (a : Int), true⟩ (n : Int) = some ((b.drop a).take n, 0, ⟨b, ((a + n : Nat) : Int), true⟩) := by
  unfold wire_Reader_next wire_Reader_Left wire_Reader_ready
  simp only [Option.bind_some, Bool.not_true]
  rw [if_neg (by decide), if_neg (by simp <;> omega), if_neg (by decide)]
  simp only [Option.bind_some]
  rw [show wr ((b.length : Int) - (a : Int)) = ((b.length - a : Nat) : Int) by rw [wr_id (by omega) (by omega)]; omega, if_neg (by simp; omega)]
  rw [show wr ((a : Int) + (n : Int)) = ((a + n : Nat) : Int) by rw [wr_id (by omega) (by omega)]; omega, show wr (((a + n : Nat) : Int) - (n : Int)) = (a : Int) by rw [wr_id (by omega) (by omega)]; omega]
  rw [cut_ok (by omega)]
  simp only [Option.bind_some, Int.toNat_natCast]
  rw [List.drop_take, Nat.add_sub_cancel_left]
theorem number_law (b : List UInt8) (a n : Nat) (hb : b.length ≤ 1000000000) (h : a + n ≤ b.length) (hn : n ≤ 4) : wire_Reader_number ⟨b, (a : Int), true⟩ (n : Int) = some (((beV ((b.drop a).take n) : Nat) : Int), 0, ⟨b, ((a + n : Nat) : Int), true⟩) := by
  unfold wire_Reader_number
  simp only
  rw [next_law b a n hb h]
  simp only [Option.bind_some]
  rw [num_loop _ (by simp; omega)]
  simp only [Option.bind_some]
theorem take_one {b : List UInt8} {a : Nat} {x : UInt8} (h : b[a]? = some x) : (b.drop a).take 1 = [x] := by
  have hlt := (List.getElem?_eq_some_iff.1 h).1
  have hx := (List.getElem?_eq_some_iff.1 h).2
  rw [List.drop_eq_getElem_cons hlt, hx]
  rfl
theorem rbyte_law (b : List UInt8) (a : Nat) (x : UInt8) (hb : b.length ≤ 1000000000) (h : b[a]? = some x) : wire_Reader_Byte ⟨b, (a : Int), true⟩ = some ((x.toNat : Int), 0, ⟨b, ((a + 1 : Nat) : Int), true⟩) := by
  have hlt := (List.getElem?_eq_some_iff.1 h).1
  have hx := byte_lt x
  unfold wire_Reader_Byte
  simp only
  rw [show (1 : Int) = ((1 : Nat) : Int) from rfl, number_law b a 1 hb (by omega) (by decide)]
  simp only [Option.bind_some]
  rw [take_one h, show beV [x] = x.toNat by simp [beV], wr_nat (by omega)]
theorem rword_law (b : List UInt8) (a : Nat) (x y : UInt8) (hb : b.length ≤ 1000000000) (h : b[a]? = some x) (h' : b[a + 1]? = some y) : wire_Reader_Word ⟨b, (a : Int), true⟩ = some (256 * (x.toNat : Int) + (y.toNat : Int), 0, ⟨b, ((a + 2 : Nat) : Int), true⟩) := by
  have hlt := (List.getElem?_eq_some_iff.1 h').1
  have hx := byte_lt x
  have hy := byte_lt y
  unfold wire_Reader_Word
  simp only
  rw [show (2 : Int) = ((2 : Nat) : Int) from rfl, number_law b a 2 hb (by omega) (by decide)]
  simp only [Option.bind_some]
  have e : (b.drop a).take 2 = [x, y] := by
    have h1 := (List.getElem?_eq_some_iff.1 h).2
    have h2 := (List.getElem?_eq_some_iff.1 h').2
    rw [List.drop_eq_getElem_cons (by omega), List.drop_eq_getElem_cons hlt, h1, h2]
    rfl
  rw [e, show beV [x, y] = x.toNat * 256 + y.toNat by simp [beV], wr_nat (by omega)]
  congr 2
  omega
theorem rlong_law (b : List UInt8) (hb : b.length = 4) : wire_Reader_Long ⟨b, 0, true⟩ = some (wr (IntKind.i32.wrap ((beV b : Nat) : Int)), 0, ⟨b, 4, true⟩) := by
  unfold wire_Reader_Long
  simp only
  have := number_law b 0 4 (by omega) (by omega) (by decide)
  simp only [Int.natCast_zero, Nat.zero_add, List.drop_zero, List.take_of_length_le (Nat.le_of_eq hb)] at this
  rw [show (4 : Int) = ((4 : Nat) : Int) from rfl, this]
  simp only [Option.bind_some]
theorem take_law (b : List UInt8) (a n : Nat) (hb : b.length ≤ 1000000000) (h : a + n ≤ b.length) : wire_Reader_Take ⟨b, (a : Int), true⟩ (n : Int) = some ((b.drop a).take n, 0, ⟨b, ((a + n : Nat) : Int), true⟩) := by
  unfold wire_Reader_Take
  simp only
  rw [next_law b a n hb h]
  simp only [Option.bind_some]
  rw [if_neg (by decide), mk_ok _ (by simp; omega)]
  simp only [Option.bind_some]
  rw [cp_full]

/-! ### What is wrong with a frame -/
def faultS (b : List UInt8) (first : UInt8) (hd : Nat) : Int :=
  match b[0]? with
  | none => 2
  | some x => if x ≠ first then 240 else if b.length < hd then 2 else match b[hd - 1]? with
    | none => 2
    | some y => if b.length < hd + y.toNat + 4 then 2 else if b.length > hd + y.toNat + 4 then 3 else if beV (b.drop (hd + y.toNat)) ≠ crc (b.take (hd + y.toNat)) then 161 else 0
theorem fault_law (b : List UInt8) (first : UInt8) (hd : Nat) (hb : b.length ≤ 1000000000) (h1 : 1 ≤ hd) (h9 : hd ≤ 9) : talk_fault b first (hd : Int) = some (faultS b first hd) := by
  unfold talk_fault faultS
  cases b with
  | nil => simp
  | cons x0 t =>
    rw [if_neg (by simp; omega), show idx (x0 :: t) 0 = (x0 :: t)[0]? from idx_nat (i := 0)]
    generalize hbl : x0 :: t = b at hb
    have h0 : b[0]? = some x0 := by rw [← hbl]; rfl
    rw [h0]
    simp only [Option.bind_some]
    by_cases hx : x0 = first
    · rw [if_neg (show ¬ ((x0.toNat : Int) != (first.toNat : Int)) = true by simp [hx]), if_neg (show ¬ (x0 ≠ first) by simp [hx])]
      by_cases hl : b.length < hd
      · rw [if_pos (by simp; omega), if_pos hl]
      · rw [if_neg (by simp; omega), if_neg hl]
        rw [show wr ((hd : Int) - 1) = ((hd - 1 : Nat) : Int) by rw [wr_id (by omega) (by omega)]; omega, idx_nat]
        have hlt : hd - 1 < b.length := by omega
        rw [List.getElem?_eq_getElem hlt]
        simp only [Option.bind_some]
        generalize b[hd - 1] = y
        have hy := byte_lt y
        have e1 : wr (wr ((hd : Int) + (y.toNat : Int)) + 4) = ((hd + y.toNat + 4 : Nat) : Int) := by rw [wr_id (n := (hd : Int) + (y.toNat : Int)) (by omega) (by omega), wr_id (by omega) (by omega)]; omega
        rw [e1]
        by_cases h2 : b.length < hd + y.toNat + 4
        · rw [if_pos (by simp; omega), if_pos h2]
        · rw [if_neg (by simp; omega), if_neg h2]
          by_cases h3 : b.length > hd + y.toNat + 4
          · rw [if_pos (by simp; omega), if_pos h3]
          · rw [if_neg (by simp; omega), if_neg h3]
            have hlen : b.length = hd + y.toNat + 4 := by omega
            have e2 : wr (((hd + y.toNat + 4 : Nat) : Int) - 4) = ((hd + y.toNat : Nat) : Int) := by rw [wr_id (by omega) (by omega)]; omega
            rw [e2, cut_ok (by omega)]
            simp only [Option.bind_some, Int.toNat_natCast, List.take_length]
            have hd4 : (b.drop (hd + y.toNat)).length = 4 := by simp; omega
            rw [over_law _ (by omega)]
            simp only [Option.bind_some]
            rw [rlong_law _ hd4]
            simp only [Option.bind_some]
            rw [cut_ok (by omega)]
            simp only [Option.bind_some, Int.toNat_natCast, Int.toNat_zero, List.drop_zero]
            rw [sum_law _ (by simp; omega)]
            simp only [Option.bind_some]
            have hv := beV_lt 4 _ hd4
            generalize beV (b.drop (hd + y.toNat)) = v at hv
            have e3 : wr (IntKind.u32.wrap (wr (IntKind.i32.wrap ((v : Nat) : Int)))) = (v : Int) := by
              have e : IntKind.i32.wrap (v : Int) = if (v : Int) < 2147483648 then (v : Int) else (v : Int) - 4294967296 := by
                simp [IntKind.wrap, IntKind.signed, IntKind.bits]
                split <;> split <;> omega
              rw [e]
              split
              · rw [wr_id (n := (v : Int)) (by omega) (by omega), wrapU32, show (v : Int) % 4294967296 = v by omega, wr_id (n := (v : Int)) (by omega) (by omega)]
              · rw [wr_id (n := (v : Int) - 4294967296) (by omega) (by omega), wrapU32, show ((v : Int) - 4294967296) % 4294967296 = v by omega, wr_id (n := (v : Int)) (by omega) (by omega)]
            rw [e3]
            by_cases h4 : v = crc (b.take (hd + y.toNat))
            · rw [if_neg (by simp [h4]), if_neg (by simp [h4])]
            · rw [if_pos (by simp; omega), if_pos h4]
    · have hx' : ((x0.toNat : Int) != (first.toNat : Int)) = true := by
        simp only [bne_iff_ne, ne_eq, Int.natCast_inj]
        exact fun e => hx (UInt8.toNat_inj.1 e)
      rw [if_pos hx', if_pos hx]
theorem fault_zero {b : List UInt8} {first : UInt8} {hd : Nat} (h : faultS b first hd = 0) : b[0]? = some first ∧ ∃ y, b[hd - 1]? = some y ∧ b.length = hd + y.toNat + 4 ∧ beV (b.drop (hd + y.toNat)) = crc (b.take (hd + y.toNat)) := by
  unfold faultS at h
  split at h
  · cases h
  · rename_i x hx
    split at h
    · cases h
    · rename_i h1
      split at h
      · cases h
      · split at h
        · cases h
        · rename_i y hy
          split at h
          · cases h
          · split at h
            · cases h
            · split at h
              · cases h
              · rename_i h2 h3 h4
                exact ⟨by rw [hx, Decidable.of_not_not h1], y, hy, by omega, by simpa using h4⟩
theorem fault_ok {b : List UInt8} {first y : UInt8} {hd : Nat} (h0 : b[0]? = some first) (hy : b[hd - 1]? = some y) (hl : b.length = hd + y.toNat + 4) (hc : beV (b.drop (hd + y.toNat)) = crc (b.take (hd + y.toNat))) : faultS b first hd = 0 := by
  unfold faultS
  rw [h0]
  simp only [hy]
  rw [if_neg (by simp), if_neg (by omega), if_neg (by omega), if_neg (by omega), if_neg (by simpa using hc)]

def getB (b : List UInt8) (i : Nat) : Int := (((b[i]?).getD 0).toNat : Int)
def unpacked (b : List UInt8) : S_api_Request × Int := if faultS b 80 5 = 0 then (⟨getB b 1, 256 * getB b 2 + getB b 3, (b.drop 5).take (getB b 4).toNat⟩, 0) else (⟨0, 0, []⟩, faultS b 80 5)
def heardS (b : List UInt8) : S_api_Answer × Int := if faultS b 112 4 = 0 then (⟨256 * getB b 1 + getB b 2, (b.drop 4).take (getB b 3).toNat⟩, 0) else (⟨0, []⟩, faultS b 112 4)
theorem getB_at {b : List UInt8} {i : Nat} (h : i < b.length) : ∃ x : UInt8, b[i]? = some x ∧ getB b i = (x.toNat : Int) := ⟨b[i], List.getElem?_eq_getElem h, by simp [getB, h]⟩
theorem unpack_law (b : List UInt8) (hb : b.length ≤ 1000000000) : talk_Unpack b = some (unpacked b) := by
  unfold talk_Unpack unpacked
  rw [show (5 : Int) = ((5 : Nat) : Int) from rfl, fault_law b 80 5 hb (by decide) (by decide)]
  simp only [Option.bind_some]
  by_cases hf : faultS b 80 5 = 0
  · rw [if_neg (by simp [hf]), if_pos hf]
    obtain ⟨_, y, hy, hl, _⟩ := fault_zero hf
    rw [cut_ok (by omega)]
    simp only [Option.bind_some, Int.toNat_natCast, List.take_length]
    rw [show (1 : Int).toNat = 1 from rfl, over_law _ (by simp; omega)]
    simp only [Option.bind_some]
    obtain ⟨x1, h1, g1⟩ := getB_at (b := b) (i := 1) (by omega)
    obtain ⟨x2, h2, g2⟩ := getB_at (b := b) (i := 2) (by omega)
    obtain ⟨x3, h3, g3⟩ := getB_at (b := b) (i := 3) (by omega)
    have hyl := byte_lt y
    have g4 : getB b 4 = (y.toNat : Int) := by simp only [getB]; rw [show b[4]? = some y from hy]; rfl
    rw [show (0 : Int) = ((0 : Nat) : Int) from rfl, rbyte_law _ 0 x1 (by simp; omega) (by simpa using h1)]
    simp only [Option.bind_some]
    rw [rword_law _ 1 x2 x3 (by simp; omega) (by simpa using h2) (by simpa using h3)]
    simp only [Option.bind_some]
    rw [rbyte_law _ 3 y (by simp; omega) (by simpa using hy)]
    simp only [Option.bind_some]
    rw [take_law _ 4 y.toNat (by simp; omega) (by simp; omega)]
    rw [Option.bind_some, g1, g2, g3, g4, List.drop_drop, Int.toNat_natCast]
  · rw [if_pos (by simpa using hf), if_neg hf]
theorem heard_law (b : List UInt8) (hb : b.length ≤ 1000000000) : talk_Heard b = some (heardS b) := by
  unfold talk_Heard heardS
  rw [show (4 : Int) = ((4 : Nat) : Int) from rfl, fault_law b 112 4 hb (by decide) (by decide)]
  simp only [Option.bind_some]
  by_cases hf : faultS b 112 4 = 0
  · rw [if_neg (by simp [hf]), if_pos hf]
    obtain ⟨_, y, hy, hl, _⟩ := fault_zero hf
    rw [cut_ok (by omega)]
    simp only [Option.bind_some, Int.toNat_natCast, List.take_length]
    rw [show (1 : Int).toNat = 1 from rfl, over_law _ (by simp; omega)]
    simp only [Option.bind_some]
    obtain ⟨x2, h2, g2⟩ := getB_at (b := b) (i := 1) (by omega)
    obtain ⟨x3, h3, g3⟩ := getB_at (b := b) (i := 2) (by omega)
    have hyl := byte_lt y
    have g4 : getB b 3 = (y.toNat : Int) := by simp only [getB]; rw [show b[3]? = some y from hy]; rfl
    rw [show (0 : Int) = ((0 : Nat) : Int) from rfl, rword_law _ 0 x2 x3 (by simp; omega) (by simpa using h2) (by simpa using h3)]
    simp only [Option.bind_some]
    rw [rbyte_law _ 2 y (by simp; omega) (by simpa using hy)]
    simp only [Option.bind_some]
    rw [take_law _ 3 y.toNat (by simp; omega) (by simp; omega)]
    rw [Option.bind_some, g2, g3, g4, List.drop_drop, Int.toNat_natCast]
  · rw [if_pos (by simpa using hf), if_neg hf]
end Go.Proofs.Ytpcdphfneidalaa
