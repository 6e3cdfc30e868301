/- Plain laws of the talk seat's functions: sums, equality, writers. -/
import Derived.Test.YtpcdphfneidalaaLwa
import Derived.Test.YtpcdphfneidalaaDf
set_option linter.unusedVariables false
set_option linter.unusedSimpArgs false
namespace Go.Proofs.Ytpcdphfneidalaa
open Go Go.RowKit Go.Pv

theorem app_ok {α : Type} {lim : Nat} {l m : List α} (h : l.length + m.length ≤ lim) : app lim l m = some (l ++ m) := by unfold app; rw [if_pos h]
theorem cut_ok {α : Type} {l : List α} {lo hi : Int} (h : 0 ≤ lo ∧ lo ≤ hi ∧ hi ≤ l.length) : cutL l lo hi = some ((l.take hi.toNat).drop lo.toNat) := by unfold cutL; rw [if_pos h]
theorem idx_nat {α : Type} {l : List α} {i : Nat} : idx l (i : Int) = l[i]? := by unfold idx; rw [if_pos (by omega)]; simp

/-! ### Equality -/
theorem equal_from (a b : List UInt8) (hl : a.length = b.length) (hb : a.length ≤ 1000000000) : ∀ (k i : Nat), i + k = a.length → loopO (slices_Equal_byte_byte_b0 a b) (i : Int) = some (if a.drop i = b.drop i then .inr () else .inl false)
  | 0, i, hi => by
    have : i = a.length := by omega
    subst this
    rw [loopO_stop (r := .inr ())]
    · rw [if_pos]
      rw [List.drop_eq_nil_of_le (Nat.le_refl _), List.drop_eq_nil_of_le (by omega)]
    · unfold slices_Equal_byte_byte_b0
      simp
  | k + 1, i, hi => by
    have hlt : i < a.length := by omega
    have hlt' : i < b.length := by omega
    have hstep : slices_Equal_byte_byte_b0 a b (i : Int) = if a[i] = b[i] then some (.inl ((i + 1 : Nat) : Int)) else some (.inr (.inl false)) := by
      unfold slices_Equal_byte_byte_b0
      rw [idx_nat, idx_nat, List.getElem?_eq_getElem hlt, List.getElem?_eq_getElem hlt']
      rw [if_pos (by simpa using hlt)]
      simp only [Option.bind_some]
      by_cases h : a[i] = b[i]
      · rw [if_neg (by simp [h]), if_pos h]
        rw [show ((i : Int) + 1) = ((i + 1 : Nat) : Int) by omega, wr_nat (by omega)]
      · have h2 : ((a[i].toNat : Int) != (b[i].toNat : Int)) = true := by
          simp only [bne_iff_ne, ne_eq, Int.natCast_inj]
          exact fun e => h (UInt8.toNat_inj.1 e)
        rw [if_pos h2, if_neg h]
    have e : (a.drop i = b.drop i) = (a[i] = b[i] ∧ a.drop (i + 1) = b.drop (i + 1)) := by rw [List.drop_eq_getElem_cons hlt, List.drop_eq_getElem_cons hlt', List.cons.injEq]
    by_cases h : a[i] = b[i]
    · rw [if_pos h] at hstep
      rw [loopO_step hstep, equal_from a b hl hb k (i + 1) (by omega)]
      by_cases h2 : a.drop (i + 1) = b.drop (i + 1)
      · rw [if_pos h2, if_pos (by rw [e]; exact ⟨h, h2⟩)]
      · rw [if_neg h2, if_neg (by rw [e]; exact fun hh => h2 hh.2)]
    · rw [if_neg h] at hstep
      rw [loopO_stop hstep, if_neg (by rw [e]; exact fun hh => h hh.1)]
theorem equal_law (a b : List UInt8) (hb : a.length ≤ 1000000000) : slices_Equal_byte_byte a b = some (decide (a = b)) := by
  unfold slices_Equal_byte_byte
  by_cases hl : a.length = b.length
  · rw [if_neg (by simp [hl])]
    have := equal_from a b hl hb a.length 0 (by omega)
    simp only [Int.natCast_zero, List.drop_zero] at this
    rw [show (0 : Int) = ((0 : Nat) : Int) from rfl] at *
    rw [this]
    by_cases h : a = b
    · simp [h]
    · simp [h]
  · rw [if_pos (by simp; omega)]
    have : a ≠ b := fun h => hl (by rw [h])
    simp [this]

/-! ### Roomy -/
theorem roomy_law (b : List UInt8) (hb : b.length ≤ 1000000000) : provisoplain_Roomy b = some (b, b ++ [165, 90, 195, 60]) := by
  unfold provisoplain_Roomy slices_Clone_byte_byte
  rw [app_ok (by simp; omega)]
  simp only [Option.bind_some, List.nil_append]
  rw [app_ok (by simp; omega)]
  simp only [Option.bind_some]
  rw [cut_ok (by simp; omega)]
  simp
theorem untouched_law (b : List UInt8) (hb : b.length ≤ 1000000000) : provisoplain_Untouched (b ++ [165, 90, 195, 60]) b = some true := by
  unfold provisoplain_Untouched
  rw [cut_ok (by simp; omega)]
  simp only [Option.bind_some, Int.toNat_natCast, Int.toNat_zero, List.drop_zero, List.take_left]
  rw [equal_law b b hb]
  have e1 : wr ((b.length : Int) + 1) = ((b.length + 1 : Nat) : Int) := by rw [wr_id] <;> omega
  have e2 : wr ((b.length : Int) + 2) = ((b.length + 2 : Nat) : Int) := by rw [wr_id] <;> omega
  have e3 : wr ((b.length : Int) + 3) = ((b.length + 3 : Nat) : Int) := by rw [wr_id] <;> omega
  rw [e1, e2, e3, idx_nat, idx_nat, idx_nat, idx_nat]
  simp [List.getElem?_append_right]

/-! ### Sums -/
theorem ref_step (c : Nat) (hc : c < 4294967296) : loopO provisoref01_Sum_b0 ((c : Int), 0) = some ((stp8 c : Nat) : Int) := by
  have h : ∀ c' : Nat, c' < 4294967296 → ∀ i : Nat, i < 8 → provisoref01_Sum_b0 ((c' : Int), (i : Int)) = some (.inl (((stp c' : Nat) : Int), ((i + 1 : Nat) : Int))) := fun c' hc' i hi => by
    unfold provisoref01_Sum_b0
    simp only
    rw [if_pos (by simp; omega)]
    have e1 : Int.tmod (c' : Int) 2 = ((c' % 2 : Nat) : Int) := by rw [Int.tmod_eq_emod_of_nonneg (by omega)]; omega
    have e2 : IntKind.u32.wrap (Int.tdiv (c' : Int) 2) = ((c' / 2 : Nat) : Int) := by rw [Int.tdiv_eq_ediv_of_nonneg (by omega), show (c' : Int) / 2 = ((c' / 2 : Nat) : Int) by omega, wrap32_nat (by omega)]
    have e3 : wr ((i : Int) + 1) = ((i + 1 : Nat) : Int) := by rw [wr_id] <;> omega
    rw [e1, e2, e3]
    unfold stp
    by_cases h2 : c' % 2 = 1
    · rw [if_pos (by simp [h2]), if_pos h2, show (3988292384 : Int) = ((3988292384 : Nat) : Int) from rfl, bXor32 (by omega) (by decide)]
    · rw [if_neg (by simp; omega), if_neg h2]
  have := loopO_list (List.replicate 8 ()) (body := provisoref01_Sum_b0) (fun (s : {c : Nat // c < 4294967296}) i => ((s.1 : Int), (i : Int))) (fun s _ => ⟨stp s.1, stp_lt s.2⟩) (fun s => (s.1 : Int))
    (fun s i x hx => h s.1 s.2 i (by have := (List.getElem?_eq_some_iff.1 hx).1; simpa using this)) (fun s => by unfold provisoref01_Sum_b0; simp) ⟨c, hc⟩
  rw [foldl_replicate] at this
  simp only [Int.natCast_zero] at this
  rw [this]
  rfl
theorem ref_sum (l : List UInt8) (hl : l.length ≤ 1000000000) : provisoref01_Sum l = some ((crc l : Nat) : Int) := by
  unfold provisoref01_Sum
  have := loopO_list l (body := provisoref01_Sum_b1 l) (fun (s : {c : Nat // c < 4294967296}) i => ((s.1 : Int), (i : Int))) (fun s x => ⟨crcStep s.1 x, crcStep_lt s.2⟩) (fun s => (s.1 : Int))
    (fun s i x hx => by
      have hi := (List.getElem?_eq_some_iff.1 hx).1
      have hx2 := byte_lt x
      unfold provisoref01_Sum_b1
      simp only
      rw [if_pos (by simpa using hi), idx_nat, hx]
      simp only [Option.bind_some]
      rw [wrap32_nat (by omega), bXor32 s.2 (by omega), ref_step _ (Nat.xor_lt_two_pow (n := 32) s.2 (by omega))]
      simp only [Option.bind_some]
      rw [show wr ((i : Int) + 1) = ((i + 1 : Nat) : Int) by rw [wr_id] <;> omega]
      rfl) (fun s => by unfold provisoref01_Sum_b1; simp) ⟨4294967295, by decide⟩
  simp only [Int.natCast_zero] at this
  have e : (((⟨4294967295, by decide⟩ : {c : Nat // c < 4294967296}).1 : Nat) : Int) = 4294967295 := rfl
  rw [e] at this
  rw [this]
  simp only [Option.bind_some]
  have hrun : (l.foldl (fun (s : {c : Nat // c < 4294967296}) x => (⟨crcStep s.1 x, crcStep_lt s.2⟩ : {c : Nat // c < 4294967296})) ⟨4294967295, by decide⟩).1 = crcRun l 4294967295 := by
    have : ∀ (l : List UInt8) (s : {c : Nat // c < 4294967296}), (l.foldl (fun (s : {c : Nat // c < 4294967296}) x => (⟨crcStep s.1 x, crcStep_lt s.2⟩ : {c : Nat // c < 4294967296})) s).1 = crcRun l s.1 := by
      intro l
      induction l with
      | nil => intro s; rfl
      | cons x l ih => intro s; rw [List.foldl_cons, ih]; rfl
    exact this l _
  rw [hrun, show (4294967295 : Int) = ((4294967295 : Nat) : Int) from rfl, bXor32 (crcRun_lt (by decide)) (by decide)]
  have := crc_lt l
  rw [show crcRun l 4294967295 ^^^ 4294967295 = crc l from rfl, wr_nat (by omega)]

theorem words_step (c : Nat) (hc : c < 4294967296) : loopO wire_words_b0 ((c : Int), 0) = some ((stp8 c : Nat) : Int) := by
  have h : ∀ c' : Nat, c' < 4294967296 → ∀ i : Nat, i < 8 → wire_words_b0 ((c' : Int), (i : Int)) = some (.inl (((stp c' : Nat) : Int), ((i + 1 : Nat) : Int))) := fun c' hc' i hi => by
    unfold wire_words_b0
    simp only
    rw [if_pos (by simp; omega)]
    have e2 : sShr .u32 (c' : Int) 1 = ((c' / 2 : Nat) : Int) := sShr32 (k := 1) (by decide)
    have e3 : wr ((i : Int) + 1) = ((i + 1 : Nat) : Int) := by rw [wr_id] <;> omega
    rw [bAnd32_one hc', e2, e3]
    unfold stp
    by_cases h2 : c' % 2 = 1
    · rw [if_pos (by simp [h2]), if_pos h2, show (3988292384 : Int) = ((3988292384 : Nat) : Int) from rfl, bXor32 (by omega) (by decide)]
    · rw [if_neg (by simp; omega), if_neg h2]
  have := loopO_list (List.replicate 8 ()) (body := wire_words_b0) (fun (s : {c : Nat // c < 4294967296}) i => ((s.1 : Int), (i : Int))) (fun s _ => ⟨stp s.1, stp_lt s.2⟩) (fun s => (s.1 : Int))
    (fun s i x hx => h s.1 s.2 i (by have := (List.getElem?_eq_some_iff.1 hx).1; simpa using this)) (fun s => by unfold wire_words_b0; simp) ⟨c, hc⟩
  rw [foldl_replicate] at this
  simp only [Int.natCast_zero] at this
  rw [this]
  rfl
/-- The table: entry i is what eight steps make of i. -/
def tableTo (n : Nat) : List Int := (List.range 256).map fun i => if i < n then ((stp8 i : Nat) : Int) else 0
theorem words_law : wire_words = some (tableTo 256) := by
  unfold wire_words
  have hset : ∀ i, i < 256 → (tableTo i).set i ((stp8 i : Nat) : Int) = tableTo (i + 1) := fun i hi => by
    apply List.ext_getElem?
    intro j
    unfold tableTo
    rw [List.getElem?_set]
    by_cases hij : i = j
    · subst hij
      rw [if_pos rfl, if_pos (by simpa using hi)]
      rw [List.getElem?_map, List.getElem?_range hi]
      simp
    · rw [if_neg hij]
      rw [List.getElem?_map, List.getElem?_map]
      by_cases hj : j < 256
      · rw [List.getElem?_range hj]
        simp only [Option.map_some]
        by_cases h : j < i
        · rw [if_pos h, if_pos (by omega)]
        · rw [if_neg h, if_neg (by omega)]
      · rw [List.getElem?_eq_none (by simpa using hj)]
        rfl
  have := loopO_list (List.range 256) (body := wire_words_b1) (fun (s : Nat) i => (tableTo i, (i : Int))) (fun s x => s) (fun s => tableTo 256)
    (fun s i x hx => by
      have hi : i < 256 := by have := (List.getElem?_eq_some_iff.1 hx).1; simpa using this
      unfold wire_words_b1
      simp only
      rw [if_pos (by simp; omega), wrap32_nat (by omega), words_step _ (by omega)]
      simp only [Option.bind_some]
      rw [idx_nat]
      have hlen : (tableTo i).length = 256 := by simp [tableTo]
      rw [List.getElem?_eq_getElem (by omega)]
      simp only [Option.bind_some, Int.toNat_natCast]
      rw [hset i hi, show wr ((i : Int) + 1) = ((i + 1 : Nat) : Int) by rw [wr_id] <;> omega]) (fun s => by unfold wire_words_b1; simp) 0
  have e0 : List.replicate 256 (0 : Int) = tableTo 0 := by
    unfold tableTo
    apply List.ext_getElem?
    intro j
    rw [List.getElem?_replicate, List.getElem?_map]
    by_cases hj : j < 256
    · rw [List.getElem?_range hj]; simp [hj]
    · rw [if_neg hj, List.getElem?_eq_none (by simpa using hj)]; rfl
  rw [e0]
  simp only [Int.natCast_zero] at this
  rw [this]
  rfl
theorem table_at {i : Nat} (h : i < 256) : (tableTo 256)[i]? = some ((stp8 i : Nat) : Int) := by
  unfold tableTo
  rw [List.getElem?_map, List.getElem?_range h]
  simp [h]
theorem toU8_xor (c : Nat) (x : UInt8) : (toU8 (c : Int) ^^^ x).toNat = (c % 256) ^^^ x.toNat := by
  rw [UInt8.toNat_xor]
  congr 1
  have := toU8_toNat (c : Int)
  omega
theorem sum_law (l : List UInt8) (hl : l.length ≤ 1000000000) : wire_Sum l = some ((crc l : Nat) : Int) := by
  unfold wire_Sum
  rw [words_law]
  simp only [Option.bind_some]
  have := loopO_list l (body := wire_Sum_b0 l (tableTo 256)) (fun (s : {c : Nat // c < 4294967296}) i => ((s.1 : Int), (i : Int))) (fun s x => ⟨crcStep s.1 x, crcStep_lt s.2⟩) (fun s => (s.1 : Int))
    (fun s i x hx => by
      have hi := (List.getElem?_eq_some_iff.1 hx).1
      have hx2 := byte_lt x
      unfold wire_Sum_b0
      simp only
      rw [if_pos (by simpa using hi), idx_nat, hx]
      simp only [Option.bind_some]
      have h8 : (s.1 % 256) ^^^ x.toNat < 256 := Nat.xor_lt_two_pow (n := 8) (by omega) hx2
      have hst : stp8 ((s.1 % 256) ^^^ x.toNat) < 4294967296 := rep_lt 8 (by omega)
      rw [idx_nat, toU8_xor, table_at h8]
      simp only [Option.bind_some]
      have hs := s.2
      rw [show (8 : Int) = ((8 : Nat) : Int) from rfl, sShr32 (by decide), bXor32 hst (by omega), show wr ((i : Int) + 1) = ((i + 1 : Nat) : Int) by rw [wr_id] <;> omega]
      rw [crc_table]) (fun s => by unfold wire_Sum_b0; simp) ⟨4294967295, by decide⟩
  simp only [Int.natCast_zero] at this
  have e : (((⟨4294967295, by decide⟩ : {c : Nat // c < 4294967296}).1 : Nat) : Int) = 4294967295 := rfl
  rw [e] at this
  rw [this]
  simp only [Option.bind_some]
  have hrun : ∀ (l : List UInt8) (s : {c : Nat // c < 4294967296}), (l.foldl (fun (s : {c : Nat // c < 4294967296}) x => (⟨crcStep s.1 x, crcStep_lt s.2⟩ : {c : Nat // c < 4294967296})) s).1 = crcRun l s.1 := by
    intro l
    induction l with
    | nil => intro s; rfl
    | cons x l ih => intro s; rw [List.foldl_cons, ih]; rfl
  rw [hrun]
  unfold bNot
  rw [show (if IntKind.u32.signed then (-1 : Int) else IntKind.u32.max) = ((4294967295 : Nat) : Int) from rfl, bXor32 (by decide) (crcRun_lt (by decide)), Nat.xor_comm]
  have := crc_lt l
  rw [show crcRun l 4294967295 ^^^ 4294967295 = crc l from rfl, wr_nat (by omega)]
end Go.Proofs.Ytpcdphfneidalaa
