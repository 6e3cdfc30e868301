/- Plain law: Unpack and Heard answer as the document's own. -/
import Derived.Test.YtpcdphfneidalaaLwe
set_option linter.unusedVariables false
set_option linter.unusedSimpArgs false
namespace Go.Proofs.Ytpcdphfneidalaa
open Go Go.RowKit Go.Pv

theorem beV_inj' : ∀ (n : Nat) {l m : List UInt8}, l.length = n → m.length = n → beV l = beV m → l = m
  | 0, l, m, hl, hm, _ => by rw [List.eq_nil_of_length_eq_zero hl, List.eq_nil_of_length_eq_zero hm]
  | n + 1, l, m, hl, hm, h => by
    have hne : l ≠ [] := fun e => by rw [e] at hl; cases hl
    have hne' : m ≠ [] := fun e => by rw [e] at hm; cases hm
    rw [← List.dropLast_concat_getLast hne, ← List.dropLast_concat_getLast hne', beV_snoc, beV_snoc] at h
    have h1 := byte_lt (l.getLast hne)
    have h2 := byte_lt (m.getLast hne')
    have h3 : (l.getLast hne).toNat = (m.getLast hne').toNat := by omega
    have h4 : beV l.dropLast = beV m.dropLast := by omega
    rw [← List.dropLast_concat_getLast hne, ← List.dropLast_concat_getLast hne', beV_inj' n (by simp [hl]) (by simp [hm]) h4, UInt8.toNat_inj.1 h3]
theorem frame_iff {b : List UInt8} {N : Nat} (h : b.length = N + 4) : frame (b.take N) = b ↔ beV (b.drop N) = crc (b.take N) := by
  have hd : (b.drop N).length = 4 := by simp; omega
  have e : b = b.take N ++ b.drop N := (List.take_append_drop N b).symm
  unfold frame
  constructor
  · intro hh
    have h1 : be4 (crc (b.take N)) = b.drop N := by
      conv at hh => rhs; rw [e]
      exact List.append_cancel_left hh
    rw [← h1, beV_be4 _ (crc_lt _)]
  · intro hh
    rw [← hh]
    have h1 : be4 (beV (b.drop N)) = b.drop N := beV_inj' 4 rfl hd (beV_be4 _ (beV_lt 4 _ hd))
    rw [h1]
    exact e.symm
theorem framed_ref (b : List UInt8) (first : UInt8) (a : Nat) (hb : b.length ≤ 1000000000) (h9 : a ≤ 8) : provisoref24_framed b first (a : Int) = some (faultS b first (a + 1)) := by
  unfold provisoref24_framed faultS
  cases b with
  | nil => simp
  | cons x0 t =>
    rw [if_neg (by simp; omega), show idx (x0 :: t) 0 = (x0 :: t)[0]? from idx_nat (i := 0)]
    generalize hbl : x0 :: t = b at hb
    have h0 : b[0]? = some x0 := by rw [← hbl]; rfl
    rw [h0]
    simp only [Option.bind_some]
    by_cases hx : x0 = first
    · rw [if_neg (show ¬ ((x0.toNat : Int) != (first.toNat : Int)) = true by simp [hx]), if_neg (show ¬ (x0 ≠ first) by simp [hx])]
      by_cases hl : b.length < a + 1
      · rw [if_pos (by simp; omega), if_pos hl]
      · rw [if_neg (by simp; omega), if_neg hl, idx_nat, Nat.add_sub_cancel]
        have hlt : a < b.length := by omega
        rw [List.getElem?_eq_getElem hlt]
        simp only [Option.bind_some]
        generalize b[a] = y
        have hy := byte_lt y
        have e1 : wr (wr (wr ((a : Int) + 1) + (y.toNat : Int)) + 4) = ((a + 1 + y.toNat + 4 : Nat) : Int) := by
          rw [wr_id (n := (a : Int) + 1) (by omega) (by omega), wr_id (n := (a : Int) + 1 + (y.toNat : Int)) (by omega) (by omega), wr_id (by omega) (by omega)]; omega
        rw [e1]
        by_cases h2 : b.length < a + 1 + y.toNat + 4
        · rw [if_pos (by simp; omega), if_pos h2]
        · rw [if_neg (by simp; omega), if_neg h2]
          by_cases h3 : b.length > a + 1 + y.toNat + 4
          · rw [if_pos (by simp; omega), if_pos h3]
          · rw [if_neg (by simp; omega), if_neg h3]
            have hlen : b.length = a + 1 + y.toNat + 4 := by omega
            have e2 : wr (((a + 1 + y.toNat + 4 : Nat) : Int) - 4) = ((a + 1 + y.toNat : Nat) : Int) := by rw [wr_id (by omega) (by omega)]; omega
            rw [e2, cut_ok (by omega)]
            simp only [Option.bind_some, Int.toNat_natCast, Int.toNat_zero, List.drop_zero]
            rw [summed_law _ (by simp; omega), Option.bind_some]
            have hiff := frame_iff (b := b) (N := a + 1 + y.toNat) hlen
            by_cases h4 : beV (b.drop (a + 1 + y.toNat)) = crc (b.take (a + 1 + y.toNat))
            · rw [if_neg (by rw [hiff.2 h4]; simp), if_neg (by simpa using h4)]
            · rw [if_pos (by simp only [bne_iff_ne, ne_eq]; exact fun hh => h4 (hiff.1 hh)), if_pos h4]
    · have hx' : ((x0.toNat : Int) != (first.toNat : Int)) = true := by
        simp only [bne_iff_ne, ne_eq, Int.natCast_inj]
        exact fun e => hx (UInt8.toNat_inj.1 e)
      rw [if_pos hx', if_pos hx]
theorem word_of {x y : UInt8} : wr (wr (256 * (x.toNat : Int)) + (y.toNat : Int)) = 256 * (x.toNat : Int) + (y.toNat : Int) := by
  have := byte_lt x
  have := byte_lt y
  rw [wr_id (n := 256 * (x.toNat : Int)) (by omega) (by omega), wr_id (by omega) (by omega)]
theorem data_of {b : List UInt8} {hd : Nat} {y : UInt8} (hb : b.length ≤ 1000000000) (hl : b.length = hd + y.toNat + 4) : cutL b (hd : Int) (wr ((b.length : Int) - 4)) = some ((b.drop hd).take y.toNat) := by
  rw [show wr ((b.length : Int) - 4) = ((hd + y.toNat : Nat) : Int) by rw [wr_id (by omega) (by omega)]; omega, cut_ok (by omega), Int.toNat_natCast, Int.toNat_natCast, List.drop_take, Nat.add_sub_cancel_left]
theorem unpack_ref (b : List UInt8) (hb : b.length ≤ 1000000000) : provisoref24_Unpack b = some (unpacked b) := by
  unfold provisoref24_Unpack unpacked
  rw [show (4 : Int) = ((4 : Nat) : Int) from rfl, framed_ref b 80 4 hb (by decide), Option.bind_some]
  by_cases hf : faultS b 80 5 = 0
  · rw [if_neg (by simp [hf]), if_pos hf]
    obtain ⟨_, y, hy, hl, _⟩ := fault_zero hf
    obtain ⟨x1, h1, g1⟩ := getB_at (b := b) (i := 1) (by omega)
    obtain ⟨x2, h2, g2⟩ := getB_at (b := b) (i := 2) (by omega)
    obtain ⟨x3, h3, g3⟩ := getB_at (b := b) (i := 3) (by omega)
    have g4 : getB b 4 = (y.toNat : Int) := by simp only [getB]; rw [show b[4]? = some y from hy]; rfl
    rw [show idx b 1 = b[1]? from idx_nat (i := 1), h1, Option.bind_some, show idx b 2 = b[2]? from idx_nat (i := 2), h2, Option.bind_some, show idx b 3 = b[3]? from idx_nat (i := 3), h3, Option.bind_some]
    rw [show cutL b 5 (wr ((b.length : Int) - ((4 : Nat) : Int))) = some ((b.drop 5).take y.toNat) from data_of (hd := 5) hb hl, Option.bind_some]
    rw [app_ok (by simp; omega), Option.bind_some, List.nil_append, word_of, g1, g2, g3, g4, Int.toNat_natCast]
  · rw [if_pos (by simpa using hf), if_neg hf]
theorem heard_ref (b : List UInt8) (hb : b.length ≤ 1000000000) : provisoref24_Heard b = some (heardS b) := by
  unfold provisoref24_Heard heardS
  rw [show (3 : Int) = ((3 : Nat) : Int) from rfl, framed_ref b 112 3 hb (by decide), Option.bind_some]
  by_cases hf : faultS b 112 4 = 0
  · rw [if_neg (by simp [hf]), if_pos hf]
    obtain ⟨_, y, hy, hl, _⟩ := fault_zero hf
    obtain ⟨x2, h2, g2⟩ := getB_at (b := b) (i := 1) (by omega)
    obtain ⟨x3, h3, g3⟩ := getB_at (b := b) (i := 2) (by omega)
    have g4 : getB b 3 = (y.toNat : Int) := by simp only [getB]; rw [show b[3]? = some y from hy]; rfl
    rw [show idx b 1 = b[1]? from idx_nat (i := 1), h2, Option.bind_some, show idx b 2 = b[2]? from idx_nat (i := 2), h3, Option.bind_some]
    rw [show cutL b 4 (wr ((b.length : Int) - 4)) = some ((b.drop 4).take y.toNat) from data_of (hd := 4) hb hl, Option.bind_some]
    rw [app_ok (by simp; omega), Option.bind_some, List.nil_append, word_of, g2, g3, g4, Int.toNat_natCast]
  · rw [if_pos (by simpa using hf), if_neg hf]
theorem mark_loop (q : S_api_Request × Int) (hq : q.1.Data.length ≤ 1000000000) : ∃ o, loopO (provisolaw24_TalkReads_b0 q) (q.1.Data, 0) = some o := by
  have := loopO_list (List.range q.1.Data.length) (body := provisolaw24_TalkReads_b0 q) (fun (s : {l : List UInt8 // l.length = q.1.Data.length}) i => (s.1, (i : Int))) (fun s i => ⟨s.1.set i 255, by rw [List.length_set]; exact s.2⟩) (fun s => s.1)
    (fun s i x hx => by
      have hi : i < q.1.Data.length := by have := (List.getElem?_eq_some_iff.1 hx).1; simpa using this
      have hxi : x = i := by rw [List.getElem?_range hi] at hx; cases hx; rfl
      subst hxi
      unfold provisolaw24_TalkReads_b0
      simp only
      rw [if_pos (by simpa using hi), idx_nat, List.getElem?_eq_getElem (by rw [s.2]; exact hi), Option.bind_some, Int.toNat_natCast, show wr ((x : Int) + 1) = ((x + 1 : Nat) : Int) by rw [wr_id] <;> omega])
    (fun s => by unfold provisolaw24_TalkReads_b0; simp) ⟨q.1.Data, rfl⟩
  exact ⟨_, this⟩
theorem unpacked_len (b : List UInt8) : (unpacked b).1.Data.length ≤ b.length := by
  unfold unpacked
  split
  · simp; omega
  · simp
theorem heard_len (b : List UInt8) : (heardS b).1.Data.length ≤ b.length := by
  unfold heardS
  split
  · simp; omega
  · simp
theorem TalkReads_law (b : List UInt8) (hb : b.length ≤ 1000000000) : provisolaw24_TalkReads b = some true := by
  have hu := unpacked_len b
  have hh := heard_len b
  have hb' : b.length ≤ 1000000000 := by omega
  obtain ⟨o, ho⟩ := mark_loop (unpacked b) (by omega)
  unfold provisolaw24_TalkReads
  rw [roomy_law _ hb', Option.bind_some]
  dsimp only
  rw [unpack_law _ hb', Option.bind_some, unpack_ref _ hb', Option.bind_some, if_neg (by simp)]
  rw [show (⟨(unpacked b).1.Command, (unpacked b).1.Number, (unpacked b).1.Data⟩ : S_api_Request) = (unpacked b).1 from rfl, sameReq_law _ (by omega), Option.bind_some, if_neg (by decide), ho, Option.bind_some]
  rw [heard_law _ hb', Option.bind_some, heard_ref _ hb', Option.bind_some, if_pos (by simp)]
  rw [show (⟨(heardS b).1.Status, (heardS b).1.Data⟩ : S_api_Answer) = (heardS b).1 from rfl, sameAns_law _ (by omega), Option.bind_some, if_pos (by rfl), untouched_law _ hb']
  rfl
end Go.Proofs.Ytpcdphfneidalaa
