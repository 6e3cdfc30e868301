/- Plain law: what was packed is unpacked; what was told is heard. -/
import Derived.Test.YtpcdphfneidalaaLwd
set_option linter.unusedVariables false
set_option linter.unusedSimpArgs false
namespace Go.Proofs.Ytpcdphfneidalaa
open Go Go.RowKit Go.Pv

theorem toU8_small {n : Int} (h0 : 0 ≤ n) (h1 : n ≤ 255) : ((toU8 n).toNat : Int) = n := by
  have := toU8_toNat n
  omega
/-- A frame put together is one that nothing is wrong with. -/
theorem frame_ok {first : UInt8} {hd : Nat} {l : List UInt8} {y : UInt8} (h0 : l[0]? = some first) (hy : l[hd - 1]? = some y) (hl : l.length = hd + y.toNat) : faultS (frame l) first hd = 0 := by
  have hlt := (List.getElem?_eq_some_iff.1 hy).1
  have hlt0 := (List.getElem?_eq_some_iff.1 h0).1
  refine fault_ok (y := y) ?_ ?_ ?_ ?_
  · unfold frame
    rw [List.getElem?_append_left hlt0]; exact h0
  · unfold frame
    rw [List.getElem?_append_left hlt]; exact hy
  · simp [frame, be4_len, hl]
  · unfold frame
    rw [← hl, List.drop_left, List.take_left, beV_be4 _ (crc_lt l)]
theorem req_ok (r : S_api_Request) (hc : 0 ≤ r.Command ∧ r.Command ≤ 255) (hn : 0 ≤ r.Number ∧ r.Number ≤ 65535) (hd : r.Data.length ≤ 255) : faultS (frame (reqBody r)) 80 5 = 0 := by
  have h := toU8_small (n := (r.Data.length : Int)) (by omega) (by omega)
  exact frame_ok (y := toU8 (r.Data.length : Int)) rfl rfl (by simp [reqBody]; omega)
theorem ans_ok (a : S_api_Answer) (hn : 0 ≤ a.Status ∧ a.Status ≤ 65535) (hd : a.Data.length ≤ 255) : faultS (frame (ansBody a)) 112 4 = 0 := by
  have h := toU8_small (n := (a.Data.length : Int)) (by omega) (by omega)
  exact frame_ok (y := toU8 (a.Data.length : Int)) rfl rfl (by simp [ansBody]; omega)
theorem word_back {n : Int} (h0 : 0 ≤ n) (h1 : n ≤ 65535) : 256 * ((toU8 (n / 256)).toNat : Int) + ((toU8 n).toNat : Int) = n := by
  have := toU8_toNat n
  have := toU8_toNat (n / 256)
  omega
theorem unpacked_frame (r : S_api_Request) (hc : 0 ≤ r.Command ∧ r.Command ≤ 255) (hn : 0 ≤ r.Number ∧ r.Number ≤ 65535) (hd : r.Data.length ≤ 255) : unpacked (frame (reqBody r)) = (r, 0) := by
  unfold unpacked
  rw [if_pos (req_ok r hc hn hd)]
  obtain ⟨c, n, d⟩ := r
  simp only at hc hn hd
  have e1 : getB (frame (reqBody ⟨c, n, d⟩)) 1 = ((toU8 c).toNat : Int) := rfl
  have e2 : getB (frame (reqBody ⟨c, n, d⟩)) 2 = ((toU8 (n / 256)).toNat : Int) := rfl
  have e3 : getB (frame (reqBody ⟨c, n, d⟩)) 3 = ((toU8 n).toNat : Int) := rfl
  have e4 : getB (frame (reqBody ⟨c, n, d⟩)) 4 = ((toU8 (d.length : Int)).toNat : Int) := rfl
  have e5 : (frame (reqBody ⟨c, n, d⟩)).drop 5 = d ++ be4 (crc (reqBody ⟨c, n, d⟩)) := rfl
  rw [e1, e2, e3, e4, e5, word_back hn.1 hn.2, toU8_small hc.1 hc.2, toU8_small (by omega) (by omega), Int.toNat_natCast, List.take_left]
theorem heard_frame (a : S_api_Answer) (hn : 0 ≤ a.Status ∧ a.Status ≤ 65535) (hd : a.Data.length ≤ 255) : heardS (frame (ansBody a)) = (a, 0) := by
  unfold heardS
  rw [if_pos (ans_ok a hn hd)]
  obtain ⟨n, d⟩ := a
  simp only at hn hd
  have e2 : getB (frame (ansBody ⟨n, d⟩)) 1 = ((toU8 (n / 256)).toNat : Int) := rfl
  have e3 : getB (frame (ansBody ⟨n, d⟩)) 2 = ((toU8 n).toNat : Int) := rfl
  have e4 : getB (frame (ansBody ⟨n, d⟩)) 3 = ((toU8 (d.length : Int)).toNat : Int) := rfl
  have e5 : (frame (ansBody ⟨n, d⟩)).drop 4 = d ++ be4 (crc (ansBody ⟨n, d⟩)) := rfl
  rw [e2, e3, e4, e5, word_back hn.1 hn.2, toU8_small (by omega) (by omega), Int.toNat_natCast, List.take_left]
theorem may_law (r : S_api_Request) : provisolaw24_may r = some (decide (0 ≤ r.Command ∧ r.Command ≤ 255 ∧ 0 ≤ r.Number ∧ r.Number ≤ 65535 ∧ r.Data.length ≤ 255)) := by
  obtain ⟨c, n, d⟩ := r
  unfold provisolaw24_may
  simp only
  by_cases h1 : 0 ≤ c
  · rw [if_pos (by simp; omega)]
    by_cases h2 : c ≤ 255
    · rw [if_pos (by simp; omega)]
      by_cases h3 : 0 ≤ n
      · rw [if_pos (by simp; omega)]
        by_cases h4 : n ≤ 65535
        · rw [if_pos (by simp; omega)]
          congr 1
          exact decide_eq_decide.2 ⟨fun h => ⟨h1, h2, h3, h4, by omega⟩, fun h => by have := h.2.2.2.2; omega⟩
        · rw [if_neg (by simp; omega), decide_eq_false (by omega)]
      · rw [if_neg (by simp; omega), decide_eq_false (by omega)]
    · rw [if_neg (by simp; omega), decide_eq_false (by omega)]
  · rw [if_neg (by simp; omega), decide_eq_false (by omega)]
theorem awake_law : provisolaw24_awake = some true := by
  unfold provisolaw24_awake
  rw [pack_law]
  have e : packed ⟨1, 0, []⟩ = (frame (reqBody ⟨1, 0, []⟩), 0) := by
    unfold packed
    rw [if_pos (by decide), if_pos (by decide)]
  rw [e, Option.bind_some]
  have hl : (frame (reqBody ⟨1, 0, []⟩)).length = 9 := rfl
  rw [if_pos (by rfl), if_pos (by rw [hl]; rfl)]
  have h0 : idx (frame (reqBody ⟨1, 0, []⟩)) 0 = some 80 := idx_nat (i := 0)
  have h1 : idx (frame (reqBody ⟨1, 0, []⟩)) 1 = some (toU8 1) := idx_nat (i := 1)
  rw [h0, Option.bind_some, if_pos (by decide), h1, Option.bind_some]
  decide
theorem packed_ok {r : S_api_Request} (h : 0 ≤ r.Command ∧ r.Command ≤ 255 ∧ 0 ≤ r.Number ∧ r.Number ≤ 65535 ∧ r.Data.length ≤ 255) : packed r = (frame (reqBody r), 0) := by
  unfold packed
  rw [if_pos ⟨h.1, h.2.1, h.2.2.1, h.2.2.2.1⟩, if_pos h.2.2.2.2]
theorem answered_ok {a : S_api_Answer} (h : 0 ≤ a.Status ∧ a.Status ≤ 65535) (hd : a.Data.length ≤ 255) : answered a = (frame (ansBody a), 0) := by
  unfold answered
  rw [if_pos h, if_pos hd]
theorem frame_len (l : List UInt8) : (frame l).length = l.length + 4 := by simp [frame, be4_len]
theorem reqBody_len (r : S_api_Request) : (reqBody r).length = r.Data.length + 5 := by simp [reqBody]
theorem ansBody_len (a : S_api_Answer) : (ansBody a).length = a.Data.length + 4 := by simp [ansBody]
theorem sameReq_law (a : S_api_Request) (h : a.Data.length ≤ 1000000000) : provisolaw24_sameRequest a a = some true := by
  unfold provisolaw24_sameRequest
  rw [if_pos (by simp), if_pos (by simp), equal_law _ _ h, Option.bind_some]
  simp
theorem sameAns_law (a : S_api_Answer) (h : a.Data.length ≤ 1000000000) : provisolaw24_sameAnswer a a = some true := by
  unfold provisolaw24_sameAnswer
  rw [if_pos (by simp), equal_law _ _ h, Option.bind_some]
  simp
theorem TalkBack_law (r : S_api_Request) (s : Int) (hs : 0 ≤ s) : provisolaw24_TalkBack r s = some true := by
  obtain ⟨c, n, d⟩ := r
  unfold provisolaw24_TalkBack
  rw [may_law, Option.bind_some]
  by_cases hm : 0 ≤ c ∧ c ≤ 255 ∧ 0 ≤ n ∧ n ≤ 65535 ∧ d.length ≤ 255
  · rw [if_neg (by simpa using hm)]
    have hst : wr (Int.tmod s 65536) = s % 65536 := by
      rw [Int.tmod_eq_emod_of_nonneg hs]; exact wr_id (by omega) (by omega)
    have hs2 : 0 ≤ s % 65536 ∧ s % 65536 ≤ 65535 := by omega
    have hrl := frame_len (reqBody ⟨c, n, d⟩)
    have hrb := reqBody_len ⟨c, n, d⟩
    have hal := frame_len (ansBody ⟨s % 65536, d⟩)
    have hab := ansBody_len ⟨s % 65536, d⟩
    simp only at hrb hab
    have L1 : (frame (reqBody ⟨c, n, d⟩)).length ≤ 1000000000 := by omega
    have L2 : (frame (ansBody ⟨s % 65536, d⟩)).length ≤ 1000000000 := by omega
    have L3 : d.length ≤ 1000000000 := by omega
    rw [pack_law, packed_ok hm, Option.bind_some, unpack_law _ L1, unpacked_frame ⟨c, n, d⟩ ⟨hm.1, hm.2.1⟩ ⟨hm.2.2.1, hm.2.2.2.1⟩ hm.2.2.2.2, Option.bind_some, hst, told_law, answered_ok hs2 hm.2.2.2.2, Option.bind_some,
      heard_law _ L2, heard_frame ⟨s % 65536, d⟩ hs2 hm.2.2.2.2, Option.bind_some]
    rw [if_pos (by rfl), if_pos (by rfl), if_pos (by rfl), if_pos (by rfl), sameReq_law _ L3, Option.bind_some, if_pos (by rfl), sameAns_law _ L3, Option.bind_some]
  · rw [if_pos (by simp only [Bool.not_eq_true', decide_eq_false_iff_not]; exact hm), awake_law]
    rfl
end Go.Proofs.Ytpcdphfneidalaa
