/- Plain laws of the talk seat's functions: frames. -/
import Derived.Test.YtpcdphfneidalaaLwb
set_option linter.unusedVariables false
set_option linter.unusedSimpArgs false
namespace Go.Proofs.Ytpcdphfneidalaa
open Go Go.RowKit Go.Pv

theorem toU8_congr {a b : Int} (h : a % 256 = b % 256) : toU8 a = toU8 b := by unfold toU8; rw [h]
theorem round_law (n : Int) (k i : Nat) (l : List UInt8) (hi : i < k) (hk : k ≤ 4) (hl : l.length = 4) :
    wire_Writer_number_b0 n (k : Int) (l, (i : Int)) = some (.inl (l.set i (toU8 ((n % 4294967296) / 2 ^ (8 * (k - 1 - i)))), ((i + 1 : Nat) : Int))) := by
  unfold wire_Writer_number_b0
  simp only
  have e1 : wr (8 * wr (wr ((k : Int) - 1) - (i : Int))) = ((8 * (k - 1 - i) : Nat) : Int) := by
    rw [wr_id (n := (k : Int) - 1) (by omega) (by omega), wr_id (n := (k : Int) - 1 - i) (by omega) (by omega), wr_id (by omega) (by omega)]
    omega
  rw [if_pos (by simpa using hi), e1, if_neg (by simp; omega), idx_nat, List.getElem?_eq_getElem (by omega)]
  simp only [Option.bind_some, Int.toNat_natCast]
  rw [show wr ((i : Int) + 1) = ((i + 1 : Nat) : Int) by rw [wr_id] <;> omega]
  have h0 : 0 ≤ n % 4294967296 := Int.emod_nonneg _ (by decide)
  have e2 : IntKind.u32.wrap n = ((n % 4294967296).toNat : Int) := by rw [wrapU32]; omega
  rw [e2, sShr32 (by omega)]
  congr 4
  rw [Int.natCast_ediv, Int.toNat_of_nonneg h0]
  simp
theorem stop_law (n : Int) (k : Nat) (l : List UInt8) : wire_Writer_number_b0 n (k : Int) (l, (k : Int)) = some (.inr l) := by
  unfold wire_Writer_number_b0
  simp
theorem put_law (b m : List UInt8) (h : b.length + m.length ≤ 1048576) : wire_Writer_put ⟨b, true⟩ m = some (0, ⟨b ++ m, true⟩) := by
  unfold wire_Writer_put
  simp only
  rw [wr_id (n := 1048576 - (b.length : Int)) (by omega) (by omega), if_neg (by simp; omega), app_ok (by omega)]
  rfl
theorem byte_law (b : List UInt8) (n : Int) (h0 : 0 ≤ n) (h1 : n ≤ 255) (h : b.length + 1 ≤ 1048576) : wire_Writer_Byte ⟨b, true⟩ n = some (0, ⟨b ++ [toU8 n], true⟩) := by
  unfold wire_Writer_Byte wire_Writer_number wire_Writer_ready
  simp only [Option.bind_some, Bool.not_true]
  rw [if_neg (by decide), if_neg (by simp; omega), if_neg (by simp; omega)]
  rw [show (1 : Int) = ((1 : Nat) : Int) from rfl, show ((List.replicate 4 (0 : UInt8)), (0 : Int)) = (List.replicate 4 (0 : UInt8), ((0 : Nat) : Int)) from rfl]
  rw [loopO_step (round_law n 1 0 _ (by decide) (by decide) (by simp)), loopO_stop (stop_law n 1 _)]
  simp only [Option.bind_some]
  rw [cut_ok (by simp)]
  simp only [Option.bind_some]
  rw [show toU8 (n % 4294967296 / 2 ^ (8 * (1 - 1 - 0))) = toU8 n from toU8_congr (by simp <;> omega)]
  rw [show (List.drop (Int.toNat 0) (List.take (Int.toNat ((1 : Nat) : Int)) ((List.replicate 4 (0 : UInt8)).set 0 (toU8 n)))) = [toU8 n] from rfl]
  rw [put_law _ _ (by simpa using h)]
  rfl
theorem word_law (b : List UInt8) (n : Int) (h0 : 0 ≤ n) (h1 : n ≤ 65535) (h : b.length + 2 ≤ 1048576) : wire_Writer_Word ⟨b, true⟩ n = some (0, ⟨b ++ [toU8 (n / 256), toU8 n], true⟩) := by
  unfold wire_Writer_Word wire_Writer_number wire_Writer_ready
  simp only [Option.bind_some, Bool.not_true]
  rw [if_neg (by decide), if_neg (by simp; omega), if_neg (by simp; omega)]
  rw [show (2 : Int) = ((2 : Nat) : Int) from rfl, show ((List.replicate 4 (0 : UInt8)), (0 : Int)) = (List.replicate 4 (0 : UInt8), ((0 : Nat) : Int)) from rfl]
  rw [loopO_step (round_law n 2 0 _ (by decide) (by decide) (by simp)), loopO_step (round_law n 2 1 _ (by decide) (by decide) (by simp)), loopO_stop (stop_law n 2 _)]
  simp only [Option.bind_some]
  rw [cut_ok (by simp)]
  simp only [Option.bind_some]
  rw [show toU8 (n % 4294967296 / 2 ^ (8 * (2 - 1 - 0))) = toU8 (n / 256) from toU8_congr (by simp <;> omega), show toU8 (n % 4294967296 / 2 ^ (8 * (2 - 1 - 1))) = toU8 n from toU8_congr (by simp <;> omega)]
  rw [show (List.drop (Int.toNat 0) (List.take (Int.toNat ((2 : Nat) : Int)) (((List.replicate 4 (0 : UInt8)).set 0 (toU8 (n / 256))).set 1 (toU8 n)))) = [toU8 (n / 256), toU8 n] from rfl]
  rw [put_law _ _ (by simpa using h)]
  rfl
def be4 (c : Nat) : List UInt8 := [toU8 ((c : Int) / 16777216), toU8 ((c : Int) / 65536), toU8 ((c : Int) / 256), toU8 (c : Int)]
theorem long_law (b : List UInt8) (c : Nat) (hc : c < 4294967296) (h : b.length + 4 ≤ 1048576) : wire_Writer_Long ⟨b, true⟩ (wr (IntKind.i32.wrap (c : Int))) = some (0, ⟨b ++ be4 c, true⟩) := by
  have hw : ∃ n : Int, wr (IntKind.i32.wrap (c : Int)) = n ∧ -2147483648 ≤ n ∧ n ≤ 2147483647 ∧ n % 4294967296 = c := by
    refine ⟨_, rfl, ?_⟩
    have e : IntKind.i32.wrap (c : Int) = if (c : Int) < 2147483648 then (c : Int) else (c : Int) - 4294967296 := by
      simp [IntKind.wrap, IntKind.signed, IntKind.bits]
      split <;> split <;> omega
    rw [e]
    split <;> (rw [wr_id (by omega) (by omega)]; omega)
  obtain ⟨n, hn, h0, h1, h2⟩ := hw
  rw [hn]
  unfold wire_Writer_Long wire_Writer_number wire_Writer_ready
  simp only [Option.bind_some, Bool.not_true]
  rw [if_neg (by decide), if_neg (by simp; omega), if_neg (by simp; omega)]
  rw [show (4 : Int) = ((4 : Nat) : Int) from rfl, show ((List.replicate 4 (0 : UInt8)), (0 : Int)) = (List.replicate 4 (0 : UInt8), ((0 : Nat) : Int)) from rfl]
  rw [loopO_step (round_law n 4 0 _ (by decide) (by decide) (by simp)), loopO_step (round_law n 4 1 _ (by decide) (by decide) (by simp)), loopO_step (round_law n 4 2 _ (by decide) (by decide) (by simp)), loopO_step (round_law n 4 3 _ (by decide) (by decide) (by simp)), loopO_stop (stop_law n 4 _)]
  simp only [Option.bind_some, h2]
  rw [cut_ok (by simp)]
  simp only [Option.bind_some]
  rw [show toU8 ((c : Int) / 2 ^ (8 * (4 - 1 - 0))) = toU8 ((c : Int) / 16777216) from rfl, show toU8 ((c : Int) / 2 ^ (8 * (4 - 1 - 1))) = toU8 ((c : Int) / 65536) from rfl, show toU8 ((c : Int) / 2 ^ (8 * (4 - 1 - 2))) = toU8 ((c : Int) / 256) from rfl, show toU8 ((c : Int) / 2 ^ (8 * (4 - 1 - 3))) = toU8 (c : Int) from toU8_congr (by simp)]
  rw [show (List.drop (Int.toNat 0) (List.take (Int.toNat ((4 : Nat) : Int)) (((((List.replicate 4 (0 : UInt8)).set 0 (toU8 ((c : Int) / 16777216))).set 1 (toU8 ((c : Int) / 65536))).set 2 (toU8 ((c : Int) / 256))).set 3 (toU8 (c : Int))))) = be4 c from rfl]
  rw [put_law _ _ (by simpa [be4] using h)]
  rfl
theorem mk_ok (n : Nat) (h : n ≤ 1000000000) : mkO 1 (n : Int) (0 : UInt8) = some (List.replicate n 0) := by
  unfold mkO
  rw [if_pos (by omega)]
  simp
theorem cp_full (l : List UInt8) : cpL (List.replicate l.length 0) l = l := by
  unfold cpL
  simp
theorem bytes_law (b : List UInt8) (h : b.length ≤ 1000000000) : wire_Writer_Bytes ⟨b, true⟩ = some b := by
  unfold wire_Writer_Bytes wire_Writer_ready
  simp only [Option.bind_some, Bool.not_true]
  rw [if_neg (by decide), mk_ok _ h]
  simp only [Option.bind_some]
  rw [cp_full]
def frame (l : List UInt8) : List UInt8 := l ++ be4 (crc l)
theorem be4_len (c : Nat) : (be4 c).length = 4 := rfl
theorem framed_law (b : List UInt8) (h : b.length + 4 ≤ 1048576) : talk_framed ⟨b, true⟩ = some (frame b, ⟨frame b, true⟩) := by
  unfold talk_framed
  simp only
  rw [bytes_law b (by omega)]
  simp only [Option.bind_some]
  rw [sum_law b (by omega)]
  simp only [Option.bind_some]
  rw [long_law b _ (crc_lt b) h]
  simp only [Option.bind_some]
  rw [bytes_law _ (by simp [be4_len]; omega)]
  rfl
theorem framed_end (b : List UInt8) (h : b.length + 4 ≤ 1048576) : (talk_framed ⟨b, true⟩).bind (fun x => some (x.1, (0 : Int))) = some (frame b, 0) := by
  rw [framed_law b h, Option.bind_some]
theorem summed_law (b : List UInt8) (h : b.length ≤ 1000000000) : provisoref16_Summed b = some (frame b) := by
  unfold provisoref16_Summed
  rw [ref_sum b h]
  simp only [Option.bind_some]
  rw [app_ok (by simp; omega)]
  simp only [Option.bind_some, List.nil_append]
  rw [app_ok (by simp; omega)]
  have hc := crc_lt b
  have t1 : ∀ d : Nat, 0 < d → toU8 (Int.tmod (IntKind.i64.wrap (Int.tdiv ((crc b : Nat) : Int) (d : Int))) 256) = toU8 (((crc b : Nat) : Int) / d) := fun d hd => by
    have h1 : Int.tdiv ((crc b : Nat) : Int) (d : Int) = (((crc b / d : Nat)) : Int) := by rw [Int.tdiv_eq_ediv_of_nonneg (by omega)]; simp
    have h2 : crc b / d ≤ crc b := Nat.div_le_self _ _
    have h3 : ((crc b : Nat) : Int) / (d : Int) = ((crc b / d : Nat) : Int) := by simp
    rw [h1, h3]
    generalize crc b / d = q at h2
    rw [show IntKind.i64.wrap ((q : Nat) : Int) = ((q : Nat) : Int) from wr_nat (by omega), Int.tmod_eq_emod_of_nonneg (by omega)]
    exact toU8_congr (by rw [Int.emod_emod_of_dvd _ (by decide)])
  have t0 : toU8 (Int.tmod ((crc b : Nat) : Int) 256) = toU8 ((crc b : Nat) : Int) := by
    rw [Int.tmod_eq_emod_of_nonneg (by omega)]
    exact toU8_congr (by rw [Int.emod_emod_of_dvd _ (by decide)])
  have a1 : toU8 (Int.tmod (IntKind.i64.wrap (Int.tdiv ((crc b : Nat) : Int) 16777216)) 256) = toU8 (((crc b : Nat) : Int) / 16777216) := t1 16777216 (by decide)
  have a2 : toU8 (Int.tmod (IntKind.i64.wrap (Int.tdiv ((crc b : Nat) : Int) 65536)) 256) = toU8 (((crc b : Nat) : Int) / 65536) := t1 65536 (by decide)
  have a3 : toU8 (Int.tmod (IntKind.i64.wrap (Int.tdiv ((crc b : Nat) : Int) 256)) 256) = toU8 (((crc b : Nat) : Int) / 256) := t1 256 (by decide)
  rw [a1, a2, a3, t0]
  rfl

/-! ### Requests and answers -/
def reqBody (r : S_api_Request) : List UInt8 := [80, toU8 r.Command, toU8 (r.Number / 256), toU8 r.Number, toU8 (r.Data.length : Int)] ++ r.Data
def ansBody (a : S_api_Answer) : List UInt8 := [112, toU8 (a.Status / 256), toU8 a.Status, toU8 (a.Data.length : Int)] ++ a.Data
def packed (r : S_api_Request) : List UInt8 × Int :=
  if 0 ≤ r.Command ∧ r.Command ≤ 255 ∧ 0 ≤ r.Number ∧ r.Number ≤ 65535 then (if r.Data.length ≤ 255 then (frame (reqBody r), 0) else ([], 4)) else ([], 5)
def answered (a : S_api_Answer) : List UInt8 × Int :=
  if 0 ≤ a.Status ∧ a.Status ≤ 65535 then (if a.Data.length ≤ 255 then (frame (ansBody a), 0) else ([], 4)) else ([], 5)
theorem c80 : toU8 80 = 80 := by decide
theorem c112 : toU8 112 = 112 := by decide
theorem small_law (n m : Int) : talk_small n m = some (decide (0 ≤ n ∧ n ≤ m)) := by
  unfold talk_small
  by_cases h : n ≥ 0
  · rw [if_pos (by simpa using h)]
    have h' : 0 ≤ n := h
    simp [h']
  · rw [if_neg (by simpa using h)]
    simp
    omega
theorem pack_law (r : S_api_Request) : talk_Pack r = some (packed r) := by
  obtain ⟨c, n, d⟩ := r
  unfold talk_Pack packed
  simp only [small_law, Option.bind_some]
  by_cases h1 : 0 ≤ c ∧ c ≤ 255
  · rw [if_neg (by simp [h1])]
    by_cases h2 : 0 ≤ n ∧ n ≤ 65535
    · rw [if_neg (by simp [h2]), if_pos (show 0 ≤ c ∧ c ≤ 255 ∧ 0 ≤ n ∧ n ≤ 65535 from ⟨h1.1, h1.2, h2.1, h2.2⟩)]
      by_cases h3 : d.length ≤ 255
      · rw [if_neg (by simp; omega), if_pos h3]
        unfold wire_New
        simp only [Option.bind_some]
        rw [byte_law [] 80 (by decide) (by decide) (by simp)]
        simp only [Option.bind_some]
        rw [byte_law _ c h1.1 h1.2 (by simp)]
        simp only [Option.bind_some]
        rw [word_law _ n h2.1 h2.2 (by simp)]
        simp only [Option.bind_some]
        rw [byte_law _ (d.length : Int) (by omega) (by omega) (by simp)]
        simp only [Option.bind_some]
        unfold wire_Writer_Put wire_Writer_ready
        simp only [Option.bind_some, Bool.not_true]
        rw [if_neg (by decide), put_law _ _ (by simp; omega)]
        rw [Option.bind_some, Option.bind_some]
        refine (framed_end _ (by simp only [List.length_append, List.length_cons, List.length_nil]; omega)).trans ?_
        simp only [reqBody, c80, List.append_assoc, List.cons_append, List.nil_append]
      · rw [if_pos (by simp; omega), if_neg h3]
    · rw [if_pos (by simp; omega), if_neg (show ¬ (0 ≤ c ∧ c ≤ 255 ∧ 0 ≤ n ∧ n ≤ 65535) by omega)]
  · rw [if_pos (by simp; omega), if_neg (show ¬ (0 ≤ c ∧ c ≤ 255 ∧ 0 ≤ n ∧ n ≤ 65535) by omega)]
theorem word_ref (b : List UInt8) (n : Int) (h0 : 0 ≤ n) (h1 : n ≤ 65535) (hb : b.length ≤ 1000000000) : provisoref24_word b n = some (b ++ [toU8 (n / 256), toU8 n]) := by
  unfold provisoref24_word
  rw [app_ok (by simp; omega)]
  have e1 : IntKind.i64.wrap (Int.tdiv n 256) = n / 256 := by rw [Int.tdiv_eq_ediv_of_nonneg h0]; exact wr_id (by omega) (by omega)
  have e2 : toU8 (Int.tmod n 256) = toU8 n := toU8_congr (by rw [Int.tmod_eq_emod_of_nonneg h0]; omega)
  rw [e1, e2]
  simp only [Option.bind_some]
theorem pack_ref (r : S_api_Request) : provisoref24_Pack r = some (packed r) := by
  obtain ⟨c, n, d⟩ := r
  unfold provisoref24_Pack packed
  simp only
  by_cases h1 : 0 ≤ c
  · rw [if_neg (by simp; omega)]
    by_cases h1' : c ≤ 255
    · rw [if_neg (by simp; omega)]
      by_cases h2 : 0 ≤ n
      · rw [if_neg (by simp; omega)]
        by_cases h2' : n ≤ 65535
        · rw [if_neg (by simp; omega), if_pos (show 0 ≤ c ∧ c ≤ 255 ∧ 0 ≤ n ∧ n ≤ 65535 from ⟨h1, h1', h2, h2'⟩)]
          by_cases h3 : d.length ≤ 255
          · rw [if_neg (by simp; omega), if_pos h3, word_ref _ n h2 h2' (by simp)]
            simp only [Option.bind_some]
            rw [app_ok (by simp)]
            simp only [Option.bind_some]
            rw [app_ok (by simp; omega)]
            simp only [Option.bind_some]
            rw [summed_law _ (by simp; omega)]
            simp only [Option.bind_some]
            simp only [reqBody, List.append_assoc, List.cons_append, List.nil_append]
          · rw [if_pos (by simp; omega), if_neg h3]
        · rw [if_pos (by simp; omega), if_neg (show ¬ (0 ≤ c ∧ c ≤ 255 ∧ 0 ≤ n ∧ n ≤ 65535) by omega)]
      · rw [if_pos (by simp; omega), if_neg (show ¬ (0 ≤ c ∧ c ≤ 255 ∧ 0 ≤ n ∧ n ≤ 65535) by omega)]
    · rw [if_pos (by simp; omega), if_neg (show ¬ (0 ≤ c ∧ c ≤ 255 ∧ 0 ≤ n ∧ n ≤ 65535) by omega)]
  · rw [if_pos (by simp; omega), if_neg (show ¬ (0 ≤ c ∧ c ≤ 255 ∧ 0 ≤ n ∧ n ≤ 65535) by omega)]
theorem told_law (a : S_api_Answer) : talk_Told a = some (answered a) := by
  obtain ⟨n, d⟩ := a
  unfold talk_Told answered
  simp only [small_law, Option.bind_some]
  by_cases h2 : 0 ≤ n ∧ n ≤ 65535
  · rw [if_neg (by simp [h2]), if_pos h2]
    by_cases h3 : d.length ≤ 255
    · rw [if_neg (by simp; omega), if_pos h3]
      unfold wire_New
      simp only [Option.bind_some]
      rw [byte_law [] 112 (by decide) (by decide) (by simp)]
      simp only [Option.bind_some]
      rw [word_law _ n h2.1 h2.2 (by simp)]
      simp only [Option.bind_some]
      rw [byte_law _ (d.length : Int) (by omega) (by omega) (by simp)]
      simp only [Option.bind_some]
      unfold wire_Writer_Put wire_Writer_ready
      simp only [Option.bind_some, Bool.not_true]
      rw [if_neg (by decide), put_law _ _ (by simp; omega)]
      rw [Option.bind_some, Option.bind_some]
      refine (framed_end _ (by simp only [List.length_append, List.length_cons, List.length_nil]; omega)).trans ?_
      simp only [ansBody, c112, List.append_assoc, List.cons_append, List.nil_append]
    · rw [if_pos (by simp; omega), if_neg h3]
  · rw [if_pos (by simp; omega), if_neg h2]
theorem answered_ref (a : S_api_Answer) : provisoref24_Answered a = some (answered a) := by
  obtain ⟨n, d⟩ := a
  unfold provisoref24_Answered answered
  simp only
  by_cases h2 : 0 ≤ n
  · rw [if_neg (by simp; omega)]
    by_cases h2' : n ≤ 65535
    · rw [if_neg (by simp; omega), if_pos (show 0 ≤ n ∧ n ≤ 65535 from ⟨h2, h2'⟩)]
      by_cases h3 : d.length ≤ 255
      · rw [if_neg (by simp; omega), if_pos h3, word_ref _ n h2 h2' (by simp)]
        simp only [Option.bind_some]
        rw [app_ok (by simp)]
        simp only [Option.bind_some]
        rw [app_ok (by simp; omega)]
        simp only [Option.bind_some]
        rw [summed_law _ (by simp; omega)]
        simp only [Option.bind_some]
        simp only [ansBody, List.append_assoc, List.cons_append, List.nil_append]
      · rw [if_pos (by simp; omega), if_neg h3]
    · rw [if_pos (by simp; omega), if_neg (show ¬ (0 ≤ n ∧ n ≤ 65535) by omega)]
  · rw [if_pos (by simp; omega), if_neg (show ¬ (0 ≤ n ∧ n ≤ 65535) by omega)]
theorem packed_len (r : S_api_Request) : (packed r).1.length ≤ 1000 := by
  unfold packed frame reqBody
  split
  · split
    · simp [be4_len]; omega
    · simp
  · simp
theorem answered_len (a : S_api_Answer) : (answered a).1.length ≤ 1000 := by
  unfold answered frame ansBody
  split
  · split
    · simp [be4_len]; omega
    · simp
  · simp
theorem TalkFrames_law (r : S_api_Request) (a : S_api_Answer) (hr : r.Data.length ≤ 1000000000) (ha : a.Data.length ≤ 1000000000) : provisolaw24_TalkFrames r a = some true := by
  have h1 := packed_len r
  have h2 := answered_len a
  obtain ⟨rc, rn, rd⟩ := r
  obtain ⟨an, ad⟩ := a
  simp only at hr ha
  unfold provisolaw24_TalkFrames
  simp only
  rw [roomy_law _ hr]
  simp only [Option.bind_some, pack_law, pack_ref]
  rw [if_neg (by simp), equal_law _ _ (by omega)]
  simp only [Option.bind_some]
  rw [if_neg (by simp), untouched_law _ hr]
  simp only [Option.bind_some]
  rw [if_neg (by simp), roomy_law _ ha]
  simp only [Option.bind_some, told_law, answered_ref]
  rw [if_pos (by simp), equal_law _ _ (by omega)]
  simp only [Option.bind_some]
  rw [if_pos (by simp), untouched_law _ ha]
  rfl
end Go.Proofs.Ytpcdphfneidalaa
