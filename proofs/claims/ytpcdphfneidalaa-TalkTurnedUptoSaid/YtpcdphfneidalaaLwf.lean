/- Plain law: a frame with one byte that is another one is refused; each beginning is; what has more behind is. -/
import Derived.Test.YtpcdphfneidalaaLwe
set_option linter.unusedVariables false
set_option linter.unusedSimpArgs false
namespace Go.Proofs.Ytpcdphfneidalaa
open Go Go.RowKit Go.Pv

theorem stp_zero {a : Nat} (h : a < 4294967296) (hz : stp a = 0) : a = 0 := by
  unfold stp at hz
  split at hz
  · exfalso
    have h1 : a / 2 = 3988292384 := by
      have := congrArg (· ^^^ 3988292384) hz
      simpa [Nat.xor_assoc] using this
    omega
  · omega
theorem xor_zero_eq {a b : Nat} (h : a ^^^ b = 0) : a = b := by
  have h1 : (a ^^^ b) ^^^ b = a := by rw [Nat.xor_assoc, Nat.xor_self, Nat.xor_zero]
  rw [h, Nat.zero_xor] at h1
  exact h1.symm
theorem stp_inj {a b : Nat} (ha : a < 4294967296) (hb : b < 4294967296) (h : stp a = stp b) : a = b := by
  apply xor_zero_eq
  apply stp_zero (Nat.xor_lt_two_pow (n := 32) ha hb)
  rw [stp_xor, h, Nat.xor_self]
theorem rep_inj : ∀ (n : Nat) {a b : Nat}, a < 4294967296 → b < 4294967296 → rep stp n a = rep stp n b → a = b
  | 0, a, b, _, _, h => h
  | n + 1, a, b, ha, hb, h => stp_inj ha hb (rep_inj n (stp_lt ha) (stp_lt hb) h)
theorem xor_lt32 {c : Nat} {x : UInt8} (h : c < 4294967296) : c ^^^ x.toNat < 4294967296 := by
  have := byte_lt x
  exact Nat.xor_lt_two_pow (n := 32) h (by omega)
theorem crcRun_inj : ∀ (l : List UInt8) {a b : Nat}, a < 4294967296 → b < 4294967296 → crcRun l a = crcRun l b → a = b
  | [], a, b, _, _, h => h
  | x :: l, a, b, ha, hb, h => by
    have h1 := crcRun_inj l (crcStep_lt ha) (crcStep_lt hb) h
    have h2 := rep_inj 8 (xor_lt32 ha) (xor_lt32 hb) h1
    have h3 := congrArg (· ^^^ x.toNat) h2
    simpa [Nat.xor_assoc] using h3
theorem crcRun_append (l m : List UInt8) (c : Nat) : crcRun (l ++ m) c = crcRun m (crcRun l c) := by unfold crcRun; rw [List.foldl_append]
theorem crc_change (l m : List UInt8) {x y : UInt8} (h : x ≠ y) : crc (l ++ x :: m) ≠ crc (l ++ y :: m) := by
  intro e
  unfold crc at e
  have e1 := congrArg (· ^^^ 4294967295) e
  simp only [Nat.xor_assoc, Nat.xor_self, Nat.xor_zero] at e1
  rw [crcRun_append, crcRun_append] at e1
  have hc : crcRun l 4294967295 < 4294967296 := crcRun_lt (by decide)
  have e2 := crcRun_inj m (crcStep_lt hc) (crcStep_lt hc) e1
  have e3 := rep_inj 8 (xor_lt32 hc) (xor_lt32 hc) e2
  have e4 := congrArg (crcRun l 4294967295 ^^^ ·) e3
  simp only [← Nat.xor_assoc, Nat.xor_self, Nat.zero_xor] at e4
  exact h (UInt8.toNat_inj.1 e4)
theorem set_eq_append {α : Type} {l : List α} {k : Nat} (h : k < l.length) (x : α) : l.set k x = l.take k ++ x :: l.drop (k + 1) := by
  rw [List.set_eq_take_append_cons_drop, if_pos h]
theorem self_eq_append {α : Type} {l : List α} {k : Nat} (h : k < l.length) : l = l.take k ++ l[k] :: l.drop (k + 1) := by
  rw [← List.drop_eq_getElem_cons h, List.take_append_drop]
theorem crc_set {l : List UInt8} {k : Nat} {x : UInt8} (h : k < l.length) (hx : x ≠ l[k]) : crc (l.set k x) ≠ crc l := by
  rw [set_eq_append h]
  conv => rhs; rw [self_eq_append h]
  exact crc_change _ _ hx
theorem beV_inj : ∀ (n : Nat) {l m : List UInt8}, l.length = n → m.length = n → beV l = beV m → l = m
  | 0, l, m, hl, hm, _ => by rw [List.eq_nil_of_length_eq_zero hl, List.eq_nil_of_length_eq_zero hm]
  | n + 1, l, m, hl, hm, h => by
    have hne : l ≠ [] := fun e => by rw [e] at hl; cases hl
    have hne' : m ≠ [] := fun e => by rw [e] at hm; cases hm
    rw [← List.dropLast_concat_getLast hne, ← List.dropLast_concat_getLast hne', beV_snoc, beV_snoc] at h
    have h1 := byte_lt (l.getLast hne)
    have h2 := byte_lt (m.getLast hne')
    have h3 : (l.getLast hne).toNat = (m.getLast hne').toNat := by omega
    have h4 : beV l.dropLast = beV m.dropLast := by omega
    rw [← List.dropLast_concat_getLast hne, ← List.dropLast_concat_getLast hne', beV_inj n (by simp [hl]) (by simp [hm]) h4, UInt8.toNat_inj.1 h3]

theorem fault_set {b : List UInt8} {f x : UInt8} {hd k : Nat} (h : faultS b f hd = 0) (h2 : 2 ≤ hd) (hk : k < b.length) (hx : x ≠ b[k]) : faultS (b.set k x) f hd ≠ 0 := by
  intro h'
  obtain ⟨p0, y, py, pl, pc⟩ := fault_zero h
  obtain ⟨q0, y', qy, ql, qc⟩ := fault_zero h'
  have hk0 : k ≠ 0 := by
    rintro rfl
    rw [List.getElem?_set, if_pos rfl, if_pos hk] at q0
    injection q0 with q0
    rw [List.getElem?_eq_getElem hk] at p0
    injection p0 with p0
    exact hx (q0.trans p0.symm)
  rw [List.length_set] at ql
  have hyy : y = y' := UInt8.toNat_inj.1 (by omega)
  subst hyy
  have hkh : k ≠ hd - 1 := by
    rintro rfl
    rw [List.getElem?_set, if_pos rfl, if_pos hk] at qy
    injection qy with qy
    rw [List.getElem?_eq_getElem hk] at py
    injection py with py
    exact hx (qy.trans py.symm)
  by_cases hlt : k < hd + y.toNat
  · rw [List.drop_set, if_pos hlt, List.take_set, pc] at qc
    have hlen : k < (b.take (hd + y.toNat)).length := by simp; omega
    exact crc_set hlen (by rw [List.getElem_take]; exact hx) qc.symm
  · have ht : (b.take (hd + y.toNat)).set k x = b.take (hd + y.toNat) := List.set_eq_of_length_le (by simp; omega)
    rw [List.drop_set, if_neg hlt, List.take_set, ht, ← pc] at qc
    have hlen : (b.drop (hd + y.toNat)).length = 4 := by simp; omega
    have e := beV_inj 4 (by rw [List.length_set]; exact hlen) hlen qc
    have hj : k - (hd + y.toNat) < (b.drop (hd + y.toNat)).length := by omega
    have e2 := congrArg (fun l => l[k - (hd + y.toNat)]?) e
    rw [List.getElem?_set, if_pos rfl, if_pos hj, List.getElem?_drop, show hd + y.toNat + (k - (hd + y.toNat)) = k by omega, List.getElem?_eq_getElem hk] at e2
    injection e2 with e2
    exact hx e2
theorem fault_take {b : List UInt8} {f : UInt8} {hd k : Nat} (h : faultS b f hd = 0) (hk : k < b.length) : faultS (b.take k) f hd ≠ 0 := by
  intro h'
  obtain ⟨p0, y, py, pl, pc⟩ := fault_zero h
  obtain ⟨q0, y', qy, ql, qc⟩ := fault_zero h'
  rw [List.getElem?_take] at qy
  split at qy
  · rw [py] at qy
    injection qy with qy
    subst qy
    rw [List.length_take] at ql
    omega
  · cases qy
theorem fault_more {b m : List UInt8} {f : UInt8} {hd : Nat} (h : faultS b f hd = 0) (hm : m ≠ []) : faultS (b ++ m) f hd ≠ 0 := by
  intro h'
  obtain ⟨p0, y, py, pl, pc⟩ := fault_zero h
  obtain ⟨q0, y', qy, ql, qc⟩ := fault_zero h'
  have hlt := (List.getElem?_eq_some_iff.1 py).1
  rw [List.getElem?_append_left hlt, py] at qy
  injection qy with qy
  subst qy
  rw [List.length_append] at ql
  have := List.length_pos_iff.2 hm
  omega
theorem unpacked_snd (b : List UInt8) : (unpacked b).2 = faultS b 80 5 := by
  unfold unpacked
  split
  · rename_i h; rw [h]
  · rfl
theorem heard_snd (b : List UInt8) : (heardS b).2 = faultS b 112 4 := by
  unfold heardS
  split
  · rename_i h; rw [h]
  · rfl
theorem clone_law (b : List UInt8) (hb : b.length ≤ 1000000000) : slices_Clone_byte_byte b = some b := by
  unfold slices_Clone_byte_byte
  rw [app_ok (by simp; omega), Option.bind_some, List.nil_append]
theorem turned_test {b : List UInt8} {f x : UInt8} {hd k : Nat} (h : faultS b f hd = 0) (h2 : 2 ≤ hd) (hk : k < b.length) : ((faultS (b.set k x) f hd == 0) != ((x.toNat : Int) == (b[k].toNat : Int))) = false := by
  by_cases hx : x = b[k]
  · rw [hx, List.set_getElem_self, h]
    simp
  · have h3 := fault_set h h2 hk hx
    have h4 : ¬ (x.toNat : Int) = (b[k].toNat : Int) := fun e => hx (UInt8.toNat_inj.1 (by omega))
    rw [beq_eq_false_iff_ne.2 h3, beq_eq_false_iff_ne.2 h4]
    rfl
theorem more_test {b m : List UInt8} {f : UInt8} {hd : Nat} (h : faultS b f hd = 0) : ((faultS (b ++ m) f hd == 0) == ((m.length : Int) == 0)) = true := by
  by_cases hm : m = []
  · subst hm
    simp [h]
  · have h3 := fault_more h hm
    have h4 : ¬ (m.length : Int) = 0 := by have := List.length_pos_iff.2 hm; omega
    rw [beq_eq_false_iff_ne.2 h3, beq_eq_false_iff_ne.2 h4]
    rfl
theorem wrap64_nat {n : Nat} (h : n ≤ 1000000000) : IntKind.u64.wrap (n : Int) = n := by
  simp [IntKind.wrap, IntKind.signed, IntKind.bits]
  omega
theorem at_law {s : Int} {n : Nat} (hs : 0 ≤ s) (h0 : 0 < n) (hn : n ≤ 1000000000) : ∃ k : Nat, wr (Int.tmod s (IntKind.u64.wrap (n : Int))) = (k : Int) ∧ k < n := by
  have h1 : (0 : Int) ≤ s % n := Int.emod_nonneg _ (by omega)
  have h2 : s % n < n := Int.emod_lt_of_pos _ (by omega)
  refine ⟨(s % n).toNat, ?_, by omega⟩
  rw [wrap64_nat hn, Int.tmod_eq_emod_of_nonneg hs, wr_id (by omega) (by omega)]
  omega
theorem cut_take {α : Type} {l : List α} {k : Nat} (h : k ≤ l.length) : cutL l 0 (k : Int) = some (l.take k) := by
  rw [cut_ok (by omega)]
  simp
theorem TalkTurned_law (r : S_api_Request) (s : Int) (x : UInt8) (m : List UInt8) (hs : 0 ≤ s) (hm : m.length ≤ 100000000) : provisolaw24_TalkTurned r s x m = some true := by
  obtain ⟨c, n, d⟩ := r
  unfold provisolaw24_TalkTurned
  rw [may_law, Option.bind_some]
  by_cases hmay : 0 ≤ c ∧ c ≤ 255 ∧ 0 ≤ n ∧ n ≤ 65535 ∧ d.length ≤ 255
  · rw [if_neg (by simpa using hmay)]
    have hn : 0 ≤ n ∧ n ≤ 65535 := ⟨hmay.2.2.1, hmay.2.2.2.1⟩
    have hf := req_ok ⟨c, n, d⟩ ⟨hmay.1, hmay.2.1⟩ hn hmay.2.2.2.2
    have hg := ans_ok ⟨n, d⟩ hn hmay.2.2.2.2
    have hrl := frame_len (reqBody ⟨c, n, d⟩)
    have hrb := reqBody_len ⟨c, n, d⟩
    have hal := frame_len (ansBody ⟨n, d⟩)
    have hab := ansBody_len ⟨n, d⟩
    simp only at hrb hab
    rw [pack_law, packed_ok hmay, Option.bind_some, told_law, answered_ok hn hmay.2.2.2.2, Option.bind_some]
    dsimp only
    generalize frame (reqBody ⟨c, n, d⟩) = B at hf hrl
    generalize frame (ansBody ⟨n, d⟩) = C at hg hal
    have LB : B.length ≤ 1000000000 := by omega
    have LC : C.length ≤ 1000000000 := by omega
    obtain ⟨k, hk, hkl⟩ := at_law (s := s) (n := B.length) hs (by omega) LB
    obtain ⟨j, hj, hjl⟩ := at_law (s := s) (n := C.length) hs (by omega) LC
    rw [if_neg (by decide), if_neg (by decide), if_neg (by simp; omega), if_neg (by simp; omega), if_neg (by rw [wrap64_nat LB]; simp only [beq_iff_eq]; omega)]
    rw [clone_law B LB, Option.bind_some, hk, idx_nat, List.getElem?_eq_getElem hkl, Option.bind_some, Int.toNat_natCast, unpack_law _ (by rw [List.length_set]; exact LB), Option.bind_some, Option.bind_some, unpacked_snd, if_neg (by rw [turned_test hf (by decide) hkl]; decide)]
    rw [cut_take (by omega), Option.bind_some, unpack_law _ (by simp; omega), Option.bind_some, unpacked_snd, if_neg (by simpa using fault_take hf hkl)]
    rw [if_neg (by rw [wrap64_nat LC]; simp only [beq_iff_eq]; omega)]
    rw [clone_law C LC, Option.bind_some, hj, idx_nat, List.getElem?_eq_getElem hjl, Option.bind_some, Int.toNat_natCast, heard_law _ (by rw [List.length_set]; exact LC), Option.bind_some, Option.bind_some, heard_snd, if_neg (by rw [turned_test hg (by decide) hjl]; decide)]
    rw [cut_take (by omega), Option.bind_some, heard_law _ (by simp; omega), Option.bind_some, heard_snd, if_neg (by simpa using fault_take hg hjl)]
    rw [Option.bind_some, app_ok (by omega), Option.bind_some, unpack_law _ (by simp; omega), Option.bind_some, Option.bind_some, app_ok (by omega), Option.bind_some, heard_law _ (by simp; omega), Option.bind_some, unpacked_snd, heard_snd, if_pos (more_test hf), more_test hg]
  · rw [if_pos (by simp only [Bool.not_eq_true', decide_eq_false_iff_not]; exact hmay), awake_law]
    rfl
end Go.Proofs.Ytpcdphfneidalaa
