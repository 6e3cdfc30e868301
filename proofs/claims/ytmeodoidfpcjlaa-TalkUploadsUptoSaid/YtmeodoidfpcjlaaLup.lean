/- The plain law of TalkUploads. -/
import Derived.Test.YtmeodoidfpcjlaaLsh
set_option linter.unusedVariables false
set_option linter.unusedSimpArgs false
namespace Go.Proofs.Ytmeodoidfpcjlaa
open Go Go.RowKit Go.Pv
theorem eqB (l : List UInt8) (h : l.length ≤ big) : slices_Equal_byte_byte l l = some true := by
  simp only [big] at h
  unfold slices_Equal_byte_byte
  rw [if_neg (by simp), loop_none l (r := .inr ()) (fun i hi => by
    unfold slices_Equal_byte_byte_b0
    rw [if_pos (by simpa using hi), idx_at hi, Option.bind_some, Option.bind_some, if_neg (by simp), wr1 (by omega)]) (by unfold slices_Equal_byte_byte_b0; simp)]
  rfl
theorem roomy_law (b : List UInt8) (hb : b.length ≤ big) : provisoplain_Roomy b = some (b, b ++ [165, 90, 195, 60]) := by
  simp only [big] at hb
  unfold provisoplain_Roomy slices_Clone_byte_byte
  rw [app_ok (by simp; omega)]
  simp only [Option.bind_some, List.nil_append]
  rw [app_ok (by simp; omega)]
  simp only [Option.bind_some]
  rw [cut_ok (by simp; omega)]
  simp
theorem untouched_law (b : List UInt8) (hb : b.length ≤ big) : provisoplain_Untouched (b ++ [165, 90, 195, 60]) b = some true := by
  have hb' := hb
  simp only [big] at hb
  unfold provisoplain_Untouched
  rw [cut_ok (by simp; omega)]
  simp only [Option.bind_some, Int.toNat_natCast, Int.toNat_zero, List.drop_zero, List.take_left]
  rw [eqB b hb']
  have e1 : wr ((b.length : Int) + 1) = ((b.length + 1 : Nat) : Int) := by rw [wr_id] <;> omega
  have e2 : wr ((b.length : Int) + 2) = ((b.length + 2 : Nat) : Int) := by rw [wr_id] <;> omega
  have e3 : wr ((b.length : Int) + 3) = ((b.length + 3 : Nat) : Int) := by rw [wr_id] <;> omega
  rw [e1, e2, e3, idx_nat, idx_nat, idx_nat, idx_nat]
  simp [List.getElem?_append_right]
theorem bodies_up (b : List UInt8) (c : Int) : talk_Upload_b0 b c = provisoref24_Upload_b0 b c := by
  funext s
  unfold talk_Upload_b0 provisoref24_Upload_b0
  by_cases h0 : decide (s.2 < (b.length : Int)) = true
  · rw [if_pos h0, if_pos h0]
    by_cases h : wr (s.2 + c) > (b.length : Int)
    · rw [if_neg (by omega), if_pos (decide_eq_true h)]
    · rw [if_neg (show ¬ (decide (wr (s.2 + c) > (b.length : Int)) = true) from fun hc => h (of_decide_eq_true hc))]
      by_cases h2 : wr (s.2 + c) < (b.length : Int)
      · rw [if_pos h2]
      · rw [if_neg h2, show wr (s.2 + c) = (b.length : Int) from by omega]
  · rw [if_neg h0, if_neg h0]
theorem up_eq (b : List UInt8) (c : Int) : talk_Upload b c = provisoref24_Upload b c := by
  unfold talk_Upload provisoref24_Upload
  rw [bodies_up]
/-- What Upload makes is short. -/
theorem up_law (b : List UInt8) (c : Int) (hc : 0 ≤ c ∨ c < 0) : ∃ l e, provisoref24_Upload b c = some (l, e) ∧ l.length ≤ 5000 ∧ ∀ y ∈ l, y.Data.length ≤ 4096 := by
  unfold provisoref24_Upload
  split
  · exact ⟨_, _, rfl, by simp, by simp⟩
  split
  · exact ⟨_, _, rfl, by simp, by simp⟩
  split
  · exact ⟨_, _, rfl, by simp, by simp⟩
  split
  · exact ⟨_, _, rfl, by simp, by simp⟩
  rename_i h1 h2 h3 h4
  have k1 : 1 ≤ c := by
    have : ¬ c < 1 := fun h => h1 (decide_eq_true h)
    omega
  have k2 : c ≤ 255 := by
    have : ¬ c > 255 := fun h => h2 (decide_eq_true h)
    omega
  have k4 : b.length ≤ 4096 := by
    have : ¬ (b.length : Int) > 4096 := fun h => h4 (decide_eq_true h)
    omega
  have key : ∀ n : Nat, ∀ (acc : List S_api_Request) (at_ : Int), 0 ≤ at_ → at_ ≤ 4600 → (b.length : Int) - at_ ≤ n → acc.length ≤ 1 + at_ → (∀ y ∈ acc, y.Data.length ≤ 4096) →
      ∃ l, loopO (provisoref24_Upload_b0 b c) (acc, at_) = some l ∧ l.length ≤ 4700 ∧ ∀ y ∈ l, y.Data.length ≤ 4096 := by
    intro n
    induction n with
    | zero =>
      intro acc at_ a0 a1 a2 a3 a4
      refine ⟨acc, loopO_stop ?_, by omega, a4⟩
      unfold provisoref24_Upload_b0
      dsimp only
      rw [if_neg (fun h => absurd (of_decide_eq_true h) (by omega))]
    | succ n ih =>
      intro acc at_ a0 a1 a2 a3 a4
      by_cases hlt : at_ < (b.length : Int)
      · have hw : wr (at_ + c) = at_ + c := wr_id (by omega) (by omega)
        have step : ∃ d : List UInt8, d.length ≤ 4096 ∧ provisoref24_Upload_b0 b c (acc, at_) = some (.inl (acc ++ [⟨5, at_, d⟩], at_ + c)) := by
          unfold provisoref24_Upload_b0
          dsimp only
          rw [if_pos (decide_eq_true hlt), hw]
          by_cases hg : at_ + c > (b.length : Int)
          · rw [if_pos (decide_eq_true hg), cut_ok (by omega), Option.bind_some, app_ok (by simp; omega), Option.bind_some, app_ok (by simp; omega), Option.bind_some]
            exact ⟨_, by simp; omega, rfl⟩
          · rw [if_neg (fun h => hg (of_decide_eq_true h)), cut_ok (by omega), Option.bind_some, app_ok (by simp; omega), Option.bind_some, app_ok (by simp; omega), Option.bind_some]
            exact ⟨_, by simp; omega, rfl⟩
        obtain ⟨d, hd, hs⟩ := step
        rw [loopO_step hs]
        exact ih _ _ (by omega) (by omega) (by omega) (by simp; omega) (fun y hy => by
          rw [List.mem_append] at hy
          rcases hy with hy | hy
          · exact a4 y hy
          · rw [List.mem_singleton] at hy
            subst hy
            exact hd)
      · refine ⟨acc, loopO_stop ?_, by omega, a4⟩
        unfold provisoref24_Upload_b0
        dsimp only
        rw [if_neg (fun h => absurd (of_decide_eq_true h) (by omega))]
  obtain ⟨l, e1, e2, e3⟩ := key b.length [⟨4, (b.length : Int), []⟩] 0 (by omega) (by omega) (by omega) (by simp) (by simp)
  rw [e1, Option.bind_some, app_ok (by simp; omega), Option.bind_some]
  exact ⟨_, _, rfl, by simp; omega, fun y hy => by
    rw [List.mem_append] at hy
    rcases hy with hy | hy
    · exact e3 y hy
    · rw [List.mem_singleton] at hy
      subst hy
      simp⟩
theorem same_req (y : S_api_Request) (h : y.Data.length ≤ 4096) : provisolaw24_sameRequest y y = some true := by
  unfold provisolaw24_sameRequest
  rw [if_pos (by simp), if_pos (by simp), eqB _ (by simp only [big]; omega), Option.bind_some]
theorem TalkUploads_law (b : List UInt8) (c : Int) (hb : b.length ≤ big) : provisolaw24_TalkUploads b c = some true := by
  obtain ⟨l, e, h1, h2, h3⟩ := up_law b c (by omega)
  unfold provisolaw24_TalkUploads
  rw [roomy_law b hb, Option.bind_some, up_eq, h1, Option.bind_some, Option.bind_some]
  rw [if_pos ⟨rfl, rfl, by dsimp only; omega, fun i y z hy hz => by
    rw [hy] at hz
    obtain rfl := Option.some.inj hz
    exact same_req y (h3 y (List.mem_of_getElem? hy)), own_law _ (fun d hd => by
      obtain ⟨y, hy, rfl⟩ := List.mem_map.1 hd
      have := h3 y hy
      simp only [big]
      omega) (by simp) (by simp; omega) (by simp)⟩]
  exact untouched_law b hb
end Go.Proofs.Ytmeodoidfpcjlaa
