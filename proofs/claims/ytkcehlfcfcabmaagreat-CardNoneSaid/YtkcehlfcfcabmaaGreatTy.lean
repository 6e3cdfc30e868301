/- The plain kinds of the program's structs. -/
import Derived.Test.YtkcehlfcfcabmaaGreatPvx
import Derived.Test.YtkcehlfcfcabmaaGreatPvA
import Derived.Test.YtkcehlfcfcabmaaGreatPvD
set_option linter.unusedVariables false
set_option linter.unusedSimpArgs false
namespace Go.Proofs.YtkcehlfcfcabmaaGreat
open Go Go.RowKit Go.Pv
structure S_api_Write where
  At : Int
  Bytes : List UInt8
def t_api_Write (x : S_api_Write) := (x.At, x.Bytes)
def T_api_Write : Ty S_api_Write := Ty.iso (Ty.pair (Ty.int .i64) (Ty.slice Ty.u8)) t_api_Write
theorem R_api_Write {w : World} {F0 : List Nat} {G : List Nat} {x : S_api_Write} {cs : List Value} (h : (T_api_Write).rd w G x cs) (hG : ∀ k ∈ G, k < w.heap.size ∧ k ∉ F0) :
    ∃ v1 : Value, cs = [.int .i64 x.At, v1] ∧ Rd Ty.u8 w F0 v1 x.Bytes := by
  obtain ⟨_, _, rfl, rfl, ⟨v1, rfl, h0⟩⟩ := h
  exact ⟨v1, rfl, ⟨G, h0, hG⟩⟩
theorem O_api_Write {w0 w : World} {F0 : List Nat} {x : S_api_Write} {cs : List Value} {ps : List Ck} (h0 : SL w0 F0 w (Dt T_api_Write x cs :: ps)) :
    ∃ v1 : Value, cs = [.int .i64 x.At, v1] ∧ SL w0 F0 w (Sl Ty.u8 v1 x.Bytes :: ps) := by
  have h1 := SL.undiso h0
  obtain ⟨_, _, rfl, h2⟩ := SL.undpair h1
  obtain ⟨rfl, h3⟩ := SL.undflat (Flat.int .i64) h2
  obtain ⟨v1, rfl, h4⟩ := SL.undsl h3
  exact ⟨v1, rfl, h4⟩
structure S_api_Outcome where
  Err : Int
  Trap : Int
  Result : Int
  Told : List Int
  Steps : Int
  Cells : Int
def t_api_Outcome (x : S_api_Outcome) := (x.Err, x.Trap, x.Result, x.Told, x.Steps, x.Cells)
def T_api_Outcome : Ty S_api_Outcome := Ty.iso (Ty.pair (Ty.int .i64) (Ty.pair (Ty.int .i64) (Ty.pair (Ty.int .i64) (Ty.pair (Ty.slice (Ty.int .i64)) (Ty.pair (Ty.int .i64) (Ty.int .i64)))))) t_api_Outcome
theorem R_api_Outcome {w : World} {F0 : List Nat} {G : List Nat} {x : S_api_Outcome} {cs : List Value} (h : (T_api_Outcome).rd w G x cs) (hG : ∀ k ∈ G, k < w.heap.size ∧ k ∉ F0) :
    ∃ v3 : Value, cs = [.int .i64 x.Err, .int .i64 x.Trap, .int .i64 x.Result, v3, .int .i64 x.Steps, .int .i64 x.Cells] ∧ Rd (Ty.int .i64) w F0 v3 x.Told := by
  obtain ⟨_, _, rfl, rfl, ⟨_, _, rfl, rfl, ⟨_, _, rfl, rfl, ⟨_, _, rfl, ⟨v3, rfl, h0⟩, ⟨_, _, rfl, rfl, rfl⟩⟩⟩⟩⟩ := h
  exact ⟨v3, rfl, ⟨G, h0, hG⟩⟩
theorem O_api_Outcome {w0 w : World} {F0 : List Nat} {x : S_api_Outcome} {cs : List Value} {ps : List Ck} (h0 : SL w0 F0 w (Dt T_api_Outcome x cs :: ps)) :
    ∃ v3 : Value, cs = [.int .i64 x.Err, .int .i64 x.Trap, .int .i64 x.Result, v3, .int .i64 x.Steps, .int .i64 x.Cells] ∧ SL w0 F0 w (Sl (Ty.int .i64) v3 x.Told :: ps) := by
  have h1 := SL.undiso h0
  obtain ⟨_, _, rfl, h2⟩ := SL.undpair h1
  obtain ⟨rfl, h3⟩ := SL.undflat (Flat.int .i64) h2
  obtain ⟨_, _, rfl, h4⟩ := SL.undpair h3
  obtain ⟨rfl, h5⟩ := SL.undflat (Flat.int .i64) h4
  obtain ⟨_, _, rfl, h6⟩ := SL.undpair h5
  obtain ⟨rfl, h7⟩ := SL.undflat (Flat.int .i64) h6
  obtain ⟨_, _, rfl, h8⟩ := SL.undpair h7
  obtain ⟨v3, rfl, h9⟩ := SL.undsl h8
  have h10 := h9.f1
  obtain ⟨_, _, rfl, h11⟩ := SL.undpair h10
  obtain ⟨rfl, h12⟩ := SL.undflat (Flat.int .i64) h11
  obtain ⟨rfl, h13⟩ := SL.undflat (Flat.int .i64) h12
  exact ⟨v3, rfl, h13⟩
end Go.Proofs.YtkcehlfcfcabmaaGreat
