/- The plain kinds of the program's structs. -/
import Derived.Test.YtmeodoidfpcjlaaPvp
import Derived.Test.YtmeodoidfpcjlaaPvs
set_option linter.unusedVariables false
set_option linter.unusedSimpArgs false
namespace Go.Proofs.Ytmeodoidfpcjlaa
open Go Go.RowKit Go.Pv
structure S_api_Request where
  Command : Int
  Number : Int
  Data : List UInt8
def t_api_Request (x : S_api_Request) := (x.Command, x.Number, x.Data)
def T_api_Request : Ty S_api_Request := Ty.iso (Ty.pair (Ty.int .i64) (Ty.pair (Ty.int .i64) (Ty.slice Ty.u8))) t_api_Request
theorem R_api_Request {w : World} {F0 : List Nat} {G : List Nat} {x : S_api_Request} {cs : List Value} (h : (T_api_Request).rd w G x cs) (hG : ∀ k ∈ G, k < w.heap.size ∧ k ∉ F0) :
    ∃ v2 : Value, cs = [.int .i64 x.Command, .int .i64 x.Number, v2] ∧ Rd Ty.u8 w F0 v2 x.Data := by
  obtain ⟨_, _, rfl, rfl, ⟨_, _, rfl, rfl, ⟨v2, rfl, h0⟩⟩⟩ := h
  exact ⟨v2, rfl, ⟨G, h0, hG⟩⟩
theorem O_api_Request {w0 w : World} {F0 : List Nat} {x : S_api_Request} {cs : List Value} {ps : List Ck} (h0 : SL w0 F0 w (Dt T_api_Request x cs :: ps)) :
    ∃ v2 : Value, cs = [.int .i64 x.Command, .int .i64 x.Number, v2] ∧ SL w0 F0 w (Sl Ty.u8 v2 x.Data :: ps) := by
  have h1 := SL.undiso h0
  obtain ⟨_, _, rfl, h2⟩ := SL.undpair h1
  obtain ⟨rfl, h3⟩ := SL.undflat (Flat.int .i64) h2
  obtain ⟨_, _, rfl, h4⟩ := SL.undpair h3
  obtain ⟨rfl, h5⟩ := SL.undflat (Flat.int .i64) h4
  obtain ⟨v2, rfl, h6⟩ := SL.undsl h5
  exact ⟨v2, rfl, h6⟩
structure S_provisoplain_Shelf where
  bytes : List (List UInt8)
  ints : List (List Int)
def t_provisoplain_Shelf (x : S_provisoplain_Shelf) := (x.bytes, x.ints)
def T_provisoplain_Shelf : Ty S_provisoplain_Shelf := Ty.iso (Ty.pair (Ty.slice (Ty.slice Ty.u8)) (Ty.slice (Ty.slice (Ty.int .i64)))) t_provisoplain_Shelf
theorem R_provisoplain_Shelf {w : World} {F0 : List Nat} {G : List Nat} {x : S_provisoplain_Shelf} {cs : List Value} (h : (T_provisoplain_Shelf).rd w G x cs) (hG : ∀ k ∈ G, k < w.heap.size ∧ k ∉ F0) :
    ∃ v0 v1 : Value, cs = [v0, v1] ∧ Rd (Ty.slice Ty.u8) w F0 v0 x.bytes ∧ Rd (Ty.slice (Ty.int .i64)) w F0 v1 x.ints := by
  obtain ⟨_, _, rfl, ⟨v0, rfl, h0⟩, ⟨v1, rfl, h1⟩⟩ := h
  exact ⟨v0, v1, rfl, ⟨G, h0, hG⟩, ⟨G, h1, hG⟩⟩
theorem O_provisoplain_Shelf {w0 w : World} {F0 : List Nat} {x : S_provisoplain_Shelf} {cs : List Value} {ps : List Ck} (h0 : SL w0 F0 w (Dt T_provisoplain_Shelf x cs :: ps)) :
    ∃ v0 v1 : Value, cs = [v0, v1] ∧ SL w0 F0 w (Sl (Ty.slice Ty.u8) v0 x.bytes :: Sl (Ty.slice (Ty.int .i64)) v1 x.ints :: ps) := by
  have h1 := SL.undiso h0
  obtain ⟨_, _, rfl, h2⟩ := SL.undpair h1
  obtain ⟨v0, rfl, h3⟩ := SL.undsl h2
  have h4 := h3.f1
  obtain ⟨v1, rfl, h5⟩ := SL.undsl h4
  exact ⟨v0, v1, rfl, h5.f1⟩
end Go.Proofs.Ytmeodoidfpcjlaa
