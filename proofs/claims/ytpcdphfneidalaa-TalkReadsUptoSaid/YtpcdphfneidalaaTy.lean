/- The plain kinds of the program's structs. -/
import Derived.Test.YtpcdphfneidalaaPvk
set_option linter.unusedVariables false
set_option linter.unusedSimpArgs false
namespace Go.Proofs.Ytpcdphfneidalaa
open Go Go.RowKit Go.Pv
structure S_api_Request where
  Command : Int
  Number : Int
  Data : List UInt8
def t_api_Request (x : S_api_Request) := (x.Command, x.Number, x.Data)
def T_api_Request : Ty S_api_Request := Ty.iso (Ty.pair (Ty.int .i64) (Ty.pair (Ty.int .i64) (Ty.slice Ty.u8))) t_api_Request
theorem R_api_Request {w : World} {F0 : List Nat} {G : List Nat} {x : S_api_Request} {cs : List Value} (h : (T_api_Request).rd w G x cs) (hG : ∀ k ∈ G, k < w.heap.size ∧ k ∉ F0) :
    ∃ v2 : Value, cs = [.int .i64 x.Command, .int .i64 x.Number, v2] ∧ Rd Ty.u8 w F0 v2 x.Data := by
  obtain ⟨_, _, rfl, rfl, ⟨_, _, rfl, rfl, ⟨v2, rfl, h0⟩⟩⟩ := h
  exact ⟨v2, rfl, ⟨G, h0, hG⟩⟩
structure S_provisoplain_Shelf where
  bytes : List (List UInt8)
  ints : List (List Int)
def t_provisoplain_Shelf (x : S_provisoplain_Shelf) := (x.bytes, x.ints)
def T_provisoplain_Shelf : Ty S_provisoplain_Shelf := Ty.iso (Ty.pair (Ty.slice (Ty.slice Ty.u8)) (Ty.slice (Ty.slice (Ty.int .i64)))) t_provisoplain_Shelf
theorem R_provisoplain_Shelf {w : World} {F0 : List Nat} {G : List Nat} {x : S_provisoplain_Shelf} {cs : List Value} (h : (T_provisoplain_Shelf).rd w G x cs) (hG : ∀ k ∈ G, k < w.heap.size ∧ k ∉ F0) :
    ∃ v0 v1 : Value, cs = [v0, v1] ∧ Rd (Ty.slice Ty.u8) w F0 v0 x.bytes ∧ Rd (Ty.slice (Ty.int .i64)) w F0 v1 x.ints := by
  obtain ⟨_, _, rfl, ⟨v0, rfl, h0⟩, ⟨v1, rfl, h1⟩⟩ := h
  exact ⟨v0, v1, rfl, ⟨G, h0, hG⟩, ⟨G, h1, hG⟩⟩
structure S_wire_Writer where
  b : List UInt8
  made : Bool
def t_wire_Writer (x : S_wire_Writer) := (x.b, x.made)
def T_wire_Writer : Ty S_wire_Writer := Ty.iso (Ty.pair (Ty.slice Ty.u8) Ty.bool) t_wire_Writer
theorem R_wire_Writer {w : World} {F0 : List Nat} {G : List Nat} {x : S_wire_Writer} {cs : List Value} (h : (T_wire_Writer).rd w G x cs) (hG : ∀ k ∈ G, k < w.heap.size ∧ k ∉ F0) :
    ∃ v0 : Value, cs = [v0, .bool x.made] ∧ Rd Ty.u8 w F0 v0 x.b := by
  obtain ⟨_, _, rfl, ⟨v0, rfl, h0⟩, rfl⟩ := h
  exact ⟨v0, rfl, ⟨G, h0, hG⟩⟩
structure S_api_Answer where
  Status : Int
  Data : List UInt8
def t_api_Answer (x : S_api_Answer) := (x.Status, x.Data)
def T_api_Answer : Ty S_api_Answer := Ty.iso (Ty.pair (Ty.int .i64) (Ty.slice Ty.u8)) t_api_Answer
theorem R_api_Answer {w : World} {F0 : List Nat} {G : List Nat} {x : S_api_Answer} {cs : List Value} (h : (T_api_Answer).rd w G x cs) (hG : ∀ k ∈ G, k < w.heap.size ∧ k ∉ F0) :
    ∃ v1 : Value, cs = [.int .i64 x.Status, v1] ∧ Rd Ty.u8 w F0 v1 x.Data := by
  obtain ⟨_, _, rfl, rfl, ⟨v1, rfl, h0⟩⟩ := h
  exact ⟨v1, rfl, ⟨G, h0, hG⟩⟩
structure S_wire_Reader where
  b : List UInt8
  at_ : Int
  made : Bool
def t_wire_Reader (x : S_wire_Reader) := (x.b, x.at_, x.made)
def T_wire_Reader : Ty S_wire_Reader := Ty.iso (Ty.pair (Ty.slice Ty.u8) (Ty.pair (Ty.int .i64) Ty.bool)) t_wire_Reader
theorem R_wire_Reader {w : World} {F0 : List Nat} {G : List Nat} {x : S_wire_Reader} {cs : List Value} (h : (T_wire_Reader).rd w G x cs) (hG : ∀ k ∈ G, k < w.heap.size ∧ k ∉ F0) :
    ∃ v0 : Value, cs = [v0, .int .i64 x.at_, .bool x.made] ∧ Rd Ty.u8 w F0 v0 x.b := by
  obtain ⟨_, _, rfl, ⟨v0, rfl, h0⟩, ⟨_, _, rfl, rfl, rfl⟩⟩ := h
  exact ⟨v0, rfl, ⟨G, h0, hG⟩⟩
end Go.Proofs.Ytpcdphfneidalaa
