/- The plain kinds of the program's structs. -/
import Derived.Test.YtfepcangbajjjaaPvm
set_option linter.unusedVariables false
set_option linter.unusedSimpArgs false
namespace Go.Proofs.Ytfepcangbajjjaa
open Go Go.RowKit Go.Pv
structure S_api_Instr where
  At : Int
  Op : UInt8
  A : Int
  B : Int
def t_api_Instr (x : S_api_Instr) := (x.At, x.Op, x.A, x.B)
def T_api_Instr : Ty S_api_Instr := Ty.iso (Ty.pair (Ty.int .i64) (Ty.pair Ty.u8 (Ty.pair (Ty.int .i64) (Ty.int .i64)))) t_api_Instr
theorem F_api_Instr : Flat T_api_Instr (fun x => [.int .i64 x.At, .int .u8 (x.Op.toNat : Int), .int .i64 x.A, .int .i64 x.B]) := Flat.iso (Flat.pair (Flat.int .i64) (Flat.pair Flat.u8 (Flat.pair (Flat.int .i64) (Flat.int .i64)))) _
structure S_api_Field where
  Name : List UInt8
  Type_ : UInt8
def t_api_Field (x : S_api_Field) := (x.Name, x.Type_)
def T_api_Field : Ty S_api_Field := Ty.iso (Ty.pair Ty.str Ty.u8) t_api_Field
theorem F_api_Field : Flat T_api_Field (fun x => [.string ⟨⟨x.Name⟩⟩, .int .u8 (x.Type_.toNat : Int)]) := Flat.iso (Flat.pair Flat.str Flat.u8) _
structure S_api_Class where
  Name : List UInt8
  Parent : Int
  Fields : List S_api_Field
def t_api_Class (x : S_api_Class) := (x.Name, x.Parent, x.Fields)
def T_api_Class : Ty S_api_Class := Ty.iso (Ty.pair Ty.str (Ty.pair (Ty.int .i64) (Ty.slice T_api_Field))) t_api_Class
theorem R_api_Class {w : World} {F0 : List Nat} {G : List Nat} {x : S_api_Class} {cs : List Value} (h : (T_api_Class).rd w G x cs) (hG : ∀ k ∈ G, k < w.heap.size ∧ k ∉ F0) :
    ∃ v2 : Value, cs = [.string ⟨⟨x.Name⟩⟩, .int .i64 x.Parent, v2] ∧ Rd T_api_Field w F0 v2 x.Fields := by
  obtain ⟨_, _, rfl, rfl, ⟨_, _, rfl, rfl, ⟨v2, rfl, h0⟩⟩⟩ := h
  exact ⟨v2, rfl, ⟨G, h0, hG⟩⟩
theorem O_api_Class {w0 w : World} {F0 : List Nat} {x : S_api_Class} {cs : List Value} {ps : List Ck} (h0 : SL w0 F0 w (Dt T_api_Class x cs :: ps)) :
    ∃ v2 : Value, cs = [.string ⟨⟨x.Name⟩⟩, .int .i64 x.Parent, v2] ∧ SL w0 F0 w (Sl T_api_Field v2 x.Fields :: ps) := by
  have h1 := SL.undiso h0
  obtain ⟨_, _, rfl, h2⟩ := SL.undpair h1
  obtain ⟨rfl, h3⟩ := SL.undflat Flat.str h2
  obtain ⟨_, _, rfl, h4⟩ := SL.undpair h3
  obtain ⟨rfl, h5⟩ := SL.undflat (Flat.int .i64) h4
  obtain ⟨v2, rfl, h6⟩ := SL.undsl h5
  exact ⟨v2, rfl, h6⟩
structure S_machine_value where
  kind : Int
  n : Int
def t_machine_value (x : S_machine_value) := (x.kind, x.n)
def T_machine_value : Ty S_machine_value := Ty.iso (Ty.pair (Ty.int .i64) (Ty.int .i64)) t_machine_value
theorem F_machine_value : Flat T_machine_value (fun x => [.int .i64 x.kind, .int .i64 x.n]) := Flat.iso (Flat.pair (Flat.int .i64) (Flat.int .i64)) _
structure S_api_Outcome where
  Err : Int
  Trap : Int
  Result : Int
  Told : List Int
  Steps : Int
  Cells : Int
def t_api_Outcome (x : S_api_Outcome) := (x.Err, x.Trap, x.Result, x.Told, x.Steps, x.Cells)
def T_api_Outcome : Ty S_api_Outcome := Ty.iso (Ty.pair (Ty.int .i64) (Ty.pair (Ty.int .i64) (Ty.pair (Ty.int .i64) (Ty.pair (Ty.slice (Ty.int .i64)) (Ty.pair (Ty.int .i64) (Ty.int .i64)))))) t_api_Outcome
theorem R_api_Outcome {w : World} {F0 : List Nat} {G : List Nat} {x : S_api_Outcome} {cs : List Value} (h : (T_api_Outcome).rd w G x cs) (hG : ∀ k ∈ G, k < w.heap.size ∧ k ∉ F0) :
    ∃ v3 : Value, cs = [.int .i64 x.Err, .int .i64 x.Trap, .int .i64 x.Result, v3, .int .i64 x.Steps, .int .i64 x.Cells] ∧ Rd (Ty.int .i64) w F0 v3 x.Told := by
  obtain ⟨_, _, rfl, rfl, ⟨_, _, rfl, rfl, ⟨_, _, rfl, rfl, ⟨_, _, rfl, ⟨v3, rfl, h0⟩, ⟨_, _, rfl, rfl, rfl⟩⟩⟩⟩⟩ := h
  exact ⟨v3, rfl, ⟨G, h0, hG⟩⟩
theorem O_api_Outcome {w0 w : World} {F0 : List Nat} {x : S_api_Outcome} {cs : List Value} {ps : List Ck} (h0 : SL w0 F0 w (Dt T_api_Outcome x cs :: ps)) :
    ∃ v3 : Value, cs = [.int .i64 x.Err, .int .i64 x.Trap, .int .i64 x.Result, v3, .int .i64 x.Steps, .int .i64 x.Cells] ∧ SL w0 F0 w (Sl (Ty.int .i64) v3 x.Told :: ps) := by
  have h1 := SL.undiso h0
  obtain ⟨_, _, rfl, h2⟩ := SL.undpair h1
  obtain ⟨rfl, h3⟩ := SL.undflat (Flat.int .i64) h2
  obtain ⟨_, _, rfl, h4⟩ := SL.undpair h3
  obtain ⟨rfl, h5⟩ := SL.undflat (Flat.int .i64) h4
  obtain ⟨_, _, rfl, h6⟩ := SL.undpair h5
  obtain ⟨rfl, h7⟩ := SL.undflat (Flat.int .i64) h6
  obtain ⟨_, _, rfl, h8⟩ := SL.undpair h7
  obtain ⟨v3, rfl, h9⟩ := SL.undsl h8
  have h10 := h9.f1
  obtain ⟨_, _, rfl, h11⟩ := SL.undpair h10
  obtain ⟨rfl, h12⟩ := SL.undflat (Flat.int .i64) h11
  obtain ⟨rfl, h13⟩ := SL.undflat (Flat.int .i64) h12
  exact ⟨v3, rfl, h13⟩
end Go.Proofs.Ytfepcangbajjjaa
