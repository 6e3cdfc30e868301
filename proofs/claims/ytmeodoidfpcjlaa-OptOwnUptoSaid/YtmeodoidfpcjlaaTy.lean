/- The plain kinds of the program's structs. -/
import Derived.Test.YtmeodoidfpcjlaaPvp
import Derived.Test.YtmeodoidfpcjlaaPvs
set_option linter.unusedVariables false
set_option linter.unusedSimpArgs false
namespace Go.Proofs.Ytmeodoidfpcjlaa
open Go Go.RowKit Go.Pv
structure S_api_Sig where
  Params : List UInt8
  Result : UInt8
def t_api_Sig (x : S_api_Sig) := (x.Params, x.Result)
def T_api_Sig : Ty S_api_Sig := Ty.iso (Ty.pair (Ty.slice Ty.u8) Ty.u8) t_api_Sig
theorem R_api_Sig {w : World} {F0 : List Nat} {G : List Nat} {x : S_api_Sig} {cs : List Value} (h : (T_api_Sig).rd w G x cs) (hG : ∀ k ∈ G, k < w.heap.size ∧ k ∉ F0) :
    ∃ v0 : Value, cs = [v0, .int .u8 (x.Result.toNat : Int)] ∧ Rd Ty.u8 w F0 v0 x.Params := by
  obtain ⟨_, _, rfl, ⟨v0, rfl, h0⟩, rfl⟩ := h
  exact ⟨v0, rfl, ⟨G, h0, hG⟩⟩
theorem O_api_Sig {w0 w : World} {F0 : List Nat} {x : S_api_Sig} {cs : List Value} {ps : List Ck} (h0 : SL w0 F0 w (Dt T_api_Sig x cs :: ps)) :
    ∃ v0 : Value, cs = [v0, .int .u8 (x.Result.toNat : Int)] ∧ SL w0 F0 w (Sl Ty.u8 v0 x.Params :: ps) := by
  have h1 := SL.undiso h0
  obtain ⟨_, _, rfl, h2⟩ := SL.undpair h1
  obtain ⟨v0, rfl, h3⟩ := SL.undsl h2
  have h4 := h3.f1
  obtain ⟨rfl, h5⟩ := SL.undflat Flat.u8 h4
  exact ⟨v0, rfl, h5⟩
structure S_api_Func where
  Name : List UInt8
  Sig : S_api_Sig
  Locals : Int
  Code : List UInt8
def t_api_Func (x : S_api_Func) := (x.Name, x.Sig, x.Locals, x.Code)
def T_api_Func : Ty S_api_Func := Ty.iso (Ty.pair Ty.str (Ty.pair T_api_Sig (Ty.pair (Ty.int .i64) (Ty.slice Ty.u8)))) t_api_Func
theorem R_api_Func {w : World} {F0 : List Nat} {G : List Nat} {x : S_api_Func} {cs : List Value} (h : (T_api_Func).rd w G x cs) (hG : ∀ k ∈ G, k < w.heap.size ∧ k ∉ F0) :
    ∃ v1 v4 : Value, cs = [.string ⟨⟨x.Name⟩⟩, v1, .int .u8 (x.Sig.Result.toNat : Int), .int .i64 x.Locals, v4] ∧ Rd Ty.u8 w F0 v1 x.Sig.Params ∧ Rd Ty.u8 w F0 v4 x.Code := by
  obtain ⟨_, _, rfl, rfl, ⟨_, _, rfl, ⟨_, _, rfl, ⟨v1, rfl, h0⟩, rfl⟩, ⟨_, _, rfl, rfl, ⟨v4, rfl, h1⟩⟩⟩⟩ := h
  exact ⟨v1, v4, rfl, ⟨G, h0, hG⟩, ⟨G, h1, hG⟩⟩
theorem O_api_Func {w0 w : World} {F0 : List Nat} {x : S_api_Func} {cs : List Value} {ps : List Ck} (h0 : SL w0 F0 w (Dt T_api_Func x cs :: ps)) :
    ∃ v1 v4 : Value, cs = [.string ⟨⟨x.Name⟩⟩, v1, .int .u8 (x.Sig.Result.toNat : Int), .int .i64 x.Locals, v4] ∧ SL w0 F0 w (Sl Ty.u8 v1 x.Sig.Params :: Sl Ty.u8 v4 x.Code :: ps) := by
  have h1 := SL.undiso h0
  obtain ⟨_, _, rfl, h2⟩ := SL.undpair h1
  obtain ⟨rfl, h3⟩ := SL.undflat Flat.str h2
  obtain ⟨_, _, rfl, h4⟩ := SL.undpair h3
  have h5 := SL.undiso h4
  obtain ⟨_, _, rfl, h6⟩ := SL.undpair h5
  obtain ⟨v1, rfl, h7⟩ := SL.undsl h6
  have h8 := h7.f1
  obtain ⟨rfl, h9⟩ := SL.undflat Flat.u8 h8
  have h10 := h9.f1
  obtain ⟨_, _, rfl, h11⟩ := SL.undpair h10
  obtain ⟨rfl, h12⟩ := SL.undflat (Flat.int .i64) h11
  obtain ⟨v4, rfl, h13⟩ := SL.undsl h12
  exact ⟨v1, v4, rfl, h13.f1⟩
structure S_api_Instr where
  At : Int
  Op : UInt8
  A : Int
  B : Int
def t_api_Instr (x : S_api_Instr) := (x.At, x.Op, x.A, x.B)
def T_api_Instr : Ty S_api_Instr := Ty.iso (Ty.pair (Ty.int .i64) (Ty.pair Ty.u8 (Ty.pair (Ty.int .i64) (Ty.int .i64)))) t_api_Instr
theorem F_api_Instr : Flat T_api_Instr (fun x => [.int .i64 x.At, .int .u8 (x.Op.toNat : Int), .int .i64 x.A, .int .i64 x.B]) := Flat.iso (Flat.pair (Flat.int .i64) (Flat.pair Flat.u8 (Flat.pair (Flat.int .i64) (Flat.int .i64)))) _
structure S_provisoref19_ins where
  op : UInt8
  a : Int
  b : Int
  to : Int
def t_provisoref19_ins (x : S_provisoref19_ins) := (x.op, x.a, x.b, x.to)
def T_provisoref19_ins : Ty S_provisoref19_ins := Ty.iso (Ty.pair Ty.u8 (Ty.pair (Ty.int .i64) (Ty.pair (Ty.int .i64) (Ty.int .i64)))) t_provisoref19_ins
theorem F_provisoref19_ins : Flat T_provisoref19_ins (fun x => [.int .u8 (x.op.toNat : Int), .int .i64 x.a, .int .i64 x.b, .int .i64 x.to]) := Flat.iso (Flat.pair Flat.u8 (Flat.pair (Flat.int .i64) (Flat.pair (Flat.int .i64) (Flat.int .i64)))) _
structure S_opt_item where
  in_ : S_api_Instr
  to : Int
  gone : Bool
def t_opt_item (x : S_opt_item) := (x.in_, x.to, x.gone)
def T_opt_item : Ty S_opt_item := Ty.iso (Ty.pair T_api_Instr (Ty.pair (Ty.int .i64) Ty.bool)) t_opt_item
theorem F_opt_item : Flat T_opt_item (fun x => [.int .i64 x.in_.At, .int .u8 (x.in_.Op.toNat : Int), .int .i64 x.in_.A, .int .i64 x.in_.B, .int .i64 x.to, .bool x.gone]) := Flat.iso (Flat.pair F_api_Instr (Flat.pair (Flat.int .i64) Flat.bool)) _
structure S_provisoplain_Shelf where
  bytes : List (List UInt8)
  ints : List (List Int)
def t_provisoplain_Shelf (x : S_provisoplain_Shelf) := (x.bytes, x.ints)
def T_provisoplain_Shelf : Ty S_provisoplain_Shelf := Ty.iso (Ty.pair (Ty.slice (Ty.slice Ty.u8)) (Ty.slice (Ty.slice (Ty.int .i64)))) t_provisoplain_Shelf
theorem R_provisoplain_Shelf {w : World} {F0 : List Nat} {G : List Nat} {x : S_provisoplain_Shelf} {cs : List Value} (h : (T_provisoplain_Shelf).rd w G x cs) (hG : ∀ k ∈ G, k < w.heap.size ∧ k ∉ F0) :
    ∃ v0 v1 : Value, cs = [v0, v1] ∧ Rd (Ty.slice Ty.u8) w F0 v0 x.bytes ∧ Rd (Ty.slice (Ty.int .i64)) w F0 v1 x.ints := by
  obtain ⟨_, _, rfl, ⟨v0, rfl, h0⟩, ⟨v1, rfl, h1⟩⟩ := h
  exact ⟨v0, v1, rfl, ⟨G, h0, hG⟩, ⟨G, h1, hG⟩⟩
theorem O_provisoplain_Shelf {w0 w : World} {F0 : List Nat} {x : S_provisoplain_Shelf} {cs : List Value} {ps : List Ck} (h0 : SL w0 F0 w (Dt T_provisoplain_Shelf x cs :: ps)) :
    ∃ v0 v1 : Value, cs = [v0, v1] ∧ SL w0 F0 w (Sl (Ty.slice Ty.u8) v0 x.bytes :: Sl (Ty.slice (Ty.int .i64)) v1 x.ints :: ps) := by
  have h1 := SL.undiso h0
  obtain ⟨_, _, rfl, h2⟩ := SL.undpair h1
  obtain ⟨v0, rfl, h3⟩ := SL.undsl h2
  have h4 := h3.f1
  obtain ⟨v1, rfl, h5⟩ := SL.undsl h4
  exact ⟨v0, v1, rfl, h5.f1⟩
end Go.Proofs.Ytmeodoidfpcjlaa
