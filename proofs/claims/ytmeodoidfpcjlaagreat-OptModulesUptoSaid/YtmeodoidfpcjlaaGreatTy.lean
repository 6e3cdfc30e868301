/- The plain kinds of the program's structs. -/
import Derived.Test.YtmeodoidfpcjlaaGreatPvp
set_option linter.unusedVariables false
set_option linter.unusedSimpArgs false
namespace Go.Proofs.YtmeodoidfpcjlaaGreat
open Go Go.RowKit Go.Pv
structure S_api_Field where
  Name : List UInt8
  Type_ : UInt8
def t_api_Field (x : S_api_Field) := (x.Name, x.Type_)
def T_api_Field : Ty S_api_Field := Ty.iso (Ty.pair Ty.str Ty.u8) t_api_Field
theorem F_api_Field : Flat T_api_Field (fun x => [.string ⟨⟨x.Name⟩⟩, .int .u8 (x.Type_.toNat : Int)]) := Flat.iso (Flat.pair Flat.str Flat.u8) _
structure S_api_Class where
  Name : List UInt8
  Parent : Int
  Fields : List S_api_Field
def t_api_Class (x : S_api_Class) := (x.Name, x.Parent, x.Fields)
def T_api_Class : Ty S_api_Class := Ty.iso (Ty.pair Ty.str (Ty.pair (Ty.int .i64) (Ty.slice T_api_Field))) t_api_Class
theorem R_api_Class {w : World} {F0 : List Nat} {G : List Nat} {x : S_api_Class} {cs : List Value} (h : (T_api_Class).rd w G x cs) (hG : ∀ k ∈ G, k < w.heap.size ∧ k ∉ F0) :
    ∃ v2 : Value, cs = [.string ⟨⟨x.Name⟩⟩, .int .i64 x.Parent, v2] ∧ Rd T_api_Field w F0 v2 x.Fields := by
  obtain ⟨_, _, rfl, rfl, ⟨_, _, rfl, rfl, ⟨v2, rfl, h0⟩⟩⟩ := h
  exact ⟨v2, rfl, ⟨G, h0, hG⟩⟩
theorem O_api_Class {w0 w : World} {F0 : List Nat} {x : S_api_Class} {cs : List Value} {ps : List Ck} (h0 : SL w0 F0 w (Dt T_api_Class x cs :: ps)) :
    ∃ v2 : Value, cs = [.string ⟨⟨x.Name⟩⟩, .int .i64 x.Parent, v2] ∧ SL w0 F0 w (Sl T_api_Field v2 x.Fields :: ps) := by
  have h1 := SL.undiso h0
  obtain ⟨_, _, rfl, h2⟩ := SL.undpair h1
  obtain ⟨rfl, h3⟩ := SL.undflat Flat.str h2
  obtain ⟨_, _, rfl, h4⟩ := SL.undpair h3
  obtain ⟨rfl, h5⟩ := SL.undflat (Flat.int .i64) h4
  obtain ⟨v2, rfl, h6⟩ := SL.undsl h5
  exact ⟨v2, rfl, h6⟩
structure S_api_Sig where
  Params : List UInt8
  Result : UInt8
def t_api_Sig (x : S_api_Sig) := (x.Params, x.Result)
def T_api_Sig : Ty S_api_Sig := Ty.iso (Ty.pair (Ty.slice Ty.u8) Ty.u8) t_api_Sig
theorem R_api_Sig {w : World} {F0 : List Nat} {G : List Nat} {x : S_api_Sig} {cs : List Value} (h : (T_api_Sig).rd w G x cs) (hG : ∀ k ∈ G, k < w.heap.size ∧ k ∉ F0) :
    ∃ v0 : Value, cs = [v0, .int .u8 (x.Result.toNat : Int)] ∧ Rd Ty.u8 w F0 v0 x.Params := by
  obtain ⟨_, _, rfl, ⟨v0, rfl, h0⟩, rfl⟩ := h
  exact ⟨v0, rfl, ⟨G, h0, hG⟩⟩
theorem O_api_Sig {w0 w : World} {F0 : List Nat} {x : S_api_Sig} {cs : List Value} {ps : List Ck} (h0 : SL w0 F0 w (Dt T_api_Sig x cs :: ps)) :
    ∃ v0 : Value, cs = [v0, .int .u8 (x.Result.toNat : Int)] ∧ SL w0 F0 w (Sl Ty.u8 v0 x.Params :: ps) := by
  have h1 := SL.undiso h0
  obtain ⟨_, _, rfl, h2⟩ := SL.undpair h1
  obtain ⟨v0, rfl, h3⟩ := SL.undsl h2
  have h4 := h3.f1
  obtain ⟨rfl, h5⟩ := SL.undflat Flat.u8 h4
  exact ⟨v0, rfl, h5⟩
structure S_api_Func where
  Name : List UInt8
  Sig : S_api_Sig
  Locals : Int
  Code : List UInt8
def t_api_Func (x : S_api_Func) := (x.Name, x.Sig, x.Locals, x.Code)
def T_api_Func : Ty S_api_Func := Ty.iso (Ty.pair Ty.str (Ty.pair T_api_Sig (Ty.pair (Ty.int .i64) (Ty.slice Ty.u8)))) t_api_Func
theorem R_api_Func {w : World} {F0 : List Nat} {G : List Nat} {x : S_api_Func} {cs : List Value} (h : (T_api_Func).rd w G x cs) (hG : ∀ k ∈ G, k < w.heap.size ∧ k ∉ F0) :
    ∃ v1 v4 : Value, cs = [.string ⟨⟨x.Name⟩⟩, v1, .int .u8 (x.Sig.Result.toNat : Int), .int .i64 x.Locals, v4] ∧ Rd Ty.u8 w F0 v1 x.Sig.Params ∧ Rd Ty.u8 w F0 v4 x.Code := by
  obtain ⟨_, _, rfl, rfl, ⟨_, _, rfl, ⟨_, _, rfl, ⟨v1, rfl, h0⟩, rfl⟩, ⟨_, _, rfl, rfl, ⟨v4, rfl, h1⟩⟩⟩⟩ := h
  exact ⟨v1, v4, rfl, ⟨G, h0, hG⟩, ⟨G, h1, hG⟩⟩
theorem O_api_Func {w0 w : World} {F0 : List Nat} {x : S_api_Func} {cs : List Value} {ps : List Ck} (h0 : SL w0 F0 w (Dt T_api_Func x cs :: ps)) :
    ∃ v1 v4 : Value, cs = [.string ⟨⟨x.Name⟩⟩, v1, .int .u8 (x.Sig.Result.toNat : Int), .int .i64 x.Locals, v4] ∧ SL w0 F0 w (Sl Ty.u8 v1 x.Sig.Params :: Sl Ty.u8 v4 x.Code :: ps) := by
  have h1 := SL.undiso h0
  obtain ⟨_, _, rfl, h2⟩ := SL.undpair h1
  obtain ⟨rfl, h3⟩ := SL.undflat Flat.str h2
  obtain ⟨_, _, rfl, h4⟩ := SL.undpair h3
  have h5 := SL.undiso h4
  obtain ⟨_, _, rfl, h6⟩ := SL.undpair h5
  obtain ⟨v1, rfl, h7⟩ := SL.undsl h6
  have h8 := h7.f1
  obtain ⟨rfl, h9⟩ := SL.undflat Flat.u8 h8
  have h10 := h9.f1
  obtain ⟨_, _, rfl, h11⟩ := SL.undpair h10
  obtain ⟨rfl, h12⟩ := SL.undflat (Flat.int .i64) h11
  obtain ⟨v4, rfl, h13⟩ := SL.undsl h12
  exact ⟨v1, v4, rfl, h13.f1⟩
structure S_api_Module where
  Name : List UInt8
  Classes : List S_api_Class
  Funcs : List S_api_Func
  Certs : List (List UInt8)
def t_api_Module (x : S_api_Module) := (x.Name, x.Classes, x.Funcs, x.Certs)
def T_api_Module : Ty S_api_Module := Ty.iso (Ty.pair Ty.str (Ty.pair (Ty.slice T_api_Class) (Ty.pair (Ty.slice T_api_Func) (Ty.slice (Ty.slice Ty.u8))))) t_api_Module
theorem R_api_Module {w : World} {F0 : List Nat} {G : List Nat} {x : S_api_Module} {cs : List Value} (h : (T_api_Module).rd w G x cs) (hG : ∀ k ∈ G, k < w.heap.size ∧ k ∉ F0) :
    ∃ v1 v2 v3 : Value, cs = [.string ⟨⟨x.Name⟩⟩, v1, v2, v3] ∧ Rd T_api_Class w F0 v1 x.Classes ∧ Rd T_api_Func w F0 v2 x.Funcs ∧ Rd (Ty.slice Ty.u8) w F0 v3 x.Certs := by
  obtain ⟨_, _, rfl, rfl, ⟨_, _, rfl, ⟨v1, rfl, h0⟩, ⟨_, _, rfl, ⟨v2, rfl, h1⟩, ⟨v3, rfl, h2⟩⟩⟩⟩ := h
  exact ⟨v1, v2, v3, rfl, ⟨G, h0, hG⟩, ⟨G, h1, hG⟩, ⟨G, h2, hG⟩⟩
theorem O_api_Module {w0 w : World} {F0 : List Nat} {x : S_api_Module} {cs : List Value} {ps : List Ck} (h0 : SL w0 F0 w (Dt T_api_Module x cs :: ps)) :
    ∃ v1 v2 v3 : Value, cs = [.string ⟨⟨x.Name⟩⟩, v1, v2, v3] ∧ SL w0 F0 w (Sl T_api_Class v1 x.Classes :: Sl T_api_Func v2 x.Funcs :: Sl (Ty.slice Ty.u8) v3 x.Certs :: ps) := by
  have h1 := SL.undiso h0
  obtain ⟨_, _, rfl, h2⟩ := SL.undpair h1
  obtain ⟨rfl, h3⟩ := SL.undflat Flat.str h2
  obtain ⟨_, _, rfl, h4⟩ := SL.undpair h3
  obtain ⟨v1, rfl, h5⟩ := SL.undsl h4
  have h6 := h5.f1
  obtain ⟨_, _, rfl, h7⟩ := SL.undpair h6
  obtain ⟨v2, rfl, h8⟩ := SL.undsl h7
  have h9 := h8.f1
  obtain ⟨v3, rfl, h10⟩ := SL.undsl h9
  exact ⟨v1, v2, v3, rfl, h10.f1.f2⟩
structure S_api_Instr where
  At : Int
  Op : UInt8
  A : Int
  B : Int
def t_api_Instr (x : S_api_Instr) := (x.At, x.Op, x.A, x.B)
def T_api_Instr : Ty S_api_Instr := Ty.iso (Ty.pair (Ty.int .i64) (Ty.pair Ty.u8 (Ty.pair (Ty.int .i64) (Ty.int .i64)))) t_api_Instr
theorem F_api_Instr : Flat T_api_Instr (fun x => [.int .i64 x.At, .int .u8 (x.Op.toNat : Int), .int .i64 x.A, .int .i64 x.B]) := Flat.iso (Flat.pair (Flat.int .i64) (Flat.pair Flat.u8 (Flat.pair (Flat.int .i64) (Flat.int .i64)))) _
structure S_opt_item where
  in_ : S_api_Instr
  to : Int
  gone : Bool
def t_opt_item (x : S_opt_item) := (x.in_, x.to, x.gone)
def T_opt_item : Ty S_opt_item := Ty.iso (Ty.pair T_api_Instr (Ty.pair (Ty.int .i64) Ty.bool)) t_opt_item
theorem F_opt_item : Flat T_opt_item (fun x => [.int .i64 x.in_.At, .int .u8 (x.in_.Op.toNat : Int), .int .i64 x.in_.A, .int .i64 x.in_.B, .int .i64 x.to, .bool x.gone]) := Flat.iso (Flat.pair F_api_Instr (Flat.pair (Flat.int .i64) Flat.bool)) _
structure S_provisoref19_ins where
  op : UInt8
  a : Int
  b : Int
  to : Int
def t_provisoref19_ins (x : S_provisoref19_ins) := (x.op, x.a, x.b, x.to)
def T_provisoref19_ins : Ty S_provisoref19_ins := Ty.iso (Ty.pair Ty.u8 (Ty.pair (Ty.int .i64) (Ty.pair (Ty.int .i64) (Ty.int .i64)))) t_provisoref19_ins
theorem F_provisoref19_ins : Flat T_provisoref19_ins (fun x => [.int .u8 (x.op.toNat : Int), .int .i64 x.a, .int .i64 x.b, .int .i64 x.to]) := Flat.iso (Flat.pair Flat.u8 (Flat.pair (Flat.int .i64) (Flat.pair (Flat.int .i64) (Flat.int .i64)))) _
def T_api_Sig_b10 (wb : World) (Fb : List Nat) : Ty S_api_Sig := Ty.iso (Ty.pair (Ty.brow wb Fb Ty.u8) Ty.u8) t_api_Sig
theorem O_api_Sig_b10 {w0 w : World} {F0 : List Nat} {wb : World} {Fb : List Nat} {x : S_api_Sig} {cs : List Value} {ps : List Ck} (h0 : SL w0 F0 w (Dt (T_api_Sig_b10 wb Fb) x cs :: ps)) :
    ∃ v0 : Value, cs = [v0, .int .u8 (x.Result.toNat : Int)] ∧ Rd Ty.u8 wb Fb v0 x.Params ∧ SL w0 F0 w ( ps) := by
  have h1 := SL.undiso h0
  obtain ⟨_, _, rfl, h2⟩ := SL.undpair h1
  obtain ⟨v0, rfl, rv0, h3⟩ := SL.undbrow h2
  obtain ⟨rfl, h4⟩ := SL.undflat Flat.u8 h3
  exact ⟨v0, rfl, rv0, h4⟩
def T_api_Func_b01000 (wb : World) (Fb : List Nat) : Ty S_api_Func := Ty.iso (Ty.pair Ty.str (Ty.pair (T_api_Sig_b10 wb Fb) (Ty.pair (Ty.int .i64) (Ty.slice Ty.u8)))) t_api_Func
theorem O_api_Func_b01000 {w0 w : World} {F0 : List Nat} {wb : World} {Fb : List Nat} {x : S_api_Func} {cs : List Value} {ps : List Ck} (h0 : SL w0 F0 w (Dt (T_api_Func_b01000 wb Fb) x cs :: ps)) :
    ∃ v1 v4 : Value, cs = [.string ⟨⟨x.Name⟩⟩, v1, .int .u8 (x.Sig.Result.toNat : Int), .int .i64 x.Locals, v4] ∧ Rd Ty.u8 wb Fb v1 x.Sig.Params ∧ SL w0 F0 w (Sl Ty.u8 v4 x.Code :: ps) := by
  have h1 := SL.undiso h0
  obtain ⟨_, _, rfl, h2⟩ := SL.undpair h1
  obtain ⟨rfl, h3⟩ := SL.undflat Flat.str h2
  obtain ⟨_, _, rfl, h4⟩ := SL.undpair h3
  have h5 := SL.undiso h4
  obtain ⟨_, _, rfl, h6⟩ := SL.undpair h5
  obtain ⟨v1, rfl, rv1, h7⟩ := SL.undbrow h6
  obtain ⟨rfl, h8⟩ := SL.undflat Flat.u8 h7
  obtain ⟨_, _, rfl, h9⟩ := SL.undpair h8
  obtain ⟨rfl, h10⟩ := SL.undflat (Flat.int .i64) h9
  obtain ⟨v4, rfl, h11⟩ := SL.undsl h10
  exact ⟨v1, v4, rfl, rv1, h11⟩
end Go.Proofs.YtmeodoidfpcjlaaGreat
