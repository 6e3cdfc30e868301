/- Functions as values: what is made to be called once, and tables of such. -/
import Derived.Test.YtkcehlfcfcabmaaGreatPvt
set_option linter.unusedVariables false
set_option linter.unusedSimpArgs false
namespace Go.Pv
open Go Go.RowKit
/-- Some chunks, of which something is known. -/
def Any (Q : List Ck → Prop) : Ck := ⟨fun w F => ∃ qs, Q qs ∧ Star qs w F, fun ⟨qs, h, hs⟩ hk => ⟨qs, h, hs.loc hk⟩, fun ⟨_, _, hs⟩ => hs.lt⟩
/-- A function of types to types. -/
inductive Gv where
  | const (l : List UInt8)
  | dup
  | swap
  | nil
def Gv.run : Gv → List UInt8 → Option (List UInt8)
  | .const l, _ => some l
  | .dup, l => (idx l 0).bind fun x => (idx l 0).bind fun y => some [x, y]
  | .swap, l => (idx l 1).bind fun x => (idx l 0).bind fun y => some [x, y]
  | .nil, _ => none
/-- A function of environments and instructions to effects. -/
inductive Tell (W : Type) where
  | fixed (takes : List W) (gives : Gv)
  | call
  | ret (gives : Gv)
  | classed (takes : List W) (gives : Bool)
  | field (put : Bool)
  | nil
section
variable {P : Program} {w0 w w' : World} {F0 F : List Nat} {ps qs rest : List Ck} {v u : Value} {l : List UInt8}
theorem SL.any_in {Q : List Ck → Prop} (h : Q qs) (hs : SL w0 F0 w (qs ++ ps)) : SL w0 F0 w (Any Q :: ps) := hs.re fun F hst => by
  obtain ⟨F1, F2, e, h1, h2, hd⟩ := Star.append.1 hst
  exact ⟨F, ⟨F1, F2, e, ⟨qs, h, h1⟩, h2, hd⟩, fun _ => Iff.rfl⟩
theorem SL.any_out {Q : List Ck → Prop} (hs : SL w0 F0 w (Any Q :: ps)) : ∃ qs, Q qs ∧ SL w0 F0 w (qs ++ ps) := by
  obtain ⟨F, ⟨F1, F2, e, ⟨qs, h, h1⟩, h2, hd⟩, hF⟩ := hs.st
  exact ⟨qs, h, hs.fm, F, Star.append.2 ⟨F1, F2, e, h1, h2, hd⟩, hF⟩
theorem SL.tk (hs : SL w0 F0 w ps) (n : Nat) (e : ps.take n = qs) : SL w0 F0 w qs := by
  subst e
  rw [← List.take_append_drop n ps] at hs
  obtain ⟨F, hst, hF⟩ := hs.st
  obtain ⟨F1, F2, e, h1, h2, hd⟩ := Star.append.1 hst
  exact ⟨hs.fm, F1, h1, fun k hk => hF k (by simp [e, hk])⟩
/-- A function of types to types, held: c is what `giving` makes, d doubles, s swaps, t the rows' type. -/
def Gvc (c d s t : Nat) (v : Value) : Gv → Ck
  | .const l => Any fun qs => ∃ g u, v = clo c [.pointer (some ⟨g, 0, none⟩)] ∧ qs = [Blk g t [u], Sl Ty.u8 u l]
  | .dup => Any fun qs => v = clo d [] ∧ qs = []
  | .swap => Any fun qs => v = clo s [] ∧ qs = []
  | .nil => Any fun qs => v = .nilFunc ∧ qs = []
theorem SL.gv_const {c d s t g : Nat} (hv : v = clo c [.pointer (some ⟨g, 0, none⟩)]) (hs : SL w0 F0 w (Blk g t [u] :: Sl Ty.u8 u l :: ps)) : SL w0 F0 w (Gvc c d s t v (.const l) :: ps) :=
  SL.any_in (qs := [Blk g t [u], Sl Ty.u8 u l]) ⟨g, u, hv, rfl⟩ hs
theorem SL.gv_dup {c d s t : Nat} (hs : SL w0 F0 w ps) : SL w0 F0 w (Gvc c d s t (clo d []) .dup :: ps) := SL.any_in (qs := []) ⟨rfl, rfl⟩ hs
theorem SL.gv_swap {c d s t : Nat} (hs : SL w0 F0 w ps) : SL w0 F0 w (Gvc c d s t (clo s []) .swap :: ps) := SL.any_in (qs := []) ⟨rfl, rfl⟩ hs
theorem SL.gv_nil {c d s t : Nat} (hs : SL w0 F0 w ps) : SL w0 F0 w (Gvc c d s t .nilFunc .nil :: ps) := SL.any_in (qs := []) ⟨rfl, rfl⟩ hs
theorem SL.gv_form {c d s t : Nat} {x : Gv} (hs : SL w0 F0 w ps) (hm : Gvc c d s t v x ∈ ps) : v.cells = #[v] ∧ v.oneCell' = true := by
  obtain ⟨F, hst, _⟩ := hs.st
  obtain ⟨G, h, _⟩ := star_mem hm hst
  cases x with
  | const l => obtain ⟨qs, ⟨g, u, rfl, _⟩, _⟩ := h; exact ⟨rfl, rfl⟩
  | dup => obtain ⟨qs, ⟨rfl, _⟩, _⟩ := h; exact ⟨rfl, rfl⟩
  | swap => obtain ⟨qs, ⟨rfl, _⟩, _⟩ := h; exact ⟨rfl, rfl⟩
  | nil => obtain ⟨qs, ⟨rfl, _⟩, _⟩ := h; exact ⟨rfl, rfl⟩
/-- The numbers of functions and types. -/
structure Nums where
  giving1 : Nat
  dup : Nat
  swap : Nat
  fixed1 : Nat
  call : Nat
  ret : Nat
  classed1 : Nat
  field1 : Nat
  types : Nat
  wants : Nat
  gv : Nat
  bool : Nat
def Tlc {W : Type} (n : Nums) (T : Ty W) (v : Value) : Tell W → Ck
  | .fixed takes x => Any fun qs => ∃ g1 g2 u1 u2, v = clo n.fixed1 [.pointer (some ⟨g1, 0, none⟩), .pointer (some ⟨g2, 0, none⟩)] ∧ qs = [Blk g1 n.wants [u1], Sl T u1 takes, Blk g2 n.gv [u2], Gvc n.giving1 n.dup n.swap n.types u2 x]
  | .call => Any fun qs => v = clo n.call [] ∧ qs = []
  | .ret x => Any fun qs => ∃ g u, v = clo n.ret [.pointer (some ⟨g, 0, none⟩)] ∧ qs = [Blk g n.gv [u], Gvc n.giving1 n.dup n.swap n.types u x]
  | .classed takes b => Any fun qs => ∃ g1 g2 u, v = clo n.classed1 [.pointer (some ⟨g1, 0, none⟩), .pointer (some ⟨g2, 0, none⟩)] ∧ qs = [Blk g1 n.bool [.bool b], Blk g2 n.wants [u], Sl T u takes]
  | .field b => Any fun qs => ∃ g, v = clo n.field1 [.pointer (some ⟨g, 0, none⟩)] ∧ qs = [Blk g n.bool [.bool b]]
  | .nil => Any fun qs => v = .nilFunc ∧ qs = []
theorem clo_cells {f : Nat} {c : List Value} (h : v = clo f c) : v.cells = #[v] := by subst h; rfl
theorem clo_one {f : Nat} {c : List Value} (h : v = clo f c) : v.oneCell' = true := by subst h; rfl
section
variable {W : Type} {n : Nums} {T : Ty W} {takes : List W} {x : Gv} {u1 u2 : Value} {g g1 g2 : Nat} {b : Bool}
theorem SL.tl_fixed (hv : v = clo n.fixed1 [.pointer (some ⟨g1, 0, none⟩), .pointer (some ⟨g2, 0, none⟩)]) (hs : SL w0 F0 w (Blk g1 n.wants [u1] :: Sl T u1 takes :: Blk g2 n.gv [u2] :: Gvc n.giving1 n.dup n.swap n.types u2 x :: ps)) : SL w0 F0 w [Tlc n T v (.fixed takes x)] :=
  SL.any_in (qs := [Blk g1 n.wants [u1], Sl T u1 takes, Blk g2 n.gv [u2], Gvc n.giving1 n.dup n.swap n.types u2 x]) ⟨g1, g2, u1, u2, hv, rfl⟩ (ps := []) (hs.tk 4 rfl)
theorem SL.tl_call (hv : v = clo n.call []) (hs : SL w0 F0 w ps) : SL w0 F0 w [Tlc n T v .call] := SL.any_in (qs := []) ⟨hv, rfl⟩ (ps := []) (hs.tk 0 rfl)
theorem SL.tl_ret (hv : v = clo n.ret [.pointer (some ⟨g, 0, none⟩)]) (hs : SL w0 F0 w (Blk g n.gv [u2] :: Gvc n.giving1 n.dup n.swap n.types u2 x :: ps)) : SL w0 F0 w [Tlc n T v (.ret x)] :=
  SL.any_in (qs := [Blk g n.gv [u2], Gvc n.giving1 n.dup n.swap n.types u2 x]) ⟨g, u2, hv, rfl⟩ (ps := []) (hs.tk 2 rfl)
theorem SL.tl_classed (hv : v = clo n.classed1 [.pointer (some ⟨g1, 0, none⟩), .pointer (some ⟨g2, 0, none⟩)]) (hs : SL w0 F0 w (Blk g1 n.bool [.bool b] :: Blk g2 n.wants [u1] :: Sl T u1 takes :: ps)) : SL w0 F0 w [Tlc n T v (.classed takes b)] :=
  SL.any_in (qs := [Blk g1 n.bool [.bool b], Blk g2 n.wants [u1], Sl T u1 takes]) ⟨g1, g2, u1, hv, rfl⟩ (ps := []) (hs.tk 3 rfl)
theorem SL.tl_field (hv : v = clo n.field1 [.pointer (some ⟨g, 0, none⟩)]) (hs : SL w0 F0 w (Blk g n.bool [.bool b] :: ps)) : SL w0 F0 w [Tlc n T v (.field b)] :=
  SL.any_in (qs := [Blk g n.bool [.bool b]]) ⟨g, hv, rfl⟩ (ps := []) (hs.tk 1 rfl)
theorem SL.tl_nil (hv : v = .nilFunc) (hs : SL w0 F0 w ps) : SL w0 F0 w [Tlc n T v .nil] := SL.any_in (qs := []) ⟨hv, rfl⟩ (ps := []) (hs.tk 0 rfl)
end
theorem star_any {Q : List Ck → Prop} (h : Star [Any Q] w F) : ∃ qs, Q qs ∧ Star qs w F := by
  obtain ⟨F1, F2, e, ⟨qs, h1, h2⟩, h3, _⟩ := h
  have h4 : F2 = [] := h3
  subst h4
  rw [List.append_nil] at e
  exact ⟨qs, h1, e ▸ h2⟩
/-- Lists of chunks that lie in one footprint, each for itself: they may share. -/
def Bag (L : List (List Ck)) : Ck := ⟨fun w F => (∀ qs ∈ L, ∃ F', Star qs w F' ∧ ∀ k ∈ F', k ∈ F) ∧ ∀ k ∈ F, k < w.heap.size,
  fun ⟨h1, h2⟩ hk => ⟨fun qs hq => by
    obtain ⟨F', h3, h4⟩ := h1 qs hq
    exact ⟨F', h3.loc fun k hk' => hk k (h4 k hk'), h4⟩, fun k hk' => by
    have h3 := hk k hk'
    rw [Array.getElem?_eq_getElem (h2 k hk')] at h3
    exact (Array.getElem?_eq_some_iff.1 h3).1⟩, fun h => h.2⟩
theorem SL.bag_nil (hs : SL w0 F0 w ps) : SL w0 F0 w (Bag [] :: ps) := hs.re fun F hst => ⟨F, ⟨[], F, rfl, ⟨fun _ h => (nomatch h), fun _ h => (nomatch h)⟩, hst, fun _ h => (nomatch h)⟩, fun _ => Iff.rfl⟩
theorem SL.bag_mix {q1 : List Ck} {L : List (List Ck)} (hm : q1 ∈ L) (hs : SL w0 F0 w (qs ++ Bag L :: ps)) : SL w0 F0 w (Bag ((qs ++ q1) :: L) :: ps) := hs.re fun F hst => by
  obtain ⟨F1, F2, e, h1, ⟨F3, F4, e2, ⟨h3, h3'⟩, h4, hd2⟩, hd⟩ := Star.append.1 hst
  refine ⟨F, ⟨F1 ++ F3, F4, by rw [e, e2, List.append_assoc], ⟨fun q hq => ?_, ?_⟩, h4, ?_⟩, fun _ => Iff.rfl⟩
  · rcases List.mem_cons.1 hq with rfl | hq
    · obtain ⟨F', h5, h6⟩ := h3 q1 hm
      exact ⟨F1 ++ F', Star.append.2 ⟨F1, F', rfl, h1, h5, fun k hk hk' => hd k hk (by rw [e2]; exact List.mem_append_left _ (h6 k hk'))⟩, fun k hk => by
        rcases List.mem_append.1 hk with h7 | h7
        · exact List.mem_append_left _ h7
        · exact List.mem_append_right _ (h6 k h7)⟩
    · obtain ⟨F', h5, h6⟩ := h3 q hq
      exact ⟨F', h5, fun k hk => List.mem_append_right _ (h6 k hk)⟩
  · intro k hk
    rcases List.mem_append.1 hk with h7 | h7
    · exact h1.lt k h7
    · exact h3' k h7
  · intro k hk hk'
    rcases List.mem_append.1 hk with h7 | h7
    · exact hd k h7 (by rw [e2]; exact List.mem_append_right _ hk')
    · exact hd2 k h7 hk'
theorem SL.bag_add {L : List (List Ck)} (hs : SL w0 F0 w (qs ++ Bag L :: ps)) : SL w0 F0 w (Bag (qs :: L) :: ps) := hs.re fun F hst => by
  obtain ⟨F1, F2, e, h1, ⟨F3, F4, e2, ⟨h3, h3'⟩, h4, hd2⟩, hd⟩ := Star.append.1 hst
  refine ⟨F, ⟨F1 ++ F3, F4, by rw [e, e2, List.append_assoc], ⟨fun q hq => ?_, ?_⟩, h4, ?_⟩, fun _ => Iff.rfl⟩
  · rcases List.mem_cons.1 hq with rfl | hq
    · exact ⟨F1, h1, fun k hk => List.mem_append_left _ hk⟩
    · obtain ⟨F', h5, h6⟩ := h3 q hq
      exact ⟨F', h5, fun k hk => List.mem_append_right _ (h6 k hk)⟩
  · intro k hk
    rcases List.mem_append.1 hk with h7 | h7
    · exact h1.lt k h7
    · exact h3' k h7
  · intro k hk hk'
    rcases List.mem_append.1 hk with h7 | h7
    · exact hd k h7 (by rw [e2]; exact List.mem_append_right _ hk')
    · exact hd2 k h7 hk'
theorem SL.bag_out {L : List (List Ck)} (hs : SL w0 F0 w (Bag L :: ps)) (hm : qs ∈ L) : SL w0 F0 w qs := by
  obtain ⟨F, ⟨F1, F2, e, ⟨h1, _⟩, _, _⟩, hF⟩ := hs.st
  obtain ⟨F', h3, h4⟩ := h1 qs hm
  exact ⟨hs.fm, F', h3, fun k hk => hF k (by rw [e]; exact List.mem_append_left _ (h4 k hk))⟩
theorem cons_all {α : Type} {Q : Nat → α → Prop} {x : α} {l : List α} (h0 : Q 0 x) (h : ∀ k t, l[k]? = some t → Q (k + 1) t) : ∀ k t, (x :: l)[k]? = some t → Q k t
  | 0, _, e => by cases e; exact h0
  | k + 1, t, e => h k t (by simpa using e)
theorem nil_all {α : Type} {Q : Nat → α → Prop} : ∀ k t, ([] : List α)[k]? = some t → Q k t := by simp
end
section
variable {P : Program} {w0 w : World} {F0 F : List Nat} {ps rest : List Ck} {m : List (Nat × Value)} {n d : Nat} {ty : TypeId} {pos : String} {aft : Array Edge} {x y z : Operand} {ops : Array Oper} {Q : Exit → Act → World → Prop} {a : Act} {l' : List Oper} {dd : Option Tmp} {gd : Option (Nat × Bool)}
/-- The address of an element of an array of one-cell elements, at a known place. -/
theorem ex_ixfa {t e g k i : Nat} {kk : IntKind} (hb : arB P t e k 1 = true) (hx : ev m x = some (.pointer (some ⟨g, 0, none⟩))) (hy : ev m y = some (.int kk (i : Int))) (hi : i < k) :
    EX P w m ⟨dd, .indexAddr t x y, ty, pos, aft, gd⟩ (.pointer (some ⟨g, i, none⟩)) w := fun a _ hF => by
  obtain ⟨hu, ti, h5, h6⟩ := arB_spec hb
  have e1 : (0 ≤ (i : Int) ∧ (i : Int) < (k : Int)) := by omega
  simp [execOp, hF.eval hx, hF.eval hy, Instr.indexAt, asIntOf, run_underlying hu, e1, sizeOf, typeInfo, h5, h6, hi, add_mk, Instr.sureAddr]
theorem ex_ixtab {t e k : Nat} {vs : List Value} {tv : Value} {b : UInt8} (hb : arB P t e k 1 = true) (hn : nagB P e = true) (hl : vs.length = k) (hx : ev m x = some (.agg ⟨vs⟩)) (hy : ev m y = some (.int .u8 (b.toNat : Int))) (hi : vs[b.toNat]? = some tv) :
    EX P w m ⟨dd, .index t x y, ty, pos, aft, gd⟩ tv w := fun a _ hF => by
  obtain ⟨hu, ti, h5, h6⟩ := arB_spec hb
  have e1 : b.toNat < k := by
    have := (List.getElem?_eq_some_iff.1 hi).1
    omega
  have h4 : (part e ⟨vs⟩ (b.toNat * 1)).run P w = .ok tv w := part_s hn (by rw [Nat.mul_one]; exact hi) w
  simp only [execOp, hF.eval hx, hF.eval hy]
  rw [Nat.mul_one] at h4
  simp [Instr.index, asIntOf, run_underlying hu, e1, sizeOf, typeInfo, h5, h6, h4]
end
end Go.Pv
