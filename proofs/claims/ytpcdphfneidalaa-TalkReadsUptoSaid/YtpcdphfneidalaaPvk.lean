/- Regions that draw their order and turn the world: what only reads comes up first; the rest one by one. Bytes to texts. -/
import Derived.Test.YtpcdphfneidalaaPvi
import Derived.OrdersHeld
import Derived.Deep.RegionHeld3
set_option linter.unusedVariables false
set_option linter.unusedSimpArgs false
namespace Go.Pv
open Go Go.RowKit

section
variable {P : Program} {ops : Array Oper} {S : World → Prop} {Q : Exit → Act → World → Prop} {n d : Nat} {m : List (Nat × Value)} {a : Act} {w : World}
def KQ (K : Act → World → Prop) : Exit → Act → World → Prop
  | .normal, a, w => K a w
  | _, _, _ => False
theorem upon_q {o : Oper} {K next : Act → World → Prop} {r : Result Next} (h : o.upon P a next (KQ K) r) : o.upon P a next Q r := by
  cases r with
  | ok x w' =>
    cases x <;> simp only [Oper.upon] at h ⊢ <;>
      first
        | exact h
        | exact Calls.mono h (fun e w'' he => by
            cases e with
            | returned v => exact he
            | panicked c => exact (he : False).elim
            | outgrown => obtain ⟨_, _, he⟩ := he; exact (he : False).elim)
  | halt x w' => cases x <;> simp only [Oper.upon] at h ⊢ <;> first | exact h | exact (h : False).elim
theorem wpOp_of {i : Nat} {o : Oper} {K : Act → World → Prop} (hi : ops[i]? = some o) (h : wpList P ops (KQ K) [o] a w) : wpOp P ops Q i K a w := by
  unfold wpList at h
  unfold wpOp
  simp only [hi]
  split
  · rename_i hw
    rw [if_pos hw] at h
    rcases h with h | ⟨_, _, _, h⟩
    · exact .inl (upon_q h)
    · exact (h : False).elim
  · rename_i hw
    rw [if_neg hw] at h
    exact h
theorem hd_take {i : Nat} {oi : Oper} {v : Value} {fuel : Nat} {listed : Array Bool} (hi : ops[i]? = some oi) (hs : Region.noSelect ops = true) (hf : Region.free .any ops listed i = true) (hr : (Region.ready .any ops listed).contains i = true)
    (he : ∀ w, S w → EX P w m oi v w) (hg : oi.guard = none) (hd : oi.dst = some d) (hlt : Nat.blt d n = true) (hF : Fr a n m) (hS : S w)
    (k : ∀ a, Fr a n ((d, v) :: m) → wpAnyH P .any ops (NoPanic Q) S fuel (listed.setIfInBounds i true) a w) : wpAnyH P .any ops (NoPanic Q) S (fuel + 1) listed a w :=
  wpAnyH_take hi hs hf hr (fun _ _ _ h => (h : False).elim) (.inl ⟨by simp [Region.wanted, hg], fun w hw => he w hw a n hF⟩) hS (by rw [hd]; exact k _ (hF.put d v hlt))
theorem hd_one {i : Nat} {oi : Oper} {fuel : Nat} {listed : Array Bool} (hi : ops[i]? = some oi) (hr : Region.ready .any ops listed = [i])
    (h : wpList P ops (KQ fun a' w' => S w' ∧ wpAnyH P .any ops (NoPanic Q) S fuel (listed.setIfInBounds i true) a' w') [oi] a w) : wpAnyH P .any ops (NoPanic Q) S (fuel + 1) listed a w :=
  wpAnyH_all hr (by simp) (fun j hj => by
    rw [List.mem_singleton] at hj
    subst hj
    exact wpOp_of hi h)
theorem hd_done {fuel : Nat} {listed : Array Bool} (hr : Region.ready .any ops listed = []) (h : Q .normal a w) : wpAnyH P .any ops (NoPanic Q) S fuel listed a w := wpAnyH_done hr (NoPanic.normal h) fuel
theorem wp_regh {id : Nat} {l : List Oper} (hm : P.follows .mixedOrders = true) (S : World → Prop) (h : wpAnyH P .any l.toArray (NoPanic Q) S l.length (Array.replicate l.length false) a w.drew) : (Code.region id l.toArray true).wp P Q a w :=
  wp_region_noPanic (wp_region_held (S := S) hm (by simpa using h))
theorem kq_end {K : Act → World → Prop} (h : K a w) : wpList P ops (KQ K) [] a w := h
end

section
variable {P : Program} {w : World} {m : List (Nat × Value)} {dd : Option Tmp} {ty : TypeId} {pos : String} {aft : Array Edge} {g : Option (Nat × Bool)} {x y : Operand}
theorem ex_b2s {s e t : TypeId} {v : Value} {l : List UInt8} (hx : ev m x = some v) (hL : ∃ G, slRd Ty.u8 w G v l) (hs : P.underlying s = some (.slice e)) (he : P.underlying e = some (.int .u8)) (ht : P.underlying t = some .string) :
    EX P w m ⟨dd, .convert s t x, ty, pos, aft, g⟩ (.string ⟨⟨l⟩⟩) w := fun a n hF => by
  obtain ⟨G, A, c, rfl, hc, hi⟩ := hL
  have hrun : (convert s t (.slice A l.length c)).run P w = .ok (.string ⟨⟨l⟩⟩) w := by
    cases A with
    | none =>
      have : l = [] := by
        cases l with
        | nil => rfl
        | cons b l => obtain ⟨ad, _, h, _⟩ := hi 0 b rfl; cases h
      subst this
      rw [run_convert_bytes_string w s t e none _ _ hs he ht]
      rfl
    | some ad =>
      exact run_convert_bytes_back (P := P) w s t e ad c l hs he ht (fun j hj => by
        obtain ⟨ad', cs, h1, _, h2, h3⟩ := hi j _ (List.getElem?_eq_getElem hj)
        cases h1
        have h3 : cs = [.int .u8 (l[j].toNat : Int)] := h3
        subst h3
        have := h2 0 _ rfl
        rw [add_add', show j * Ty.u8.sz + 0 = j by show j * 1 + 0 = j; omega] at this
        exact this)
  simp [execOp, hF.eval hx, hrun]
end
end Go.Pv
