/- The plain functions. -/
import Derived.Test.YtmeodoidfpcjlaaTy
set_option linter.unusedVariables false
set_option linter.unusedSimpArgs false
namespace Go.Proofs.Ytmeodoidfpcjlaa
open Go Go.RowKit Go.Pv
-- proviso/flow.rising[int]
noncomputable def flow_rising_int (a0 : List (Int × Int)) : Option (List Int) := if a0.length ≤ 1000000000 then some (sortI (a0.map Prod.fst)) else none

-- slices.Clone[[]byte,byte]
noncomputable def slices_Clone_byte_byte (a0 : List UInt8) : Option ((List UInt8)) :=
  (app 140737488355328 ([] : List UInt8) a0).bind fun x61 => some x61
-- proviso/provisoplain.Roomy
noncomputable def provisoplain_Roomy (a0 : List UInt8) : Option ((List UInt8) × (List UInt8)) :=
  (slices_Clone_byte_byte a0).bind fun x34 => (app 140737488355328 x34 ([(165 : UInt8), (90 : UInt8), (195 : UInt8), (60 : UInt8)] : List UInt8)).bind fun x53 => (cutL x53 0 (a0.length : Int)).bind fun x70 => some (x70, x53)
-- proviso/talk.Upload
noncomputable def talk_Upload_b0 (a0 : List UInt8) (a1 : Int) (s0 : (List S_api_Request) × Int) : Option (((List S_api_Request) × Int) ⊕ (((List S_api_Request)))) :=
  if decide (s0.2 < (a0.length : Int)) = true then ((cutL a0 s0.2 (if (wr (s0.2 + a1)) < (a0.length : Int) then (wr (s0.2 + a1)) else (a0.length : Int))).bind fun x0 => (app 140737488355328 ([] : List UInt8) x0).bind fun x1 => (app 3518437208883 s0.1 ([(⟨5, s0.2, x1⟩ : S_api_Request)] : List S_api_Request)).bind fun x2 => some (.inl (x2, wr (s0.2 + a1)))) else (some (.inr s0.1))
noncomputable def talk_Upload (a0 : List UInt8) (a1 : Int) : Option ((List S_api_Request) × Int) :=
  if decide (a1 < 1) = true then (some (([] : List S_api_Request), 1)) else (if decide (a1 > 255) = true then (some (([] : List S_api_Request), 1)) else (if ((a0.length : Int) == 0) = true then (some (([] : List S_api_Request), 4)) else (if decide ((a0.length : Int) > 4096) = true then (some (([] : List S_api_Request), 4)) else ((loopO (talk_Upload_b0 a0 a1) (([(⟨4, (a0.length : Int), []⟩ : S_api_Request)] : List S_api_Request), 0)).bind fun o0 => ((app 3518437208883 o0 ([(⟨6, 0, []⟩ : S_api_Request)] : List S_api_Request)).bind fun x0 => some (x0, 0))))))
-- proviso/provisoref24.Upload
noncomputable def provisoref24_Upload_b0 (a0 : List UInt8) (a1 : Int) (s0 : (List S_api_Request) × Int) : Option (((List S_api_Request) × Int) ⊕ (((List S_api_Request)))) :=
  if decide (s0.2 < (a0.length : Int)) = true then (if decide ((wr (s0.2 + a1)) > (a0.length : Int)) = true then ((cutL a0 s0.2 (a0.length : Int)).bind fun x0 => (app 140737488355328 ([] : List UInt8) x0).bind fun x1 => (app 3518437208883 s0.1 ([(⟨5, s0.2, x1⟩ : S_api_Request)] : List S_api_Request)).bind fun x2 => some (.inl (x2, wr (s0.2 + a1)))) else ((cutL a0 s0.2 (wr (s0.2 + a1))).bind fun x3 => (app 140737488355328 ([] : List UInt8) x3).bind fun x4 => (app 3518437208883 s0.1 ([(⟨5, s0.2, x4⟩ : S_api_Request)] : List S_api_Request)).bind fun x5 => some (.inl (x5, wr (s0.2 + a1))))) else (some (.inr s0.1))
noncomputable def provisoref24_Upload (a0 : List UInt8) (a1 : Int) : Option ((List S_api_Request) × Int) :=
  if decide (a1 < 1) = true then (some (([] : List S_api_Request), 1)) else (if decide (a1 > 255) = true then (some (([] : List S_api_Request), 1)) else (if ((a0.length : Int) == 0) = true then (some (([] : List S_api_Request), 4)) else (if decide ((a0.length : Int) > 4096) = true then (some (([] : List S_api_Request), 4)) else ((loopO (provisoref24_Upload_b0 a0 a1) (([(⟨4, (a0.length : Int), []⟩ : S_api_Request)] : List S_api_Request), 0)).bind fun o0 => ((app 3518437208883 o0 ([(⟨6, 0, []⟩ : S_api_Request)] : List S_api_Request)).bind fun x0 => some (x0, 0))))))
-- slices.Equal[[]byte,byte]
noncomputable def slices_Equal_byte_byte_b0 (a0 : List UInt8) (a1 : List UInt8) (s0 : Int) : Option (Int ⊕ (Bool ⊕ Unit)) :=
  if decide (s0 < (a0.length : Int)) = true then ((idx a0 s0).bind fun x0 => (idx a1 s0).bind fun x1 => if ((x0.toNat : Int) != (x1.toNat : Int)) = true then (some (.inr (.inl false))) else (some (.inl (wr (s0 + 1))))) else (some (.inr (.inr (()))))
noncomputable def slices_Equal_byte_byte (a0 : List UInt8) (a1 : List UInt8) : Option Bool :=
  if ((a0.length : Int) != (a1.length : Int)) = true then (some false) else (((loopO (slices_Equal_byte_byte_b0 a0 a1) 0 : Option (Bool ⊕ Unit))).bind fun o0 => (match o0 with | .inl p0 => (some p0) | .inr p1 => (some true)))
-- proviso/provisolaw24.sameRequest
noncomputable def provisolaw24_sameRequest (a0 : S_api_Request) (a1 : S_api_Request) : Option Bool :=
  if (a0.Command == a1.Command) = true then (if (a0.Number == a1.Number) = true then ((slices_Equal_byte_byte a0.Data a1.Data).bind fun x0 => some x0) else (some false)) else (some false)
-- (*proviso/provisoplain.Shelf).Bytes
noncomputable def provisoplain_Shelf_Bytes (a0 : S_provisoplain_Shelf) (a1 : List UInt8) : Option S_provisoplain_Shelf :=
  (app 5864062014805 a0.bytes ([a1] : List (List UInt8))).bind fun x11 => some (⟨x11, a0.ints⟩ : S_provisoplain_Shelf)
-- proviso/provisoplain.mark
noncomputable def provisoplain_mark (a0 : Int) : Option Int :=
  some (wr ((Int.tmod a0 250) + 1))
-- (*proviso/provisoplain.Shelf).marked
noncomputable def provisoplain_Shelf_marked_bpp_b0 (s0 : Int) (x0 : List UInt8) (s1 : Int) : Option (Int ⊕ (Bool ⊕ Unit)) :=
  if decide (s1 < (x0.length : Int)) = true then ((idx x0 s1).bind fun x1 => (provisoplain_mark s0).bind fun x2 => if ((x1.toNat : Int) != ((toU8 x2).toNat : Int)) = true then (some (.inr (.inl false))) else (some (.inl (wr (s1 + 1))))) else (some (.inr (.inr (()))))
noncomputable def provisoplain_Shelf_marked_bpp_b1 (s0 : Int) (x0 : List UInt8) (s1 : Int) : Option (Int ⊕ (Bool ⊕ Unit)) :=
  if decide (s1 < (x0.length : Int)) = true then ((idx x0 s1).bind fun x1 => (provisoplain_mark s0).bind fun x2 => if ((x1.toNat : Int) != ((toU8 x2).toNat : Int)) = true then (some (.inr (.inl false))) else (some (.inl (wr (s1 + 1))))) else (some (.inr (.inr (()))))
noncomputable def provisoplain_Shelf_marked_bpp_b2 (a0 : S_provisoplain_Shelf) (a1 : List (List UInt8)) (s0 : Int) : Option (Int ⊕ (Bool ⊕ Unit)) :=
  if decide (s0 < (a0.bytes.length : Int)) = true then ((idx a0.bytes s0).bind fun x0 => ((loopO (provisoplain_Shelf_marked_bpp_b0 s0 x0) 0 : Option (Bool ⊕ Unit))).bind fun o0 => (match o0 with | .inl p0 => (some (.inr (.inl p0))) | .inr p1 => ((idx a1 s0).bind fun x1 => ((loopO (provisoplain_Shelf_marked_bpp_b1 s0 x1) 0 : Option (Bool ⊕ Unit))).bind fun o1 => (match o1 with | .inl p2 => (some (.inr (.inl p2))) | .inr p3 => (some (.inl (wr (s0 + 1)))))))) else (some (.inr (.inr (()))))
noncomputable def provisoplain_Shelf_marked_bpp_b3 (s0 : Int) (x0 : List Int) (s1 : Int) : Option (Int ⊕ (Bool ⊕ Unit)) :=
  if decide (s1 < (x0.length : Int)) = true then ((idx x0 s1).bind fun x1 => (provisoplain_mark s0).bind fun x2 => if (x1 != x2) = true then (some (.inr (.inl false))) else (some (.inl (wr (s1 + 1))))) else (some (.inr (.inr (()))))
noncomputable def provisoplain_Shelf_marked_bpp_b4 (s0 : Int) (x0 : List Int) (s1 : Int) : Option (Int ⊕ (Bool ⊕ Unit)) :=
  if decide (s1 < (x0.length : Int)) = true then ((idx x0 s1).bind fun x1 => (provisoplain_mark s0).bind fun x2 => if (x1 != x2) = true then (some (.inr (.inl false))) else (some (.inl (wr (s1 + 1))))) else (some (.inr (.inr (()))))
noncomputable def provisoplain_Shelf_marked_bpp_b5 (a0 : S_provisoplain_Shelf) (a2 : List (List Int)) (s0 : Int) : Option (Int ⊕ (Bool ⊕ Unit)) :=
  if decide (s0 < (a0.ints.length : Int)) = true then ((idx a0.ints s0).bind fun x0 => ((loopO (provisoplain_Shelf_marked_bpp_b3 s0 x0) 0 : Option (Bool ⊕ Unit))).bind fun o0 => (match o0 with | .inl p0 => (some (.inr (.inl p0))) | .inr p1 => ((idx a2 s0).bind fun x1 => ((loopO (provisoplain_Shelf_marked_bpp_b4 s0 x1) 0 : Option (Bool ⊕ Unit))).bind fun o1 => (match o1 with | .inl p2 => (some (.inr (.inl p2))) | .inr p3 => (some (.inl (wr (s0 + 1)))))))) else (some (.inr (.inr (()))))
noncomputable def provisoplain_Shelf_marked_bpp (a0 : S_provisoplain_Shelf) (a1 : List (List UInt8)) (a2 : List (List Int)) : Option Bool :=
  ((loopO (provisoplain_Shelf_marked_bpp_b2 a0 a1) 0 : Option (Bool ⊕ Unit))).bind fun o0 => (match o0 with | .inl p0 => (some p0) | .inr p1 => (((loopO (provisoplain_Shelf_marked_bpp_b5 a0 a2) 0 : Option (Bool ⊕ Unit))).bind fun o1 => (match o1 with | .inl p2 => (some p2) | .inr p3 => (some true))))
-- (*proviso/provisoplain.Shelf).Own
noncomputable def fB (i : Nat) : UInt8 := toU8 (wr (Int.tmod (i : Int) 250 + 1))
noncomputable def fI (i : Nat) : Int := wr (Int.tmod (i : Int) 250 + 1)
noncomputable def provisoplain_Shelf_Own (a0 : S_provisoplain_Shelf) : Option Bool :=
  if (∀ l ∈ a0.bytes, l.length + 80 ≤ 140737488355328) ∧ (∀ l ∈ a0.ints, l.length + 80 ≤ 17592186044416) ∧ a0.bytes.length ≤ 1048576000 ∧ a0.ints.length ≤ 1048576000 then provisoplain_Shelf_marked_bpp ⟨marks fB 0 a0.bytes, marks fI 0 a0.ints⟩ (mores fB 0 (marks fB 0 a0.bytes)) (mores fI 0 (marks fI 0 a0.ints)) else none
-- proviso/provisoplain.Untouched
noncomputable def provisoplain_Untouched (a0 : List UInt8) (a1 : List UInt8) : Option Bool :=
  (cutL a0 0 (a1.length : Int)).bind fun x0 => (slices_Equal_byte_byte x0 a1).bind fun x1 => if x1 = true then ((idx a0 (a1.length : Int)).bind fun x2 => if ((x2.toNat : Int) == 165) = true then ((idx a0 (wr ((a1.length : Int) + 1))).bind fun x3 => if ((x3.toNat : Int) == 90) = true then ((idx a0 (wr ((a1.length : Int) + 2))).bind fun x4 => if ((x4.toNat : Int) == 195) = true then ((idx a0 (wr ((a1.length : Int) + 3))).bind fun x5 => some ((x5.toNat : Int) == 60)) else (some false)) else (some false)) else (some false)) else (some false)
-- proviso/provisolaw24.TalkUploads
noncomputable def provisolaw24_TalkUploads (a0 : List UInt8) (a1 : Int) : Option Bool :=
  (provisoplain_Roomy a0).bind fun x => (talk_Upload x.1 a1).bind fun l => (provisoref24_Upload a0 a1).bind fun wt =>
    @ite (Option Bool) (l.2 = wt.2 ∧ l.1.length = wt.1.length ∧ l.1.length ≤ 1000000 ∧ (∀ (i : Nat) y z, l.1[i]? = some y → wt.1[i]? = some z → provisolaw24_sameRequest y z = some true) ∧ provisoplain_Shelf_Own ⟨l.1.map fun y => y.Data, []⟩ = some true) (Classical.propDecidable _) (provisoplain_Untouched x.2 a0) none
end Go.Proofs.Ytmeodoidfpcjlaa
