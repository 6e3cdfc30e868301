/- Regions that draw their order and only read; structs by value; rows that came in; cuts of and stores into rows of one's own. -/
import Derived.Test.YtkcehlfcfcabmaaGreatPve
set_option linter.unusedVariables false
set_option linter.unusedSimpArgs false
namespace Go.Pv
open Go Go.RowKit

/-! ### Regions that draw -/
section
variable {P : Program} {w : World} {m m' : List (Nat × Value)} {n d : Nat} {a : Act} {ops : Array Oper} {C : World → Prop} {o : Oper} {v : Value} {rest rest' : List Oper}
def QR (P : Program) (n : Nat) (ops : Array Oper) (C : World → Prop) (m : List (Nat × Value)) (l : List Oper) (m' : List (Nat × Value)) (l' : List Oper) : Prop :=
  ∀ (Q : Act → Prop) a, Fr a n m → (∀ a, Fr a n m' → wpQuiet P ops C Q l' a) → wpQuiet P ops C Q l a
theorem QR.nil {l : List Oper} : QR P n ops C m l m l := fun _ a hF k => k a hF
theorem QR.op (he : ∀ w, C w → EX P w m o v w) (k : QR P n ops C ((d, v) :: m) rest m' rest') (hg : o.guard = none := by rfl) (hd : o.dst = some d := by rfl) (hlt : Nat.blt d n = true := by rfl) : QR P n ops C m (o :: rest) m' rest' :=
  fun Q a hF k' => by
    unfold wpQuiet
    rw [if_pos (by simp [Region.wanted, hg])]
    refine ⟨v, fun w hw => ?_, ?_⟩
    · unfold Oper.quietAt
      rw [he w hw a n hF]
      exact ⟨rfl, rfl⟩
    · rw [hd]
      exact k Q _ (hF.put d v hlt) k'
theorem QR.gop {j dj : Nat} {b : Bool} (he : ∀ w, C w → EX P w m o v w) (hg : o.guard = some (j, b)) (hj : (ops[j]?).bind (·.dst) = some dj) (hb : look m dj = some (.bool b)) (k : QR P n ops C ((d, v) :: m) rest m' rest') (hd : o.dst = some d := by rfl) (hlt : Nat.blt d n = true := by rfl) : QR P n ops C m (o :: rest) m' rest' :=
  fun Q a hF k' => by
    unfold wpQuiet
    rw [if_pos (by simp [Region.wanted, hg, yielded_of hF hj hb])]
    refine ⟨v, fun w hw => ?_, ?_⟩
    · unfold Oper.quietAt
      rw [he w hw a n hF]
      exact ⟨rfl, rfl⟩
    · rw [hd]
      exact k Q _ (hF.put d v hlt) k'
theorem QR.gskip {j dj : Nat} {b c : Bool} (hg : o.guard = some (j, c)) (hj : (ops[j]?).bind (·.dst) = some dj) (hb : look m dj = some (.bool b)) (hne : b ≠ c) (k : QR P n ops C ((d, undef) :: m) rest m' rest') (hd : o.dst = some d := by rfl) (hlt : Nat.blt d n = true := by rfl) : QR P n ops C m (o :: rest) m' rest' :=
  fun Q a hF k' => by
    unfold wpQuiet
    rw [if_neg (by simp [Region.wanted, hg, yielded_of hF hj hb]; exact hne)]
    rw [hd]
    exact k Q _ (hF.put d undef hlt) k'
theorem QR.gskip' {j dj : Nat} {c : Bool} (hg : o.guard = some (j, c)) (hj : (ops[j]?).bind (·.dst) = some dj) (hb : look m dj = some undef) (k : QR P n ops C ((d, undef) :: m) rest m' rest') (hd : o.dst = some d := by rfl) (hlt : Nat.blt d n = true := by rfl) : QR P n ops C m (o :: rest) m' rest' :=
  fun Q a hF k' => by
    unfold wpQuiet
    have : yielded ops a.tmps j = none := by
      unfold yielded
      rw [hj]
      simp only [Option.bind_some]
      rw [hF.at_ _ _ hb]
      rfl
    rw [if_neg (by simp [Region.wanted, hg, this])]
    rw [hd]
    exact k Q _ (hF.put d undef hlt) k'
/-- A quiet call: one value, and the chunks as they were. -/
theorem QR.call {f : Nat} {args : List Operand} {ats : Array TypeId} {vs : List Value} {ty : TypeId} {pos : String} {aft : Array Edge} (hf : fnB P f = true) (hargs : evs m args = some vs) (hc : ∀ w, C w → Calls P f vs.toArray w (Ret fun u w' => u = v ∧ C w'))
    (k : QR P n ops C ((d, v) :: m) rest m' rest') (hlt : Nat.blt d n = true := by rfl) : QR P n ops C m (⟨some d, .call { callee := .value (.func f), args := args.toArray, argTypes := ats }, ty, pos, aft, none⟩ :: rest) m' rest' :=
  fun Q a hF k' => by
    unfold wpQuiet
    rw [if_pos (by simp [Region.wanted])]
    refine ⟨v, fun w hw => ?_, ?_⟩
    · unfold Oper.quietAt
      have h2 := hF.evals hargs
      have h1 : (execOp a.eval ⟨some d, .call { callee := .value (.func f), args := args.toArray, argTypes := ats }, ty, pos, aft, none⟩).run P w = .ok (.enter f vs.toArray) w := by
        simp [execOp, resolve, Deferred.ofValue, Act.eval, invoke, h2, run_callFunc hf]
      rw [h1]
      exact ⟨rfl, (hc w hw).mono fun e w' ⟨u, he, hu, hw'⟩ => ⟨by rw [he, hu], hw'⟩⟩
    · exact k Q _ (hF.put d v hlt) k'
theorem wp_regq {id : Nat} {l : List Oper} {Q : Exit → Act → World → Prop} (C : World → Prop) (hm : P.follows .mixedOrders = true) (hB : Region.lexB .any l.toArray = true) (hC : C w.drew) (hF : Fr a n m) (h : QR P n l.toArray C m l m' [])
    (k : ∀ w a, C w → Fr a n m' → Q .normal a w) : (Code.region id l.toArray true).wp P Q a w := by
  refine wp_region_quiet (C := C) hm hB hC ?_
  simp only
  exact h _ a hF fun a hF => wpQuiet_nil fun w' hw' => k w' a hw' hF

theorem PR.gop {j dj : Nat} {b : Bool} (he : EX P w m o v w) (hg : o.guard = some (j, b)) (hb : look m dj = some (.bool b)) (hj : (ops[j]?).bind (·.dst) = some dj) (hd : o.dst = some d) (hlt : Nat.blt d n = true)
    {Q : Exit → Act → World → Prop} (hF : Fr a n m) (k : ∀ a, Fr a n ((d, v) :: m) → wpList P ops Q rest a w) : wpList P ops Q (o :: rest) a w := st_gop hF hg hj hb he hd hlt k
end

/-! ### Structs by value -/
def fdB (P : Program) (s f off : Nat) : Bool := match P.underlying s with
  | some (.struct fs) => match fs[f]? with
    | some fd => fd.offset == off && nagB P fd.type
    | none => false
  | _ => false
def fdaB (P : Program) (s f off sz : Nat) : Bool := match P.underlying s with
  | some (.struct fs) => match fs[f]? with
    | some fd => fd.offset == off && aggB P fd.type sz
    | none => false
  | _ => false
def sizeB (P : Program) (t sz : Nat) : Bool := match P.info? t with | some i => i.size == sz | none => false
def plB (P : Program) (t : Nat) (pl : List (Nat × Nat)) : Bool := match P.underlying t with
  | some (.struct fs) => fs.size == pl.length && (fs.toList.zip pl).all fun p => p.1.offset == p.2.1 && sizeB P p.1.type p.2.2
  | _ => false
section
variable {P : Program} {w : World} {m : List (Nat × Value)} {dd : Option Tmp} {ty : TypeId} {pos : String} {aft : Array Edge} {g : Option (Nat × Bool)} {x y : Operand}
theorem ex_field {s f off : Nat} {cs : List Value} {u : Value} (hb : fdB P s f off = true) (hx : ev m x = some (.agg ⟨cs⟩)) (hc : cs[off]? = some u) : EX P w m ⟨dd, .field s x f, ty, pos, aft, g⟩ u w := fun a n hF => by
  unfold fdB at hb
  split at hb
  · rename_i fs h1
    split at hb
    · rename_i fd h2
      simp only [Bool.and_eq_true, beq_iff_eq] at hb
      obtain ⟨h3, h4⟩ := hb
      simp only [execOp, hF.eval hx]
      simp [Instr.field, run_underlying h1, h2, asAgg, part, nagB_spec h4, h3, hc]
    · cases hb
  · cases hb
theorem ex_fielda {s f off sz : Nat} {cs ds : List Value} (hb : fdaB P s f off sz = true) (hx : ev m x = some (.agg ⟨cs⟩)) (hd : (cs.drop off).take sz = ds) : EX P w m ⟨dd, .field s x f, ty, pos, aft, g⟩ (.agg ⟨ds⟩) w := fun a n hF => by
  unfold fdaB at hb
  split at hb
  · rename_i fs h1
    split at hb
    · rename_i fd h2
      simp only [Bool.and_eq_true, beq_iff_eq] at hb
      obtain ⟨h3, h4⟩ := hb
      simp only [execOp, hF.eval hx]
      simp [Instr.field, run_underlying h1, h2, asAgg, part, aggB_spec h4, h3]
      rw [← hd]
    · cases hb
  · cases hb

theorem run_sizeOf {t sz : Nat} (h : sizeB P t sz = true) (w : World) : (sizeOf t).run P w = .ok sz w := by
  unfold sizeB at h
  split at h
  · rename_i i hi
    simp [sizeOf, typeInfo, hi, beq_iff_eq.1 h]
  · cases h
theorem run_places : ∀ (fs : List Field) (pl : List (Nat × Nat)), fs.length = pl.length → (fs.zip pl).all (fun p => p.1.offset == p.2.1 && sizeB P p.1.type p.2.2) = true →
    (fs.mapM (fun f => do pure (f.offset, ← sizeOf f.type) : Field → Sem (Nat × Nat))).run P w = .ok pl w
  | [], [], _, _ => rfl
  | f :: fs, (o, s) :: pl, hl, h => by
    simp only [List.zip_cons_cons, List.all_cons, Bool.and_eq_true, beq_iff_eq] at h
    obtain ⟨⟨h1, h2⟩, h3⟩ := h
    have ih := run_places fs pl (by simpa using hl) h3
    rw [List.mapM_cons]
    simp only [Sem.run_bind, Sem.run_pure, run_sizeOf h2, Result.andThen_ok, ih, h1]
theorem zip_eval (ρ : Operand → Value) : ∀ parts : List (Nat × Operand), (parts.map fun p => (p.1, ρ p.2)) = (parts.map Prod.fst).zip ((parts.map Prod.snd).map ρ)
  | [] => rfl
  | p :: r => by simp only [List.map_cons, List.zip_cons_cons]; rw [zip_eval ρ r]
theorem ex_build {t : Nat} {pl : List (Nat × Nat)} {zs : List Value} {parts : List (Nat × Operand)} {vs cs : List Value} (hz : (P.info? t).bind (·.zero) = some (.agg ⟨zs⟩)) (hp : plB P t pl = true) (hev : evs m (parts.map Prod.snd) = some vs)
    (hfill : Instr.fill (fun i => pl[i]?) ⟨zs⟩ ((parts.map Prod.fst).zip vs) = some ⟨cs⟩) : EX P w m ⟨dd, .build t parts.toArray, ty, pos, aft, g⟩ (.agg ⟨cs⟩) w := fun a n hF => by
  obtain ⟨i, hi, hz⟩ := Option.bind_eq_some_iff.1 hz
  unfold plB at hp
  split at hp
  · rename_i fs h1
    simp only [Bool.and_eq_true, beq_iff_eq] at hp
    obtain ⟨h2, h3⟩ := hp
    have hpl := run_places (P := P) (w := w) fs.toList pl (by simpa using h2) h3
    have h4 := hF.evals hev
    have h5 : (parts.map fun p => (p.1, a.eval p.2)) = (parts.map Prod.fst).zip vs := by
      rw [← h4]
      exact zip_eval _ _
    have h6 : (fs.mapM (fun f => do pure (f.offset, ← sizeOf f.type) : Field → Sem (Nat × Nat))).run P w = .ok pl.toArray w := by
      rw [← Array.toArray_toList (xs := fs), List.mapM_toArray]
      simp only [Sem.run_map, hpl, Result.andThen_ok]
    simp only [execOp, List.map_toArray]
    rw [h5]
    simp only [Instr.build, Sem.run_bind, zeroValue, typeInfo, run_program, Result.andThen_ok, hi, Sem.run_pure, hz, run_underlying h1, h6]
    simp [Value.cells, hfill]
  · cases hp
end
end Go.Pv
