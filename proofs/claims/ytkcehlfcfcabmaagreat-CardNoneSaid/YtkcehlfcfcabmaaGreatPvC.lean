/- Regions that draw their order and turn the world, told by what has been done. -/
import Derived.Test.YtkcehlfcfcabmaaGreatPvB
set_option linter.unusedVariables false
set_option linter.unusedSimpArgs false
namespace Go.Pv
open Go Go.RowKit
def mark (k : Nat) (D : List Nat) : Array Bool := D.foldr (fun i A => A.setIfInBounds i true) (Array.replicate k false)
/-- What is left to do once D has been done. -/
def HD (P : Program) (ops : Array Oper) (Q : Exit → Act → World → Prop) (S : World → Prop) (D : List Nat) (a : Act) (w : World) : Prop :=
  wpAnyH P .any ops (NoPanic Q) S (ops.size - D.length) (mark ops.size D) a w
def rdy (ops : Array Oper) (D : List Nat) : List Nat := Region.ready .any ops (mark ops.size D)
def qok (ops : Array Oper) : List Nat → List Nat → Bool
  | _, [] => true
  | D, i :: is => Nat.blt D.length ops.size && (Region.free .any ops (mark ops.size D) i && ((rdy ops D).contains i && qok ops (i :: D) is))
/-- Some operations that only read. -/
inductive QI (P : Program) (ops : Array Oper) (n : Nat) (S : World → Prop) : Mp_ → List Nat → Mp_ → Prop
  | nil {m : Mp_} : QI P ops n S m [] m
  | op {m m' : Mp_} {is : List Nat} {i d : Nat} {o : Oper} {v : Value} (hi : ops[i]? = some o) (he : ∀ w, S w → EX P w m o v w) (hd : dstG o n = some d) (t : QI P ops n S ((d, v) :: m) is m') : QI P ops n S m (i :: is) m'
  | gop {m m' : Mp_} {is : List Nat} {i d j dj : Nat} {b : Bool} {o : Oper} {v : Value} (hi : ops[i]? = some o) (he : ∀ w, S w → EX P w m o v w) (hg : o.guard = some (j, b)) (hj : (ops[j]?).bind (·.dst) = some dj) (hb : look m dj = some (.bool b)) (hd : o.dst = some d) (hlt : Nat.blt d n = true) (t : QI P ops n S ((d, v) :: m) is m') : QI P ops n S m (i :: is) m'
  | skip {m m' : Mp_} {is : List Nat} {i d j dj : Nat} {b c : Bool} {o : Oper} (hi : ops[i]? = some o) (hg : o.guard = some (j, c)) (hj : (ops[j]?).bind (·.dst) = some dj) (hb : look m dj = some (.bool b)) (hne : b ≠ c) (hd : o.dst = some d) (hlt : Nat.blt d n = true) (t : QI P ops n S ((d, undef) :: m) is m') : QI P ops n S m (i :: is) m'
  | skip' {m m' : Mp_} {is : List Nat} {i d j dj : Nat} {c : Bool} {o : Oper} (hi : ops[i]? = some o) (hg : o.guard = some (j, c)) (hj : (ops[j]?).bind (·.dst) = some dj) (hb : look m dj = some undef) (hd : o.dst = some d) (hlt : Nat.blt d n = true) (t : QI P ops n S ((d, undef) :: m) is m') : QI P ops n S m (i :: is) m'
  | kn {m m' : Mp_} {is : List Nat} {dj : Nat} {t b : Bool} (hl : look m dj = some (.bool t)) (ht : t = b) (k : QI P ops n S ((dj, .bool b) :: m) is m') : QI P ops n S m is m'
/-- Some that are reckoned. -/
def evI (T : Tab) (ops : Array Oper) (n : Nat) : Nat → Mp_ → List Nat → Option (Mp_ × List Nat)
  | 0, m, l => some (m, l)
  | k + 1, m, i :: l => match ops[i]? with
    | some o => match evG T ops n m o with
      | some m' => evI T ops n k m' l
      | none => none
    | none => none
  | _ + 1, _, [] => none
section
variable {P : Program} {ops : Array Oper} {S : World → Prop} {Q : Exit → Act → World → Prop} {n d : Nat} {m m' m1 : Mp_} {a : Act} {w : World} {D is is' : List Nat} {v : Value}
theorem evG_qi {T : Tab} (hT : T.okB P = true) {o : Oper} {i : Nat} (hi : ops[i]? = some o) (h : evG T ops n m o = some m1) (t : QI P ops n S m1 is m') : QI P ops n S m (i :: is) m' := by
  unfold evG at h
  split at h
  · cases h
  · rename_i d hd
    rcases hlt : Nat.blt d n with _ | _
    · rw [hlt] at h; cases h
    · rw [hlt] at h
      simp only [cond_true] at h
      split at h
      · rename_i hg
        split at h
        · rename_i v hv
          cases h
          exact QI.op hi (fun w _ => ev1_ok hT hv) (by unfold dstG; rw [hg, hd]; simp only [hlt, cond_true]) t
        · cases h
      · rename_i j b hg
        split at h
        · cases h
        · rename_i dj hj
          split at h
          · rename_i c hb
            split at h
            · split at h
              · rename_i v hv
                cases h
                exact QI.gop hi (fun w _ => ev1_ok hT hv) hg hj hb hd hlt t
              · cases h
            · split at h
              · rename_i v hv
                cases h
                exact QI.gop hi (fun w _ => ev1_ok hT hv) hg hj hb hd hlt t
              · cases h
            · cases h
              exact QI.skip hi hg hj hb Bool.noConfusion hd hlt t
            · cases h
              exact QI.skip hi hg hj hb Bool.noConfusion hd hlt t
          · rename_i hb
            cases h
            exact QI.skip' hi hg hj hb hd hlt t
          · cases h
theorem QI.ev_ {T : Tab} (hT : T.okB P = true) : ∀ (k : Nat) {m : Mp_} {is : List Nat}, evI T ops n k m is = some (m1, is') → QI P ops n S m1 is' m' → QI P ops n S m is m'
  | 0, m, is, h, t => by cases h; exact t
  | k + 1, m, [], h, t => by cases h
  | k + 1, m, i :: is, h, t => by
    simp only [evI] at h
    split at h
    · rename_i o ho
      split at h
      · rename_i m2 h2
        exact evG_qi hT ho h2 (QI.ev_ hT k h t)
      · cases h
    · cases h
theorem QI.ev [h0 : HasTab P] (k : Nat) (h : evI h0.T ops n k m is = some (m1, is') ) (t : QI P ops n S m1 is' m') : QI P ops n S m is m' := QI.ev_ h0.ok k h t
theorem mark_cons {k i : Nat} : mark k (i :: D) = (mark k D).setIfInBounds i true := rfl
theorem hq_ (hs : Region.noSelect ops = true) (hS : S w) : ∀ {is D : List Nat} {m : Mp_} {a : Act}, QI P ops n S m is m' → qok ops D is = true → Fr a n m → (∀ a, Fr a n m' → HD P ops Q S (is.reverseAux D) a w) → HD P ops Q S D a w := by
  intro is D m a h
  induction h generalizing D a with
  | nil => intro _ hF k; exact k a hF
  | op hi he hd _ ih =>
    intro hk hF k
    simp only [qok, Bool.and_eq_true] at hk
    obtain ⟨h1, h2, h3, h4⟩ := hk
    rw [Nat.blt_eq] at h1
    obtain ⟨hg, hd, hlt⟩ := dstG_ok hd
    unfold HD
    rw [show ops.size - D.length = (ops.size - (D.length + 1)) + 1 by omega]
    exact hd_take hi hs h2 h3 he hg hd hlt hF hS fun a hF => ih h4 hF k
  | gop hi he hg hj hb hd hlt _ ih =>
    intro hk hF k
    simp only [qok, Bool.and_eq_true] at hk
    obtain ⟨h1, h2, h3, h4⟩ := hk
    rw [Nat.blt_eq] at h1
    unfold HD
    rw [show ops.size - D.length = (ops.size - (D.length + 1)) + 1 by omega]
    exact hd_gtake hi hs h2 h3 he hg hj hb hd hlt hF hS fun a hF => ih h4 hF k
  | skip hi hg hj hb hne hd hlt _ ih =>
    intro hk hF k
    simp only [qok, Bool.and_eq_true] at hk
    obtain ⟨h1, h2, h3, h4⟩ := hk
    rw [Nat.blt_eq] at h1
    unfold HD
    rw [show ops.size - D.length = (ops.size - (D.length + 1)) + 1 by omega]
    exact hd_gskip hi hs h2 h3 hg hj hb hne hd hlt hF hS fun a hF => ih h4 hF k
  | skip' hi hg hj hb hd hlt _ ih =>
    intro hk hF k
    simp only [qok, Bool.and_eq_true] at hk
    obtain ⟨h1, h2, h3, h4⟩ := hk
    rw [Nat.blt_eq] at h1
    unfold HD
    rw [show ops.size - D.length = (ops.size - (D.length + 1)) + 1 by omega]
    exact hd_gskip' hi hs h2 h3 hg hj hb hd hlt hF hS fun a hF => ih h4 hF k
  | kn hl ht _ ih => exact fun hk hF k => ih hk (hF.sub' ht hl) k
/-- What only reads is done first. -/
theorem hq (is : List Nat) (hF : Fr a n m) (hS : S w) (h : QI P ops n S m is m') (hk : (Region.noSelect ops && qok ops D is) = true) (k : ∀ a, Fr a n m' → HD P ops Q S (is.reverseAux D) a w) : HD P ops Q S D a w := by
  rw [Bool.and_eq_true] at hk
  exact hq_ hk.1 hS h hk.2 hF k
abbrev KH (P : Program) (ops : Array Oper) (Q : Exit → Act → World → Prop) (S : World → Prop) (D : List Nat) : Act → World → Prop := fun a' w' => S w' ∧ HD P ops Q S D a' w'
def rdB (ops : Array Oper) (D rs : List Nat) : Bool := Nat.blt D.length ops.size && (rdy ops D == rs)
theorem hm_ {rs : List Nat} (hr : rdB ops D rs = true) (hne : rs ≠ []) (h : ∀ i ∈ rs, wpOp P ops (NoPanic Q) i (KH P ops Q S (i :: D)) a w) : HD P ops Q S D a w := by
  unfold rdB at hr
  rw [Bool.and_eq_true, beq_iff_eq] at hr
  have h1 := hr.1
  rw [Nat.blt_eq] at h1
  unfold HD
  rw [show ops.size - D.length = (ops.size - (D.length + 1)) + 1 by omega]
  exact hd_many hr.2 hne fun i hi => h i hi
/-- One operation alone is ready; one of several. -/
theorem ho (i : Nat) {o : Oper} (hi : ops[i]? = some o) (hr : rdB ops D [i] = true) (h : wpList P ops (cont P Q [.kq (KH P ops Q S (i :: D))]) [o] a w) : HD P ops Q S D a w :=
  hm_ hr (by simp) (hd_cons (wpOp_of hi h) hd_nil)
theorem ho2 (i j : Nat) {o o' : Oper} (hi : ops[i]? = some o) (hj : ops[j]? = some o') (hr : rdB ops D [i, j] = true) (h : wpList P ops (cont P Q [.kq (KH P ops Q S (i :: D))]) [o] a w) (h' : wpList P ops (cont P Q [.kq (KH P ops Q S (j :: D))]) [o'] a w) : HD P ops Q S D a w :=
  hm_ hr (by simp) (hd_cons (wpOp_of hi h) (hd_cons (wpOp_of hj h') hd_nil))
theorem ho3 (i j l : Nat) {o o' o2 : Oper} (hi : ops[i]? = some o) (hj : ops[j]? = some o') (hl : ops[l]? = some o2) (hr : rdB ops D [i, j, l] = true) (h : wpList P ops (cont P Q [.kq (KH P ops Q S (i :: D))]) [o] a w) (h' : wpList P ops (cont P Q [.kq (KH P ops Q S (j :: D))]) [o'] a w)
    (h2 : wpList P ops (cont P Q [.kq (KH P ops Q S (l :: D))]) [o2] a w) : HD P ops Q S D a w :=
  hm_ hr (by simp) (hd_cons (wpOp_of hi h) (hd_cons (wpOp_of hj h') (hd_cons (wpOp_of hl h2) hd_nil)))
theorem ho4 (i j l l' : Nat) {o o' o2 o3 : Oper} (hi : ops[i]? = some o) (hj : ops[j]? = some o') (hl : ops[l]? = some o2) (hl' : ops[l']? = some o3) (hr : rdB ops D [i, j, l, l'] = true) (h : wpList P ops (cont P Q [.kq (KH P ops Q S (i :: D))]) [o] a w) (h' : wpList P ops (cont P Q [.kq (KH P ops Q S (j :: D))]) [o'] a w)
    (h2 : wpList P ops (cont P Q [.kq (KH P ops Q S (l :: D))]) [o2] a w) (h3 : wpList P ops (cont P Q [.kq (KH P ops Q S (l' :: D))]) [o3] a w) : HD P ops Q S D a w :=
  hm_ hr (by simp) (hd_cons (wpOp_of hi h) (hd_cons (wpOp_of hj h') (hd_cons (wpOp_of hl h2) (hd_cons (wpOp_of hl' h3) hd_nil))))
theorem hcc {i : Nat} {l : List Nat} {o : Oper} (hi : ops[i]? = some o) (h : wpList P ops (cont P Q [.kq (KH P ops Q S (i :: D))]) [o] a w) (t : ∀ j ∈ l, wpOp P ops (NoPanic Q) j (KH P ops Q S (j :: D)) a w) : ∀ j ∈ i :: l, wpOp P ops (NoPanic Q) j (KH P ops Q S (j :: D)) a w :=
  hd_cons (C := fun j => wpOp P ops (NoPanic Q) j (KH P ops Q S (j :: D)) a w) (wpOp_of hi h) t
/-- All is done. -/
theorem hend (hr : (rdy ops D == []) = true) (h : Q .normal a w) : HD P ops Q S D a w := hd_done (by rw [beq_iff_eq] at hr; exact hr) h
theorem hreg {id : Nat} {l : List Oper} (hm : P.follows .mixedOrders = true) (S : World → Prop) (h : HD P l.toArray Q S [] a w.drew) : (Code.region id l.toArray true).wp P Q a w := wp_regh hm S (by
  unfold HD at h
  simpa [mark] using h)
/-- A state that several orders come to. -/
theorem hsta {D0 : List Nat} {a0 : Act} {w0 : World} (D : List Nat) (I : Act → World → Prop) (h : ∀ a w, I a w → HD P ops Q S D a w) (k : (∀ a w, I a w → HD P ops Q S D a w) → HD P ops Q S D0 a0 w0) : HD P ops Q S D0 a0 w0 := k h
theorem hto {D' : List Nat} {I : Act → World → Prop} (h : ∀ a w, I a w → HD P ops Q S D a w) (hI : I a w) (e : (Nat.beq D.length D'.length && (mark ops.size D == mark ops.size D')) = true) : HD P ops Q S D' a w := by
  rw [Bool.and_eq_true, beq_iff_eq] at e
  have := h a w hI
  unfold HD at this ⊢
  rw [← Nat.eq_of_beq_eq_true e.1, ← e.2]
  exact this
end
end Go.Pv
