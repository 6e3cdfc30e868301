/- Lemmas, walks and laws that the row of this claim rests on, merged into few texts: part 2. -/
import Derived.Shelf.Sort.Plain
import Derived.Shelf.Slices.In.SortNone
import Derived.Shelf.Slices.CompactI
import Derived.Shelf.SlIterI.Nil
import Derived.Test.YtfcpkcehecmcpaaGreatKBa
set_option linter.unusedVariables false
set_option linter.unusedSimpArgs false
open Option renaming bind_some → Amn, map_some → Amo, bind_eq_some_iff → Amp
open List renaming getElem?_eq_getElem → Amq, length_append → Amr, length_map → Ams, mem_append → Amt, mem_singleton → Amu, mem_cons → Amv, mem_range → Amw, getElem_mem → Amx, append_assoc → Amy, findSome?_eq_none_iff → Amz, take_length → Am0
open Int renaming toNat_natCast → Am1, eq_ofNat_of_zero_le → Am2
open Bool renaming and_eq_true → Am3, eq_iff_iff → Am4, or_eq_true → Am5
namespace Go.Pv
open Go Go.RowKit
def mark (k : Nat) (D : List Nat) : Array Bool := D.foldr (fun i A => A.setIfInBounds i true) (Array.replicate k false)
def HD (P : Program) (ops : Array Oper) (Q : Exit → Act → World → Prop) (S : World → Prop) (D : List Nat) (a : Act) (w : World) : Prop :=
 wpAnyH P .any ops (NoPanic Q) S (ops.size - D.length) (mark ops.size D) a w
def rdy (ops : Array Oper) (D : List Nat) : List Nat := Region.ready .any ops (mark ops.size D)
def Y8 (ops : Array Oper) : List Nat → List Nat → Bool
 | _, [] => true
 | D, i :: is => Nat.blt D.length ops.size && (Region.free .any ops (mark ops.size D) i && ((rdy ops D).contains i && Y8 ops (i :: D) is))
inductive QI (P : Program) (ops : Array Oper) (n : Nat) (S : World → Prop) : J9 → List Nat → J9 → Prop
 | nil {m : J9} : QI P ops n S m [] m
 | op {m m' : J9} {is : List Nat} {i d : Nat} {o : Oper} {v : Value} (hi : ops[i]? = some o) (he : ∀ w, S w → EX P w m o v w) (hd : MW o n = some d) (t : QI P ops n S ((d, v) :: m) is m') : QI P ops n S m (i :: is) m'
 | gop {m m' : J9} {is : List Nat} {i d j dj : Nat} {b : Bool} {o : Oper} {v : Value} (hi : ops[i]? = some o) (he : ∀ w, S w → EX P w m o v w) (hg : o.guard = some (j, b)) (hj : (ops[j]?).bind (·.dst) = some dj) (hb : look m dj = some (.bool b)) (hd : o.dst = some d) (hlt : Nat.blt d n = true) (t : QI P ops n S ((d, v) :: m) is m') : QI P ops n S m (i :: is) m'
 | skip {m m' : J9} {is : List Nat} {i d j dj : Nat} {b c : Bool} {o : Oper} (hi : ops[i]? = some o) (hg : o.guard = some (j, c)) (hj : (ops[j]?).bind (·.dst) = some dj) (hb : look m dj = some (.bool b)) (hne : b ≠ c) (hd : o.dst = some d) (hlt : Nat.blt d n = true) (t : QI P ops n S ((d, undef) :: m) is m') : QI P ops n S m (i :: is) m'
 | skip' {m m' : J9} {is : List Nat} {i d j dj : Nat} {c : Bool} {o : Oper} (hi : ops[i]? = some o) (hg : o.guard = some (j, c)) (hj : (ops[j]?).bind (·.dst) = some dj) (hb : look m dj = some undef) (hd : o.dst = some d) (hlt : Nat.blt d n = true) (t : QI P ops n S ((d, undef) :: m) is m') : QI P ops n S m (i :: is) m'
 | kn {m m' : J9} {is : List Nat} {dj : Nat} {t b : Bool} (hl : look m dj = some (.bool t)) (ht : t = b) (k : QI P ops n S ((dj, .bool b) :: m) is m') : QI P ops n S m is m'
def evI (T : Jh) (ops : Array Oper) (n : Nat) : Nat → J9 → List Nat → Option (J9 × List Nat)
 | 0, m, l => some (m, l)
 | k + 1, m, i :: l => match ops[i]? with
  | some o => match Vq T ops n m o with
   | some m' => evI T ops n k m' l
   | none => none
  | none => none
 | _ + 1, _, [] => none
section
variable {P : Program} {ops : Array Oper} {S : World → Prop} {Q : Exit → Act → World → Prop} {n d : Nat} {m m' m1 : J9} {a : Act} {w : World} {D is is' : List Nat} {v : Value}
theorem Akb {T : Jh} (hT : T.okB P = true) {o : Oper} {i : Nat} (hi : ops[i]? = some o) (h : Vq T ops n m o = some m1) (t : QI P ops n S m1 is m') : QI P ops n S m (i :: is) m' := by
 unfold Vq at h
 split at h
 ·cases h
 ·rename_i d hd
  rcases hlt : Nat.blt d n with _ | _
  ·rw [hlt] at h; cases h
  ·rw [hlt] at h
   simp only [cond_true] at h
   split at h
   ·rename_i hg
    split at h
    ·rename_i v hv
     cases h
     exact QI.op hi (fun w _ => Ms hT hv) (by unfold MW; rw [hg, hd]; simp only [hlt, cond_true]) t
    ·cases h
   ·rename_i j b hg
    split at h
    ·cases h
    ·rename_i dj hj
     split at h
     ·rename_i c hb
      split at h
      ·split at h
       ·rename_i v hv
        cases h
        exact QI.gop hi (fun w _ => Ms hT hv) hg hj hb hd hlt t
       ·cases h
      ·split at h
       ·rename_i v hv
        cases h
        exact QI.gop hi (fun w _ => Ms hT hv) hg hj hb hd hlt t
       ·cases h
      ·cases h
       exact QI.skip hi hg hj hb Bool.noConfusion hd hlt t
      ·cases h
       exact QI.skip hi hg hj hb Bool.noConfusion hd hlt t
     ·rename_i hb
      cases h
      exact QI.skip' hi hg hj hb hd hlt t
     ·cases h
theorem QI.ev_ {T : Jh} (hT : T.okB P = true) : ∀ (k : Nat) {m : J9} {is : List Nat}, evI T ops n k m is = some (m1, is') → QI P ops n S m1 is' m' → QI P ops n S m is m'
 | 0, m, is, h, t => by cases h; exact t
 | k + 1, m, [], h, t => by cases h
 | k + 1, m, i :: is, h, t => by
  simp only [evI] at h
  split at h
  ·rename_i o ho
   split at h
   ·rename_i m2 h2
    exact Akb hT ho h2 (QI.ev_ hT k h t)
   ·cases h
  ·cases h
theorem QI.ev [h0 : IE P] (k : Nat) (h : evI h0.T ops n k m is = some (m1, is') ) (t : QI P ops n S m1 is' m') : QI P ops n S m is m' := QI.ev_ h0.ok k h t
theorem hq_ (hs : Region.noSelect ops = true) (hS : S w) : ∀ {is D : List Nat} {m : J9} {a : Act}, QI P ops n S m is m' → Y8 ops D is = true → Fr a n m → (∀ a, Fr a n m' → HD P ops Q S (is.reverseAux D) a w) → HD P ops Q S D a w := by
 intro is D m a h
 induction h generalizing D a with
 | nil => intro _ hF k; exact k a hF
 | op hi he hd _ ih =>
  intro hk hF k
  simp only [Y8, Am3] at hk
  obtain ⟨h1, h2, h3, h4⟩ := hk
  rw [Nat.blt_eq] at h1
  obtain ⟨hg, hd, hlt⟩ := PQ hd
  unfold HD
  rw [show ops.size - D.length = (ops.size - (D.length + 1)) + 1 by omega]
  exact Ahv hi hs h2 h3 he hg hd hlt hF hS fun a hF => ih h4 hF k
 | gop hi he hg hj hb hd hlt _ ih =>
  intro hk hF k
  simp only [Y8, Am3] at hk
  obtain ⟨h1, h2, h3, h4⟩ := hk
  rw [Nat.blt_eq] at h1
  unfold HD
  rw [show ops.size - D.length = (ops.size - (D.length + 1)) + 1 by omega]
  exact Agd hi hs h2 h3 he hg hj hb hd hlt hF hS fun a hF => ih h4 hF k
 | skip hi hg hj hb hne hd hlt _ ih =>
  intro hk hF k
  simp only [Y8, Am3] at hk
  obtain ⟨h1, h2, h3, h4⟩ := hk
  rw [Nat.blt_eq] at h1
  unfold HD
  rw [show ops.size - D.length = (ops.size - (D.length + 1)) + 1 by omega]
  exact Ae1 hi hs h2 h3 hg hj hb hne hd hlt hF hS fun a hF => ih h4 hF k
 | skip' hi hg hj hb hd hlt _ ih =>
  intro hk hF k
  simp only [Y8, Am3] at hk
  obtain ⟨h1, h2, h3, h4⟩ := hk
  rw [Nat.blt_eq] at h1
  unfold HD
  rw [show ops.size - D.length = (ops.size - (D.length + 1)) + 1 by omega]
  exact Aby hi hs h2 h3 hg hj hb hd hlt hF hS fun a hF => ih h4 hF k
 | kn hl ht _ ih => exact fun hk hF k => ih hk (hF.sub' ht hl) k
theorem hq (is : List Nat) (hF : Fr a n m) (hS : S w) (h : QI P ops n S m is m') (hk : (Region.noSelect ops && Y8 ops D is) = true) (k : ∀ a, Fr a n m' → HD P ops Q S (is.reverseAux D) a w) : HD P ops Q S D a w := by
 rw [Am3] at hk
 exact hq_ hk.1 hS h hk.2 hF k
abbrev KH (P : Program) (ops : Array Oper) (Q : Exit → Act → World → Prop) (S : World → Prop) (D : List Nat) : Act → World → Prop := fun a' w' => S w' ∧ HD P ops Q S D a' w'
def rdB (ops : Array Oper) (D rs : List Nat) : Bool := Nat.blt D.length ops.size && (rdy ops D == rs)
theorem hm_ {rs : List Nat} (hr : rdB ops D rs = true) (hne : rs ≠ []) (h : ∀ i ∈ rs, wpOp P ops (NoPanic Q) i (KH P ops Q S (i :: D)) a w) : HD P ops Q S D a w := by
 unfold rdB at hr
 rw [Am3, AG] at hr
 have h1 := hr.1
 rw [Nat.blt_eq] at h1
 unfold HD
 rw [show ops.size - D.length = (ops.size - (D.length + 1)) + 1 by omega]
 exact Aht hr.2 hne fun i hi => h i hi
theorem ho (i : Nat) {o : Oper} (hi : ops[i]? = some o) (hr : rdB ops D [i] = true) (h : wpList P ops (Ds P Q [.kq (KH P ops Q S (i :: D))]) [o] a w) : HD P ops Q S D a w :=
 hm_ hr (by simp) (MV (MS hi h) Y1)
theorem Hw (i j : Nat) {o o' : Oper} (hi : ops[i]? = some o) (hj : ops[j]? = some o') (hr : rdB ops D [i, j] = true) (h : wpList P ops (Ds P Q [.kq (KH P ops Q S (i :: D))]) [o] a w) (h' : wpList P ops (Ds P Q [.kq (KH P ops Q S (j :: D))]) [o'] a w) : HD P ops Q S D a w :=
 hm_ hr (by simp) (MV (MS hi h) (MV (MS hj h') Y1))
theorem ho3 (i j l : Nat) {o o' o2 : Oper} (hi : ops[i]? = some o) (hj : ops[j]? = some o') (hl : ops[l]? = some o2) (hr : rdB ops D [i, j, l] = true) (h : wpList P ops (Ds P Q [.kq (KH P ops Q S (i :: D))]) [o] a w) (h' : wpList P ops (Ds P Q [.kq (KH P ops Q S (j :: D))]) [o'] a w)
  (h2 : wpList P ops (Ds P Q [.kq (KH P ops Q S (l :: D))]) [o2] a w) : HD P ops Q S D a w :=
 hm_ hr (by simp) (MV (MS hi h) (MV (MS hj h') (MV (MS hl h2) Y1)))
theorem T8 {i : Nat} {l : List Nat} {o : Oper} (hi : ops[i]? = some o) (h : wpList P ops (Ds P Q [.kq (KH P ops Q S (i :: D))]) [o] a w) (t : ∀ j ∈ l, wpOp P ops (NoPanic Q) j (KH P ops Q S (j :: D)) a w) : ∀ j ∈ i :: l, wpOp P ops (NoPanic Q) j (KH P ops Q S (j :: D)) a w :=
 MV (C := fun j => wpOp P ops (NoPanic Q) j (KH P ops Q S (j :: D)) a w) (MS hi h) t
theorem Ea (hr : (rdy ops D == []) = true) (h : Q .normal a w) : HD P ops Q S D a w := Aiz (by rw [AG] at hr; exact hr) h
theorem Alt {id : Nat} {l : List Oper} (hm : P.follows .mixedOrders = true) (S : World → Prop) (h : HD P l.toArray Q S [] a w.drew) : (Code.region id l.toArray true).wp P Q a w := Ai2 hm S (by
 unfold HD at h
 simpa [mark] using h)
theorem Jb {D0 : List Nat} {a0 : Act} {w0 : World} (D : List Nat) (I : Act → World → Prop) (h : ∀ a w, I a w → HD P ops Q S D a w) (k : (∀ a w, I a w → HD P ops Q S D a w) → HD P ops Q S D0 a0 w0) : HD P ops Q S D0 a0 w0 := k h
theorem E5 {D' : List Nat} {I : Act → World → Prop} (h : ∀ a w, I a w → HD P ops Q S D a w) (hI : I a w) (e : (Nat.beq D.length D'.length && (mark ops.size D == mark ops.size D')) = true) : HD P ops Q S D' a w := by
 rw [Am3, AG] at e
 have := h a w hI
 unfold HD at this ⊢
 rw [← Nat.eq_of_beq_eq_true e.1, ← e.2]
 exact this
end
end Go.Pv
namespace Go.Pv
open Go Go.RowKit
section
variable {α : Type} {a b c d e f g h i j x : α} {l : List α}
theorem m0 : x ∈ x :: l := .head _
theorem m1 : x ∈ a :: x :: l := .tail _ m0
theorem m2 : x ∈ a :: b :: x :: l := .tail _ m1
theorem m3 : x ∈ a :: b :: c :: x :: l := .tail _ m2
theorem m4 : x ∈ a :: b :: c :: d :: x :: l := .tail _ m3
theorem m5 : x ∈ a :: b :: c :: d :: e :: x :: l := .tail _ m4
theorem m6 : x ∈ a :: b :: c :: d :: e :: f :: x :: l := .tail _ m5
theorem m7 : x ∈ a :: b :: c :: d :: e :: f :: g :: x :: l := .tail _ m6
theorem m8 : x ∈ a :: b :: c :: d :: e :: f :: g :: h :: x :: l := .tail _ m7
end
theorem Fr.sb {a : Act} {n : Nat} {m m' : J9} (h : Fr a n m) (hs : Aak m' m := by (repeat refine ⟨rfl, ?_⟩); exact trivial) : Fr a n m' := h.sub hs
def XV (T : Jh) (m : J9) (cs : List Value) (n : Nat) (o : Oper) : Option (Nat × Nat × Value) :=
 match o.op with
 | .load t x => match ev m x with
  | some (.pointer (some ⟨g, off, none⟩)) => match MW o n with
   | some d => bif R9 T.ng t then (match cs[off]? with
     | some v => some (g, d, v)
     | none => none) else (match off with
     | 0 => (match Z5 T.ag t with
      | some k => bif Nat.beq cs.length k then some (g, d, .agg ⟨cs⟩) else none
      | none => none)
     | _ => none)
   | none => none
  | _ => none
 | _ => none
def ldA (T : Jh) (m : J9) (n : Nat) (o : Oper) : Option (Nat × Nat × Nat) :=
 match o.op with
 | .load t x => match ev m x with
  | some (.pointer (some ⟨g, 0, none⟩)) => match MW o n with
   | some d => (match Z5 T.ag t with
    | some k => some (g, d, k)
    | none => none)
   | none => none
  | _ => none
 | _ => none
def ixV (m : J9) (n : Nat) (o : Oper) : Option (TypeId × Value × Int × Nat) :=
 match o.op with
 | .indexAddr t x y => match ev m x with
  | some v => match ev m y with
   | some (.int _ j) => match MW o n with
    | some d => some (t, v, j, d)
    | none => none
   | _ => none
  | none => none
 | _ => none
section
variable {P : Program} {w w' : World} {m m' : J9} {ops : Array Oper} {Q Q0 : Exit → Act → World → Prop} {a : Act} {n : Nat} {l l' : List Oper} {v : Value} {K : List Kf} {X X' : Act → World → Prop}
variable {w0 : World} {F0 : List Nat} {ps : List Ck} {o : Oper} {d g t : Nat} {cs : List Value}
theorem ZQ {T : Jh} (h2 : XV T m cs n o = some (g, d, v)) : MW o n = some d := by
 unfold XV at h2
 split at h2
 ·split at h2
  ·split at h2
   ·rename_i d' hd
    have : d' = d := by
     revert h2
     rcases R9 T.ng _ with _ | _
     ·simp only [cond_false]
      intro h2
      split at h2
      ·split at h2
       ·rename_i k _
        rcases hb : Nat.beq cs.length k with _ | _
        ·rw [hb] at h2; cases h2
        ·rw [hb] at h2; cases h2; rfl
       ·cases h2
      ·cases h2
     ·simp only [cond_true]
      intro h2
      split at h2
      ·cases h2; rfl
      ·cases h2
    rw [hd, this]
   ·cases h2
  ·cases h2
 ·cases h2
theorem XP {T : Jh} (hT : T.okB P = true) (hs : SL w0 F0 w ps) (hm : AB g t cs ∈ ps) (h : XV T m cs n o = some (g, d, v)) : EX P w m o v w ∧ MW o n = some d := by
 obtain ⟨dd, op, ty, pos, aft, gd⟩ := o
 unfold XV at h
 split at h
 ·rename_i t' x hop
  simp only at hop
  subst hop
  split at h
  ·rename_i g' off hx
   split at h
   ·rename_i d' hd
    rcases hn : R9 T.ng t' with _ | _
    ·rw [hn] at h
     simp only [cond_false] at h
     split at h
     ·split at h
      ·rename_i k hk
       rcases hb : Nat.beq cs.length k with _ | _
       ·rw [hb] at h; cases h
       ·rw [hb] at h
        cases h
        exact ⟨Iu (agT hT hk) hx (hs.Do hm (o := 0) (ds := cs) (fun j u hu => by rw [Nat.zero_add]; exact hu)) (Nat.eq_of_beq_eq_true hb), hd⟩
      ·cases h
     ·cases h
    ·rw [hn] at h
     simp only [cond_true] at h
     split at h
     ·rename_i u hu
      cases h
      exact ⟨Ce (ngT hT hn) hx (hs.BP hm hu), hd⟩
     ·cases h
   ·cases h
  ·cases h
 ·cases h
theorem Ajq {T : Jh} {k : Nat} (hT : T.okB P = true) (hs : SL w0 F0 w ps) (hm : AB g t cs ∈ ps) (h : ldA T m n o = some (g, d, k)) (hk : cs.length = k) : EX P w m o (.agg ⟨cs⟩) w ∧ MW o n = some d := by
 obtain ⟨dd, op, ty, pos, aft, gd⟩ := o
 unfold ldA at h
 split at h
 ·rename_i t' x hop
  simp only at hop
  subst hop
  split at h
  ·rename_i g' hx
   split at h
   ·rename_i d' hd
    split at h
    ·rename_i k' hk'
     cases h
     exact ⟨Iu (agT hT hk') hx (hs.Do hm (o := 0) (ds := cs) (fun j u hu => by rw [Nat.zero_add]; exact hu)) hk, hd⟩
    ·cases h
   ·cases h
  ·cases h
 ·cases h
theorem RP {t : TypeId} {i : Int} {ad : Addr} (hi : Pg P t v i ad) (h : ixV m n o = some (t, v, i, d)) : (∀ w, EX P w m o (.pointer (some ad)) w) ∧ MW o n = some d := by
 obtain ⟨dd, op, ty, pos, aft, gd⟩ := o
 unfold ixV at h
 split at h
 ·rename_i t' x y hop
  simp only at hop
  subst hop
  split at h
  ·rename_i v' hv
   split at h
   ·rename_i k j hj
    split at h
    ·rename_i d' hd
     cases h
     exact ⟨fun w => hi _ _ _ _ _ _ _ _ _ _ hv hj, hd⟩
    ·cases h
   ·cases h
  ·cases h
 ·cases h
section
variable [h0 : IE P]
theorem AV (hF : Fr a n m) (hs : SL w0 F0 w ps) (hm : AB g t cs ∈ ps) (i : Nat) (h : ((XV h0.T m cs n o).bind fun r => (run P Q0 h0.T n i (.li ops l) K ((r.2.1, r.2.2) :: m)).map fun x => (r.1, x)) = some (g, m', X)) (k : ∀ a, Fr a n m' → X a w) : wpList P ops (Ds P Q0 K) (o :: l) a w := by
 obtain ⟨⟨g', d, v⟩, h1, h2⟩ := Option.bind_eq_some_iff.1 h
 obtain ⟨x, h3, h4⟩ := Option.map_eq_some_iff.1 h2
 cases h4
 obtain ⟨he, hd⟩ := XP h0.ok hs hm h1
 exact gx hF he i hd h3 k
theorem Hv {c : Nat} (hF : Fr a n m) (hs : SL w0 F0 w ps) (hm : AB g t cs ∈ ps) (i : Nat) (h : ((ldA h0.T m n o).bind fun r => (run P Q0 h0.T n i (.li ops l) K ((r.2.1, .agg ⟨cs⟩) :: m)).map fun x => (r.1, r.2.2, x)) = some (g, c, m', X)) (k : ∀ a, Fr a n m' → X a w) (hc : cs.length = c := by simp) : wpList P ops (Ds P Q0 K) (o :: l) a w := by
 obtain ⟨⟨g', d, v⟩, h1, h2⟩ := Option.bind_eq_some_iff.1 h
 obtain ⟨x, h3, h4⟩ := Option.map_eq_some_iff.1 h2
 cases h4
 obtain ⟨he, hd⟩ := Ajq h0.ok hs hm h1 hc
 exact gx hF he i hd h3 k
theorem gi {t : TypeId} {j : Int} {ad : Addr} (hF : Fr a n m) (hi : Pg P t v j ad) (i : Nat) (h : ((ixV m n o).bind fun r => (run P Q0 h0.T n i (.li ops l) K ((r.2.2.2, .pointer (some ad)) :: m)).map fun x => (r.1, r.2.1, r.2.2.1, x)) = some (t, v, j, m', X)) (k : ∀ a, Fr a n m' → X a w) : wpList P ops (Ds P Q0 K) (o :: l) a w := by
 obtain ⟨⟨t', v', j', d⟩, h1, h2⟩ := Option.bind_eq_some_iff.1 h
 obtain ⟨x, h3, h4⟩ := Option.map_eq_some_iff.1 h2
 cases h4
 obtain ⟨he, hd⟩ := RP hi h1
 exact gx hF (he w) i hd h3 k
theorem QI.ld {is : List Nat} {i : Nat} (hm : AB g t cs ∈ ps) (h : ((ops[i]?).bind (XV h0.T m cs n)) = some (g, d, v)) (k : QI P ops n (fun w_ => SL w0 F0 w_ ps) ((d, v) :: m) is m') : QI P ops n (fun w_ => SL w0 F0 w_ ps) m (i :: is) m' := by
 obtain ⟨o, h1, h2⟩ := Option.bind_eq_some_iff.1 h
 exact QI.op h1 (fun w hw => (XP h0.ok hw hm h2).1) (ZQ h2) k
omit h0 in
theorem QI.ix {is : List Nat} {i : Nat} {S : World → Prop} {t : TypeId} {j : Int} {ad : Addr} (hi : Pg P t v j ad) (h : ((ops[i]?).bind (ixV m n)) = some (t, v, j, d)) (k : QI P ops n S ((d, .pointer (some ad)) :: m) is m') : QI P ops n S m (i :: is) m' := by
 obtain ⟨o, h1, h2⟩ := Option.bind_eq_some_iff.1 h
 exact QI.op h1 (fun w hw => (RP hi h2).1 w) (RP hi h2).2 k
omit h0 in
theorem Dk {id : Nat} {l : List Oper} (hm : P.follows .mixedOrders = true) (hs : SL w0 F0 w ps) (h : HD P l.toArray Q (fun w_ => SL w0 F0 w_ ps) [] a w.drew) : (Code.region id l.toArray true).wp P Q a w := Alt hm _ h
theorem QR.ld {rest rest' : List Oper} (hm : AB g t cs ∈ ps) (h : XV h0.T m cs n o = some (g, d, v)) (k : QR P n ops (fun w_ => SL w0 F0 w_ ps) ((d, v) :: m) rest m' rest') : QR P n ops (fun w_ => SL w0 F0 w_ ps) m (o :: rest) m' rest' :=
 have hd := PQ (ZQ h)
 QR.op (fun w hw => (XP h0.ok hw hm h).1) k hd.1 hd.2.1 hd.2.2
omit h0 in
theorem QR.ix {rest rest' : List Oper} {S : World → Prop} {t : TypeId} {j : Int} {ad : Addr} (hi : Pg P t v j ad) (h : ixV m n o = some (t, v, j, d)) (k : QR P n ops S ((d, .pointer (some ad)) :: m) rest m' rest') : QR P n ops S m (o :: rest) m' rest' :=
 have hd := PQ (RP hi h).2
 QR.op (fun w hw => (RP hi h).1 w) k hd.1 hd.2.1 hd.2.2
omit h0 in
theorem QR.qo {rest rest' : List Oper} {S : World → Prop} (he : ∀ w, S w → EX P w m o v w) (hd : MW o n = some d) (k : QR P n ops S ((d, v) :: m) rest m' rest') : QR P n ops S m (o :: rest) m' rest' :=
 have h := PQ hd
 QR.op he k h.1 h.2.1 h.2.2
omit h0 in
theorem QR.qg {rest rest' : List Oper} {S : World → Prop} {j dj : Nat} {b : Bool} (he : ∀ w, S w → EX P w m o v w) (hg : o.guard = some (j, b)) (hj : (ops[j]?).bind (·.dst) = some dj) (hb : look m dj = some (.bool b)) (hd : o.dst = some d) (hlt : Nat.blt d n = true) (k : QR P n ops S ((d, v) :: m) rest m' rest') : QR P n ops S m (o :: rest) m' rest' := QR.gop he hg hj hb k hd hlt
omit h0 in
theorem QR.qs {rest rest' : List Oper} {S : World → Prop} {j dj : Nat} {b c : Bool} (hg : o.guard = some (j, c)) (hj : (ops[j]?).bind (·.dst) = some dj) (hb : look m dj = some (.bool b)) (hne : b ≠ c) (hd : o.dst = some d) (hlt : Nat.blt d n = true) (k : QR P n ops S ((d, undef) :: m) rest m' rest') : QR P n ops S m (o :: rest) m' rest' := QR.Abt hg hj hb hne k hd hlt
omit h0 in
theorem Aj3 {S : World → Prop} {T : Jh} {m1 : J9} {rest rest' : List Oper} (hT : T.okB P = true) (h : Vq T ops n m o = some m1) (t : QR P n ops S m1 rest m' rest') : QR P n ops S m (o :: rest) m' rest' := by
 unfold Vq at h
 split at h
 ·cases h
 ·rename_i d hd
  rcases hlt : Nat.blt d n with _ | _
  ·rw [hlt] at h; cases h
  ·rw [hlt] at h
   simp only [cond_true] at h
   split at h
   ·rename_i hg
    split at h
    ·rename_i v hv
     cases h
     exact QR.op (fun w _ => Ms hT hv) t hg hd hlt
    ·cases h
   ·rename_i j b hg
    split at h
    ·cases h
    ·rename_i dj hj
     split at h
     ·rename_i c hb
      split at h
      ·split at h
       ·rename_i v hv
        cases h
        exact QR.gop (fun w _ => Ms hT hv) hg hj hb t hd hlt
       ·cases h
      ·split at h
       ·rename_i v hv
        cases h
        exact QR.gop (fun w _ => Ms hT hv) hg hj hb t hd hlt
       ·cases h
      ·cases h
       exact QR.Abt hg hj hb Bool.noConfusion t hd hlt
      ·cases h
       exact QR.Abt hg hj hb Bool.noConfusion t hd hlt
     ·rename_i hb
      cases h
      exact QR.Akm hg hj hb t hd hlt
     ·cases h
omit h0 in
theorem QR.ev_ {S : World → Prop} {T : Jh} (hT : T.okB P = true) {m1 : J9} {rest rest' : List Oper} : ∀ (k : Nat) {m : J9} {l : List Oper}, YE T ops n k m l = some (m1, rest) → QR P n ops S m1 rest m' rest' → QR P n ops S m l m' rest'
 | 0, m, l, h, t => by cases h; exact t
 | k + 1, m, [], h, t => by cases h
 | k + 1, m, o :: l, h, t => by
  simp only [YE] at h
  split at h
  ·rename_i m2 h2
   exact Aj3 hT h2 (QR.ev_ hT k h t)
  ·cases h
theorem QR.ev {S : World → Prop} {m1 : J9} {rest rest' : List Oper} (k : Nat) (h : YE h0.T ops n k m l = some (m1, rest)) (t : QR P n ops S m1 rest m' rest') : QR P n ops S m l m' rest' := QR.ev_ h0.ok k h t
omit h0 in
theorem V5 {id : Nat} {l : List Oper} (hm : P.follows .mixedOrders = true) (hs : SL w0 F0 w ps) (hF : Fr a n m) (h : QR P n l.toArray (fun w_ => SL w0 F0 w_ ps) m l m' []) (k : ∀ w a, SL w0 F0 w ps → Fr a n m' → Q .normal a w) (hB : Region.lexB .any l.toArray = true := by kernel_rfl) : (Code.region id l.toArray true).wp P Q a w := Ahf _ hm hB hs.drew hF h k
omit h0 in
theorem TZ {α : Type} {T : Ty α} {enc : α → List Value} (hFl : Flat T enc) {v : Value} {l : List α} {t e sz bytes : Nat} {z : Value → Bool} {i : Int} {x : α} (h : ∀ w, SL w0 F0 w ps → ∃ G, Eu T w G v l) (hw : SL w0 F0 w ps)
  (hb : Ey P t e sz bytes z = true) (hz : T.sz = sz) (hx : idx l i = some x) : ∃ ad, Pg P t v i ad ∧ ∀ w, SL w0 F0 w ps → Cells w ad (enc x) := Als (C := fun w_ => SL w0 F0 w_ ps) hFl h hw hb hz hx
end
theorem fR {α : Type} {T : Ty α} {v : Value} {l : List α} (h : Rd T w0 F0 v l) (hs : SL w0 F0 w ps) : ∃ A c, v = .slice A l.length c := H7 (EZ h hs)
theorem fO {α : Type} {T : Ty α} {v : Value} {l : List α} (hs : SL w0 F0 w ps) (hm : Sl T v l ∈ ps) : ∃ A c, v = .slice A l.length c := H7 (hs.BO hm)
end
abbrev jI (n : Int) : Value := .int .i64 n
abbrev jU (n : Int) : Value := .int .u8 n
abbrev jP (g : Nat) : Value := .pointer (some ⟨g, 0, none⟩)
abbrev jZ : List Value := .int .i64 0 :: .int .i64 0 :: Bb (Vector.replicate 24 (0 : UInt8))
end Go.Pv
namespace Go.Pv
open Go Go.RowKit
def LI {α : Type} : Option (Nat × α) → Value
 | none => .pointer none
 | some p => .pointer (some ⟨p.1, 0, none⟩)
def Ty.ptr {α : Type} (t : TypeId) (T : Ty α) : Ty (Option (Nat × α)) where
 sz := 1
 rd w G x cs := cs = [LI x] ∧ ∀ p, x = some p → ∃ c, p.1 ∈ G ∧ w.heap[p.1]? = some (.cells c.toArray t (0, 0)) ∧ T.rd w G p.2 c
 own w F x cs := cs = [LI x] ∧ match x with
  | none => F = []
  | some p => ∃ c F1, F = [p.1] ++ F1 ∧ p.1 ∉ F1 ∧ w.heap[p.1]? = some (.cells c.toArray t (0, 0)) ∧ T.own w F1 p.2 c
 FZ := by rintro w G x cs ⟨rfl, _⟩; rfl
 KG := by
  rintro w G x cs ⟨rfl, _⟩ u hu
  rw [Amu] at hu
  rw [hu]
  cases x <;> rfl
 KI := by
  rintro w w' G x cs ⟨e, h⟩ hk
  refine ⟨e, fun p hp => ?_⟩
  obtain ⟨c, h1, h2, h3⟩ := h p hp
  exact ⟨c, h1, by rw [hk _ h1]; exact h2, T.KI h3 hk⟩
 FA := by
  rintro w G G' x cs ⟨e, h⟩ hk
  refine ⟨e, fun p hp => ?_⟩
  obtain ⟨c, h1, h2, h3⟩ := h p hp
  exact ⟨c, hk _ h1, h2, T.FA h3 hk⟩
 IC := by
  rintro w w' F (_ | p) cs ⟨e, h⟩ hk
  ·exact ⟨e, h⟩
  ·obtain ⟨c, F1, rfl, h1, h2, h3⟩ := h
   exact ⟨e, c, F1, rfl, h1, by rw [hk _ (by simp)]; exact h2, T.IC h3 fun k h => hk k (by simp [h])⟩
 JL := by
  rintro w F (_ | p) cs ⟨e, h⟩ k hk
  ·rw [h] at hk; cases hk
  ·obtain ⟨c, F1, rfl, h1, h2, h3⟩ := h
   rw [Amt, Amu] at hk
   rcases hk with rfl | hk
   ·exact GT h2
   ·exact T.JL h3 k hk
 BO := by
  rintro w F (_ | p) cs ⟨e, h⟩
  ·exact ⟨e, fun p hp => nomatch hp⟩
  ·obtain ⟨c, F1, rfl, h1, h2, h3⟩ := h
   refine ⟨e, fun q hq => ?_⟩
   cases hq
   exact ⟨c, by simp, h2, T.FA (T.BO h3) fun k h => by simp [h]⟩
structure VV where
 v : Value
 one : v.oneCell' = true
def Ty.Hk : Ty VV := Ty.scalar (fun x => x.v) fun x => x.one
section
variable {w0 w : World} {F0 : List Nat} {ps : List Ck} {α : Type} {T : Ty α} {t : TypeId} {v : Value} {l : List (Option (Nat × α))} {x : α} {g : Nat} {c cs : List Value}
theorem SL.Ai3 (hs : SL w0 F0 w (Dt (Ty.ptr t T) (some (g, x)) cs :: ps)) : ∃ c, cs = [.pointer (some ⟨g, 0, none⟩)] ∧ SL w0 F0 w (AB g t c :: Dt T x c :: ps) := by
 obtain ⟨F, ⟨G1, G2, e, ⟨rfl, c, F1, rfl, h1, h2, h3⟩, hst, hdis⟩, hF⟩ := hs.st
 refine ⟨c, rfl, hs.fm, [g] ++ (F1 ++ G2), ⟨[g], F1 ++ G2, rfl, ⟨rfl, h2⟩, ⟨F1, G2, rfl, h3, hst, fun k hk => hdis k (by simp [hk])⟩, fun k hk hk' => ?_⟩, fun k hk => hF k (by rw [e]; simpa using hk)⟩
 rw [Amu] at hk
 subst hk
 rw [Amt] at hk'
 rcases hk' with hk' | hk'
 ·exact h1 hk'
 ·exact hdis _ (by simp) hk'
theorem SL.Akn (hs : SL w0 F0 w (AB g t c :: Dt T x c :: ps)) : SL w0 F0 w (Dt (Ty.ptr t T) (some (g, x)) [.pointer (some ⟨g, 0, none⟩)] :: ps) := by
 obtain ⟨F, ⟨G3, G4, e, ⟨rfl, h2⟩, ⟨F1, G5, rfl, h3, hst, hd1⟩, hd2⟩, hF⟩ := hs.st
 refine ⟨hs.fm, ([g] ++ F1) ++ G5, ⟨[g] ++ F1, G5, rfl, ⟨rfl, c, F1, rfl, fun h => hd2 g (by simp) (by simp [h]), h2, h3⟩, hst, fun k hk hk' => ?_⟩, fun k hk => hF k (by rw [e]; simpa using hk)⟩
 rw [Amt, Amu] at hk
 rcases hk with rfl | hk
 ·exact hd2 k (List.mem_singleton.2 rfl) (List.mem_append.2 (.inr hk'))
 ·exact hd1 k hk hk'
theorem SL.Ako {i : Int} (hs : SL w0 F0 w (Sl (Ty.ptr t T) v l :: ps)) (hx : idx l i = some (some (g, x))) :
  ∃ c, SL w0 F0 w (AB g t c :: Dt T x c :: J8 (Ty.ptr t T) v l i.toNat [.pointer (some ⟨g, 0, none⟩)] :: ps) := by
 obtain ⟨cs, A, cp, hv, h1⟩ := hs.focus hx
 obtain ⟨c, rfl, h2⟩ := SL.Ai3 h1.f1
 exact ⟨c, h2⟩
theorem SL.YV {i : Nat} (hs : SL w0 F0 w (AB g t c :: Dt T x c :: J8 (Ty.ptr t T) v l i [.pointer (some ⟨g, 0, none⟩)] :: ps)) : SL w0 F0 w (Sl (Ty.ptr t T) v (l.set i (some (g, x))) :: ps) :=
 SL.Aaf (SL.Akn hs).f1
theorem SL.Agu {y : Option (Nat × α)} (hs : SL w0 F0 w (Dt (Ty.ptr t T) y cs :: ps)) : SL w0 F0 w ps := by
 obtain ⟨F, ⟨G1, G2, e, h1, hst, hdis⟩, hF⟩ := hs.st
 exact ⟨hs.fm, G2, hst, fun k hk => hF k (by rw [e]; simp [hk])⟩
theorem SL.SZ {i : Int} {p : Nat × α} (hs : SL w0 F0 w (Sl (Ty.ptr t T) v l :: ps)) (hx : idx l i = some (some p)) :
  ∃ c, SL w0 F0 w (Dt T p.2 c :: AB p.1 t c :: J8 (Ty.ptr t T) v l i.toNat [LI (some p)] :: ps) := by
 obtain ⟨c, h⟩ := SL.Ako (g := p.1) (x := p.2) hs hx
 exact ⟨c, h.f1⟩
theorem SL.WU {i : Nat} {p : Nat × α} (hs : SL w0 F0 w (Dt T x c :: AB p.1 t c :: J8 (Ty.ptr t T) v l i [LI (some p)] :: ps)) : SL w0 F0 w (Sl (Ty.ptr t T) v (l.set i (some (p.1, x))) :: ps) :=
 SL.YV (g := p.1) hs.f1
theorem SL.NJ {i : Int} {p : Nat × α} (hx : idx l i = some (some p)) (hs : SL w0 F0 w (Dt T p.2 c :: AB p.1 t c :: J8 (Ty.ptr t T) v l i.toNat [LI (some p)] :: ps)) : SL w0 F0 w (Sl (Ty.ptr t T) v l :: ps) := by
 have h := SL.WU hs
 have h2 := (Dd hx).2.2
 obtain ⟨h3, h4⟩ := List.getElem?_eq_some_iff.1 h2
 have e : l.set i.toNat (some (p.1, p.2)) = l := by
  apply List.ext_getElem?
  intro j
  by_cases hj : i.toNat = j
  ·subst hj; rw [List.getElem?_set_self h3, h2]
  ·rw [List.getElem?_set_ne hj]
 rwa [e] at h
theorem SL.Ahb {i : Int} {y : Option (Nat × α)} (hs : SL w0 F0 w (Sl (Ty.ptr t T) v l :: ps)) (hx : idx l i = some y) :
  ∃ A cp, v = .slice (some A) l.length cp ∧ Cells w (A.add (i.toNat * 1)) [LI y] := by
 obtain ⟨cs, A, cp, hv, h1⟩ := hs.focus hx
 have hc := SL.Aee h1 (.head _) hv
 obtain ⟨F, ⟨_, _, _, _, ⟨_, _, _, h2, _⟩, _⟩, _⟩ := h1.st
 obtain ⟨rfl, _⟩ := h2
 exact ⟨A, cp, hv, hc⟩
theorem SL.Alx {i : Int} {y : Option (Nat × α)} (hs : SL w0 F0 w (Sl (Ty.ptr t T) v l :: AB g t c :: Dt T x c :: ps)) (hx : idx l i = some y) (P : Program) :
  ∃ A cp w', v = .slice (some A) l.length cp ∧ (storeCells ((A.add (i.toNat * 1)).add 0) [.pointer (some ⟨g, 0, none⟩)]).run P w = .ok () w' ∧ SL w0 F0 w' (Sl (Ty.ptr t T) v (l.set i.toNat (some (g, x))) :: ps) := by
 obtain ⟨cs, A, cp, hv, h1⟩ := hs.focus hx
 have hcs : cs = [LI y] := by
  obtain ⟨F, ⟨_, _, _, _, ⟨_, _, _, h2, _⟩, _⟩, _⟩ := h1.st
  exact h2.1
 subst hcs
 obtain ⟨w', h2, h3⟩ := SL.Aed (P := P) (o := 0) (ds := [.pointer (some ⟨g, 0, none⟩)]) h1 hv (by simp) (by intro u hu; rw [Amu] at hu; rw [hu]; rfl)
 have h4 := (h3.f1.Agu).f2.f2
 exact ⟨A, cp, w', hv, h2, SL.YV h4⟩
theorem S7 {w : World} {P : Program} {t' e sz bytes : Nat} {z : Value → Bool} {i : Int} {y : Option (Nat × α)} (hL : ∃ G, Eu (Ty.ptr t T) w G v l) (hb : Ey P t' e sz bytes z = true) (hz : (Ty.ptr t T).sz = sz) (hx : idx l i = some y) :
  ∃ ad, Pg P t' v i ad ∧ Cells w ad [LI y] := by
 obtain ⟨G, h⟩ := hL
 obtain ⟨ad, cs, h3, h4, h5, _⟩ := Vd h hb hz hx
 rw [h5.1] at h4
 exact ⟨ad, h3, h4⟩
theorem Ak0 {P : Program} {w : World} {C : World → Prop} {t' e sz bytes : Nat} {z : Value → Bool} {i : Int} {y : Option (Nat × α)} (h : ∀ w, C w → ∃ G, Eu (Ty.ptr t T) w G v l) (hw : C w)
  (hb : Ey P t' e sz bytes z = true) (hz : (Ty.ptr t T).sz = sz) (hx : idx l i = some y) : ∃ ad, Pg P t' v i ad ∧ ∀ w, C w → Cells w ad [LI y] := by
 obtain ⟨h0, h1, h2⟩ := Dd hx
 obtain ⟨ad, h3, h4⟩ := S7 (h w hw) hb hz hx
 obtain ⟨G, A, c, hv, hc, hi⟩ := h w hw
 obtain ⟨ad0, cs0, hA, _, _, _⟩ := hi _ y h2
 refine ⟨ad0.add (i.toNat * (Ty.ptr t T).sz), ?_, fun w' hw' => ?_⟩
 ·obtain ⟨hu, ti, zv, h5, h6, _⟩ := GX hb
  subst hv hA
  intro w m x y k dd ty pos aft g hx hy a _ hF
  have e1 : (0 ≤ i ∧ i < (l.length : Int)) := ⟨h0, h1⟩
  simp [execOp, hF.eval hx, hF.eval hy, Instr.indexAt, asIntOf, run_underlying hu, e1, sizeOf, typeInfo, h5, h6, hz]
 ·obtain ⟨G', A', c', hv', hc', hi'⟩ := h w' hw'
  obtain ⟨ad', cs', hA', _, h7, h8⟩ := hi' _ y h2
  rw [hv] at hv'
  injection hv' with hAA _ _
  rw [hA, hA'] at hAA
  cases hAA
  rw [h8.1] at h7
  exact h7
end
section
variable {P : Program} {w : World} {m : List (Nat × Value)} {dd : Option Tmp} {ty : TypeId} {pos : String} {aft : Array Edge} {g : Option (Nat × Bool)} {x y : Operand} {α : Type}
theorem Aio {t e u : TypeId} {o : Option (Nat × α)} (hx : ev m x = some (LI o)) (hy : ev m y = some (.pointer none)) (hp : P.underlying t = some (.pointer e)) : EX P w m ⟨dd, .binOp .eql t x y u, ty, pos, aft, g⟩ (.bool o.isNone) w := by
 cases o with
 | none =>
  have h : (Op.equal t (.pointer none) (.pointer none)).run P w = .ok true w := WF fun d => by simp [Op.equalIn, run_underlying hp]
  exact Hl hx hy (fun _ => Value.noConfusion) Value.noConfusion (by simp [LI, binOp, h])
 | some p => exact Ado hx hy hp
end
section
variable {P : Program} {w0 w : World} {F0 : List Nat} {ps : List Ck} {m : List (Nat × Value)} {n d : Nat} {ty : TypeId} {pos : String} {aft : Array Edge} {x y : Operand} {ops : Array Oper} {Q : Exit → Act → World → Prop} {a : Act} {l' : List Oper} {α : Type} {T : Ty α} {v : Value}
theorem ZC {U : Ty Unit} {zc : Value} {x0 : α} (hU : ∀ w F c, U.own w F () c → c = [zc] ∧ F = []) (hown : ∀ w, T.own w [] x0 [zc]) : ∀ (k : Nat) (F : List Nat) (cs : List Value), DG U w F (List.replicate k ()) cs → DG T w F (List.replicate k x0) cs
 | 0, F, cs, h => h
 | k + 1, F, cs, ⟨c, e, F1, F2, h1, h2, h3, h4, h5⟩ => by
  obtain ⟨rfl, rfl⟩ := hU _ _ _ h3
  exact ⟨_, e, [], F2, h1, h2, hown w, ZC hU hown k F2 e h4, h5⟩
theorem Fi (x0 : α) (zc : Value) {s : List α} {t e by_ : Nat} {k : Int} {kk k2 : IntKind} (h1 : T.sz = 1) (hone : zc.oneCell' = true) (hown : ∀ w, T.own w [] x0 [zc]) (hF : Fr a n m) (hs : SL w0 F0 w ps) (hb : Ey P t e 1 by_ (Ji 1) = true)
  (hz : (P.info? e).bind (·.zero) = some zc) (hz' : zc.cells = ⟨[zc]⟩) (hx : ev m x = some (.int kk k)) (hy : ev m y = some (.int k2 k)) (hk : Jj by_ k x0 = some s) (hlt : Nat.blt d n = true)
  (K : ∀ v w a, Fr a n ((d, v) :: m) → SL w0 F0 w (Sl T v s :: ps) → wpList P ops Q l' a w) : wpList P ops Q (⟨some d, .makeSlice t x y, ty, pos, aft, none⟩ :: l') a w := by
 unfold Jj at hk
 split at hk
 ·rename_i hh
  cases hk
  refine PW (T := Ty.scalar (fun _ : Unit => zc) fun _ => hone) (enc := fun _ => [zc]) (Flat.scalar _ _) () (s := List.replicate k.toNat ()) hF hs hb rfl rfl hz hz' hx hy (by unfold Jj; rw [A1 hh]) hlt fun v w a hF h => K v w a hF ?_
  refine h.re fun F ⟨G1, G2, e, ⟨cs, F1, F2, hf, hrow, hE, hd⟩, hst, hdis⟩ => ⟨F, ⟨G1, G2, e, ⟨cs, F1, F2, hf, ?_, ZC (fun _ _ _ h => h) hown _ _ _ hE, hd⟩, hst, hdis⟩, fun _ => Iff.rfl⟩
  rw [List.length_replicate] at hrow ⊢
  rw [h1]
  exact hrow
 ·cases hk
end
section
variable {P : Program} {w0 w : World} {F0 : List Nat} {ps : List Ck} {m : List (Nat × Value)} {n : Nat} {ty : TypeId} {pos : String} {aft : Array Edge} {x y : Operand} {ops : Array Oper} {Q : Exit → Act → World → Prop} {a : Act} {l' : List Oper} {α : Type} {T : Ty α} {v : Value} {l : List (Option (Nat × α))} {t t' : TypeId} {z : α} {g k cp : Nat} {c : List Value} {A : Addr}
theorem ZB {i : Int} {y0 : Option (Nat × α)} (hF : Fr a n m) (hs : SL w0 F0 w (Dt T z c :: AB g t c :: Sl (Ty.ptr t T) v l :: ps)) (hx0 : idx l i = some y0) (hv : v = .slice (some A) k cp) (hx : ev m x = some (.pointer (some (A.add (i.toNat * 1))))) (hy : ev m y = some (.pointer (some ⟨g, 0, none⟩)))
  (hi : (P.info? t').map (·.size) = some 1)
  (K : ∀ w a, Fr a n m → SL w0 F0 w (Sl (Ty.ptr t T) v (l.set i.toNat (some (g, z))) :: ps) → wpList P ops Q l' a w) : wpList P ops Q (⟨none, .store t' x y, ty, pos, aft, none⟩ :: l') a w := by
 obtain ⟨ti, hi, hsz⟩ := Option.map_eq_some_iff.1 hi
 obtain ⟨A', cp', w', hv', h3, h2⟩ := SL.Alx (P := P) hs.f1.f2 hx0
 rw [hv] at hv'
 injection hv' with h4 _ _
 cases h4
 rw [add_add', Nat.add_zero, Nat.mul_one] at h3
 rw [Nat.mul_one] at hx
 refine OQ hF (w' := w') (fun a n hF => ?_) rfl rfl fun a hF => K _ a hF h2
 simp [execOp, hF.eval hx, hF.eval hy, Instr.storeAt, Instr.sureAddr, storeVar, sizeOf, typeInfo, hi, hsz, Value.cells, h3]
end
theorem OA {α : Type} {T : Ty α} (w : World) : (Ty.slice T).own w [] [] [.slice none 0 0] := ⟨_, rfl, slOwn.nil w⟩
theorem IZ {α : Type} {T : Ty α} {t : TypeId} (w : World) : (Ty.ptr t T).own w [] none [.pointer none] := ⟨rfl, rfl⟩
end Go.Pv
namespace Go.Pv
open Go Go.RowKit
section
variable {P : Program} {w0 w w' : World} {F0 : List Nat} {ps qs q1 rest : List Ck} {W : Type} {n : VJ} {K : Nat} {T : Ty W} {vs : List Value} {ts : List (Db W)} {L : List (List Ck)} {v : Value} {t : Db W}
def HC (n : VJ) (T : Ty W) (K : Nat) (vs : List Value) (ts : List (Db W)) (L : List (List Ck)) : Ck :=
 ⟨fun w F => (∀ k ∈ F, k < w.heap.size) ∧ (vs.length = K ∧ ∀ v ∈ vs, v.oneCell' = true) ∧ (∀ (k : Nat) t, ts[k]? = some t → ∃ v G, vs[k]? = some v ∧ Ba [PN n T v t] w G ∧ ∀ j ∈ G, j ∈ F) ∧ ∀ qs ∈ L, ∃ G, Ba qs w G ∧ ∀ j ∈ G, j ∈ F,
  fun ⟨h0, h1, h2, h3⟩ hk => ⟨fun k hk' => by
   have h4 := hk k hk'
   rw [Array.getElem?_eq_getElem (h0 k hk')] at h4
   exact (Array.getElem?_eq_some_iff.1 h4).1, h1, fun k t ht => by
   obtain ⟨v, G, a, b, c⟩ := h2 k t ht
   exact ⟨v, G, a, b.loc fun j hj => hk j (c j hj), c⟩, fun qs hq => by
   obtain ⟨G, b, c⟩ := h3 qs hq
   exact ⟨G, b.loc fun j hj => hk j (c j hj), c⟩⟩,
  fun h => h.1⟩
theorem SL.Agt {g ty : Nat} (hs : SL w0 F0 w (AB g ty (List.replicate K .nilFunc) :: ps)) : ∃ vs, SL w0 F0 w (AB g ty vs :: HC n T K vs (List.replicate K (.nil : Db W)) [] :: ps) := by
 refine ⟨_, hs.re fun F ⟨F1, F2, e, h1, h2, hd⟩ => ⟨F, ⟨F1, F2, e, h1, ⟨[], F2, rfl, ⟨by simp, ⟨List.length_replicate, ?_⟩, ?_, by simp⟩, h2, by simp⟩, hd⟩, fun _ => Iff.rfl⟩⟩
 ·intro v hv
  rw [List.eq_of_mem_replicate hv]
  rfl
 ·intro j t ht
  have hj := (List.getElem?_eq_some_iff.1 ht).1
  rw [List.length_replicate] at hj
  rw [List.getElem?_replicate, A1 hj] at ht
  cases ht
  exact ⟨.nilFunc, [], by rw [List.getElem?_replicate, A1 hj], Ba.one (p := PN n T .nilFunc .nil) ⟨[], ⟨rfl, rfl⟩, rfl⟩, by simp⟩
theorem SL.YQ (hs : SL w0 F0 w (qs ++ HC n T K vs ts L :: ps)) : SL w0 F0 w (HC n T K vs ts (qs :: L) :: ps) := hs.re fun F hst => by
 obtain ⟨F1, F2, e, h1, ⟨F3, F4, e2, ⟨a0, a1, a2, a3⟩, h4, hd2⟩, hd⟩ := Ba.append.1 hst
 refine ⟨F, ⟨F1 ++ F3, F4, by rw [e, e2, Amy], ⟨?_, a1, ?_, ?_⟩, h4, ?_⟩, fun _ => Iff.rfl⟩
 ·intro k hk
  rcases List.mem_append.1 hk with h | h
  ·exact h1.lt k h
  ·exact a0 k h
 ·intro k t ht
  obtain ⟨v, G, b, c, d⟩ := a2 k t ht
  exact ⟨v, G, b, c, fun j hj => List.mem_append_right _ (d j hj)⟩
 ·intro q hq
  rcases List.mem_cons.1 hq with rfl | hq
  ·exact ⟨F1, h1, fun j hj => List.mem_append_left _ hj⟩
  ·obtain ⟨G, c, d⟩ := a3 q hq
   exact ⟨G, c, fun j hj => List.mem_append_right _ (d j hj)⟩
 ·intro k hk hk'
  rcases List.mem_append.1 hk with h | h
  ·exact hd k h (by rw [e2]; exact List.mem_append_right _ hk')
  ·exact hd2 k h hk'
theorem SL.Ai4 (hm : q1 ∈ L) (hs : SL w0 F0 w (qs ++ HC n T K vs ts L :: ps)) : SL w0 F0 w (HC n T K vs ts ((qs ++ q1) :: L) :: ps) := hs.re fun F hst => by
 obtain ⟨F1, F2, e, h1, ⟨F3, F4, e2, ⟨a0, a1, a2, a3⟩, h4, hd2⟩, hd⟩ := Ba.append.1 hst
 refine ⟨F, ⟨F1 ++ F3, F4, by rw [e, e2, Amy], ⟨?_, a1, ?_, ?_⟩, h4, ?_⟩, fun _ => Iff.rfl⟩
 ·intro k hk
  rcases List.mem_append.1 hk with h | h
  ·exact h1.lt k h
  ·exact a0 k h
 ·intro k t ht
  obtain ⟨v, G, b, c, d⟩ := a2 k t ht
  exact ⟨v, G, b, c, fun j hj => List.mem_append_right _ (d j hj)⟩
 ·intro q hq
  rcases List.mem_cons.1 hq with rfl | hq
  ·obtain ⟨G, c, d⟩ := a3 q1 hm
   exact ⟨F1 ++ G, Ba.append.2 ⟨F1, G, rfl, h1, c, fun j hj hj' => hd j hj (by rw [e2]; exact List.mem_append_left _ (d j hj'))⟩, fun j hj => by
    rcases List.mem_append.1 hj with h | h
    ·exact List.mem_append_left _ h
    ·exact List.mem_append_right _ (d j h)⟩
  ·obtain ⟨G, c, d⟩ := a3 q hq
   exact ⟨G, c, fun j hj => List.mem_append_right _ (d j hj)⟩
 ·intro k hk hk'
  rcases List.mem_append.1 hk with h | h
  ·exact hd k h (by rw [e2]; exact List.mem_append_right _ hk')
  ·exact hd2 k h hk'
theorem SL.YT (hs : SL w0 F0 w ps) (hm : HC n T K vs ts L ∈ ps) (hq : qs ∈ L) {g t o : Nat} {cs : List Value} {u : Value} (hb : AB g t cs ∈ qs) (hu : cs[o]? = some u) : w.cell? ⟨g, o, none⟩ = some u := by
 obtain ⟨F, hst, hF⟩ := hs.st
 obtain ⟨G, ⟨_, _, _, a3⟩, hG⟩ := Ij hm hst
 obtain ⟨G', c, _⟩ := a3 qs hq
 exact (SL.init w G' c).BP hb hu
theorem SL.Ai5 {k : Nat} (hs : SL w0 F0 w (qs ++ HC n T K vs ts L :: ps)) (hk : Nat.blt k K = true) (h1v : v.oneCell' = true) (hm : q1 = [] ∨ q1 ∈ L) (hq : ∀ w G, SL w G w (qs ++ q1) → SL w G w [PN n T v t]) :
  SL w0 F0 w (HC n T K (vs.set k v) (ts.set k t) L :: ps) := hs.re fun F hst => by
 obtain ⟨F1, F2, e, h1, ⟨F3, F4, e2, ⟨a0, a1, a2, a3⟩, h4, hd2⟩, hd⟩ := Ba.append.1 hst
 refine ⟨F, ⟨F1 ++ F3, F4, by rw [e, e2, Amy], ⟨?_, ⟨by rw [List.length_set]; exact a1.1, ?_⟩, ?_, ?_⟩, h4, ?_⟩, fun _ => Iff.rfl⟩
 ·intro k hk
  rcases List.mem_append.1 hk with h | h
  ·exact h1.lt k h
  ·exact a0 k h
 ·intro u hu
  rcases List.mem_or_eq_of_mem_set hu with h | rfl
  ·exact a1.2 u h
  ·exact h1v
 ·intro j t' ht
  have hk : k < vs.length := by rw [a1.1]; simpa [Nat.blt_eq] using hk
  by_cases hj : k = j
  ·subst hj
   have ht' : t = t' := by
    rw [List.getElem?_set] at ht
    split at ht
    ·split at ht
     ·exact Option.some.inj ht
     ·cases ht
    ·rename_i hn; exact absurd rfl hn
   subst ht'
   have hG : ∃ G1, Ba q1 w G1 ∧ ∀ j ∈ G1, j ∈ F3 := by
    rcases hm with rfl | hm
    ·exact ⟨[], rfl, by simp⟩
    ·exact a3 q1 hm
   obtain ⟨G1, c, d⟩ := hG
   have h5 : Ba (qs ++ q1) w (F1 ++ G1) := Ba.append.2 ⟨F1, G1, rfl, h1, c, fun j hj hj' => hd j hj (by rw [e2]; exact List.mem_append_left _ (d j hj'))⟩
   obtain ⟨G2, h6, h7⟩ := (hq w _ (SL.init w _ h5)).st
   refine ⟨v, G2, by rw [List.getElem?_set_self hk], h6, fun j hj => ?_⟩
   rcases h7 j hj with h8 | h8
   ·rcases List.mem_append.1 h8 with h9 | h9
    ·exact List.mem_append_left _ h9
    ·exact List.mem_append_right _ (d j h9)
   ·exact absurd (h6.lt j hj) (by omega)
  ·rw [List.getElem?_set_ne hj] at ht
   obtain ⟨v', G, b, c, d⟩ := a2 j t' ht
   exact ⟨v', G, by rw [List.getElem?_set_ne hj]; exact b, c, fun i hi => List.mem_append_right _ (d i hi)⟩
 ·intro q hq
  obtain ⟨G, c, d⟩ := a3 q hq
  exact ⟨G, c, fun j hj => List.mem_append_right _ (d j hj)⟩
 ·intro k hk hk'
  rcases List.mem_append.1 hk with h | h
  ·exact hd k h (by rw [e2]; exact List.mem_append_right _ hk')
  ·exact hd2 k h hk'
theorem SL.Qe (hs : SL w0 F0 w ps) (hm : HC n T K vs ts L ∈ ps) : (vs.length = K ∧ ∀ v ∈ vs, v.oneCell' = true) ∧ ∀ (k : Nat) t, ts[k]? = some t → ∃ v, vs[k]? = some v ∧ SL w0 F0 w [PN n T v t] := by
 obtain ⟨F, hst, hF⟩ := hs.st
 obtain ⟨G, ⟨_, a1, a2, _⟩, hG⟩ := Ij hm hst
 refine ⟨a1, fun k t ht => ?_⟩
 obtain ⟨v, G', b, c, d⟩ := a2 k t ht
 exact ⟨v, b, hs.fm, G', c, fun j hj => hF j (hG j (d j hj))⟩
end
section
variable {P : Program} {w0 w : World} {F0 : List Nat} {ps qs q1 : List Ck} {m : List (Nat × Value)} {n d : Nat} {ty : TypeId} {pos : String} {aft : Array Edge} {x y : Operand} {ops : Array Oper} {Q : Exit → Act → World → Prop} {a : Act} {l' : List Oper} {W : Type} {nn : VJ} {K : Nat} {T : Ty W} {vs : List Value} {ts : List (Db W)} {L : List (List Ck)} {v : Value} {t : Db W}
theorem WA {b : Ck} (hs : SL w0 F0 w (qs ++ b :: ps)) : SL w0 F0 w (b :: (qs ++ ps)) := hs.re fun F hst => by
 obtain ⟨F1, F2, e, h1, ⟨F3, F4, e2, h2, h3, hd2⟩, hd⟩ := Ba.append.1 hst
 refine ⟨F3 ++ (F1 ++ F4), ⟨F3, F1 ++ F4, rfl, h2, Ba.append.2 ⟨F1, F4, rfl, h1, h3, fun k hk hk' => hd k hk (by rw [e2]; exact List.mem_append_right _ hk')⟩, fun k hk hk' => ?_⟩, fun k => ?_⟩
 ·rcases List.mem_append.1 hk' with h | h
  ·exact hd k h (by rw [e2]; exact List.mem_append_left _ hk)
  ·exact hd2 k hk h
 ·rw [e, e2]
  simp only [Amt]
  constructor
  ·rintro (h | h | h)
   ·exact .inr (.inl h)
   ·exact .inl h
   ·exact .inr (.inr h)
  ·rintro (h | h | h)
   ·exact .inr (.inl h)
   ·exact .inl h
   ·exact .inr (.inr h)
theorem BX {g tb t' k : Nat} (hF : Fr a n m) (hs : SL w0 F0 w (qs ++ AB g tb vs :: HC nn T K vs ts L :: ps)) (hx : ev m x = some (.pointer (some ⟨g, k, none⟩))) (hy : ev m y = some v)
  (hi : (P.info? t').map (·.size) = some 1) (hv : v.cells = #[v]) (h1 : v.oneCell' = true) (hk : Nat.blt k K = true) (hm : q1 = [] ∨ q1 ∈ L) (hq : ∀ w G, SL w G w (qs ++ q1) → SL w G w [PN nn T v t])
  (kk : ∀ vs' w a, Fr a n m → SL w0 F0 w (AB g tb vs' :: HC nn T K vs' (ts.set k t) L :: ps) → wpList P ops Q l' a w) : wpList P ops Q (⟨none, .store t' x y, ty, pos, aft, none⟩ :: l') a w := by
 have hk' : k < vs.length := by
  obtain ⟨F, hst, _⟩ := hs.st
  obtain ⟨G, ⟨_, a1, _⟩, _⟩ := Ij (p := HC nn T K vs ts L) (by simp) hst
  rw [a1.1]
  simpa [Nat.blt_eq] using hk
 refine MN hF (WA hs) hx hy hi hv h1 (Amq hk') fun w a hF hs => ?_
 refine kk (vs.set k v) w a hF ?_
 have h3 := hs.rot
 simp only [Amy] at h3
 have h4 : SL w0 F0 w (qs ++ HC nn T K vs ts L :: (ps ++ [AB g tb (vs.set k v)])) := by simpa using h3
 have h5 := SL.Ai5 h4 hk h1 hm hq
 have h6 : SL w0 F0 w ((HC nn T K (vs.set k v) (ts.set k t) L :: ps) ++ AB g tb (vs.set k v) :: []) := by simpa using h5
 simpa using WA h6
end
end Go.Pv
namespace Go.Pv
open Go Go.RowKit Go.Sort Go.Shelf Go.Proofs
theorem Rx (off : Nat) (d : Array Int) (c : Array Value) (j : Nat) : (putCells (Value.int .i64) off d c)[j]? = if j < c.size then (if off ≤ j ∧ j < off + d.size then some (Value.int .i64 d[j - off]!) else c[j]?) else none := by
 unfold putCells
 rw [Array.getElem?_mapIdx]
 by_cases hj : j < c.size
 ·rw [A1 hj, Array.getElem?_eq_getElem hj, Amo]
  split <;> rfl
 ·rw [Ay hj, Array.getElem?_eq_none (by omega)]
  rfl
theorem LM (off : Nat) (d : Array Int) (c : Array Value) : (putCells (Value.int .i64) off d c).size = c.size := by simp [putCells]
theorem Mk : ∀ (l : List Int), l.flatMap (fun x => [Value.int .i64 x]) = l.map (Value.int .i64)
 | [] => rfl
 | x :: l => by rw [List.flatMap_cons, Mk l]; rfl
theorem TR {P : Program} {ρ : Ren} (L : Lays.n189 P ρ) {w : World} {FF : List Nat} {v : Value} {l r : List Int} (hst : Ba [Sl (Ty.int .i64) v l] w FF) (hr : Ol l = some r) :
  Calls P (ρ.f 189) #[v] w (B8 fun u w' => u = .tuple #[] ∧ SL w FF w' [Sl (Ty.int .i64) v r]) := by
 unfold Ol at hr
 split at hr
 ·rename_i hlen
  cases hr
  have hown : slOwn (Ty.int .i64) w FF v l := Ba.J5 hst
  have hrow := (Flat.int .i64).slOwn.1 hown
  have hperm : (D5 l).length = l.length := by simp [D5]
  rcases hrow.2 with ⟨rfl, h0, rfl⟩ | ⟨g, o, cap, cur, e, fz, rfl, rfl, hg, hnc, hoc, hfz, hcells⟩
  ·have hl : l = [] := List.eq_nil_of_length_eq_zero h0
   subst hl
   refine (Any.slices_Sort_int_none L none 0 w).mono fun _ w' ⟨he, hw⟩ => ⟨_, he, rfl, ?_⟩
   subst hw
   have : D5 [] = [] := by simp [D5]
   rw [this]
   exact SL.init w' [] hst
  ·have hsz : (Ty.int .i64).sz = 1 := rfl
   rw [Mk l] at hcells
   rw [hsz, Nat.mul_one] at hoc
   have hcur : ∀ j, j < l.length → cur[o + j]? = some (Value.int .i64 (l.toArray[j]!)) := fun j hj => by
    have h1 := hcells j (Value.int .i64 l[j]) (by rw [List.getElem?_map, Amq hj]; rfl)
    rw [h1]
    congr 2
    simp [hj]
   have hH : Holds (Value.int .i64) w g o l.toArray := fun j hj => by
    have hj' : j < l.length := by simpa using hj
    refine ⟨?_, ?_⟩
    ·simp [World.cell?, hg, hcur j hj']
    ·have := hfz (o + j) (by omega)
     simp [World.frozen?, hg]
     omega
   refine (Any.slices_Sort_int L g o cap l w hH (GT hg) hlen).mono fun _ w' ⟨he, n, os, hw⟩ => ⟨_, he, rfl, ?_⟩
   have hheap : w'.heap = (w.heap.modify g fun | .cells c e fr => .cells (putCells (Value.int .i64) o (D5 l).toArray c) e fr | ob => ob) ++ os := by
    rw [hw]
    rfl
   have hgl := GT hg
   have hother : ∀ k, k < w.heap.size → k ≠ g → w'.heap[k]? = w.heap[k]? := fun k hk hne => by
    rw [hheap, Array.getElem?_append_left (by simpa using hk), Array.getElem?_modify, Ay (fun h => hne h.symm)]
   have hself : w'.heap[g]? = some (.cells (putCells (Value.int .i64) o (D5 l).toArray cur) e fz) := by
    rw [hheap, Array.getElem?_append_left (by simpa using hgl), Array.getElem?_modify, A1 rfl, hg]
    rfl
   refine ⟨⟨by rw [hw]; rfl, by rw [hw]; rfl, by rw [hw]; rfl, by rw [hheap]; simp, fun k hk hn => hother k hk (by simpa using hn)⟩, [g], Ba.one (p := Sl (Ty.int .i64) _ (D5 l)) ((Flat.int .i64).slOwn.2 ⟨?_, .inr ⟨g, o, cap, _, e, fz, by rw [hperm], rfl, hself, by omega, ?_, ?_, ?_⟩⟩), fun k hk => .inl hk⟩
   ·rw [KD (Flat.int .i64)]
   ·rw [hsz, Nat.mul_one, LM]; exact hoc
   ·intro j hj
    rw [LM] at hj
    exact hfz j hj
   ·intro j u hu
    rw [Mk (D5 l), List.getElem?_map] at hu
    rcases hx : (D5 l)[j]? with _ | x
    ·rw [hx] at hu; cases hu
    ·rw [hx] at hu
     have hjl := (List.getElem?_eq_some_iff.1 hx).1
     rw [Rx, A1 (by omega), A1 ⟨by omega, by simp; omega⟩, Nat.add_sub_cancel_left]
     simp only [Amo, Option.some.injEq] at hu
     rw [← hu]
     congr 2
     have : (D5 l)[j] = x := by
      rw [Amq hjl] at hx
      exact Option.some.inj hx
     simp [hjl, this]
 ·cases hr
end Go.Pv
namespace Go.Pv
open Go Go.RowKit Go.Sort Go.Shelf Go.Proofs Go.Maps
theorem Aid {w w' : World} {d r : List Int} {g o cap : Nat} {cur : Array Value} {e : TypeId} {fz : Nat × Nat} {os : Array Obj}
  (hg : w.heap[g]? = some (.cells cur e fz)) (hoc : o + cap ≤ cur.size) (hnc : d.length ≤ cap) (hfz : ∀ j, j < cur.size → ¬ (fz.1 ≤ j ∧ j < fz.2))
  (hr : r.length ≤ d.length) (hp : ∀ j, j < r.length → r[j]? = d[j]?)
  (ho : w'.os = w.os) (ht : w'.tape = w.tape) (hu : w'.output = w.output)
  (hheap : w'.heap = (w.heap.modify g fun | .cells c e fr => .cells (putCells (Value.int .i64) o d.toArray c) e fr | ob => ob) ++ os) :
  SL w [g] w' [Sl (Ty.int .i64) (.slice (some ⟨g, o, none⟩) r.length cap) r] := by
 have hgl := GT hg
 have hother : ∀ k, k < w.heap.size → k ≠ g → w'.heap[k]? = w.heap[k]? := fun k hk hne => by
  rw [hheap, Array.getElem?_append_left (by simpa using hk), Array.getElem?_modify, Ay (fun h => hne h.symm)]
 have hself : w'.heap[g]? = some (.cells (putCells (Value.int .i64) o d.toArray cur) e fz) := by
  rw [hheap, Array.getElem?_append_left (by simpa using hgl), Array.getElem?_modify, A1 rfl, hg]
  rfl
 have hsz : (Ty.int .i64).sz = 1 := rfl
 refine ⟨⟨ho, ht, hu, by rw [hheap]; simp, fun k hk hn => hother k hk (by simpa using hn)⟩, [g], Ba.one (p := Sl (Ty.int .i64) _ r) ((Flat.int .i64).slOwn.2 ⟨?_, .inr ⟨g, o, cap, _, e, fz, rfl, rfl, hself, by omega, ?_, ?_, ?_⟩⟩), fun k hk => .inl hk⟩
 ·rw [KD (Flat.int .i64)]
 ·rw [hsz, Nat.mul_one, LM]; exact hoc
 ·intro j hj
  rw [LM] at hj
  exact hfz j hj
 ·intro j u hu'
  rw [Mk r, List.getElem?_map] at hu'
  rcases hx : r[j]? with _ | x
  ·rw [hx] at hu'; cases hu'
  ·have hjl := (List.getElem?_eq_some_iff.1 hx).1
   rw [hx] at hu'
   have hd := hp j hjl
   rw [hx] at hd
   have hdl := (List.getElem?_eq_some_iff.1 hd.symm).1
   rw [Rx, A1 (by omega), A1 ⟨by omega, by simp; omega⟩, Nat.add_sub_cancel_left]
   simp only [Amo, Option.some.injEq] at hu'
   rw [← hu']
   congr 2
   have : d[j] = x := by
    rw [Amq hdl] at hd
    exact (Option.some.inj hd).symm
   simp [hdl, this]
def LU (l : List Int) : Option (List Int) := if l.length < 4611686018427387904 then some (Lib.compact l) else none
theorem Zq (l : List Int) : (Lib.compact l).length ≤ l.length := by
 unfold Lib.compact Lib.compactUpTo
 rw [Ams]
 refine Nat.le_trans (List.length_filter_le _ _) ?_
 rw [List.length_range]
 exact Nat.le_refl _
theorem Tw {P : Program} {ρ : Ren} (L : Lays2.n20 P ρ) {w : World} {FF : List Nat} {v : Value} {l r : List Int} (hst : Ba [Sl (Ty.int .i64) v l] w FF) (hr : LU l = some r) :
  Calls P (ρ.f 20) #[v] w (B8 fun u w' => SL w FF w' [Sl (Ty.int .i64) u r]) := by
 unfold LU at hr
 split at hr
 ·rename_i hlen
  cases hr
  have hown : slOwn (Ty.int .i64) w FF v l := Ba.J5 hst
  have hrow := (Flat.int .i64).slOwn.1 hown
  rcases hrow.2 with ⟨rfl, h0, rfl⟩ | ⟨g, o, cap, cur, e, fz, rfl, rfl, hg, hnc, hoc, hfz, hcells⟩
  ·have hl : l = [] := List.eq_nil_of_length_eq_zero h0
   subst hl
   refine (Any.slices_Compact_int_empty L none 0 w).mono fun _ w' ⟨he, hw⟩ => ⟨_, he, ?_⟩
   subst hw
   have : Lib.compact ([] : List Int) = [] := rfl
   rw [this]
   exact SL.init w' [] hst
  ·have hsz : (Ty.int .i64).sz = 1 := rfl
   rw [Mk l] at hcells
   rw [hsz, Nat.mul_one] at hoc
   have hcur : ∀ j, j < l.length → cur[o + j]? = some (Value.int .i64 (l.toArray[j]!)) := fun j hj => by
    have h1 := hcells j (Value.int .i64 l[j]) (by rw [List.getElem?_map, Amq hj]; rfl)
    rw [h1]
    congr 2
    simp [hj]
   have hH : Holds (Value.int .i64) w g o l.toArray := fun j hj => by
    have hj' : j < l.length := by simpa using hj
    refine ⟨?_, ?_⟩
    ·simp [World.cell?, hg, hcur j hj']
    ·have := hfz (o + j) (by omega)
     simp [World.frozen?, hg]
     omega
   have hcl := Zq l
   refine (Any.slices_Compact_int L g o cap l w hH (by omega) hnc).mono fun _ w' ⟨he, q, hw⟩ => ⟨_, he, ?_⟩
   refine Aid (d := Lib.compact l ++ List.replicate (l.length - (Lib.compact l).length) 0) (os := #[]) hg hoc ?_ hfz ?_ ?_ (by rw [hw]; rfl) (by rw [hw]; rfl) (by rw [hw]; rfl) ?_
   ·simp; omega
   ·simp
   ·intro j hj
    rw [List.getElem?_append_left hj]
   ·rw [hw, Array.append_empty]
    rfl
 ·cases hr
def UN {ν : Type} (l : List (Int × ν)) : Option (List Int) :=
 if decide (l.length ≤ 1000000000) && l.all (fun p => decide (-9223372036854775808 ≤ p.1) && decide (p.1 ≤ 9223372036854775807)) then some (D5 (l.map Prod.fst)) else none
theorem Agc {P : Program} {ρ : Ren} (L : SlLaysZI.n7 P ρ) {w : World} {g : Nat} :
  Calls P (ρ.f 7) #[.map (some g)] w (B8 fun u w' => ∃ k, u = clo (ρ.f 10) [.pointer (some ⟨k, 0, none⟩)] ∧ SL w [] w' [AB k (ρ.t 23) [.map (some g)]]) :=
 (callsIn_wide (n := 6)).1 ((AnyZI.keys_in L Fence.wide 6 trivial rfl (some g) w).mono fun e w' ⟨he, hw⟩ => ⟨_, he, w.heap.size, rfl, by
  subst hw
  exact ⟨Fm.alloc w [] _, [w.heap.size], Ba.one (p := AB _ _ _) ⟨rfl, heap_alloc_new w _⟩, fun k hk => .inr (by simp only [Amu] at hk; omega)⟩⟩)
theorem Abf {P : Program} {k : TypeId} (hk : P.underlying k = some (.int .i64)) {x : Int} (h1 : -9223372036854775808 ≤ x) (h2 : x ≤ 9223372036854775807) : keyOf P k (.int .i64 x) = some (.int .i64 x) := by
 simp only [keyOf, hk, mapKey, true_and, ite_eq_left_iff]
 intro h
 refine absurd ?_ h
 simp only [Lit.wf, IntKind.min, IntKind.max, Az, Am3]
 first | exact ⟨h1, h2⟩ | (constructor <;> simp [IntKind.signed, IntKind.bits] <;> omega)
theorem Abn {P : Program} {ρ6 ρ7 ρs : Ren} (L6 : SlLaysZI.n6 P ρ6) (L7 : SlLaysZI.n7 P ρ7) (Ls : Lays.n189 P ρs) (e9 : ρ6.f 9 = ρs.f 189) {ν : Type} {ev_ : ν → Value} {w : World} {FF : List Nat} {g kb : Nat} {l : List (Int × ν)} {r : List Int}
  (h8 : DL P (ρ6.f 8) = true) (h9 : DL P (ρ6.f 9) = true) (h10 : DL P (ρ7.f 10) = true)
  (hst : Ba [Mp (Value.int .i64) ev_ g l, AB kb (ρ7.t 23) [.map (some g)]] w FF) (hr : UN l = some r) :
  Calls P (ρ6.f 6) #[clo (ρ7.f 10) [.pointer (some ⟨kb, 0, none⟩)]] w (B8 fun u w' => SL w FF w' [Mp (Value.int .i64) ev_ g l, Sl (Ty.int .i64) u r]) := by
 unfold UN at hr
 split at hr
 ·rename_i hok
  cases hr
  simp only [Am3, Az, List.all_eq_true] at hok
  obtain ⟨hlen, hrange⟩ := hok
  obtain ⟨F1, F2, eF, ⟨e1, es, clock, hm⟩, ⟨F3, F4, eF2, ⟨e3, hkb⟩, e4, _⟩, hd⟩ := hst
  have hgl := GT hm.heap
  have hkl := GT hkb
  have hesz : es.size = l.length := hm.size
  have hent : ∀ x ∈ es.toList, ∃ p ∈ l, x.key = Value.int .i64 p.1 := fun x hx => by
   obtain ⟨j, hj, hjx⟩ := List.mem_iff_getElem.1 hx
   have hj' : es[j]? = some x := by rw [← Array.getElem?_toList, Amq hj, hjx]
   obtain ⟨p, hp, hk, _⟩ := hm.entry hj'
   exact ⟨p, List.mem_of_getElem? hp, hk⟩
  let R : Value → Option (DataW Unit × List MemPlace) := fun _ => some (.lit (.bool true), [])
  have hkeys : ∀ k : TypeId, P.underlying k = some (.int .i64) → ∀ x ∈ es.toList, ∃ p ∈ l, x.key = Value.int .i64 p.1 ∧ WideElems.rd P k R x = some (.int .i64 p.1, .lit (.bool true)) := fun k hk x hx => by
   obtain ⟨p, hp, hxk⟩ := hent x hx
   refine ⟨p, hp, hxk, ?_⟩
   have h1 := hrange p hp
   simp only [WideElems.rd, hxk, Abf hk h1.1 h1.2, Amn, R, Amo]
  have hown : w.ownsMap P (ρ7.t 26) R g l.length (.map ((es.toList.map (WideElems.rg P (ρ7.t 26) R)).foldr DataW.insert [])) := by
   refine ⟨es, clock, hm.heap, ⟨?_, ⟨hm.lt, hm.born.imp (fun h => by omega), ?_⟩, ?_⟩, by omega, rfl⟩
   ·unfold maxLen; omega
   ·have h1 : es.toList.map (·.key) = (l.map Prod.fst).map (Value.int .i64) := by
     have h2 := congrArg (List.map Prod.fst) hm.map
     simpa [List.map_map, Function.comp_def] using h2
    rw [h1]
    exact List.pairwise_map.2 (hm.nodup.imp fun hne e => hne (by cases e; rfl))
   ·intro x hx
    obtain ⟨p, _, _, h⟩ := hkeys _ L7.t26 x hx
    exact ⟨_, h⟩
  have hperm : (intKeys (DataW.map ((es.toList.map (WideElems.rg P (ρ7.t 26) R)).foldr DataW.insert []) : DataW Unit)).Perm (l.map Prod.fst) := by
   refine ((WideShapes.sorted_perm _).map _).trans ?_
   rw [List.map_map]
   have h1 : es.toList.map ((fun p => intOf p.1) ∘ WideElems.rg P (ρ7.t 26) R) = l.map Prod.fst := by
    have h2 := congrArg (List.map fun p : Value × Value => match p.1 with | .int _ a => a | _ => 0) hm.map
    rw [List.map_map, List.map_map] at h2
    refine Eq.trans (List.map_congr_left fun x hx => ?_) (h2.trans (List.map_congr_left fun x hx => ?_))
    ·obtain ⟨p, _, hk, h⟩ := hkeys _ L7.t26 x hx
     simp only [Function.comp, WideElems.rg, h, Option.getD_some, intOf, hk]
    ·simp only [Function.comp]
   rw [h1]
  have hsizeD : Maps.size (DataW.map ((es.toList.map (WideElems.rg P (ρ7.t 26) R)).foldr DataW.insert []) : DataW Unit) = l.length := by
   show (((es.toList.map (WideElems.rg P (ρ7.t 26) R)).foldr DataW.insert [])).length = l.length
   rw [length_sorted, Ams, Array.length_toList, hesz]
  have hcell : w.cell? ⟨kb, 0, none⟩ = some (.map (some g)) := by simp [World.cell?, hkb]
  have hseq := AnyZI.keys_gives (ρ := ρ7) { L7 with } Fence.wide 2 trivial rfl (by omega) kb g l.length _ w hkl hcell hown
  have hsorts : AnyZI.SortsIn P ρ6 Fence.wide 4 := ⟨fun blk off cap ss W hH hblk hsz => callsIn_wide.2 (by rw [e9]; exact Any.slices_Sort_int Ls blk off cap ss W hH hblk hsz),
   fun p cap W => callsIn_wide.2 (by rw [e9]; exact Any.slices_Sort_int_none Ls p cap W)⟩
  have cS := AnyZI.sorted_in L6 Fence.wide 5 trivial trivial trivial trivial rfl (by omega) hsorts (fun args w => Ig h9 args) (ρ7.f 10) #[.pointer (some ⟨kb, 0, none⟩)] trivial (fun args w => Ig h10 args) _ _ (by rw [hsizeD]; unfold maxLen; omega) (by rw [hsizeD]; omega) w hseq
  refine ((callsIn_wide (n := 5)).1 cS).mono fun _ w' ⟨v, ss, he, hss, hrow, hnil, hb⟩ => ⟨v, he, ?_⟩
  have hfm : Fm w FF w' := ⟨hb.os, hb.tape, hb.output, hb.size, fun k hk _ => hb.block k hk⟩
  have hsort : ss.mergeSort (fun x y => decide (x ≤ y)) = D5 (l.map Prod.fst) := mergeSort_of_perm_i (hss.trans hperm)
  rw [hsort] at hrow
  have hslen : (D5 (l.map Prod.fst)).length = ss.length := by rw [← hsort]; simp
  refine SL.mk hfm ?_
  have hmp : (Mp (Value.int .i64) ev_ g l).P w' [g] := ⟨rfl, es, clock, ⟨by rw [hb.block g hgl]; exact hm.heap, hm.map, hm.born, hm.lt, hm.nodup⟩⟩
  rcases hrow.2 with ⟨rfl, h0⟩ | ⟨gb, cap, cur, rfl, hbase, hgb, r1, r2, r3, r4⟩
  ·have hz : D5 (l.map Prod.fst) = [] := List.eq_nil_of_length_eq_zero (by rw [hslen]; exact h0)
   rw [hz]
   refine ⟨[g], ⟨[g], [], rfl, hmp, ⟨[], [], rfl, slOwn.nil w', rfl, by simp⟩, by simp⟩, fun k hk => .inl ?_⟩
   rw [eF, e1]
   simp only [Amu] at hk
   simp [hk]
  ·have hne : gb ≠ g := by omega
   have hcl : cur.toList.take (ss.length * 1) = (D5 (l.map Prod.fst)).map (Value.int .i64) := r4
   refine ⟨[g, gb], ⟨[g], [gb], rfl, hmp, ⟨[gb], [], rfl, (Flat.int .i64).slOwn.2 ⟨by rw [KD (Flat.int .i64)], .inr ⟨gb, 0, cap, cur, _, (0, 0), by rw [hslen], rfl, hgb, by omega, ?_, fun j hj => by simp, ?_⟩⟩, rfl, by simp⟩, by simp; exact fun e => hne e.symm⟩, fun k hk => ?_⟩
   ·show 0 + cap * 1 ≤ cur.size
    rw [r3]
    omega
   ·intro j u hu
    rw [Mk, ← hcl, List.getElem?_take] at hu
    split at hu
    ·rw [Nat.zero_add, ← Array.getElem?_toList]; exact hu
    ·cases hu
   ·simp only [Amv, List.not_mem_nil, or_false] at hk
    rcases hk with rfl | rfl
    ·left
     rw [eF, e1]
     simp
    ·exact .inr hbase
 ·cases hr
end Go.Pv
namespace Go.Proofs.YtfcpkcehecmcpaaGreat
open Go Go.RowKit Go.Pv
structure B1 where
 Name : List UInt8
 HH : UInt8
def JR (x : B1) := (x.Name, x.HH)
def Dp : Ty B1 := Ty.iso (Ty.pair Ty.str Ty.u8) JR
theorem IV : Flat Dp (fun x => [.string ⟨⟨x.Name⟩⟩, .int .u8 (x.HH.toNat : Int)]) := Flat.iso (Flat.pair Flat.str Flat.u8) _
structure A9 where
 Name : List UInt8
 Bn : Int
 Fields : List B1
def JV (x : A9) := (x.Name, x.Bn, x.Fields)
def AL : Ty A9 := Ty.iso (Ty.pair Ty.str (Ty.pair (Ty.int .i64) (Ty.slice Dp))) JV
theorem EV {w : World} {F0 : List Nat} {G : List Nat} {x : A9} {cs : List Value} (h : (AL).rd w G x cs) (hG : ∀ k ∈ G, k < w.heap.size ∧ k ∉ F0) :
  ∃ v2 : Value, cs = [.string ⟨⟨x.Name⟩⟩, .int .i64 x.Bn, v2] ∧ Rd Dp w F0 v2 x.Fields := by
 obtain ⟨_, _, rfl, rfl, ⟨_, _, rfl, rfl, ⟨v2, rfl, h0⟩⟩⟩ := h
 exact ⟨v2, rfl, ⟨G, h0, hG⟩⟩
structure Bq where
 B5 : List UInt8
 Result : UInt8
def IR (x : Bq) := (x.B5, x.Result)
def Bs : Ty Bq := Ty.iso (Ty.pair (Ty.slice Ty.u8) Ty.u8) IR
theorem LY {w : World} {F0 : List Nat} {G : List Nat} {x : Bq} {cs : List Value} (h : (Bs).rd w G x cs) (hG : ∀ k ∈ G, k < w.heap.size ∧ k ∉ F0) :
  ∃ v0 : Value, cs = [v0, .int .u8 (x.Result.toNat : Int)] ∧ Rd Ty.u8 w F0 v0 x.B5 := by
 obtain ⟨_, _, rfl, ⟨v0, rfl, h0⟩, rfl⟩ := h
 exact ⟨v0, rfl, ⟨G, h0, hG⟩⟩
structure Df where
 Name : List UInt8
 Sig : Bq
 Locals : Int
 Code : List UInt8
def KY (x : Df) := (x.Name, x.Sig, x.Locals, x.Code)
def Es : Ty Df := Ty.iso (Ty.pair Ty.str (Ty.pair Bs (Ty.pair (Ty.int .i64) (Ty.slice Ty.u8)))) KY
theorem Qq {w : World} {F0 : List Nat} {G : List Nat} {x : Df} {cs : List Value} (h : (Es).rd w G x cs) (hG : ∀ k ∈ G, k < w.heap.size ∧ k ∉ F0) :
  ∃ v1 v4 : Value, cs = [.string ⟨⟨x.Name⟩⟩, v1, .int .u8 (x.Sig.Result.toNat : Int), .int .i64 x.Locals, v4] ∧ Rd Ty.u8 w F0 v1 x.Sig.B5 ∧ Rd Ty.u8 w F0 v4 x.Code := by
 obtain ⟨_, _, rfl, rfl, ⟨_, _, rfl, ⟨_, _, rfl, ⟨v1, rfl, h0⟩, rfl⟩, ⟨_, _, rfl, rfl, ⟨v4, rfl, h1⟩⟩⟩⟩ := h
 exact ⟨v1, v4, rfl, ⟨G, h0, hG⟩, ⟨G, h1, hG⟩⟩
structure AH where
 Name : List UInt8
 Classes : List A9
 Funcs : List Df
 Ec : List (List UInt8)
def MK (x : AH) := (x.Name, x.Classes, x.Funcs, x.Ec)
def Sj : Ty AH := Ty.iso (Ty.pair Ty.str (Ty.pair (Ty.slice AL) (Ty.pair (Ty.slice Es) (Ty.slice (Ty.slice Ty.u8))))) MK
theorem Xz {w : World} {F0 : List Nat} {G : List Nat} {x : AH} {cs : List Value} (h : (Sj).rd w G x cs) (hG : ∀ k ∈ G, k < w.heap.size ∧ k ∉ F0) :
  ∃ v1 v2 v3 : Value, cs = [.string ⟨⟨x.Name⟩⟩, v1, v2, v3] ∧ Rd AL w F0 v1 x.Classes ∧ Rd Es w F0 v2 x.Funcs ∧ Rd (Ty.slice Ty.u8) w F0 v3 x.Ec := by
 obtain ⟨_, _, rfl, rfl, ⟨_, _, rfl, ⟨v1, rfl, h0⟩, ⟨_, _, rfl, ⟨v2, rfl, h1⟩, ⟨v3, rfl, h2⟩⟩⟩⟩ := h
 exact ⟨v1, v2, v3, rfl, ⟨G, h0, hG⟩, ⟨G, h1, hG⟩, ⟨G, h2, hG⟩⟩
structure AA where
 At : Int
 Op : UInt8
 A : Int
 B : Int
def Zh (x : AA) := (x.At, x.Op, x.A, x.B)
def Bc : Ty AA := Ty.iso (Ty.pair (Ty.int .i64) (Ty.pair Ty.u8 (Ty.pair (Ty.int .i64) (Ty.int .i64)))) Zh
theorem Dq : Flat Bc (fun x => [.int .i64 x.At, .int .u8 (x.Op.toNat : Int), .int .i64 x.A, .int .i64 x.B]) := Flat.iso (Flat.pair (Flat.int .i64) (Flat.pair Flat.u8 (Flat.pair (Flat.int .i64) (Flat.int .i64)))) _
structure AK where
 l : List AA
 AX : Int
def Il (x : AK) := (x.l, x.AX)
def Bi : Ty AK := Ty.iso (Ty.pair (Ty.slice Bc) (Ty.int .i64)) Il
theorem O4 {w0 w : World} {F0 : List Nat} {x : AK} {cs : List Value} {ps : List Ck} (h0 : SL w0 F0 w (Dt Bi x cs :: ps)) :
  ∃ v0 : Value, cs = [v0, .int .i64 x.AX] ∧ SL w0 F0 w (Sl Bc v0 x.l :: ps) := by
 have h1 := SL.Akk h0
 obtain ⟨_, _, rfl, h2⟩ := SL.Aja h1
 obtain ⟨v0, rfl, h3⟩ := SL.Ahd h2
 have h4 := h3.f1
 obtain ⟨rfl, h5⟩ := SL.Aag (Flat.int .i64) h4
 exact ⟨v0, rfl, h5⟩
structure AD where
 Classes : List A9
 AP : List Bq
 Fn : Int
structure A3 where
 Locals : Int
 Height : Int
 Slots : Vector UInt8 24
def YZ (x : A3) := (x.Locals, x.Height, x.Slots)
def Ts : Ty A3 := Ty.iso (Ty.pair (Ty.int .i64) (Ty.pair (Ty.int .i64) (Ty.Abv 24))) YZ
theorem Zl : Flat Ts (fun x => (.int .i64 x.Locals :: .int .i64 x.Height :: Bb x.Slots)) := Flat.iso (Flat.pair (Flat.int .i64) (Flat.pair (Flat.int .i64) (Flat.Abv 24))) _
structure B0 where
 At : Int
 Dead : Bool
 Frame : A3
def Ze (x : B0) := (x.At, x.Dead, x.Frame)
def HN : Ty B0 := Ty.iso (Ty.pair (Ty.int .i64) (Ty.pair Ty.bool Ts)) Ze
theorem Ns : Flat HN (fun x => (.int .i64 x.At :: .bool x.Dead :: .int .i64 x.Frame.Locals :: .int .i64 x.Frame.Height :: Bb x.Frame.Slots)) := Flat.iso (Flat.pair (Flat.int .i64) (Flat.pair Flat.bool Zl)) _
structure AM where
 e : AD
 code : List UInt8
 frames : List (Int × A3)
 fresh : List (Int × Unit)
 taken : List (Int × Int)
 B2 : Int
structure A8 where
 kind : Int
 t : UInt8
def Zj (x : A8) := (x.kind, x.t)
def AE : Ty A8 := Ty.iso (Ty.pair (Ty.int .i64) Ty.u8) Zj
theorem BE : Flat AE (fun x => [.int .i64 x.kind, .int .u8 (x.t.toNat : Int)]) := Flat.iso (Flat.pair (Flat.int .i64) Flat.u8) _
structure Bz where
 takes : List A8
 gives : Gv
structure AO where
 Has : List Bool
 Frame : List A3
 CS : List Bool
 Taken : List Int
structure BM where
 Most : Int
 Is : Bool
def V9 (x : BM) := (x.Most, x.Is)
def J3 : Ty BM := Ty.iso (Ty.pair (Ty.int .i64) Ty.bool) V9
theorem KU : Flat J3 (fun x => [.int .i64 x.Most, .bool x.Is]) := Flat.iso (Flat.pair (Flat.int .i64) Flat.bool) _
structure AU where
 CQ : BM
 Slots : BM
 Steps : BM
 Cells : BM
def Yn (x : AU) := (x.CQ, x.Slots, x.Steps, x.Cells)
def Bf : Ty AU := Ty.iso (Ty.pair J3 (Ty.pair J3 (Ty.pair J3 J3))) Yn
theorem OO : Flat Bf (fun x => [.int .i64 x.CQ.Most, .bool x.CQ.Is, .int .i64 x.Slots.Most, .bool x.Slots.Is, .int .i64 x.Steps.Most, .bool x.Steps.Is, .int .i64 x.Cells.Most, .bool x.Cells.Is]) := Flat.iso (Flat.pair KU (Flat.pair KU (Flat.pair KU KU))) _
structure Bh where
 m : AH
 bodies : List (Option (Nat × AK))
 calls : List (List Int)
 done : List (Option (Nat × AU))
 rules : List VV
end Go.Proofs.YtfcpkcehecmcpaaGreat
namespace Go.Proofs.YtfcpkcehecmcpaaGreat
open Go Go.RowKit Go.Pv
noncomputable def EJ (a0 : List (Int × Int)) : Option (List Int) := if a0.length ≤ 1000000000 then some (D5 (a0.map Prod.fst)) else none
noncomputable def De (a0 : List B1) : Option ((List B1)) :=
 (app 5864062014805 ([] : List B1) a0).bind fun x55 => some x55
noncomputable def Dl (a0 : List UInt8) : Option ((List UInt8)) :=
 (app 140737488355328 ([] : List UInt8) a0).bind fun x55 => some x55
noncomputable def Jv (a0 : AH) (s0 : (List A9) × Int) : Option (((List A9) × Int) ⊕ (((List A9)))) :=
 if decide (s0.2 < (a0.Classes.length : Int)) = true then ((idx a0.Classes s0.2).bind fun x0 => (De x0.Fields).bind fun x1 => (app 2932031007402 s0.1 ([(⟨x0.Name, x0.Bn, x1⟩ : A9)] : List A9)).bind fun x2 => some (.inl (x2, wr (s0.2 + 1)))) else (some (.inr s0.1))
noncomputable def Jy (a0 : AH) (s0 : (List Bq) × Int) : Option (((List Bq) × Int) ⊕ (((List Bq)))) :=
 if decide (s0.2 < (a0.Funcs.length : Int)) = true then ((idx a0.Funcs s0.2).bind fun x0 => (Dl x0.Sig.B5).bind fun x1 => (app 4398046511104 s0.1 ([(⟨x1, x0.Sig.Result⟩ : Bq)] : List Bq)).bind fun x2 => some (.inl (x2, wr (s0.2 + 1)))) else (some (.inr s0.1))
noncomputable def N5 (a0 : AH) (a1 : Int) : Option (AD × Bool) :=
 if decide (a1 < 0) = true then (some ((⟨[], [], 0⟩ : AD), false)) else (if decide (a1 ≥ (a0.Funcs.length : Int)) = true then (some ((⟨[], [], 0⟩ : AD), false)) else ((AQ (Jv a0) ([], 0)).bind fun o0 => ((AQ (Jy a0) ([], 0)).bind fun o1 => (some ((⟨o0, o1, a1⟩ : AD), true)))))
noncomputable def E7 (a0 : List UInt8) (s0 : Int) : Option (Int ⊕ (Bool ⊕ Unit)) :=
 if decide (s0 < (a0.length : Int)) = true then ((idx a0 s0).bind fun x0 => (if decide ((x0.toNat : Int) ≥ 97) = true then (if decide ((x0.toNat : Int) ≤ 122) = true then (some true) else (if decide ((x0.toNat : Int) ≥ 65) = true then (some (decide ((x0.toNat : Int) ≤ 90))) else (some false))) else (if decide ((x0.toNat : Int) ≥ 65) = true then (some (decide ((x0.toNat : Int) ≤ 90))) else (some false))).bind fun o0 => (if o0 = true then (some (.inl (wr (s0 + 1)))) else (if decide (s0 > 0) = true then (if decide ((x0.toNat : Int) ≥ 48) = true then (if decide ((x0.toNat : Int) ≤ 57) = true then (some (.inl (wr (s0 + 1)))) else (if ((x0.toNat : Int) == 95) = true then (some (.inl (wr (s0 + 1)))) else (some (.inr (.inl false))))) else (if ((x0.toNat : Int) == 95) = true then (some (.inl (wr (s0 + 1)))) else (some (.inr (.inl false))))) else (some (.inr (.inl false)))))) else (some (.inr (.inr (()))))
noncomputable def Jd (a0 : List UInt8) : Option Bool :=
 if ((a0.length : Int) == 0) = true then (some false) else (if decide ((a0.length : Int) > 24) = true then (some false) else (((AQ (E7 a0) 0 : Option (Bool ⊕ Unit))).bind fun o0 => (match o0 with | .inl p0 => (some p0) | .inr p1 => (some true))))
noncomputable def Nm  : Option ((List (List UInt8))) :=
 some ([[116, 111, 112], [105, 110, 116], [98, 111, 111, 108], [110, 117, 108, 108], [105, 110, 116, 115], [97, 110, 121]] : List (List UInt8))
noncomputable def BV (a0 : List (List UInt8)) (a1 : List UInt8) (s0 : Int) : Option (Int ⊕ (Int ⊕ Unit)) :=
 if decide (s0 < (a0.length : Int)) = true then ((idx a0 s0).bind fun x0 => if (a1 == x0) = true then (some (.inr (.inl s0))) else (some (.inl (wr (s0 + 1))))) else (some (.inr (.inr (()))))
noncomputable def DZ (a0 : List (List UInt8)) (a1 : List UInt8) : Option Int :=
 ((AQ (BV a0 a1) 0 : Option (Int ⊕ Unit))).bind fun o0 => (match o0 with | .inl p0 => (some p0) | .inr p1 => (some (-1)))
noncomputable def Cr (a0 : List (List UInt8)) (a1 : List UInt8) : Option Bool :=
 (DZ a0 a1).bind fun x14 => some (decide (x14 ≥ 0))
noncomputable def Kk (a0 : A9) (a1 : A9) : Option Bool :=
 some (a0.Name == a1.Name)
noncomputable def B6 (a0 : List A9) (a1 : A9) (s0 : Int) : Option (Int ⊕ (Int ⊕ Unit)) :=
 if decide (s0 < (a0.length : Int)) = true then ((idx a0 s0).bind fun x0 => (Kk x0 (⟨a1.Name, a1.Bn, a1.Fields⟩ : A9)).bind fun x1 => if x1 = true then (some (.inr (.inl s0))) else (some (.inl (wr (s0 + 1))))) else (some (.inr (.inr (()))))
noncomputable def C5 (a0 : List A9) (a1 : A9) : Option Int :=
 ((AQ (B6 a0 a1) 0 : Option (Int ⊕ Unit))).bind fun o0 => (match o0 with | .inl p0 => (some p0) | .inr p1 => (some (-1)))
noncomputable def BZ (a0 : List A9) (a1 : A9) : Option Bool :=
 (C5 a0 (⟨a1.Name, a1.Bn, a1.Fields⟩ : A9)).bind fun x20 => some (decide (x20 ≥ 0))
noncomputable def En (x0 : A9) (s0 : (List (List UInt8)) × Int) : Option (((List (List UInt8)) × Int) ⊕ (((List (List UInt8))))) :=
 if decide (s0.2 < (x0.Fields.length : Int)) = true then ((idx x0.Fields s0.2).bind fun x1 => (app 8796093022208 s0.1 ([x1.Name] : List (List UInt8))).bind fun x2 => some (.inl (x2, wr (s0.2 + 1)))) else (some (.inr s0.1))
noncomputable def Ix (a0 : Int) (a1 : List A9) (a2 : List (List UInt8)) : Option (Bool × (List (List UInt8))) :=
 (idx a1 a0).bind fun x0 => (AQ (En x0) (a2, 0)).bind fun o0 => (some (true, o0))
noncomputable def CO (a0 : List A9) (a1 : List A9) (s0 : (List (List UInt8)) × Int) : Option (((List (List UInt8)) × Int) ⊕ (((List (List UInt8))) ⊕ ((List (List UInt8))))) :=
 if decide (s0.2 ≥ 0) = true then (if decide (s0.2 < (a0.length : Int)) = true then ((Ix s0.2 a1 s0.1).bind fun x0 => if x0.1 = true then ((idx a0 s0.2).bind fun x1 => if decide (x1.Bn ≥ s0.2) = true then (some (.inr (.inl x0.2))) else (some (.inl (x0.2, x1.Bn)))) else (some (.inr (.inr (x0.2))))) else (some (.inr (.inr (s0.1))))) else (some (.inr (.inr (s0.1))))
noncomputable def EC (a0 : List A9) (a1 : Int) (a2 : List A9) (a3 : List (List UInt8)) : Option ((List (List UInt8))) :=
 ((AQ (CO a0 a2) (a3, a1) : Option (((List (List UInt8))) ⊕ ((List (List UInt8)))))).bind fun o0 => (match o0 with | .inl p0 => (some p0) | .inr p1 => (some p1))
noncomputable def FC (a0 : List A9) (a1 : UInt8) : Option Int :=
 if decide ((a1.toNat : Int) < 16) = true then (some (-1)) else (if decide (((E2 ((a1.toNat : Int) - 16)).toNat : Int) ≥ (a0.length : Int)) = true then (some (-1)) else (some ((E2 ((a1.toNat : Int) - 16)).toNat : Int)))
noncomputable def K6 (a0 : List A9) (a1 : UInt8) : Option Bool :=
 if ((a1.toNat : Int) == 1) = true then (some true) else (if ((a1.toNat : Int) == 2) = true then (some true) else (if ((a1.toNat : Int) == 4) = true then (some true) else (if ((a1.toNat : Int) == 5) = true then (some true) else ((FC a0 a1).bind fun x46 => some (decide (x46 ≥ 0))))))
noncomputable def EF (a0 : List A9) (x0 : A9) (s0 : (List (List UInt8)) × Int) : Option (((List (List UInt8)) × Int) ⊕ (Int ⊕ ((List (List UInt8))))) :=
 if decide (s0.2 < (x0.Fields.length : Int)) = true then ((idx x0.Fields s0.2).bind fun x1 => (Jd x1.Name).bind fun x2 => if (!x2) = true then (some (.inr (.inl 6))) else ((Cr s0.1 x1.Name).bind fun x3 => if x3 = true then (some (.inr (.inl 20))) else ((K6 a0 x1.HH).bind fun x4 => if (!x4) = true then (some (.inr (.inl 22))) else ((app 8796093022208 s0.1 ([x1.Name] : List (List UInt8))).bind fun x5 => some (.inl (x5, wr (s0.2 + 1))))))) else (some (.inr (.inr (s0.1))))
noncomputable def Kn (a0 : List A9) (a1 : Int) : Option Int :=
 (idx a0 a1).bind fun x0 => (EC a0 x0.Bn a0 []).bind fun x1 => (idx a0 a1).bind fun x2 => ((AQ (EF a0 x2) (x1, 0) : Option (Int ⊕ ((List (List UInt8)))))).bind fun o0 => (match o0 with | .inl p0 => (some p0) | .inr p1 => (if decide ((p1.length : Int) > 32) = true then (some 4) else (some 0)))
noncomputable def Fw (a0 : List A9) (s0 : Int) : Option (Int ⊕ ((Int × Int) ⊕ Unit)) :=
 if decide (s0 < (a0.length : Int)) = true then ((idx a0 s0).bind fun x0 => (if decide (s0 ≥ 32) = true then (some 4) else ((Jd x0.Name).bind fun x1 => if (!x1) = true then (some 6) else ((Nm).bind fun x2 => (Cr x2 x0.Name).bind fun x3 => if x3 = true then (some 6) else ((GZ a0 0 s0).bind fun x4 => (BZ x4 (⟨x0.Name, x0.Bn, x0.Fields⟩ : A9)).bind fun x5 => if x5 = true then (some 20) else (if decide (x0.Bn < (-1)) = true then (some 21) else (if decide (x0.Bn ≥ s0) = true then (some 21) else ((Kn a0 s0).bind fun x6 => some x6))))))).bind fun o0 => (if (o0 != 0) = true then (some (.inr (.inl (s0, o0)))) else (some (.inl (wr (s0 + 1)))))) else (some (.inr (.inr (()))))
noncomputable def JO (a0 : List A9) : Option (Int × Int) :=
 ((AQ (Fw a0) 0 : Option ((Int × Int) ⊕ Unit))).bind fun o0 => (match o0 with | .inl p0 => (some p0) | .inr p1 => (some (0, 0)))
noncomputable def E3 (a0 : List A9) (a1 : UInt8) : Option Bool :=
 if decide ((a1.toNat : Int) ≤ 5) = true then (some true) else ((FC a0 a1).bind fun x22 => some (decide (x22 ≥ 0)))
noncomputable def KC (a0 : List A9) (a1 : UInt8) : Option Bool :=
 (E3 a0 a1).bind fun x22 => if x22 = true then (if ((a1.toNat : Int) != 0) = true then (some ((a1.toNat : Int) != 3)) else (some false)) else (some false)
noncomputable def IA (a0 : UInt8) (a1 : AD) : Option Bool :=
 (KC a1.Classes a0).bind fun x16 => some (!x16)
noncomputable def BG (a0 : List UInt8) (a1 : AD) (s0 : Int) : Option (Int ⊕ (Int ⊕ Unit)) :=
 if decide (s0 < (a0.length : Int)) = true then ((idx a0 s0).bind fun x0 => (IA x0 (⟨a1.Classes, a1.AP, a1.Fn⟩ : AD)).bind fun x1 => if x1 = true then (some (.inr (.inl s0))) else (some (.inl (wr (s0 + 1))))) else (some (.inr (.inr (()))))
noncomputable def CM (a0 : List UInt8) (a1 : AD) : Option Int :=
 ((AQ (BG a0 a1) 0 : Option (Int ⊕ Unit))).bind fun o0 => (match o0 with | .inl p0 => (some p0) | .inr p1 => (some (-1)))
noncomputable def Ci (a0 : List UInt8) (a1 : AD) : Option Bool :=
 (CM a0 (⟨a1.Classes, a1.AP, a1.Fn⟩ : AD)).bind fun x20 => some (decide (x20 ≥ 0))
noncomputable def MH (a0 : Int) : Option (A3 × Int) :=
 if decide (a0 < 0) = true then (some ((⟨0, 0, (Vector.replicate 24 (0 : UInt8))⟩ : A3), 1)) else (if decide (a0 > 16) = true then (some ((⟨0, 0, (Vector.replicate 24 (0 : UInt8))⟩ : A3), 1)) else (some ((⟨a0, 0, (Vector.replicate 24 (0 : UInt8))⟩ : A3), 0)))
noncomputable def Gs (a0 : List A9) (a1 : List UInt8) (s0 : (Vector UInt8 24) × Int) : Option (((Vector UInt8 24) × Int) ⊕ ((A3 × Int) ⊕ ((Vector UInt8 24)))) :=
 if decide (s0.2 < (a1.length : Int)) = true then ((idx a1 s0.2).bind fun x0 => (E3 a0 x0).bind fun x1 => if (!x1) = true then (some (.inr (.inl ((⟨0, 0, (Vector.replicate 24 (0 : UInt8))⟩ : A3), 1)))) else (if ((x0.toNat : Int) == 0) = true then (some (.inr (.inl ((⟨0, 0, (Vector.replicate 24 (0 : UInt8))⟩ : A3), 1)))) else (if ((x0.toNat : Int) == 3) = true then (some (.inr (.inl ((⟨0, 0, (Vector.replicate 24 (0 : UInt8))⟩ : A3), 1)))) else ((idx s0.1.toList s0.2).bind fun x2 => some (.inl ((H5 s0.1 s0.2 x0), wr (s0.2 + 1))))))) else (some (.inr (.inr (s0.1))))
noncomputable def Jt (a0 : List A9) (a1 : List UInt8) (a2 : Int) : Option (A3 × Int) :=
 (MH a2).bind fun x38 => if (x38.2 != 0) = true then (some ((⟨0, 0, (Vector.replicate 24 (0 : UInt8))⟩ : A3), 1)) else (if decide ((a1.length : Int) > 8) = true then (some ((⟨0, 0, (Vector.replicate 24 (0 : UInt8))⟩ : A3), 1)) else (if decide ((a1.length : Int) > a2) = true then (some ((⟨0, 0, (Vector.replicate 24 (0 : UInt8))⟩ : A3), 1)) else (((AQ (Gs a0 a1) (x38.1.Slots, 0) : Option ((A3 × Int) ⊕ ((Vector UInt8 24))))).bind fun o0 => (match o0 with | .inl p0 => (some p0) | .inr p1 => (some ((⟨x38.1.Locals, x38.1.Height, p1⟩ : A3), 0))))))
noncomputable def Js (a0 : AD) (s0 : Int) : Option (Int ⊕ (Int ⊕ Unit)) :=
 if decide (s0 < (a0.AP.length : Int)) = true then ((idx a0.AP s0).bind fun x0 => if decide ((x0.B5.length : Int) > 8) = true then (some (.inr (.inl 4))) else ((Ci x0.B5 (⟨a0.Classes, a0.AP, a0.Fn⟩ : AD)).bind fun x1 => if x1 = true then (some (.inr (.inl 22))) else (if ((x0.Result.toNat : Int) != 0) = true then ((IA x0.Result (⟨a0.Classes, a0.AP, a0.Fn⟩ : AD)).bind fun x2 => if x2 = true then (some (.inr (.inl 22))) else (some (.inl (wr (s0 + 1))))) else (some (.inl (wr (s0 + 1))))))) else (some (.inr (.inr (()))))
noncomputable def KF (a0 : AD) (a1 : Int) : Option Int :=
 (JO a0.Classes).bind fun x57 => if (x57.2 != 0) = true then (some x57.2) else (if decide ((a0.AP.length : Int) > 64) = true then (some 4) else (((AQ (Js a0) 0 : Option (Int ⊕ Unit))).bind fun o0 => (match o0 with | .inl p0 => (some p0) | .inr p1 => (if decide (a0.Fn < 0) = true then (some 71) else (if decide (a0.Fn ≥ (a0.AP.length : Int)) = true then (some 71) else ((idx a0.AP a0.Fn).bind fun x0 => (Jt a0.Classes x0.B5 a1).bind fun x1 => some x1.2))))))
noncomputable def JM (a0 : UInt8) : Option (Int × Int) :=
 if ((a0.toNat : Int) == 1) = true then (some (4, 0)) else ((if ((a0.toNat : Int) == 19) = true then (some true) else (some ((a0.toNat : Int) == 20))).bind fun o0 => (if o0 = true then (some (2, 0)) else ((if ((a0.toNat : Int) == 24) = true then (some true) else (some ((a0.toNat : Int) == 25))).bind fun o1 => (if o1 = true then (some (1, 1)) else ((if ((a0.toNat : Int) == 2) = true then (some true) else (if ((a0.toNat : Int) == 4) = true then (some true) else (some ((a0.toNat : Int) == 5)))).bind fun o2 => (if o2 = true then (some (1, 0)) else ((if ((a0.toNat : Int) == 21) = true then (some true) else (if ((a0.toNat : Int) == 23) = true then (some true) else (if ((a0.toNat : Int) == 30) = true then (some true) else (if ((a0.toNat : Int) == 31) = true then (some true) else (some ((a0.toNat : Int) == 32)))))).bind fun o3 => (if o3 = true then (some (1, 0)) else (some (0, 0))))))))))
noncomputable def Gk (a0 : UInt8) : Option Int :=
 if decide ((a0.toNat : Int) ≥ 34) = true then (some 0) else ((JM a0).bind fun x26 => some (wr ((wr (1 + x26.1)) + x26.2)))
noncomputable def Ew (x0 : List UInt8) (s0 : Int × Int) : Option ((Int × Int) ⊕ Int) :=
 if decide (s0.2 < (x0.length : Int)) = true then ((idx x0 s0.2).bind fun x1 => some (.inl (bOr .i64 (XZ .i64 s0.1 8) (x1.toNat : Int), wr (s0.2 + 1)))) else (some (.inr s0.1))
noncomputable def Gr (a0 : Int) (a1 : List UInt8) : Option (Int × (List UInt8)) :=
 (GZ a1 0 a0).bind fun x0 => (AQ (Ew x0) (0, 0)).bind fun o0 => ((GZ a1 a0 (a1.length : Int)).bind fun x1 => if (a0 == 4) = true then (some (wr (IntKind.i32.wrap o0), x1)) else (some (o0, x1)))
noncomputable def Ed (a0 : List UInt8) (a1 : Int) : Option (AA × Int) :=
 if decide (a1 < 0) = true then (some ((⟨0, 0, 0, 0⟩ : AA), 1)) else (if decide (a1 > (a0.length : Int)) = true then (some ((⟨0, 0, 0, 0⟩ : AA), 1)) else (if (a1 == (a0.length : Int)) = true then (some ((⟨0, 0, 0, 0⟩ : AA), 2)) else ((idx a0 a1).bind fun x0 => (Gk x0).bind fun x1 => if (x1 == 0) = true then (some ((⟨0, 0, 0, 0⟩ : AA), 40)) else ((idx a0 a1).bind fun x2 => (Gk x2).bind fun x3 => if decide ((wr ((a0.length : Int) - a1)) < x3) = true then (some ((⟨0, 0, 0, 0⟩ : AA), 2)) else ((idx a0 a1).bind fun x4 => (GZ a0 (wr (a1 + 1)) (a0.length : Int)).bind fun x5 => (JM x4).bind fun x6 => (Gr x6.1 x5).bind fun x7 => (Gr x6.2 x7.2).bind fun x8 => if ((x4.toNat : Int) == 2) = true then (if decide (x7.1 > 1) = true then (some ((⟨0, 0, 0, 0⟩ : AA), 5)) else (some ((⟨a1, x4, x7.1, x8.1⟩ : AA), 0))) else (some ((⟨a1, x4, x7.1, x8.1⟩ : AA), 0)))))))
noncomputable def C2 (a0 : AM) (a1 : AA) (s0 : (List (Int × Int)) × Int) : Option (((List (Int × Int)) × Int) ⊕ ((Bool × AM) ⊕ ((List (Int × Int))))) :=
 (Gk a1.Op).bind fun x0 => if decide (s0.2 < (wr (a1.At + x0))) = true then (if (BJ s0.1 s0.2).isSome = true then (if (((BJ s0.1 s0.2).getD (0 : Int)) != a1.At) = true then (some (.inr (.inl (false, (⟨(⟨a0.e.Classes, a0.e.AP, a0.e.Fn⟩ : AD), a0.code, a0.frames, a0.fresh, s0.1, a0.B2⟩ : AM))))) else (some (.inl ((C7 s0.1 s0.2 a1.At), wr (s0.2 + 1))))) else (some (.inl ((C7 s0.1 s0.2 a1.At), wr (s0.2 + 1))))) else (some (.inr (.inr (s0.1))))
noncomputable def FY (a0 : AM) (a1 : AA) : Option (Bool × AM) :=
 ((AQ (C2 a0 a1) (a0.taken, a1.At) : Option ((Bool × AM) ⊕ ((List (Int × Int)))))).bind fun o0 => (match o0 with | .inl p0 => (some p0) | .inr p1 => (some (true, (⟨(⟨a0.e.Classes, a0.e.AP, a0.e.Fn⟩ : AD), a0.code, a0.frames, a0.fresh, p1, a0.B2⟩ : AM))))
noncomputable def E8 (a0 : UInt8) (a1 : AD) : Option Bool :=
 (E3 a1.Classes a0).bind fun x24 => if x24 = true then (if ((a0.toNat : Int) != 0) = true then (some ((a0.toNat : Int) != 3)) else (some false)) else (some false)
noncomputable def EN (a0 : AD) (x0 : Bq) (s0 : Int) : Option (Int ⊕ (Bool ⊕ Unit)) :=
 if decide (s0 < (x0.B5.length : Int)) = true then ((idx x0.B5 s0).bind fun x1 => (E8 x1 (⟨a0.Classes, a0.AP, a0.Fn⟩ : AD)).bind fun x2 => if (!x2) = true then (some (.inr (.inl false))) else (some (.inl (wr (s0 + 1))))) else (some (.inr (.inr (()))))
noncomputable def EQ (a0 : AD) (s0 : Int) : Option (Int ⊕ (Bool ⊕ Unit)) :=
 if decide (s0 < (a0.AP.length : Int)) = true then ((idx a0.AP s0).bind fun x0 => ((if decide ((x0.B5.length : Int) > 8) = true then (some (.inl false)) else (if ((x0.Result.toNat : Int) != 0) = true then ((E8 x0.Result (⟨a0.Classes, a0.AP, a0.Fn⟩ : AD)).bind fun x1 => if (!x1) = true then (some (.inl false)) else (some (.inr ((true, (!x1)))))) else (some (.inr ((false, false))))) : Option (Bool ⊕ (Bool × Bool)))).bind fun o0 => (match o0 with | .inl p0 => (some (.inr (.inl p0))) | .inr p1 => (((AQ (EN a0 x0) 0 : Option (Bool ⊕ Unit))).bind fun o1 => (match o1 with | .inl p2 => (some (.inr (.inl p2))) | .inr p3 => (some (.inl (wr (s0 + 1)))))))) else (some (.inr (.inr (()))))
noncomputable def Iw (a0 : AD) : Option Bool :=
 (JO a0.Classes).bind fun x27 => if (x27.2 != 0) = true then (some false) else (if decide ((a0.AP.length : Int) > 64) = true then (some false) else (if decide (a0.Fn < 0) = true then (some false) else (if decide (a0.Fn ≥ (a0.AP.length : Int)) = true then (some false) else (((AQ (EQ a0) 0 : Option (Bool ⊕ Unit))).bind fun o0 => (match o0 with | .inl p0 => (some p0) | .inr p1 => (some true))))))
noncomputable def FP (a0 : A3) : Option Bool :=
 if decide (a0.Locals ≥ 0) = true then (if decide (a0.Locals ≤ 16) = true then (if decide (a0.Height ≥ 0) = true then (some (decide (a0.Height ≤ (wr (24 - a0.Locals))))) else (some false)) else (some false)) else (some false)
noncomputable def HM (a0 : A3) : Option A3 :=
 (GZ (Vector.replicate 24 (0 : UInt8)).toList 0 (wr (a0.Locals + a0.Height))).bind fun x82 => some (⟨a0.Locals, a0.Height, (Pu (Vector.replicate 24 (0 : UInt8)) a0.Slots ((wr (a0.Locals + a0.Height)).toNat))⟩ : A3)
noncomputable def FD (a0 : List A9) (a1 : A3) (s0 : Int) : Option (Int ⊕ (Int ⊕ Unit)) :=
 if decide (s0 < 24) = true then ((idx a1.Slots.toList s0).bind fun x0 => (E3 a0 x0).bind fun x1 => if (!x1) = true then (some (.inr (.inl 22))) else (some (.inl (wr (s0 + 1))))) else (some (.inr (.inr (()))))
noncomputable def Gn (a0 : List A9) (a1 : A3) : Option Int :=
 (FP (⟨a1.Locals, a1.Height, a1.Slots⟩ : A3)).bind fun x34 => if (!x34) = true then (some 32) else ((HM (⟨a1.Locals, a1.Height, a1.Slots⟩ : A3)).bind fun x43 => if (!((x43.Locals == a1.Locals) && ((x43.Height == a1.Height) && ((x43.Slots == a1.Slots) && true)))) = true then (some 32) else (((AQ (FD a0 a1) 0 : Option (Int ⊕ Unit))).bind fun o0 => (match o0 with | .inl p0 => (some p0) | .inr p1 => (some 0))))
noncomputable def HV (a0 : UInt8) : Option A8 :=
 some (⟨4, a0⟩ : A8)
abbrev AS : VJ := ⟨214, 203, 204, 215, 205, 206, 216, 218, 47, 224, 142, 4⟩
noncomputable def TP (x78 : A8) (x87 : A8) (x96 : A8) : List (Db A8) := List.replicate 34 .nil
noncomputable def Ug (x78 : A8) (x87 : A8) (x96 : A8) : List (Db A8) := (TP x78 x87 x96).set 0 (.fixed [] (.const []))
noncomputable def Uk (x78 : A8) (x87 : A8) (x96 : A8) : List (Db A8) := (Ug x78 x87 x96).set 19 (.fixed [] (.const []))
noncomputable def TA (x78 : A8) (x87 : A8) (x96 : A8) : List (Db A8) := (Uk x78 x87 x96).set 32 (.fixed [] (.const []))
noncomputable def TN (x78 : A8) (x87 : A8) (x96 : A8) : List (Db A8) := (TA x78 x87 x96).set 1 (.fixed [] (.const ([(1 : UInt8)] : List UInt8)))
noncomputable def TX (x78 : A8) (x87 : A8) (x96 : A8) : List (Db A8) := (TN x78 x87 x96).set 2 (.fixed [] (.const ([(2 : UInt8)] : List UInt8)))
noncomputable def TE (x78 : A8) (x87 : A8) (x96 : A8) : List (Db A8) := (TX x78 x87 x96).set 3 (.fixed [] (.const ([(3 : UInt8)] : List UInt8)))
noncomputable def Uv (x78 : A8) (x87 : A8) (x96 : A8) : List (Db A8) := (TE x78 x87 x96).set 4 (.fixed [] (.const ([(0 : UInt8)] : List UInt8)))
noncomputable def Um (x78 : A8) (x87 : A8) (x96 : A8) : List (Db A8) := (Uv x78 x87 x96).set 5 (.fixed ([(⟨1, 0⟩ : A8)] : List A8) (.const []))
noncomputable def Ut (x78 : A8) (x87 : A8) (x96 : A8) : List (Db A8) := (Um x78 x87 x96).set 6 (.fixed ([(⟨0, 0⟩ : A8)] : List A8) (.const []))
noncomputable def Sa (x78 : A8) (x87 : A8) (x96 : A8) : List (Db A8) := (Ut x78 x87 x96).set 7 (.fixed ([(⟨0, 0⟩ : A8)] : List A8) (.dup))
noncomputable def Sx (x78 : A8) (x87 : A8) (x96 : A8) : List (Db A8) := (Sa x78 x87 x96).set 8 (.fixed ([(⟨0, 0⟩ : A8), (⟨0, 0⟩ : A8)] : List A8) (.swap))
noncomputable def RE (x78 : A8) (x87 : A8) (x96 : A8) : List (Db A8) := (Sx x78 x87 x96).set 9 (.fixed ([(⟨x78.kind, x78.t⟩ : A8), (⟨x78.kind, x78.t⟩ : A8)] : List A8) (.const ([(1 : UInt8)] : List UInt8)))
noncomputable def Rz (x78 : A8) (x87 : A8) (x96 : A8) : List (Db A8) := (RE x78 x87 x96).set 10 (.fixed ([(⟨x78.kind, x78.t⟩ : A8), (⟨x78.kind, x78.t⟩ : A8)] : List A8) (.const ([(1 : UInt8)] : List UInt8)))
noncomputable def Rp (x78 : A8) (x87 : A8) (x96 : A8) : List (Db A8) := (Rz x78 x87 x96).set 11 (.fixed ([(⟨x78.kind, x78.t⟩ : A8), (⟨x78.kind, x78.t⟩ : A8)] : List A8) (.const ([(1 : UInt8)] : List UInt8)))
noncomputable def Rj (x78 : A8) (x87 : A8) (x96 : A8) : List (Db A8) := (Rp x78 x87 x96).set 12 (.fixed ([(⟨x78.kind, x78.t⟩ : A8), (⟨x78.kind, x78.t⟩ : A8)] : List A8) (.const ([(1 : UInt8)] : List UInt8)))
noncomputable def N1 (x78 : A8) (x87 : A8) (x96 : A8) : List (Db A8) := (Rj x78 x87 x96).set 13 (.fixed ([(⟨x78.kind, x78.t⟩ : A8), (⟨x78.kind, x78.t⟩ : A8)] : List A8) (.const ([(1 : UInt8)] : List UInt8)))
noncomputable def RF (x78 : A8) (x87 : A8) (x96 : A8) : List (Db A8) := (N1 x78 x87 x96).set 14 (.fixed ([(⟨x78.kind, x78.t⟩ : A8)] : List A8) (.const ([(1 : UInt8)] : List UInt8)))
noncomputable def RQ (x78 : A8) (x87 : A8) (x96 : A8) : List (Db A8) := (RF x78 x87 x96).set 15 (.fixed ([(⟨x78.kind, x78.t⟩ : A8), (⟨x78.kind, x78.t⟩ : A8)] : List A8) (.const ([(2 : UInt8)] : List UInt8)))
noncomputable def N8 (x78 : A8) (x87 : A8) (x96 : A8) : List (Db A8) := (RQ x78 x87 x96).set 16 (.fixed ([(⟨3, 0⟩ : A8), (⟨3, 0⟩ : A8)] : List A8) (.const ([(2 : UInt8)] : List UInt8)))
noncomputable def S4 (x78 : A8) (x87 : A8) (x96 : A8) : List (Db A8) := (N8 x78 x87 x96).set 17 (.fixed ([(⟨x87.kind, x87.t⟩ : A8)] : List A8) (.const ([(2 : UInt8)] : List UInt8)))
noncomputable def RY (x78 : A8) (x87 : A8) (x96 : A8) : List (Db A8) := (S4 x78 x87 x96).set 18 (.fixed ([(⟨2, 0⟩ : A8), (⟨2, 0⟩ : A8)] : List A8) (.const ([(2 : UInt8)] : List UInt8)))
noncomputable def Rf (x78 : A8) (x87 : A8) (x96 : A8) : List (Db A8) := (RY x78 x87 x96).set 20 (.fixed ([(⟨x87.kind, x87.t⟩ : A8)] : List A8) (.const []))
noncomputable def S6 (x78 : A8) (x87 : A8) (x96 : A8) : List (Db A8) := (Rf x78 x87 x96).set 21 (.call)
noncomputable def RX (x78 : A8) (x87 : A8) (x96 : A8) : List (Db A8) := (S6 x78 x87 x96).set 22 (.ret (.const []))
noncomputable def S5 (x78 : A8) (x87 : A8) (x96 : A8) : List (Db A8) := (RX x78 x87 x96).set 23 (.classed [] true)
noncomputable def RJ (x78 : A8) (x87 : A8) (x96 : A8) : List (Db A8) := (S5 x78 x87 x96).set 24 (.field false)
noncomputable def NI (x78 : A8) (x87 : A8) (x96 : A8) : List (Db A8) := (RJ x78 x87 x96).set 25 (.field true)
noncomputable def N7 (x78 : A8) (x87 : A8) (x96 : A8) : List (Db A8) := (NI x78 x87 x96).set 26 (.fixed ([(⟨x78.kind, x78.t⟩ : A8)] : List A8) (.const ([(4 : UInt8)] : List UInt8)))
noncomputable def NE (x78 : A8) (x87 : A8) (x96 : A8) : List (Db A8) := (N7 x78 x87 x96).set 27 (.fixed ([(⟨x96.kind, x96.t⟩ : A8)] : List A8) (.const ([(1 : UInt8)] : List UInt8)))
noncomputable def Rt (x78 : A8) (x87 : A8) (x96 : A8) : List (Db A8) := (NE x78 x87 x96).set 28 (.fixed ([(⟨x96.kind, x96.t⟩ : A8), (⟨x78.kind, x78.t⟩ : A8)] : List A8) (.const ([(1 : UInt8)] : List UInt8)))
noncomputable def Si (x78 : A8) (x87 : A8) (x96 : A8) : List (Db A8) := (Rt x78 x87 x96).set 29 (.fixed ([(⟨x96.kind, x96.t⟩ : A8), (⟨x78.kind, x78.t⟩ : A8), (⟨x78.kind, x78.t⟩ : A8)] : List A8) (.const []))
noncomputable def Rm (x78 : A8) (x87 : A8) (x96 : A8) : List (Db A8) := (Si x78 x87 x96).set 30 (.classed ([(⟨2, 0⟩ : A8)] : List A8) true)
noncomputable def Su (x78 : A8) (x87 : A8) (x96 : A8) : List (Db A8) := (Rm x78 x87 x96).set 31 (.classed ([(⟨2, 0⟩ : A8)] : List A8) false)
noncomputable def Mb (x78 : A8) (x87 : A8) (x96 : A8) : List (Db A8) := (Su x78 x87 x96).set 33 (.fixed ([(⟨x78.kind, x78.t⟩ : A8)] : List A8) (.const []))
noncomputable def step_table  : Option ((List (Db A8))) :=
 (HV (1 : UInt8)).bind fun x78 => (HV (2 : UInt8)).bind fun x87 => (HV (4 : UInt8)).bind fun x96 => some (Mb x78 x87 x96)
noncomputable def Lg (a0 : AD) (a1 : AA) (a2 : List A8) (a3 : Gv) : Option (Bz × Int) :=
 some ((⟨a2, a3⟩ : Bz), 0)
noncomputable def Ie (x0 : Bq) (s0 : (List A8) × Int) : Option (((List A8) × Int) ⊕ (((List A8)))) :=
 if decide (s0.2 < (x0.B5.length : Int)) = true then ((idx x0.B5 s0.2).bind fun x1 => (HV x1).bind fun x2 => (app 8796093022208 s0.1 ([x2] : List A8)).bind fun x3 => some (.inl (x3, wr (s0.2 + 1)))) else (some (.inr s0.1))
noncomputable def Pj (a0 : AD) (a1 : AA) : Option (Bz × Int) :=
 if decide (a1.A < 0) = true then (some ((⟨[], Gv.nil⟩ : Bz), 71)) else (if decide (a1.A ≥ (a0.AP.length : Int)) = true then (some ((⟨[], Gv.nil⟩ : Bz), 71)) else ((idx a0.AP a1.A).bind fun x0 => (AQ (Ie x0) ([], 0)).bind fun o0 => (if ((x0.Result.toNat : Int) == 0) = true then (some ((⟨o0, (Gv.const ([] : List UInt8))⟩ : Bz), 0)) else (some ((⟨o0, (Gv.const ([x0.Result] : List UInt8))⟩ : Bz), 0)))))
noncomputable def M8 (a0 : UInt8) : Option ((List A8)) :=
 if ((a0.toNat : Int) == 0) = true then (some ([] : List A8)) else ((HV a0).bind fun x32 => some ([x32] : List A8))
noncomputable def KV (a0 : AD) (a1 : AA) (a2 : Gv) : Option (Bz × Int) :=
 (idx a0.AP a0.Fn).bind fun x0 => (M8 x0.Result).bind fun x1 => some ((⟨x1, a2⟩ : Bz), 0)
noncomputable def ME (a0 : Int) : Option UInt8 :=
 some (E2 (16 + ((E2 a0).toNat : Int)))
noncomputable def Ih (a0 : AD) (a1 : AA) (a2 : Bool) (a3 : List A8) : Option (Bz × Int) :=
 if decide (a1.A < 0) = true then (some ((⟨[], Gv.nil⟩ : Bz), 72)) else (if decide (a1.A ≥ (a0.Classes.length : Int)) = true then (some ((⟨[], Gv.nil⟩ : Bz), 72)) else (if (!a2) = true then (some ((⟨a3, (Gv.const ([(2 : UInt8)] : List UInt8))⟩ : Bz), 0)) else ((ME a1.A).bind fun x0 => some ((⟨a3, (Gv.const ([x0] : List UInt8))⟩ : Bz), 0))))
noncomputable def JD (a0 : Int) (a1 : List Int) : Option (Bool × (List Int)) :=
 (app 17592186044416 a1 ([a0] : List Int)).bind fun x32 => some (true, x32)
noncomputable def Cs (a0 : List A9) (s0 : (List Int) × Int) : Option (((List Int) × Int) ⊕ (((List Int)) ⊕ ((List Int)))) :=
 if decide (s0.2 ≥ 0) = true then (if decide (s0.2 < (a0.length : Int)) = true then ((JD s0.2 s0.1).bind fun x0 => if x0.1 = true then ((idx a0 s0.2).bind fun x1 => if decide (x1.Bn ≥ s0.2) = true then (some (.inr (.inl x0.2))) else (some (.inl (x0.2, x1.Bn)))) else (some (.inr (.inr (x0.2))))) else (some (.inr (.inr (s0.1))))) else (some (.inr (.inr (s0.1))))
noncomputable def DR (a0 : List A9) (a1 : Int) (a2 : List Int) : Option ((List Int)) :=
 ((AQ (Cs a0) (a2, a1) : Option (((List Int)) ⊕ ((List Int))))).bind fun o0 => (match o0 with | .inl p0 => (some p0) | .inr p1 => (some p1))
noncomputable def DK (a0 : List A9) (x34 : (List Int)) (s0 : (List B1) × Int) : Option (((List B1) × Int) ⊕ (((List B1)))) :=
 if decide (s0.2 ≥ 0) = true then ((idx x34 s0.2).bind fun x0 => (idx a0 x0).bind fun x1 => (app 5864062014805 s0.1 x1.Fields).bind fun x2 => some (.inl (x2, wr (s0.2 - 1)))) else (some (.inr s0.1))
noncomputable def EY (a0 : List A9) (a1 : Int) : Option ((List B1)) :=
 (DR a0 a1 []).bind fun x34 => (AQ (DK a0 x34) ([], wr ((x34.length : Int) - 1))).bind fun o0 => (some o0)
noncomputable def KR (a0 : AD) (a1 : AA) (a2 : Bool) : Option (Bz × Int) :=
 (EY a0.Classes a1.A).bind fun x55 => if decide (a1.A < 0) = true then (some ((⟨[], Gv.nil⟩ : Bz), 72)) else (if decide (a1.A ≥ (a0.Classes.length : Int)) = true then (some ((⟨[], Gv.nil⟩ : Bz), 72)) else (if decide (a1.B < 0) = true then (some ((⟨[], Gv.nil⟩ : Bz), 72)) else (if decide (a1.B ≥ (x55.length : Int)) = true then (some ((⟨[], Gv.nil⟩ : Bz), 72)) else ((idx x55 a1.B).bind fun x0 => if a2 = true then ((ME a1.A).bind fun x1 => (HV x1).bind fun x2 => (HV x0.HH).bind fun x3 => some ((⟨([x2, x3] : List A8), (Gv.const ([] : List UInt8))⟩ : Bz), 0)) else ((ME a1.A).bind fun x4 => (HV x4).bind fun x5 => some ((⟨([x5] : List A8), (Gv.const ([x0.HH] : List UInt8))⟩ : Bz), 0))))))
noncomputable def FQ (t : Db A8) (e : AD) (i : AA) : Option (Bz × Int) :=
 match t with
 | .fixed l x => Lg e i l x
 | .call => Pj e i
 | .ret x => KV e i x
 | .classed l b => Ih e i b l
 | .field b => KR e i b
 | .nil => none
noncomputable def KB (a0 : AD) (a1 : AA) : Option (Bz × Int) :=
 (Gk a1.Op).bind fun x91 => if (x91 == 0) = true then (some ((⟨[], Gv.nil⟩ : Bz), 40)) else (step_table.bind fun x0 => (x0[a1.Op.toNat]?).bind fun t0 => (FQ t0 (⟨a0.Classes, a0.AP, a0.Fn⟩ : AD) (⟨a1.At, a1.Op, a1.A, a1.B⟩ : AA)).bind fun x1 => some ((⟨x1.1.takes, x1.1.gives⟩ : Bz), x1.2))
noncomputable def La (a0 : A3) (a1 : Int) : Option (UInt8 × Int) :=
 (FP (⟨a0.Locals, a0.Height, a0.Slots⟩ : A3)).bind fun x68 => if (!x68) = true then (some ((0 : UInt8), 32)) else (if decide (a1 < 0) = true then (some ((0 : UInt8), 1)) else (if decide (a1 ≥ a0.Height) = true then (some ((0 : UInt8), 30)) else ((idx a0.Slots.toList (wr ((wr ((wr (a0.Locals + a0.Height)) - 1)) - a1))).bind fun x0 => some (x0, 0))))
noncomputable def Ff (a0 : UInt8) : Option Bool :=
 if ((a0.toNat : Int) == 3) = true then (some true) else (if ((a0.toNat : Int) == 4) = true then (some true) else (if ((a0.toNat : Int) == 5) = true then (some true) else (some (decide ((a0.toNat : Int) ≥ 16)))))
noncomputable def Kh (a0 : Int) (a1 : Int) (a2 : Bool) : Option (Bool × Bool) :=
 some ((!(a0 == a1)), (a0 == a1))
noncomputable def CY (a0 : List A9) (a1 : Int) (s0 : Bool × Int) : Option ((Bool × Int) ⊕ (Bool ⊕ Bool)) :=
 if decide (s0.2 ≥ 0) = true then (if decide (s0.2 < (a0.length : Int)) = true then ((Kh s0.2 a1 s0.1).bind fun x0 => if x0.1 = true then ((idx a0 s0.2).bind fun x1 => if decide (x1.Bn ≥ s0.2) = true then (some (.inr (.inl x0.2))) else (some (.inl (x0.2, x1.Bn)))) else (some (.inr (.inr (x0.2))))) else (some (.inr (.inr (s0.1))))) else (some (.inr (.inr (s0.1))))
noncomputable def Gh (a0 : List A9) (a1 : Int) (a2 : Int) (a3 : Bool) : Option Bool :=
 ((AQ (CY a0 a2) (a3, a1) : Option (Bool ⊕ Bool))).bind fun o0 => (match o0 with | .inl p0 => (some p0) | .inr p1 => (some p1))
noncomputable def JW (a0 : List A9) (a1 : Int) (a2 : Int) : Option Bool :=
 (Gh a0 a1 a2 false).bind fun x54 => some x54
noncomputable def KE (a0 : List A9) (a1 : UInt8) (a2 : UInt8) : Option Bool :=
 (E3 a0 a1).bind fun x34 => if (!x34) = true then (some false) else ((E3 a0 a2).bind fun x50 => if (!x50) = true then (some false) else (if ((a1.toNat : Int) == (a2.toNat : Int)) = true then (some true) else (if ((a2.toNat : Int) == 0) = true then (some true) else (if ((a1.toNat : Int) == 3) = true then ((Ff a1).bind fun x0 => if x0 = true then ((Ff a2).bind fun x1 => some x1) else (some false)) else (if ((a2.toNat : Int) == 5) = true then ((Ff a1).bind fun x2 => if x2 = true then ((Ff a2).bind fun x3 => some x3) else (some false)) else ((FC a0 a1).bind fun x4 => (FC a0 a2).bind fun x5 => if decide (x4 ≥ 0) = true then (if decide (x5 ≥ 0) = true then ((JW a0 x4 x5).bind fun x6 => some x6) else (some false)) else (some false)))))))
noncomputable def N3 (a0 : List A9) (a1 : A8) (a2 : UInt8) (a3 : UInt8) : Option Bool :=
 if (a1.kind == 1) = true then (some ((a2.toNat : Int) != 0)) else (if (a1.kind == 2) = true then ((Ff a2).bind fun x0 => some x0) else (if (a1.kind == 3) = true then (if ((a2.toNat : Int) == (a3.toNat : Int)) = true then (if ((a2.toNat : Int) == 1) = true then (some true) else (some ((a2.toNat : Int) == 2))) else (some false)) else (if (a1.kind == 4) = true then ((KE a0 a2 a1.t).bind fun x1 => some x1) else (some true))))
noncomputable def Hg (a1 : A3) (a2 : List A8) (s0 : (List UInt8) × Int) : Option (((List UInt8) × Int) ⊕ (((List UInt8)))) :=
 if decide (s0.2 < (a2.length : Int)) = true then ((La (⟨a1.Locals, a1.Height, a1.Slots⟩ : A3) (wr ((wr ((a2.length : Int) - 1)) - s0.2))).bind fun x0 => (app 140737488355328 s0.1 ([x0.1] : List UInt8)).bind fun x1 => some (.inl (x1, wr (s0.2 + 1)))) else (some (.inr s0.1))
noncomputable def Hf (a0 : List A9) (a2 : List A8) (o0 : ((List UInt8))) (s0 : Int) : Option (Int ⊕ (((List UInt8) × Int) ⊕ Unit)) :=
 if decide (s0 < (o0.length : Int)) = true then ((idx o0 s0).bind fun x0 => (idx a2 s0).bind fun x1 => (idx o0 0).bind fun x2 => (N3 a0 x1 x0 x2).bind fun x3 => if (!x3) = true then (some (.inr (.inl (([] : List UInt8), 70)))) else (some (.inl (wr (s0 + 1))))) else (some (.inr (.inr (()))))
noncomputable def Lb (a0 : List A9) (a1 : A3) (a2 : List A8) : Option ((List UInt8) × Int) :=
 if decide (a1.Height < (a2.length : Int)) = true then (some (([] : List UInt8), 30)) else ((AQ (Hg a1 a2) ([], 0)).bind fun o0 => (((AQ (Hf a0 a2 o0) 0 : Option (((List UInt8) × Int) ⊕ Unit))).bind fun o1 => (match o1 with | .inl p0 => (some p0) | .inr p1 => (some (o0, 0)))))
noncomputable def QZ (a0 : List UInt8) : Option ((List UInt8)) :=
 (idx a0 0).bind fun x40 => (idx a0 0).bind fun x45 => some ([x40, x45] : List UInt8)
noncomputable def QY (a0 : List UInt8) : Option ((List UInt8)) :=
 (idx a0 1).bind fun x40 => (idx a0 0).bind fun x45 => some ([x40, x45] : List UInt8)
noncomputable def Jc (a0 : A3) (a1 : Int) : Option (UInt8 × Int) :=
 (FP (⟨a0.Locals, a0.Height, a0.Slots⟩ : A3)).bind fun x66 => if (!x66) = true then (some ((0 : UInt8), 32)) else (if decide (a1 < 0) = true then (some ((0 : UInt8), 33)) else (if decide (a1 ≥ a0.Locals) = true then (some ((0 : UInt8), 33)) else ((idx a0.Slots.toList a1).bind fun x0 => some (x0, 0))))
noncomputable def M9 (a0 : A3) : Option (A3 × UInt8 × Int) :=
 (La (⟨a0.Locals, a0.Height, a0.Slots⟩ : A3) 0).bind fun x38 => if (x38.2 != 0) = true then (some ((⟨0, 0, (Vector.replicate 24 (0 : UInt8))⟩ : A3), (0 : UInt8), x38.2)) else ((HM (⟨a0.Locals, wr (a0.Height - 1), a0.Slots⟩ : A3)).bind fun x0 => some ((⟨x0.Locals, x0.Height, x0.Slots⟩ : A3), x38.1, 0))
noncomputable def Kv (a0 : A3) (a1 : Int) (a2 : UInt8) : Option (A3 × Int) :=
 (Jc (⟨a0.Locals, a0.Height, a0.Slots⟩ : A3) a1).bind fun x39 => if (x39.2 != 0) = true then (some ((⟨0, 0, (Vector.replicate 24 (0 : UInt8))⟩ : A3), x39.2)) else ((HM (⟨a0.Locals, a0.Height, a0.Slots⟩ : A3)).bind fun x0 => (idx x0.Slots.toList a1).bind fun x1 => some ((⟨x0.Locals, x0.Height, (H5 x0.Slots a1 a2)⟩ : A3), 0))
noncomputable def Ly (a0 : A3) (a1 : UInt8) : Option (A3 × Int) :=
 (FP (⟨a0.Locals, a0.Height, a0.Slots⟩ : A3)).bind fun x0 => if (!x0) = true then (some ((⟨0, 0, (Vector.replicate 24 (0 : UInt8))⟩ : A3), 32)) else (if ((wr (a0.Locals + a0.Height)) == 24) = true then (some ((⟨0, 0, (Vector.replicate 24 (0 : UInt8))⟩ : A3), 31)) else ((HM (⟨a0.Locals, a0.Height, a0.Slots⟩ : A3)).bind fun x1 => (idx x1.Slots.toList (wr (x1.Locals + x1.Height))).bind fun x2 => some ((⟨x1.Locals, wr (x1.Height + 1), (H5 x1.Slots (wr (x1.Locals + x1.Height)) a1)⟩ : A3), 0)))
noncomputable def HU (a2 : List UInt8) (s0 : Int × Int × (Vector UInt8 24) × Int) : Option ((Int × Int × (Vector UInt8 24) × Int) ⊕ ((Int × Int × (Vector UInt8 24)))) :=
 if decide (s0.2.2.2 < (a2.length : Int)) = true then ((M9 (⟨s0.1, s0.2.1, s0.2.2.1⟩ : A3)).bind fun x0 => some (.inl (x0.1.Locals, x0.1.Height, x0.1.Slots, wr (s0.2.2.2 + 1)))) else (some (.inr (s0.1, s0.2.1, s0.2.2.1)))
noncomputable def Ft (a3 : List UInt8) (s0 : Int × Int × (Vector UInt8 24) × Int) : Option ((Int × Int × (Vector UInt8 24) × Int) ⊕ ((A3 × Int) ⊕ (Int × Int × (Vector UInt8 24)))) :=
 if decide (s0.2.2.2 < (a3.length : Int)) = true then ((idx a3 s0.2.2.2).bind fun x0 => (Ly (⟨s0.1, s0.2.1, s0.2.2.1⟩ : A3) x0).bind fun x1 => if (x1.2 != 0) = true then (some (.inr (.inl ((⟨0, 0, (Vector.replicate 24 (0 : UInt8))⟩ : A3), x1.2)))) else (some (.inl (x1.1.Locals, x1.1.Height, x1.1.Slots, wr (s0.2.2.2 + 1))))) else (some (.inr (.inr ((s0.1, s0.2.1, s0.2.2.1)))))
noncomputable def HO (a0 : A3) (a1 : AA) (a2 : List UInt8) (a3 : List UInt8) : Option (A3 × Int) :=
 (AQ (HU a2) (a0.Locals, a0.Height, a0.Slots, 0)).bind fun o0 => (((if ((a1.Op.toNat : Int) == 22) = true then (if decide (o0.2.1 > 0) = true then (some (.inl ((⟨0, 0, (Vector.replicate 24 (0 : UInt8))⟩ : A3), 73))) else (some (.inr (())))) else (some (.inr (()))) : Option ((A3 × Int) ⊕ Unit))).bind fun o1 => (match o1 with | .inl p0 => (some p0) | .inr p1 => ((if ((a1.Op.toNat : Int) == 5) = true then ((idx a2 0).bind fun x0 => (Kv (⟨o0.1, o0.2.1, o0.2.2⟩ : A3) a1.A x0).bind fun x1 => some (x1.1.Locals, x1.1.Height, x1.1.Slots)) else (some (o0.1, o0.2.1, o0.2.2))).bind fun o2 => (((AQ (Ft a3) (o2.1, o2.2.1, o2.2.2, 0) : Option ((A3 × Int) ⊕ (Int × Int × (Vector UInt8 24))))).bind fun o3 => (match o3 with | .inl p2 => (some p2) | .inr p3 => (some ((⟨p3.1, p3.2.1, p3.2.2⟩ : A3), 0)))))))
noncomputable def M5 (a0 : AD) (a1 : A3) (a2 : AA) : Option (A3 × Int) :=
 (Iw (⟨a0.Classes, a0.AP, a0.Fn⟩ : AD)).bind fun x0 => if (!x0) = true then (some ((⟨0, 0, (Vector.replicate 24 (0 : UInt8))⟩ : A3), 1)) else ((Gn a0.Classes (⟨a1.Locals, a1.Height, a1.Slots⟩ : A3)).bind fun x1 => if (x1 != 0) = true then (some ((⟨0, 0, (Vector.replicate 24 (0 : UInt8))⟩ : A3), x1)) else ((KB (⟨a0.Classes, a0.AP, a0.Fn⟩ : AD) (⟨a2.At, a2.Op, a2.A, a2.B⟩ : AA)).bind fun x2 => (if ((a2.Op.toNat : Int) == 4) = true then (some true) else (some ((a2.Op.toNat : Int) == 5))).bind fun o0 => ((if (x2.2 == 0) = true then (if o0 = true then (if decide (a2.A < 0) = true then (some 33) else (if decide (a2.A ≥ a1.Locals) = true then (some 33) else (some x2.2))) else (some x2.2)) else (some x2.2)).bind fun o1 => (if (o1 != 0) = true then (some ((⟨0, 0, (Vector.replicate 24 (0 : UInt8))⟩ : A3), o1)) else ((Lb a0.Classes (⟨a1.Locals, a1.Height, a1.Slots⟩ : A3) x2.1.takes).bind fun x3 => if (x3.2 != 0) = true then (some ((⟨0, 0, (Vector.replicate 24 (0 : UInt8))⟩ : A3), x3.2)) else ((Gv.run x2.1.gives x3.1).bind fun x4 => if ((a2.Op.toNat : Int) == 4) = true then ((Jc (⟨a1.Locals, a1.Height, a1.Slots⟩ : A3) a2.A).bind fun x5 => if ((x5.1.toNat : Int) == 0) = true then (some ((⟨0, 0, (Vector.replicate 24 (0 : UInt8))⟩ : A3), 70)) else ((HO (⟨a1.Locals, a1.Height, a1.Slots⟩ : A3) (⟨a2.At, a2.Op, a2.A, a2.B⟩ : AA) x3.1 ([x5.1] : List UInt8)).bind fun x6 => some ((⟨x6.1.Locals, x6.1.Height, x6.1.Slots⟩ : A3), x6.2))) else ((HO (⟨a1.Locals, a1.Height, a1.Slots⟩ : A3) (⟨a2.At, a2.Op, a2.A, a2.B⟩ : AA) x3.1 x4).bind fun x7 => some ((⟨x7.1.Locals, x7.1.Height, x7.1.Slots⟩ : A3), x7.2))))))))
noncomputable def JE (a0 : UInt8) : Option Bool :=
 if ((a0.toNat : Int) == 19) = true then (some true) else (some ((a0.toNat : Int) == 20))
noncomputable def Mf (a0 : UInt8) : Option Bool :=
 if ((a0.toNat : Int) == 19) = true then (some true) else (if ((a0.toNat : Int) == 22) = true then (some true) else (some ((a0.toNat : Int) == 32)))
noncomputable def MC (a0 : List A9) (a1 : A3) (a2 : A3) : Option Int :=
 (Gn a0 (⟨a1.Locals, a1.Height, a1.Slots⟩ : A3)).bind fun x39 => if (x39 == 0) = true then ((Gn a0 (⟨a2.Locals, a2.Height, a2.Slots⟩ : A3)).bind fun x71 => if (x71 == 0) = true then (if (a1.Locals != a2.Locals) = true then (some 32) else (if (a1.Height != a2.Height) = true then (some 32) else (some x71))) else (some x71)) else (some x39)
noncomputable def Kg (a0 : Int) (a1 : List A9) (a2 : Int) (a3 : UInt8) : Option (Bool × UInt8) :=
 (JW a1 a2 a0).bind fun x59 => if x59 = true then (some (false, E2 (16 + ((E2 a0).toNat : Int)))) else (some (true, a3))
noncomputable def CW (a0 : List A9) (a1 : List A9) (a2 : Int) (s0 : UInt8 × Int) : Option ((UInt8 × Int) ⊕ (UInt8 ⊕ UInt8)) :=
 if decide (s0.2 ≥ 0) = true then (if decide (s0.2 < (a0.length : Int)) = true then ((Kg s0.2 a1 a2 s0.1).bind fun x0 => if x0.1 = true then ((idx a0 s0.2).bind fun x1 => if decide (x1.Bn ≥ s0.2) = true then (some (.inr (.inl x0.2))) else (some (.inl (x0.2, x1.Bn)))) else (some (.inr (.inr (x0.2))))) else (some (.inr (.inr (s0.1))))) else (some (.inr (.inr (s0.1))))
noncomputable def Fa (a0 : List A9) (a1 : Int) (a2 : List A9) (a3 : Int) (a4 : UInt8) : Option UInt8 :=
 ((AQ (CW a0 a2 a3) (a4, a1) : Option (UInt8 ⊕ UInt8))).bind fun o0 => (match o0 with | .inl p0 => (some p0) | .inr p1 => (some p1))
noncomputable def Lu (a0 : List A9) (a1 : UInt8) (a2 : UInt8) : Option UInt8 :=
 (E3 a0 a1).bind fun x0 => if (!x0) = true then (some (0 : UInt8)) else ((E3 a0 a2).bind fun x1 => if (!x1) = true then (some (0 : UInt8)) else ((KE a0 a1 a2).bind fun x2 => if x2 = true then (some a2) else ((KE a0 a2 a1).bind fun x3 => if x3 = true then (some a1) else ((Ff a1).bind fun x4 => if (!x4) = true then (some (0 : UInt8)) else ((Ff a2).bind fun x5 => if (!x5) = true then (some (0 : UInt8)) else ((FC a0 a1).bind fun x6 => (FC a0 a2).bind fun x7 => if decide (x6 ≥ 0) = true then (if decide (x7 ≥ 0) = true then ((Fa a0 x6 a0 x7 5).bind fun x8 => some x8) else (some (5 : UInt8))) else (some (5 : UInt8))))))))
noncomputable def GG (a0 : List A9) (a1 : A3) (a2 : A3) (s0 : (Vector UInt8 24) × Int) : Option (((Vector UInt8 24) × Int) ⊕ (((Vector UInt8 24)))) :=
 if decide (s0.2 < (wr (a1.Locals + a1.Height))) = true then ((idx s0.1.toList s0.2).bind fun x0 => (idx a2.Slots.toList s0.2).bind fun x1 => (Lu a0 x0 x1).bind fun x2 => (idx s0.1.toList s0.2).bind fun x3 => some (.inl ((H5 s0.1 s0.2 x2), wr (s0.2 + 1)))) else (some (.inr s0.1))
noncomputable def Ko (a0 : List A9) (a1 : A3) (a2 : A3) : Option (A3 × Int) :=
 (MC a0 (⟨a1.Locals, a1.Height, a1.Slots⟩ : A3) (⟨a2.Locals, a2.Height, a2.Slots⟩ : A3)).bind fun x52 => if (x52 != 0) = true then (some ((⟨0, 0, (Vector.replicate 24 (0 : UInt8))⟩ : A3), x52)) else ((AQ (GG a0 a1 a2) (a1.Slots, 0)).bind fun o0 => (some ((⟨a1.Locals, a1.Height, o0⟩ : A3), 0)))
noncomputable def FK (a0 : AM) (a1 : Int) (a2 : A3) : Option (Int × AM) :=
 ((if (BJ a0.frames a1).isSome = true then ((Ko a0.e.Classes (⟨((BJ a0.frames a1).getD (⟨(0 : Int), (0 : Int), (Vector.replicate 24 (0 : UInt8))⟩ : A3)).Locals, ((BJ a0.frames a1).getD (⟨(0 : Int), (0 : Int), (Vector.replicate 24 (0 : UInt8))⟩ : A3)).Height, ((BJ a0.frames a1).getD (⟨(0 : Int), (0 : Int), (Vector.replicate 24 (0 : UInt8))⟩ : A3)).Slots⟩ : A3) (⟨a2.Locals, a2.Height, a2.Slots⟩ : A3)).bind fun x0 => if (x0.2 != 0) = true then (some (.inl (x0.2, (⟨(⟨a0.e.Classes, a0.e.AP, a0.e.Fn⟩ : AD), a0.code, a0.frames, a0.fresh, a0.taken, a1⟩ : AM)))) else (some (.inr ((x0.1.Locals, x0.1.Height, x0.1.Slots))))) else (some (.inr ((a2.Locals, a2.Height, a2.Slots)))) : Option ((Int × AM) ⊕ (Int × Int × (Vector UInt8 24))))).bind fun o0 => (match o0 with | .inl p0 => (some p0) | .inr p1 => (if (!((BJ a0.frames a1).isSome)) = true then (some (0, (⟨(⟨a0.e.Classes, a0.e.AP, a0.e.Fn⟩ : AD), a0.code, (C7 a0.frames a1 (⟨p1.1, p1.2.1, p1.2.2⟩ : A3)), (C7 a0.fresh a1 ()), a0.taken, a0.B2⟩ : AM))) else (if (!((p1.1 == (((BJ a0.frames a1).getD (⟨(0 : Int), (0 : Int), (Vector.replicate 24 (0 : UInt8))⟩ : A3)).Locals)) && ((p1.2.1 == (((BJ a0.frames a1).getD (⟨(0 : Int), (0 : Int), (Vector.replicate 24 (0 : UInt8))⟩ : A3)).Height)) && ((p1.2.2 == (((BJ a0.frames a1).getD (⟨(0 : Int), (0 : Int), (Vector.replicate 24 (0 : UInt8))⟩ : A3)).Slots)) && true)))) = true then (some (0, (⟨(⟨a0.e.Classes, a0.e.AP, a0.e.Fn⟩ : AD), a0.code, (C7 a0.frames a1 (⟨p1.1, p1.2.1, p1.2.2⟩ : A3)), (C7 a0.fresh a1 ()), a0.taken, a0.B2⟩ : AM))) else (some (0, (⟨(⟨a0.e.Classes, a0.e.AP, a0.e.Fn⟩ : AD), a0.code, a0.frames, a0.fresh, a0.taken, a0.B2⟩ : AM))))))
noncomputable def CP (x0 : A3 × Int) (x1 : List Int) (s0 : (List A9) × (List Bq) × Int × (List UInt8) × Int × (List (Int × A3)) × (List (Int × Unit)) × (List (Int × Int)) × Int) : Option (((List A9) × (List Bq) × Int × (List UInt8) × Int × (List (Int × A3)) × (List (Int × Unit)) × (List (Int × Int)) × Int) ⊕ ((Int × AM) ⊕ ((List A9) × (List Bq) × Int × (List UInt8) × Int × (List (Int × A3)) × (List (Int × Unit)) × (List (Int × Int))))) :=
 if decide (s0.2.2.2.2.2.2.2.2 < (x1.length : Int)) = true then ((idx x1 s0.2.2.2.2.2.2.2.2).bind fun x2 => (FK (⟨(⟨s0.1, s0.2.1, s0.2.2.1⟩ : AD), s0.2.2.2.1, s0.2.2.2.2.2.1, s0.2.2.2.2.2.2.1, s0.2.2.2.2.2.2.2.1, s0.2.2.2.2.1⟩ : AM) x2 (⟨x0.1.Locals, x0.1.Height, x0.1.Slots⟩ : A3)).bind fun x3 => if (x3.1 != 0) = true then (some (.inr (.inl (x3.1, (⟨(⟨x3.2.e.Classes, x3.2.e.AP, x3.2.e.Fn⟩ : AD), x3.2.code, x3.2.frames, x3.2.fresh, x3.2.taken, x3.2.B2⟩ : AM))))) else (some (.inl (x3.2.e.Classes, x3.2.e.AP, x3.2.e.Fn, x3.2.code, x3.2.B2, x3.2.frames, x3.2.fresh, x3.2.taken, wr (s0.2.2.2.2.2.2.2.2 + 1))))) else (some (.inr (.inr ((s0.1, s0.2.1, s0.2.2.1, s0.2.2.2.1, s0.2.2.2.2.1, s0.2.2.2.2.2.1, s0.2.2.2.2.2.2.1, s0.2.2.2.2.2.2.2.1)))))
noncomputable def FH (a0 : AM) (a1 : Int) : Option (Int × AM) :=
 if (a1 == (a0.code.length : Int)) = true then (some (51, (⟨(⟨a0.e.Classes, a0.e.AP, a0.e.Fn⟩ : AD), a0.code, a0.frames, a0.fresh, a0.taken, a1⟩ : AM))) else ((Ed a0.code a1).bind fun x64 => if (x64.2 != 0) = true then (some (x64.2, (⟨(⟨a0.e.Classes, a0.e.AP, a0.e.Fn⟩ : AD), a0.code, a0.frames, a0.fresh, a0.taken, a1⟩ : AM))) else ((FY (⟨(⟨a0.e.Classes, a0.e.AP, a0.e.Fn⟩ : AD), a0.code, a0.frames, a0.fresh, a0.taken, a1⟩ : AM) (⟨x64.1.At, x64.1.Op, x64.1.A, x64.1.B⟩ : AA)).bind fun x0 => if (!x0.1) = true then (some (80, (⟨(⟨x0.2.e.Classes, x0.2.e.AP, x0.2.e.Fn⟩ : AD), x0.2.code, x0.2.frames, x0.2.fresh, x0.2.taken, x0.2.B2⟩ : AM))) else ((M5 (⟨x0.2.e.Classes, x0.2.e.AP, x0.2.e.Fn⟩ : AD) ((BJ x0.2.frames a1).getD (⟨(0 : Int), (0 : Int), (Vector.replicate 24 (0 : UInt8))⟩ : A3)) (⟨x64.1.At, x64.1.Op, x64.1.A, x64.1.B⟩ : AA)).bind fun x1 => if (x1.2 != 0) = true then (some (x1.2, (⟨(⟨x0.2.e.Classes, x0.2.e.AP, x0.2.e.Fn⟩ : AD), x0.2.code, x0.2.frames, x0.2.fresh, x0.2.taken, x0.2.B2⟩ : AM))) else ((Gk x64.1.Op).bind fun x2 => (((JE x64.1.Op).bind fun x3 => if x3 = true then (if decide (x64.1.A ≥ (x0.2.code.length : Int)) = true then (some (.inl (50, (⟨(⟨x0.2.e.Classes, x0.2.e.AP, x0.2.e.Fn⟩ : AD), x0.2.code, x0.2.frames, x0.2.fresh, x0.2.taken, x0.2.B2⟩ : AM)))) else ((app 17592186044416 ([] : List Int) ([x64.1.A] : List Int)).bind fun x4 => some (.inr (x4)))) else (some (.inr ([]))) : Option ((Int × AM) ⊕ ((List Int))))).bind fun o0 => (match o0 with | .inl p0 => (some p0) | .inr p1 => ((((Mf x64.1.Op).bind fun x5 => if (!x5) = true then (if ((wr (a1 + x2)) == (x0.2.code.length : Int)) = true then (some (.inl (51, (⟨(⟨x0.2.e.Classes, x0.2.e.AP, x0.2.e.Fn⟩ : AD), x0.2.code, x0.2.frames, x0.2.fresh, x0.2.taken, x0.2.B2⟩ : AM)))) else ((app 17592186044416 p1 ([wr (a1 + x2)] : List Int)).bind fun x6 => some (.inr (x6)))) else (some (.inr (p1))) : Option ((Int × AM) ⊕ ((List Int))))).bind fun o1 => (match o1 with | .inl p2 => (some p2) | .inr p3 => ((Ol p3).bind fun x7 => (LU x7).bind fun x8 => ((AQ (CP x1 x8) (x0.2.e.Classes, x0.2.e.AP, x0.2.e.Fn, x0.2.code, x0.2.B2, x0.2.frames, x0.2.fresh, x0.2.taken, 0) : Option ((Int × AM) ⊕ ((List A9) × (List Bq) × Int × (List UInt8) × Int × (List (Int × A3)) × (List (Int × Unit)) × (List (Int × Int)))))).bind fun o2 => (match o2 with | .inl p4 => (some p4) | .inr p5 => (some (0, (⟨(⟨p5.1, p5.2.1, p5.2.2.1⟩ : AD), p5.2.2.2.1, p5.2.2.2.2.2.1, p5.2.2.2.2.2.2.1, p5.2.2.2.2.2.2.2, p5.2.2.2.2.1⟩ : AM))))))))))))
noncomputable def EE (p0 : Int × Unit) (s0 : Int) : Option (Int ⊕ Int) :=
 some (.inl (if p0.1 < s0 then p0.1 else s0))
noncomputable def EG (a2 : List UInt8) (s0 : (List A9) × (List Bq) × Int × (List UInt8) × Int × (List (Int × Int)) × (List (Int × Unit)) × (List (Int × A3)) × Int) : Option (((List A9) × (List Bq) × Int × (List UInt8) × Int × (List (Int × Int)) × (List (Int × Unit)) × (List (Int × A3)) × Int) ⊕ (((List A9) × (List Bq) × Int × (List UInt8) × Int × (List (Int × A3)) × (List (Int × Unit)) × (List (Int × Int)) × Int))) :=
 if decide ((s0.2.2.2.2.2.2.1.length : Int) > 0) = true then (((NH (EE) s0.2.2.2.2.2.2.1 (a2.length : Int)).bind (Abk fun s1 => (some s1))).bind fun o0 => ((FH (⟨(⟨s0.1, s0.2.1, s0.2.2.1⟩ : AD), s0.2.2.2.1, s0.2.2.2.2.2.2.2.1, (H8 s0.2.2.2.2.2.2.1 o0), s0.2.2.2.2.2.1, s0.2.2.2.2.1⟩ : AM) o0).bind fun x0 => if (x0.1 != 0) = true then (some (.inr (x0.2.e.Classes, x0.2.e.AP, x0.2.e.Fn, x0.2.code, x0.2.B2, x0.2.frames, x0.2.fresh, x0.2.taken, x0.1))) else (some (.inl (x0.2.e.Classes, x0.2.e.AP, x0.2.e.Fn, x0.2.code, x0.2.B2, x0.2.taken, x0.2.fresh, x0.2.frames, x0.1))))) else (some (.inr (s0.1, s0.2.1, s0.2.2.1, s0.2.2.2.1, s0.2.2.2.2.1, s0.2.2.2.2.2.2.2.1, s0.2.2.2.2.2.2.1, s0.2.2.2.2.2.1, s0.2.2.2.2.2.2.2.2)))
noncomputable def K4 (a0 : AD) (a1 : Int) (a2 : List UInt8) : Option ((Option AM) × Int × Int) :=
 (KF (⟨a0.Classes, a0.AP, a0.Fn⟩ : AD) a1).bind fun x57 => if (x57 != 0) = true then (some ((none : Option AM), 0, x57)) else (if decide ((a2.length : Int) > 4096) = true then (some ((none : Option AM), 0, 4)) else ((idx a0.AP a0.Fn).bind fun x0 => (Jt a0.Classes x0.B5 a1).bind fun x1 => (AQ (EG a2) (a0.Classes, a0.AP, a0.Fn, a2, 0, ([] : List (Int × Int)), (C7 ([] : List (Int × Unit)) 0 ()), (C7 ([] : List (Int × A3)) 0 (⟨x1.1.Locals, x1.1.Height, x1.1.Slots⟩ : A3)), 0)).bind fun o0 => (if (o0.2.2.2.2.2.2.2.2 != 0) = true then (some ((none : Option AM), o0.2.2.2.2.1, o0.2.2.2.2.2.2.2.2)) else (some (some (⟨(⟨o0.1, o0.2.1, o0.2.2.1⟩ : AD), o0.2.2.2.1, o0.2.2.2.2.2.1, o0.2.2.2.2.2.2.1, o0.2.2.2.2.2.2.2.1, o0.2.2.2.2.1⟩ : AM), 0, 0)))))
noncomputable def Fz (x0 : AM) (x1 : List Int) (s0 : (List B0) × Int) : Option (((List B0) × Int) ⊕ (((List B0)))) :=
 if decide (s0.2 < (x1.length : Int)) = true then ((idx x1 s0.2).bind fun x2 => (app 2513169434916 s0.1 ([(⟨x2, false, (⟨((BJ x0.frames x2).getD (⟨(0 : Int), (0 : Int), (Vector.replicate 24 (0 : UInt8))⟩ : A3)).Locals, ((BJ x0.frames x2).getD (⟨(0 : Int), (0 : Int), (Vector.replicate 24 (0 : UInt8))⟩ : A3)).Height, ((BJ x0.frames x2).getD (⟨(0 : Int), (0 : Int), (Vector.replicate 24 (0 : UInt8))⟩ : A3)).Slots⟩ : A3)⟩ : B0)] : List B0)).bind fun x3 => some (.inl (x3, wr (s0.2 + 1)))) else (some (.inr s0.1))
noncomputable def IU (a0 : AD) (a1 : Int) (a2 : List UInt8) : Option ((List B0) × Int × Int) :=
 (K4 (⟨a0.Classes, a0.AP, a0.Fn⟩ : AD) a1 a2).bind fun x29 => if (x29.2.2 != 0) = true then (some (([] : List B0), x29.2.1, x29.2.2)) else ((x29.1).bind fun x0 => ((UN x0.frames).bind fun x1 => (AQ (Fz x0 x1) ([], 0)).bind fun o0 => (some (o0, 0, 0))))
noncomputable def Cy (x0 : Df) (x1 : (List B0) × Int × Int) (s0 : (List AA) × Int × Int) : Option (((List AA) × Int × Int) ⊕ (((List AA) × Int))) :=
 if decide (s0.2.2 < (x1.1.length : Int)) = true then ((idx x1.1 s0.2.2).bind fun x2 => (Ed x0.Code x2.At).bind fun x3 => (app 4398046511104 s0.1 ([(⟨x3.1.At, x3.1.Op, x3.1.A, x3.1.B⟩ : AA)] : List AA)).bind fun x4 => some (.inl (x4, (if s0.2.1 < x2.Frame.Height then x2.Frame.Height else s0.2.1), wr (s0.2.2 + 1)))) else (some (.inr (s0.1, s0.2.1)))
noncomputable def E9 (a0 : AH) (a1 : Int) : Option ((Option AK) × Int × Int) :=
 (N5 (⟨a0.Name, a0.Classes, a0.Funcs, a0.Ec⟩ : AH) a1).bind fun x43 => if (!x43.2) = true then (some ((none : Option AK), 0, 1)) else ((idx a0.Funcs a1).bind fun x0 => (IU (⟨x43.1.Classes, x43.1.AP, x43.1.Fn⟩ : AD) x0.Locals x0.Code).bind fun x1 => if (x1.2.2 != 0) = true then (some ((none : Option AK), x1.2.1, x1.2.2)) else ((AQ (Cy x0 x1) ([], 0, 0)).bind fun o0 => (some (some (⟨o0.1, o0.2⟩ : AK), 0, 0))))
noncomputable def Eo (a0 : AK) (s0 : (List Int) × Int) : Option (((List Int) × Int) ⊕ (((List Int)))) :=
 if decide (s0.2 < (a0.l.length : Int)) = true then ((idx a0.l s0.2).bind fun x0 => if ((x0.Op.toNat : Int) == 21) = true then ((app 17592186044416 s0.1 ([x0.A] : List Int)).bind fun x1 => some (.inl (x1, wr (s0.2 + 1)))) else (some (.inl (s0.1, wr (s0.2 + 1))))) else (some (.inr s0.1))
noncomputable def Fj (a0 : AK) : Option ((List Int)) :=
 (AQ (Eo a0) ([], 0)).bind fun o0 => ((Ol o0).bind fun x0 => (LU x0).bind fun x1 => some x1)
noncomputable def HE (a0 : List Int) : Option ((List Int)) :=
 (app 17592186044416 ([] : List Int) a0).bind fun x55 => some x55
noncomputable def Ef (a0 : List (List Int)) (s0 : (List Bool) × (List Int)) : Option (((List Bool) × (List Int)) ⊕ (((List Bool)))) :=
 if decide ((s0.2.length : Int) > 0) = true then ((idx s0.2 0).bind fun x0 => (GZ s0.2 1 (s0.2.length : Int)).bind fun x1 => (idx s0.1 x0).bind fun x2 => if x2 = true then (some (.inl (s0.1, x1))) else ((idx s0.1 x0).bind fun x3 => (idx a0 x0).bind fun x4 => (app 17592186044416 x1 x4).bind fun x5 => some (.inl ((s0.1.set x0.toNat true), x5)))) else (some (.inr s0.1))
noncomputable def Gc (o0 : ((List Bool))) (s0 : (List Int) × Int) : Option (((List Int) × Int) ⊕ (((List Int)))) :=
 if decide (s0.2 < (o0.length : Int)) = true then ((idx o0 s0.2).bind fun x0 => if x0 = true then ((app 17592186044416 s0.1 ([s0.2] : List Int)).bind fun x1 => some (.inl (x1, wr (s0.2 + 1)))) else (some (.inl (s0.1, wr (s0.2 + 1))))) else (some (.inr s0.1))
noncomputable def E4 (a0 : List (List Int)) (a1 : List Int) : Option ((List Int)) :=
 (Jj 1 (a0.length : Int) false).bind fun x14 => (HE a1).bind fun x38 => (AQ (Ef a0) (x14, x38)).bind fun o0 => ((AQ (Gc o0) ([], 0)).bind fun o1 => (some o1))
noncomputable def Di (a0 : List Int) (a1 : Int) (s0 : Int) : Option (Int ⊕ (Int ⊕ Unit)) :=
 if decide (s0 < (a0.length : Int)) = true then ((idx a0 s0).bind fun x0 => if (a1 == x0) = true then (some (.inr (.inl s0))) else (some (.inl (wr (s0 + 1))))) else (some (.inr (.inr (()))))
noncomputable def HG (a0 : List Int) (a1 : Int) : Option Int :=
 ((AQ (Di a0 a1) 0 : Option (Int ⊕ Unit))).bind fun o0 => (match o0 with | .inl p0 => (some p0) | .inr p1 => (some (-1)))
noncomputable def EB (a0 : List Int) (a1 : Int) : Option Bool :=
 (HG a0 a1).bind fun x14 => some (decide (x14 ≥ 0))
noncomputable def JX (a0 : AH) (s0 : (List Bq) × Int) : Option (((List Bq) × Int) ⊕ (((List Bq)))) :=
 if decide (s0.2 < (a0.Funcs.length : Int)) = true then ((idx a0.Funcs s0.2).bind fun x0 => (app 4398046511104 s0.1 ([(⟨x0.Sig.B5, x0.Sig.Result⟩ : Bq)] : List Bq)).bind fun x1 => some (.inl (x1, wr (s0.2 + 1)))) else (some (.inr s0.1))
noncomputable def LR (a0 : AH) (a1 : Int) : Option (AD × Bool) :=
 if decide (a1 < 0) = true then (some ((⟨[], [], 0⟩ : AD), false)) else (if decide (a1 ≥ (a0.Funcs.length : Int)) = true then (some ((⟨[], [], 0⟩ : AD), false)) else ((AQ (JX a0) ([], 0)).bind fun o0 => (some ((⟨a0.Classes, o0, a1⟩ : AD), true))))
noncomputable def Jg (a0 : List UInt8) (s0 : Int) : Option (Int ⊕ (Bool ⊕ Unit)) :=
 if decide (s0 < (a0.length : Int)) = true then ((idx a0 s0).bind fun x0 => (if decide ((x0.toNat : Int) ≥ 97) = true then (if decide ((x0.toNat : Int) ≤ 122) = true then (some true) else (if decide ((x0.toNat : Int) ≥ 65) = true then (some (decide ((x0.toNat : Int) ≤ 90))) else (some false))) else (if decide ((x0.toNat : Int) ≥ 65) = true then (some (decide ((x0.toNat : Int) ≤ 90))) else (some false))).bind fun o0 => (if (!o0) = true then (if (s0 == 0) = true then (some (.inr (.inl false))) else (if ((x0.toNat : Int) != 95) = true then (if decide ((x0.toNat : Int) < 48) = true then (some (.inr (.inl false))) else (if decide ((x0.toNat : Int) > 57) = true then (some (.inr (.inl false))) else (some (.inl (wr (s0 + 1)))))) else (some (.inl (wr (s0 + 1)))))) else (some (.inl (wr (s0 + 1)))))) else (some (.inr (.inr (()))))
noncomputable def I0 (a0 : List UInt8) : Option Bool :=
 if decide ((a0.length : Int) < 1) = true then (some false) else (if decide ((a0.length : Int) > 24) = true then (some false) else (((AQ (Jg a0) 0 : Option (Bool ⊕ Unit))).bind fun o0 => (match o0 with | .inl p0 => (some p0) | .inr p1 => (some true))))
noncomputable def NS (a0 : UInt8) : Option ((List UInt8)) :=
 if ((a0.toNat : Int) == 0) = true then (some [116, 111, 112]) else (if ((a0.toNat : Int) == 1) = true then (some [105, 110, 116]) else (if ((a0.toNat : Int) == 2) = true then (some [98, 111, 111, 108]) else (if ((a0.toNat : Int) == 3) = true then (some [110, 117, 108, 108]) else (if ((a0.toNat : Int) == 4) = true then (some [105, 110, 116, 115]) else (if ((a0.toNat : Int) == 5) = true then (some [97, 110, 121]) else (some []))))))
noncomputable def EW (a0 : List UInt8) (s0 : UInt8) : Option (UInt8 ⊕ (Bool ⊕ Unit)) :=
 if decide ((s0.toNat : Int) ≤ 5) = true then ((NS s0).bind fun x0 => if (x0 == a0) = true then (some (.inr (.inl true))) else (some (.inl (E2 ((s0.toNat : Int) + 1))))) else (some (.inr (.inr (()))))
noncomputable def JY (a0 : List UInt8) : Option Bool :=
 ((AQ (EW a0) 0 : Option (Bool ⊕ Unit))).bind fun o0 => (match o0 with | .inl p0 => (some p0) | .inr p1 => (some false))
noncomputable def FG (a0 : List A9) (s0 : Int × (List Int)) : Option ((Int × (List Int)) ⊕ (((List Int)))) :=
 if decide (s0.1 ≥ 0) = true then (if decide (s0.1 < (a0.length : Int)) = true then (if decide ((s0.2.length : Int) ≤ (a0.length : Int)) = true then ((app 17592186044416 s0.2 ([s0.1] : List Int)).bind fun x0 => (idx a0 s0.1).bind fun x1 => some (.inl (x1.Bn, x0))) else (some (.inr s0.2))) else (some (.inr s0.2))) else (some (.inr s0.2))
noncomputable def Jl (a0 : List A9) (a1 : Int) : Option ((List Int)) :=
 (AQ (FG a0) (a1, [])).bind fun o0 => (some o0)
noncomputable def Lr (a0 : List A9) (x16 : (List Int)) (s0 : (List B1) × Int) : Option (((List B1) × Int) ⊕ (((List B1)))) :=
 if decide (s0.2 ≥ 0) = true then ((idx x16 s0.2).bind fun x0 => (idx a0 x0).bind fun x1 => (app 5864062014805 s0.1 x1.Fields).bind fun x2 => some (.inl (x2, wr (s0.2 - 1)))) else (some (.inr s0.1))
noncomputable def Dy (a0 : List A9) (a1 : Int) : Option ((List B1)) :=
 (Jl a0 a1).bind fun x16 => (AQ (Lr a0 x16) ([], wr ((x16.length : Int) - 1))).bind fun o0 => (some o0)
noncomputable def Iz (a0 : List B1) (a1 : List UInt8) (s0 : Int) : Option (Int ⊕ (Bool ⊕ Unit)) :=
 if decide (s0 < (a0.length : Int)) = true then ((idx a0 s0).bind fun x0 => if (x0.Name == a1) = true then (some (.inr (.inl true))) else (some (.inl (wr (s0 + 1))))) else (some (.inr (.inr (()))))
noncomputable def LV (a0 : List B1) (a1 : List UInt8) : Option Bool :=
 ((AQ (Iz a0 a1) 0 : Option (Bool ⊕ Unit))).bind fun o0 => (match o0 with | .inl p0 => (some p0) | .inr p1 => (some false))
noncomputable def Dm (a0 : List A9) (a1 : UInt8) : Option Bool :=
 if decide ((a1.toNat : Int) ≤ 5) = true then (some true) else (if decide ((a1.toNat : Int) ≥ 16) = true then (some (decide (((E2 ((a1.toNat : Int) - 16)).toNat : Int) < (a0.length : Int)))) else (some false))
noncomputable def FX (a0 : List A9) (a1 : UInt8) : Option Bool :=
 (Dm a0 a1).bind fun x22 => if x22 = true then (if ((a1.toNat : Int) != 0) = true then (some ((a1.toNat : Int) != 3)) else (some false)) else (some false)
noncomputable def GQ (a0 : List A9) (a1 : Int) (x28 : A9) (s0 : Int) : Option (Int ⊕ (Int ⊕ Unit)) :=
 if decide (s0 < a1) = true then ((idx a0 s0).bind fun x0 => if (x0.Name == x28.Name) = true then (some (.inr (.inl 20))) else (some (.inl (wr (s0 + 1))))) else (some (.inr (.inr (()))))
noncomputable def Fp (a0 : List A9) (x28 : A9) (x0 : (List B1)) (s0 : Int) : Option (Int ⊕ (Int ⊕ Unit)) :=
 if decide (s0 < (x28.Fields.length : Int)) = true then ((idx x28.Fields s0).bind fun x1 => (I0 x1.Name).bind fun x2 => if (!x2) = true then (some (.inr (.inl 6))) else ((LV x0 x1.Name).bind fun x3 => if x3 = true then (some (.inr (.inl 20))) else ((GZ x28.Fields 0 s0).bind fun x4 => (LV x4 x1.Name).bind fun x5 => if x5 = true then (some (.inr (.inl 20))) else ((FX a0 x1.HH).bind fun x6 => if (!x6) = true then (some (.inr (.inl 22))) else (some (.inl (wr (s0 + 1)))))))) else (some (.inr (.inr (()))))
noncomputable def Ku (a0 : List A9) (a1 : Int) : Option Int :=
 (idx a0 a1).bind fun x28 => if decide (a1 ≥ 32) = true then (some 4) else ((I0 x28.Name).bind fun x99 => if (!x99) = true then (some 6) else ((JY x28.Name).bind fun x0 => if x0 = true then (some 6) else (((AQ (GQ a0 a1 x28) 0 : Option (Int ⊕ Unit))).bind fun o0 => (match o0 with | .inl p0 => (some p0) | .inr p1 => (if decide (x28.Bn < (-1)) = true then (some 21) else (if decide (x28.Bn ≥ a1) = true then (some 21) else ((Dy a0 x28.Bn).bind fun x1 => ((AQ (Fp a0 x28 x1) 0 : Option (Int ⊕ Unit))).bind fun o1 => (match o1 with | .inl p2 => (some p2) | .inr p3 => (if decide ((x28.Fields.length : Int) > (wr (32 - (x1.length : Int)))) = true then (some 4) else (some 0))))))))))
noncomputable def GN (a0 : List A9) (s0 : Int) : Option (Int ⊕ ((Int × Int) ⊕ Unit)) :=
 if decide (s0 < (a0.length : Int)) = true then ((Ku a0 s0).bind fun x0 => if (x0 != 0) = true then (some (.inr (.inl (s0, x0)))) else (some (.inl (wr (s0 + 1))))) else (some (.inr (.inr (()))))
noncomputable def ID (a0 : List A9) : Option (Int × Int) :=
 ((AQ (GN a0) 0 : Option ((Int × Int) ⊕ Unit))).bind fun o0 => (match o0 with | .inl p0 => (some p0) | .inr p1 => (some (0, 0)))
noncomputable def Gi (a0 : List A9) (a1 : Bq) (s0 : Int) : Option (Int ⊕ (Bool ⊕ Unit)) :=
 if decide (s0 < (a1.B5.length : Int)) = true then ((idx a1.B5 s0).bind fun x0 => (FX a0 x0).bind fun x1 => if (!x1) = true then (some (.inr (.inl false))) else (some (.inl (wr (s0 + 1))))) else (some (.inr (.inr (()))))
noncomputable def Ka (a0 : List A9) (a1 : Bq) : Option Bool :=
 ((AQ (Gi a0 a1) 0 : Option (Bool ⊕ Unit))).bind fun o0 => (match o0 with | .inl p0 => (some p0) | .inr p1 => (if decide ((a1.B5.length : Int) ≤ 8) = true then (if ((a1.Result.toNat : Int) == 0) = true then (some true) else ((FX a0 a1.Result).bind fun x0 => some x0)) else (some false)))
noncomputable def II (a0 : Int) : Option (A3 × Int) :=
 if decide (a0 < 0) = true then (some ((⟨0, 0, (Vector.replicate 24 (0 : UInt8))⟩ : A3), 1)) else (if decide (a0 > 16) = true then (some ((⟨0, 0, (Vector.replicate 24 (0 : UInt8))⟩ : A3), 1)) else (some ((⟨a0, 0, (Vector.replicate 24 (0 : UInt8))⟩ : A3), 0)))
noncomputable def JZ (a0 : List A9) (a1 : UInt8) : Option Bool :=
 (Dm a0 a1).bind fun x22 => if x22 = true then (if ((a1.toNat : Int) != 0) = true then (some ((a1.toNat : Int) != 3)) else (some false)) else (some false)
noncomputable def DI (a0 : List A9) (a1 : List UInt8) (s0 : (Vector UInt8 24) × Int) : Option (((Vector UInt8 24) × Int) ⊕ ((A3 × Int) ⊕ ((Vector UInt8 24)))) :=
 if decide (s0.2 < (a1.length : Int)) = true then ((idx a1 s0.2).bind fun x0 => (JZ a0 x0).bind fun x1 => if (!x1) = true then (some (.inr (.inl ((⟨0, 0, (Vector.replicate 24 (0 : UInt8))⟩ : A3), 1)))) else ((idx s0.1.toList s0.2).bind fun x2 => some (.inl ((H5 s0.1 s0.2 x0), wr (s0.2 + 1))))) else (some (.inr (.inr (s0.1))))
noncomputable def CZ (a0 : List A9) (a1 : List UInt8) (a2 : Int) : Option (A3 × Int) :=
 (II a2).bind fun x38 => if (x38.2 != 0) = true then (some ((⟨0, 0, (Vector.replicate 24 (0 : UInt8))⟩ : A3), 1)) else (if decide ((a1.length : Int) > 8) = true then (some ((⟨0, 0, (Vector.replicate 24 (0 : UInt8))⟩ : A3), 1)) else (if decide ((a1.length : Int) > a2) = true then (some ((⟨0, 0, (Vector.replicate 24 (0 : UInt8))⟩ : A3), 1)) else (((AQ (DI a0 a1) (x38.1.Slots, 0) : Option ((A3 × Int) ⊕ ((Vector UInt8 24))))).bind fun o0 => (match o0 with | .inl p0 => (some p0) | .inr p1 => (some ((⟨x38.1.Locals, x38.1.Height, p1⟩ : A3), 0))))))
noncomputable def Cz (a0 : AD) (s0 : Int) : Option (Int ⊕ (Int ⊕ Unit)) :=
 if decide (s0 < (a0.AP.length : Int)) = true then ((idx a0.AP s0).bind fun x0 => if decide ((x0.B5.length : Int) > 8) = true then (some (.inr (.inl 4))) else ((idx a0.AP s0).bind fun x1 => (Ka a0.Classes x1).bind fun x2 => if (!x2) = true then (some (.inr (.inl 22))) else (some (.inl (wr (s0 + 1)))))) else (some (.inr (.inr (()))))
noncomputable def Du (a0 : AD) (a1 : Int) : Option Int :=
 (ID a0.Classes).bind fun x27 => if (x27.2 != 0) = true then (some x27.2) else (if decide ((a0.AP.length : Int) > 64) = true then (some 4) else (((AQ (Cz a0) 0 : Option (Int ⊕ Unit))).bind fun o0 => (match o0 with | .inl p0 => (some p0) | .inr p1 => (if decide (a0.Fn < 0) = true then (some 71) else (if decide (a0.Fn ≥ (a0.AP.length : Int)) = true then (some 71) else ((idx a0.AP a0.Fn).bind fun x0 => (CZ a0.Classes x0.B5 a1).bind fun x1 => some x1.2))))))
noncomputable def FN (a0 : UInt8) : Option (Int × Int) :=
 if ((a0.toNat : Int) == 1) = true then (some (4, 0)) else ((if ((a0.toNat : Int) == 19) = true then (some true) else (some ((a0.toNat : Int) == 20))).bind fun o0 => (if o0 = true then (some (2, 0)) else ((if ((a0.toNat : Int) == 24) = true then (some true) else (some ((a0.toNat : Int) == 25))).bind fun o1 => (if o1 = true then (some (1, 1)) else ((if ((a0.toNat : Int) == 2) = true then (some true) else (if ((a0.toNat : Int) == 4) = true then (some true) else (if ((a0.toNat : Int) == 5) = true then (some true) else (if ((a0.toNat : Int) == 21) = true then (some true) else (if ((a0.toNat : Int) == 23) = true then (some true) else (if ((a0.toNat : Int) == 30) = true then (some true) else (if ((a0.toNat : Int) == 31) = true then (some true) else (some ((a0.toNat : Int) == 32))))))))).bind fun o2 => (if o2 = true then (some (1, 0)) else (some (0, 0))))))))
noncomputable def Eh (a0 : UInt8) : Option Int :=
 if decide ((a0.toNat : Int) ≥ 34) = true then (some 0) else ((FN a0).bind fun x26 => some (wr ((wr (1 + x26.1)) + x26.2)))
noncomputable def Hz (a0 : List UInt8) (a1 : Int) (s0 : Int × Int) : Option ((Int × Int) ⊕ Int) :=
 if decide (s0.2 < a1) = true then ((idx a0 s0.2).bind fun x0 => some (.inl (wr ((wr (256 * s0.1)) + (x0.toNat : Int)), wr (s0.2 + 1)))) else (some (.inr s0.1))
noncomputable def Jo (a0 : List UInt8) (a1 : Int) : Option Int :=
 (AQ (Hz a0 a1) (0, 0)).bind fun o0 => (if (a1 == 4) = true then (if decide (o0 > 2147483647) = true then (some (wr (o0 - 4294967296))) else (some o0)) else (some o0))
noncomputable def EO (a0 : List UInt8) (a1 : Int) : Option (AA × Int) :=
 if decide (a1 < 0) = true then (some ((⟨0, 0, 0, 0⟩ : AA), 1)) else (if decide (a1 > (a0.length : Int)) = true then (some ((⟨0, 0, 0, 0⟩ : AA), 1)) else (if (a1 == (a0.length : Int)) = true then (some ((⟨0, 0, 0, 0⟩ : AA), 2)) else ((idx a0 a1).bind fun x0 => (Eh x0).bind fun x1 => if (x1 == 0) = true then (some ((⟨0, 0, 0, 0⟩ : AA), 40)) else (if decide ((wr ((a0.length : Int) - a1)) < x1) = true then (some ((⟨0, 0, 0, 0⟩ : AA), 2)) else ((FN x0).bind fun x2 => (GZ a0 (wr (a1 + 1)) (a0.length : Int)).bind fun x3 => (Jo x3 x2.1).bind fun x4 => (GZ a0 (wr ((wr (a1 + 1)) + x2.1)) (a0.length : Int)).bind fun x5 => (Jo x5 x2.2).bind fun x6 => if ((x0.toNat : Int) == 2) = true then (if decide (x4 > 1) = true then (some ((⟨0, 0, 0, 0⟩ : AA), 5)) else (some ((⟨a1, x0, x4, x6⟩ : AA), 0))) else (some ((⟨a1, x0, x4, x6⟩ : AA), 0)))))))
noncomputable def Et (a0 : AO) (a1 : Int) (a2 : Int) (s0 : Int) : Option (Int ⊕ (Bool ⊕ Unit)) :=
 if decide (s0 < (a0.Taken.length : Int)) = true then ((idx a0.Taken s0).bind fun x0 => if decide (x0 > 0) = true then (if (s0 != a1) = true then ((idx a0.Taken s0).bind fun x1 => if decide (a1 < (wr (s0 + x1))) = true then (if decide (s0 < (wr (a1 + a2))) = true then (some (.inr (.inl true))) else (some (.inl (wr (s0 + 1))))) else (some (.inl (wr (s0 + 1))))) else (some (.inl (wr (s0 + 1))))) else (some (.inl (wr (s0 + 1))))) else (some (.inr (.inr (()))))
noncomputable def Gj (a0 : AO) (a1 : Int) (a2 : Int) : Option Bool :=
 ((AQ (Et a0 a1 a2) 0 : Option (Bool ⊕ Unit))).bind fun o0 => (match o0 with | .inl p0 => (some p0) | .inr p1 => (some false))
noncomputable def Iy (a0 : List A9) (a1 : UInt8) : Option Bool :=
 (Dm a0 a1).bind fun x22 => if x22 = true then (if ((a1.toNat : Int) != 0) = true then (some ((a1.toNat : Int) != 3)) else (some false)) else (some false)
noncomputable def ES (a0 : AD) (x0 : Bq) (s0 : Int) : Option (Int ⊕ (Bool ⊕ Unit)) :=
 if decide (s0 < (x0.B5.length : Int)) = true then ((idx x0.B5 s0).bind fun x1 => (Iy a0.Classes x1).bind fun x2 => if (!x2) = true then (some (.inr (.inl false))) else (some (.inl (wr (s0 + 1))))) else (some (.inr (.inr (()))))
noncomputable def ER (a0 : AD) (s0 : Int) : Option (Int ⊕ (Bool ⊕ Unit)) :=
 if decide (s0 < (a0.AP.length : Int)) = true then ((idx a0.AP s0).bind fun x0 => ((if decide ((x0.B5.length : Int) > 8) = true then (some (.inl false)) else (if ((x0.Result.toNat : Int) != 0) = true then ((Iy a0.Classes x0.Result).bind fun x1 => if (!x1) = true then (some (.inl false)) else (some (.inr ((true, (!x1)))))) else (some (.inr ((false, false))))) : Option (Bool ⊕ (Bool × Bool)))).bind fun o0 => (match o0 with | .inl p0 => (some (.inr (.inl p0))) | .inr p1 => (((AQ (ES a0 x0) 0 : Option (Bool ⊕ Unit))).bind fun o1 => (match o1 with | .inl p2 => (some (.inr (.inl p2))) | .inr p3 => (some (.inl (wr (s0 + 1)))))))) else (some (.inr (.inr (()))))
noncomputable def Ia (a0 : AD) : Option Bool :=
 (ID a0.Classes).bind fun x57 => if (x57.2 != 0) = true then (some false) else (if decide ((a0.AP.length : Int) > 64) = true then (some false) else (if decide (a0.Fn < 0) = true then (some false) else (if decide (a0.Fn ≥ (a0.AP.length : Int)) = true then (some false) else (((AQ (ER a0) 0 : Option (Bool ⊕ Unit))).bind fun o0 => (match o0 with | .inl p0 => (some p0) | .inr p1 => (some true))))))
noncomputable def Gl (a0 : A3) : Option Bool :=
 if decide (a0.Locals ≥ 0) = true then (if decide (a0.Locals ≤ 16) = true then (if decide (a0.Height ≥ 0) = true then (if decide (a0.Height ≤ 24) = true then (some (decide ((wr (a0.Locals + a0.Height)) ≤ 24))) else (some false)) else (some false)) else (some false)) else (some false)
noncomputable def GL (a1 : A3) (s0 : Int) : Option (Int ⊕ (Int ⊕ Unit)) :=
 if decide (s0 < 24) = true then ((idx a1.Slots.toList s0).bind fun x0 => if ((x0.toNat : Int) != 0) = true then (some (.inr (.inl 32))) else (some (.inl (wr (s0 + 1))))) else (some (.inr (.inr (()))))
noncomputable def G9 (a0 : List A9) (a1 : A3) (s0 : Int) : Option (Int ⊕ (Int ⊕ Unit)) :=
 if decide (s0 < (wr (a1.Locals + a1.Height))) = true then ((idx a1.Slots.toList s0).bind fun x0 => (Dm a0 x0).bind fun x1 => if (!x1) = true then (some (.inr (.inl 22))) else (some (.inl (wr (s0 + 1))))) else (some (.inr (.inr (()))))
noncomputable def Fo (a0 : List A9) (a1 : A3) : Option Int :=
 (Gl (⟨a1.Locals, a1.Height, a1.Slots⟩ : A3)).bind fun x52 => if (!x52) = true then (some 32) else (((AQ (GL a1) (wr (a1.Locals + a1.Height)) : Option (Int ⊕ Unit))).bind fun o0 => (match o0 with | .inl p0 => (some p0) | .inr p1 => (((AQ (G9 a0 a1) 0 : Option (Int ⊕ Unit))).bind fun o1 => (match o1 with | .inl p2 => (some p2) | .inr p3 => (some 0)))))
noncomputable def GK (a0 : AD) (a1 : AA) : Option Int :=
 ((if ((a1.Op.toNat : Int) == 21) = true then (if decide (a1.A < 0) = true then (some (.inl 71)) else (if decide (a1.A ≥ (a0.AP.length : Int)) = true then (some (.inl 71)) else (some (.inr (()))))) else ((if ((a1.Op.toNat : Int) == 23) = true then (some true) else (if ((a1.Op.toNat : Int) == 30) = true then (some true) else (if ((a1.Op.toNat : Int) == 31) = true then (some true) else (if ((a1.Op.toNat : Int) == 24) = true then (some true) else (some ((a1.Op.toNat : Int) == 25)))))).bind fun o0 => (if o0 = true then (if decide (a1.A < 0) = true then (some (.inl 72)) else (if decide (a1.A ≥ (a0.Classes.length : Int)) = true then (some (.inl 72)) else (some (.inr (()))))) else (some (.inr (()))))) : Option (Int ⊕ Unit))).bind fun o1 => (match o1 with | .inl p0 => (some p0) | .inr p1 => (if ((a1.Op.toNat : Int) == 24) = true then (if decide (a1.B < 0) = true then (some 72) else ((Dy a0.Classes a1.A).bind fun x0 => if decide (a1.B ≥ (x0.length : Int)) = true then (some 72) else (some 0))) else (if ((a1.Op.toNat : Int) == 25) = true then (if decide (a1.B < 0) = true then (some 72) else ((Dy a0.Classes a1.A).bind fun x1 => if decide (a1.B ≥ (x1.length : Int)) = true then (some 72) else (some 0))) else (some 0))))
noncomputable def Ht (a0 : UInt8) : Option ((List UInt8)) :=
 if ((a0.toNat : Int) == 0) = true then (some ([] : List UInt8)) else (some ([a0] : List UInt8))
noncomputable def Ez (a0 : Int) : Option UInt8 :=
 some (E2 (16 + ((E2 a0).toNat : Int)))
noncomputable def Kp (a0 : AD) (a1 : AA) : Option ((List UInt8)) :=
 if ((a1.Op.toNat : Int) == 5) = true then (some ([(254 : UInt8)] : List UInt8)) else ((if ((a1.Op.toNat : Int) == 6) = true then (some true) else (some ((a1.Op.toNat : Int) == 7))).bind fun o0 => (if o0 = true then (some ([(255 : UInt8)] : List UInt8)) else (if ((a1.Op.toNat : Int) == 8) = true then (some ([(255 : UInt8), (255 : UInt8)] : List UInt8)) else ((if ((a1.Op.toNat : Int) == 9) = true then (some true) else (if ((a1.Op.toNat : Int) == 10) = true then (some true) else (if ((a1.Op.toNat : Int) == 11) = true then (some true) else (if ((a1.Op.toNat : Int) == 12) = true then (some true) else (if ((a1.Op.toNat : Int) == 13) = true then (some true) else (some ((a1.Op.toNat : Int) == 15))))))).bind fun o1 => (if o1 = true then (some ([(1 : UInt8), (1 : UInt8)] : List UInt8)) else ((if ((a1.Op.toNat : Int) == 14) = true then (some true) else (if ((a1.Op.toNat : Int) == 26) = true then (some true) else (some ((a1.Op.toNat : Int) == 33)))).bind fun o2 => (if o2 = true then (some ([(1 : UInt8)] : List UInt8)) else (if ((a1.Op.toNat : Int) == 16) = true then (some ([(255 : UInt8), (255 : UInt8)] : List UInt8)) else ((if ((a1.Op.toNat : Int) == 17) = true then (some true) else (some ((a1.Op.toNat : Int) == 20))).bind fun o3 => (if o3 = true then (some ([(2 : UInt8)] : List UInt8)) else (if ((a1.Op.toNat : Int) == 18) = true then (some ([(253 : UInt8), (253 : UInt8)] : List UInt8)) else (if ((a1.Op.toNat : Int) == 21) = true then ((idx a0.AP a1.A).bind fun x0 => some x0.B5) else (if ((a1.Op.toNat : Int) == 22) = true then ((idx a0.AP a0.Fn).bind fun x1 => (Ht x1.Result).bind fun x2 => some x2) else (if ((a1.Op.toNat : Int) == 24) = true then ((Ez a1.A).bind fun x3 => some ([x3] : List UInt8)) else (if ((a1.Op.toNat : Int) == 25) = true then ((Ez a1.A).bind fun x4 => (Dy a0.Classes a1.A).bind fun x5 => (idx x5 a1.B).bind fun x6 => some ([x4, x6.HH] : List UInt8)) else (if ((a1.Op.toNat : Int) == 27) = true then (some ([(4 : UInt8)] : List UInt8)) else (if ((a1.Op.toNat : Int) == 28) = true then (some ([(4 : UInt8), (1 : UInt8)] : List UInt8)) else (if ((a1.Op.toNat : Int) == 29) = true then (some ([(4 : UInt8), (1 : UInt8), (1 : UInt8)] : List UInt8)) else (if ((a1.Op.toNat : Int) == 30) = true then (some ([(253 : UInt8)] : List UInt8)) else (if ((a1.Op.toNat : Int) == 31) = true then (some ([(253 : UInt8)] : List UInt8)) else (some ([] : List UInt8))))))))))))))))))))))
noncomputable def Fy (a0 : UInt8) : Option Bool :=
 if ((a0.toNat : Int) == 3) = true then (some true) else (if ((a0.toNat : Int) == 4) = true then (some true) else (if ((a0.toNat : Int) == 5) = true then (some true) else (some (decide ((a0.toNat : Int) ≥ 16)))))
noncomputable def I3 (a2 : UInt8) (x0 : (List Int)) (s0 : Int) : Option (Int ⊕ (Bool ⊕ Unit)) :=
 if decide (s0 < (x0.length : Int)) = true then ((idx x0 s0).bind fun x1 => if (x1 == ((E2 ((a2.toNat : Int) - 16)).toNat : Int)) = true then (some (.inr (.inl true))) else (some (.inl (wr (s0 + 1))))) else (some (.inr (.inr (()))))
noncomputable def Ga (a0 : List A9) (a1 : UInt8) (a2 : UInt8) : Option Bool :=
 (Dm a0 a1).bind fun x34 => if (!x34) = true then (some false) else ((Dm a0 a2).bind fun x50 => if (!x50) = true then (some false) else (((if ((a1.toNat : Int) == (a2.toNat : Int)) = true then (some (.inl true)) else (if ((a2.toNat : Int) == 0) = true then (some (.inl true)) else (if ((a1.toNat : Int) == 3) = true then ((Fy a2).bind fun x0 => if x0 = true then (some (.inl true)) else ((Fy a1).bind fun x1 => if x1 = true then (if ((a2.toNat : Int) == 5) = true then (some (.inl true)) else (some (.inr (())))) else (some (.inr (()))))) else ((Fy a1).bind fun x2 => if x2 = true then (if ((a2.toNat : Int) == 5) = true then (some (.inl true)) else (some (.inr (())))) else (some (.inr (())))))) : Option (Bool ⊕ Unit))).bind fun o0 => (match o0 with | .inl p0 => (some p0) | .inr p1 => (if decide ((a1.toNat : Int) < 16) = true then (some false) else (if decide ((a2.toNat : Int) < 16) = true then (some false) else ((Jl a0 ((E2 ((a1.toNat : Int) - 16)).toNat : Int)).bind fun x3 => ((AQ (I3 a2 x3) 0 : Option (Bool ⊕ Unit))).bind fun o1 => (match o1 with | .inl p2 => (some p2) | .inr p3 => (some false))))))))
noncomputable def Kc (a0 : List A9) (a1 : UInt8) (a2 : UInt8) : Option Bool :=
 if ((a2.toNat : Int) == 255) = true then (some true) else (if ((a2.toNat : Int) == 254) = true then (some ((a1.toNat : Int) != 0)) else (if ((a2.toNat : Int) == 253) = true then ((Fy a1).bind fun x72 => some x72) else ((Ga a0 a1 a2).bind fun x94 => some x94)))
noncomputable def Ky (a0 : AD) (a1 : AA) : Option ((List UInt8)) :=
 (if ((a1.Op.toNat : Int) == 1) = true then (some true) else (if ((a1.Op.toNat : Int) == 9) = true then (some true) else (if ((a1.Op.toNat : Int) == 10) = true then (some true) else (if ((a1.Op.toNat : Int) == 11) = true then (some true) else (if ((a1.Op.toNat : Int) == 12) = true then (some true) else (if ((a1.Op.toNat : Int) == 13) = true then (some true) else (if ((a1.Op.toNat : Int) == 14) = true then (some true) else (if ((a1.Op.toNat : Int) == 27) = true then (some true) else (some ((a1.Op.toNat : Int) == 28)))))))))).bind fun o0 => (if o0 = true then (some ([(1 : UInt8)] : List UInt8)) else ((if ((a1.Op.toNat : Int) == 2) = true then (some true) else (if ((a1.Op.toNat : Int) == 15) = true then (some true) else (if ((a1.Op.toNat : Int) == 16) = true then (some true) else (if ((a1.Op.toNat : Int) == 17) = true then (some true) else (if ((a1.Op.toNat : Int) == 18) = true then (some true) else (some ((a1.Op.toNat : Int) == 31))))))).bind fun o1 => (if o1 = true then (some ([(2 : UInt8)] : List UInt8)) else (if ((a1.Op.toNat : Int) == 3) = true then (some ([(3 : UInt8)] : List UInt8)) else (if ((a1.Op.toNat : Int) == 4) = true then (some ([(255 : UInt8)] : List UInt8)) else ((if ((a1.Op.toNat : Int) == 7) = true then (some true) else (some ((a1.Op.toNat : Int) == 8))).bind fun o2 => (if o2 = true then (some ([(255 : UInt8), (255 : UInt8)] : List UInt8)) else (if ((a1.Op.toNat : Int) == 21) = true then ((idx a0.AP a1.A).bind fun x0 => (Ht x0.Result).bind fun x1 => some x1) else ((if ((a1.Op.toNat : Int) == 23) = true then (some true) else (some ((a1.Op.toNat : Int) == 30))).bind fun o3 => (if o3 = true then ((Ez a1.A).bind fun x2 => some ([x2] : List UInt8)) else (if ((a1.Op.toNat : Int) == 24) = true then ((Dy a0.Classes a1.A).bind fun x3 => (idx x3 a1.B).bind fun x4 => (Ht x4.HH).bind fun x5 => some x5) else (if ((a1.Op.toNat : Int) == 26) = true then (some ([(4 : UInt8)] : List UInt8)) else (some ([] : List UInt8))))))))))))))
noncomputable def H6 (s0 : (Vector UInt8 24) × Int) : Option (((Vector UInt8 24) × Int) ⊕ (((Vector UInt8 24)))) :=
 if decide (s0.2 < 24) = true then ((idx s0.1.toList s0.2).bind fun x0 => some (.inl ((H5 s0.1 s0.2 (0 : UInt8)), wr (s0.2 + 1)))) else (some (.inr s0.1))
noncomputable def Jn (a0 : A3) : Option A3 :=
 (AQ (H6) (a0.Slots, wr (a0.Locals + a0.Height))).bind fun o0 => (some (⟨a0.Locals, a0.Height, o0⟩ : A3))
noncomputable def LW (a0 : A3) : Option (A3 × UInt8 × Int) :=
 (Gl (⟨a0.Locals, a0.Height, a0.Slots⟩ : A3)).bind fun x76 => if (!x76) = true then (some ((⟨0, 0, (Vector.replicate 24 (0 : UInt8))⟩ : A3), (0 : UInt8), 32)) else (if (a0.Height == 0) = true then (some ((⟨0, 0, (Vector.replicate 24 (0 : UInt8))⟩ : A3), (0 : UInt8), 30)) else ((idx a0.Slots.toList (wr ((wr (a0.Locals + a0.Height)) - 1))).bind fun x0 => (Jn (⟨a0.Locals, wr (a0.Height - 1), a0.Slots⟩ : A3)).bind fun x1 => some ((⟨x1.Locals, x1.Height, x1.Slots⟩ : A3), x0, 0)))
noncomputable def Lp (a0 : A3) (a1 : UInt8) : Option (A3 × Int) :=
 (Gl (⟨a0.Locals, a0.Height, a0.Slots⟩ : A3)).bind fun x76 => if (!x76) = true then (some ((⟨0, 0, (Vector.replicate 24 (0 : UInt8))⟩ : A3), 32)) else (if ((wr (a0.Locals + a0.Height)) == 24) = true then (some ((⟨0, 0, (Vector.replicate 24 (0 : UInt8))⟩ : A3), 31)) else ((Jn (⟨a0.Locals, a0.Height, a0.Slots⟩ : A3)).bind fun x0 => (idx x0.Slots.toList (wr (a0.Locals + a0.Height))).bind fun x1 => some ((⟨x0.Locals, wr (x0.Height + 1), (H5 x0.Slots (wr (a0.Locals + a0.Height)) a1)⟩ : A3), 0)))
noncomputable def DD (a0 : AD) (a1 : A3) (x89 : (List UInt8)) (s0 : (List UInt8) × Int) : Option (((List UInt8) × Int) ⊕ ((A3 × Int) ⊕ ((List UInt8)))) :=
 if decide (s0.2 < (x89.length : Int)) = true then ((idx x89 s0.2).bind fun x0 => (idx a1.Slots.toList (wr ((wr ((wr (a1.Locals + a1.Height)) - (x89.length : Int))) + s0.2))).bind fun x1 => (Kc a0.Classes x1 x0).bind fun x2 => if (!x2) = true then (some (.inr (.inl ((⟨0, 0, (Vector.replicate 24 (0 : UInt8))⟩ : A3), 70)))) else ((app 140737488355328 s0.1 ([x1] : List UInt8)).bind fun x3 => some (.inl (x3, wr (s0.2 + 1))))) else (some (.inr (.inr (s0.1))))
noncomputable def Jq (x89 : (List UInt8)) (s0 : Int × Int × (Vector UInt8 24) × Int) : Option ((Int × Int × (Vector UInt8 24) × Int) ⊕ ((Int × Int × (Vector UInt8 24)))) :=
 if decide (s0.2.2.2 < (x89.length : Int)) = true then ((LW (⟨s0.1, s0.2.1, s0.2.2.1⟩ : A3)).bind fun x0 => some (.inl (x0.1.Locals, x0.1.Height, x0.1.Slots, wr (s0.2.2.2 + 1)))) else (some (.inr (s0.1, s0.2.1, s0.2.2.1)))
noncomputable def Fq (p0 : (List UInt8)) (s0 : Int × Int × (Vector UInt8 24) × Int) : Option ((Int × Int × (Vector UInt8 24) × Int) ⊕ ((A3 × Int) ⊕ (Int × Int × (Vector UInt8 24)))) :=
 if decide (s0.2.2.2 < (p0.length : Int)) = true then ((idx p0 s0.2.2.2).bind fun x0 => (Lp (⟨s0.1, s0.2.1, s0.2.2.1⟩ : A3) x0).bind fun x1 => if (x1.2 != 0) = true then (some (.inr (.inl ((⟨0, 0, (Vector.replicate 24 (0 : UInt8))⟩ : A3), x1.2)))) else (some (.inl (x1.1.Locals, x1.1.Height, x1.1.Slots, wr (s0.2.2.2 + 1))))) else (some (.inr (.inr ((s0.1, s0.2.1, s0.2.2.1)))))
noncomputable def IF (a0 : AD) (a1 : A3) (a2 : AA) : Option (A3 × Int) :=
 (Kp (⟨a0.Classes, a0.AP, a0.Fn⟩ : AD) (⟨a2.At, a2.Op, a2.A, a2.B⟩ : AA)).bind fun x89 => if decide (a1.Height < (x89.length : Int)) = true then (some ((⟨0, 0, (Vector.replicate 24 (0 : UInt8))⟩ : A3), 30)) else (((AQ (DD a0 a1 x89) ([], 0) : Option ((A3 × Int) ⊕ ((List UInt8))))).bind fun o0 => (match o0 with | .inl p0 => (some p0) | .inr p1 => (((if ((a2.Op.toNat : Int) == 16) = true then ((idx p1 0).bind fun x0 => (idx p1 1).bind fun x1 => if ((x0.toNat : Int) != (x1.toNat : Int)) = true then (some (.inl ((⟨0, 0, (Vector.replicate 24 (0 : UInt8))⟩ : A3), 70))) else ((idx p1 0).bind fun x2 => if ((x2.toNat : Int) != 1) = true then ((idx p1 0).bind fun x3 => if ((x3.toNat : Int) != 2) = true then (some (.inl ((⟨0, 0, (Vector.replicate 24 (0 : UInt8))⟩ : A3), 70))) else (some (.inr (())))) else (some (.inr (()))))) else (some (.inr (()))) : Option ((A3 × Int) ⊕ Unit))).bind fun o1 => (match o1 with | .inl p2 => (some p2) | .inr p3 => ((Ky (⟨a0.Classes, a0.AP, a0.Fn⟩ : AD) (⟨a2.At, a2.Op, a2.A, a2.B⟩ : AA)).bind fun x4 => ((if ((a2.Op.toNat : Int) == 4) = true then ((idx a1.Slots.toList a2.A).bind fun x5 => if ((x5.toNat : Int) == 0) = true then (some (.inl ((⟨0, 0, (Vector.replicate 24 (0 : UInt8))⟩ : A3), 70))) else ((idx a1.Slots.toList a2.A).bind fun x6 => some (.inr (([x6] : List UInt8))))) else (if ((a2.Op.toNat : Int) == 7) = true then ((idx p1 0).bind fun x7 => (idx p1 0).bind fun x8 => some (.inr (([x7, x8] : List UInt8)))) else (if ((a2.Op.toNat : Int) == 8) = true then ((idx p1 1).bind fun x9 => (idx p1 0).bind fun x10 => some (.inr (([x9, x10] : List UInt8)))) else (some (.inr (x4))))) : Option ((A3 × Int) ⊕ ((List UInt8))))).bind fun o2 => (match o2 with | .inl p4 => (some p4) | .inr p5 => ((AQ (Jq x89) (a1.Locals, a1.Height, a1.Slots, 0)).bind fun o3 => (((if ((a2.Op.toNat : Int) == 22) = true then (if decide (o3.2.1 > 0) = true then (some (.inl ((⟨0, 0, (Vector.replicate 24 (0 : UInt8))⟩ : A3), 73))) else (some (.inr (())))) else (some (.inr (()))) : Option ((A3 × Int) ⊕ Unit))).bind fun o4 => (match o4 with | .inl p6 => (some p6) | .inr p7 => ((if ((a2.Op.toNat : Int) == 5) = true then ((idx p1 0).bind fun x11 => (idx o3.2.2.toList a2.A).bind fun x12 => some (H5 o3.2.2 a2.A x11)) else (some o3.2.2)).bind fun o5 => (((AQ (Fq p5) (o3.1, o3.2.1, o5, 0) : Option ((A3 × Int) ⊕ (Int × Int × (Vector UInt8 24))))).bind fun o6 => (match o6 with | .inl p8 => (some p8) | .inr p9 => (some ((⟨p9.1, p9.2.1, p9.2.2⟩ : A3), 0))))))))))))))
noncomputable def Kw (a0 : AD) (a1 : A3) (a2 : AA) : Option (A3 × Int) :=
 (Ia (⟨a0.Classes, a0.AP, a0.Fn⟩ : AD)).bind fun x0 => if (!x0) = true then (some ((⟨0, 0, (Vector.replicate 24 (0 : UInt8))⟩ : A3), 1)) else ((Fo a0.Classes (⟨a1.Locals, a1.Height, a1.Slots⟩ : A3)).bind fun x1 => if (x1 != 0) = true then (some ((⟨0, 0, (Vector.replicate 24 (0 : UInt8))⟩ : A3), x1)) else ((Eh a2.Op).bind fun x2 => if (x2 == 0) = true then (some ((⟨0, 0, (Vector.replicate 24 (0 : UInt8))⟩ : A3), 40)) else ((if ((a2.Op.toNat : Int) == 4) = true then (some true) else (some ((a2.Op.toNat : Int) == 5))).bind fun o0 => (if o0 = true then (if decide (a2.A < 0) = true then (some ((⟨0, 0, (Vector.replicate 24 (0 : UInt8))⟩ : A3), 33)) else (if decide (a2.A ≥ a1.Locals) = true then (some ((⟨0, 0, (Vector.replicate 24 (0 : UInt8))⟩ : A3), 33)) else ((GK (⟨a0.Classes, a0.AP, a0.Fn⟩ : AD) (⟨a2.At, a2.Op, a2.A, a2.B⟩ : AA)).bind fun x3 => if (x3 != 0) = true then (some ((⟨0, 0, (Vector.replicate 24 (0 : UInt8))⟩ : A3), x3)) else ((IF (⟨a0.Classes, a0.AP, a0.Fn⟩ : AD) (⟨a1.Locals, a1.Height, a1.Slots⟩ : A3) (⟨a2.At, a2.Op, a2.A, a2.B⟩ : AA)).bind fun x4 => some ((⟨x4.1.Locals, x4.1.Height, x4.1.Slots⟩ : A3), x4.2))))) else ((GK (⟨a0.Classes, a0.AP, a0.Fn⟩ : AD) (⟨a2.At, a2.Op, a2.A, a2.B⟩ : AA)).bind fun x5 => if (x5 != 0) = true then (some ((⟨0, 0, (Vector.replicate 24 (0 : UInt8))⟩ : A3), x5)) else ((IF (⟨a0.Classes, a0.AP, a0.Fn⟩ : AD) (⟨a1.Locals, a1.Height, a1.Slots⟩ : A3) (⟨a2.At, a2.Op, a2.A, a2.B⟩ : AA)).bind fun x6 => some ((⟨x6.1.Locals, x6.1.Height, x6.1.Slots⟩ : A3), x6.2)))))))
noncomputable def NG (a0 : UInt8) : Option Bool :=
 if ((a0.toNat : Int) == 19) = true then (some true) else (some ((a0.toNat : Int) == 20))
noncomputable def NV (a0 : UInt8) : Option Bool :=
 if ((a0.toNat : Int) == 19) = true then (some true) else (if ((a0.toNat : Int) == 22) = true then (some true) else (some ((a0.toNat : Int) == 32)))
noncomputable def MA (a0 : AA) (a1 : Int) : Option ((List Int) × Int) :=
 (Eh a0.Op).bind fun x21 => (NG a0.Op).bind fun x39 => (NV a0.Op).bind fun x63 => ((if x39 = true then (if decide (a0.A ≥ a1) = true then (some (.inl (([] : List Int), 50))) else (some (.inr (())))) else (some (.inr (()))) : Option (((List Int) × Int) ⊕ Unit))).bind fun o0 => (match o0 with | .inl p0 => (some p0) | .inr p1 => (((if (!x63) = true then (if ((wr (a0.At + x21)) == a1) = true then (some (.inl (([] : List Int), 51))) else (some (.inr (())))) else (some (.inr (()))) : Option (((List Int) × Int) ⊕ Unit))).bind fun o1 => (match o1 with | .inl p2 => (some p2) | .inr p3 => ((if x39 = true then (if (!(!x63)) = true then ((app 17592186044416 ([] : List Int) ([a0.A] : List Int)).bind fun x0 => some x0) else (if decide (a0.A < (wr (a0.At + x21))) = true then ((app 17592186044416 ([] : List Int) ([a0.A] : List Int)).bind fun x1 => some x1) else (some []))) else (some [])).bind fun o2 => (if (!x63) = true then ((app 17592186044416 o2 ([wr (a0.At + x21)] : List Int)).bind fun x2 => if x39 = true then (if decide (a0.A > (wr (a0.At + x21))) = true then ((app 17592186044416 x2 ([a0.A] : List Int)).bind fun x3 => some (x3, 0)) else (some (x2, 0))) else (some (x2, 0))) else (if x39 = true then (some (o2, 0)) else (some (o2, 0))))))))
noncomputable def I4 (a0 : List A9) (s0 : (List UInt8) × Int) : Option (((List UInt8) × Int) ⊕ (((List UInt8)))) :=
 if decide (s0.2 < 256) = true then ((Dm a0 (E2 s0.2)).bind fun x0 => if x0 = true then ((app 140737488355328 s0.1 ([E2 s0.2] : List UInt8)).bind fun x1 => some (.inl (x1, wr (s0.2 + 1)))) else (some (.inl (s0.1, wr (s0.2 + 1))))) else (some (.inr s0.1))
noncomputable def LQ (a0 : List A9) : Option ((List UInt8)) :=
 (AQ (I4 a0) ([], 0)).bind fun o0 => (some o0)
noncomputable def Gz (a0 : List A9) (a1 : UInt8) (a2 : UInt8) (x18 : (List UInt8)) (s0 : UInt8 × Int) : Option ((UInt8 × Int) ⊕ UInt8) :=
 if decide (s0.2 < (x18.length : Int)) = true then ((idx x18 s0.2).bind fun x0 => (Ga a0 a1 x0).bind fun x1 => if x1 = true then ((Ga a0 a2 x0).bind fun x2 => if x2 = true then ((Ga a0 x0 s0.1).bind fun x3 => if x3 = true then (some (.inl (x0, wr (s0.2 + 1)))) else (some (.inl (s0.1, wr (s0.2 + 1))))) else (some (.inl (s0.1, wr (s0.2 + 1))))) else (some (.inl (s0.1, wr (s0.2 + 1))))) else (some (.inr s0.1))
noncomputable def K7 (a0 : List A9) (a1 : UInt8) (a2 : UInt8) : Option UInt8 :=
 (LQ a0).bind fun x18 => (AQ (Gz a0 a1 a2 x18) (0, 0)).bind fun o0 => (some o0)
noncomputable def Jw (a0 : List A9) (a1 : A3) (a2 : A3) (s0 : (Vector UInt8 24) × Int) : Option (((Vector UInt8 24) × Int) ⊕ (((Vector UInt8 24)))) :=
 if decide (s0.2 < (wr (a1.Locals + a1.Height))) = true then ((idx s0.1.toList s0.2).bind fun x0 => (idx a2.Slots.toList s0.2).bind fun x1 => (K7 a0 x0 x1).bind fun x2 => (idx s0.1.toList s0.2).bind fun x3 => some (.inl ((H5 s0.1 s0.2 x2), wr (s0.2 + 1)))) else (some (.inr s0.1))
noncomputable def KA (a0 : List A9) (a1 : A3) (a2 : A3) : Option (A3 × Int) :=
 (Fo a0 (⟨a1.Locals, a1.Height, a1.Slots⟩ : A3)).bind fun x95 => if (x95 != 0) = true then (some ((⟨0, 0, (Vector.replicate 24 (0 : UInt8))⟩ : A3), x95)) else ((Fo a0 (⟨a2.Locals, a2.Height, a2.Slots⟩ : A3)).bind fun x0 => if (x0 != 0) = true then (some ((⟨0, 0, (Vector.replicate 24 (0 : UInt8))⟩ : A3), x0)) else (if (a1.Locals != a2.Locals) = true then (some ((⟨0, 0, (Vector.replicate 24 (0 : UInt8))⟩ : A3), 32)) else (if (a1.Height != a2.Height) = true then (some ((⟨0, 0, (Vector.replicate 24 (0 : UInt8))⟩ : A3), 32)) else ((AQ (Jw a0 a1 a2) (a1.Slots, 0)).bind fun o0 => (some ((⟨a1.Locals, a1.Height, o0⟩ : A3), 0))))))
noncomputable def I8 (a0 : AO) (a1 : List A9) (a2 : Int) (a3 : A3) : Option (Int × AO) :=
 (idx a0.Has a2).bind fun x0 => if (!x0) = true then ((idx a0.Has a2).bind fun x1 => (idx a0.Frame a2).bind fun x2 => (idx a0.CS a2).bind fun x3 => some (0, (⟨(a0.Has.set a2.toNat true), (a0.Frame.set a2.toNat (⟨a3.Locals, a3.Height, a3.Slots⟩ : A3)), (a0.CS.set a2.toNat true), a0.Taken⟩ : AO))) else ((idx a0.Frame a2).bind fun x4 => (KA a1 x4 (⟨a3.Locals, a3.Height, a3.Slots⟩ : A3)).bind fun x5 => if (x5.2 != 0) = true then (some (x5.2, (⟨a0.Has, a0.Frame, a0.CS, a0.Taken⟩ : AO))) else ((idx a0.Frame a2).bind fun x6 => if (!((x5.1.Locals == x6.Locals) && ((x5.1.Height == x6.Height) && ((x5.1.Slots == x6.Slots) && true)))) = true then ((idx a0.Frame a2).bind fun x7 => (idx a0.CS a2).bind fun x8 => some (0, (⟨a0.Has, (a0.Frame.set a2.toNat (⟨x5.1.Locals, x5.1.Height, x5.1.Slots⟩ : A3)), (a0.CS.set a2.toNat true), a0.Taken⟩ : AO))) else (some (0, (⟨a0.Has, a0.Frame, a0.CS, a0.Taken⟩ : AO)))))
noncomputable def DN (a1 : AD) (x0 : A3 × Int) (x1 : (List Int) × Int) (s0 : (List Int) × (List Bool) × (List Bool) × (List A3) × Int) : Option (((List Int) × (List Bool) × (List Bool) × (List A3) × Int) ⊕ ((Int × Int × AO) ⊕ ((List Int) × (List Bool) × (List Bool) × (List A3)))) :=
 if decide (s0.2.2.2.2 < (x1.1.length : Int)) = true then ((idx x1.1 s0.2.2.2.2).bind fun x2 => (I8 (⟨s0.2.2.1, s0.2.2.2.1, s0.2.1, s0.1⟩ : AO) a1.Classes x2 (⟨x0.1.Locals, x0.1.Height, x0.1.Slots⟩ : A3)).bind fun x3 => if (x3.1 != 0) = true then ((idx x1.1 s0.2.2.2.2).bind fun x4 => some (.inr (.inl (x4, x3.1, (⟨x3.2.Has, x3.2.Frame, x3.2.CS, x3.2.Taken⟩ : AO))))) else (some (.inl (x3.2.Taken, x3.2.CS, x3.2.Has, x3.2.Frame, wr (s0.2.2.2.2 + 1))))) else (some (.inr (.inr ((s0.1, s0.2.1, s0.2.2.1, s0.2.2.2.1)))))
noncomputable def Ir (a0 : AO) (a1 : AD) (a2 : List UInt8) (a3 : Int) : Option (Int × Int × AO) :=
 (idx a0.CS a3).bind fun x40 => if (a3 == (a2.length : Int)) = true then (some (a3, 51, (⟨a0.Has, a0.Frame, (a0.CS.set a3.toNat false), a0.Taken⟩ : AO))) else ((EO a2 a3).bind fun x96 => if (x96.2 != 0) = true then (some (a3, x96.2, (⟨a0.Has, a0.Frame, (a0.CS.set a3.toNat false), a0.Taken⟩ : AO))) else ((Eh x96.1.Op).bind fun x0 => (Gj (⟨a0.Has, a0.Frame, (a0.CS.set a3.toNat false), a0.Taken⟩ : AO) a3 x0).bind fun x1 => if x1 = true then (some (a3, 80, (⟨a0.Has, a0.Frame, (a0.CS.set a3.toNat false), a0.Taken⟩ : AO))) else ((idx a0.Taken a3).bind fun x2 => (idx a0.Frame a3).bind fun x3 => (Kw (⟨a1.Classes, a1.AP, a1.Fn⟩ : AD) x3 (⟨x96.1.At, x96.1.Op, x96.1.A, x96.1.B⟩ : AA)).bind fun x4 => if (x4.2 != 0) = true then (some (a3, x4.2, (⟨a0.Has, a0.Frame, (a0.CS.set a3.toNat false), (a0.Taken.set a3.toNat x0)⟩ : AO))) else ((MA (⟨x96.1.At, x96.1.Op, x96.1.A, x96.1.B⟩ : AA) (a2.length : Int)).bind fun x5 => if (x5.2 != 0) = true then (some (a3, x5.2, (⟨a0.Has, a0.Frame, (a0.CS.set a3.toNat false), (a0.Taken.set a3.toNat x0)⟩ : AO))) else (((AQ (DN a1 x4 x5) ((a0.Taken.set a3.toNat x0), (a0.CS.set a3.toNat false), a0.Has, a0.Frame, 0) : Option ((Int × Int × AO) ⊕ ((List Int) × (List Bool) × (List Bool) × (List A3))))).bind fun o0 => (match o0 with | .inl p0 => (some p0) | .inr p1 => (some (0, 0, (⟨p1.2.2.1, p1.2.2.2, p1.2.1, p1.1⟩ : AO)))))))))
noncomputable def EH (a0 : AO) (s0 : Int) : Option (Int ⊕ (Int ⊕ Unit)) :=
 if decide (s0 < (a0.CS.length : Int)) = true then ((idx a0.CS s0).bind fun x0 => if x0 = true then (some (.inr (.inl s0))) else (some (.inl (wr (s0 + 1))))) else (some (.inr (.inr (()))))
noncomputable def HZ (a0 : AO) : Option Int :=
 ((AQ (EH a0) 0 : Option (Int ⊕ Unit))).bind fun o0 => (match o0 with | .inl p0 => (some p0) | .inr p1 => (some (-1)))
noncomputable def Fu (a0 : AD) (a2 : List UInt8) (s0 : (List Bool) × (List A3) × (List Bool) × (List Int) × Int) : Option (((List Bool) × (List A3) × (List Bool) × (List Int) × Int) ⊕ (((List B0) × Int × Int) ⊕ ((List Bool) × (List A3) × (List Bool) × (List Int)))) :=
 if decide (s0.2.2.2.2 ≥ 0) = true then ((Ir (⟨s0.1, s0.2.1, s0.2.2.1, s0.2.2.2.1⟩ : AO) (⟨a0.Classes, a0.AP, a0.Fn⟩ : AD) a2 s0.2.2.2.2).bind fun x0 => if (x0.2.1 != 0) = true then (some (.inr (.inl (([] : List B0), x0.1, x0.2.1)))) else ((HZ (⟨x0.2.2.Has, x0.2.2.Frame, x0.2.2.CS, x0.2.2.Taken⟩ : AO)).bind fun x1 => some (.inl (x0.2.2.Has, x0.2.2.Frame, x0.2.2.CS, x0.2.2.Taken, x1)))) else (some (.inr (.inr ((s0.1, s0.2.1, s0.2.2.1, s0.2.2.2.1)))))
noncomputable def G8 (a2 : List UInt8) (p0 : (List Bool) × (List A3) × (List Bool) × (List Int)) (s0 : (List B0) × Int) : Option (((List B0) × Int) ⊕ (((List B0)))) :=
 if decide (s0.2 < (a2.length : Int)) = true then ((idx p0.1 s0.2).bind fun x0 => if x0 = true then ((idx p0.2.1 s0.2).bind fun x1 => (app 2513169434916 s0.1 ([(⟨s0.2, false, (⟨x1.Locals, x1.Height, x1.Slots⟩ : A3)⟩ : B0)] : List B0)).bind fun x2 => some (.inl (x2, wr (s0.2 + 1)))) else (some (.inl (s0.1, wr (s0.2 + 1))))) else (some (.inr s0.1))
noncomputable def K3 (a0 : AD) (a1 : Int) (a2 : List UInt8) : Option ((List B0) × Int × Int) :=
 (Du (⟨a0.Classes, a0.AP, a0.Fn⟩ : AD) a1).bind fun x27 => if (x27 != 0) = true then (some (([] : List B0), 0, x27)) else (if decide ((a2.length : Int) > 4096) = true then (some (([] : List B0), 0, 4)) else ((Jj 1 (wr ((a2.length : Int) + 1)) false).bind fun x0 => (Jj 40 (wr ((a2.length : Int) + 1)) (⟨(0 : Int), (0 : Int), (Vector.replicate 24 (0 : UInt8))⟩ : A3)).bind fun x1 => (Jj 1 (wr ((a2.length : Int) + 1)) false).bind fun x2 => (Jj 8 (wr ((a2.length : Int) + 1)) (0 : Int)).bind fun x3 => (idx a0.AP a0.Fn).bind fun x4 => (CZ a0.Classes x4.B5 a1).bind fun x5 => (idx x0 0).bind fun x6 => (idx x1 0).bind fun x7 => (idx x2 0).bind fun x8 => ((AQ (Fu a0 a2) ((x0.set ((0 : Int).toNat) true), (x1.set ((0 : Int).toNat) (⟨x5.1.Locals, x5.1.Height, x5.1.Slots⟩ : A3)), (x2.set ((0 : Int).toNat) true), x3, 0) : Option (((List B0) × Int × Int) ⊕ ((List Bool) × (List A3) × (List Bool) × (List Int))))).bind fun o0 => (match o0 with | .inl p0 => (some p0) | .inr p1 => ((AQ (G8 a2 p1) ([], 0)).bind fun o1 => (some (o1, 0, 0))))))
noncomputable def FW (x0 : Df) (x1 : (List B0) × Int × Int) (s0 : (List AA) × Int × Int) : Option (((List AA) × Int × Int) ⊕ (((List AA) × Int))) :=
 if decide (s0.2.2 < (x1.1.length : Int)) = true then ((idx x1.1 s0.2.2).bind fun x2 => (EO x0.Code x2.At).bind fun x3 => (app 4398046511104 s0.1 ([(⟨x3.1.At, x3.1.Op, x3.1.A, x3.1.B⟩ : AA)] : List AA)).bind fun x4 => (idx x1.1 s0.2.2).bind fun x5 => if decide (x5.Frame.Height > s0.2.1) = true then ((idx x1.1 s0.2.2).bind fun x6 => some (.inl (x4, x6.Frame.Height, wr (s0.2.2 + 1)))) else (some (.inl (x4, s0.2.1, wr (s0.2.2 + 1))))) else (some (.inr (s0.1, s0.2.1)))
noncomputable def MD (a0 : AH) (a1 : Int) : Option ((List AA) × Int × Int × Int) :=
 (LR (⟨a0.Name, a0.Classes, a0.Funcs, a0.Ec⟩ : AH) a1).bind fun x44 => if (!x44.2) = true then (some (([] : List AA), 0, 0, 1)) else ((idx a0.Funcs a1).bind fun x0 => (K3 (⟨x44.1.Classes, x44.1.AP, x44.1.Fn⟩ : AD) x0.Locals x0.Code).bind fun x1 => if (x1.2.2 != 0) = true then (some (([] : List AA), 0, x1.2.1, x1.2.2)) else ((AQ (FW x0 x1) ([], 0, 0)).bind fun o0 => (some (o0.1, o0.2, 0, 0))))
noncomputable def L8 (a0 : AH) (a1 : Int) : Option ((List Int) × Int × Int) :=
 (E9 (⟨a0.Name, a0.Classes, a0.Funcs, a0.Ec⟩ : AH) a1).bind fun x29 => if (x29.2.2 != 0) = true then (some (([] : List Int), x29.2.1, x29.2.2)) else ((x29.1).bind fun x82 => ((Fj (⟨x82.l, x82.AX⟩ : AK)).bind fun x90 => some (x90, 0, 0)))
noncomputable def Lv (a0 : AA) : Option Bool :=
 if decide (a0.At ≥ 0) = true then (some (decide (a0.At < 4096))) else (some false)
noncomputable def Gm (a0 : AA) : Option ((List Int)) :=
 (Gk a0.Op).bind fun x48 => if (x48 == 0) = true then (some ([] : List Int)) else ((Lv (⟨a0.At, a0.Op, a0.A, a0.B⟩ : AA)).bind fun x67 => if (!x67) = true then (some ([] : List Int)) else ((Mf a0.Op).bind fun x0 => if (!x0) = true then ((Gk a0.Op).bind fun x1 => (JE a0.Op).bind fun x2 => if x2 = true then ((EJ (C7 (C7 ([] : List (Int × Int)) (wr (a0.At + x1)) 1) a0.A 1)).bind fun x3 => some x3) else ((EJ (C7 ([] : List (Int × Int)) (wr (a0.At + x1)) 1)).bind fun x4 => some x4)) else ((JE a0.Op).bind fun x5 => if x5 = true then ((EJ (C7 ([] : List (Int × Int)) a0.A 1)).bind fun x6 => some x6) else ((EJ ([] : List (Int × Int))).bind fun x7 => some x7))))
noncomputable def HA (a0 : AA) (a1 : Int) : Option Bool :=
 some (a0.At == a1)
noncomputable def Bt (a0 : List AA) (a1 : Int) (s0 : Int) : Option (Int ⊕ (Int ⊕ Unit)) :=
 if decide (s0 < (a0.length : Int)) = true then ((idx a0 s0).bind fun x0 => (HA x0 a1).bind fun x1 => if x1 = true then (some (.inr (.inl s0))) else (some (.inl (wr (s0 + 1))))) else (some (.inr (.inr (()))))
noncomputable def Ct (a0 : List AA) (a1 : Int) : Option Int :=
 ((AQ (Bt a0 a1) 0 : Option (Int ⊕ Unit))).bind fun o0 => (match o0 with | .inl p0 => (some p0) | .inr p1 => (some (-1)))
noncomputable def Dc (a0 : AK) (a1 : Int) : Option Int :=
 (Ct a0.l a1).bind fun x34 => some x34
noncomputable def Em (a0 : AK) (x0 : (List Int)) (s0 : (List Int) × Int) : Option (((List Int) × Int) ⊕ (((List Int)))) :=
 if decide (s0.2 < (x0.length : Int)) = true then ((idx x0 s0.2).bind fun x1 => (Dc (⟨a0.l, a0.AX⟩ : AK) x1).bind fun x2 => (idx s0.1 x2).bind fun x3 => (idx s0.1 x2).bind fun x4 => some (.inl ((s0.1.set x2.toNat (wr (x3 + 1))), wr (s0.2 + 1)))) else (some (.inr s0.1))
noncomputable def Ep (a0 : AK) (s0 : (List Int) × Int) : Option (((List Int) × Int) ⊕ (((List Int)))) :=
 if decide (s0.2 < (a0.l.length : Int)) = true then ((idx a0.l s0.2).bind fun x0 => (Gm (⟨x0.At, x0.Op, x0.A, x0.B⟩ : AA)).bind fun x1 => (AQ (Em a0 x1) (s0.1, 0)).bind fun o0 => (some (.inl (o0, wr (s0.2 + 1))))) else (some (.inr s0.1))
noncomputable def EP (o0 : ((List Int))) (s0 : (List Int) × Int) : Option (((List Int) × Int) ⊕ (((List Int)))) :=
 if decide (s0.2 < (o0.length : Int)) = true then ((idx o0 s0.2).bind fun x0 => if (x0 == 0) = true then ((app 17592186044416 s0.1 ([s0.2] : List Int)).bind fun x1 => some (.inl (x1, wr (s0.2 + 1)))) else (some (.inl (s0.1, wr (s0.2 + 1))))) else (some (.inr s0.1))
noncomputable def Ek (a0 : AK) (x0 : (List Int)) (s0 : (List Int) × (List Int) × Int) : Option (((List Int) × (List Int) × Int) ⊕ (((List Int) × (List Int)))) :=
 if decide (s0.2.2 < (x0.length : Int)) = true then ((idx x0 s0.2.2).bind fun x1 => (Dc (⟨a0.l, a0.AX⟩ : AK) x1).bind fun x2 => (idx s0.1 x2).bind fun x3 => (idx s0.1 x2).bind fun x4 => (idx (s0.1.set x2.toNat (wr (x3 - 1))) x2).bind fun x5 => if (x5 == 0) = true then ((app 17592186044416 s0.2.1 ([x2] : List Int)).bind fun x6 => some (.inl ((s0.1.set x2.toNat (wr (x3 - 1))), x6, wr (s0.2.2 + 1)))) else (some (.inl ((s0.1.set x2.toNat (wr (x3 - 1))), s0.2.1, wr (s0.2.2 + 1))))) else (some (.inr (s0.1, s0.2.1)))
noncomputable def Dz (a0 : AK) (s0 : (List Int) × Int × (List Int)) : Option (((List Int) × Int × (List Int)) ⊕ Int) :=
 if decide ((s0.2.2.length : Int) > 0) = true then ((idx s0.2.2 (wr ((s0.2.2.length : Int) - 1))).bind fun x0 => (GZ s0.2.2 0 (wr ((s0.2.2.length : Int) - 1))).bind fun x1 => (idx a0.l x0).bind fun x2 => (Gm x2).bind fun x3 => (AQ (Ek a0 x3) (s0.1, x1, 0)).bind fun o0 => (some (.inl (o0.1, wr (s0.2.1 + 1), o0.2)))) else (some (.inr s0.2.1))
noncomputable def Ex (a0 : AK) : Option Bool :=
 (Jj 8 (a0.l.length : Int) (0 : Int)).bind fun x15 => (AQ (Ep a0) (x15, 0)).bind fun o0 => ((AQ (EP o0) ([], 0)).bind fun o1 => ((AQ (Dz a0) (o0, 0, o1)).bind fun o2 => (some (decide (o2 < (a0.l.length : Int))))))
noncomputable def JU (a0 : BM) (a1 : Int) : Option Int :=
 if (!a0.Is) = true then (some (wr (a1 + 1))) else (some a0.Most)
noncomputable def Oz (a0 : Int) (a1 : Int) : Option BM :=
 if decide (a0 > a1) = true then (some (⟨0, false⟩ : BM)) else (some (⟨a0, true⟩ : BM))
noncomputable def LO (a0 : AA) : Option Bool :=
 some ((a0.Op.toNat : Int) == 26)
noncomputable def B7 (a0 : List AA) (s0 : Int) : Option (Int ⊕ (Int ⊕ Unit)) :=
 if decide (s0 < (a0.length : Int)) = true then ((idx a0 s0).bind fun x0 => (LO x0).bind fun x1 => if x1 = true then (some (.inr (.inl s0))) else (some (.inl (wr (s0 + 1))))) else (some (.inr (.inr (()))))
noncomputable def C4 (a0 : List AA) : Option Int :=
 ((AQ (B7 a0) 0 : Option (Int ⊕ Unit))).bind fun o0 => (match o0 with | .inl p0 => (some p0) | .inr p1 => (some (-1)))
noncomputable def Cv (a0 : List AA) : Option Bool :=
 (C4 a0).bind fun x14 => some (decide (x14 ≥ 0))
noncomputable def Je (a0 : AK) : Option Bool :=
 (Cv a0.l).bind fun x15 => some x15
noncomputable def DC (a0 : Bh) (x0 : (List Int)) (s0 : Int) : Option (Int ⊕ (Bool ⊕ Unit)) :=
 if decide (s0 < (x0.length : Int)) = true then ((idx x0 s0).bind fun x1 => (idx a0.calls x1).bind fun x2 => (E4 a0.calls x2).bind fun x3 => (EB x3 x1).bind fun x4 => if x4 = true then (some (.inr (.inl true))) else (some (.inl (wr (s0 + 1))))) else (some (.inr (.inr (()))))
noncomputable def Gu (a0 : Bh) (a1 : Int) : Option Bool :=
 (E4 a0.calls ([a1] : List Int)).bind fun x0 => ((AQ (DC a0 x0) 0 : Option (Bool ⊕ Unit))).bind fun o0 => (match o0 with | .inl p0 => (some p0) | .inr p1 => (some false))
noncomputable def B9 (a0 : Bh) (x0 : (List Int)) (s0 : Int) : Option (Int ⊕ (Bool ⊕ Unit)) :=
 if decide (s0 < (x0.length : Int)) = true then ((idx x0 s0).bind fun x1 => (idx a0.bodies x1).bind fun x2 => (x2).bind fun p0 => (Ex (⟨p0.2.l, p0.2.AX⟩ : AK)).bind fun x3 => if x3 = true then (some (.inr (.inl false))) else (some (.inl (wr (s0 + 1))))) else (some (.inr (.inr (()))))
noncomputable def Da (a0 : Bh) (a1 : Int) : Option Bool :=
 (E4 a0.calls ([a1] : List Int)).bind fun x0 => ((AQ (B9 a0 x0) 0 : Option (Bool ⊕ Unit))).bind fun o0 => (match o0 with | .inl p0 => (some p0) | .inr p1 => (some true))
noncomputable def BK (a0 : Bh) (x0 : (List Int)) (s0 : Int) : Option (Int ⊕ (Bool ⊕ Unit)) :=
 if decide (s0 < (x0.length : Int)) = true then ((idx x0 s0).bind fun x1 => (idx a0.bodies x1).bind fun x2 => (x2).bind fun p0 => (Je (⟨p0.2.l, p0.2.AX⟩ : AK)).bind fun x3 => if x3 = true then (some (.inr (.inl false))) else (some (.inl (wr (s0 + 1))))) else (some (.inr (.inr (()))))
noncomputable def DF (a0 : Bh) (a1 : Int) : Option Bool :=
 (E4 a0.calls ([a1] : List Int)).bind fun x0 => ((AQ (BK a0 x0) 0 : Option (Bool ⊕ Unit))).bind fun o0 => (match o0 with | .inl p0 => (some p0) | .inr p1 => (some true))
structure RK where
 Classes : List A9
 Funcs : List Df
 bodies : List (Option AK)
 calls : List (List Int)
def RK.r (R : RK) : Bh := ⟨⟨[], R.Classes, R.Funcs, []⟩, R.bodies.map (Option.map fun b => (0, b)), R.calls, [], []⟩
noncomputable def VN (R : RK) (fn : Int) : Option Bool := Gu R.r fn
noncomputable def Nh (R : RK) (fn : Int) : Option Bool := Da R.r fn
noncomputable def MO (R : RK) (fn : Int) : Option Bool := DF R.r fn
def NN (n : Nat) : Option Unit := if n ≤ 1000000000 then some () else none
noncomputable def Fg (b : AK) (f : Int → Option Int) : List Int → Int → Option Int
 | [], s => some s
 | t :: r, s => (Dc b t).bind fun j => (f j).bind fun v => Fg b f r (max s v)
noncomputable def CV (b : AK) (limit : Int) (cost : AA → Option Int) : Nat → Int → Option Int
 | 0, _ => none
 | n + 1, i => (idx b.l i).bind fun p => (Gm p).bind fun ts => (NN ts.length).bind fun _ => (Fg b (CV b limit cost n) ts 0).bind fun s => (cost p).bind fun c => some (min (wr (limit + 1)) (wr (s + c)))
noncomputable def Hq (R : RK) (fn limit : Int) (cost : AA → Option Int) : Option BM :=
 (idx R.bodies fn).bind fun ob => ob.bind fun b => (Jj 8 (b.l.length : Int) (0 : Int)).bind fun _ => (CV b limit cost (b.l.length + 1) 0).bind fun n => Oz n limit
def Fl (f : Int → Option AU) : List Int → Int × Int → Option (Int × Int)
 | [], s => some s
 | x :: r, s => (f x).bind fun b => Fl f r (max s.1 b.CQ.Most, max s.2 b.Slots.Most)
noncomputable def Im (f : Int → Option AU) (p : AA) : Option Int :=
 if p.Op = 21 then (f p.A).bind fun x => (JU x.Steps 1048576).bind fun v => some (wr (1 + v)) else some 1
noncomputable def Hb (R : RK) (f : Int → Option AU) (p : AA) : Option Int :=
 if p.Op = 21 then (f p.A).bind fun x => JU x.Cells 4096
 else if p.Op = 23 then (EY R.Classes p.A).bind fun l => some (wr (1 + (l.length : Int)))
 else some 0
noncomputable def Dw (R : RK) : Nat → Int → Option AU
 | 0, _ => none
 | n + 1, fn => (idx R.calls fn).bind fun cl => (NN cl.length).bind fun _ => (Fl (Dw R n) cl (0, 0)).bind fun d =>
  (idx R.Funcs fn).bind fun fu => (idx R.bodies fn).bind fun ob => ob.bind fun b =>
  (Nh R fn).bind fun fl =>
  (if fl = true then Hq R fn 1048576 (Im (Dw R n)) else some ⟨0, false⟩).bind fun st =>
  (if fl = true then (MO R fn).bind fun fm => if fm = true then Hq R fn 4096 (Hb R (Dw R n)) else some ⟨0, false⟩ else some ⟨0, false⟩).bind fun ce =>
  some ⟨⟨wr (d.1 + 1), true⟩, ⟨wr (wr (fu.Locals + b.AX) + d.2), true⟩, st, ce⟩
structure WR where
 opn : List Int
 met : List Bool
 bodies : List (Option AK)
 calls : List (List Int)
 bad : Int
 why : Int
noncomputable def DJ (a0 : AH) (s : WR) : Option (WR ⊕ WR) :=
 match s.opn with
 | [] => some (.inr s)
 | x :: r => (idx s.met x).bind fun m => if m = true then some (.inl { s with opn := r }) else (E9 a0 x).bind fun q =>
  if q.2.2 ≠ 0 then (if s.bad < 0 ∨ x < s.bad then some (.inl { s with opn := r, met := s.met.set x.toNat true, bad := x, why := q.2.2 }) else some (.inl { s with opn := r, met := s.met.set x.toNat true }))
  else q.1.bind fun b => (Fj b).bind fun c => (app 17592186044416 r c).bind fun o => some (.inl { s with opn := o, met := s.met.set x.toNat true, bodies := s.bodies.set x.toNat (some b), calls := s.calls.set x.toNat c })
noncomputable def Ik (a0 : AH) (a1 : Int) : Option (AU × Int × Int) :=
 if a1 < 0 ∨ (a0.Funcs.length : Int) ≤ a1 then some (⟨⟨0, false⟩, ⟨0, false⟩, ⟨0, false⟩, ⟨0, false⟩⟩, 0, 1) else
 (Jj 24 (a0.Funcs.length : Int) (0 : Int)).bind fun _ => (AQ (DJ a0) ⟨[a1], List.replicate a0.Funcs.length false, List.replicate a0.Funcs.length none, List.replicate a0.Funcs.length [], -1, 0⟩).bind fun s =>
 if 0 ≤ s.bad then some (⟨⟨0, false⟩, ⟨0, false⟩, ⟨0, false⟩, ⟨0, false⟩⟩, s.bad, s.why) else
 (VN ⟨a0.Classes, a0.Funcs, s.bodies, s.calls⟩ a1).bind fun g => if g = true then some (⟨⟨0, false⟩, ⟨0, false⟩, ⟨0, false⟩, ⟨0, false⟩⟩, 0, 0) else
 (Dw ⟨a0.Classes, a0.Funcs, s.bodies, s.calls⟩ (a0.Funcs.length + 1) a1).bind fun b => some (b, 0, 0)
noncomputable def Gp  : Option Bool :=
 (Ik (⟨[109], [], ([(⟨[102], (⟨[], 0⟩ : Bq), 0, ([(2 : UInt8), (1 : UInt8), (6 : UInt8), (22 : UInt8)] : List UInt8)⟩ : Df)] : List Df), []⟩ : AH) 0).bind fun x84 => if (x84.2.2 == 0) = true then (if ((x84.1.Steps.Most == 3) && ((x84.1.Steps.Is == true) && true)) = true then (some ((x84.1.CQ.Most == 1) && ((x84.1.CQ.Is == true) && true))) else (some false)) else (some false)
noncomputable def CN (a0 : AH) (x0 : AU × Int × Int) (x1 : (List Int) × Int × Int) (s0 : Int) : Option (Int ⊕ (Bool ⊕ Unit)) :=
 if decide (s0 < (x1.1.length : Int)) = true then ((idx x1.1 s0).bind fun x2 => (Ik (⟨a0.Name, a0.Classes, a0.Funcs, a0.Ec⟩ : AH) x2).bind fun x3 => if (x3.2.2 != 0) = true then (some (.inr (.inl false))) else (if (!x3.1.CQ.Is) = true then (some (.inr (.inl false))) else (if decide (x3.1.CQ.Most ≥ x0.1.CQ.Most) = true then (some (.inr (.inl false))) else (if (!x3.1.Slots.Is) = true then (some (.inr (.inl false))) else (if decide (x3.1.Slots.Most > x0.1.Slots.Most) = true then (some (.inr (.inl false))) else (some (.inl (wr (s0 + 1))))))))) else (some (.inr (.inr (()))))
noncomputable def DT (a0 : AH) (a1 : Int) : Option Bool :=
 (Gp).bind fun x49 => if (!x49) = true then (some false) else (if ((a0.Funcs.length : Int) == 0) = true then (some true) else (if ((IntKind.u64.wrap (a0.Funcs.length : Int)) == 0) = true then none else ((Ik (⟨a0.Name, a0.Classes, a0.Funcs, a0.Ec⟩ : AH) (wr (Int.tmod a1 (IntKind.u64.wrap (a0.Funcs.length : Int))))).bind fun x0 => if (x0.2.2 != 0) = true then (some true) else (if (!x0.1.CQ.Is) = true then (some true) else ((L8 (⟨a0.Name, a0.Classes, a0.Funcs, a0.Ec⟩ : AH) (wr (Int.tmod a1 (IntKind.u64.wrap (a0.Funcs.length : Int))))).bind fun x1 => ((AQ (CN a0 x0 x1) 0 : Option (Bool ⊕ Unit))).bind fun o0 => (match o0 with | .inl p0 => (some p0) | .inr p1 => (some (x1.2.2 == 0))))))))
end Go.Proofs.YtfcpkcehecmcpaaGreat
namespace Go.Proofs.YtfcpkcehecmcpaaGreat
open Go Go.RowKit Go.Pv
def Akd (f : Df) : Prop := f.Sig.B5.length ≤ ED ∧ f.Code.length ≤ ED
theorem Aj8 (l : List UInt8) (h : l.length ≤ ED) : Dl l = some l := by
 unfold Dl
 rw [C9 (by simp only [ED] at h; simp; omega)]; simp
theorem WC (op : UInt8) : JM op = FN op := by
 unfold JM FN
 simp only [O6, or_some, Amn]
 generalize (op.toNat : Int) = n
 cases h2 : (n == 2) <;> cases h4 : (n == 4) <;> cases h5 : (n == 5) <;> simp only [Bool.false_or, Bool.true_or, Bool.or_true, Bool.false_eq_true, if_false, if_true]
theorem size_eq (op : UInt8) : Gk op = Eh op := by
 unfold Gk Eh
 rw [WC]
def Ib (op : UInt8) : Nat × Nat :=
 if op.toNat = 1 then (4, 0) else if op.toNat = 19 ∨ op.toNat = 20 then (2, 0) else if op.toNat = 24 ∨ op.toNat = 25 then (1, 1) else
 if op.toNat = 2 ∨ op.toNat = 4 ∨ op.toNat = 5 ∨ op.toNat = 21 ∨ op.toNat = 23 ∨ op.toNat = 30 ∨ op.toNat = 31 ∨ op.toNat = 32 then (1, 0) else (0, 0)
theorem BR (a b : Nat) : ((a : Int) == (b : Int)) = decide (a = b) := by
 rw [Am4, AG, decide_eq_true_iff, Int.natCast_inj]
theorem TD (op : UInt8) : FN op = some (((Ib op).1 : Int), ((Ib op).2 : Int)) := by
 unfold FN Ib
 simp only [O6, or_some, Amn]
 generalize op.toNat = n
 have e1 : ((n : Int) == 1) = decide (n = 1) := BR n 1
 have e2 : ((n : Int) == 2) = decide (n = 2) := BR n 2
 have e4 : ((n : Int) == 4) = decide (n = 4) := BR n 4
 have e5 : ((n : Int) == 5) = decide (n = 5) := BR n 5
 have e19 : ((n : Int) == 19) = decide (n = 19) := BR n 19
 have e20 : ((n : Int) == 20) = decide (n = 20) := BR n 20
 have e21 : ((n : Int) == 21) = decide (n = 21) := BR n 21
 have e23 : ((n : Int) == 23) = decide (n = 23) := BR n 23
 have e24 : ((n : Int) == 24) = decide (n = 24) := BR n 24
 have e25 : ((n : Int) == 25) = decide (n = 25) := BR n 25
 have e30 : ((n : Int) == 30) = decide (n = 30) := BR n 30
 have e31 : ((n : Int) == 31) = decide (n = 31) := BR n 31
 have e32 : ((n : Int) == 32) = decide (n = 32) := BR n 32
 rw [e1, e2, e4, e5, e19, e20, e21, e23, e24, e25, e30, e31, e32]
 simp only [← Bool.decide_or, Az]
 split
 ·rfl
 ·split
  ·rfl
  ·split
   ·rfl
   ·split <;> rfl
theorem Sy (op : UInt8) : (Ib op).1 ≤ 4 ∧ (Ib op).2 ≤ 1 := by
 unfold Ib
 repeat' split
 all_goals simp
def C6 (op : UInt8) : Nat := if 34 ≤ op.toNat then 0 else 1 + (Ib op).1 + (Ib op).2
theorem Ha (op : UInt8) : Eh op = some (C6 op : Int) := by
 have := Sy op
 unfold Eh C6
 rw [TD]
 by_cases h : 34 ≤ op.toNat
 ·rw [A1 (by simp; omega), A1 h]; rfl
 ·rw [Ay (by simp; omega), Ay h, Amn]
  dsimp only
  rw [Cc (n := 1 + ((Ib op).1 : Int)) (by omega) (by omega), Cc (by omega) (by omega)]
  congr 1
def num (l : List UInt8) : Nat := l.foldl (fun n b => 256 * n + b.toNat) 0
theorem Ve : ∀ (l : List UInt8), num l < 256 ^ l.length := by
 have key : ∀ (l : List UInt8) (n k : Nat), n < 256 ^ k → l.foldl (fun n b => 256 * n + b.toNat) n < 256 ^ (k + l.length) := by
  intro l
  induction l with
  | nil => intro n k h; simpa using h
  | cons b l ih =>
   intro n k h
   have hb := b.toNat_lt
   have := ih (256 * n + b.toNat) (k + 1) (by rw [Nat.pow_succ]; omega)
   rw [List.foldl_cons, List.length_cons, show k + (l.length + 1) = k + 1 + l.length by omega]
   exact this
 intro l
 have := key l 0 0 (by simp)
 simpa [num] using this
theorem Yg (l : List UInt8) (b : UInt8) : num (l ++ [b]) = 256 * num l + b.toNat := by simp [num]
theorem Ahm {n : Nat} (b : UInt8) (h : n < 16777216) : bOr .i64 (XZ .i64 (n : Int) 8) (b.toNat : Int) = ((256 * n + b.toNat : Nat) : Int) := by
 have hb := b.toNat_lt
 have e0 : XZ .i64 (n : Int) 8 = ((256 * n : Nat) : Int) := by
  unfold XZ
  rw [show min ((8 : Int)).toNat IntKind.i64.bits = 8 from rfl, IntKind.wrap_i64]
  omega
 rw [e0]
 unfold bOr
 have e1 : IntKind.i64.bits = 64 := rfl
 rw [e1]
 have ea : BitVec.ofInt 64 ((256 * n : Nat) : Int) = BitVec.ofNat 64 (256 * n) := by apply BitVec.eq_of_toNat_eq; simp <;> omega
 have eb : BitVec.ofInt 64 ((b.toNat : Nat) : Int) = BitVec.ofNat 64 b.toNat := by apply BitVec.eq_of_toNat_eq; simp <;> omega
 have e2 : 256 * n ||| b.toNat = 256 * n + b.toNat := by
  have h3 := Nat.two_pow_add_eq_or_of_lt (i := 8) (b := b.toNat) (by omega) n
  rw [show (2 : Nat) ^ 8 = 256 from rfl] at h3
  exact h3.symm
 rw [ea, eb, BitVec.toNat_or, BitVec.toNat_ofNat, BitVec.toNat_ofNat, Nat.mod_eq_of_lt (by omega), Nat.mod_eq_of_lt (by omega), e2, IntKind.wrap_i64]
 omega
def UP (w : Nat) (n : Nat) : Int := if w = 4 ∧ 2147483647 < n then (n : Int) - 4294967296 else n
theorem VX (l : List UInt8) (w : Nat) (hw : w ≤ l.length) (h4 : w ≤ 4) (hl : l.length ≤ ED) : Gr (w : Int) l = some (UP w (num (l.take w)), l.drop w) := by
 simp only [ED] at hl
 unfold Gr
 rw [LD (by omega), Amn]
 simp only [Am1, Int.toNat_zero, List.drop_zero]
 have hlen : (l.take w).length = w := by simp; omega
 generalize hM : l.take w = M at *
 rw [GE w (body := Ew M) (fun i => ((num (M.take i) : Int), (i : Int))) (r := (num M : Int)) (fun i hi => by
  unfold Ew
  dsimp only
  have hi' : i < M.length := by omega
  have hn := Ve (M.take i)
  have hp : (M.take i).length ≤ 3 := by simp; omega
  have hp2 : 256 ^ (M.take i).length ≤ 256 ^ 3 := Nat.pow_le_pow_right (by decide) hp
  rw [A1 (by simpa using hi'), Bv hi', Amn, Ahm _ (by omega), CU (by omega), List.take_add_one, Amq hi', Option.toList_some, Yg]) (by
  unfold Ew
  dsimp only
  rw [Ay (by simp; omega), ← hlen, Am0]) (s0 := (0, 0)) (by simp [num]), Amn, LD (by omega), Amn]
 have e : ((l.take (l.length : Int).toNat).drop (w : Int).toNat) = l.drop w := by simp
 rw [e]
 unfold UP
 have hn := Ve M
 by_cases hw4 : w = 4
 ·subst hw4
  rw [A1 (by simp)]
  rw [hlen] at hn
  congr 2
  have e32 : IntKind.i32.wrap (num M : Int) = if 2147483647 < num M then (num M : Int) - 4294967296 else num M := by
   rw [IntKind.wrap_i32]
   split <;> omega
  rw [e32]
  split
  ·rw [A1 (by omega), Cc] <;> omega
  ·rw [Ay (by omega), Cc] <;> omega
 ·rw [Ay (by simp; omega), Ay (by omega)]
theorem Yx (l : List UInt8) (w : Nat) (hw : w ≤ l.length) (h4 : w ≤ 4) (hl : l.length ≤ ED) : Jo l (w : Int) = some (UP w (num (l.take w))) := by
 simp only [ED] at hl
 unfold Jo
 have hlen : (l.take w).length = w := by simp; omega
 rw [GE w (body := Hz l (w : Int)) (fun i => ((num (l.take i) : Int), (i : Int))) (r := (num (l.take w) : Int)) (fun i hi => by
  unfold Hz
  dsimp only
  have hi' : i < l.length := by omega
  have hn := Ve (l.take i)
  have hp : (l.take i).length ≤ 3 := by simp; omega
  have hp2 : 256 ^ (l.take i).length ≤ 256 ^ 3 := Nat.pow_le_pow_right (by decide) hp
  have hb := l[i].toNat_lt
  rw [A1 (by simpa using hi), Bv hi', Amn, CU (by omega), List.take_add_one, Amq hi', Option.toList_some, Yg, Cc (n := 256 * (num (l.take i) : Int)) (by omega) (by omega), Cc (by omega) (by omega)]
  congr 4) (by
  unfold Hz
  dsimp only
  rw [Ay (by simp)]) (s0 := (0, 0)) (by simp [num]), Amn]
 unfold UP
 have hn := Ve (l.take w)
 rw [hlen] at hn
 by_cases hw4 : w = 4
 ·subst hw4
  rw [A1 (by simp)]
  by_cases h : 2147483647 < num (l.take 4)
  ·rw [A1 (by simp; omega), A1 ⟨rfl, h⟩, Cc] <;> omega
  ·rw [Ay (by simp; omega), Ay (by omega)]
 ·rw [Ay (by simp; omega), Ay (by omega)]
def dec (b : List UInt8) (at_ : Nat) (op : UInt8) : AA × Int :=
 if C6 op = 0 then (⟨0, 0, 0, 0⟩, 40) else if b.length < at_ + C6 op then (⟨0, 0, 0, 0⟩, 2) else
  let A := UP (Ib op).1 (num ((b.drop (at_ + 1)).take (Ib op).1))
  let B := UP (Ib op).2 (num ((b.drop (at_ + 1 + (Ib op).1)).take (Ib op).2))
  if op.toNat = 2 ∧ 1 < A then (⟨0, 0, 0, 0⟩, 5) else (⟨at_, op, A, B⟩, 0)
theorem Air (b : List UInt8) (hl : b.length ≤ ED) (i : Nat) (hi : i < b.length) : EO b (i : Int) = some (dec b i b[i]) := by
 simp only [ED] at hl
 have hw := Sy b[i]
 unfold EO dec
 rw [Ay (by simp), Ay (by simp; omega), Ay (by simp; omega), Bv hi, Amn, Ha, Amn]
 generalize b[i] = op at hw
 by_cases h0 : C6 op = 0
 ·rw [A1 (by simp [h0]), A1 h0]
 ·have hs : C6 op = 1 + (Ib op).1 + (Ib op).2 := by
   unfold C6 at h0 ⊢
   split
   ·rename_i h; rw [A1 h] at h0; exact absurd rfl h0
   ·rfl
  rw [Ay (by simp; omega), Ay h0, Cc (by omega) (by omega)]
  by_cases h1 : b.length < i + C6 op
  ·rw [A1 (by simp; omega), A1 h1]
  ·rw [Ay (by simp; omega), Ay h1, TD, Amn]
   dsimp only
   rw [CU (by omega), LD (by omega), Amn]
   have e1 : ((b.take (b.length : Int).toNat).drop ((i + 1 : Nat) : Int).toNat) = b.drop (i + 1) := by simp
   rw [e1, Yx _ _ (by simp; omega) (by omega) (by simp only [ED, List.length_drop]; omega), Amn, Cc (n := ((i + 1 : Nat) : Int) + ((Ib op).1 : Int)) (by omega) (by omega), show ((i + 1 : Nat) : Int) + ((Ib op).1 : Int) = ((i + 1 + (Ib op).1 : Nat) : Int) by omega, LD (by omega), Amn]
   have e2 : ((b.take (b.length : Int).toNat).drop ((i + 1 + (Ib op).1 : Nat) : Int).toNat) = b.drop (i + 1 + (Ib op).1) := by rw [Am1, Am1, Am0]
   rw [e2, Yx _ _ (by simp; omega) (by omega) (by simp only [ED, List.length_drop]; omega), Amn]
   by_cases h2 : op.toNat = 2
   ·rw [A1 (by simp [h2])]
    by_cases h3 : 1 < UP (Ib op).1 (num ((b.drop (i + 1)).take (Ib op).1))
    ·rw [A1 (by simp; omega), A1 ⟨h2, h3⟩]
    ·rw [Ay (by simp; omega), Ay (by omega)]
   ·rw [Ay (by simp; omega), Ay (by omega)]
theorem Aeh (b : List UInt8) (hl : b.length ≤ ED) (i : Nat) (hi : i < b.length) : Ed b (i : Int) = some (dec b i b[i]) := by
 simp only [ED] at hl
 have hw := Sy b[i]
 unfold Ed dec
 rw [Ay (by simp), Ay (by simp; omega), Ay (by simp; omega), Bv hi, Amn, size_eq, Ha, Amn]
 generalize b[i] = op at hw
 by_cases h0 : C6 op = 0
 ·rw [A1 (by simp [h0]), A1 h0]
 ·have hs : C6 op = 1 + (Ib op).1 + (Ib op).2 := by
   unfold C6 at h0 ⊢
   split
   ·rename_i h; rw [A1 h] at h0; exact absurd rfl h0
   ·rfl
  rw [Ay (by simp; omega), Ay h0, Amn, size_eq, Ha, Amn, Cc (by omega) (by omega)]
  by_cases h1 : b.length < i + C6 op
  ·rw [A1 (by simp; omega), A1 h1]
  ·rw [Ay (by simp; omega), Ay h1, Amn, CU (by omega), LD (by omega), Amn]
   have e1 : ((b.take (b.length : Int).toNat).drop ((i + 1 : Nat) : Int).toNat) = b.drop (i + 1) := by simp
   rw [e1, WC, TD, Amn]
   dsimp only
   rw [VX _ _ (by simp; omega) (by omega) (by simp only [ED, List.length_drop]; omega), Amn]
   dsimp only
   rw [List.drop_drop, show i + 1 + (Ib op).1 = i + 1 + (Ib op).1 from rfl, VX _ _ (by simp; omega) (by omega) (by simp only [ED, List.length_drop]; omega), Amn]
   dsimp only
   by_cases h2 : op.toNat = 2
   ·rw [A1 (by simp [h2])]
    by_cases h3 : 1 < UP (Ib op).1 (num ((b.drop (i + 1)).take (Ib op).1))
    ·rw [A1 (by simp; omega), A1 ⟨h2, h3⟩]
    ·rw [Ay (by simp; omega), Ay (by omega)]
   ·rw [Ay (by simp; omega), Ay (by omega)]
end Go.Proofs.YtfcpkcehecmcpaaGreat
namespace Go.Proofs.YtfcpkcehecmcpaaGreat
open Go Go.RowKit Go.Pv
theorem FO {R : Type} (n : Nat) {body : Int → Option (Int ⊕ R)} (P : Nat → Option R) {r0 : R} (hs : ∀ i, i < n → body (i : Int) = match P i with | some r => some (.inr r) | none => some (.inl ((i + 1 : Nat) : Int))) (he : body (n : Int) = some (.inr r0)) :
  AQ body 0 = some (((List.range n).findSome? P).getD r0) := by
 have key : ∀ k i, i + k = n → AQ body (i : Int) = some (((List.range' i k).findSome? P).getD r0) := by
  intro k
  induction k with
  | zero => intro i hi; have : i = n := by omega
            subst this; rw [Bm he]; rfl
  | succ k ih =>
   intro i hi
   have h1 := hs i (by omega)
   rw [List.range'_succ, List.findSome?_cons]
   rcases hp : P i with _ | r
   ·rw [hp] at h1; rw [BQ h1]; exact ih (i + 1) (by omega)
   ·rw [hp] at h1; rw [Bm h1]; rfl
 have := key n 0 (by omega)
 rw [List.range_eq_range']
 exact this
theorem S8 {n : Nat} (h : n < 256) : (E2 (n : Int)).toNat = n := by have := Oa n; omega
theorem Oe (t : UInt8) (h : 16 ≤ t.toNat) : (E2 ((t.toNat : Int) - 16)).toNat = t.toNat - 16 := by
 have := Oa ((t.toNat : Int) - 16); have := t.toNat_lt; omega
def W9 (l : List A9) (t : UInt8) : Int := if 16 ≤ t.toNat ∧ t.toNat - 16 < l.length then ((t.toNat - 16 : Nat) : Int) else -1
def tv (l : List A9) (t : UInt8) : Bool := decide (t.toNat ≤ 5) || (decide (16 ≤ t.toNat) && decide (t.toNat - 16 < l.length))
def st (l : List A9) (t : UInt8) : Bool := tv l t && (t.toNat != 0 && t.toNat != 3)
theorem Ml (l : List A9) (t : UInt8) : FC l t = some (W9 l t) := by
 unfold FC W9
 by_cases h : 16 ≤ t.toNat
 ·rw [Ay (by simp; omega), Oe t h]
  by_cases h2 : t.toNat - 16 < l.length
  ·rw [Ay (by simp; omega), A1 ⟨h, h2⟩]
  ·rw [A1 (by simp; omega), Ay (by omega)]
 ·rw [A1 (by simp; omega), Ay (by omega)]
theorem UG (l : List A9) (t : UInt8) : decide (W9 l t ≥ 0) = (decide (16 ≤ t.toNat) && decide (t.toNat - 16 < l.length)) := by
 unfold W9
 by_cases h : 16 ≤ t.toNat ∧ t.toNat - 16 < l.length
 ·rw [A1 h]; simp [h.1, h.2]
 ·rw [Ay h]
  simp only [ge_iff_le, show ¬ ((0 : Int) ≤ -1) by omega, decide_false]
  rcases Nat.lt_or_ge t.toNat 16 with h1 | h1
  ·simp; omega
  ·have : ¬ (t.toNat - 16 < l.length) := fun h2 => h ⟨h1, h2⟩
   simp [this]
theorem JC (l : List A9) (t : UInt8) : E3 l t = some (tv l t) := by
 unfold E3 tv
 rw [Ml, Amn, UG]
 by_cases h : t.toNat ≤ 5
 ·rw [A1 (by simp; omega)]; simp [h]
 ·rw [Ay (by simp; omega)]; simp [h]
theorem K8 (l : List A9) (t : UInt8) : Dm l t = some (tv l t) := by
 unfold Dm tv
 by_cases h : t.toNat ≤ 5
 ·rw [A1 (by simp; omega)]; simp [h]
 ·rw [Ay (by simp; omega)]
  by_cases h2 : 16 ≤ t.toNat
  ·rw [A1 (by simp; omega), Oe t h2]
   simp only [h, h2, decide_false, decide_true, Bool.false_or, Bool.true_and, Option.some.injEq, Int.ofNat_lt]
  ·rw [Ay (by simp; omega)]; simp [h, h2]
theorem Ag6 (t : UInt8) (k : Nat) : ((t.toNat : Int) != (k : Int)) = (t.toNat != k) := by
 rw [Am4, AN, AN]; omega
theorem PH (l : List A9) (t : UInt8) : (if tv l t = true then (if ((t.toNat : Int) != 0) = true then some ((t.toNat : Int) != 3) else some false) else some false) = some (st l t) := by
 unfold st
 rw [show ((t.toNat : Int) != 0) = (t.toNat != 0) from Ag6 t 0, show ((t.toNat : Int) != 3) = (t.toNat != 3) from Ag6 t 3]
 cases tv l t <;> cases (t.toNat != 0) <;> rfl
theorem Zr (l : List A9) (t : UInt8) : KC l t = some (st l t) := by
 unfold KC
 rw [JC, Amn, PH]
theorem Py (l : List A9) (t : UInt8) : FX l t = some (st l t) := by
 unfold FX
 rw [K8, Amn, PH]
theorem T0 (l : List A9) (t : UInt8) : JZ l t = some (st l t) := by
 unfold JZ
 rw [K8, Amn, PH]
theorem Nq (l : List A9) (t : UInt8) : Iy l t = some (st l t) := by
 unfold Iy
 rw [K8, Amn, PH]
theorem QS (e : AD) (t : UInt8) : E8 t e = some (st e.Classes t) := by
 unfold E8
 rw [JC, Amn, PH]
theorem ZS (e : AD) (t : UInt8) : IA t e = some (!st e.Classes t) := by
 unfold IA
 rw [Zr, Amn]
theorem YY (l : List A9) (t : UInt8) : K6 l t = some (st l t) := by
 unfold K6
 rw [Ml, Amn, UG]
 have e1 : ((t.toNat : Int) == 1) = decide (t.toNat = 1) := BR _ 1
 have e2 : ((t.toNat : Int) == 2) = decide (t.toNat = 2) := BR _ 2
 have e4 : ((t.toNat : Int) == 4) = decide (t.toNat = 4) := BR _ 4
 have e5 : ((t.toNat : Int) == 5) = decide (t.toNat = 5) := BR _ 5
 rw [e1, e2, e4, e5]
 unfold st tv
 simp only [Az]
 have hb : ∀ k, (t.toNat != k) = !decide (t.toNat = k) := fun k => by rw [Am4]; simp
 rw [hb, hb]
 split
 ·rename_i h; simp [h]
 ·split
  ·rename_i h; simp [h]
  ·split
   ·rename_i h; simp [h]
   ·split
    ·rename_i h; simp [h]
    ·rename_i h1 h2 h3 h4
     congr 1
     by_cases h0 : t.toNat = 0
     ·simp [h0]
     ·by_cases h5 : t.toNat = 3
      ·simp [h5]
      ·have : ¬ (t.toNat ≤ 5) := by omega
       simp [h0, h5, this]
def rf (t : UInt8) : Bool := decide (t.toNat = 3) || (decide (t.toNat = 4) || (decide (t.toNat = 5) || decide (16 ≤ t.toNat)))
theorem Ag0 (t : UInt8) : (if ((t.toNat : Int) == 3) = true then some true else if ((t.toNat : Int) == 4) = true then some true else if ((t.toNat : Int) == 5) = true then some true else some (decide ((t.toNat : Int) ≥ 16))) = some (rf t) := by
 have e3 : ((t.toNat : Int) == 3) = decide (t.toNat = 3) := BR _ 3
 have e4 : ((t.toNat : Int) == 4) = decide (t.toNat = 4) := BR _ 4
 have e5 : ((t.toNat : Int) == 5) = decide (t.toNat = 5) := BR _ 5
 rw [e3, e4, e5, O6, O6, O6]
 unfold rf
 congr 4
 rw [Am4]; simp; omega
theorem Ny (t : UInt8) : Ff t = some (rf t) := by unfold Ff; exact Ag0 t
theorem RN (t : UInt8) : Fy t = some (rf t) := by unfold Fy; exact Ag0 t
def letter (x : UInt8) : Bool := (decide (97 ≤ x.toNat) && decide (x.toNat ≤ 122)) || (decide (65 ≤ x.toNat) && decide (x.toNat ≤ 90))
def inner (x : UInt8) : Bool := (decide (48 ≤ x.toNat) && decide (x.toNat ≤ 57)) || decide (x.toNat = 95)
def SJ (l : List UInt8) (i : Nat) : Option Bool := match l[i]? with
 | some x => if letter x = true then none else if (decide (0 < i) && inner x) = true then none else some false
 | none => none
def Nn (l : List UInt8) : Bool := decide (1 ≤ l.length) && decide (l.length ≤ 24) && ((List.range l.length).findSome? (SJ l)).isNone
theorem W6 (x : UInt8) : (if decide ((x.toNat : Int) ≥ 97) = true then (if decide ((x.toNat : Int) ≤ 122) = true then (some true) else (if decide ((x.toNat : Int) ≥ 65) = true then (some (decide ((x.toNat : Int) ≤ 90))) else (some false))) else (if decide ((x.toNat : Int) ≥ 65) = true then (some (decide ((x.toNat : Int) ≤ 90))) else (some false))) = some (letter x) := by
 unfold letter
 by_cases h1 : 97 ≤ x.toNat
 ·rw [A1 (by simp; omega)]
  by_cases h2 : x.toNat ≤ 122
  ·rw [A1 (by simp; omega)]; simp [h1, h2]
  ·rw [Ay (by simp; omega), A1 (by simp; omega)]
   have : ¬ (x.toNat ≤ 90) := by omega
   simp [h1, h2, this]; omega
 ·rw [Ay (by simp; omega)]
  by_cases h2 : 65 ≤ x.toNat
  ·rw [A1 (by simp; omega)]; simp [h1, h2]; omega
  ·rw [Ay (by simp; omega)]; simp [h1, h2]
theorem Zd {l : List UInt8} (i : Nat) (b : Bool) (h : SJ l i = some b) : b = false := by
 unfold SJ at h
 split at h
 ·split at h
  ·cases h
  ·split at h
   ·cases h
   ·cases h; rfl
 ·cases h
theorem IX {R S : Type} (n : Nat) (P : Nat → Option R) (f : R → S) : (List.range n).findSome? (fun i => (P i).map f) = ((List.range n).findSome? P).map f := by
 induction (List.range n) with
 | nil => rfl
 | cons x l ih => simp only [List.findSome?_cons]; rcases P x with _ | r <;> simp [ih]
theorem Ab6 (x : UInt8) : inner x = true ↔ (48 ≤ (x.toNat : Int) ∧ (x.toNat : Int) ≤ 57) ∨ (x.toNat : Int) = 95 := by
 unfold inner
 simp only [Am5, Am3, Az]
 omega
theorem Q8 (l : List UInt8) : Jd l = some (Nn l) := by
 unfold Jd Nn
 by_cases h0 : l.length = 0
 ·rw [A1 (by simp [h0])]; simp [h0]
 ·have h0' : ¬ (((l.length : Int) == 0) = true) := by rw [AG]; omega
  rw [Ay h0']
  by_cases h1 : l.length ≤ 24
  ·rw [Ay (by rw [Az]; omega)]
   have hl := FO (R := Bool ⊕ Unit) l.length (body := E7 l) (fun i => (SJ l i).map .inl) (r0 := .inr ()) (fun i hi => by
    unfold E7
    rw [A1 (by rw [Az]; omega), Bv hi, Amn, W6, Amn, CU (by omega)]
    have hx : l[i]? = some l[i] := Amq hi
    unfold SJ
    rw [hx]
    dsimp only
    generalize l[i] = x
    have hin := Ab6 x
    rcases hl : letter x with _ | _
    ·simp only [Bool.false_eq_true, if_false]
     by_cases hc : (decide (0 < i) && inner x) = true
     ·rw [A1 hc]
      rw [Am3, Az] at hc
      have h1 := hin.1 hc.2
      simp only [Az, AG, Option.map_none]
      repeat' split
      all_goals first | rfl | (exfalso; omega)
     ·rw [Ay hc]
      rw [Am3, Az] at hc
      have h1 : ¬ (0 < i ∧ ((48 ≤ (x.toNat : Int) ∧ (x.toNat : Int) ≤ 57) ∨ (x.toNat : Int) = 95)) := fun h => hc ⟨h.1, hin.2 h.2⟩
      simp only [Az, AG, Amo]
      repeat' split
      all_goals first | rfl | (exfalso; omega)
    ·rfl) (by
    unfold E7
    rw [Ay (by rw [Az]; omega)])
   rw [hl, Amn, IX]
   have a1 : 1 ≤ l.length := by omega
   rcases hf : (List.range l.length).findSome? (SJ l) with _ | b
   ·simp [a1, h1]
   ·obtain ⟨i, _, hi⟩ := List.exists_of_findSome?_eq_some hf
    rw [Zd i b hi]; simp
  ·rw [A1 (by rw [Az]; omega)]; simp [h1]
theorem Vi (l : List UInt8) : I0 l = some (Nn l) := by
 rw [← Q8]
 unfold I0 Jd
 by_cases h0 : l.length = 0
 ·rw [A1 (by rw [Az]; omega), A1 (by rw [AG]; omega)]
 ·rw [Ay (c := decide ((l.length : Int) < 1) = true) (by rw [Az]; omega), Ay (c := ((l.length : Int) == 0) = true) (by rw [AG]; omega)]
  have e : Jg l = E7 l := by
   funext s
   unfold Jg E7
   by_cases hs : s < (l.length : Int)
   ·rw [A1 (by simpa using hs), A1 (by simpa using hs)]
    rcases hx : idx l s with _ | x
    ·rfl
    ·simp only [Amn, W6]
     have hs0 := (Dd hx).1
     rcases letter x with _ | _
     ·simp only [Bool.false_eq_true, if_false, Bool.not_false, if_true, Az, AG, AN]
      repeat' split
      all_goals first | rfl | (exfalso; omega)
     ·rfl
   ·rw [Ay (by simpa using hs), Ay (by simpa using hs)]
  rw [e]
end Go.Proofs.YtfcpkcehecmcpaaGreat
namespace Go.Proofs.YtfcpkcehecmcpaaGreat
open Go Go.RowKit Go.Pv
def Kb {α : Type} (l : List α) (p : α → Bool) (i : Nat) : Option Int := match l[i]? with
 | some x => if p x = true then some (i : Int) else none
 | none => none
theorem Mh {α : Type} {l : List α} {p : α → Bool} {i : Nat} (h : i < l.length) : Kb l p i = if p l[i] = true then some (i : Int) else none := by
 unfold Kb
 rw [Amq h]
theorem O5 {α : Type} (l : List α) (p : α → Bool) : (List.range l.length).findSome? (Kb l p) = none ↔ l.any p = false := by
 rw [Amz, List.any_eq_false]
 constructor
 ·intro h x hx
  obtain ⟨i, hi, rfl⟩ := List.mem_iff_getElem.1 hx
  have := h i (List.mem_range.2 hi)
  rw [Mh hi] at this
  intro hp
  rw [A1 hp] at this
  cases this
 ·intro h i hi
  rw [Mh (List.mem_range.1 hi), Ay (h _ (Amx _))]
theorem KL {α : Type} (l : List α) (p : α → Bool) {body : Int → Option (Int ⊕ (Int ⊕ Unit))} (hs : ∀ i (h : i < l.length), body (i : Int) = if p l[i] = true then some (.inr (.inl (i : Int))) else some (.inl ((i + 1 : Nat) : Int))) (he : body (l.length : Int) = some (.inr (.inr ()))) :
  ∃ r, ((AQ body 0).bind fun o => match o with | .inl p => some p | .inr _ => some (-1)) = some r ∧ decide (r ≥ 0) = l.any p ∧ (0 ≤ r → ∃ i : Nat, r = i ∧ i < l.length ∧ ∀ h : i < l.length, p l[i] = true) := by
 have hl := FO l.length (body := body) (fun i => (Kb l p i).map .inl) (r0 := .inr ()) (fun i hi => by
  rw [hs i hi, Mh hi]
  split <;> rfl) he
 rw [hl, Amn, IX]
 have hn := O5 l p
 rcases hf : (List.range l.length).findSome? (Kb l p) with _ | r
 ·rw [hn.1 hf]; exact ⟨-1, rfl, rfl, fun h => by omega⟩
 ·refine ⟨r, rfl, ?_⟩
  obtain ⟨i, hi, hr⟩ := List.exists_of_findSome?_eq_some hf
  have hi' := List.mem_range.1 hi
  rw [Mh hi'] at hr
  split at hr
  ·rename_i hp
   cases hr
   have ha : l.any p = true := by rw [List.any_eq_true]; exact ⟨_, Amx hi', hp⟩
   rw [ha, Az]
   exact ⟨by omega, fun _ => ⟨i, rfl, hi', fun _ => hp⟩⟩
  ·cases hr
theorem XE {α : Type} (l : List α) (p : α → Bool) {body : Int → Option (Int ⊕ (Bool ⊕ Unit))} (hs : ∀ i (h : i < l.length), body (i : Int) = if p l[i] = true then some (.inr (.inl true)) else some (.inl ((i + 1 : Nat) : Int))) (he : body (l.length : Int) = some (.inr (.inr ()))) :
  ((AQ body 0).bind fun o => match o with | .inl p => some p | .inr _ => some false) = some (l.any p) := by
 have hl := FO l.length (body := body) (fun i => (Kb l p i).map fun _ => .inl true) (r0 := .inr ()) (fun i hi => by
  rw [hs i hi, Mh hi]
  split <;> rfl) he
 rw [hl, Amn, IX]
 have hn := O5 l p
 rcases hf : (List.range l.length).findSome? (Kb l p) with _ | r
 ·rw [hn.1 hf]; rfl
 ·rcases hb : l.any p with _ | _
  ·rw [hn.2 hb] at hf; cases hf
  ·rfl
theorem YH (l : List (List UInt8)) (hl : l.length ≤ ED) (x : List UInt8) : Cr l x = some (l.any fun y => x == y) := by
 unfold Cr
 have hb : l.length ≤ 1048576 := hl
 obtain ⟨r, h1, h2, _⟩ := KL l (fun y => x == y) (body := BV l x) (fun i hi => by
  unfold BV
  rw [A1 (by rw [Az]; omega), Bv hi, Amn, CU (by omega)]) (by
  unfold BV
  rw [Ay (by rw [Az]; omega)])
 have h1' : DZ l x = some r := h1
 rw [h1', Amn, h2]
def wordsL : List (List UInt8) := [[116, 111, 112], [105, 110, 116], [98, 111, 111, 108], [110, 117, 108, 108], [105, 110, 116, 115], [97, 110, 121]]
theorem Acv : Nm = some wordsL := rfl
theorem Afx (k : Nat) (h : k < 6) : NS (UInt8.ofNat k) = some wordsL[k] := by
 match k, h with
 | 0, _ => rfl
 | 1, _ => rfl
 | 2, _ => rfl
 | 3, _ => rfl
 | 4, _ => rfl
 | 5, _ => rfl
theorem Aa3 (x : List UInt8) : JY x = some (wordsL.any fun y => x == y) := by
 unfold JY
 have step : ∀ k (h : k < 6), EW x (UInt8.ofNat k) = if (wordsL[k] == x) = true then some (.inr (.inl true)) else some (.inl (UInt8.ofNat (k + 1))) := by
  intro k h
  unfold EW
  have hk : (UInt8.ofNat k).toNat = k := by rw [UInt8.toNat_ofNat']; omega
  rw [A1 (by rw [hk, Az]; omega), Afx k h, Amn, hk]
  congr 3
  apply UInt8.toNat_inj.1
  have := Oa ((k : Int) + 1)
  rw [UInt8.toNat_ofNat']
  omega
 have key : ∀ n k, k + n = 6 → AQ (EW x) (UInt8.ofNat k) = some (if (wordsL.drop k).any (fun y => x == y) = true then (.inl true) else .inr ()) := by
  intro n
  induction n with
  | zero =>
   intro k hk
   have : k = 6 := by omega
   subst this
   rw [Bm (r := .inr ())]
   ·rfl
   ·unfold EW; rfl
  | succ n ih =>
   intro k hk
   have h6 : k < 6 := by omega
   have hd : wordsL.drop k = wordsL[k] :: wordsL.drop (k + 1) := List.drop_eq_getElem_cons (by exact h6)
   have hs := step k h6
   rw [hd, List.any_cons]
   have hc : (x == wordsL[k]) = (wordsL[k] == x) := by rw [Am4, AG, AG]; exact eq_comm
   rw [hc]
   by_cases he : (wordsL[k] == x) = true
   ·rw [A1 he] at hs
    rw [Bm hs, he]; rfl
   ·rw [Ay he] at hs
    rw [BQ hs, ih (k + 1) (by omega)]
    have : (wordsL[k] == x) = false := by simpa using he
    rw [this, Bool.false_or]
 have := key 6 0 rfl
 rw [show (0 : UInt8) = UInt8.ofNat 0 from rfl, this, Amn]
 rw [List.drop_zero]
 cases (wordsL.any fun y => x == y) <;> rfl
end Go.Proofs.YtfcpkcehecmcpaaGreat
namespace Go.Proofs.YtfcpkcehecmcpaaGreat
open Go Go.RowKit Go.Pv
def Ee (l : List A9) (n : Nat) : Prop := ∀ i (h : i < l.length), i < n → -1 ≤ l[i].Bn ∧ l[i].Bn < i
def WB (l : List A9) : Nat → Int → List Nat
 | 0, _ => []
 | f + 1, c => if h : 0 ≤ c ∧ c < l.length then c.toNat :: WB l f (l[c.toNat]'(by omega)).Bn else []
def Dh (l : List A9) (c : Int) : List Nat := WB l (c.toNat + 1) c
theorem PS {l : List A9} {f : Nat} {c : Int} (h : c < 0) : WB l f c = [] := by
 cases f with
 | zero => rfl
 | succ f => unfold WB; rw [dif_neg (by omega)]
theorem Aea {l : List A9} {n : Nat} (R : Ee l n) : ∀ (f f' : Nat) (c : Int), c < n → c < f → c < f' → WB l f c = WB l f' c
 | 0, f', c, _, h1, _ => by rw [PS (by omega), PS (by omega)]
 | f + 1, 0, c, _, _, h2 => by rw [PS (by omega), PS (by omega)]
 | f + 1, f' + 1, c, hn, h1, h2 => by
  unfold WB
  by_cases h : 0 ≤ c ∧ c < l.length
  ·rw [dif_pos h, dif_pos h]
   congr 1
   have hr := R c.toNat (by omega) (by omega)
   exact Aea R f f' _ (by omega) (by omega) (by omega)
  ·rw [dif_neg h, dif_neg h]
theorem GV {l : List A9} {c : Int} (h : c < 0) : Dh l c = [] := PS h
theorem J6 {l : List A9} {n : Nat} (R : Ee l n) (c : Nat) (h : c < l.length) (hn : c < n) : Dh l (c : Int) = c :: Dh l l[c].Bn := by
 have hr := R c h hn
 unfold Dh
 rw [WB, dif_pos ⟨by omega, by omega⟩]
 simp only [Am1]
 congr 1
 exact Aea R _ _ _ (by omega) (by omega) (by omega)
theorem Mg {l : List A9} {n : Nat} (R : Ee l n) : ∀ (k : Nat) (c : Int), c < k → c < n → c < l.length → ∀ x ∈ Dh l c, (x : Int) ≤ c ∧ x < l.length
 | 0, c, hk, hn, hl, x, hx => by rw [GV (by omega)] at hx; cases hx
 | k + 1, c, hk, hn, hl, x, hx => by
  by_cases h0 : 0 ≤ c
  ·obtain ⟨c, rfl⟩ := Am2 h0
   rw [J6 R c (by omega) (by omega)] at hx
   have hr := R c (by omega) (by omega)
   rcases List.mem_cons.1 hx with rfl | hx
   ·omega
   ·have := Mg R k l[c].Bn (by omega) (by omega) (by omega) x hx
    omega
  ·rw [GV (by omega)] at hx; cases hx
theorem OM {l : List A9} {n : Nat} (R : Ee l n) : ∀ (k : Nat) (c : Int), c < k → c < n → c < l.length → (Dh l c).length ≤ (c + 1).toNat
 | 0, c, hk, hn, hl => by rw [GV (by omega)]; simp
 | k + 1, c, hk, hn, hl => by
  by_cases h0 : 0 ≤ c
  ·obtain ⟨c, rfl⟩ := Am2 h0
   rw [J6 R c (by omega) (by omega)]
   have hr := R c (by omega) (by omega)
   have := OM R k l[c].Bn (by omega) (by omega) (by omega)
   rw [List.length_cons]
   omega
  ·rw [GV (by omega)]; simp
def PE {σ : Type} (g : σ → Nat → σ) (go : σ → Nat → Bool) : List Nat → σ → σ
 | [], s => s
 | c :: r, s => if go s c = true then PE g go r (g s c) else g s c
theorem Nw {σ : Type} {l : List A9} {n : Nat} (R : Ee l n) {body : σ × Int → Option ((σ × Int) ⊕ (σ ⊕ σ))} (g : σ → Nat → σ) (go : σ → Nat → Bool) (I : σ → Int → Prop)
  (hb : ∀ s (c : Nat) (h : c < l.length), c < n → I s c → body (s, (c : Int)) = if go s c = true then some (.inl (g s c, l[c].Bn)) else some (.inr (.inr (g s c))))
  (hI : ∀ s (c : Nat) (h : c < l.length), c < n → I s c → I (g s c) l[c].Bn)
  (he : ∀ s (c : Int), c < 0 → body (s, c) = some (.inr (.inr s))) :
  ∀ (k : Nat) (c : Int) s, c < k → c < n → c < l.length → I s c → AQ body (s, c) = some (.inr (PE g go (Dh l c) s))
 | 0, c, s, hk, hn, hl, hs => by rw [Bm (he s c (by omega)), GV (by omega)]; rfl
 | k + 1, c, s, hk, hn, hl, hs => by
  by_cases h0 : 0 ≤ c
  ·obtain ⟨c, rfl⟩ := Am2 h0
   have hr := R c (by omega) (by omega)
   have h1 := hb s c (by omega) (by omega) hs
   have h2 := hI s c (by omega) (by omega) hs
   rw [J6 R c (by omega) (by omega), PE]
   by_cases hg : go s c = true
   ·rw [A1 hg] at h1
    rw [BQ h1, A1 hg]
    exact Nw R g go I hb hI he k _ _ (by omega) (by omega) (by omega) h2
   ·rw [Ay hg] at h1
    rw [Bm h1, Ay hg]
  ·rw [Bm (he s c (by omega)), GV (by omega)]; rfl
theorem Akw {α β : Type} (f : α → β) (L : List α) : L.flatMap (fun c => [f c]) = L.map f := by induction L <;> simp_all
theorem Se {α : Type} (f : Nat → List α) : ∀ (L : List Nat) (s : List α), PE (fun s c => s ++ f c) (fun _ _ => true) L s = s ++ L.flatMap f
 | [], s => by simp [PE]
 | c :: r, s => by rw [PE, A1 rfl, Se f r, List.flatMap_cons, Amy]
def FB (l : List A9) : Prop := l.length ≤ ED ∧ ∀ x ∈ l, x.Fields.length ≤ ED
def Lj (l : List A9) (c : Nat) : List B1 := match l[c]? with
 | some x => x.Fields
 | none => []
theorem PV {l : List A9} {c : Nat} (h : c < l.length) : Lj l c = l[c].Fields := by unfold Lj; rw [Amq h]
theorem Uu {l : List A9} (h : FB l) (c : Nat) : (Lj l c).length ≤ 1048576 := by
 unfold Lj
 split
 ·rename_i x hx; exact h.2 x (List.mem_of_getElem? hx)
 ·simp
theorem Abc (l : List A9) (h : FB l) (c : Nat) (hc : c < l.length) (s : List (List UInt8)) (hs : s.length ≤ 1099511627776) :
  Ix (c : Int) l s = some (true, s ++ (Lj l c).map (·.Name)) := by
 unfold Ix
 rw [Bv hc, Amn]
 have hf : (l[c]).Fields.length ≤ 1048576 := h.2 _ (Amx hc)
 have := GE l[c].Fields.length (body := En l[c]) (fun i => (s ++ (l[c].Fields.take i).map (·.Name), (i : Int))) (r := s ++ l[c].Fields.map (·.Name)) (fun i hi => by
  unfold En
  dsimp only
  rw [A1 (by rw [Az]; omega), Bv hi, Amn, C9 (by simp; omega), Amn, CU (by omega), NK, Amy]) (by
  unfold En
  dsimp only
  rw [Ay (by rw [Az]; omega), Am0]) (s0 := (s, 0)) (by simp)
 rw [this, Amn, PV hc]
theorem Zn (l : List A9) (h : FB l) {n : Nat} (R : Ee l n) (hn32 : n ≤ 64) (c : Int) (hn : c < n) (hl : c < l.length) :
  EC l c l [] = some ((Dh l c).flatMap fun c => (Lj l c).map (·.Name)) := by
 have key := Nw R (body := CO l l) (fun s c => s ++ (Lj l c).map (·.Name)) (fun _ _ => true) (fun s c => (s.length : Int) + (c + 1) * 1048576 ≤ 1099511627776) (fun s c hc hcn hI => by
  unfold CO
  dsimp only
  have hr := R c hc hcn
  rw [A1 (by rw [Az]; omega), A1 (by rw [Az]; omega), Abc l h c hc s (by omega), Amn]
  dsimp only
  rw [A1 rfl, Bv hc, Amn, Ay (by rw [Az]; omega), A1 rfl]) (fun s c hc hcn hI => by
  have hr := R c hc hcn
  have := Uu h c
  rw [Amr, Ams]
  omega) (fun s c hc => by
  unfold CO
  dsimp only
  rw [Ay (by rw [Az]; omega)]) (c.toNat + 1) c [] (by omega) hn hl (by simp; omega)
 unfold EC
 rw [key, Amn, Se]
 rfl
theorem Abp (l : List A9) {n : Nat} (R : Ee l n) (hnb : n ≤ 1048576) (c : Int) (hn : c < n) (hl : c < l.length) :
  DR l c [] = some ((Dh l c).map fun (c : Nat) => (c : Int)) := by
 have key := Nw R (body := Cs l) (fun s c => s ++ [(c : Int)]) (fun _ _ => true) (fun s c => (s.length : Int) + (c + 1) ≤ 1099511627776) (fun s c hc hcn hI => by
  unfold Cs JD
  dsimp only
  have hr := R c hc hcn
  rw [A1 (by rw [Az]; omega), A1 (by rw [Az]; omega), C9 (by simp; omega), Amn, Amn]
  dsimp only
  rw [A1 rfl, Bv hc, Amn, Ay (by rw [Az]; omega), A1 rfl]) (fun s c hc hcn hI => by
  have hr := R c hc hcn
  rw [Amr, List.length_singleton]
  omega) (fun s c hc => by
  unfold Cs
  dsimp only
  rw [Ay (by rw [Az]; omega)]) (c.toNat + 1) c [] (by omega) hn hl (by simp; omega)
 unfold DR
 rw [key, Amn, Se (fun c => [(c : Int)])]
 rw [List.nil_append, Akw (fun c : Nat => (c : Int))]
theorem XH (l : List A9) {n : Nat} (R : Ee l n) (hnb : n ≤ 1048576) (c : Int) (hn : c < n) (hl : c < l.length) :
  Jl l c = some ((Dh l c).map fun (c : Nat) => (c : Int)) := by
 have key : ∀ (k : Nat) (c : Int) (out : List Int), c < k → c < n → c < l.length → (out.length : Int) + (c + 1) ≤ l.length ∧ (out.length : Int) + (c + 1) ≤ 1048577 → AQ (FG l) (c, out) = some (out ++ (Dh l c).map fun (c : Nat) => (c : Int)) := by
  intro k
  induction k with
  | zero =>
   intro c out hk hn hl ho
   rw [GV (by omega), Bm (r := out)]
   ·simp
   ·unfold FG
    rw [Ay (by rw [Az]; dsimp only; omega)]
  | succ k ih =>
   intro c out hk hn hl ho
   by_cases h0 : 0 ≤ c
   ·obtain ⟨c, rfl⟩ := Am2 h0
    have hr := R c (by omega) (by omega)
    rw [J6 R c (by omega) (by omega), BQ (s' := (l[c].Bn, out ++ [(c : Int)]))]
    ·rw [ih _ _ (by omega) (by omega) (by omega) (by rw [Amr, List.length_singleton]; omega)]
     simp
    ·unfold FG
     dsimp only
     rw [A1 (by rw [Az]; omega), A1 (by rw [Az]; omega), A1 (by rw [Az]; omega), C9 (by simp; omega), Amn, Bv (by omega), Amn]
   ·rw [GV (by omega), Bm (r := out)]
    ·simp
    ·unfold FG
     rw [Ay (by rw [Az]; dsimp only; omega)]
 unfold Jl
 rw [key (c.toNat + 1) c [] (by omega) hn hl (by simp; omega), Amn, List.nil_append]
def Cm (l : List A9) (c : Int) : List B1 := (Dh l c).reverse.flatMap (Lj l)
theorem Ww (l : List A9) (h : FB l) (L : List Nat) (hL : ∀ x ∈ L, x < l.length) (hb : L.length ≤ 1048576) {body : List B1 × Int → Option ((List B1 × Int) ⊕ List B1)}
  (he : body = DK l (L.map fun (c : Nat) => (c : Int))) : AQ body ([], wr (((L.map fun (c : Nat) => (c : Int)).length : Int) - 1)) = some (L.reverse.flatMap (Lj l)) := by
 subst he
 rw [Ams, Cc (by omega) (by omega)]
 have key : ∀ (k : Nat) (acc : List B1), k ≤ L.length → acc.length + k * 1048576 ≤ 1099511627776 → AQ (DK l (L.map fun (c : Nat) => (c : Int))) (acc, (k : Int) - 1) = some (acc ++ (L.take k).reverse.flatMap (Lj l)) := by
  intro k
  induction k with
  | zero =>
   intro acc _ _
   rw [Bm (r := acc)]
   ·simp
   ·unfold DK
    rw [Ay (by rw [Az]; dsimp only; omega)]
  | succ k ih =>
   intro acc hk ha
   have hx : L[k]'(by omega) < l.length := hL _ (Amx _)
   have hlen : (Lj l (L[k]'(by omega))).length ≤ 1048576 := Uu h _
   rw [BQ (s' := (acc ++ Lj l (L[k]'(by omega)), (k : Int) - 1))]
   ·rw [ih _ (by omega) (by rw [Amr]; omega), show L.take (k + 1) = L.take k ++ [L[k]'(by omega)] by rw [List.take_add_one, Amq (by omega)]; rfl, List.reverse_append, List.reverse_singleton, List.singleton_append, List.flatMap_cons, Amy]
   ·unfold DK
    dsimp only
    rw [show (((k + 1 : Nat) : Int) - 1) = (k : Int) by omega, A1 (by rw [Az]; omega), Bv (by rw [Ams]; omega), Amn, List.getElem_map, Bv hx, Amn,
     C9 (by rw [PV hx] at hlen; omega), Amn, Cc (by omega) (by omega), PV hx]
 have := key L.length [] (Nat.le_refl _) (by simp; omega)
 rw [this, Am0, List.nil_append]
theorem Aal (l : List A9) (h : FB l) {n : Nat} (R : Ee l n) (hnb : n ≤ 1048576) (c : Int) (hn : c < n) (hl : c < l.length) : EY l c = some (Cm l c) := by
 unfold EY
 have hlen := OM R (c.toNat + 1) c (by omega) hn hl
 rw [Abp l R hnb c hn hl, Amn, Ww l h (Dh l c) (fun x hx => (Mg R (c.toNat + 1) c (by omega) hn hl x hx).2) (by
  omega) rfl, Amn]
 rfl
theorem Vf (l : List A9) (h : FB l) {n : Nat} (R : Ee l n) (hnb : n ≤ 1048576) (c : Int) (hn : c < n) (hl : c < l.length) : Dy l c = some (Cm l c) := by
 unfold Dy
 have hlen := OM R (c.toNat + 1) c (by omega) hn hl
 have hd := Ww l h (Dh l c) (fun x hx => (Mg R (c.toNat + 1) c (by omega) hn hl x hx).2) (by omega) (body := Lr l ((Dh l c).map fun (c : Nat) => (c : Int))) rfl
 rw [XH l R hnb c hn hl, Amn, hd, Amn]
 rfl
end Go.Proofs.YtfcpkcehecmcpaaGreat
namespace Go.Proofs.YtfcpkcehecmcpaaGreat
open Go Go.RowKit Go.Pv
theorem Uz {R : Type} (n : Nat) {body : Int → Option (Int ⊕ R)} (f : Nat → Option R) {r0 : R}
  (hs : ∀ i, i < n → (∀ j, j < i → f j = none) → body (i : Int) = match f i with | some r => some (.inr r) | none => some (.inl ((i + 1 : Nat) : Int))) (he : (∀ j, j < n → f j = none) → body (n : Int) = some (.inr r0)) :
  AQ body 0 = some (((List.range n).findSome? f).getD r0) := by
 have key : ∀ k i, i + k = n → (∀ j, j < i → f j = none) → AQ body (i : Int) = some (((List.range' i k).findSome? f).getD r0) := by
  intro k
  induction k with
  | zero =>
   intro i hi hj
   have : i = n := by omega
   subst this
   rw [Bm (he hj)]; rfl
  | succ k ih =>
   intro i hi hj
   have h1 := hs i (by omega) hj
   rw [List.range'_succ, List.findSome?_cons]
   rcases hf : f i with _ | r
   ·rw [hf] at h1
    rw [BQ h1]
    exact ih (i + 1) (by omega) (fun j hj' => by
     rcases Nat.lt_succ_iff_lt_or_eq.1 hj' with h | h
     ·exact hj j h
     ·rw [h]; exact hf)
   ·rw [hf] at h1
    rw [Bm h1]; rfl
 have := key n 0 (by omega) (fun j h => by omega)
 rw [List.range_eq_range']
 exact this
theorem WZ (l : List (List UInt8)) (hl : l.length ≤ 1099511627776) (x : List UInt8) : Cr l x = some (l.any fun y => x == y) := by
 unfold Cr
 obtain ⟨r, h1, h2, _⟩ := KL l (fun y => x == y) (body := BV l x) (fun i hi => by
  unfold BV
  rw [A1 (by rw [Az]; omega), Bv hi, Amn, CU (by omega)]) (by
  unfold BV
  rw [Ay (by rw [Az]; omega)])
 have h1' : DZ l x = some r := h1
 rw [h1', Amn, h2]
theorem ZU (l : List B1) (hl : l.length ≤ 1099511627776) (x : List UInt8) : LV l x = some (l.any fun y => y.Name == x) := by
 have := XE l (fun y => y.Name == x) (body := Iz l x) (fun i hi => by
  unfold Iz
  rw [A1 (by rw [Az]; omega), Bv hi, Amn, CU (by omega)]) (by
  unfold Iz
  rw [Ay (by rw [Az]; omega)])
 exact this
theorem Acj {R S : Type} (L : List Nat) (P : Nat → Option R) (f : R → S) : L.findSome? (fun i => (P i).map f) = (L.findSome? P).map f := by
 induction L with
 | nil => rfl
 | cons x l ih => simp only [List.findSome?_cons]; rcases P x with _ | r <;> simp [ih]
def PO (l : List A9) (all own : List B1) (i : Nat) : Option Int := match own[i]? with
 | none => none
 | some f => if Nn f.Name = false then some 6 else if (all.any fun y => y.Name == f.Name) = true ∨ ((own.take i).any fun y => y.Name == f.Name) = true then some 20 else if st l f.HH = false then some 22 else none
def LX (l : List A9) (all own : List B1) : Int := ((List.range own.length).findSome? (PO l all own)).getD (if 32 < all.length + own.length then 4 else 0)
def IM (l : List A9) (c : Nat) : Int := match l[c]? with
 | none => 0
 | some x => if 32 ≤ c then 4 else if Nn x.Name = false then 6 else if (wordsL.any fun y => x.Name == y) = true then 6 else if ((l.take c).any fun y => y.Name == x.Name) = true then 20
  else if x.Bn < -1 ∨ (c : Int) ≤ x.Bn then 21 else LX l (Cm l x.Bn) x.Fields
theorem Tv {α β : Type} (f : α → List β) (n : Nat) : ∀ (L : List α), (∀ x ∈ L, (f x).length ≤ n) → (L.flatMap f).length ≤ L.length * n
 | [], _ => by simp
 | x :: L, h => by
  rw [List.flatMap_cons, Amr, List.length_cons]
  have h1 := h x (by simp)
  have h2 := Tv f n L (fun y hy => h y (by simp [hy]))
  rw [Nat.succ_mul]
  omega
theorem Sv {α β : Type} (f : α → List β) : ∀ (L : List α), (L.reverse.flatMap f).length = (L.flatMap f).length
 | [] => rfl
 | x :: L => by
  rw [List.reverse_cons, List.flatMap_append, Amr, Sv f L, List.flatMap_cons, Amr]
  simp
  omega
theorem Adu (l : List A9) (p : Int) (x : List UInt8) : (((Dh l p).flatMap fun c => (Lj l c).map (·.Name)).any fun y => x == y) = ((Cm l p).any fun y => y.Name == x) := by
 rw [Am4, List.any_eq_true, List.any_eq_true]
 constructor
 ·rintro ⟨y, hy, he⟩
  obtain ⟨c, hc, hy⟩ := List.mem_flatMap.1 hy
  obtain ⟨f, hf, rfl⟩ := List.mem_map.1 hy
  refine ⟨f, List.mem_flatMap.2 ⟨c, by simpa using hc, hf⟩, ?_⟩
  rw [AG] at he ⊢
  exact he.symm
 ·rintro ⟨f, hf, he⟩
  obtain ⟨c, hc, hf⟩ := List.mem_flatMap.1 hf
  refine ⟨f.Name, List.mem_flatMap.2 ⟨c, by simpa using hc, List.mem_map.2 ⟨f, hf, rfl⟩⟩, ?_⟩
  rw [AG] at he ⊢
  exact he.symm
theorem Ad8 (l : List A9) (p : Int) : ((Dh l p).flatMap fun c => (Lj l c).map (·.Name)).length = (Cm l p).length := by
 unfold Cm
 rw [Sv, List.length_flatMap, List.length_flatMap]
 simp
theorem Ti (l : List A9) (h : FB l) {n : Nat} (R : Ee l n) (hn32 : n ≤ 64) (c : Int) (hn : c < n) (hl : c < l.length) : (Cm l c).length ≤ 67108864 := by
 unfold Cm
 have h1 := Tv (Lj l) 1048576 (Dh l c).reverse (fun x _ => Uu h x)
 have h2 := OM R (c.toNat + 1) c (by omega) hn hl
 rw [List.length_reverse] at h1
 have h3 : (Dh l c).length ≤ 64 := by omega
 omega
theorem VA (M : List (List UInt8)) (own : List B1) (i : Nat) (x : List UInt8) : ((M ++ (own.take i).map (·.Name)).any fun y => x == y) = ((M.any fun y => x == y) || ((own.take i).any fun y => y.Name == x)) := by
 rw [List.any_append, List.any_map]
 congr 2
 funext y
 show (x == y.Name) = (y.Name == x)
 rw [Am4, AG, AG]; exact eq_comm
theorem Za (l : List A9) (h : FB l) {n : Nat} (R : Ee l n) (hn32 : n ≤ 64) (c : Nat) (hc : c < l.length) (hp : l[c].Bn < n) (hpl : l[c].Bn < l.length) :
  Kn l (c : Int) = some (LX l (Cm l l[c].Bn) l[c].Fields) := by
 unfold Kn
 rw [Bv hc, Amn, Zn l h R hn32 _ hp hpl, Amn, Amn]
 have hN := Ad8 l l[c].Bn
 have hA := Adu l l[c].Bn
 have hL := Ti l h R hn32 _ hp hpl
 have hf : l[c].Fields.length ≤ 1048576 := h.2 _ (Amx hc)
 generalize hM : ((Dh l l[c].Bn).flatMap fun c => (Lj l c).map (·.Name)) = M at *
 generalize hall : Cm l l[c].Bn = all at *
 generalize hown : l[c] = x at *
 -- the loop
 have key : ∀ k i, i + k = x.Fields.length → AQ (EF l x) (M ++ (x.Fields.take i).map (·.Name), (i : Int)) = some (((List.range' i k).findSome? fun i => (PO l all x.Fields i).map Sum.inl).getD (.inr (M ++ x.Fields.map (·.Name)))) := by
  intro k
  induction k with
  | zero =>
   intro i hi
   have : i = x.Fields.length := by omega
   subst this
   rw [Bm (r := .inr (M ++ x.Fields.map (·.Name)))]
   ·rfl
   ·unfold EF
    dsimp only
    rw [Ay (by rw [Az]; omega), Am0]
  | succ k ih =>
   intro i hi
   have hi' : i < x.Fields.length := by omega
   have hb : EF l x (M ++ (x.Fields.take i).map (·.Name), (i : Int)) = match PO l all x.Fields i with
    | some e => some (.inr (.inl e))
    | none => some (.inl (M ++ (x.Fields.take (i + 1)).map (·.Name), ((i + 1 : Nat) : Int))) := by
    unfold EF PO
    dsimp only
    rw [A1 (by rw [Az]; omega), Bv hi', Amn, Q8, Amn, Amq hi']
    dsimp only
    rcases hn : Nn x.Fields[i].Name with _ | _
    ·rfl
    ·rw [Ay (c := (!true) = true) (by simp), Ay (c := true = false) (by simp), WZ _ (by simp; omega), Amn, VA, hA]
     by_cases h1 : (all.any fun y => y.Name == x.Fields[i].Name) = true ∨ ((x.Fields.take i).any fun y => y.Name == x.Fields[i].Name) = true
     ·rw [A1 (by rw [Am5]; exact h1), A1 h1]
     ·rw [Ay (by rw [Am5]; exact h1), Ay h1, YY, Amn]
      rcases hs : st l x.Fields[i].HH with _ | _
      ·rfl
      ·rw [Ay (c := (!true) = true) (by simp), Ay (c := true = false) (by simp), C9 (by simp; omega), Amn, CU (by omega), NK (·.Name) _ i hi', Amy]
   rw [List.range'_succ, List.findSome?_cons]
   rcases hff : PO l all x.Fields i with _ | e
   ·rw [hff] at hb
    rw [BQ hb]
    exact ih (i + 1) (by omega)
   ·rw [hff] at hb
    rw [Bm hb]; rfl
 have := key x.Fields.length 0 (by omega)
 rw [List.take_zero, List.map_nil, List.append_nil] at this
 rw [show ((0 : Nat) : Int) = 0 from rfl] at this
 rw [this, Amn]
 unfold LX
 rw [List.range_eq_range']
 have hm := Acj (List.range' 0 x.Fields.length) (PO l all x.Fields) (Sum.inl : Int → Int ⊕ List (List UInt8))
 rw [hm]
 rcases (List.range' 0 x.Fields.length).findSome? (PO l all x.Fields) with _ | e
 ·simp only [Option.map_none, Option.getD_none]
  rw [Amr, Ams, hN]
  by_cases h32 : 32 < all.length + x.Fields.length
  ·rw [A1 (by rw [Az]; omega), A1 h32]
  ·rw [Ay (by rw [Az]; omega), Ay h32]
 ·rfl
end Go.Proofs.YtfcpkcehecmcpaaGreat
namespace Go.Proofs.YtfcpkcehecmcpaaGreat
open Go Go.RowKit Go.Pv
theorem PM {α β : Type} {f g : α → Option β} : ∀ {l : List α}, (∀ x ∈ l, f x = g x) → l.findSome? f = l.findSome? g
 | [], _ => rfl
 | x :: l, h => by rw [List.findSome?_cons, List.findSome?_cons, h x (by simp), PM fun y hy => h y (by simp [hy])]
theorem Qk {α β : Type} (o : Option α) (d : β) : ((o.map (Sum.inl : α → α ⊕ β)).getD (.inr d)) = match o with | some e => .inl e | none => .inr d := by cases o <;> rfl
theorem Zf (l : List A9) (h : FB l) (x : A9) (all : List B1) (hL : all.length ≤ 67108864) (hf : x.Fields.length ≤ 1048576) :
  ((AQ (Fp l x all) 0).bind fun o => match o with
   | .inl p => some p
   | .inr _ => if decide ((x.Fields.length : Int) > wr (32 - (all.length : Int))) = true then some 4 else some 0) = some (LX l all x.Fields) := by
 have hl := FO (R := Int ⊕ Unit) x.Fields.length (body := Fp l x all) (fun i => (PO l all x.Fields i).map .inl) (r0 := .inr ()) (fun i hi => by
  unfold Fp PO
  rw [A1 (by rw [Az]; omega), Bv hi, Amn, Vi, Amn, Amq hi]
  dsimp only
  rcases hn : Nn x.Fields[i].Name with _ | _
  ·rfl
  ·rw [Ay (c := (!true) = true) (by simp), Ay (c := true = false) (by simp), ZU _ (by omega), Amn]
   rcases h1 : (all.any fun y => y.Name == x.Fields[i].Name) with _ | _
   ·rw [Ay (c := false = true) (by simp), LD (by omega), Amn, Am1, Int.toNat_zero, List.drop_zero, ZU _ (by rw [List.length_take]; omega), Amn]
    rcases h2 : ((x.Fields.take i).any fun y => y.Name == x.Fields[i].Name) with _ | _
    ·rw [Ay (c := false = true) (by simp), Ay (c := false = true ∨ false = true) (by simp), Py, Amn]
     rcases hs : st l x.Fields[i].HH with _ | _
     ·rfl
     ·rw [Ay (c := (!true) = true) (by simp), Ay (c := true = false) (by simp), CU (by omega)]; rfl
    ·rw [A1 rfl, A1 (Or.inr rfl)]; rfl
   ·rw [A1 rfl, A1 (Or.inl rfl)]; rfl) (by
  unfold Fp
  rw [Ay (by rw [Az]; omega)])
 rw [hl, Amn, IX, Qk]
 unfold LX
 rcases (List.range x.Fields.length).findSome? (PO l all x.Fields) with _ | e
 ·simp only [Option.getD_none]
  rw [Cc (by omega) (by omega)]
  by_cases h32 : 32 < all.length + x.Fields.length
  ·rw [A1 (by rw [Az]; omega), A1 h32]
  ·rw [Ay (by rw [Az]; omega), Ay h32]
 ·rfl
theorem Aco (l : List A9) (h : FB l) (c : Nat) (hc : c ≤ l.length) (x : A9) : BZ (l.take c) x = some ((l.take c).any fun y => y.Name == x.Name) := by
 have hb : l.length ≤ 1048576 := h.1
 unfold BZ
 obtain ⟨r, h1, h2, _⟩ := KL (l.take c) (fun y => y.Name == x.Name) (body := B6 (l.take c) x) (fun i hi => by
  unfold B6 Kk
  have hi' : i < c := by rw [List.length_take] at hi; omega
  rw [A1 (by rw [Az]; omega), Bv hi, Amn, Amn, CU (by omega)]) (by
  unfold B6
  rw [Ay (by rw [Az]; omega)])
 have h1' : C5 (l.take c) x = some r := h1
 rw [show (⟨x.Name, x.Bn, x.Fields⟩ : A9) = x from rfl, h1', Amn, h2]
theorem Ad6 (l : List A9) (h : FB l) (c : Nat) (hc : c < l.length) (R : Ee l c) : Ku l (c : Int) = some (IM l c) := by
 have hb : l.length ≤ 1048576 := h.1
 unfold Ku IM
 rw [Bv hc, Amn, Amq hc]
 dsimp only
 by_cases h32 : 32 ≤ c
 ·rw [A1 (by rw [Az]; omega), A1 h32]
 rw [Ay (by rw [Az]; omega), Ay h32, Vi, Amn]
 rcases Nn l[c].Name with _ | _
 ·rfl
 rw [Ay (c := (!true) = true) (by simp), Ay (c := true = false) (by simp), Aa3, Amn]
 rcases (wordsL.any fun y => l[c].Name == y) with _ | _
 rotate_left
 ·rfl
 rw [Ay (c := false = true) (by simp), Ay (c := false = true) (by simp)]
 have hl := FO (R := Int ⊕ Unit) c (body := GQ l (c : Int) l[c]) (fun i => (Kb l (fun y => y.Name == l[c].Name) i).map fun _ => .inl 20) (r0 := .inr ()) (fun i hi => by
  unfold GQ
  rw [A1 (by rw [Az]; omega), Bv (by omega), Amn, CU (by omega), Mh (by omega)]
  split <;> rfl) (by
  unfold GQ
  rw [Ay (by rw [Az]; omega)])
 rw [hl, Amn, IX]
 have hany : ((List.range c).findSome? (Kb l fun y => y.Name == l[c].Name)).isSome = ((l.take c).any fun y => y.Name == l[c].Name) := by
  have hn := O5 (l.take c) fun y => y.Name == l[c].Name
  have e : (List.range (l.take c).length).findSome? (Kb (l.take c) fun y => y.Name == l[c].Name) = (List.range c).findSome? (Kb l fun y => y.Name == l[c].Name) := by
   rw [List.length_take, Nat.min_eq_left (by omega)]
   apply PM
   intro i hi
   have hi' := List.mem_range.1 hi
   unfold Kb
   rw [List.getElem?_take_of_lt hi']
  rw [e] at hn
  rcases hf : (List.range c).findSome? (Kb l fun y => y.Name == l[c].Name) with _ | r
  ·rw [hn.1 hf]; rfl
  ·rcases hb : (l.take c).any fun y => y.Name == l[c].Name with _ | _
   ·rw [hn.2 hb] at hf; cases hf
   ·rfl
 rw [← hany]
 rcases (List.range c).findSome? (Kb l fun y => y.Name == l[c].Name) with _ | r
 rotate_left
 ·rfl
 simp only [Option.map_none, Option.getD_none, Option.isSome_none, Bool.false_eq_true, if_false]
 by_cases hp1 : l[c].Bn < -1
 ·rw [A1 (by rw [Az]; omega), A1 (Or.inl hp1)]
 rw [Ay (by rw [Az]; omega)]
 by_cases hp2 : (c : Int) ≤ l[c].Bn
 ·rw [A1 (by rw [Az]; omega), A1 (Or.inr hp2)]
 rw [Ay (by rw [Az]; omega), Ay (by omega), Vf l h R (by omega) _ (by omega) (by omega), Amn]
 exact Zf l h l[c] _ (Ti l h R (by omega) _ (by omega) (by omega)) (h.2 _ (Amx hc))
end Go.Proofs.YtfcpkcehecmcpaaGreat
namespace Go.Proofs.YtfcpkcehecmcpaaGreat
open Go Go.RowKit Go.Pv
structure Good (l : List A9) : Prop where
 tab : FB l
 few : l.length ≤ 32
 right : Ee l l.length
 fields : ∀ c, c < l.length → (Cm l (c : Int)).length ≤ 32
 stored : ∀ (c : Nat) (h : c < l.length), ∀ f ∈ l[c].Fields, st l f.HH = true
theorem XJ {l : List A9} {all own : List B1} (h : LX l all own = 0) : all.length + own.length ≤ 32 ∧ ∀ f ∈ own, st l f.HH = true := by
 unfold LX at h
 rcases hf : (List.range own.length).findSome? (PO l all own) with _ | e
 ·rw [hf, Option.getD_none] at h
  constructor
  ·by_cases h32 : 32 < all.length + own.length
   ·rw [A1 h32] at h; cases h
   ·omega
  ·intro f hfm
   obtain ⟨i, hi, rfl⟩ := List.mem_iff_getElem.1 hfm
   have := (List.findSome?_eq_none_iff.1 hf) i (List.mem_range.2 hi)
   unfold PO at this
   rw [Amq hi] at this
   dsimp only at this
   split at this
   ·cases this
   ·split at this
    ·cases this
    ·split at this
     ·cases this
     ·rename_i hs; simpa using hs
 ·rw [hf, Option.getD_some] at h
  subst h
  obtain ⟨i, hi, hr⟩ := List.exists_of_findSome?_eq_some hf
  unfold PO at hr
  split at hr
  ·cases hr
  ·repeat' split at hr
   all_goals cases hr
theorem Lx {l : List A9} {c : Nat} (hc : c < l.length) (h : IM l c = 0) : c < 32 ∧ -1 ≤ l[c].Bn ∧ l[c].Bn < c ∧ (Cm l l[c].Bn).length + l[c].Fields.length ≤ 32 ∧ ∀ f ∈ l[c].Fields, st l f.HH = true := by
 unfold IM at h
 rw [Amq hc] at h
 dsimp only at h
 split at h
 ·cases h
 ·split at h
  ·cases h
  ·split at h
   ·cases h
   ·split at h
    ·cases h
    ·split at h
     ·cases h
     ·have := XJ h
      exact ⟨by omega, by omega, by omega, this.1, this.2⟩
theorem Xr {l : List A9} {n : Nat} (R : Ee l n) (c : Nat) (h : c < l.length) (hn : c < n) : Cm l (c : Int) = Cm l l[c].Bn ++ l[c].Fields := by
 unfold Cm
 rw [J6 R c h hn, List.reverse_cons, List.flatMap_append]
 simp [PV h]
theorem Ub {l : List A9} (n : Nat) (h : ∀ j, j < n → j < l.length → IM l j = 0) : Ee l n := fun i hi hn => ⟨(Lx hi (h i hn hi)).2.1, (Lx hi (h i hn hi)).2.2.1⟩
def Mv (l : List A9) (c : Nat) : Option (Int × Int) := if IM l c = 0 then none else some ((c : Int), IM l c)
def LG (l : List A9) : Int × Int := ((List.range l.length).findSome? (Mv l)).getD (0, 0)
theorem Re {l : List A9} {c : Nat} (h : Mv l c = none) : IM l c = 0 := by
 unfold Mv at h
 split at h
 ·assumption
 ·cases h
theorem Ahn {l : List A9} (h : FB l) (hv : (LG l).2 = 0) : Good l := by
 have h0 : ∀ j, j < l.length → IM l j = 0 := by
  unfold LG at hv
  rcases hf : (List.range l.length).findSome? (Mv l) with _ | e
  ·intro j hj
   exact Re ((List.findSome?_eq_none_iff.1 hf) j (List.mem_range.2 hj))
  ·rw [hf, Option.getD_some] at hv
   obtain ⟨i, hi, hr⟩ := List.exists_of_findSome?_eq_some hf
   unfold Mv at hr
   split at hr
   ·cases hr
   ·rename_i hne; cases hr; exact absurd hv hne
 have R : Ee l l.length := Ub _ fun j hj _ => h0 j hj
 refine ⟨h, ?_, R, ?_, ?_⟩
 ·rcases hl : l.length with _ | k
  ·omega
  ·have := (Lx (c := k) (by omega) (h0 k (by omega))).1; omega
 ·intro c hc
  rw [Xr R c hc hc, Amr]
  exact (Lx hc (h0 c hc)).2.2.2.1
 ·intro c hc
  exact (Lx hc (h0 c hc)).2.2.2.2
theorem Mm (l : List A9) (h : FB l) : ID l = some (LG l) := by
 have hb : l.length ≤ 1048576 := h.1
 have hl := Uz (R := (Int × Int) ⊕ Unit) l.length (body := GN l) (fun c => (Mv l c).map .inl) (r0 := .inr ()) (fun c hc hj => by
  unfold GN
  have R : Ee l c := Ub c fun j hj' _ => Re (by have := hj j hj'; simpa using this)
  rw [A1 (by rw [Az]; omega), Ad6 l h c hc R, Amn, CU (by omega)]
  unfold Mv
  by_cases h0 : IM l c = 0
  ·rw [Ay (by rw [AN]; exact fun hn => hn h0), A1 h0]; rfl
  ·rw [A1 (by rw [AN]; exact h0), Ay h0]; rfl) (fun _ => by
  unfold GN
  rw [Ay (by rw [Az]; omega)])
 unfold ID
 rw [hl, Amn, IX, Qk]
 unfold LG
 rcases (List.range l.length).findSome? (Mv l) with _ | e <;> rfl
theorem Aa8 (l : List A9) (h : FB l) (c : Nat) (hc : c < l.length) (R : Ee l c) : Fw l (c : Int) = match (Mv l c).map Sum.inl with | some r => some (.inr r) | none => some (.inl ((c + 1 : Nat) : Int)) := by
 have hb : l.length ≤ 1048576 := h.1
 have key : ∀ e : Int, e = IM l c → ((some e).bind fun o => if (o != 0) = true then some (.inr (.inl ((c : Int), o))) else some (.inl (wr ((c : Int) + 1)))) = (match (Mv l c).map (Sum.inl : Int × Int → (Int × Int) ⊕ Unit) with | some r => some (Sum.inr r) | none => some (Sum.inl ((c + 1 : Nat) : Int)) : Option (Int ⊕ ((Int × Int) ⊕ Unit))) := by
  intro e he
  subst he
  rw [Amn, CU (by omega)]
  unfold Mv
  by_cases h0 : IM l c = 0
  ·rw [Ay (by rw [AN]; exact fun hn => hn h0), A1 h0]; rfl
  ·rw [A1 (by rw [AN]; exact h0), Ay h0]; rfl
 unfold Fw
 rw [A1 (by rw [Az]; omega), Bv hc, Amn]
 have hv : IM l c = if 32 ≤ c then 4 else if Nn l[c].Name = false then 6 else if (wordsL.any fun y => l[c].Name == y) = true then 6 else if ((l.take c).any fun y => y.Name == l[c].Name) = true then 20
  else if l[c].Bn < -1 ∨ (c : Int) ≤ l[c].Bn then 21 else LX l (Cm l l[c].Bn) l[c].Fields := by
  unfold IM
  rw [Amq hc]
 by_cases h32 : 32 ≤ c
 ·rw [A1 (by rw [Az]; omega)]
  exact key 4 (by rw [hv, A1 h32])
 rw [Ay (by rw [Az]; omega), Q8, Amn]
 rw [Ay h32] at hv
 rcases hn : Nn l[c].Name with _ | _
 ·rw [hn, A1 rfl] at hv
  exact key 6 hv.symm
 rw [hn, Ay (c := true = false) (by simp)] at hv
 rw [Ay (c := (!true) = true) (by simp), Acv, Amn, YH wordsL (by decide), Amn]
 rcases hw : (wordsL.any fun y => l[c].Name == y) with _ | _
 rotate_left
 ·rw [hw, A1 rfl] at hv
  exact key 6 hv.symm
 rw [hw, Ay (c := false = true) (by simp)] at hv
 rw [Ay (c := false = true) (by simp), LD (by omega), Amn, Am1, Int.toNat_zero, List.drop_zero, show (⟨l[c].Name, l[c].Bn, l[c].Fields⟩ : A9) = l[c] from rfl, Aco l h c (by omega), Amn]
 rcases ht : ((l.take c).any fun y => y.Name == l[c].Name) with _ | _
 rotate_left
 ·rw [ht, A1 rfl] at hv
  exact key 20 hv.symm
 rw [ht, Ay (c := false = true) (by simp)] at hv
 rw [Ay (c := false = true) (by simp)]
 by_cases hp1 : l[c].Bn < -1
 ·rw [A1 (by rw [Az]; omega)]
  exact key 21 (by rw [hv, A1 (Or.inl hp1)])
 rw [Ay (by rw [Az]; omega)]
 by_cases hp2 : (c : Int) ≤ l[c].Bn
 ·rw [A1 (by rw [Az]; omega)]
  exact key 21 (by rw [hv, A1 (Or.inr hp2)])
 rw [Ay (by rw [Az]; omega), Za l h R (by omega) c hc (by omega) (by omega), Amn]
 exact key _ (by rw [hv, Ay (by omega)])
theorem WO (l : List A9) (h : FB l) : JO l = some (LG l) := by
 have hb : l.length ≤ 1048576 := h.1
 have hl := Uz (R := (Int × Int) ⊕ Unit) l.length (body := Fw l) (fun c => (Mv l c).map .inl) (r0 := .inr ()) (fun c hc hj => by
  rw [Aa8 l h c hc (Ub c fun j hj' _ => Re (by have := hj j hj'; simpa using this))]
  rcases Mv l c with _ | _ <;> rfl) (fun _ => by
  unfold Fw
  rw [Ay (by rw [Az]; omega)])
 unfold JO
 rw [hl, Amn, IX, Qk]
 unfold LG
 rcases (List.range l.length).findSome? (Mv l) with _ | e <;> rfl
end Go.Proofs.YtfcpkcehecmcpaaGreat
namespace Go.Proofs.YtfcpkcehecmcpaaGreat
open Go Go.RowKit Go.Pv
def Le (l : List A9) (a b : UInt8) : Prop := tv l a = true ∧ tv l b = true ∧ (a = b ∨ b.toNat = 0 ∨ (a.toNat = 3 ∧ rf b = true) ∨ (rf a = true ∧ b.toNat = 5) ∨ (16 ≤ a.toNat ∧ 16 ≤ b.toNat ∧ (b.toNat - 16) ∈ Dh l ((a.toNat - 16 : Nat) : Int)))
instance (l : List A9) (a b : UInt8) : Decidable (Le l a b) := by unfold Le; infer_instance
theorem LA {l : List A9} {t : UInt8} (h : tv l t = true) (h16 : 16 ≤ t.toNat) : W9 l t = ((t.toNat - 16 : Nat) : Int) ∧ t.toNat - 16 < l.length := by
 unfold tv at h
 simp only [Am5, Am3, Az] at h
 have h2 : t.toNat - 16 < l.length := by omega
 unfold W9
 rw [A1 ⟨h16, h2⟩]
 exact ⟨rfl, h2⟩
theorem U5 {l : List A9} {t : UInt8} (h16 : ¬ 16 ≤ t.toNat) : W9 l t = -1 := by
 unfold W9
 rw [Ay (by omega)]
theorem W5 {l : List A9} (G : Good l) (y : Int) : ∀ (L : List Nat) (s : Bool), PE (fun s c => (c : Int) == y) (fun s c => !((c : Int) == y)) L s = if L = [] then s else L.any fun c => (c : Int) == y
 | [], s => rfl
 | c :: r, s => by
  rw [PE, W5 G y r]
  rcases hc : ((c : Int) == y) with _ | _
  ·rw [A1 (c := (!false) = true) (by simp), Ay (c := c :: r = []) (by simp), List.any_cons, hc, Bool.false_or]
   split
   ·rename_i h; rw [h]; rfl
   ·rfl
  ·rw [Ay (c := (!true) = true) (by simp), Ay (c := c :: r = []) (by simp), List.any_cons, hc, Bool.true_or]
theorem VY (l : List A9) (G : Good l) (c : Int) (hc : c < l.length) (y : Int) : JW l c y = some ((Dh l c).any fun x => (x : Int) == y) := by
 have hb : l.length ≤ 1048576 := G.tab.1
 have key := Nw G.right (body := CY l y) (fun s c => (c : Int) == y) (fun s c => !((c : Int) == y)) (fun _ _ => True) (fun s c hc hcn hI => by
  unfold CY Kh
  dsimp only
  have hr := G.right c hc hcn
  rw [A1 (by rw [Az]; omega), A1 (by rw [Az]; omega), Amn]
  dsimp only
  rcases h : ((c : Int) == y) with _ | _
  ·rw [A1 (by simp), Bv hc, Amn, Ay (by rw [Az]; omega), A1 (by simp)]
  ·rw [Ay (by simp), Ay (by simp)]) (fun _ _ _ _ _ => trivial) (fun s c hc => by
  unfold CY
  dsimp only
  rw [Ay (by rw [Az]; omega)]) (c.toNat + 1) c false (by omega) hc hc trivial
 unfold JW Gh
 rw [key, Amn]
 simp only [Amn]
 rw [W5 G]
 split
 ·rename_i h; rw [h]; rfl
 ·rfl
theorem TW (l : List A9) (c : Int) (y : Nat) : ((Dh l c).any fun x => (x : Int) == (y : Int)) = decide (y ∈ Dh l c) := by
 rw [Am4, List.any_eq_true, Az]
 constructor
 ·rintro ⟨x, hx, h⟩
  rw [AG] at h
  rw [← Int.ofNat_inj.1 h]; exact hx
 ·intro h; exact ⟨y, h, by simp⟩
theorem Aa5 {a b : UInt8} : ((a.toNat : Int) == (b.toNat : Int)) = decide (a = b) := by
 rw [Am4, AG, Az]
 constructor
 ·intro h; exact UInt8.toNat_inj.1 (by omega)
 ·rintro rfl; rfl
theorem le_iff {l : List A9} {a b : UInt8} (ha : tv l a = true) (hb : tv l b = true) : Le l a b ↔ (a = b ∨ b.toNat = 0 ∨ (a.toNat = 3 ∧ rf b = true) ∨ (rf a = true ∧ b.toNat = 5) ∨ (16 ≤ a.toNat ∧ 16 ≤ b.toNat ∧ (b.toNat - 16) ∈ Dh l ((a.toNat - 16 : Nat) : Int))) := by
 unfold Le
 rw [ha, hb]; simp
theorem Kq (t : UInt8) : rf t = true ↔ (t.toNat = 3 ∨ t.toNat = 4 ∨ t.toNat = 5 ∨ 16 ≤ t.toNat) := by unfold rf; simp
theorem VL (l : List A9) (G : Good l) (a b : UInt8) : KE l a b = some (decide (Le l a b)) := by
 unfold KE
 rw [JC, Amn]
 rcases ha : tv l a with _ | _
 ·rw [A1 (by simp), decide_eq_false (by unfold Le; rw [ha]; simp)]
 rw [Ay (by simp), JC, Amn]
 rcases hb : tv l b with _ | _
 ·rw [A1 (by simp), decide_eq_false (by unfold Le; rw [hb]; simp)]
 rw [Ay (by simp), Aa5, Ny, Ny, Ml, Ml]
 have hle := le_iff ha hb
 have hra := Kq a
 have hrb := Kq b
 simp only [Amn]
 by_cases h1 : a = b
 ·rw [A1 (by simpa using h1), decide_eq_true (hle.2 (Or.inl h1))]
 rw [Ay (by simpa using h1)]
 by_cases h2 : b.toNat = 0
 ·rw [A1 (by rw [AG]; omega), decide_eq_true (hle.2 (Or.inr (Or.inl h2)))]
 rw [Ay (by rw [AG]; omega)]
 by_cases h3 : a.toNat = 3
 ·have hra' : rf a = true := hra.2 (Or.inl h3)
  rw [A1 (by rw [AG]; omega), A1 hra']
  congr 1
  rcases hr : rf b with _ | _
  ·symm; apply decide_eq_false
   intro hl
   have hn : ¬ (b.toNat = 3 ∨ b.toNat = 4 ∨ b.toNat = 5 ∨ 16 ≤ b.toNat) := fun h => by rw [hrb.2 h] at hr; cases hr
   rcases hle.1 hl with h | h | h | h | h
   ·exact h1 h
   ·exact h2 h
   ·rw [hr] at h; exact absurd h.2 (by simp)
   ·omega
   ·omega
  ·rw [decide_eq_true (hle.2 (Or.inr (Or.inr (Or.inl ⟨h3, hr⟩))))]
 rw [Ay (by rw [AG]; omega)]
 by_cases h5 : b.toNat = 5
 ·have hrb' : rf b = true := hrb.2 (Or.inr (Or.inr (Or.inl h5)))
  rw [A1 (by rw [AG]; omega)]
  rcases hr : rf a with _ | _
  ·rw [Ay (by simp)]
   congr 1; symm; apply decide_eq_false
   intro hl
   rcases hle.1 hl with h | h | h | h | h
   ·exact h1 h
   ·exact h2 h
   ·exact h3 h.1
   ·rw [hr] at h; exact absurd h.1 (by simp)
   ·omega
  ·rw [A1 rfl, hrb', decide_eq_true (hle.2 (Or.inr (Or.inr (Or.inr (Or.inl ⟨hr, h5⟩)))))]
 rw [Ay (by rw [AG]; omega)]
 by_cases ha16 : 16 ≤ a.toNat
 ·obtain ⟨e1, e2⟩ := LA ha ha16
  rw [e1, A1 (by rw [Az]; omega)]
  by_cases hb16 : 16 ≤ b.toNat
  ·obtain ⟨e3, e4⟩ := LA hb hb16
   rw [e3, A1 (by rw [Az]; omega), VY l G _ (by omega), TW, Amn]
   congr 1
   rw [decide_eq_decide]
   constructor
   ·intro h; exact hle.2 (Or.inr (Or.inr (Or.inr (Or.inr ⟨ha16, hb16, h⟩))))
   ·intro hl
    rcases hle.1 hl with h | h | h | h | h
    ·exact absurd h h1
    ·exact absurd h h2
    ·exact absurd h.1 h3
    ·exact absurd h.2 h5
    ·exact h.2.2
  ·rw [U5 hb16, Ay (by rw [Az]; omega)]
   congr 1; symm; apply decide_eq_false
   intro hl
   rcases hle.1 hl with h | h | h | h | h
   ·exact h1 h
   ·exact h2 h
   ·exact h3 h.1
   ·exact h5 h.2
   ·exact hb16 h.2.1
 ·rw [U5 ha16, Ay (by rw [Az]; omega)]
  congr 1; symm; apply decide_eq_false
  intro hl
  rcases hle.1 hl with h | h | h | h | h
  ·exact h1 h
  ·exact h2 h
  ·exact h3 h.1
  ·exact h5 h.2
  ·exact ha16 h.1
end Go.Proofs.YtfcpkcehecmcpaaGreat
namespace Go.Proofs.YtfcpkcehecmcpaaGreat
open Go Go.RowKit Go.Pv
theorem SV (l : List A9) (G : Good l) (a b : UInt8) : Ga l a b = some (decide (Le l a b)) := by
 have hbig : l.length ≤ 1048576 := G.tab.1
 unfold Ga
 rw [K8, Amn]
 rcases ha : tv l a with _ | _
 ·rw [A1 (by simp), decide_eq_false (by unfold Le; rw [ha]; simp)]
 rw [Ay (by simp), K8, Amn]
 rcases hb : tv l b with _ | _
 ·rw [A1 (by simp), decide_eq_false (by unfold Le; rw [hb]; simp)]
 rw [Ay (by simp), Aa5, RN, RN]
 have hle := le_iff ha hb
 have hra := Kq a
 have hrb := Kq b
 simp only [Amn]
 by_cases h1 : a = b
 ·rw [A1 (by simpa using h1), decide_eq_true (hle.2 (Or.inl h1)), Amn]
 rw [Ay (by simpa using h1)]
 by_cases h2 : b.toNat = 0
 ·rw [A1 (by rw [AG]; omega), decide_eq_true (hle.2 (Or.inr (Or.inl h2))), Amn]
 rw [Ay (by rw [AG]; omega)]
 -- a null, or any
 by_cases h3 : a.toNat = 3 ∧ rf b = true
 ·rw [A1 (by rw [AG]; omega), A1 h3.2, decide_eq_true (hle.2 (Or.inr (Or.inr (Or.inl h3)))), Amn]
 by_cases h5 : rf a = true ∧ b.toNat = 5
 ·have hrb' : rf b = true := hrb.2 (Or.inr (Or.inr (Or.inl h5.2)))
  rw [decide_eq_true (hle.2 (Or.inr (Or.inr (Or.inr (Or.inl h5))))), hrb', h5.1]
  rw [show ((b.toNat : Int) == 5) = true by rw [AG]; omega]
  rcases ((a.toNat : Int) == 3) with _ | _ <;> rfl
 have e : (if ((a.toNat : Int) == 3) = true then (if rf b = true then some (.inl true) else if rf a = true then (if ((b.toNat : Int) == 5) = true then some (.inl true) else some (.inr ())) else some (.inr ())) else
   if rf a = true then (if ((b.toNat : Int) == 5) = true then some (.inl true) else some (.inr ())) else some (.inr ()) : Option (Bool ⊕ Unit)) = some (.inr ()) := by
  have e5 : ((b.toNat : Int) == 5) = decide (b.toNat = 5) := BR _ 5
  have e3 : ((a.toNat : Int) == 3) = decide (a.toNat = 3) := BR _ 3
  rw [e5, e3]
  by_cases q3 : a.toNat = 3
  ·have hnb : rf b ≠ true := fun h => h3 ⟨q3, h⟩
   rw [A1 (by simpa using q3), Ay hnb]
   by_cases q5 : rf a = true
   ·rw [A1 q5, Ay (by simpa using fun h => h5 ⟨q5, h⟩)]
   ·rw [Ay q5]
  ·rw [Ay (by simpa using q3)]
   by_cases q5 : rf a = true
   ·rw [A1 q5, Ay (by simpa using fun h => h5 ⟨q5, h⟩)]
   ·rw [Ay q5]
 rw [e, Amn]
 dsimp only
 have hfin : Le l a b ↔ (16 ≤ a.toNat ∧ 16 ≤ b.toNat ∧ (b.toNat - 16) ∈ Dh l ((a.toNat - 16 : Nat) : Int)) := by
  rw [hle]
  constructor
  ·rintro (h | h | h | h | h)
   ·exact absurd h h1
   ·exact absurd h h2
   ·exact absurd h h3
   ·exact absurd h h5
   ·exact h
  ·exact fun h => Or.inr (Or.inr (Or.inr (Or.inr h)))
 by_cases ha16 : 16 ≤ a.toNat
 ·rw [Ay (by rw [Az]; omega)]
  by_cases hb16 : 16 ≤ b.toNat
  ·have hal := (LA ha ha16).2
   rw [Ay (by rw [Az]; omega), Oe a ha16, XH l G.right (by omega) _ (by omega) (by omega), Amn]
   have hlen := OM G.right ((a.toNat - 16 : Nat) + 1) ((a.toNat - 16 : Nat) : Int) (by omega) (by omega) (by omega)
   have hl := XE ((Dh l ((a.toNat - 16 : Nat) : Int)).map fun (c : Nat) => (c : Int)) (fun x => x == ((b.toNat - 16 : Nat) : Int)) (body := I3 b ((Dh l ((a.toNat - 16 : Nat) : Int)).map fun (c : Nat) => (c : Int))) (fun i hi => by
    unfold I3
    have hi' := hi
    rw [Ams] at hi'
    rw [A1 (by rw [Az]; omega), Bv hi, Amn, Oe b hb16, CU (by omega)]) (by
    unfold I3
    rw [Ay (by rw [Az]; omega)])
   refine Eq.trans hl ?_
   congr 1
   rw [List.any_map]
   refine Eq.trans (TW l _ _) ?_
   rw [decide_eq_decide, hfin]
   exact ⟨fun h => ⟨ha16, hb16, h⟩, fun h => h.2.2⟩
  ·rw [A1 (by rw [Az]; omega), decide_eq_false (fun h => hb16 (hfin.1 h).2.1)]
 ·rw [A1 (by rw [Az]; omega), decide_eq_false (fun h => ha16 (hfin.1 h).1)]
end Go.Proofs.YtfcpkcehecmcpaaGreat
namespace Go.Proofs.YtfcpkcehecmcpaaGreat
open Go Go.RowKit Go.Pv
theorem Y4 {l : List A9} {n : Nat} (R : Ee l n) : ∀ (k : Nat) (c : Int), c < k → c < n → c < l.length → ∀ x ∈ Dh l c, ∀ y ∈ Dh l (x : Int), y ∈ Dh l c
 | 0, c, hk, hn, hl, x, hx, y, hy => by rw [GV (by omega)] at hx; cases hx
 | k + 1, c, hk, hn, hl, x, hx, y, hy => by
  by_cases h0 : 0 ≤ c
  ·obtain ⟨c, rfl⟩ := Am2 h0
   rw [J6 R c (by omega) (by omega)] at hx ⊢
   have hr := R c (by omega) (by omega)
   rcases List.mem_cons.1 hx with rfl | hx
   ·rw [← J6 R x (by omega) (by omega)]; exact hy
   ·exact List.mem_cons_of_mem _ (Y4 R k l[c].Bn (by omega) (by omega) (by omega) x hx y hy)
  ·rw [GV (by omega)] at hx; cases hx
theorem Le.refl {l : List A9} {a : UInt8} (h : tv l a = true) : Le l a a := ⟨h, h, Or.inl rfl⟩
theorem Le.top {l : List A9} {a b : UInt8} (h : tv l a = true) (hb : b.toNat = 0) : Le l a b := ⟨h, by unfold tv; simp [hb], Or.inr (Or.inl hb)⟩
theorem Le.antisymm {l : List A9} (G : Good l) {a b : UInt8} (h : Le l a b) (h' : Le l b a) : a = b := by
 have hra := Kq a
 have hrb := Kq b
 obtain ⟨ha, hb, h⟩ := h
 obtain ⟨_, _, h'⟩ := h'
 have key : a.toNat = b.toNat → a = b := fun e => UInt8.toNat_inj.1 e
 rcases h with h | h | h | h | h
 ·exact h
 ·rcases h' with q | q | q | q | q
  ·exact q.symm
  ·exact key (by omega)
  ·omega
  ·have := hrb.1 q.1; omega
  ·omega
 ·have h2 := hrb.1 h.2
  rcases h' with q | q | q | q | q
  ·exact q.symm
  ·omega
  ·exact key (by omega)
  ·omega
  ·omega
 ·have h2 := hra.1 h.1
  rcases h' with q | q | q | q | q
  ·exact q.symm
  ·omega
  ·omega
  ·exact key (by omega)
  ·omega
 ·rcases h' with q | q | q | q | q
  ·exact q.symm
  ·omega
  ·omega
  ·omega
  ·have e1 := (LA ha h.1).2
   have e2 := (LA hb h.2.1).2
   have h1 := (Mg G.right (a.toNat + 1) ((a.toNat - 16 : Nat) : Int) (by omega) (by omega) (by omega) _ h.2.2).1
   have h2 := (Mg G.right (b.toNat + 1) ((b.toNat - 16 : Nat) : Int) (by omega) (by omega) (by omega) _ q.2.2).1
   exact key (by omega)
structure Lub (l : List A9) (a b m : UInt8) : Prop where
 left : Le l a m
 right : Le l b m
 least : ∀ t, Le l a t → Le l b t → Le l m t
def NL (l : List A9) (a b : UInt8) : List UInt8 → UInt8 → UInt8
 | [], s => s
 | t :: r, s => NL l a b r (if Le l a t ∧ Le l b t ∧ Le l t s then t else s)
theorem TL {l : List A9} (G : Good l) {a b m : UInt8} (h : Lub l a b m) : ∀ (L : List UInt8) (s : UInt8), Le l a s → Le l b s → (s = m ∨ m ∈ L) → NL l a b L s = m
 | [], s, _, _, hm => by
  rcases hm with h | h
  ·exact h
  ·cases h
 | t :: r, s, ha, hb, hm => by
  unfold NL
  by_cases hc : Le l a t ∧ Le l b t ∧ Le l t s
  ·rw [A1 hc]
   refine TL G h r t hc.1 hc.2.1 ?_
   rcases hm with rfl | hm
   ·exact Or.inl (Le.antisymm G hc.2.2 (h.least _ hc.1 hc.2.1))
   ·rcases List.mem_cons.1 hm with rfl | hm
    ·exact Or.inl rfl
    ·exact Or.inr hm
  ·rw [Ay hc]
   refine TL G h r s ha hb ?_
   rcases hm with hm | hm
   ·exact Or.inl hm
   ·rcases List.mem_cons.1 hm with rfl | hm
    ·exact absurd ⟨h.left, h.right, h.least _ ha hb⟩ hc
    ·exact Or.inr hm
theorem Wd {l : List A9} {a b : UInt8} (h : tv l a = false ∨ tv l b = false) : ∀ (L : List UInt8) (s : UInt8), NL l a b L s = s
 | [], s => rfl
 | t :: r, s => by
  unfold NL
  rw [Ay, Wd h r s]
  rintro ⟨h1, h2, _⟩
  rcases h with h | h
  ·rw [h1.1] at h; cases h
  ·rw [h2.1] at h; cases h
end Go.Proofs.YtfcpkcehecmcpaaGreat
namespace Go.Proofs.YtfcpkcehecmcpaaGreat
open Go Go.RowKit Go.Pv
def Tx (c : Nat) : UInt8 := E2 (16 + (c : Int))
theorem Sk {c : Nat} (h : c ≤ 32) : (Tx c).toNat = 16 + c := by
 unfold Tx
 have := S8 (n := 16 + c) (by omega)
 rw [← this]; congr 2
def meet (L M : List Nat) : UInt8 := match L.find? (fun c => decide (c ∈ M)) with
 | some c => Tx c
 | none => 5
theorem Wy (M : List Nat) : ∀ (L : List Nat), (∀ c ∈ L, c < 32) → PE (fun s c => if c ∈ M then Tx c else s) (fun s c => !decide (c ∈ M)) L (5 : UInt8) = meet L M
 | [], _ => rfl
 | c :: r, h => by
  rw [PE]
  unfold meet
  rw [List.find?_cons]
  by_cases hc : c ∈ M
  ·rw [Ay (by simp [hc]), A1 hc, decide_eq_true hc]
  ·rw [A1 (by simp [hc]), Ay hc, decide_eq_false hc]
   exact Wy M r fun x hx => h x (by simp [hx])
theorem Aaz (l : List A9) (G : Good l) (x y : Int) (hx : x < l.length) (hy : y < l.length) : Fa l x l y 5 = some (meet (Dh l x) (Dh l y)) := by
 have hfew := G.few
 have key := Nw G.right (body := CW l l y) (fun s c => if c ∈ Dh l y then Tx c else s) (fun s c => !decide (c ∈ Dh l y)) (fun _ _ => True) (fun s c hc hcn hI => by
  unfold CW Kg
  dsimp only
  have hr := G.right c hc hcn
  rw [A1 (by rw [Az]; omega), A1 (by rw [Az]; omega), VY l G y hy, Amn, TW]
  by_cases hm : c ∈ Dh l y
  ·rw [decide_eq_true hm, A1 rfl, Amn, Ay (by simp), Ay (by simp), A1 hm, show (E2 (c : Int)).toNat = c from S8 (by omega)]
   rfl
  ·rw [decide_eq_false hm, Ay (by simp), Amn, A1 rfl, Bv hc, Amn, Ay (by rw [Az]; omega), A1 (by simp), Ay hm]) (fun _ _ _ _ _ => trivial) (fun s c hc => by
  unfold CW
  dsimp only
  rw [Ay (by rw [Az]; omega)]) (x.toNat + 1) x 5 (by omega) hx hx trivial
 unfold Fa
 rw [key, Amn]
 simp only
 rw [Wy _ _ fun c hc => by have := (Mg G.right (x.toNat + 1) x (by omega) hx hx c hc).2; omega]
def LH (l : List A9) (a b : UInt8) : UInt8 :=
 if tv l a = false ∨ tv l b = false then 0 else if Le l a b then b else if Le l b a then a else if rf a = false ∨ rf b = false then 0 else
 if 16 ≤ a.toNat ∧ 16 ≤ b.toNat then meet (Dh l ((a.toNat - 16 : Nat) : Int)) (Dh l ((b.toNat - 16 : Nat) : Int)) else 5
theorem Adi (l : List A9) (G : Good l) (a b : UInt8) : Lu l a b = some (LH l a b) := by
 have hfew := G.few
 unfold Lu LH
 rw [JC, Amn]
 rcases ha : tv l a with _ | _
 ·rw [A1 (by simp), A1 (Or.inl rfl)]
 rw [Ay (by simp), JC, Amn]
 rcases hb : tv l b with _ | _
 ·rw [A1 (by simp), A1 (Or.inr rfl)]
 rw [Ay (c := (!true) = true) (by simp), Ay (c := true = false ∨ true = false) (by simp), VL l G, Amn]
 by_cases h1 : Le l a b
 ·rw [A1 (by simpa using h1), A1 h1]
 rw [Ay (by simpa using h1), Ay h1, VL l G, Amn]
 by_cases h2 : Le l b a
 ·rw [A1 (by simpa using h2), A1 h2]
 rw [Ay (by simpa using h2), Ay h2, Ny, Amn]
 rcases ra : rf a with _ | _
 ·rw [A1 (by simp), A1 (Or.inl rfl)]
 rw [Ay (c := (!true) = true) (by simp), Ny, Amn]
 rcases rb : rf b with _ | _
 ·rw [A1 (by simp), A1 (Or.inr rfl)]
 rw [Ay (c := (!true) = true) (by simp), Ay (c := true = false ∨ true = false) (by simp), Ml, Amn, Ml, Amn]
 by_cases h3 : 16 ≤ a.toNat
 ·obtain ⟨e1, e2⟩ := LA ha h3
  rw [e1, A1 (by rw [Az]; omega)]
  by_cases h4 : 16 ≤ b.toNat
  ·obtain ⟨e3, e4⟩ := LA hb h4
   rw [e3, A1 (by rw [Az]; omega), A1 ⟨h3, h4⟩, Aaz l G _ _ (by omega) (by omega), Amn]
  ·rw [U5 h4, Ay (by rw [Az]; omega), Ay (by omega)]
 ·rw [U5 h3, Ay (by rw [Az]; omega), Ay (by omega)]
end Go.Proofs.YtfcpkcehecmcpaaGreat
