/- Short rows: loads, elements, lengths. -/
import Derived.Test.YtkcehlfcfcabmaaGreatPvC
set_option linter.unusedVariables false
set_option linter.unusedSimpArgs false
namespace Go.Pv
open Go Go.RowKit
/-! ### Where a chunk stands -/
section
variable {α : Type} {a b c d e f g h i j x : α} {l : List α}
theorem m0 : x ∈ x :: l := .head _
theorem m1 : x ∈ a :: x :: l := .tail _ m0
theorem m2 : x ∈ a :: b :: x :: l := .tail _ m1
theorem m3 : x ∈ a :: b :: c :: x :: l := .tail _ m2
theorem m4 : x ∈ a :: b :: c :: d :: x :: l := .tail _ m3
theorem m5 : x ∈ a :: b :: c :: d :: e :: x :: l := .tail _ m4
theorem m6 : x ∈ a :: b :: c :: d :: e :: f :: x :: l := .tail _ m5
theorem m7 : x ∈ a :: b :: c :: d :: e :: f :: g :: x :: l := .tail _ m6
theorem m8 : x ∈ a :: b :: c :: d :: e :: f :: g :: h :: x :: l := .tail _ m7
theorem m9 : x ∈ a :: b :: c :: d :: e :: f :: g :: h :: i :: x :: l := .tail _ m8
end
/-- Fewer slots told. -/
theorem Fr.sb {a : Act} {n : Nat} {m m' : Mp_} (h : Fr a n m) (hs : subm m' m := by (repeat refine ⟨rfl, ?_⟩); exact trivial) : Fr a n m' := h.sub hs
/-- What a load gives of a block: its place, slot and value. -/
def ldV (T : Tab) (m : Mp_) (cs : List Value) (n : Nat) (o : Oper) : Option (Nat × Nat × Value) :=
  match o.op with
  | .load t x => match ev m x with
    | some (.pointer (some ⟨g, off, none⟩)) => match dstG o n with
      | some d => bif inL T.ng t then (match cs[off]? with
          | some v => some (g, d, v)
          | none => none) else (match off with
          | 0 => (match agL T.ag t with
            | some k => bif Nat.beq cs.length k then some (g, d, .agg ⟨cs⟩) else none
            | none => none)
          | _ => none)
      | none => none
    | _ => none
  | _ => none
/-- The same of a whole one whose cells are not counted. -/
def ldA (T : Tab) (m : Mp_) (n : Nat) (o : Oper) : Option (Nat × Nat × Nat) :=
  match o.op with
  | .load t x => match ev m x with
    | some (.pointer (some ⟨g, 0, none⟩)) => match dstG o n with
      | some d => (match agL T.ag t with
        | some k => some (g, d, k)
        | none => none)
      | none => none
    | _ => none
  | _ => none
def ixV (m : Mp_) (n : Nat) (o : Oper) : Option (TypeId × Value × Int × Nat) :=
  match o.op with
  | .indexAddr t x y => match ev m x with
    | some v => match ev m y with
      | some (.int _ j) => match dstG o n with
        | some d => some (t, v, j, d)
        | none => none
      | _ => none
    | none => none
  | _ => none
section
variable {P : Program} {w w' : World} {m m' : Mp_} {ops : Array Oper} {Q Q0 : Exit → Act → World → Prop} {a : Act} {n : Nat} {l l' : List Oper} {v : Value} {K : List Kf} {X X' : Act → World → Prop}
variable {w0 : World} {F0 : List Nat} {ps : List Ck} {o : Oper} {d g t : Nat} {cs : List Value}
theorem ldV_dst {T : Tab} (h2 : ldV T m cs n o = some (g, d, v)) : dstG o n = some d := by
  unfold ldV at h2
  split at h2
  · split at h2
    · split at h2
      · rename_i d' hd
        have : d' = d := by
          revert h2
          rcases inL T.ng _ with _ | _
          · simp only [cond_false]
            intro h2
            split at h2
            · split at h2
              · rename_i k _
                rcases hb : Nat.beq cs.length k with _ | _
                · rw [hb] at h2; cases h2
                · rw [hb] at h2; cases h2; rfl
              · cases h2
            · cases h2
          · simp only [cond_true]
            intro h2
            split at h2
            · cases h2; rfl
            · cases h2
        rw [hd, this]
      · cases h2
    · cases h2
  · cases h2
theorem ldV_ok {T : Tab} (hT : T.okB P = true) (hs : SL w0 F0 w ps) (hm : Blk g t cs ∈ ps) (h : ldV T m cs n o = some (g, d, v)) : EX P w m o v w ∧ dstG o n = some d := by
  obtain ⟨dd, op, ty, pos, aft, gd⟩ := o
  unfold ldV at h
  split at h
  · rename_i t' x hop
    simp only at hop
    subst hop
    split at h
    · rename_i g' off hx
      split at h
      · rename_i d' hd
        rcases hn : inL T.ng t' with _ | _
        · rw [hn] at h
          simp only [cond_false] at h
          split at h
          · split at h
            · rename_i k hk
              rcases hb : Nat.beq cs.length k with _ | _
              · rw [hb] at h; cases h
              · rw [hb] at h
                cases h
                exact ⟨ex_ldagg (agT hT hk) hx (hs.blk_cells hm (o := 0) (ds := cs) (fun j u hu => by rw [Nat.zero_add]; exact hu)) (Nat.eq_of_beq_eq_true hb), hd⟩
            · cases h
          · cases h
        · rw [hn] at h
          simp only [cond_true] at h
          split at h
          · rename_i u hu
            cases h
            exact ⟨ex_ld (ngT hT hn) hx (hs.blk_cell hm hu), hd⟩
          · cases h
      · cases h
    · cases h
  · cases h
theorem ldA_ok {T : Tab} {k : Nat} (hT : T.okB P = true) (hs : SL w0 F0 w ps) (hm : Blk g t cs ∈ ps) (h : ldA T m n o = some (g, d, k)) (hk : cs.length = k) : EX P w m o (.agg ⟨cs⟩) w ∧ dstG o n = some d := by
  obtain ⟨dd, op, ty, pos, aft, gd⟩ := o
  unfold ldA at h
  split at h
  · rename_i t' x hop
    simp only at hop
    subst hop
    split at h
    · rename_i g' hx
      split at h
      · rename_i d' hd
        split at h
        · rename_i k' hk'
          cases h
          exact ⟨ex_ldagg (agT hT hk') hx (hs.blk_cells hm (o := 0) (ds := cs) (fun j u hu => by rw [Nat.zero_add]; exact hu)) hk, hd⟩
        · cases h
      · cases h
    · cases h
  · cases h
theorem ixV_ok {t : TypeId} {i : Int} {ad : Addr} (hi : IxA P t v i ad) (h : ixV m n o = some (t, v, i, d)) : (∀ w, EX P w m o (.pointer (some ad)) w) ∧ dstG o n = some d := by
  obtain ⟨dd, op, ty, pos, aft, gd⟩ := o
  unfold ixV at h
  split at h
  · rename_i t' x y hop
    simp only at hop
    subst hop
    split at h
    · rename_i v' hv
      split at h
      · rename_i k j hj
        split at h
        · rename_i d' hd
          cases h
          exact ⟨fun w => hi _ _ _ _ _ _ _ _ _ _ hv hj, hd⟩
        · cases h
      · cases h
    · cases h
  · cases h
section
variable [h0 : HasTab P]
theorem gld (hF : Fr a n m) (hs : SL w0 F0 w ps) (hm : Blk g t cs ∈ ps) (i : Nat) (h : ((ldV h0.T m cs n o).bind fun r => (run P Q0 h0.T n i (.li ops l) K ((r.2.1, r.2.2) :: m)).map fun x => (r.1, x)) = some (g, m', X)) (k : ∀ a, Fr a n m' → X a w) : wpList P ops (cont P Q0 K) (o :: l) a w := by
  obtain ⟨⟨g', d, v⟩, h1, h2⟩ := Option.bind_eq_some_iff.1 h
  obtain ⟨x, h3, h4⟩ := Option.map_eq_some_iff.1 h2
  cases h4
  obtain ⟨he, hd⟩ := ldV_ok h0.ok hs hm h1
  exact gx hF he i hd h3 k
theorem gla {c : Nat} (hF : Fr a n m) (hs : SL w0 F0 w ps) (hm : Blk g t cs ∈ ps) (i : Nat) (h : ((ldA h0.T m n o).bind fun r => (run P Q0 h0.T n i (.li ops l) K ((r.2.1, .agg ⟨cs⟩) :: m)).map fun x => (r.1, r.2.2, x)) = some (g, c, m', X)) (k : ∀ a, Fr a n m' → X a w) (hc : cs.length = c := by simp) : wpList P ops (cont P Q0 K) (o :: l) a w := by
  obtain ⟨⟨g', d, v⟩, h1, h2⟩ := Option.bind_eq_some_iff.1 h
  obtain ⟨x, h3, h4⟩ := Option.map_eq_some_iff.1 h2
  cases h4
  obtain ⟨he, hd⟩ := ldA_ok h0.ok hs hm h1 hc
  exact gx hF he i hd h3 k
theorem gi {t : TypeId} {j : Int} {ad : Addr} (hF : Fr a n m) (hi : IxA P t v j ad) (i : Nat) (h : ((ixV m n o).bind fun r => (run P Q0 h0.T n i (.li ops l) K ((r.2.2.2, .pointer (some ad)) :: m)).map fun x => (r.1, r.2.1, r.2.2.1, x)) = some (t, v, j, m', X)) (k : ∀ a, Fr a n m' → X a w) : wpList P ops (cont P Q0 K) (o :: l) a w := by
  obtain ⟨⟨t', v', j', d⟩, h1, h2⟩ := Option.bind_eq_some_iff.1 h
  obtain ⟨x, h3, h4⟩ := Option.map_eq_some_iff.1 h2
  cases h4
  obtain ⟨he, hd⟩ := ixV_ok hi h1
  exact gx hF (he w) i hd h3 k
theorem QI.ld {is : List Nat} {i : Nat} (hm : Blk g t cs ∈ ps) (h : ((ops[i]?).bind (ldV h0.T m cs n)) = some (g, d, v)) (k : QI P ops n (fun w_ => SL w0 F0 w_ ps) ((d, v) :: m) is m') : QI P ops n (fun w_ => SL w0 F0 w_ ps) m (i :: is) m' := by
  obtain ⟨o, h1, h2⟩ := Option.bind_eq_some_iff.1 h
  exact QI.op h1 (fun w hw => (ldV_ok h0.ok hw hm h2).1) (ldV_dst h2) k
omit h0 in
theorem QI.ix {is : List Nat} {i : Nat} {S : World → Prop} {t : TypeId} {j : Int} {ad : Addr} (hi : IxA P t v j ad) (h : ((ops[i]?).bind (ixV m n)) = some (t, v, j, d)) (k : QI P ops n S ((d, .pointer (some ad)) :: m) is m') : QI P ops n S m (i :: is) m' := by
  obtain ⟨o, h1, h2⟩ := Option.bind_eq_some_iff.1 h
  exact QI.op h1 (fun w hw => (ixV_ok hi h2).1 w) (ixV_ok hi h2).2 k
omit h0 in
theorem hreg' {id : Nat} {l : List Oper} (hm : P.follows .mixedOrders = true) (hs : SL w0 F0 w ps) (h : HD P l.toArray Q (fun w_ => SL w0 F0 w_ ps) [] a w.drew) : (Code.region id l.toArray true).wp P Q a w := hreg hm _ h
/-- A region that draws its order and only reads. -/
theorem QR.ld {rest rest' : List Oper} (hm : Blk g t cs ∈ ps) (h : ldV h0.T m cs n o = some (g, d, v)) (k : QR P n ops (fun w_ => SL w0 F0 w_ ps) ((d, v) :: m) rest m' rest') : QR P n ops (fun w_ => SL w0 F0 w_ ps) m (o :: rest) m' rest' :=
  have hd := dstG_ok (ldV_dst h)
  QR.op (fun w hw => (ldV_ok h0.ok hw hm h).1) k hd.1 hd.2.1 hd.2.2
omit h0 in
theorem QR.ix {rest rest' : List Oper} {S : World → Prop} {t : TypeId} {j : Int} {ad : Addr} (hi : IxA P t v j ad) (h : ixV m n o = some (t, v, j, d)) (k : QR P n ops S ((d, .pointer (some ad)) :: m) rest m' rest') : QR P n ops S m (o :: rest) m' rest' :=
  have hd := dstG_ok (ixV_ok hi h).2
  QR.op (fun w hw => (ixV_ok hi h).1 w) k hd.1 hd.2.1 hd.2.2
omit h0 in
theorem QR.qo {rest rest' : List Oper} {S : World → Prop} (he : ∀ w, S w → EX P w m o v w) (hd : dstG o n = some d) (k : QR P n ops S ((d, v) :: m) rest m' rest') : QR P n ops S m (o :: rest) m' rest' :=
  have h := dstG_ok hd
  QR.op he k h.1 h.2.1 h.2.2
omit h0 in
theorem QR.qg {rest rest' : List Oper} {S : World → Prop} {j dj : Nat} {b : Bool} (he : ∀ w, S w → EX P w m o v w) (hg : o.guard = some (j, b)) (hj : (ops[j]?).bind (·.dst) = some dj) (hb : look m dj = some (.bool b)) (hd : o.dst = some d) (hlt : Nat.blt d n = true) (k : QR P n ops S ((d, v) :: m) rest m' rest') : QR P n ops S m (o :: rest) m' rest' := QR.gop he hg hj hb k hd hlt
omit h0 in
theorem QR.qs {rest rest' : List Oper} {S : World → Prop} {j dj : Nat} {b c : Bool} (hg : o.guard = some (j, c)) (hj : (ops[j]?).bind (·.dst) = some dj) (hb : look m dj = some (.bool b)) (hne : b ≠ c) (hd : o.dst = some d) (hlt : Nat.blt d n = true) (k : QR P n ops S ((d, undef) :: m) rest m' rest') : QR P n ops S m (o :: rest) m' rest' := QR.gskip hg hj hb hne k hd hlt
omit h0 in
theorem QR.qt {rest rest' : List Oper} {S : World → Prop} {j dj : Nat} {c : Bool} (hg : o.guard = some (j, c)) (hj : (ops[j]?).bind (·.dst) = some dj) (hb : look m dj = some undef) (hd : o.dst = some d) (hlt : Nat.blt d n = true) (k : QR P n ops S ((d, undef) :: m) rest m' rest') : QR P n ops S m (o :: rest) m' rest' := QR.gskip' hg hj hb k hd hlt
omit h0 in
theorem evG_qr {S : World → Prop} {T : Tab} {m1 : Mp_} {rest rest' : List Oper} (hT : T.okB P = true) (h : evG T ops n m o = some m1) (t : QR P n ops S m1 rest m' rest') : QR P n ops S m (o :: rest) m' rest' := by
  unfold evG at h
  split at h
  · cases h
  · rename_i d hd
    rcases hlt : Nat.blt d n with _ | _
    · rw [hlt] at h; cases h
    · rw [hlt] at h
      simp only [cond_true] at h
      split at h
      · rename_i hg
        split at h
        · rename_i v hv
          cases h
          exact QR.op (fun w _ => ev1_ok hT hv) t hg hd hlt
        · cases h
      · rename_i j b hg
        split at h
        · cases h
        · rename_i dj hj
          split at h
          · rename_i c hb
            split at h
            · split at h
              · rename_i v hv
                cases h
                exact QR.gop (fun w _ => ev1_ok hT hv) hg hj hb t hd hlt
              · cases h
            · split at h
              · rename_i v hv
                cases h
                exact QR.gop (fun w _ => ev1_ok hT hv) hg hj hb t hd hlt
              · cases h
            · cases h
              exact QR.gskip hg hj hb Bool.noConfusion t hd hlt
            · cases h
              exact QR.gskip hg hj hb Bool.noConfusion t hd hlt
          · rename_i hb
            cases h
            exact QR.gskip' hg hj hb t hd hlt
          · cases h
omit h0 in
theorem QR.ev_ {S : World → Prop} {T : Tab} (hT : T.okB P = true) {m1 : Mp_} {rest rest' : List Oper} : ∀ (k : Nat) {m : Mp_} {l : List Oper}, evR T ops n k m l = some (m1, rest) → QR P n ops S m1 rest m' rest' → QR P n ops S m l m' rest'
  | 0, m, l, h, t => by cases h; exact t
  | k + 1, m, [], h, t => by cases h
  | k + 1, m, o :: l, h, t => by
    simp only [evR] at h
    split at h
    · rename_i m2 h2
      exact evG_qr hT h2 (QR.ev_ hT k h t)
    · cases h
theorem QR.ev {S : World → Prop} {m1 : Mp_} {rest rest' : List Oper} (k : Nat) (h : evR h0.T ops n k m l = some (m1, rest)) (t : QR P n ops S m1 rest m' rest') : QR P n ops S m l m' rest' := QR.ev_ h0.ok k h t
omit h0 in
theorem regq {id : Nat} {l : List Oper} (hm : P.follows .mixedOrders = true) (hs : SL w0 F0 w ps) (hF : Fr a n m) (h : QR P n l.toArray (fun w_ => SL w0 F0 w_ ps) m l m' []) (k : ∀ w a, SL w0 F0 w ps → Fr a n m' → Q .normal a w) (hB : Region.lexB .any l.toArray = true := by kernel_rfl) : (Code.region id l.toArray true).wp P Q a w := wp_regq _ hm hB hs.drew hF h k
omit h0 in
theorem idxS {α : Type} {T : Ty α} {enc : α → List Value} (hFl : Flat T enc) {v : Value} {l : List α} {t e sz bytes : Nat} {z : Value → Bool} {i : Int} {x : α} (h : ∀ w, SL w0 F0 w ps → ∃ G, slRd T w G v l) (hw : SL w0 F0 w ps)
    (hb : slB P t e sz bytes z = true) (hz : T.sz = sz) (hx : idx l i = some x) : ∃ ad, IxA P t v i ad ∧ ∀ w, SL w0 F0 w ps → Cells w ad (enc x) := idxC (C := fun w_ => SL w0 F0 w_ ps) hFl h hw hb hz hx
end
theorem fR {α : Type} {T : Ty α} {v : Value} {l : List α} (h : Rd T w0 F0 v l) (hs : SL w0 F0 w ps) : ∃ A c, v = .slice A l.length c := formL (rdL h hs)
theorem fO {α : Type} {T : Ty α} {v : Value} {l : List α} (hs : SL w0 F0 w ps) (hm : Sl T v l ∈ ps) : ∃ A c, v = .slice A l.length c := formL (hs.own_rd hm)
end
/-! ### Short words for values -/
abbrev jI (n : Int) : Value := .int .i64 n
abbrev jU (n : Int) : Value := .int .u8 n
abbrev jP (g : Nat) : Value := .pointer (some ⟨g, 0, none⟩)
abbrev jZ : List Value := .int .i64 0 :: .int .i64 0 :: ev8 (Vector.replicate 24 (0 : UInt8))
end Go.Pv
