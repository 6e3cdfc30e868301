/- Lemmas, walks and laws that the row of this claim rests on, merged into few texts: part 2. -/
import Derived.Shelf.Sort.Plain
import Derived.Shelf.Slices.In.SortNone
import Derived.Shelf.Slices.CompactI
import Derived.Shelf.SlIterI.Nil
import Derived.Test.YtfcpkcehecmcpaaGreatKRa
set_option linter.unusedVariables false
set_option linter.unusedSimpArgs false
open Option renaming bind_some → B2r, map_some → B2s, bind_eq_some_iff → B2t
open List renaming getElem?_eq_getElem → B2u, length_append → B2v, length_map → B2w, length_singleton → B2x, mem_append → B2y, mem_cons → B2z, mem_range → B20, getElem_mem → B21, nil_append → B22, append_assoc → B23, length_filter_le → B24, findSome?_eq_none_iff → B25, take_length → B26
open Int renaming toNat_natCast → B27, eq_ofNat_of_zero_le → B28
open Bool renaming and_eq_true → B29, eq_iff_iff → B3a, or_eq_true → B3b
namespace Go.Pv
open Go Go.RowKit
section
variable {α : Type} {a b c d e f g h i j x : α} {l : List α}
theorem m0 : x ∈ x :: l := .head _
theorem m1 : x ∈ a :: x :: l := .tail _ m0
theorem m2 : x ∈ a :: b :: x :: l := .tail _ m1
theorem m3 : x ∈ a :: b :: c :: x :: l := .tail _ m2
theorem m4 : x ∈ a :: b :: c :: d :: x :: l := .tail _ m3
theorem m5 : x ∈ a :: b :: c :: d :: e :: x :: l := .tail _ m4
theorem m6 : x ∈ a :: b :: c :: d :: e :: f :: x :: l := .tail _ m5
theorem m7 : x ∈ a :: b :: c :: d :: e :: f :: g :: x :: l := .tail _ m6
theorem m8 : x ∈ a :: b :: c :: d :: e :: f :: g :: h :: x :: l := .tail _ m7
end
theorem Fr.sb {a : Act} {n : Nat} {m m' : Mp_} (h : Fr a n m) (hs : Btm m' m := by (repeat refine ⟨rfl, ?_⟩); exact trivial) : Fr a n m' := h.sub hs
def ldV (T : Tab) (m : Mp_) (cs : List Value) (n : Nat) (o : Oper) : Option (Nat × Nat × Value) :=
 match o.op with
 | .load t x => match ev m x with
  | some (.pointer (some ⟨g, off, none⟩)) => match Bbl o n with
   | some d => bif inL T.ng t then (match cs[off]? with
     | some v => some (g, d, v)
     | none => none) else (match off with
     | 0 => (match agL T.ag t with
      | some k => bif Nat.beq cs.length k then some (g, d, .agg ⟨cs⟩) else none
      | none => none)
     | _ => none)
   | none => none
  | _ => none
 | _ => none
def ldA (T : Tab) (m : Mp_) (n : Nat) (o : Oper) : Option (Nat × Nat × Nat) :=
 match o.op with
 | .load t x => match ev m x with
  | some (.pointer (some ⟨g, 0, none⟩)) => match Bbl o n with
   | some d => (match agL T.ag t with
    | some k => some (g, d, k)
    | none => none)
   | none => none
  | _ => none
 | _ => none
def ixV (m : Mp_) (n : Nat) (o : Oper) : Option (TypeId × Value × Int × Nat) :=
 match o.op with
 | .indexAddr t x y => match ev m x with
  | some v => match ev m y with
   | some (.int _ j) => match Bbl o n with
    | some d => some (t, v, j, d)
    | none => none
   | _ => none
  | none => none
 | _ => none
section
variable {P : Program} {w w' : World} {m m' : Mp_} {ops : Array Oper} {Q Q0 : Exit → Act → World → Prop} {a : Act} {n : Nat} {l l' : List Oper} {v : Value} {K : List Kf} {X X' : Act → World → Prop}
variable {w0 : World} {F0 : List Nat} {ps : List Ck} {o : Oper} {d g t : Nat} {cs : List Value}
theorem Bsg {T : Tab} (h2 : ldV T m cs n o = some (g, d, v)) : Bbl o n = some d := by
 unfold ldV at h2
 split at h2
 ·split at h2
  ·split at h2
   ·rename_i d' hd
    have : d' = d := by
     revert h2
     rcases inL T.ng _ with _ | _
     ·simp only [cond_false]
      intro h2
      split at h2
      ·split at h2
       ·rename_i k _
        rcases hb : Nat.beq cs.length k with _ | _
        ·rw [hb] at h2; cases h2
        ·rw [hb] at h2; cases h2; rfl
       ·cases h2
      ·cases h2
     ·simp only [cond_true]
      intro h2
      split at h2
      ·cases h2; rfl
      ·cases h2
    rw [hd, this]
   ·cases h2
  ·cases h2
 ·cases h2
theorem Bq4 {T : Tab} (hT : T.okB P = true) (hs : SL w0 F0 w ps) (hm : Blk g t cs ∈ ps) (h : ldV T m cs n o = some (g, d, v)) : EX P w m o v w ∧ Bbl o n = some d := by
 obtain ⟨dd, op, ty, pos, aft, gd⟩ := o
 unfold ldV at h
 split at h
 ·rename_i t' x hop
  simp only at hop
  subst hop
  split at h
  ·rename_i g' off hx
   split at h
   ·rename_i d' hd
    rcases hn : inL T.ng t' with _ | _
    ·rw [hn] at h
     simp only [cond_false] at h
     split at h
     ·split at h
      ·rename_i k hk
       rcases hb : Nat.beq cs.length k with _ | _
       ·rw [hb] at h; cases h
       ·rw [hb] at h
        cases h
        exact ⟨Bbs (agT hT hk) hx (hs.ANx hm (o := 0) (ds := cs) (fun j u hu => by rw [Nat.zero_add]; exact hu)) (Nat.eq_of_beq_eq_true hb), hd⟩
      ·cases h
     ·cases h
    ·rw [hn] at h
     simp only [cond_true] at h
     split at h
     ·rename_i u hu
      cases h
      exact ⟨Bll (ngT hT hn) hx (hs.AQ9 hm hu), hd⟩
     ·cases h
   ·cases h
  ·cases h
 ·cases h
theorem B00 {T : Tab} {k : Nat} (hT : T.okB P = true) (hs : SL w0 F0 w ps) (hm : Blk g t cs ∈ ps) (h : ldA T m n o = some (g, d, k)) (hk : cs.length = k) : EX P w m o (.agg ⟨cs⟩) w ∧ Bbl o n = some d := by
 obtain ⟨dd, op, ty, pos, aft, gd⟩ := o
 unfold ldA at h
 split at h
 ·rename_i t' x hop
  simp only at hop
  subst hop
  split at h
  ·rename_i g' hx
   split at h
   ·rename_i d' hd
    split at h
    ·rename_i k' hk'
     cases h
     exact ⟨Bbs (agT hT hk') hx (hs.ANx hm (o := 0) (ds := cs) (fun j u hu => by rw [Nat.zero_add]; exact hu)) hk, hd⟩
    ·cases h
   ·cases h
  ·cases h
 ·cases h
theorem Bir {t : TypeId} {i : Int} {ad : Addr} (hi : IxA P t v i ad) (h : ixV m n o = some (t, v, i, d)) : (∀ w, EX P w m o (.pointer (some ad)) w) ∧ Bbl o n = some d := by
 obtain ⟨dd, op, ty, pos, aft, gd⟩ := o
 unfold ixV at h
 split at h
 ·rename_i t' x y hop
  simp only at hop
  subst hop
  split at h
  ·rename_i v' hv
   split at h
   ·rename_i k j hj
    split at h
    ·rename_i d' hd
     cases h
     exact ⟨fun w => hi _ _ _ _ _ _ _ _ _ _ hv hj, hd⟩
    ·cases h
   ·cases h
  ·cases h
 ·cases h
section
variable [h0 : AWl P]
theorem gld (hF : Fr a n m) (hs : SL w0 F0 w ps) (hm : Blk g t cs ∈ ps) (i : Nat) (h : ((ldV h0.T m cs n o).bind fun r => (run P Q0 h0.T n i (.li ops l) K ((r.2.1, r.2.2) :: m)).map fun x => (r.1, x)) = some (g, m', X)) (k : ∀ a, Fr a n m' → X a w) : wpList P ops (AOj P Q0 K) (o :: l) a w := by
 obtain ⟨⟨g', d, v⟩, h1, h2⟩ := Option.bind_eq_some_iff.1 h
 obtain ⟨x, h3, h4⟩ := Option.map_eq_some_iff.1 h2
 cases h4
 obtain ⟨he, hd⟩ := Bq4 h0.ok hs hm h1
 exact gx hF he i hd h3 k
theorem gla {c : Nat} (hF : Fr a n m) (hs : SL w0 F0 w ps) (hm : Blk g t cs ∈ ps) (i : Nat) (h : ((ldA h0.T m n o).bind fun r => (run P Q0 h0.T n i (.li ops l) K ((r.2.1, .agg ⟨cs⟩) :: m)).map fun x => (r.1, r.2.2, x)) = some (g, c, m', X)) (k : ∀ a, Fr a n m' → X a w) (hc : cs.length = c := by simp) : wpList P ops (AOj P Q0 K) (o :: l) a w := by
 obtain ⟨⟨g', d, v⟩, h1, h2⟩ := Option.bind_eq_some_iff.1 h
 obtain ⟨x, h3, h4⟩ := Option.map_eq_some_iff.1 h2
 cases h4
 obtain ⟨he, hd⟩ := B00 h0.ok hs hm h1 hc
 exact gx hF he i hd h3 k
theorem gi {t : TypeId} {j : Int} {ad : Addr} (hF : Fr a n m) (hi : IxA P t v j ad) (i : Nat) (h : ((ixV m n o).bind fun r => (run P Q0 h0.T n i (.li ops l) K ((r.2.2.2, .pointer (some ad)) :: m)).map fun x => (r.1, r.2.1, r.2.2.1, x)) = some (t, v, j, m', X)) (k : ∀ a, Fr a n m' → X a w) : wpList P ops (AOj P Q0 K) (o :: l) a w := by
 obtain ⟨⟨t', v', j', d⟩, h1, h2⟩ := Option.bind_eq_some_iff.1 h
 obtain ⟨x, h3, h4⟩ := Option.map_eq_some_iff.1 h2
 cases h4
 obtain ⟨he, hd⟩ := Bir hi h1
 exact gx hF (he w) i hd h3 k
theorem QI.ld {is : List Nat} {i : Nat} (hm : Blk g t cs ∈ ps) (h : ((ops[i]?).bind (ldV h0.T m cs n)) = some (g, d, v)) (k : QI P ops n (fun w_ => SL w0 F0 w_ ps) ((d, v) :: m) is m') : QI P ops n (fun w_ => SL w0 F0 w_ ps) m (i :: is) m' := by
 obtain ⟨o, h1, h2⟩ := Option.bind_eq_some_iff.1 h
 exact QI.op h1 (fun w hw => (Bq4 h0.ok hw hm h2).1) (Bsg h2) k
omit h0 in
theorem QI.ix {is : List Nat} {i : Nat} {S : World → Prop} {t : TypeId} {j : Int} {ad : Addr} (hi : IxA P t v j ad) (h : ((ops[i]?).bind (ixV m n)) = some (t, v, j, d)) (k : QI P ops n S ((d, .pointer (some ad)) :: m) is m') : QI P ops n S m (i :: is) m' := by
 obtain ⟨o, h1, h2⟩ := Option.bind_eq_some_iff.1 h
 exact QI.op h1 (fun w hw => (Bir hi h2).1 w) (Bir hi h2).2 k
omit h0 in
theorem AJp {id : Nat} {l : List Oper} (hm : P.follows .mixedOrders = true) (hs : SL w0 F0 w ps) (h : HD P l.toArray Q (fun w_ => SL w0 F0 w_ ps) [] a w.drew) : (Code.region id l.toArray true).wp P Q a w := B10 hm _ h
theorem QR.ld {rest rest' : List Oper} (hm : Blk g t cs ∈ ps) (h : ldV h0.T m cs n o = some (g, d, v)) (k : QR P n ops (fun w_ => SL w0 F0 w_ ps) ((d, v) :: m) rest m' rest') : QR P n ops (fun w_ => SL w0 F0 w_ ps) m (o :: rest) m' rest' :=
 have hd := Be9 (Bsg h)
 QR.op (fun w hw => (Bq4 h0.ok hw hm h).1) k hd.1 hd.2.1 hd.2.2
omit h0 in
theorem QR.ix {rest rest' : List Oper} {S : World → Prop} {t : TypeId} {j : Int} {ad : Addr} (hi : IxA P t v j ad) (h : ixV m n o = some (t, v, j, d)) (k : QR P n ops S ((d, .pointer (some ad)) :: m) rest m' rest') : QR P n ops S m (o :: rest) m' rest' :=
 have hd := Be9 (Bir hi h).2
 QR.op (fun w hw => (Bir hi h).1 w) k hd.1 hd.2.1 hd.2.2
omit h0 in
theorem QR.qo {rest rest' : List Oper} {S : World → Prop} (he : ∀ w, S w → EX P w m o v w) (hd : Bbl o n = some d) (k : QR P n ops S ((d, v) :: m) rest m' rest') : QR P n ops S m (o :: rest) m' rest' :=
 have h := Be9 hd
 QR.op he k h.1 h.2.1 h.2.2
omit h0 in
theorem QR.qg {rest rest' : List Oper} {S : World → Prop} {j dj : Nat} {b : Bool} (he : ∀ w, S w → EX P w m o v w) (hg : o.guard = some (j, b)) (hj : (ops[j]?).bind (·.dst) = some dj) (hb : look m dj = some (.bool b)) (hd : o.dst = some d) (hlt : Nat.blt d n = true) (k : QR P n ops S ((d, v) :: m) rest m' rest') : QR P n ops S m (o :: rest) m' rest' := QR.gop he hg hj hb k hd hlt
omit h0 in
theorem QR.qs {rest rest' : List Oper} {S : World → Prop} {j dj : Nat} {b c : Bool} (hg : o.guard = some (j, c)) (hj : (ops[j]?).bind (·.dst) = some dj) (hb : look m dj = some (.bool b)) (hne : b ≠ c) (hd : o.dst = some d) (hlt : Nat.blt d n = true) (k : QR P n ops S ((d, undef) :: m) rest m' rest') : QR P n ops S m (o :: rest) m' rest' := QR.Bty hg hj hb hne k hd hlt
omit h0 in
theorem QR.qt {rest rest' : List Oper} {S : World → Prop} {j dj : Nat} {c : Bool} (hg : o.guard = some (j, c)) (hj : (ops[j]?).bind (·.dst) = some dj) (hb : look m dj = some undef) (hd : o.dst = some d) (hlt : Nat.blt d n = true) (k : QR P n ops S ((d, undef) :: m) rest m' rest') : QR P n ops S m (o :: rest) m' rest' := QR.Bwb hg hj hb k hd hlt
omit h0 in
theorem B08 {S : World → Prop} {T : Tab} {m1 : Mp_} {rest rest' : List Oper} (hT : T.okB P = true) (h : evG T ops n m o = some m1) (t : QR P n ops S m1 rest m' rest') : QR P n ops S m (o :: rest) m' rest' := by
 unfold evG at h
 split at h
 ·cases h
 ·rename_i d hd
  rcases hlt : Nat.blt d n with _ | _
  ·rw [hlt] at h; cases h
  ·rw [hlt] at h
   simp only [cond_true] at h
   split at h
   ·rename_i hg
    split at h
    ·rename_i v hv
     cases h
     exact QR.op (fun w _ => Ba6 hT hv) t hg hd hlt
    ·cases h
   ·rename_i j b hg
    split at h
    ·cases h
    ·rename_i dj hj
     split at h
     ·rename_i c hb
      split at h
      ·split at h
       ·rename_i v hv
        cases h
        exact QR.gop (fun w _ => Ba6 hT hv) hg hj hb t hd hlt
       ·cases h
      ·split at h
       ·rename_i v hv
        cases h
        exact QR.gop (fun w _ => Ba6 hT hv) hg hj hb t hd hlt
       ·cases h
      ·cases h
       exact QR.Bty hg hj hb Bool.noConfusion t hd hlt
      ·cases h
       exact QR.Bty hg hj hb Bool.noConfusion t hd hlt
     ·rename_i hb
      cases h
      exact QR.Bwb hg hj hb t hd hlt
     ·cases h
omit h0 in
theorem QR.ev_ {S : World → Prop} {T : Tab} (hT : T.okB P = true) {m1 : Mp_} {rest rest' : List Oper} : ∀ (k : Nat) {m : Mp_} {l : List Oper}, evR T ops n k m l = some (m1, rest) → QR P n ops S m1 rest m' rest' → QR P n ops S m l m' rest'
 | 0, m, l, h, t => by cases h; exact t
 | k + 1, m, [], h, t => by cases h
 | k + 1, m, o :: l, h, t => by
  simp only [evR] at h
  split at h
  ·rename_i m2 h2
   exact B08 hT h2 (QR.ev_ hT k h t)
  ·cases h
theorem QR.ev {S : World → Prop} {m1 : Mp_} {rest rest' : List Oper} (k : Nat) (h : evR h0.T ops n k m l = some (m1, rest)) (t : QR P n ops S m1 rest m' rest') : QR P n ops S m l m' rest' := QR.ev_ h0.ok k h t
omit h0 in
theorem ATo {id : Nat} {l : List Oper} (hm : P.follows .mixedOrders = true) (hs : SL w0 F0 w ps) (hF : Fr a n m) (h : QR P n l.toArray (fun w_ => SL w0 F0 w_ ps) m l m' []) (k : ∀ w a, SL w0 F0 w ps → Fr a n m' → Q .normal a w) (hB : Region.lexB .any l.toArray = true := by kernel_rfl) : (Code.region id l.toArray true).wp P Q a w := Bz6 _ hm hB hs.drew hF h k
omit h0 in
theorem ASr {α : Type} {T : Ty α} {enc : α → List Value} (hFl : Flat T enc) {v : Value} {l : List α} {t e sz bytes : Nat} {z : Value → Bool} {i : Int} {x : α} (h : ∀ w, SL w0 F0 w ps → ∃ G, ARf T w G v l) (hw : SL w0 F0 w ps)
  (hb : slB P t e sz bytes z = true) (hz : T.sz = sz) (hx : idx l i = some x) : ∃ ad, IxA P t v i ad ∧ ∀ w, SL w0 F0 w ps → Aqa w ad (enc x) := B1z (C := fun w_ => SL w0 F0 w_ ps) hFl h hw hb hz hx
end
theorem fR {α : Type} {T : Ty α} {v : Value} {l : List α} (h : Rd T w0 F0 v l) (hs : SL w0 F0 w ps) : ∃ A c, v = .slice A l.length c := AVo (rdL h hs)
theorem fO {α : Type} {T : Ty α} {v : Value} {l : List α} (hs : SL w0 F0 w ps) (hm : Sl T v l ∈ ps) : ∃ A c, v = .slice A l.length c := AVo (hs.A59 hm)
end
abbrev jI (n : Int) : Value := .int .i64 n
abbrev jU (n : Int) : Value := .int .u8 n
abbrev jP (g : Nat) : Value := .pointer (some ⟨g, 0, none⟩)
abbrev jZ : List Value := .int .i64 0 :: .int .i64 0 :: ev8 (Vector.replicate 24 (0 : UInt8))
end Go.Pv
namespace Go.Pv
open Go Go.RowKit
section
variable {P : Program} {w0 w w' : World} {F0 : List Nat} {ps qs q1 rest : List Ck} {W : Type} {n : Bmu} {K : Nat} {T : Ty W} {vs : List Value} {ts : List (AOe W)} {L : List (List Ck)} {v : Value} {t : AOe W}
def AUf (n : Bmu) (T : Ty W) (K : Nat) (vs : List Value) (ts : List (AOe W)) (L : List (List Ck)) : Ck :=
 ⟨fun w F => (∀ k ∈ F, k < w.heap.size) ∧ (vs.length = K ∧ ∀ v ∈ vs, v.oneCell' = true) ∧ (∀ (k : Nat) t, ts[k]? = some t → ∃ v G, vs[k]? = some v ∧ Aru [Tlc n T v t] w G ∧ ∀ j ∈ G, j ∈ F) ∧ ∀ qs ∈ L, ∃ G, Aru qs w G ∧ ∀ j ∈ G, j ∈ F,
  fun ⟨h0, h1, h2, h3⟩ hk => ⟨fun k hk' => by
   have h4 := hk k hk'
   rw [Array.getElem?_eq_getElem (h0 k hk')] at h4
   exact (Array.getElem?_eq_some_iff.1 h4).1, h1, fun k t ht => by
   obtain ⟨v, G, a, b, c⟩ := h2 k t ht
   exact ⟨v, G, a, b.loc fun j hj => hk j (c j hj), c⟩, fun qs hq => by
   obtain ⟨G, b, c⟩ := h3 qs hq
   exact ⟨G, b.loc fun j hj => hk j (c j hj), c⟩⟩,
  fun h => h.1⟩
theorem SL.Bym {g ty : Nat} (hs : SL w0 F0 w (Blk g ty (List.replicate K .nilFunc) :: ps)) : ∃ vs, SL w0 F0 w (Blk g ty vs :: AUf n T K vs (List.replicate K (.nil : AOe W)) [] :: ps) := by
 refine ⟨_, hs.re fun F ⟨F1, F2, e, h1, h2, hd⟩ => ⟨F, ⟨F1, F2, e, h1, ⟨[], F2, rfl, ⟨by simp, ⟨List.length_replicate, ?_⟩, ?_, by simp⟩, h2, by simp⟩, hd⟩, fun _ => Iff.rfl⟩⟩
 ·intro v hv
  rw [List.eq_of_mem_replicate hv]
  rfl
 ·intro j t ht
  have hj := (List.getElem?_eq_some_iff.1 ht).1
  rw [List.length_replicate] at hj
  rw [List.getElem?_replicate, Mo hj] at ht
  cases ht
  exact ⟨.nilFunc, [], by rw [List.getElem?_replicate, Mo hj], Aru.one (p := Tlc n T .nilFunc .nil) ⟨[], ⟨rfl, rfl⟩, rfl⟩, by simp⟩
theorem SL.Bq7 (hs : SL w0 F0 w (qs ++ AUf n T K vs ts L :: ps)) : SL w0 F0 w (AUf n T K vs ts (qs :: L) :: ps) := hs.re fun F hst => by
 obtain ⟨F1, F2, e, h1, ⟨F3, F4, e2, ⟨a0, a1, a2, a3⟩, h4, hd2⟩, hd⟩ := Aru.append.1 hst
 refine ⟨F, ⟨F1 ++ F3, F4, by rw [e, e2, B23], ⟨?_, a1, ?_, ?_⟩, h4, ?_⟩, fun _ => Iff.rfl⟩
 ·intro k hk
  rcases List.mem_append.1 hk with h | h
  ·exact h1.lt k h
  ·exact a0 k h
 ·intro k t ht
  obtain ⟨v, G, b, c, d⟩ := a2 k t ht
  exact ⟨v, G, b, c, fun j hj => List.mem_append_right _ (d j hj)⟩
 ·intro q hq
  rcases List.mem_cons.1 hq with rfl | hq
  ·exact ⟨F1, h1, fun j hj => List.mem_append_left _ hj⟩
  ·obtain ⟨G, c, d⟩ := a3 q hq
   exact ⟨G, c, fun j hj => List.mem_append_right _ (d j hj)⟩
 ·intro k hk hk'
  rcases List.mem_append.1 hk with h | h
  ·exact hd k h (by rw [e2]; exact List.mem_append_right _ hk')
  ·exact hd2 k h hk'
theorem SL.B0h (hm : q1 ∈ L) (hs : SL w0 F0 w (qs ++ AUf n T K vs ts L :: ps)) : SL w0 F0 w (AUf n T K vs ts ((qs ++ q1) :: L) :: ps) := hs.re fun F hst => by
 obtain ⟨F1, F2, e, h1, ⟨F3, F4, e2, ⟨a0, a1, a2, a3⟩, h4, hd2⟩, hd⟩ := Aru.append.1 hst
 refine ⟨F, ⟨F1 ++ F3, F4, by rw [e, e2, B23], ⟨?_, a1, ?_, ?_⟩, h4, ?_⟩, fun _ => Iff.rfl⟩
 ·intro k hk
  rcases List.mem_append.1 hk with h | h
  ·exact h1.lt k h
  ·exact a0 k h
 ·intro k t ht
  obtain ⟨v, G, b, c, d⟩ := a2 k t ht
  exact ⟨v, G, b, c, fun j hj => List.mem_append_right _ (d j hj)⟩
 ·intro q hq
  rcases List.mem_cons.1 hq with rfl | hq
  ·obtain ⟨G, c, d⟩ := a3 q1 hm
   exact ⟨F1 ++ G, Aru.append.2 ⟨F1, G, rfl, h1, c, fun j hj hj' => hd j hj (by rw [e2]; exact List.mem_append_left _ (d j hj'))⟩, fun j hj => by
    rcases List.mem_append.1 hj with h | h
    ·exact List.mem_append_left _ h
    ·exact List.mem_append_right _ (d j h)⟩
  ·obtain ⟨G, c, d⟩ := a3 q hq
   exact ⟨G, c, fun j hj => List.mem_append_right _ (d j hj)⟩
 ·intro k hk hk'
  rcases List.mem_append.1 hk with h | h
  ·exact hd k h (by rw [e2]; exact List.mem_append_right _ hk')
  ·exact hd2 k h hk'
theorem SL.Brc (hs : SL w0 F0 w ps) (hm : AUf n T K vs ts L ∈ ps) (hq : qs ∈ L) {g t o : Nat} {cs : List Value} {u : Value} (hb : Blk g t cs ∈ qs) (hu : cs[o]? = some u) : w.cell? ⟨g, o, none⟩ = some u := by
 obtain ⟨F, hst, hF⟩ := hs.st
 obtain ⟨G, ⟨_, _, _, a3⟩, hG⟩ := AU9 hm hst
 obtain ⟨G', c, _⟩ := a3 qs hq
 exact (SL.init w G' c).AQ9 hb hu
theorem SL.B0i {k : Nat} (hs : SL w0 F0 w (qs ++ AUf n T K vs ts L :: ps)) (hk : Nat.blt k K = true) (h1v : v.oneCell' = true) (hm : q1 = [] ∨ q1 ∈ L) (hq : ∀ w G, SL w G w (qs ++ q1) → SL w G w [Tlc n T v t]) :
  SL w0 F0 w (AUf n T K (vs.set k v) (ts.set k t) L :: ps) := hs.re fun F hst => by
 obtain ⟨F1, F2, e, h1, ⟨F3, F4, e2, ⟨a0, a1, a2, a3⟩, h4, hd2⟩, hd⟩ := Aru.append.1 hst
 refine ⟨F, ⟨F1 ++ F3, F4, by rw [e, e2, B23], ⟨?_, ⟨by rw [List.length_set]; exact a1.1, ?_⟩, ?_, ?_⟩, h4, ?_⟩, fun _ => Iff.rfl⟩
 ·intro k hk
  rcases List.mem_append.1 hk with h | h
  ·exact h1.lt k h
  ·exact a0 k h
 ·intro u hu
  rcases List.mem_or_eq_of_mem_set hu with h | rfl
  ·exact a1.2 u h
  ·exact h1v
 ·intro j t' ht
  have hk : k < vs.length := by rw [a1.1]; simpa [Nat.blt_eq] using hk
  by_cases hj : k = j
  ·subst hj
   have ht' : t = t' := by
    rw [List.getElem?_set] at ht
    split at ht
    ·split at ht
     ·exact Option.some.inj ht
     ·cases ht
    ·rename_i hn; exact absurd rfl hn
   subst ht'
   have hG : ∃ G1, Aru q1 w G1 ∧ ∀ j ∈ G1, j ∈ F3 := by
    rcases hm with rfl | hm
    ·exact ⟨[], rfl, by simp⟩
    ·exact a3 q1 hm
   obtain ⟨G1, c, d⟩ := hG
   have h5 : Aru (qs ++ q1) w (F1 ++ G1) := Aru.append.2 ⟨F1, G1, rfl, h1, c, fun j hj hj' => hd j hj (by rw [e2]; exact List.mem_append_left _ (d j hj'))⟩
   obtain ⟨G2, h6, h7⟩ := (hq w _ (SL.init w _ h5)).st
   refine ⟨v, G2, by rw [List.getElem?_set_self hk], h6, fun j hj => ?_⟩
   rcases h7 j hj with h8 | h8
   ·rcases List.mem_append.1 h8 with h9 | h9
    ·exact List.mem_append_left _ h9
    ·exact List.mem_append_right _ (d j h9)
   ·exact absurd (h6.lt j hj) (by omega)
  ·rw [List.getElem?_set_ne hj] at ht
   obtain ⟨v', G, b, c, d⟩ := a2 j t' ht
   exact ⟨v', G, by rw [List.getElem?_set_ne hj]; exact b, c, fun i hi => List.mem_append_right _ (d i hi)⟩
 ·intro q hq
  obtain ⟨G, c, d⟩ := a3 q hq
  exact ⟨G, c, fun j hj => List.mem_append_right _ (d j hj)⟩
 ·intro k hk hk'
  rcases List.mem_append.1 hk with h | h
  ·exact hd k h (by rw [e2]; exact List.mem_append_right _ hk')
  ·exact hd2 k h hk'
theorem SL.Bfj (hs : SL w0 F0 w ps) (hm : AUf n T K vs ts L ∈ ps) : (vs.length = K ∧ ∀ v ∈ vs, v.oneCell' = true) ∧ ∀ (k : Nat) t, ts[k]? = some t → ∃ v, vs[k]? = some v ∧ SL w0 F0 w [Tlc n T v t] := by
 obtain ⟨F, hst, hF⟩ := hs.st
 obtain ⟨G, ⟨_, a1, a2, _⟩, hG⟩ := AU9 hm hst
 refine ⟨a1, fun k t ht => ?_⟩
 obtain ⟨v, G', b, c, d⟩ := a2 k t ht
 exact ⟨v, b, hs.fm, G', c, fun j hj => hF j (hG j (d j hj))⟩
end
section
variable {P : Program} {w0 w : World} {F0 : List Nat} {ps qs q1 : List Ck} {m : List (Nat × Value)} {n d : Nat} {ty : TypeId} {pos : String} {aft : Array Edge} {x y : Operand} {ops : Array Oper} {Q : Exit → Act → World → Prop} {a : Act} {l' : List Oper} {W : Type} {nn : Bmu} {K : Nat} {T : Ty W} {vs : List Value} {ts : List (AOe W)} {L : List (List Ck)} {v : Value} {t : AOe W}
theorem Bop {b : Ck} (hs : SL w0 F0 w (qs ++ b :: ps)) : SL w0 F0 w (b :: (qs ++ ps)) := hs.re fun F hst => by
 obtain ⟨F1, F2, e, h1, ⟨F3, F4, e2, h2, h3, hd2⟩, hd⟩ := Aru.append.1 hst
 refine ⟨F3 ++ (F1 ++ F4), ⟨F3, F1 ++ F4, rfl, h2, Aru.append.2 ⟨F1, F4, rfl, h1, h3, fun k hk hk' => hd k hk (by rw [e2]; exact List.mem_append_right _ hk')⟩, fun k hk hk' => ?_⟩, fun k => ?_⟩
 ·rcases List.mem_append.1 hk' with h | h
  ·exact hd k h (by rw [e2]; exact List.mem_append_left _ hk)
  ·exact hd2 k hk h
 ·rw [e, e2]
  simp only [B2y]
  constructor
  ·rintro (h | h | h)
   ·exact .inr (.inl h)
   ·exact .inl h
   ·exact .inr (.inr h)
  ·rintro (h | h | h)
   ·exact .inr (.inl h)
   ·exact .inl h
   ·exact .inr (.inr h)
theorem AEk {g tb t' k : Nat} (hF : Fr a n m) (hs : SL w0 F0 w (qs ++ Blk g tb vs :: AUf nn T K vs ts L :: ps)) (hx : ev m x = some (.pointer (some ⟨g, k, none⟩))) (hy : ev m y = some v)
  (hi : (P.info? t').map (·.size) = some 1) (hv : v.cells = #[v]) (h1 : v.oneCell' = true) (hk : Nat.blt k K = true) (hm : q1 = [] ∨ q1 ∈ L) (hq : ∀ w G, SL w G w (qs ++ q1) → SL w G w [Tlc nn T v t])
  (kk : ∀ vs' w a, Fr a n m → SL w0 F0 w (Blk g tb vs' :: AUf nn T K vs' (ts.set k t) L :: ps) → wpList P ops Q l' a w) : wpList P ops Q (⟨none, .store t' x y, ty, pos, aft, none⟩ :: l') a w := by
 have hk' : k < vs.length := by
  obtain ⟨F, hst, _⟩ := hs.st
  obtain ⟨G, ⟨_, a1, _⟩, _⟩ := AU9 (p := AUf nn T K vs ts L) (by simp) hst
  rw [a1.1]
  simpa [Nat.blt_eq] using hk
 refine Bdu hF (Bop hs) hx hy hi hv h1 (B2u hk') fun w a hF hs => ?_
 refine kk (vs.set k v) w a hF ?_
 have h3 := hs.rot
 simp only [B23] at h3
 have h4 : SL w0 F0 w (qs ++ AUf nn T K vs ts L :: (ps ++ [Blk g tb (vs.set k v)])) := by simpa using h3
 have h5 := SL.B0i h4 hk h1 hm hq
 have h6 : SL w0 F0 w ((AUf nn T K (vs.set k v) (ts.set k t) L :: ps) ++ Blk g tb (vs.set k v) :: []) := by simpa using h5
 simpa using Bop h6
end
end Go.Pv
namespace Go.Pv
open Go Go.RowKit Go.Sort Go.Shelf Go.Proofs
theorem Bhd (off : Nat) (d : Array Int) (c : Array Value) (j : Nat) : (putCells (Value.int .i64) off d c)[j]? = if j < c.size then (if off ≤ j ∧ j < off + d.size then some (Value.int .i64 d[j - off]!) else c[j]?) else none := by
 unfold putCells
 rw [Array.getElem?_mapIdx]
 by_cases hj : j < c.size
 ·rw [Mo hj, Array.getElem?_eq_getElem hj, B2s]
  split <;> rfl
 ·rw [Hw hj, Array.getElem?_eq_none (by omega)]
  rfl
theorem AZx (off : Nat) (d : Array Int) (c : Array Value) : (putCells (Value.int .i64) off d c).size = c.size := by simp [putCells]
theorem AZ7 : ∀ (l : List Int), l.flatMap (fun x => [Value.int .i64 x]) = l.map (Value.int .i64)
 | [] => rfl
 | x :: l => by rw [List.flatMap_cons, AZ7 l]; rfl
theorem Bqh {P : Program} {ρ : Ren} (L : Lays.n189 P ρ) {w : World} {FF : List Nat} {v : Value} {l r : List Int} (hst : Aru [Sl (Ty.int .i64) v l] w FF) (hr : Bgg l = some r) :
  Calls P (ρ.f 189) #[v] w (Ret fun u w' => u = .tuple #[] ∧ SL w FF w' [Sl (Ty.int .i64) v r]) := by
 unfold Bgg at hr
 split at hr
 ·rename_i hlen
  cases hr
  have hown : slOwn (Ty.int .i64) w FF v l := Aru.AXg hst
  have hrow := (Flat.int .i64).slOwn.1 hown
  have hperm : (AQx l).length = l.length := by simp [AQx]
  rcases hrow.2 with ⟨rfl, h0, rfl⟩ | ⟨g, o, cap, cur, e, fz, rfl, rfl, hg, hnc, hoc, hfz, hcells⟩
  ·have hl : l = [] := List.eq_nil_of_length_eq_zero h0
   subst hl
   refine (Any.slices_Sort_int_none L none 0 w).mono fun _ w' ⟨he, hw⟩ => ⟨_, he, rfl, ?_⟩
   subst hw
   have : AQx [] = [] := by simp [AQx]
   rw [this]
   exact SL.init w' [] hst
  ·have hsz : (Ty.int .i64).sz = 1 := rfl
   rw [AZ7 l] at hcells
   rw [hsz, Nat.mul_one] at hoc
   have hcur : ∀ j, j < l.length → cur[o + j]? = some (Value.int .i64 (l.toArray[j]!)) := fun j hj => by
    have h1 := hcells j (Value.int .i64 l[j]) (by rw [List.getElem?_map, B2u hj]; rfl)
    rw [h1]
    congr 2
    simp [hj]
   have hH : Holds (Value.int .i64) w g o l.toArray := fun j hj => by
    have hj' : j < l.length := by simpa using hj
    refine ⟨?_, ?_⟩
    ·simp [World.cell?, hg, hcur j hj']
    ·have := hfz (o + j) (by omega)
     simp [World.frozen?, hg]
     omega
   refine (Any.slices_Sort_int L g o cap l w hH (AUp hg) hlen).mono fun _ w' ⟨he, n, os, hw⟩ => ⟨_, he, rfl, ?_⟩
   have hheap : w'.heap = (w.heap.modify g fun | .cells c e fr => .cells (putCells (Value.int .i64) o (AQx l).toArray c) e fr | ob => ob) ++ os := by
    rw [hw]
    rfl
   have hgl := AUp hg
   have hother : ∀ k, k < w.heap.size → k ≠ g → w'.heap[k]? = w.heap[k]? := fun k hk hne => by
    rw [hheap, Array.getElem?_append_left (by simpa using hk), Array.getElem?_modify, Hw (fun h => hne h.symm)]
   have hself : w'.heap[g]? = some (.cells (putCells (Value.int .i64) o (AQx l).toArray cur) e fz) := by
    rw [hheap, Array.getElem?_append_left (by simpa using hgl), Array.getElem?_modify, Mo rfl, hg]
    rfl
   refine ⟨⟨by rw [hw]; rfl, by rw [hw]; rfl, by rw [hw]; rfl, by rw [hheap]; simp, fun k hk hn => hother k hk (by simpa using hn)⟩, [g], Aru.one (p := Sl (Ty.int .i64) _ (AQx l)) ((Flat.int .i64).slOwn.2 ⟨?_, .inr ⟨g, o, cap, _, e, fz, by rw [hperm], rfl, hself, by omega, ?_, ?_, ?_⟩⟩), fun k hk => .inl hk⟩
   ·rw [AYd (Flat.int .i64)]
   ·rw [hsz, Nat.mul_one, AZx]; exact hoc
   ·intro j hj
    rw [AZx] at hj
    exact hfz j hj
   ·intro j u hu
    rw [AZ7 (AQx l), List.getElem?_map] at hu
    rcases hx : (AQx l)[j]? with _ | x
    ·rw [hx] at hu; cases hu
    ·rw [hx] at hu
     have hjl := (List.getElem?_eq_some_iff.1 hx).1
     rw [Bhd, Mo (by omega), Mo ⟨by omega, by simp; omega⟩, Nat.add_sub_cancel_left]
     simp only [B2s, Option.some.injEq] at hu
     rw [← hu]
     congr 2
     have : (AQx l)[j] = x := by
      rw [B2u hjl] at hx
      exact Option.some.inj hx
     simp [hjl, this]
 ·cases hr
end Go.Pv
namespace Go.Pv
open Go Go.RowKit Go.Sort Go.Shelf Go.Proofs Go.Maps
theorem Bzi {w w' : World} {d r : List Int} {g o cap : Nat} {cur : Array Value} {e : TypeId} {fz : Nat × Nat} {os : Array Obj}
  (hg : w.heap[g]? = some (.cells cur e fz)) (hoc : o + cap ≤ cur.size) (hnc : d.length ≤ cap) (hfz : ∀ j, j < cur.size → ¬ (fz.1 ≤ j ∧ j < fz.2))
  (hr : r.length ≤ d.length) (hp : ∀ j, j < r.length → r[j]? = d[j]?)
  (ho : w'.os = w.os) (ht : w'.tape = w.tape) (hu : w'.output = w.output)
  (hheap : w'.heap = (w.heap.modify g fun | .cells c e fr => .cells (putCells (Value.int .i64) o d.toArray c) e fr | ob => ob) ++ os) :
  SL w [g] w' [Sl (Ty.int .i64) (.slice (some ⟨g, o, none⟩) r.length cap) r] := by
 have hgl := AUp hg
 have hother : ∀ k, k < w.heap.size → k ≠ g → w'.heap[k]? = w.heap[k]? := fun k hk hne => by
  rw [hheap, Array.getElem?_append_left (by simpa using hk), Array.getElem?_modify, Hw (fun h => hne h.symm)]
 have hself : w'.heap[g]? = some (.cells (putCells (Value.int .i64) o d.toArray cur) e fz) := by
  rw [hheap, Array.getElem?_append_left (by simpa using hgl), Array.getElem?_modify, Mo rfl, hg]
  rfl
 have hsz : (Ty.int .i64).sz = 1 := rfl
 refine ⟨⟨ho, ht, hu, by rw [hheap]; simp, fun k hk hn => hother k hk (by simpa using hn)⟩, [g], Aru.one (p := Sl (Ty.int .i64) _ r) ((Flat.int .i64).slOwn.2 ⟨?_, .inr ⟨g, o, cap, _, e, fz, rfl, rfl, hself, by omega, ?_, ?_, ?_⟩⟩), fun k hk => .inl hk⟩
 ·rw [AYd (Flat.int .i64)]
 ·rw [hsz, Nat.mul_one, AZx]; exact hoc
 ·intro j hj
  rw [AZx] at hj
  exact hfz j hj
 ·intro j u hu'
  rw [AZ7 r, List.getElem?_map] at hu'
  rcases hx : r[j]? with _ | x
  ·rw [hx] at hu'; cases hu'
  ·have hjl := (List.getElem?_eq_some_iff.1 hx).1
   rw [hx] at hu'
   have hd := hp j hjl
   rw [hx] at hd
   have hdl := (List.getElem?_eq_some_iff.1 hd.symm).1
   rw [Bhd, Mo (by omega), Mo ⟨by omega, by simp; omega⟩, Nat.add_sub_cancel_left]
   simp only [B2s, Option.some.injEq] at hu'
   rw [← hu']
   congr 2
   have : d[j] = x := by
    rw [B2u hdl] at hd
    exact (Option.some.inj hd).symm
   simp [hdl, this]
def AZ2 (l : List Int) : Option (List Int) := if l.length < 4611686018427387904 then some (Lib.compact l) else none
theorem Brn (l : List Int) : (Lib.compact l).length ≤ l.length := by
 unfold Lib.compact Lib.compactUpTo
 rw [B2w]
 refine Nat.le_trans (B24 _ _) ?_
 rw [List.length_range]
 exact Nat.le_refl _
theorem Bjn {P : Program} {ρ : Ren} (L : Lays2.n20 P ρ) {w : World} {FF : List Nat} {v : Value} {l r : List Int} (hst : Aru [Sl (Ty.int .i64) v l] w FF) (hr : AZ2 l = some r) :
  Calls P (ρ.f 20) #[v] w (Ret fun u w' => SL w FF w' [Sl (Ty.int .i64) u r]) := by
 unfold AZ2 at hr
 split at hr
 ·rename_i hlen
  cases hr
  have hown : slOwn (Ty.int .i64) w FF v l := Aru.AXg hst
  have hrow := (Flat.int .i64).slOwn.1 hown
  rcases hrow.2 with ⟨rfl, h0, rfl⟩ | ⟨g, o, cap, cur, e, fz, rfl, rfl, hg, hnc, hoc, hfz, hcells⟩
  ·have hl : l = [] := List.eq_nil_of_length_eq_zero h0
   subst hl
   refine (Any.slices_Compact_int_empty L none 0 w).mono fun _ w' ⟨he, hw⟩ => ⟨_, he, ?_⟩
   subst hw
   have : Lib.compact ([] : List Int) = [] := rfl
   rw [this]
   exact SL.init w' [] hst
  ·have hsz : (Ty.int .i64).sz = 1 := rfl
   rw [AZ7 l] at hcells
   rw [hsz, Nat.mul_one] at hoc
   have hcur : ∀ j, j < l.length → cur[o + j]? = some (Value.int .i64 (l.toArray[j]!)) := fun j hj => by
    have h1 := hcells j (Value.int .i64 l[j]) (by rw [List.getElem?_map, B2u hj]; rfl)
    rw [h1]
    congr 2
    simp [hj]
   have hH : Holds (Value.int .i64) w g o l.toArray := fun j hj => by
    have hj' : j < l.length := by simpa using hj
    refine ⟨?_, ?_⟩
    ·simp [World.cell?, hg, hcur j hj']
    ·have := hfz (o + j) (by omega)
     simp [World.frozen?, hg]
     omega
   have hcl := Brn l
   refine (Any.slices_Compact_int L g o cap l w hH (by omega) hnc).mono fun _ w' ⟨he, q, hw⟩ => ⟨_, he, ?_⟩
   refine Bzi (d := Lib.compact l ++ List.replicate (l.length - (Lib.compact l).length) 0) (os := #[]) hg hoc ?_ hfz ?_ ?_ (by rw [hw]; rfl) (by rw [hw]; rfl) (by rw [hw]; rfl) ?_
   ·simp; omega
   ·simp
   ·intro j hj
    rw [List.getElem?_append_left hj]
   ·rw [hw, Array.append_empty]
    rfl
 ·cases hr
def Bk6 {ν : Type} (l : List (Int × ν)) : Option (List Int) :=
 if decide (l.length ≤ 1000000000) && l.all (fun p => decide (-9223372036854775808 ≤ p.1) && decide (p.1 ≤ 9223372036854775807)) then some (AQx (l.map Prod.fst)) else none
theorem Bxi {P : Program} {ρ : Ren} (L : SlLaysZI.n7 P ρ) {w : World} {g : Nat} :
  Calls P (ρ.f 7) #[.map (some g)] w (Ret fun u w' => ∃ k, u = clo (ρ.f 10) [.pointer (some ⟨k, 0, none⟩)] ∧ SL w [] w' [Blk k (ρ.t 23) [.map (some g)]]) :=
 (callsIn_wide (n := 6)).1 ((AnyZI.keys_in L Fence.wide 6 trivial rfl (some g) w).mono fun e w' ⟨he, hw⟩ => ⟨_, he, w.heap.size, rfl, by
  subst hw
  exact ⟨Fm.alloc w [] _, [w.heap.size], Aru.one (p := Blk _ _ _) ⟨rfl, heap_alloc_new w _⟩, fun k hk => .inr (by simp only [List.mem_singleton] at hk; omega)⟩⟩)
theorem Btw {P : Program} {k : TypeId} (hk : P.underlying k = some (.int .i64)) {x : Int} (h1 : -9223372036854775808 ≤ x) (h2 : x ≤ 9223372036854775807) : keyOf P k (.int .i64 x) = some (.int .i64 x) := by
 simp only [keyOf, hk, mapKey, true_and, ite_eq_left_iff]
 intro h
 refine absurd ?_ h
 simp only [Lit.wf, IntKind.min, IntKind.max, LX, B29]
 first | exact ⟨h1, h2⟩ | (constructor <;> simp [IntKind.signed, IntKind.bits] <;> omega)
theorem Btg {P : Program} {ρ6 ρ7 ρs : Ren} (L6 : SlLaysZI.n6 P ρ6) (L7 : SlLaysZI.n7 P ρ7) (Ls : Lays.n189 P ρs) (e9 : ρ6.f 9 = ρs.f 189) {ν : Type} {ev_ : ν → Value} {w : World} {FF : List Nat} {g kb : Nat} {l : List (Int × ν)} {r : List Int}
  (h8 : fnB P (ρ6.f 8) = true) (h9 : fnB P (ρ6.f 9) = true) (h10 : fnB P (ρ7.f 10) = true)
  (hst : Aru [Mp (Value.int .i64) ev_ g l, Blk kb (ρ7.t 23) [.map (some g)]] w FF) (hr : Bk6 l = some r) :
  Calls P (ρ6.f 6) #[clo (ρ7.f 10) [.pointer (some ⟨kb, 0, none⟩)]] w (Ret fun u w' => SL w FF w' [Mp (Value.int .i64) ev_ g l, Sl (Ty.int .i64) u r]) := by
 unfold Bk6 at hr
 split at hr
 ·rename_i hok
  cases hr
  simp only [B29, LX, List.all_eq_true] at hok
  obtain ⟨hlen, hrange⟩ := hok
  obtain ⟨F1, F2, eF, ⟨e1, es, clock, hm⟩, ⟨F3, F4, eF2, ⟨e3, hkb⟩, e4, _⟩, hd⟩ := hst
  have hgl := AUp hm.heap
  have hkl := AUp hkb
  have hesz : es.size = l.length := hm.size
  have hent : ∀ x ∈ es.toList, ∃ p ∈ l, x.key = Value.int .i64 p.1 := fun x hx => by
   obtain ⟨j, hj, hjx⟩ := List.mem_iff_getElem.1 hx
   have hj' : es[j]? = some x := by rw [← Array.getElem?_toList, B2u hj, hjx]
   obtain ⟨p, hp, hk, _⟩ := hm.entry hj'
   exact ⟨p, List.mem_of_getElem? hp, hk⟩
  let R : Value → Option (DataW Unit × List MemPlace) := fun _ => some (.lit (.bool true), [])
  have hkeys : ∀ k : TypeId, P.underlying k = some (.int .i64) → ∀ x ∈ es.toList, ∃ p ∈ l, x.key = Value.int .i64 p.1 ∧ WideElems.rd P k R x = some (.int .i64 p.1, .lit (.bool true)) := fun k hk x hx => by
   obtain ⟨p, hp, hxk⟩ := hent x hx
   refine ⟨p, hp, hxk, ?_⟩
   have h1 := hrange p hp
   simp only [WideElems.rd, hxk, Btw hk h1.1 h1.2, B2r, R, B2s]
  have hown : w.ownsMap P (ρ7.t 26) R g l.length (.map ((es.toList.map (WideElems.rg P (ρ7.t 26) R)).foldr DataW.insert [])) := by
   refine ⟨es, clock, hm.heap, ⟨?_, ⟨hm.lt, hm.born.imp (fun h => by omega), ?_⟩, ?_⟩, by omega, rfl⟩
   ·unfold maxLen; omega
   ·have h1 : es.toList.map (·.key) = (l.map Prod.fst).map (Value.int .i64) := by
     have h2 := congrArg (List.map Prod.fst) hm.map
     simpa [List.map_map, Function.comp_def] using h2
    rw [h1]
    exact List.pairwise_map.2 (hm.nodup.imp fun hne e => hne (by cases e; rfl))
   ·intro x hx
    obtain ⟨p, _, _, h⟩ := hkeys _ L7.t26 x hx
    exact ⟨_, h⟩
  have hperm : (intKeys (DataW.map ((es.toList.map (WideElems.rg P (ρ7.t 26) R)).foldr DataW.insert []) : DataW Unit)).Perm (l.map Prod.fst) := by
   refine ((WideShapes.sorted_perm _).map _).trans ?_
   rw [List.map_map]
   have h1 : es.toList.map ((fun p => intOf p.1) ∘ WideElems.rg P (ρ7.t 26) R) = l.map Prod.fst := by
    have h2 := congrArg (List.map fun p : Value × Value => match p.1 with | .int _ a => a | _ => 0) hm.map
    rw [List.map_map, List.map_map] at h2
    refine Eq.trans (List.map_congr_left fun x hx => ?_) (h2.trans (List.map_congr_left fun x hx => ?_))
    ·obtain ⟨p, _, hk, h⟩ := hkeys _ L7.t26 x hx
     simp only [Function.comp, WideElems.rg, h, Option.getD_some, intOf, hk]
    ·simp only [Function.comp]
   rw [h1]
  have hsizeD : Maps.size (DataW.map ((es.toList.map (WideElems.rg P (ρ7.t 26) R)).foldr DataW.insert []) : DataW Unit) = l.length := by
   show (((es.toList.map (WideElems.rg P (ρ7.t 26) R)).foldr DataW.insert [])).length = l.length
   rw [length_sorted, B2w, Array.length_toList, hesz]
  have hcell : w.cell? ⟨kb, 0, none⟩ = some (.map (some g)) := by simp [World.cell?, hkb]
  have hseq := AnyZI.keys_gives (ρ := ρ7) { L7 with } Fence.wide 2 trivial rfl (by omega) kb g l.length _ w hkl hcell hown
  have hsorts : AnyZI.SortsIn P ρ6 Fence.wide 4 := ⟨fun blk off cap ss W hH hblk hsz => callsIn_wide.2 (by rw [e9]; exact Any.slices_Sort_int Ls blk off cap ss W hH hblk hsz),
   fun p cap W => callsIn_wide.2 (by rw [e9]; exact Any.slices_Sort_int_none Ls p cap W)⟩
  have cS := AnyZI.sorted_in L6 Fence.wide 5 trivial trivial trivial trivial rfl (by omega) hsorts (fun args w => AWt h9 args) (ρ7.f 10) #[.pointer (some ⟨kb, 0, none⟩)] trivial (fun args w => AWt h10 args) _ _ (by rw [hsizeD]; unfold maxLen; omega) (by rw [hsizeD]; omega) w hseq
  refine ((callsIn_wide (n := 5)).1 cS).mono fun _ w' ⟨v, ss, he, hss, hrow, hnil, hb⟩ => ⟨v, he, ?_⟩
  have hfm : Fm w FF w' := ⟨hb.os, hb.tape, hb.output, hb.size, fun k hk _ => hb.block k hk⟩
  have hsort : ss.mergeSort (fun x y => decide (x ≤ y)) = AQx (l.map Prod.fst) := mergeSort_of_perm_i (hss.trans hperm)
  rw [hsort] at hrow
  have hslen : (AQx (l.map Prod.fst)).length = ss.length := by rw [← hsort]; simp
  refine SL.mk hfm ?_
  have hmp : (Mp (Value.int .i64) ev_ g l).P w' [g] := ⟨rfl, es, clock, ⟨by rw [hb.block g hgl]; exact hm.heap, hm.map, hm.born, hm.lt, hm.nodup⟩⟩
  rcases hrow.2 with ⟨rfl, h0⟩ | ⟨gb, cap, cur, rfl, hbase, hgb, r1, r2, r3, r4⟩
  ·have hz : AQx (l.map Prod.fst) = [] := List.eq_nil_of_length_eq_zero (by rw [hslen]; exact h0)
   rw [hz]
   refine ⟨[g], ⟨[g], [], rfl, hmp, ⟨[], [], rfl, slOwn.nil w', rfl, by simp⟩, by simp⟩, fun k hk => .inl ?_⟩
   rw [eF, e1]
   simp only [List.mem_singleton] at hk
   simp [hk]
  ·have hne : gb ≠ g := by omega
   have hcl : cur.toList.take (ss.length * 1) = (AQx (l.map Prod.fst)).map (Value.int .i64) := r4
   refine ⟨[g, gb], ⟨[g], [gb], rfl, hmp, ⟨[gb], [], rfl, (Flat.int .i64).slOwn.2 ⟨by rw [AYd (Flat.int .i64)], .inr ⟨gb, 0, cap, cur, _, (0, 0), by rw [hslen], rfl, hgb, by omega, ?_, fun j hj => by simp, ?_⟩⟩, rfl, by simp⟩, by simp; exact fun e => hne e.symm⟩, fun k hk => ?_⟩
   ·show 0 + cap * 1 ≤ cur.size
    rw [r3]
    omega
   ·intro j u hu
    rw [AZ7, ← hcl, List.getElem?_take] at hu
    split at hu
    ·rw [Nat.zero_add, ← Array.getElem?_toList]; exact hu
    ·cases hu
   ·simp only [B2z, List.not_mem_nil, or_false] at hk
    rcases hk with rfl | rfl
    ·left
     rw [eF, e1]
     simp
    ·exact .inr hbase
 ·cases hr
end Go.Pv
namespace Go.Proofs.YtfcpkcehecmcpaaGreat
open Go Go.RowKit Go.Pv
structure Ar2 where
 Name : List UInt8
 ASg : UInt8
def AXk (x : Ar2) := (x.Name, x.ASg)
def AG5 : Ty Ar2 := Ty.iso (Ty.pair Ty.str Ty.u8) AXk
theorem AOt : Flat AG5 (fun x => [.string ⟨⟨x.Name⟩⟩, .int .u8 (x.ASg.toNat : Int)]) := Flat.iso (Flat.pair Flat.str Flat.u8) _
structure Abi where
 Name : List UInt8
 Ar1 : Int
 Fields : List Ar2
def AV8 (x : Abi) := (x.Name, x.Ar1, x.Fields)
def Aef : Ty Abi := Ty.iso (Ty.pair Ty.str (Ty.pair (Ty.int .i64) (Ty.slice AG5))) AV8
theorem ALt {w : World} {F0 : List Nat} {G : List Nat} {x : Abi} {cs : List Value} (h : (Aef).rd w G x cs) (hG : ∀ k ∈ G, k < w.heap.size ∧ k ∉ F0) :
  ∃ v2 : Value, cs = [.string ⟨⟨x.Name⟩⟩, .int .i64 x.Ar1, v2] ∧ Rd AG5 w F0 v2 x.Fields := by
 obtain ⟨_, _, rfl, rfl, ⟨_, _, rfl, rfl, ⟨v2, rfl, h0⟩⟩⟩ := h
 exact ⟨v2, rfl, ⟨G, h0, hG⟩⟩
structure Am7 where
 Ars : List UInt8
 Result : UInt8
def ARp (x : Am7) := (x.Ars, x.Result)
def Ate : Ty Am7 := Ty.iso (Ty.pair (Ty.slice Ty.u8) Ty.u8) ARp
theorem ARn {w : World} {F0 : List Nat} {G : List Nat} {x : Am7} {cs : List Value} (h : (Ate).rd w G x cs) (hG : ∀ k ∈ G, k < w.heap.size ∧ k ∉ F0) :
  ∃ v0 : Value, cs = [v0, .int .u8 (x.Result.toNat : Int)] ∧ Rd Ty.u8 w F0 v0 x.Ars := by
 obtain ⟨_, _, rfl, ⟨v0, rfl, h0⟩, rfl⟩ := h
 exact ⟨v0, rfl, ⟨G, h0, hG⟩⟩
structure A7z where
 Name : List UInt8
 Sig : Am7
 Locals : Int
 Code : List UInt8
def AXa (x : A7z) := (x.Name, x.Sig, x.Locals, x.Code)
def AAt : Ty A7z := Ty.iso (Ty.pair Ty.str (Ty.pair Ate (Ty.pair (Ty.int .i64) (Ty.slice Ty.u8)))) AXa
theorem AXc {w : World} {F0 : List Nat} {G : List Nat} {x : A7z} {cs : List Value} (h : (AAt).rd w G x cs) (hG : ∀ k ∈ G, k < w.heap.size ∧ k ∉ F0) :
  ∃ v1 v4 : Value, cs = [.string ⟨⟨x.Name⟩⟩, v1, .int .u8 (x.Sig.Result.toNat : Int), .int .i64 x.Locals, v4] ∧ Rd Ty.u8 w F0 v1 x.Sig.Ars ∧ Rd Ty.u8 w F0 v4 x.Code := by
 obtain ⟨_, _, rfl, rfl, ⟨_, _, rfl, ⟨_, _, rfl, ⟨v1, rfl, h0⟩, rfl⟩, ⟨_, _, rfl, rfl, ⟨v4, rfl, h1⟩⟩⟩⟩ := h
 exact ⟨v1, v4, rfl, ⟨G, h0, hG⟩, ⟨G, h1, hG⟩⟩
structure Aha where
 Name : List UInt8
 Classes : List Abi
 Funcs : List A7z
 AF4 : List (List UInt8)
def Bar (x : Aha) := (x.Name, x.Classes, x.Funcs, x.AF4)
def Bhy : Ty Aha := Ty.iso (Ty.pair Ty.str (Ty.pair (Ty.slice Aef) (Ty.pair (Ty.slice AAt) (Ty.slice (Ty.slice Ty.u8))))) Bar
theorem Bpo {w : World} {F0 : List Nat} {G : List Nat} {x : Aha} {cs : List Value} (h : (Bhy).rd w G x cs) (hG : ∀ k ∈ G, k < w.heap.size ∧ k ∉ F0) :
  ∃ v1 v2 v3 : Value, cs = [.string ⟨⟨x.Name⟩⟩, v1, v2, v3] ∧ Rd Aef w F0 v1 x.Classes ∧ Rd AAt w F0 v2 x.Funcs ∧ Rd (Ty.slice Ty.u8) w F0 v3 x.AF4 := by
 obtain ⟨_, _, rfl, rfl, ⟨_, _, rfl, ⟨v1, rfl, h0⟩, ⟨_, _, rfl, ⟨v2, rfl, h1⟩, ⟨v3, rfl, h2⟩⟩⟩⟩ := h
 exact ⟨v1, v2, v3, rfl, ⟨G, h0, hG⟩, ⟨G, h1, hG⟩, ⟨G, h2, hG⟩⟩
structure Ads where
 At : Int
 Op : UInt8
 A : Int
 B : Int
def Bru (x : Ads) := (x.At, x.Op, x.A, x.B)
def AE1 : Ty Ads := Ty.iso (Ty.pair (Ty.int .i64) (Ty.pair Ty.u8 (Ty.pair (Ty.int .i64) (Ty.int .i64)))) Bru
theorem AR2 : Flat AE1 (fun x => [.int .i64 x.At, .int .u8 (x.Op.toNat : Int), .int .i64 x.A, .int .i64 x.B]) := Flat.iso (Flat.pair (Flat.int .i64) (Flat.pair Flat.u8 (Flat.pair (Flat.int .i64) (Flat.int .i64)))) _
structure AP8 where
 l : List Ads
 AXh : Int
structure Adb where
 Classes : List Abi
 Akq : List Am7
 Fn : Int
structure Aas where
 Locals : Int
 Height : Int
 Slots : Vector UInt8 24
def Bro (x : Aas) := (x.Locals, x.Height, x.Slots)
def A0w : Ty Aas := Ty.iso (Ty.pair (Ty.int .i64) (Ty.pair (Ty.int .i64) (Ty.Btz 24))) Bro
theorem AC2 : Flat A0w (fun x => (.int .i64 x.Locals :: .int .i64 x.Height :: ev8 x.Slots)) := Flat.iso (Flat.pair (Flat.int .i64) (Flat.pair (Flat.int .i64) (Flat.Btz 24))) _
structure A1g where
 At : Int
 Dead : Bool
 Frame : Aas
def Br0 (x : A1g) := (x.At, x.Dead, x.Frame)
def AOd : Ty A1g := Ty.iso (Ty.pair (Ty.int .i64) (Ty.pair Ty.bool A0w)) Br0
theorem ARz : Flat AOd (fun x => (.int .i64 x.At :: .bool x.Dead :: .int .i64 x.Frame.Locals :: .int .i64 x.Frame.Height :: ev8 x.Frame.Slots)) := Flat.iso (Flat.pair (Flat.int .i64) (Flat.pair Flat.bool AC2)) _
structure Ald where
 e : Adb
 code : List UInt8
 frames : List (Int × Aas)
 fresh : List (Int × Unit)
 taken : List (Int × Int)
 A3i : Int
structure Aaz where
 kind : Int
 t : UInt8
def Brg (x : Aaz) := (x.kind, x.t)
def Aeh : Ty Aaz := Ty.iso (Ty.pair (Ty.int .i64) Ty.u8) Brg
theorem A7j : Flat Aeh (fun x => [.int .i64 x.kind, .int .u8 (x.t.toNat : Int)]) := Flat.iso (Flat.pair (Flat.int .i64) Flat.u8) _
structure A0x where
 takes : List Aaz
 gives : Gv
structure Aiw where
 Has : List Bool
 Frame : List Aas
 AJs : List Bool
 Taken : List Int
def APe (wb : World) (Fb : List Nat) : Ty Am7 := Ty.iso (Ty.pair (Ty.Bq6 wb Fb Ty.u8) Ty.u8) ARp
end Go.Proofs.YtfcpkcehecmcpaaGreat
namespace Go.Proofs.YtfcpkcehecmcpaaGreat
open Go Go.RowKit Go.Pv
noncomputable def ANq (a0 : List Ar2) : Option ((List Ar2)) :=
 (app 5864062014805 ([] : List Ar2) a0).bind fun x55 => some x55
noncomputable def APx (a0 : List Abi) (s0 : (List Abi) × Int) : Option (((List Abi) × Int) ⊕ (((List Abi)))) :=
 if decide (s0.2 < (a0.length : Int)) = true then ((idx a0 s0.2).bind fun x0 => (ANq x0.Fields).bind fun x1 => (app 2932031007402 s0.1 ([(⟨x0.Name, x0.Ar1, x1⟩ : Abi)] : List Abi)).bind fun x2 => some (.inl (x2, wr (s0.2 + 1)))) else (some (.inr s0.1))
noncomputable def ASk (a0 : List Abi) : Option ((List Abi)) :=
 (Aot (APx a0) ([], 0)).bind fun o0 => (some o0)
noncomputable def ANz (a0 : List UInt8) : Option ((List UInt8)) :=
 (app 140737488355328 ([] : List UInt8) a0).bind fun x55 => some x55
noncomputable def AU6 (a0 : Am7) : Option Am7 :=
 (ANz a0.Ars).bind fun x44 => some (⟨x44, a0.Result⟩ : Am7)
noncomputable def AQf (a0 : List UInt8) : Option ((List UInt8)) :=
 (app 140737488355328 ([] : List UInt8) a0).bind fun x55 => some x55
noncomputable def AUb (a0 : A7z) : Option A7z :=
 (AU6 (⟨a0.Sig.Ars, a0.Sig.Result⟩ : Am7)).bind fun x44 => (AQf a0.Code).bind fun x82 => some (⟨a0.Name, (⟨x44.Ars, x44.Result⟩ : Am7), a0.Locals, x82⟩ : A7z)
noncomputable def AQg (a0 : Aha) (s0 : (List A7z) × Int) : Option (((List A7z) × Int) ⊕ (((List A7z)))) :=
 if decide (s0.2 < (a0.Funcs.length : Int)) = true then ((idx a0.Funcs s0.2).bind fun x0 => (AUb (⟨x0.Name, (⟨x0.Sig.Ars, x0.Sig.Result⟩ : Am7), x0.Locals, x0.Code⟩ : A7z)).bind fun x1 => (app 1759218604441 s0.1 ([(⟨x1.Name, (⟨x1.Sig.Ars, x1.Sig.Result⟩ : Am7), x1.Locals, x1.Code⟩ : A7z)] : List A7z)).bind fun x2 => some (.inl (x2, wr (s0.2 + 1)))) else (some (.inr s0.1))
noncomputable def AQe (a0 : Aha) (s0 : (List (List UInt8)) × Int) : Option (((List (List UInt8)) × Int) ⊕ (((List (List UInt8))))) :=
 if decide (s0.2 < (a0.AF4.length : Int)) = true then ((idx a0.AF4 s0.2).bind fun x0 => (AQf x0).bind fun x1 => (app 5864062014805 s0.1 ([x1] : List (List UInt8))).bind fun x2 => some (.inl (x2, wr (s0.2 + 1)))) else (some (.inr s0.1))
noncomputable def AS5 (a0 : Aha) : Option Aha :=
 (ASk a0.Classes).bind fun x53 => (Aot (AQg a0) ([], 0)).bind fun o0 => ((Aot (AQe a0) ([], 0)).bind fun o1 => (some (⟨a0.Name, x53, o0, o1⟩ : Aha)))
noncomputable def AWf (a0 : Aha) (s0 : (List Abi) × Int) : Option (((List Abi) × Int) ⊕ (((List Abi)))) :=
 if decide (s0.2 < (a0.Classes.length : Int)) = true then ((idx a0.Classes s0.2).bind fun x0 => (ANq x0.Fields).bind fun x1 => (app 2932031007402 s0.1 ([(⟨x0.Name, x0.Ar1, x1⟩ : Abi)] : List Abi)).bind fun x2 => some (.inl (x2, wr (s0.2 + 1)))) else (some (.inr s0.1))
noncomputable def AWq (a0 : Aha) (s0 : (List Am7) × Int) : Option (((List Am7) × Int) ⊕ (((List Am7)))) :=
 if decide (s0.2 < (a0.Funcs.length : Int)) = true then ((idx a0.Funcs s0.2).bind fun x0 => (ANz x0.Sig.Ars).bind fun x1 => (app 4398046511104 s0.1 ([(⟨x1, x0.Sig.Result⟩ : Am7)] : List Am7)).bind fun x2 => some (.inl (x2, wr (s0.2 + 1)))) else (some (.inr s0.1))
noncomputable def Bb6 (a0 : Aha) (a1 : Int) : Option (Adb × Bool) :=
 if decide (a1 < 0) = true then (some ((⟨[], [], 0⟩ : Adb), false)) else (if decide (a1 ≥ (a0.Funcs.length : Int)) = true then (some ((⟨[], [], 0⟩ : Adb), false)) else ((Aot (AWf a0) ([], 0)).bind fun o0 => ((Aot (AWq a0) ([], 0)).bind fun o1 => (some ((⟨o0, o1, a1⟩ : Adb), true)))))
noncomputable def ARd (a0 : List UInt8) (s0 : Int) : Option (Int ⊕ (Bool ⊕ Unit)) :=
 if decide (s0 < (a0.length : Int)) = true then ((idx a0 s0).bind fun x0 => (if decide ((x0.toNat : Int) ≥ 97) = true then (if decide ((x0.toNat : Int) ≤ 122) = true then (some true) else (if decide ((x0.toNat : Int) ≥ 65) = true then (some (decide ((x0.toNat : Int) ≤ 90))) else (some false))) else (if decide ((x0.toNat : Int) ≥ 65) = true then (some (decide ((x0.toNat : Int) ≤ 90))) else (some false))).bind fun o0 => (if o0 = true then (some (.inl (wr (s0 + 1)))) else (if decide (s0 > 0) = true then (if decide ((x0.toNat : Int) ≥ 48) = true then (if decide ((x0.toNat : Int) ≤ 57) = true then (some (.inl (wr (s0 + 1)))) else (if ((x0.toNat : Int) == 95) = true then (some (.inl (wr (s0 + 1)))) else (some (.inr (.inl false))))) else (if ((x0.toNat : Int) == 95) = true then (some (.inl (wr (s0 + 1)))) else (some (.inr (.inl false))))) else (some (.inr (.inl false)))))) else (some (.inr (.inr (()))))
noncomputable def AV6 (a0 : List UInt8) : Option Bool :=
 if ((a0.length : Int) == 0) = true then (some false) else (if decide ((a0.length : Int) > 24) = true then (some false) else (((Aot (ARd a0) 0 : Option (Bool ⊕ Unit))).bind fun o0 => (match o0 with | .inl p0 => (some p0) | .inr p1 => (some true))))
noncomputable def Bbw  : Option ((List (List UInt8))) :=
 some ([[116, 111, 112], [105, 110, 116], [98, 111, 111, 108], [110, 117, 108, 108], [105, 110, 116, 115], [97, 110, 121]] : List (List UInt8))
noncomputable def ACk (a0 : List (List UInt8)) (a1 : List UInt8) (s0 : Int) : Option (Int ⊕ (Int ⊕ Unit)) :=
 if decide (s0 < (a0.length : Int)) = true then ((idx a0 s0).bind fun x0 => if (a1 == x0) = true then (some (.inr (.inl s0))) else (some (.inl (wr (s0 + 1))))) else (some (.inr (.inr (()))))
noncomputable def AQa (a0 : List (List UInt8)) (a1 : List UInt8) : Option Int :=
 ((Aot (ACk a0 a1) 0 : Option (Int ⊕ Unit))).bind fun o0 => (match o0 with | .inl p0 => (some p0) | .inr p1 => (some (-1)))
noncomputable def AJu (a0 : List (List UInt8)) (a1 : List UInt8) : Option Bool :=
 (AQa a0 a1).bind fun x14 => some (decide (x14 ≥ 0))
noncomputable def AXt (a0 : Abi) (a1 : Abi) : Option Bool :=
 some (a0.Name == a1.Name)
noncomputable def A25 (a0 : List Abi) (a1 : Abi) (s0 : Int) : Option (Int ⊕ (Int ⊕ Unit)) :=
 if decide (s0 < (a0.length : Int)) = true then ((idx a0 s0).bind fun x0 => (AXt x0 (⟨a1.Name, a1.Ar1, a1.Fields⟩ : Abi)).bind fun x1 => if x1 = true then (some (.inr (.inl s0))) else (some (.inl (wr (s0 + 1))))) else (some (.inr (.inr (()))))
noncomputable def ANl (a0 : List Abi) (a1 : Abi) : Option Int :=
 ((Aot (A25 a0 a1) 0 : Option (Int ⊕ Unit))).bind fun o0 => (match o0 with | .inl p0 => (some p0) | .inr p1 => (some (-1)))
noncomputable def AFj (a0 : List Abi) (a1 : Abi) : Option Bool :=
 (ANl a0 (⟨a1.Name, a1.Ar1, a1.Fields⟩ : Abi)).bind fun x20 => some (decide (x20 ≥ 0))
noncomputable def AQq (x0 : Abi) (s0 : (List (List UInt8)) × Int) : Option (((List (List UInt8)) × Int) ⊕ (((List (List UInt8))))) :=
 if decide (s0.2 < (x0.Fields.length : Int)) = true then ((idx x0.Fields s0.2).bind fun x1 => (app 8796093022208 s0.1 ([x1.Name] : List (List UInt8))).bind fun x2 => some (.inl (x2, wr (s0.2 + 1)))) else (some (.inr s0.1))
noncomputable def AUw (a0 : Int) (a1 : List Abi) (a2 : List (List UInt8)) : Option (Bool × (List (List UInt8))) :=
 (idx a1 a0).bind fun x0 => (Aot (AQq x0) (a2, 0)).bind fun o0 => (some (true, o0))
noncomputable def AN6 (a0 : List Abi) (a1 : List Abi) (s0 : (List (List UInt8)) × Int) : Option (((List (List UInt8)) × Int) ⊕ (((List (List UInt8))) ⊕ ((List (List UInt8))))) :=
 if decide (s0.2 ≥ 0) = true then (if decide (s0.2 < (a0.length : Int)) = true then ((AUw s0.2 a1 s0.1).bind fun x0 => if x0.1 = true then ((idx a0 s0.2).bind fun x1 => if decide (x1.Ar1 ≥ s0.2) = true then (some (.inr (.inl x0.2))) else (some (.inl (x0.2, x1.Ar1)))) else (some (.inr (.inr (x0.2))))) else (some (.inr (.inr (s0.1))))) else (some (.inr (.inr (s0.1))))
noncomputable def ARi (a0 : List Abi) (a1 : Int) (a2 : List Abi) (a3 : List (List UInt8)) : Option ((List (List UInt8))) :=
 ((Aot (AN6 a0 a2) (a3, a1) : Option (((List (List UInt8))) ⊕ ((List (List UInt8)))))).bind fun o0 => (match o0 with | .inl p0 => (some p0) | .inr p1 => (some p1))
noncomputable def ASi (a0 : List Abi) (a1 : UInt8) : Option Int :=
 if decide ((a1.toNat : Int) < 16) = true then (some (-1)) else (if decide (((AQt ((a1.toNat : Int) - 16)).toNat : Int) ≥ (a0.length : Int)) = true then (some (-1)) else (some ((AQt ((a1.toNat : Int) - 16)).toNat : Int)))
noncomputable def AYs (a0 : List Abi) (a1 : UInt8) : Option Bool :=
 if ((a1.toNat : Int) == 1) = true then (some true) else (if ((a1.toNat : Int) == 2) = true then (some true) else (if ((a1.toNat : Int) == 4) = true then (some true) else (if ((a1.toNat : Int) == 5) = true then (some true) else ((ASi a0 a1).bind fun x46 => some (decide (x46 ≥ 0))))))
noncomputable def ARq (a0 : List Abi) (x0 : Abi) (s0 : (List (List UInt8)) × Int) : Option (((List (List UInt8)) × Int) ⊕ (Int ⊕ ((List (List UInt8))))) :=
 if decide (s0.2 < (x0.Fields.length : Int)) = true then ((idx x0.Fields s0.2).bind fun x1 => (AV6 x1.Name).bind fun x2 => if (!x2) = true then (some (.inr (.inl 6))) else ((AJu s0.1 x1.Name).bind fun x3 => if x3 = true then (some (.inr (.inl 20))) else ((AYs a0 x1.ASg).bind fun x4 => if (!x4) = true then (some (.inr (.inl 22))) else ((app 8796093022208 s0.1 ([x1.Name] : List (List UInt8))).bind fun x5 => some (.inl (x5, wr (s0.2 + 1))))))) else (some (.inr (.inr (s0.1))))
noncomputable def AX2 (a0 : List Abi) (a1 : Int) : Option Int :=
 (idx a0 a1).bind fun x0 => (ARi a0 x0.Ar1 a0 []).bind fun x1 => (idx a0 a1).bind fun x2 => ((Aot (ARq a0 x2) (x1, 0) : Option (Int ⊕ ((List (List UInt8)))))).bind fun o0 => (match o0 with | .inl p0 => (some p0) | .inr p1 => (if decide ((p1.length : Int) > 32) = true then (some 4) else (some 0)))
noncomputable def ASe (a0 : List Abi) (s0 : Int) : Option (Int ⊕ ((Int × Int) ⊕ Unit)) :=
 if decide (s0 < (a0.length : Int)) = true then ((idx a0 s0).bind fun x0 => (if decide (s0 ≥ 32) = true then (some 4) else ((AV6 x0.Name).bind fun x1 => if (!x1) = true then (some 6) else ((Bbw).bind fun x2 => (AJu x2 x0.Name).bind fun x3 => if x3 = true then (some 6) else ((AV4 a0 0 s0).bind fun x4 => (AFj x4 (⟨x0.Name, x0.Ar1, x0.Fields⟩ : Abi)).bind fun x5 => if x5 = true then (some 20) else (if decide (x0.Ar1 < (-1)) = true then (some 21) else (if decide (x0.Ar1 ≥ s0) = true then (some 21) else ((AX2 a0 s0).bind fun x6 => some x6))))))).bind fun o0 => (if (o0 != 0) = true then (some (.inr (.inl (s0, o0)))) else (some (.inl (wr (s0 + 1)))))) else (some (.inr (.inr (()))))
noncomputable def AXn (a0 : List Abi) : Option (Int × Int) :=
 ((Aot (ASe a0) 0 : Option ((Int × Int) ⊕ Unit))).bind fun o0 => (match o0 with | .inl p0 => (some p0) | .inr p1 => (some (0, 0)))
noncomputable def ARa (a0 : List Abi) (a1 : UInt8) : Option Bool :=
 if decide ((a1.toNat : Int) ≤ 5) = true then (some true) else ((ASi a0 a1).bind fun x22 => some (decide (x22 ≥ 0)))
noncomputable def AYk (a0 : List Abi) (a1 : UInt8) : Option Bool :=
 (ARa a0 a1).bind fun x22 => if x22 = true then (if ((a1.toNat : Int) != 0) = true then (some ((a1.toNat : Int) != 3)) else (some false)) else (some false)
noncomputable def AVk (a0 : UInt8) (a1 : Adb) : Option Bool :=
 (AYk a1.Classes a0).bind fun x16 => some (!x16)
noncomputable def A7p (a0 : List UInt8) (a1 : Adb) (s0 : Int) : Option (Int ⊕ (Int ⊕ Unit)) :=
 if decide (s0 < (a0.length : Int)) = true then ((idx a0 s0).bind fun x0 => (AVk x0 (⟨a1.Classes, a1.Akq, a1.Fn⟩ : Adb)).bind fun x1 => if x1 = true then (some (.inr (.inl s0))) else (some (.inl (wr (s0 + 1))))) else (some (.inr (.inr (()))))
noncomputable def ANy (a0 : List UInt8) (a1 : Adb) : Option Int :=
 ((Aot (A7p a0 a1) 0 : Option (Int ⊕ Unit))).bind fun o0 => (match o0 with | .inl p0 => (some p0) | .inr p1 => (some (-1)))
noncomputable def AGx (a0 : List UInt8) (a1 : Adb) : Option Bool :=
 (ANy a0 (⟨a1.Classes, a1.Akq, a1.Fn⟩ : Adb)).bind fun x20 => some (decide (x20 ≥ 0))
noncomputable def Bay (a0 : Int) : Option (Aas × Int) :=
 if decide (a0 < 0) = true then (some ((⟨0, 0, (Vector.replicate 24 (0 : UInt8))⟩ : Aas), 1)) else (if decide (a0 > 16) = true then (some ((⟨0, 0, (Vector.replicate 24 (0 : UInt8))⟩ : Aas), 1)) else (some ((⟨a0, 0, (Vector.replicate 24 (0 : UInt8))⟩ : Aas), 0)))
noncomputable def ATy (a0 : List Abi) (a1 : List UInt8) (s0 : (Vector UInt8 24) × Int) : Option (((Vector UInt8 24) × Int) ⊕ ((Aas × Int) ⊕ ((Vector UInt8 24)))) :=
 if decide (s0.2 < (a1.length : Int)) = true then ((idx a1 s0.2).bind fun x0 => (ARa a0 x0).bind fun x1 => if (!x1) = true then (some (.inr (.inl ((⟨0, 0, (Vector.replicate 24 (0 : UInt8))⟩ : Aas), 1)))) else (if ((x0.toNat : Int) == 0) = true then (some (.inr (.inl ((⟨0, 0, (Vector.replicate 24 (0 : UInt8))⟩ : Aas), 1)))) else (if ((x0.toNat : Int) == 3) = true then (some (.inr (.inl ((⟨0, 0, (Vector.replicate 24 (0 : UInt8))⟩ : Aas), 1)))) else ((idx s0.1.toList s0.2).bind fun x2 => some (.inl ((AT6 s0.1 s0.2 x0), wr (s0.2 + 1))))))) else (some (.inr (.inr (s0.1))))
noncomputable def AWr (a0 : List Abi) (a1 : List UInt8) (a2 : Int) : Option (Aas × Int) :=
 (Bay a2).bind fun x38 => if (x38.2 != 0) = true then (some ((⟨0, 0, (Vector.replicate 24 (0 : UInt8))⟩ : Aas), 1)) else (if decide ((a1.length : Int) > 8) = true then (some ((⟨0, 0, (Vector.replicate 24 (0 : UInt8))⟩ : Aas), 1)) else (if decide ((a1.length : Int) > a2) = true then (some ((⟨0, 0, (Vector.replicate 24 (0 : UInt8))⟩ : Aas), 1)) else (((Aot (ATy a0 a1) (x38.1.Slots, 0) : Option ((Aas × Int) ⊕ ((Vector UInt8 24))))).bind fun o0 => (match o0 with | .inl p0 => (some p0) | .inr p1 => (some ((⟨x38.1.Locals, x38.1.Height, p1⟩ : Aas), 0))))))
noncomputable def AWp (a0 : Adb) (s0 : Int) : Option (Int ⊕ (Int ⊕ Unit)) :=
 if decide (s0 < (a0.Akq.length : Int)) = true then ((idx a0.Akq s0).bind fun x0 => if decide ((x0.Ars.length : Int) > 8) = true then (some (.inr (.inl 4))) else ((AGx x0.Ars (⟨a0.Classes, a0.Akq, a0.Fn⟩ : Adb)).bind fun x1 => if x1 = true then (some (.inr (.inl 22))) else (if ((x0.Result.toNat : Int) != 0) = true then ((AVk x0.Result (⟨a0.Classes, a0.Akq, a0.Fn⟩ : Adb)).bind fun x2 => if x2 = true then (some (.inr (.inl 22))) else (some (.inl (wr (s0 + 1))))) else (some (.inl (wr (s0 + 1))))))) else (some (.inr (.inr (()))))
noncomputable def Baa (a0 : Adb) (a1 : Int) : Option Int :=
 (AXn a0.Classes).bind fun x57 => if (x57.2 != 0) = true then (some x57.2) else (if decide ((a0.Akq.length : Int) > 64) = true then (some 4) else (((Aot (AWp a0) 0 : Option (Int ⊕ Unit))).bind fun o0 => (match o0 with | .inl p0 => (some p0) | .inr p1 => (if decide (a0.Fn < 0) = true then (some 71) else (if decide (a0.Fn ≥ (a0.Akq.length : Int)) = true then (some 71) else ((idx a0.Akq a0.Fn).bind fun x0 => (AWr a0.Classes x0.Ars a1).bind fun x1 => some x1.2))))))
noncomputable def AXj (a0 : UInt8) : Option (Int × Int) :=
 if ((a0.toNat : Int) == 1) = true then (some (4, 0)) else ((if ((a0.toNat : Int) == 19) = true then (some true) else (some ((a0.toNat : Int) == 20))).bind fun o0 => (if o0 = true then (some (2, 0)) else ((if ((a0.toNat : Int) == 24) = true then (some true) else (some ((a0.toNat : Int) == 25))).bind fun o1 => (if o1 = true then (some (1, 1)) else ((if ((a0.toNat : Int) == 2) = true then (some true) else (if ((a0.toNat : Int) == 4) = true then (some true) else (some ((a0.toNat : Int) == 5)))).bind fun o2 => (if o2 = true then (some (1, 0)) else ((if ((a0.toNat : Int) == 21) = true then (some true) else (if ((a0.toNat : Int) == 23) = true then (some true) else (if ((a0.toNat : Int) == 30) = true then (some true) else (if ((a0.toNat : Int) == 31) = true then (some true) else (some ((a0.toNat : Int) == 32)))))).bind fun o3 => (if o3 = true then (some (1, 0)) else (some (0, 0))))))))))
noncomputable def AVx (a0 : UInt8) : Option Int :=
 if decide ((a0.toNat : Int) ≥ 34) = true then (some 0) else ((AXj a0).bind fun x26 => some (wr ((wr (1 + x26.1)) + x26.2)))
noncomputable def AQ6 (x0 : List UInt8) (s0 : Int × Int) : Option ((Int × Int) ⊕ Int) :=
 if decide (s0.2 < (x0.length : Int)) = true then ((idx x0 s0.2).bind fun x1 => some (.inl (bOr .i64 (Bq3 .i64 s0.1 8) (x1.toNat : Int), wr (s0.2 + 1)))) else (some (.inr s0.1))
noncomputable def ATu (a0 : Int) (a1 : List UInt8) : Option (Int × (List UInt8)) :=
 (AV4 a1 0 a0).bind fun x0 => (Aot (AQ6 x0) (0, 0)).bind fun o0 => ((AV4 a1 a0 (a1.length : Int)).bind fun x1 => if (a0 == 4) = true then (some (wr (IntKind.i32.wrap o0), x1)) else (some (o0, x1)))
noncomputable def AUn (a0 : List UInt8) (a1 : Int) : Option (Ads × Int) :=
 if decide (a1 < 0) = true then (some ((⟨0, 0, 0, 0⟩ : Ads), 1)) else (if decide (a1 > (a0.length : Int)) = true then (some ((⟨0, 0, 0, 0⟩ : Ads), 1)) else (if (a1 == (a0.length : Int)) = true then (some ((⟨0, 0, 0, 0⟩ : Ads), 2)) else ((idx a0 a1).bind fun x0 => (AVx x0).bind fun x1 => if (x1 == 0) = true then (some ((⟨0, 0, 0, 0⟩ : Ads), 40)) else ((idx a0 a1).bind fun x2 => (AVx x2).bind fun x3 => if decide ((wr ((a0.length : Int) - a1)) < x3) = true then (some ((⟨0, 0, 0, 0⟩ : Ads), 2)) else ((idx a0 a1).bind fun x4 => (AV4 a0 (wr (a1 + 1)) (a0.length : Int)).bind fun x5 => (AXj x4).bind fun x6 => (ATu x6.1 x5).bind fun x7 => (ATu x6.2 x7.2).bind fun x8 => if ((x4.toNat : Int) == 2) = true then (if decide (x7.1 > 1) = true then (some ((⟨0, 0, 0, 0⟩ : Ads), 5)) else (some ((⟨a1, x4, x7.1, x8.1⟩ : Ads), 0))) else (some ((⟨a1, x4, x7.1, x8.1⟩ : Ads), 0)))))))
noncomputable def ANi (a0 : Ald) (a1 : Ads) (s0 : (List (Int × Int)) × Int) : Option (((List (Int × Int)) × Int) ⊕ ((Bool × Ald) ⊕ ((List (Int × Int))))) :=
 (AVx a1.Op).bind fun x0 => if decide (s0.2 < (wr (a1.At + x0))) = true then (if (A92 s0.1 s0.2).isSome = true then (if (((A92 s0.1 s0.2).getD (0 : Int)) != a1.At) = true then (some (.inr (.inl (false, (⟨(⟨a0.e.Classes, a0.e.Akq, a0.e.Fn⟩ : Adb), a0.code, a0.frames, a0.fresh, s0.1, a0.A3i⟩ : Ald))))) else (some (.inl ((AQp s0.1 s0.2 a1.At), wr (s0.2 + 1))))) else (some (.inl ((AQp s0.1 s0.2 a1.At), wr (s0.2 + 1))))) else (some (.inr (.inr (s0.1))))
noncomputable def AS7 (a0 : Ald) (a1 : Ads) : Option (Bool × Ald) :=
 ((Aot (ANi a0 a1) (a0.taken, a1.At) : Option ((Bool × Ald) ⊕ ((List (Int × Int)))))).bind fun o0 => (match o0 with | .inl p0 => (some p0) | .inr p1 => (some (true, (⟨(⟨a0.e.Classes, a0.e.Akq, a0.e.Fn⟩ : Adb), a0.code, a0.frames, a0.fresh, p1, a0.A3i⟩ : Ald))))
noncomputable def ARb (a0 : UInt8) (a1 : Adb) : Option Bool :=
 (ARa a1.Classes a0).bind fun x24 => if x24 = true then (if ((a0.toNat : Int) != 0) = true then (some ((a0.toNat : Int) != 3)) else (some false)) else (some false)
noncomputable def ARr (a0 : Adb) (x0 : Am7) (s0 : Int) : Option (Int ⊕ (Bool ⊕ Unit)) :=
 if decide (s0 < (x0.Ars.length : Int)) = true then ((idx x0.Ars s0).bind fun x1 => (ARb x1 (⟨a0.Classes, a0.Akq, a0.Fn⟩ : Adb)).bind fun x2 => if (!x2) = true then (some (.inr (.inl false))) else (some (.inl (wr (s0 + 1))))) else (some (.inr (.inr (()))))
noncomputable def ARv (a0 : Adb) (s0 : Int) : Option (Int ⊕ (Bool ⊕ Unit)) :=
 if decide (s0 < (a0.Akq.length : Int)) = true then ((idx a0.Akq s0).bind fun x0 => ((if decide ((x0.Ars.length : Int) > 8) = true then (some (.inl false)) else (if ((x0.Result.toNat : Int) != 0) = true then ((ARb x0.Result (⟨a0.Classes, a0.Akq, a0.Fn⟩ : Adb)).bind fun x1 => if (!x1) = true then (some (.inl false)) else (some (.inr ((true, (!x1)))))) else (some (.inr ((false, false))))) : Option (Bool ⊕ (Bool × Bool)))).bind fun o0 => (match o0 with | .inl p0 => (some (.inr (.inl p0))) | .inr p1 => (((Aot (ARr a0 x0) 0 : Option (Bool ⊕ Unit))).bind fun o1 => (match o1 with | .inl p2 => (some (.inr (.inl p2))) | .inr p3 => (some (.inl (wr (s0 + 1)))))))) else (some (.inr (.inr (()))))
noncomputable def AVb (a0 : Adb) : Option Bool :=
 (AXn a0.Classes).bind fun x27 => if (x27.2 != 0) = true then (some false) else (if decide ((a0.Akq.length : Int) > 64) = true then (some false) else (if decide (a0.Fn < 0) = true then (some false) else (if decide (a0.Fn ≥ (a0.Akq.length : Int)) = true then (some false) else (((Aot (ARv a0) 0 : Option (Bool ⊕ Unit))).bind fun o0 => (match o0 with | .inl p0 => (some p0) | .inr p1 => (some true))))))
noncomputable def ASw (a0 : Aas) : Option Bool :=
 if decide (a0.Locals ≥ 0) = true then (if decide (a0.Locals ≤ 16) = true then (if decide (a0.Height ≥ 0) = true then (some (decide (a0.Height ≤ (wr (24 - a0.Locals))))) else (some false)) else (some false)) else (some false)
noncomputable def AUj (a0 : Aas) : Option Aas :=
 (AV4 (Vector.replicate 24 (0 : UInt8)).toList 0 (wr (a0.Locals + a0.Height))).bind fun x82 => some (⟨a0.Locals, a0.Height, (vcp (Vector.replicate 24 (0 : UInt8)) a0.Slots ((wr (a0.Locals + a0.Height)).toNat))⟩ : Aas)
noncomputable def ASl (a0 : List Abi) (a1 : Aas) (s0 : Int) : Option (Int ⊕ (Int ⊕ Unit)) :=
 if decide (s0 < 24) = true then ((idx a1.Slots.toList s0).bind fun x0 => (ARa a0 x0).bind fun x1 => if (!x1) = true then (some (.inr (.inl 22))) else (some (.inl (wr (s0 + 1))))) else (some (.inr (.inr (()))))
noncomputable def ATh (a0 : List Abi) (a1 : Aas) : Option Int :=
 (ASw (⟨a1.Locals, a1.Height, a1.Slots⟩ : Aas)).bind fun x34 => if (!x34) = true then (some 32) else ((AUj (⟨a1.Locals, a1.Height, a1.Slots⟩ : Aas)).bind fun x43 => if (!((x43.Locals == a1.Locals) && ((x43.Height == a1.Height) && ((x43.Slots == a1.Slots) && true)))) = true then (some 32) else (((Aot (ASl a0 a1) 0 : Option (Int ⊕ Unit))).bind fun o0 => (match o0 with | .inl p0 => (some p0) | .inr p1 => (some 0))))
noncomputable def AUq (a0 : UInt8) : Option Aaz :=
 some (⟨4, a0⟩ : Aaz)
abbrev Aoy : Bmu := ⟨214, 203, 204, 215, 205, 206, 216, 218, 47, 224, 142, 4⟩
noncomputable def Bkg (x78 : Aaz) (x87 : Aaz) (x96 : Aaz) : List (AOe Aaz) := List.replicate 34 .nil
noncomputable def Bj2 (x78 : Aaz) (x87 : Aaz) (x96 : Aaz) : List (AOe Aaz) := (Bkg x78 x87 x96).set 0 (.fixed [] (.const []))
noncomputable def Bjy (x78 : Aaz) (x87 : Aaz) (x96 : Aaz) : List (AOe Aaz) := (Bj2 x78 x87 x96).set 19 (.fixed [] (.const []))
noncomputable def Bkl (x78 : Aaz) (x87 : Aaz) (x96 : Aaz) : List (AOe Aaz) := (Bjy x78 x87 x96).set 32 (.fixed [] (.const []))
noncomputable def Bj0 (x78 : Aaz) (x87 : Aaz) (x96 : Aaz) : List (AOe Aaz) := (Bkl x78 x87 x96).set 1 (.fixed [] (.const ([(1 : UInt8)] : List UInt8)))
noncomputable def Bkz (x78 : Aaz) (x87 : Aaz) (x96 : Aaz) : List (AOe Aaz) := (Bj0 x78 x87 x96).set 2 (.fixed [] (.const ([(2 : UInt8)] : List UInt8)))
noncomputable def Bkx (x78 : Aaz) (x87 : Aaz) (x96 : Aaz) : List (AOe Aaz) := (Bkz x78 x87 x96).set 3 (.fixed [] (.const ([(3 : UInt8)] : List UInt8)))
noncomputable def Bj7 (x78 : Aaz) (x87 : Aaz) (x96 : Aaz) : List (AOe Aaz) := (Bkx x78 x87 x96).set 4 (.fixed [] (.const ([(0 : UInt8)] : List UInt8)))
noncomputable def Bkp (x78 : Aaz) (x87 : Aaz) (x96 : Aaz) : List (AOe Aaz) := (Bj7 x78 x87 x96).set 5 (.fixed ([(⟨1, 0⟩ : Aaz)] : List Aaz) (.const []))
noncomputable def Bj9 (x78 : Aaz) (x87 : Aaz) (x96 : Aaz) : List (AOe Aaz) := (Bkp x78 x87 x96).set 6 (.fixed ([(⟨0, 0⟩ : Aaz)] : List Aaz) (.const []))
noncomputable def Bih (x78 : Aaz) (x87 : Aaz) (x96 : Aaz) : List (AOe Aaz) := (Bj9 x78 x87 x96).set 7 (.fixed ([(⟨0, 0⟩ : Aaz)] : List Aaz) (.dup))
noncomputable def Bg8 (x78 : Aaz) (x87 : Aaz) (x96 : Aaz) : List (AOe Aaz) := (Bih x78 x87 x96).set 8 (.fixed ([(⟨0, 0⟩ : Aaz), (⟨0, 0⟩ : Aaz)] : List Aaz) (.swap))
noncomputable def Bhw (x78 : Aaz) (x87 : Aaz) (x96 : Aaz) : List (AOe Aaz) := (Bg8 x78 x87 x96).set 9 (.fixed ([(⟨x78.kind, x78.t⟩ : Aaz), (⟨x78.kind, x78.t⟩ : Aaz)] : List Aaz) (.const ([(1 : UInt8)] : List UInt8)))
noncomputable def Bhj (x78 : Aaz) (x87 : Aaz) (x96 : Aaz) : List (AOe Aaz) := (Bhw x78 x87 x96).set 10 (.fixed ([(⟨x78.kind, x78.t⟩ : Aaz), (⟨x78.kind, x78.t⟩ : Aaz)] : List Aaz) (.const ([(1 : UInt8)] : List UInt8)))
noncomputable def Bh6 (x78 : Aaz) (x87 : Aaz) (x96 : Aaz) : List (AOe Aaz) := (Bhj x78 x87 x96).set 11 (.fixed ([(⟨x78.kind, x78.t⟩ : Aaz), (⟨x78.kind, x78.t⟩ : Aaz)] : List Aaz) (.const ([(1 : UInt8)] : List UInt8)))
noncomputable def Bhk (x78 : Aaz) (x87 : Aaz) (x96 : Aaz) : List (AOe Aaz) := (Bh6 x78 x87 x96).set 12 (.fixed ([(⟨x78.kind, x78.t⟩ : Aaz), (⟨x78.kind, x78.t⟩ : Aaz)] : List Aaz) (.const ([(1 : UInt8)] : List UInt8)))
noncomputable def Bcd (x78 : Aaz) (x87 : Aaz) (x96 : Aaz) : List (AOe Aaz) := (Bhk x78 x87 x96).set 13 (.fixed ([(⟨x78.kind, x78.t⟩ : Aaz), (⟨x78.kind, x78.t⟩ : Aaz)] : List Aaz) (.const ([(1 : UInt8)] : List UInt8)))
noncomputable def Bic (x78 : Aaz) (x87 : Aaz) (x96 : Aaz) : List (AOe Aaz) := (Bcd x78 x87 x96).set 14 (.fixed ([(⟨x78.kind, x78.t⟩ : Aaz)] : List Aaz) (.const ([(1 : UInt8)] : List UInt8)))
noncomputable def Bh9 (x78 : Aaz) (x87 : Aaz) (x96 : Aaz) : List (AOe Aaz) := (Bic x78 x87 x96).set 15 (.fixed ([(⟨x78.kind, x78.t⟩ : Aaz), (⟨x78.kind, x78.t⟩ : Aaz)] : List Aaz) (.const ([(2 : UInt8)] : List UInt8)))
noncomputable def Bb0 (x78 : Aaz) (x87 : Aaz) (x96 : Aaz) : List (AOe Aaz) := (Bh9 x78 x87 x96).set 16 (.fixed ([(⟨3, 0⟩ : Aaz), (⟨3, 0⟩ : Aaz)] : List Aaz) (.const ([(2 : UInt8)] : List UInt8)))
noncomputable def Bg9 (x78 : Aaz) (x87 : Aaz) (x96 : Aaz) : List (AOe Aaz) := (Bb0 x78 x87 x96).set 17 (.fixed ([(⟨x87.kind, x87.t⟩ : Aaz)] : List Aaz) (.const ([(2 : UInt8)] : List UInt8)))
noncomputable def Bha (x78 : Aaz) (x87 : Aaz) (x96 : Aaz) : List (AOe Aaz) := (Bg9 x78 x87 x96).set 18 (.fixed ([(⟨2, 0⟩ : Aaz), (⟨2, 0⟩ : Aaz)] : List Aaz) (.const ([(2 : UInt8)] : List UInt8)))
noncomputable def Bho (x78 : Aaz) (x87 : Aaz) (x96 : Aaz) : List (AOe Aaz) := (Bha x78 x87 x96).set 20 (.fixed ([(⟨x87.kind, x87.t⟩ : Aaz)] : List Aaz) (.const []))
noncomputable def Bh0 (x78 : Aaz) (x87 : Aaz) (x96 : Aaz) : List (AOe Aaz) := (Bho x78 x87 x96).set 21 (.call)
noncomputable def Bgz (x78 : Aaz) (x87 : Aaz) (x96 : Aaz) : List (AOe Aaz) := (Bh0 x78 x87 x96).set 22 (.ret (.const []))
noncomputable def Bh3 (x78 : Aaz) (x87 : Aaz) (x96 : Aaz) : List (AOe Aaz) := (Bgz x78 x87 x96).set 23 (.classed [] true)
noncomputable def Bik (x78 : Aaz) (x87 : Aaz) (x96 : Aaz) : List (AOe Aaz) := (Bh3 x78 x87 x96).set 24 (.field false)
noncomputable def Bb3 (x78 : Aaz) (x87 : Aaz) (x96 : Aaz) : List (AOe Aaz) := (Bik x78 x87 x96).set 25 (.field true)
noncomputable def Bb2 (x78 : Aaz) (x87 : Aaz) (x96 : Aaz) : List (AOe Aaz) := (Bb3 x78 x87 x96).set 26 (.fixed ([(⟨x78.kind, x78.t⟩ : Aaz)] : List Aaz) (.const ([(4 : UInt8)] : List UInt8)))
noncomputable def Bb5 (x78 : Aaz) (x87 : Aaz) (x96 : Aaz) : List (AOe Aaz) := (Bb2 x78 x87 x96).set 27 (.fixed ([(⟨x96.kind, x96.t⟩ : Aaz)] : List Aaz) (.const ([(1 : UInt8)] : List UInt8)))
noncomputable def Bil (x78 : Aaz) (x87 : Aaz) (x96 : Aaz) : List (AOe Aaz) := (Bb5 x78 x87 x96).set 28 (.fixed ([(⟨x96.kind, x96.t⟩ : Aaz), (⟨x78.kind, x78.t⟩ : Aaz)] : List Aaz) (.const ([(1 : UInt8)] : List UInt8)))
noncomputable def Bii (x78 : Aaz) (x87 : Aaz) (x96 : Aaz) : List (AOe Aaz) := (Bil x78 x87 x96).set 29 (.fixed ([(⟨x96.kind, x96.t⟩ : Aaz), (⟨x78.kind, x78.t⟩ : Aaz), (⟨x78.kind, x78.t⟩ : Aaz)] : List Aaz) (.const []))
noncomputable def Bhc (x78 : Aaz) (x87 : Aaz) (x96 : Aaz) : List (AOe Aaz) := (Bii x78 x87 x96).set 30 (.classed ([(⟨2, 0⟩ : Aaz)] : List Aaz) true)
noncomputable def Bh4 (x78 : Aaz) (x87 : Aaz) (x96 : Aaz) : List (AOe Aaz) := (Bhc x78 x87 x96).set 31 (.classed ([(⟨2, 0⟩ : Aaz)] : List Aaz) false)
noncomputable def Bae (x78 : Aaz) (x87 : Aaz) (x96 : Aaz) : List (AOe Aaz) := (Bh4 x78 x87 x96).set 33 (.fixed ([(⟨x78.kind, x78.t⟩ : Aaz)] : List Aaz) (.const []))
noncomputable def step_table  : Option ((List (AOe Aaz))) :=
 (AUq (1 : UInt8)).bind fun x78 => (AUq (2 : UInt8)).bind fun x87 => (AUq (4 : UInt8)).bind fun x96 => some (Bae x78 x87 x96)
noncomputable def AY2 (a0 : Adb) (a1 : Ads) (a2 : List Aaz) (a3 : Gv) : Option (A0x × Int) :=
 some ((⟨a2, a3⟩ : A0x), 0)
noncomputable def AUu (x0 : Am7) (s0 : (List Aaz) × Int) : Option (((List Aaz) × Int) ⊕ (((List Aaz)))) :=
 if decide (s0.2 < (x0.Ars.length : Int)) = true then ((idx x0.Ars s0.2).bind fun x1 => (AUq x1).bind fun x2 => (app 8796093022208 s0.1 ([x2] : List Aaz)).bind fun x3 => some (.inl (x3, wr (s0.2 + 1)))) else (some (.inr s0.1))
noncomputable def Bee (a0 : Adb) (a1 : Ads) : Option (A0x × Int) :=
 if decide (a1.A < 0) = true then (some ((⟨[], Gv.nil⟩ : A0x), 71)) else (if decide (a1.A ≥ (a0.Akq.length : Int)) = true then (some ((⟨[], Gv.nil⟩ : A0x), 71)) else ((idx a0.Akq a1.A).bind fun x0 => (Aot (AUu x0) ([], 0)).bind fun o0 => (if ((x0.Result.toNat : Int) == 0) = true then (some ((⟨o0, (Gv.const ([] : List UInt8))⟩ : A0x), 0)) else (some ((⟨o0, (Gv.const ([x0.Result] : List UInt8))⟩ : A0x), 0)))))
noncomputable def Ban (a0 : UInt8) : Option ((List Aaz)) :=
 if ((a0.toNat : Int) == 0) = true then (some ([] : List Aaz)) else ((AUq a0).bind fun x32 => some ([x32] : List Aaz))
noncomputable def AYy (a0 : Adb) (a1 : Ads) (a2 : Gv) : Option (A0x × Int) :=
 (idx a0.Akq a0.Fn).bind fun x0 => (Ban x0.Result).bind fun x1 => some ((⟨x1, a2⟩ : A0x), 0)
noncomputable def Bba (a0 : Int) : Option UInt8 :=
 some (AQt (16 + ((AQt a0).toNat : Int)))
noncomputable def AU2 (a0 : Adb) (a1 : Ads) (a2 : Bool) (a3 : List Aaz) : Option (A0x × Int) :=
 if decide (a1.A < 0) = true then (some ((⟨[], Gv.nil⟩ : A0x), 72)) else (if decide (a1.A ≥ (a0.Classes.length : Int)) = true then (some ((⟨[], Gv.nil⟩ : A0x), 72)) else (if (!a2) = true then (some ((⟨a3, (Gv.const ([(2 : UInt8)] : List UInt8))⟩ : A0x), 0)) else ((Bba a1.A).bind fun x0 => some ((⟨a3, (Gv.const ([x0] : List UInt8))⟩ : A0x), 0))))
noncomputable def AW9 (a0 : Int) (a1 : List Int) : Option (Bool × (List Int)) :=
 (app 17592186044416 a1 ([a0] : List Int)).bind fun x32 => some (true, x32)
noncomputable def AJy (a0 : List Abi) (s0 : (List Int) × Int) : Option (((List Int) × Int) ⊕ (((List Int)) ⊕ ((List Int)))) :=
 if decide (s0.2 ≥ 0) = true then (if decide (s0.2 < (a0.length : Int)) = true then ((AW9 s0.2 s0.1).bind fun x0 => if x0.1 = true then ((idx a0 s0.2).bind fun x1 => if decide (x1.Ar1 ≥ s0.2) = true then (some (.inr (.inl x0.2))) else (some (.inl (x0.2, x1.Ar1)))) else (some (.inr (.inr (x0.2))))) else (some (.inr (.inr (s0.1))))) else (some (.inr (.inr (s0.1))))
noncomputable def APu (a0 : List Abi) (a1 : Int) (a2 : List Int) : Option ((List Int)) :=
 ((Aot (AJy a0) (a2, a1) : Option (((List Int)) ⊕ ((List Int))))).bind fun o0 => (match o0 with | .inl p0 => (some p0) | .inr p1 => (some p1))
noncomputable def APp (a0 : List Abi) (x34 : (List Int)) (s0 : (List Ar2) × Int) : Option (((List Ar2) × Int) ⊕ (((List Ar2)))) :=
 if decide (s0.2 ≥ 0) = true then ((idx x34 s0.2).bind fun x0 => (idx a0 x0).bind fun x1 => (app 5864062014805 s0.1 x1.Fields).bind fun x2 => some (.inl (x2, wr (s0.2 - 1)))) else (some (.inr s0.1))
noncomputable def ATn (a0 : List Abi) (a1 : Int) : Option ((List Ar2)) :=
 (APu a0 a1 []).bind fun x34 => (Aot (APp a0 x34) ([], wr ((x34.length : Int) - 1))).bind fun o0 => (some o0)
noncomputable def AYz (a0 : Adb) (a1 : Ads) (a2 : Bool) : Option (A0x × Int) :=
 (ATn a0.Classes a1.A).bind fun x55 => if decide (a1.A < 0) = true then (some ((⟨[], Gv.nil⟩ : A0x), 72)) else (if decide (a1.A ≥ (a0.Classes.length : Int)) = true then (some ((⟨[], Gv.nil⟩ : A0x), 72)) else (if decide (a1.B < 0) = true then (some ((⟨[], Gv.nil⟩ : A0x), 72)) else (if decide (a1.B ≥ (x55.length : Int)) = true then (some ((⟨[], Gv.nil⟩ : A0x), 72)) else ((idx x55 a1.B).bind fun x0 => if a2 = true then ((Bba a1.A).bind fun x1 => (AUq x1).bind fun x2 => (AUq x0.ASg).bind fun x3 => some ((⟨([x2, x3] : List Aaz), (Gv.const ([] : List UInt8))⟩ : A0x), 0)) else ((Bba a1.A).bind fun x4 => (AUq x4).bind fun x5 => some ((⟨([x5] : List Aaz), (Gv.const ([x0.ASg] : List UInt8))⟩ : A0x), 0))))))
noncomputable def ASz (t : AOe Aaz) (e : Adb) (i : Ads) : Option (A0x × Int) :=
 match t with
 | .fixed l x => AY2 e i l x
 | .call => Bee e i
 | .ret x => AYy e i x
 | .classed l b => AU2 e i b l
 | .field b => AYz e i b
 | .nil => none
noncomputable def AYp (a0 : Adb) (a1 : Ads) : Option (A0x × Int) :=
 (AVx a1.Op).bind fun x91 => if (x91 == 0) = true then (some ((⟨[], Gv.nil⟩ : A0x), 40)) else (step_table.bind fun x0 => (x0[a1.Op.toNat]?).bind fun t0 => (ASz t0 (⟨a0.Classes, a0.Akq, a0.Fn⟩ : Adb) (⟨a1.At, a1.Op, a1.A, a1.B⟩ : Ads)).bind fun x1 => some ((⟨x1.1.takes, x1.1.gives⟩ : A0x), x1.2))
noncomputable def AY1 (a0 : Aas) (a1 : Int) : Option (UInt8 × Int) :=
 (ASw (⟨a0.Locals, a0.Height, a0.Slots⟩ : Aas)).bind fun x68 => if (!x68) = true then (some ((0 : UInt8), 32)) else (if decide (a1 < 0) = true then (some ((0 : UInt8), 1)) else (if decide (a1 ≥ a0.Height) = true then (some ((0 : UInt8), 30)) else ((idx a0.Slots.toList (wr ((wr ((wr (a0.Locals + a0.Height)) - 1)) - a1))).bind fun x0 => some (x0, 0))))
noncomputable def AR3 (a0 : UInt8) : Option Bool :=
 if ((a0.toNat : Int) == 3) = true then (some true) else (if ((a0.toNat : Int) == 4) = true then (some true) else (if ((a0.toNat : Int) == 5) = true then (some true) else (some (decide ((a0.toNat : Int) ≥ 16)))))
noncomputable def AXw (a0 : Int) (a1 : Int) (a2 : Bool) : Option (Bool × Bool) :=
 some ((!(a0 == a1)), (a0 == a1))
noncomputable def AOa (a0 : List Abi) (a1 : Int) (s0 : Bool × Int) : Option ((Bool × Int) ⊕ (Bool ⊕ Bool)) :=
 if decide (s0.2 ≥ 0) = true then (if decide (s0.2 < (a0.length : Int)) = true then ((AXw s0.2 a1 s0.1).bind fun x0 => if x0.1 = true then ((idx a0 s0.2).bind fun x1 => if decide (x1.Ar1 ≥ s0.2) = true then (some (.inr (.inl x0.2))) else (some (.inl (x0.2, x1.Ar1)))) else (some (.inr (.inr (x0.2))))) else (some (.inr (.inr (s0.1))))) else (some (.inr (.inr (s0.1))))
noncomputable def ATf (a0 : List Abi) (a1 : Int) (a2 : Int) (a3 : Bool) : Option Bool :=
 ((Aot (AOa a0 a2) (a3, a1) : Option (Bool ⊕ Bool))).bind fun o0 => (match o0 with | .inl p0 => (some p0) | .inr p1 => (some p1))
noncomputable def AXm (a0 : List Abi) (a1 : Int) (a2 : Int) : Option Bool :=
 (ATf a0 a1 a2 false).bind fun x54 => some x54
noncomputable def AYm (a0 : List Abi) (a1 : UInt8) (a2 : UInt8) : Option Bool :=
 (ARa a0 a1).bind fun x34 => if (!x34) = true then (some false) else ((ARa a0 a2).bind fun x50 => if (!x50) = true then (some false) else (if ((a1.toNat : Int) == (a2.toNat : Int)) = true then (some true) else (if ((a2.toNat : Int) == 0) = true then (some true) else (if ((a1.toNat : Int) == 3) = true then ((AR3 a1).bind fun x0 => if x0 = true then ((AR3 a2).bind fun x1 => some x1) else (some false)) else (if ((a2.toNat : Int) == 5) = true then ((AR3 a1).bind fun x2 => if x2 = true then ((AR3 a2).bind fun x3 => some x3) else (some false)) else ((ASi a0 a1).bind fun x4 => (ASi a0 a2).bind fun x5 => if decide (x4 ≥ 0) = true then (if decide (x5 ≥ 0) = true then ((AXm a0 x4 x5).bind fun x6 => some x6) else (some false)) else (some false)))))))
noncomputable def Bb7 (a0 : List Abi) (a1 : Aaz) (a2 : UInt8) (a3 : UInt8) : Option Bool :=
 if (a1.kind == 1) = true then (some ((a2.toNat : Int) != 0)) else (if (a1.kind == 2) = true then ((AR3 a2).bind fun x0 => some x0) else (if (a1.kind == 3) = true then (if ((a2.toNat : Int) == (a3.toNat : Int)) = true then (if ((a2.toNat : Int) == 1) = true then (some true) else (some ((a2.toNat : Int) == 2))) else (some false)) else (if (a1.kind == 4) = true then ((AYm a0 a2 a1.t).bind fun x1 => some x1) else (some true))))
noncomputable def AT4 (a1 : Aas) (a2 : List Aaz) (s0 : (List UInt8) × Int) : Option (((List UInt8) × Int) ⊕ (((List UInt8)))) :=
 if decide (s0.2 < (a2.length : Int)) = true then ((AY1 (⟨a1.Locals, a1.Height, a1.Slots⟩ : Aas) (wr ((wr ((a2.length : Int) - 1)) - s0.2))).bind fun x0 => (app 140737488355328 s0.1 ([x0.1] : List UInt8)).bind fun x1 => some (.inl (x1, wr (s0.2 + 1)))) else (some (.inr s0.1))
noncomputable def AT3 (a0 : List Abi) (a2 : List Aaz) (o0 : ((List UInt8))) (s0 : Int) : Option (Int ⊕ (((List UInt8) × Int) ⊕ Unit)) :=
 if decide (s0 < (o0.length : Int)) = true then ((idx o0 s0).bind fun x0 => (idx a2 s0).bind fun x1 => (idx o0 0).bind fun x2 => (Bb7 a0 x1 x0 x2).bind fun x3 => if (!x3) = true then (some (.inr (.inl (([] : List UInt8), 70)))) else (some (.inl (wr (s0 + 1))))) else (some (.inr (.inr (()))))
noncomputable def AY9 (a0 : List Abi) (a1 : Aas) (a2 : List Aaz) : Option ((List UInt8) × Int) :=
 if decide (a1.Height < (a2.length : Int)) = true then (some (([] : List UInt8), 30)) else ((Aot (AT4 a1 a2) ([], 0)).bind fun o0 => (((Aot (AT3 a0 a2 o0) 0 : Option (((List UInt8) × Int) ⊕ Unit))).bind fun o1 => (match o1 with | .inl p0 => (some p0) | .inr p1 => (some (o0, 0)))))
noncomputable def Bhg (a0 : List UInt8) : Option ((List UInt8)) :=
 (idx a0 0).bind fun x40 => (idx a0 0).bind fun x45 => some ([x40, x45] : List UInt8)
noncomputable def Bg1 (a0 : List UInt8) : Option ((List UInt8)) :=
 (idx a0 1).bind fun x40 => (idx a0 0).bind fun x45 => some ([x40, x45] : List UInt8)
noncomputable def AV3 (a0 : Aas) (a1 : Int) : Option (UInt8 × Int) :=
 (ASw (⟨a0.Locals, a0.Height, a0.Slots⟩ : Aas)).bind fun x66 => if (!x66) = true then (some ((0 : UInt8), 32)) else (if decide (a1 < 0) = true then (some ((0 : UInt8), 33)) else (if decide (a1 ≥ a0.Locals) = true then (some ((0 : UInt8), 33)) else ((idx a0.Slots.toList a1).bind fun x0 => some (x0, 0))))
noncomputable def Bav (a0 : Aas) : Option (Aas × UInt8 × Int) :=
 (AY1 (⟨a0.Locals, a0.Height, a0.Slots⟩ : Aas) 0).bind fun x38 => if (x38.2 != 0) = true then (some ((⟨0, 0, (Vector.replicate 24 (0 : UInt8))⟩ : Aas), (0 : UInt8), x38.2)) else ((AUj (⟨a0.Locals, wr (a0.Height - 1), a0.Slots⟩ : Aas)).bind fun x0 => some ((⟨x0.Locals, x0.Height, x0.Slots⟩ : Aas), x38.1, 0))
noncomputable def AX4 (a0 : Aas) (a1 : Int) (a2 : UInt8) : Option (Aas × Int) :=
 (AV3 (⟨a0.Locals, a0.Height, a0.Slots⟩ : Aas) a1).bind fun x39 => if (x39.2 != 0) = true then (some ((⟨0, 0, (Vector.replicate 24 (0 : UInt8))⟩ : Aas), x39.2)) else ((AUj (⟨a0.Locals, a0.Height, a0.Slots⟩ : Aas)).bind fun x0 => (idx x0.Slots.toList a1).bind fun x1 => some ((⟨x0.Locals, x0.Height, (AT6 x0.Slots a1 a2)⟩ : Aas), 0))
noncomputable def AZn (a0 : Aas) (a1 : UInt8) : Option (Aas × Int) :=
 (ASw (⟨a0.Locals, a0.Height, a0.Slots⟩ : Aas)).bind fun x0 => if (!x0) = true then (some ((⟨0, 0, (Vector.replicate 24 (0 : UInt8))⟩ : Aas), 32)) else (if ((wr (a0.Locals + a0.Height)) == 24) = true then (some ((⟨0, 0, (Vector.replicate 24 (0 : UInt8))⟩ : Aas), 31)) else ((AUj (⟨a0.Locals, a0.Height, a0.Slots⟩ : Aas)).bind fun x1 => (idx x1.Slots.toList (wr (x1.Locals + x1.Height))).bind fun x2 => some ((⟨x1.Locals, wr (x1.Height + 1), (AT6 x1.Slots (wr (x1.Locals + x1.Height)) a1)⟩ : Aas), 0)))
noncomputable def AUs (a2 : List UInt8) (s0 : Int × Int × (Vector UInt8 24) × Int) : Option ((Int × Int × (Vector UInt8 24) × Int) ⊕ ((Int × Int × (Vector UInt8 24)))) :=
 if decide (s0.2.2.2 < (a2.length : Int)) = true then ((Bav (⟨s0.1, s0.2.1, s0.2.2.1⟩ : Aas)).bind fun x0 => some (.inl (x0.1.Locals, x0.1.Height, x0.1.Slots, wr (s0.2.2.2 + 1)))) else (some (.inr (s0.1, s0.2.1, s0.2.2.1)))
noncomputable def ASa (a3 : List UInt8) (s0 : Int × Int × (Vector UInt8 24) × Int) : Option ((Int × Int × (Vector UInt8 24) × Int) ⊕ ((Aas × Int) ⊕ (Int × Int × (Vector UInt8 24)))) :=
 if decide (s0.2.2.2 < (a3.length : Int)) = true then ((idx a3 s0.2.2.2).bind fun x0 => (AZn (⟨s0.1, s0.2.1, s0.2.2.1⟩ : Aas) x0).bind fun x1 => if (x1.2 != 0) = true then (some (.inr (.inl ((⟨0, 0, (Vector.replicate 24 (0 : UInt8))⟩ : Aas), x1.2)))) else (some (.inl (x1.1.Locals, x1.1.Height, x1.1.Slots, wr (s0.2.2.2 + 1))))) else (some (.inr (.inr ((s0.1, s0.2.1, s0.2.2.1)))))
noncomputable def AUm (a0 : Aas) (a1 : Ads) (a2 : List UInt8) (a3 : List UInt8) : Option (Aas × Int) :=
 (Aot (AUs a2) (a0.Locals, a0.Height, a0.Slots, 0)).bind fun o0 => (((if ((a1.Op.toNat : Int) == 22) = true then (if decide (o0.2.1 > 0) = true then (some (.inl ((⟨0, 0, (Vector.replicate 24 (0 : UInt8))⟩ : Aas), 73))) else (some (.inr (())))) else (some (.inr (()))) : Option ((Aas × Int) ⊕ Unit))).bind fun o1 => (match o1 with | .inl p0 => (some p0) | .inr p1 => ((if ((a1.Op.toNat : Int) == 5) = true then ((idx a2 0).bind fun x0 => (AX4 (⟨o0.1, o0.2.1, o0.2.2⟩ : Aas) a1.A x0).bind fun x1 => some (x1.1.Locals, x1.1.Height, x1.1.Slots)) else (some (o0.1, o0.2.1, o0.2.2))).bind fun o2 => (((Aot (ASa a3) (o2.1, o2.2.1, o2.2.2, 0) : Option ((Aas × Int) ⊕ (Int × Int × (Vector UInt8 24))))).bind fun o3 => (match o3 with | .inl p2 => (some p2) | .inr p3 => (some ((⟨p3.1, p3.2.1, p3.2.2⟩ : Aas), 0)))))))
noncomputable def Baz (a0 : Adb) (a1 : Aas) (a2 : Ads) : Option (Aas × Int) :=
 (AVb (⟨a0.Classes, a0.Akq, a0.Fn⟩ : Adb)).bind fun x0 => if (!x0) = true then (some ((⟨0, 0, (Vector.replicate 24 (0 : UInt8))⟩ : Aas), 1)) else ((ATh a0.Classes (⟨a1.Locals, a1.Height, a1.Slots⟩ : Aas)).bind fun x1 => if (x1 != 0) = true then (some ((⟨0, 0, (Vector.replicate 24 (0 : UInt8))⟩ : Aas), x1)) else ((AYp (⟨a0.Classes, a0.Akq, a0.Fn⟩ : Adb) (⟨a2.At, a2.Op, a2.A, a2.B⟩ : Ads)).bind fun x2 => (if ((a2.Op.toNat : Int) == 4) = true then (some true) else (some ((a2.Op.toNat : Int) == 5))).bind fun o0 => ((if (x2.2 == 0) = true then (if o0 = true then (if decide (a2.A < 0) = true then (some 33) else (if decide (a2.A ≥ a1.Locals) = true then (some 33) else (some x2.2))) else (some x2.2)) else (some x2.2)).bind fun o1 => (if (o1 != 0) = true then (some ((⟨0, 0, (Vector.replicate 24 (0 : UInt8))⟩ : Aas), o1)) else ((AY9 a0.Classes (⟨a1.Locals, a1.Height, a1.Slots⟩ : Aas) x2.1.takes).bind fun x3 => if (x3.2 != 0) = true then (some ((⟨0, 0, (Vector.replicate 24 (0 : UInt8))⟩ : Aas), x3.2)) else ((Gv.run x2.1.gives x3.1).bind fun x4 => if ((a2.Op.toNat : Int) == 4) = true then ((AV3 (⟨a1.Locals, a1.Height, a1.Slots⟩ : Aas) a2.A).bind fun x5 => if ((x5.1.toNat : Int) == 0) = true then (some ((⟨0, 0, (Vector.replicate 24 (0 : UInt8))⟩ : Aas), 70)) else ((AUm (⟨a1.Locals, a1.Height, a1.Slots⟩ : Aas) (⟨a2.At, a2.Op, a2.A, a2.B⟩ : Ads) x3.1 ([x5.1] : List UInt8)).bind fun x6 => some ((⟨x6.1.Locals, x6.1.Height, x6.1.Slots⟩ : Aas), x6.2))) else ((AUm (⟨a1.Locals, a1.Height, a1.Slots⟩ : Aas) (⟨a2.At, a2.Op, a2.A, a2.B⟩ : Ads) x3.1 x4).bind fun x7 => some ((⟨x7.1.Locals, x7.1.Height, x7.1.Slots⟩ : Aas), x7.2))))))))
noncomputable def Baw (a0 : UInt8) : Option Bool :=
 if ((a0.toNat : Int) == 19) = true then (some true) else (some ((a0.toNat : Int) == 20))
noncomputable def Bb1 (a0 : UInt8) : Option Bool :=
 if ((a0.toNat : Int) == 19) = true then (some true) else (if ((a0.toNat : Int) == 22) = true then (some true) else (some ((a0.toNat : Int) == 32)))
noncomputable def Bao (a0 : List Abi) (a1 : Aas) (a2 : Aas) : Option Int :=
 (ATh a0 (⟨a1.Locals, a1.Height, a1.Slots⟩ : Aas)).bind fun x39 => if (x39 == 0) = true then ((ATh a0 (⟨a2.Locals, a2.Height, a2.Slots⟩ : Aas)).bind fun x71 => if (x71 == 0) = true then (if (a1.Locals != a2.Locals) = true then (some 32) else (if (a1.Height != a2.Height) = true then (some 32) else (some x71))) else (some x71)) else (some x39)
noncomputable def AXx (a0 : Int) (a1 : List Abi) (a2 : Int) (a3 : UInt8) : Option (Bool × UInt8) :=
 (AXm a1 a2 a0).bind fun x59 => if x59 = true then (some (false, AQt (16 + ((AQt a0).toNat : Int)))) else (some (true, a3))
noncomputable def AN9 (a0 : List Abi) (a1 : List Abi) (a2 : Int) (s0 : UInt8 × Int) : Option ((UInt8 × Int) ⊕ (UInt8 ⊕ UInt8)) :=
 if decide (s0.2 ≥ 0) = true then (if decide (s0.2 < (a0.length : Int)) = true then ((AXx s0.2 a1 a2 s0.1).bind fun x0 => if x0.1 = true then ((idx a0 s0.2).bind fun x1 => if decide (x1.Ar1 ≥ s0.2) = true then (some (.inr (.inl x0.2))) else (some (.inl (x0.2, x1.Ar1)))) else (some (.inr (.inr (x0.2))))) else (some (.inr (.inr (s0.1))))) else (some (.inr (.inr (s0.1))))
noncomputable def ARy (a0 : List Abi) (a1 : Int) (a2 : List Abi) (a3 : Int) (a4 : UInt8) : Option UInt8 :=
 ((Aot (AN9 a0 a2 a3) (a4, a1) : Option (UInt8 ⊕ UInt8))).bind fun o0 => (match o0 with | .inl p0 => (some p0) | .inr p1 => (some p1))
noncomputable def AZm (a0 : List Abi) (a1 : UInt8) (a2 : UInt8) : Option UInt8 :=
 (ARa a0 a1).bind fun x0 => if (!x0) = true then (some (0 : UInt8)) else ((ARa a0 a2).bind fun x1 => if (!x1) = true then (some (0 : UInt8)) else ((AYm a0 a1 a2).bind fun x2 => if x2 = true then (some a2) else ((AYm a0 a2 a1).bind fun x3 => if x3 = true then (some a1) else ((AR3 a1).bind fun x4 => if (!x4) = true then (some (0 : UInt8)) else ((AR3 a2).bind fun x5 => if (!x5) = true then (some (0 : UInt8)) else ((ASi a0 a1).bind fun x6 => (ASi a0 a2).bind fun x7 => if decide (x6 ≥ 0) = true then (if decide (x7 ≥ 0) = true then ((ARy a0 x6 a0 x7 5).bind fun x8 => some x8) else (some (5 : UInt8))) else (some (5 : UInt8))))))))
noncomputable def ATw (a0 : List Abi) (a1 : Aas) (a2 : Aas) (s0 : (Vector UInt8 24) × Int) : Option (((Vector UInt8 24) × Int) ⊕ (((Vector UInt8 24)))) :=
 if decide (s0.2 < (wr (a1.Locals + a1.Height))) = true then ((idx s0.1.toList s0.2).bind fun x0 => (idx a2.Slots.toList s0.2).bind fun x1 => (AZm a0 x0 x1).bind fun x2 => (idx s0.1.toList s0.2).bind fun x3 => some (.inl ((AT6 s0.1 s0.2 x2), wr (s0.2 + 1)))) else (some (.inr s0.1))
noncomputable def AX1 (a0 : List Abi) (a1 : Aas) (a2 : Aas) : Option (Aas × Int) :=
 (Bao a0 (⟨a1.Locals, a1.Height, a1.Slots⟩ : Aas) (⟨a2.Locals, a2.Height, a2.Slots⟩ : Aas)).bind fun x52 => if (x52 != 0) = true then (some ((⟨0, 0, (Vector.replicate 24 (0 : UInt8))⟩ : Aas), x52)) else ((Aot (ATw a0 a1 a2) (a1.Slots, 0)).bind fun o0 => (some ((⟨a1.Locals, a1.Height, o0⟩ : Aas), 0)))
noncomputable def ASo (a0 : Ald) (a1 : Int) (a2 : Aas) : Option (Int × Ald) :=
 ((if (A92 a0.frames a1).isSome = true then ((AX1 a0.e.Classes (⟨((A92 a0.frames a1).getD (⟨(0 : Int), (0 : Int), (Vector.replicate 24 (0 : UInt8))⟩ : Aas)).Locals, ((A92 a0.frames a1).getD (⟨(0 : Int), (0 : Int), (Vector.replicate 24 (0 : UInt8))⟩ : Aas)).Height, ((A92 a0.frames a1).getD (⟨(0 : Int), (0 : Int), (Vector.replicate 24 (0 : UInt8))⟩ : Aas)).Slots⟩ : Aas) (⟨a2.Locals, a2.Height, a2.Slots⟩ : Aas)).bind fun x0 => if (x0.2 != 0) = true then (some (.inl (x0.2, (⟨(⟨a0.e.Classes, a0.e.Akq, a0.e.Fn⟩ : Adb), a0.code, a0.frames, a0.fresh, a0.taken, a1⟩ : Ald)))) else (some (.inr ((x0.1.Locals, x0.1.Height, x0.1.Slots))))) else (some (.inr ((a2.Locals, a2.Height, a2.Slots)))) : Option ((Int × Ald) ⊕ (Int × Int × (Vector UInt8 24))))).bind fun o0 => (match o0 with | .inl p0 => (some p0) | .inr p1 => (if (!((A92 a0.frames a1).isSome)) = true then (some (0, (⟨(⟨a0.e.Classes, a0.e.Akq, a0.e.Fn⟩ : Adb), a0.code, (AQp a0.frames a1 (⟨p1.1, p1.2.1, p1.2.2⟩ : Aas)), (AQp a0.fresh a1 ()), a0.taken, a0.A3i⟩ : Ald))) else (if (!((p1.1 == (((A92 a0.frames a1).getD (⟨(0 : Int), (0 : Int), (Vector.replicate 24 (0 : UInt8))⟩ : Aas)).Locals)) && ((p1.2.1 == (((A92 a0.frames a1).getD (⟨(0 : Int), (0 : Int), (Vector.replicate 24 (0 : UInt8))⟩ : Aas)).Height)) && ((p1.2.2 == (((A92 a0.frames a1).getD (⟨(0 : Int), (0 : Int), (Vector.replicate 24 (0 : UInt8))⟩ : Aas)).Slots)) && true)))) = true then (some (0, (⟨(⟨a0.e.Classes, a0.e.Akq, a0.e.Fn⟩ : Adb), a0.code, (AQp a0.frames a1 (⟨p1.1, p1.2.1, p1.2.2⟩ : Aas)), (AQp a0.fresh a1 ()), a0.taken, a0.A3i⟩ : Ald))) else (some (0, (⟨(⟨a0.e.Classes, a0.e.Akq, a0.e.Fn⟩ : Adb), a0.code, a0.frames, a0.fresh, a0.taken, a0.A3i⟩ : Ald))))))
noncomputable def AN7 (x0 : Aas × Int) (x1 : List Int) (s0 : (List Abi) × (List Am7) × Int × (List UInt8) × Int × (List (Int × Aas)) × (List (Int × Unit)) × (List (Int × Int)) × Int) : Option (((List Abi) × (List Am7) × Int × (List UInt8) × Int × (List (Int × Aas)) × (List (Int × Unit)) × (List (Int × Int)) × Int) ⊕ ((Int × Ald) ⊕ ((List Abi) × (List Am7) × Int × (List UInt8) × Int × (List (Int × Aas)) × (List (Int × Unit)) × (List (Int × Int))))) :=
 if decide (s0.2.2.2.2.2.2.2.2 < (x1.length : Int)) = true then ((idx x1 s0.2.2.2.2.2.2.2.2).bind fun x2 => (ASo (⟨(⟨s0.1, s0.2.1, s0.2.2.1⟩ : Adb), s0.2.2.2.1, s0.2.2.2.2.2.1, s0.2.2.2.2.2.2.1, s0.2.2.2.2.2.2.2.1, s0.2.2.2.2.1⟩ : Ald) x2 (⟨x0.1.Locals, x0.1.Height, x0.1.Slots⟩ : Aas)).bind fun x3 => if (x3.1 != 0) = true then (some (.inr (.inl (x3.1, (⟨(⟨x3.2.e.Classes, x3.2.e.Akq, x3.2.e.Fn⟩ : Adb), x3.2.code, x3.2.frames, x3.2.fresh, x3.2.taken, x3.2.A3i⟩ : Ald))))) else (some (.inl (x3.2.e.Classes, x3.2.e.Akq, x3.2.e.Fn, x3.2.code, x3.2.A3i, x3.2.frames, x3.2.fresh, x3.2.taken, wr (s0.2.2.2.2.2.2.2.2 + 1))))) else (some (.inr (.inr ((s0.1, s0.2.1, s0.2.2.1, s0.2.2.2.1, s0.2.2.2.2.1, s0.2.2.2.2.2.1, s0.2.2.2.2.2.2.1, s0.2.2.2.2.2.2.2.1)))))
noncomputable def ASj (a0 : Ald) (a1 : Int) : Option (Int × Ald) :=
 if (a1 == (a0.code.length : Int)) = true then (some (51, (⟨(⟨a0.e.Classes, a0.e.Akq, a0.e.Fn⟩ : Adb), a0.code, a0.frames, a0.fresh, a0.taken, a1⟩ : Ald))) else ((AUn a0.code a1).bind fun x64 => if (x64.2 != 0) = true then (some (x64.2, (⟨(⟨a0.e.Classes, a0.e.Akq, a0.e.Fn⟩ : Adb), a0.code, a0.frames, a0.fresh, a0.taken, a1⟩ : Ald))) else ((AS7 (⟨(⟨a0.e.Classes, a0.e.Akq, a0.e.Fn⟩ : Adb), a0.code, a0.frames, a0.fresh, a0.taken, a1⟩ : Ald) (⟨x64.1.At, x64.1.Op, x64.1.A, x64.1.B⟩ : Ads)).bind fun x0 => if (!x0.1) = true then (some (80, (⟨(⟨x0.2.e.Classes, x0.2.e.Akq, x0.2.e.Fn⟩ : Adb), x0.2.code, x0.2.frames, x0.2.fresh, x0.2.taken, x0.2.A3i⟩ : Ald))) else ((Baz (⟨x0.2.e.Classes, x0.2.e.Akq, x0.2.e.Fn⟩ : Adb) ((A92 x0.2.frames a1).getD (⟨(0 : Int), (0 : Int), (Vector.replicate 24 (0 : UInt8))⟩ : Aas)) (⟨x64.1.At, x64.1.Op, x64.1.A, x64.1.B⟩ : Ads)).bind fun x1 => if (x1.2 != 0) = true then (some (x1.2, (⟨(⟨x0.2.e.Classes, x0.2.e.Akq, x0.2.e.Fn⟩ : Adb), x0.2.code, x0.2.frames, x0.2.fresh, x0.2.taken, x0.2.A3i⟩ : Ald))) else ((AVx x64.1.Op).bind fun x2 => (((Baw x64.1.Op).bind fun x3 => if x3 = true then (if decide (x64.1.A ≥ (x0.2.code.length : Int)) = true then (some (.inl (50, (⟨(⟨x0.2.e.Classes, x0.2.e.Akq, x0.2.e.Fn⟩ : Adb), x0.2.code, x0.2.frames, x0.2.fresh, x0.2.taken, x0.2.A3i⟩ : Ald)))) else ((app 17592186044416 ([] : List Int) ([x64.1.A] : List Int)).bind fun x4 => some (.inr (x4)))) else (some (.inr ([]))) : Option ((Int × Ald) ⊕ ((List Int))))).bind fun o0 => (match o0 with | .inl p0 => (some p0) | .inr p1 => ((((Bb1 x64.1.Op).bind fun x5 => if (!x5) = true then (if ((wr (a1 + x2)) == (x0.2.code.length : Int)) = true then (some (.inl (51, (⟨(⟨x0.2.e.Classes, x0.2.e.Akq, x0.2.e.Fn⟩ : Adb), x0.2.code, x0.2.frames, x0.2.fresh, x0.2.taken, x0.2.A3i⟩ : Ald)))) else ((app 17592186044416 p1 ([wr (a1 + x2)] : List Int)).bind fun x6 => some (.inr (x6)))) else (some (.inr (p1))) : Option ((Int × Ald) ⊕ ((List Int))))).bind fun o1 => (match o1 with | .inl p2 => (some p2) | .inr p3 => ((Bgg p3).bind fun x7 => (AZ2 x7).bind fun x8 => ((Aot (AN7 x1 x8) (x0.2.e.Classes, x0.2.e.Akq, x0.2.e.Fn, x0.2.code, x0.2.A3i, x0.2.frames, x0.2.fresh, x0.2.taken, 0) : Option ((Int × Ald) ⊕ ((List Abi) × (List Am7) × Int × (List UInt8) × Int × (List (Int × Aas)) × (List (Int × Unit)) × (List (Int × Int)))))).bind fun o2 => (match o2 with | .inl p4 => (some p4) | .inr p5 => (some (0, (⟨(⟨p5.1, p5.2.1, p5.2.2.1⟩ : Adb), p5.2.2.2.1, p5.2.2.2.2.2.1, p5.2.2.2.2.2.2.1, p5.2.2.2.2.2.2.2, p5.2.2.2.2.1⟩ : Ald))))))))))))
noncomputable def ARk (p0 : Int × Unit) (s0 : Int) : Option (Int ⊕ Int) :=
 some (.inl (if p0.1 < s0 then p0.1 else s0))
noncomputable def ARm (a2 : List UInt8) (s0 : (List Abi) × (List Am7) × Int × (List UInt8) × Int × (List (Int × Int)) × (List (Int × Unit)) × (List (Int × Aas)) × Int) : Option (((List Abi) × (List Am7) × Int × (List UInt8) × Int × (List (Int × Int)) × (List (Int × Unit)) × (List (Int × Aas)) × Int) ⊕ (((List Abi) × (List Am7) × Int × (List UInt8) × Int × (List (Int × Aas)) × (List (Int × Unit)) × (List (Int × Int)) × Int))) :=
 if decide ((s0.2.2.2.2.2.2.1.length : Int) > 0) = true then (((Bcg (ARk) s0.2.2.2.2.2.2.1 (a2.length : Int)).bind (Bs9 fun s1 => (some s1))).bind fun o0 => ((ASj (⟨(⟨s0.1, s0.2.1, s0.2.2.1⟩ : Adb), s0.2.2.2.1, s0.2.2.2.2.2.2.2.1, (AUg s0.2.2.2.2.2.2.1 o0), s0.2.2.2.2.2.1, s0.2.2.2.2.1⟩ : Ald) o0).bind fun x0 => if (x0.1 != 0) = true then (some (.inr (x0.2.e.Classes, x0.2.e.Akq, x0.2.e.Fn, x0.2.code, x0.2.A3i, x0.2.frames, x0.2.fresh, x0.2.taken, x0.1))) else (some (.inl (x0.2.e.Classes, x0.2.e.Akq, x0.2.e.Fn, x0.2.code, x0.2.A3i, x0.2.taken, x0.2.fresh, x0.2.frames, x0.1))))) else (some (.inr (s0.1, s0.2.1, s0.2.2.1, s0.2.2.2.1, s0.2.2.2.2.1, s0.2.2.2.2.2.2.2.1, s0.2.2.2.2.2.2.1, s0.2.2.2.2.2.1, s0.2.2.2.2.2.2.2.2)))
noncomputable def Ba5 (a0 : Adb) (a1 : Int) (a2 : List UInt8) : Option ((Option Ald) × Int × Int) :=
 (Baa (⟨a0.Classes, a0.Akq, a0.Fn⟩ : Adb) a1).bind fun x57 => if (x57 != 0) = true then (some ((none : Option Ald), 0, x57)) else (if decide ((a2.length : Int) > 4096) = true then (some ((none : Option Ald), 0, 4)) else ((idx a0.Akq a0.Fn).bind fun x0 => (AWr a0.Classes x0.Ars a1).bind fun x1 => (Aot (ARm a2) (a0.Classes, a0.Akq, a0.Fn, a2, 0, ([] : List (Int × Int)), (AQp ([] : List (Int × Unit)) 0 ()), (AQp ([] : List (Int × Aas)) 0 (⟨x1.1.Locals, x1.1.Height, x1.1.Slots⟩ : Aas)), 0)).bind fun o0 => (if (o0.2.2.2.2.2.2.2.2 != 0) = true then (some ((none : Option Ald), o0.2.2.2.2.1, o0.2.2.2.2.2.2.2.2)) else (some (some (⟨(⟨o0.1, o0.2.1, o0.2.2.1⟩ : Adb), o0.2.2.2.1, o0.2.2.2.2.2.1, o0.2.2.2.2.2.2.1, o0.2.2.2.2.2.2.2.1, o0.2.2.2.2.1⟩ : Ald), 0, 0)))))
noncomputable def ASb (x0 : Ald) (x1 : List Int) (s0 : (List A1g) × Int) : Option (((List A1g) × Int) ⊕ (((List A1g)))) :=
 if decide (s0.2 < (x1.length : Int)) = true then ((idx x1 s0.2).bind fun x2 => (app 2513169434916 s0.1 ([(⟨x2, false, (⟨((A92 x0.frames x2).getD (⟨(0 : Int), (0 : Int), (Vector.replicate 24 (0 : UInt8))⟩ : Aas)).Locals, ((A92 x0.frames x2).getD (⟨(0 : Int), (0 : Int), (Vector.replicate 24 (0 : UInt8))⟩ : Aas)).Height, ((A92 x0.frames x2).getD (⟨(0 : Int), (0 : Int), (Vector.replicate 24 (0 : UInt8))⟩ : Aas)).Slots⟩ : Aas)⟩ : A1g)] : List A1g)).bind fun x3 => some (.inl (x3, wr (s0.2 + 1)))) else (some (.inr s0.1))
noncomputable def AZr (a0 : Adb) (a1 : Int) (a2 : List UInt8) : Option ((List A1g) × Int × Int) :=
 (Ba5 (⟨a0.Classes, a0.Akq, a0.Fn⟩ : Adb) a1 a2).bind fun x29 => if (x29.2.2 != 0) = true then (some (([] : List A1g), x29.2.1, x29.2.2)) else ((x29.1).bind fun x0 => ((Bk6 x0.frames).bind fun x1 => (Aot (ASb x0 x1) ([], 0)).bind fun o0 => (some (o0, 0, 0))))
noncomputable def AT0 (x0 : A7z) (x1 : (List A1g) × Int × Int) (s0 : (List Ads) × Int × Int) : Option (((List Ads) × Int × Int) ⊕ (((List Ads) × Int))) :=
 if decide (s0.2.2 < (x1.1.length : Int)) = true then ((idx x1.1 s0.2.2).bind fun x2 => (AUn x0.Code x2.At).bind fun x3 => (app 4398046511104 s0.1 ([(⟨x3.1.At, x3.1.Op, x3.1.A, x3.1.B⟩ : Ads)] : List Ads)).bind fun x4 => some (.inl (x4, (if s0.2.1 < x2.Frame.Height then x2.Frame.Height else s0.2.1), wr (s0.2.2 + 1)))) else (some (.inr (s0.1, s0.2.1)))
noncomputable def Ba0 (a0 : Aha) (a1 : Int) : Option ((Option AP8) × Int × Int) :=
 (Bb6 (⟨a0.Name, a0.Classes, a0.Funcs, a0.AF4⟩ : Aha) a1).bind fun x43 => if (!x43.2) = true then (some ((none : Option AP8), 0, 1)) else ((idx a0.Funcs a1).bind fun x0 => (AZr (⟨x43.1.Classes, x43.1.Akq, x43.1.Fn⟩ : Adb) x0.Locals x0.Code).bind fun x1 => if (x1.2.2 != 0) = true then (some ((none : Option AP8), x1.2.1, x1.2.2)) else ((Aot (AT0 x0 x1) ([], 0, 0)).bind fun o0 => (some (some (⟨o0.1, o0.2⟩ : AP8), 0, 0))))
noncomputable def AQl (a0 : AP8) (s0 : (List Int) × Int) : Option (((List Int) × Int) ⊕ (((List Int)))) :=
 if decide (s0.2 < (a0.l.length : Int)) = true then ((idx a0.l s0.2).bind fun x0 => if ((x0.Op.toNat : Int) == 21) = true then ((app 17592186044416 s0.1 ([x0.A] : List Int)).bind fun x1 => some (.inl (x1, wr (s0.2 + 1)))) else (some (.inl (s0.1, wr (s0.2 + 1))))) else (some (.inr s0.1))
noncomputable def AUv (a0 : AP8) : Option ((List Int)) :=
 (Aot (AQl a0) ([], 0)).bind fun o0 => ((Bgg o0).bind fun x0 => (AZ2 x0).bind fun x1 => some x1)
noncomputable def AUi (a0 : List Int) : Option ((List Int)) :=
 (app 17592186044416 ([] : List Int) a0).bind fun x55 => some x55
noncomputable def ARc (a0 : List (List Int)) (s0 : (List Bool) × (List Int)) : Option (((List Bool) × (List Int)) ⊕ (((List Bool)))) :=
 if decide ((s0.2.length : Int) > 0) = true then ((idx s0.2 0).bind fun x0 => (AV4 s0.2 1 (s0.2.length : Int)).bind fun x1 => (idx s0.1 x0).bind fun x2 => if x2 = true then (some (.inl (s0.1, x1))) else ((idx s0.1 x0).bind fun x3 => (idx a0 x0).bind fun x4 => (app 17592186044416 x1 x4).bind fun x5 => some (.inl ((s0.1.set x0.toNat true), x5)))) else (some (.inr s0.1))
noncomputable def AS9 (o0 : ((List Bool))) (s0 : (List Int) × Int) : Option (((List Int) × Int) ⊕ (((List Int)))) :=
 if decide (s0.2 < (o0.length : Int)) = true then ((idx o0 s0.2).bind fun x0 => if x0 = true then ((app 17592186044416 s0.1 ([s0.2] : List Int)).bind fun x1 => some (.inl (x1, wr (s0.2 + 1)))) else (some (.inl (s0.1, wr (s0.2 + 1))))) else (some (.inr s0.1))
noncomputable def AXo (a0 : List (List Int)) (a1 : List Int) : Option ((List Int)) :=
 (mkO 1 (a0.length : Int) false).bind fun x14 => (AUi a1).bind fun x38 => (Aot (ARc a0) (x14, x38)).bind fun o0 => ((Aot (AS9 o0) ([], 0)).bind fun o1 => (some o1))
noncomputable def AOv (a0 : List Int) (a1 : Int) (s0 : Int) : Option (Int ⊕ (Int ⊕ Unit)) :=
 if decide (s0 < (a0.length : Int)) = true then ((idx a0 s0).bind fun x0 => if (a1 == x0) = true then (some (.inr (.inl s0))) else (some (.inl (wr (s0 + 1))))) else (some (.inr (.inr (()))))
noncomputable def AUh (a0 : List Int) (a1 : Int) : Option Int :=
 ((Aot (AOv a0 a1) 0 : Option (Int ⊕ Unit))).bind fun o0 => (match o0 with | .inl p0 => (some p0) | .inr p1 => (some (-1)))
noncomputable def APv (a0 : List Int) (a1 : Int) : Option Bool :=
 (AUh a0 a1).bind fun x14 => some (decide (x14 ≥ 0))
noncomputable def ARg (a0 : Aha) (s0 : (List (List Int)) × Int) : Option (((List (List Int)) × Int) ⊕ (((List Int) × Int × Int) ⊕ ((List (List Int))))) :=
 if decide (s0.2 < (a0.Funcs.length : Int)) = true then ((Ba0 (⟨a0.Name, a0.Classes, a0.Funcs, a0.AF4⟩ : Aha) s0.2).bind fun x0 => if (x0.2.2 != 0) = true then (some (.inr (.inl (([] : List Int), s0.2, x0.2.2)))) else ((x0.1).bind fun x1 => ((AUv (⟨x1.l, x1.AXh⟩ : AP8)).bind fun x2 => (app 5864062014805 s0.1 ([x2] : List (List Int))).bind fun x3 => some (.inl (x3, wr (s0.2 + 1)))))) else (some (.inr (.inr (s0.1))))
noncomputable def ARe (p0 : (List (List Int))) (s0 : (List Int) × Int) : Option (((List Int) × Int) ⊕ (((List Int)))) :=
 if decide (s0.2 < (p0.length : Int)) = true then ((idx p0 s0.2).bind fun x0 => (AXo p0 x0).bind fun x1 => (APv x1 s0.2).bind fun x2 => if x2 = true then ((app 17592186044416 s0.1 ([s0.2] : List Int)).bind fun x3 => some (.inl (x3, wr (s0.2 + 1)))) else (some (.inl (s0.1, wr (s0.2 + 1))))) else (some (.inr s0.1))
noncomputable def Bbu (a0 : Aha) : Option ((List Int) × Int × Int) :=
 ((Aot (ARg a0) ([], 0) : Option (((List Int) × Int × Int) ⊕ ((List (List Int)))))).bind fun o0 => (match o0 with | .inl p0 => (some p0) | .inr p1 => ((Aot (ARe p1) ([], 0)).bind fun o1 => (some (o1, 0, 0))))
noncomputable def ARt (a0 : Aha) (s0 : (List Am7) × Int) : Option (((List Am7) × Int) ⊕ (((List Am7)))) :=
 if decide (s0.2 < (a0.Funcs.length : Int)) = true then ((idx a0.Funcs s0.2).bind fun x0 => (app 4398046511104 s0.1 ([(⟨x0.Sig.Ars, x0.Sig.Result⟩ : Am7)] : List Am7)).bind fun x1 => some (.inl (x1, wr (s0.2 + 1)))) else (some (.inr s0.1))
noncomputable def AVa (a0 : Aha) (a1 : Int) : Option (Adb × Bool) :=
 if decide (a1 < 0) = true then (some ((⟨[], [], 0⟩ : Adb), false)) else (if decide (a1 ≥ (a0.Funcs.length : Int)) = true then (some ((⟨[], [], 0⟩ : Adb), false)) else ((Aot (ARt a0) ([], 0)).bind fun o0 => (some ((⟨a0.Classes, o0, a1⟩ : Adb), true))))
noncomputable def AQi (a0 : List UInt8) (s0 : Int) : Option (Int ⊕ (Bool ⊕ Unit)) :=
 if decide (s0 < (a0.length : Int)) = true then ((idx a0 s0).bind fun x0 => (if decide ((x0.toNat : Int) ≥ 97) = true then (if decide ((x0.toNat : Int) ≤ 122) = true then (some true) else (if decide ((x0.toNat : Int) ≥ 65) = true then (some (decide ((x0.toNat : Int) ≤ 90))) else (some false))) else (if decide ((x0.toNat : Int) ≥ 65) = true then (some (decide ((x0.toNat : Int) ≤ 90))) else (some false))).bind fun o0 => (if (!o0) = true then (if (s0 == 0) = true then (some (.inr (.inl false))) else (if ((x0.toNat : Int) != 95) = true then (if decide ((x0.toNat : Int) < 48) = true then (some (.inr (.inl false))) else (if decide ((x0.toNat : Int) > 57) = true then (some (.inr (.inl false))) else (some (.inl (wr (s0 + 1)))))) else (some (.inl (wr (s0 + 1)))))) else (some (.inl (wr (s0 + 1)))))) else (some (.inr (.inr (()))))
noncomputable def ARs (a0 : List UInt8) : Option Bool :=
 if decide ((a0.length : Int) < 1) = true then (some false) else (if decide ((a0.length : Int) > 24) = true then (some false) else (((Aot (AQi a0) 0 : Option (Bool ⊕ Unit))).bind fun o0 => (match o0 with | .inl p0 => (some p0) | .inr p1 => (some true))))
noncomputable def AWd (a0 : UInt8) : Option ((List UInt8)) :=
 if ((a0.toNat : Int) == 0) = true then (some [116, 111, 112]) else (if ((a0.toNat : Int) == 1) = true then (some [105, 110, 116]) else (if ((a0.toNat : Int) == 2) = true then (some [98, 111, 111, 108]) else (if ((a0.toNat : Int) == 3) = true then (some [110, 117, 108, 108]) else (if ((a0.toNat : Int) == 4) = true then (some [105, 110, 116, 115]) else (if ((a0.toNat : Int) == 5) = true then (some [97, 110, 121]) else (some []))))))
noncomputable def AOb (a0 : List UInt8) (s0 : UInt8) : Option (UInt8 ⊕ (Bool ⊕ Unit)) :=
 if decide ((s0.toNat : Int) ≤ 5) = true then ((AWd s0).bind fun x0 => if (x0 == a0) = true then (some (.inr (.inl true))) else (some (.inl (AQt ((s0.toNat : Int) + 1))))) else (some (.inr (.inr (()))))
noncomputable def AS3 (a0 : List UInt8) : Option Bool :=
 ((Aot (AOb a0) 0 : Option (Bool ⊕ Unit))).bind fun o0 => (match o0 with | .inl p0 => (some p0) | .inr p1 => (some false))
noncomputable def AO4 (a0 : List Abi) (s0 : Int × (List Int)) : Option ((Int × (List Int)) ⊕ (((List Int)))) :=
 if decide (s0.1 ≥ 0) = true then (if decide (s0.1 < (a0.length : Int)) = true then (if decide ((s0.2.length : Int) ≤ (a0.length : Int)) = true then ((app 17592186044416 s0.2 ([s0.1] : List Int)).bind fun x0 => (idx a0 s0.1).bind fun x1 => some (.inl (x1.Ar1, x0))) else (some (.inr s0.2))) else (some (.inr s0.2))) else (some (.inr s0.2))
noncomputable def ASu (a0 : List Abi) (a1 : Int) : Option ((List Int)) :=
 (Aot (AO4 a0) (a1, [])).bind fun o0 => (some o0)
noncomputable def AR0 (a0 : List Abi) (x16 : (List Int)) (s0 : (List Ar2) × Int) : Option (((List Ar2) × Int) ⊕ (((List Ar2)))) :=
 if decide (s0.2 ≥ 0) = true then ((idx x16 s0.2).bind fun x0 => (idx a0 x0).bind fun x1 => (app 5864062014805 s0.1 x1.Fields).bind fun x2 => some (.inl (x2, wr (s0.2 - 1)))) else (some (.inr s0.1))
noncomputable def AN5 (a0 : List Abi) (a1 : Int) : Option ((List Ar2)) :=
 (ASu a0 a1).bind fun x16 => (Aot (AR0 a0 x16) ([], wr ((x16.length : Int) - 1))).bind fun o0 => (some o0)
noncomputable def AQm (a0 : List Ar2) (a1 : List UInt8) (s0 : Int) : Option (Int ⊕ (Bool ⊕ Unit)) :=
 if decide (s0 < (a0.length : Int)) = true then ((idx a0 s0).bind fun x0 => if (x0.Name == a1) = true then (some (.inr (.inl true))) else (some (.inl (wr (s0 + 1))))) else (some (.inr (.inr (()))))
noncomputable def AU3 (a0 : List Ar2) (a1 : List UInt8) : Option Bool :=
 ((Aot (AQm a0 a1) 0 : Option (Bool ⊕ Unit))).bind fun o0 => (match o0 with | .inl p0 => (some p0) | .inr p1 => (some false))
noncomputable def ANw (a0 : List Abi) (a1 : UInt8) : Option Bool :=
 if decide ((a1.toNat : Int) ≤ 5) = true then (some true) else (if decide ((a1.toNat : Int) ≥ 16) = true then (some (decide (((AQt ((a1.toNat : Int) - 16)).toNat : Int) < (a0.length : Int)))) else (some false))
noncomputable def AQo (a0 : List Abi) (a1 : UInt8) : Option Bool :=
 (ANw a0 a1).bind fun x22 => if x22 = true then (if ((a1.toNat : Int) != 0) = true then (some ((a1.toNat : Int) != 3)) else (some false)) else (some false)
noncomputable def APi (a0 : List Abi) (a1 : Int) (x28 : Abi) (s0 : Int) : Option (Int ⊕ (Int ⊕ Unit)) :=
 if decide (s0 < a1) = true then ((idx a0 s0).bind fun x0 => if (x0.Name == x28.Name) = true then (some (.inr (.inl 20))) else (some (.inl (wr (s0 + 1))))) else (some (.inr (.inr (()))))
noncomputable def AOq (a0 : List Abi) (x28 : Abi) (x0 : (List Ar2)) (s0 : Int) : Option (Int ⊕ (Int ⊕ Unit)) :=
 if decide (s0 < (x28.Fields.length : Int)) = true then ((idx x28.Fields s0).bind fun x1 => (ARs x1.Name).bind fun x2 => if (!x2) = true then (some (.inr (.inl 6))) else ((AU3 x0 x1.Name).bind fun x3 => if x3 = true then (some (.inr (.inl 20))) else ((AV4 x28.Fields 0 s0).bind fun x4 => (AU3 x4 x1.Name).bind fun x5 => if x5 = true then (some (.inr (.inl 20))) else ((AQo a0 x1.ASg).bind fun x6 => if (!x6) = true then (some (.inr (.inl 22))) else (some (.inl (wr (s0 + 1)))))))) else (some (.inr (.inr (()))))
noncomputable def ATm (a0 : List Abi) (a1 : Int) : Option Int :=
 (idx a0 a1).bind fun x28 => if decide (a1 ≥ 32) = true then (some 4) else ((ARs x28.Name).bind fun x99 => if (!x99) = true then (some 6) else ((AS3 x28.Name).bind fun x0 => if x0 = true then (some 6) else (((Aot (APi a0 a1 x28) 0 : Option (Int ⊕ Unit))).bind fun o0 => (match o0 with | .inl p0 => (some p0) | .inr p1 => (if decide (x28.Ar1 < (-1)) = true then (some 21) else (if decide (x28.Ar1 ≥ a1) = true then (some 21) else ((AN5 a0 x28.Ar1).bind fun x1 => ((Aot (AOq a0 x28 x1) 0 : Option (Int ⊕ Unit))).bind fun o1 => (match o1 with | .inl p2 => (some p2) | .inr p3 => (if decide ((x28.Fields.length : Int) > (wr (32 - (x1.length : Int)))) = true then (some 4) else (some 0))))))))))
noncomputable def APm (a0 : List Abi) (s0 : Int) : Option (Int ⊕ ((Int × Int) ⊕ Unit)) :=
 if decide (s0 < (a0.length : Int)) = true then ((ATm a0 s0).bind fun x0 => if (x0 != 0) = true then (some (.inr (.inl (s0, x0)))) else (some (.inl (wr (s0 + 1))))) else (some (.inr (.inr (()))))
noncomputable def ASc (a0 : List Abi) : Option (Int × Int) :=
 ((Aot (APm a0) 0 : Option ((Int × Int) ⊕ Unit))).bind fun o0 => (match o0 with | .inl p0 => (some p0) | .inr p1 => (some (0, 0)))
noncomputable def AO5 (a0 : List Abi) (a1 : Am7) (s0 : Int) : Option (Int ⊕ (Bool ⊕ Unit)) :=
 if decide (s0 < (a1.Ars.length : Int)) = true then ((idx a1.Ars s0).bind fun x0 => (AQo a0 x0).bind fun x1 => if (!x1) = true then (some (.inr (.inl false))) else (some (.inl (wr (s0 + 1))))) else (some (.inr (.inr (()))))
noncomputable def AS4 (a0 : List Abi) (a1 : Am7) : Option Bool :=
 ((Aot (AO5 a0 a1) 0 : Option (Bool ⊕ Unit))).bind fun o0 => (match o0 with | .inl p0 => (some p0) | .inr p1 => (if decide ((a1.Ars.length : Int) ≤ 8) = true then (if ((a1.Result.toNat : Int) == 0) = true then (some true) else ((AQo a0 a1.Result).bind fun x0 => some x0)) else (some false)))
noncomputable def ATk (a0 : Int) : Option (Aas × Int) :=
 if decide (a0 < 0) = true then (some ((⟨0, 0, (Vector.replicate 24 (0 : UInt8))⟩ : Aas), 1)) else (if decide (a0 > 16) = true then (some ((⟨0, 0, (Vector.replicate 24 (0 : UInt8))⟩ : Aas), 1)) else (some ((⟨a0, 0, (Vector.replicate 24 (0 : UInt8))⟩ : Aas), 0)))
noncomputable def AS1 (a0 : List Abi) (a1 : UInt8) : Option Bool :=
 (ANw a0 a1).bind fun x22 => if x22 = true then (if ((a1.toNat : Int) != 0) = true then (some ((a1.toNat : Int) != 3)) else (some false)) else (some false)
noncomputable def AN0 (a0 : List Abi) (a1 : List UInt8) (s0 : (Vector UInt8 24) × Int) : Option (((Vector UInt8 24) × Int) ⊕ ((Aas × Int) ⊕ ((Vector UInt8 24)))) :=
 if decide (s0.2 < (a1.length : Int)) = true then ((idx a1 s0.2).bind fun x0 => (AS1 a0 x0).bind fun x1 => if (!x1) = true then (some (.inr (.inl ((⟨0, 0, (Vector.replicate 24 (0 : UInt8))⟩ : Aas), 1)))) else ((idx s0.1.toList s0.2).bind fun x2 => some (.inl ((AT6 s0.1 s0.2 x0), wr (s0.2 + 1))))) else (some (.inr (.inr (s0.1))))
noncomputable def AO2 (a0 : List Abi) (a1 : List UInt8) (a2 : Int) : Option (Aas × Int) :=
 (ATk a2).bind fun x38 => if (x38.2 != 0) = true then (some ((⟨0, 0, (Vector.replicate 24 (0 : UInt8))⟩ : Aas), 1)) else (if decide ((a1.length : Int) > 8) = true then (some ((⟨0, 0, (Vector.replicate 24 (0 : UInt8))⟩ : Aas), 1)) else (if decide ((a1.length : Int) > a2) = true then (some ((⟨0, 0, (Vector.replicate 24 (0 : UInt8))⟩ : Aas), 1)) else (((Aot (AN0 a0 a1) (x38.1.Slots, 0) : Option ((Aas × Int) ⊕ ((Vector UInt8 24))))).bind fun o0 => (match o0 with | .inl p0 => (some p0) | .inr p1 => (some ((⟨x38.1.Locals, x38.1.Height, p1⟩ : Aas), 0))))))
noncomputable def AM7 (a0 : Adb) (s0 : Int) : Option (Int ⊕ (Int ⊕ Unit)) :=
 if decide (s0 < (a0.Akq.length : Int)) = true then ((idx a0.Akq s0).bind fun x0 => if decide ((x0.Ars.length : Int) > 8) = true then (some (.inr (.inl 4))) else ((idx a0.Akq s0).bind fun x1 => (AS4 a0.Classes x1).bind fun x2 => if (!x2) = true then (some (.inr (.inl 22))) else (some (.inl (wr (s0 + 1)))))) else (some (.inr (.inr (()))))
noncomputable def AP3 (a0 : Adb) (a1 : Int) : Option Int :=
 (ASc a0.Classes).bind fun x27 => if (x27.2 != 0) = true then (some x27.2) else (if decide ((a0.Akq.length : Int) > 64) = true then (some 4) else (((Aot (AM7 a0) 0 : Option (Int ⊕ Unit))).bind fun o0 => (match o0 with | .inl p0 => (some p0) | .inr p1 => (if decide (a0.Fn < 0) = true then (some 71) else (if decide (a0.Fn ≥ (a0.Akq.length : Int)) = true then (some 71) else ((idx a0.Akq a0.Fn).bind fun x0 => (AO2 a0.Classes x0.Ars a1).bind fun x1 => some x1.2))))))
noncomputable def AQk (a0 : UInt8) : Option (Int × Int) :=
 if ((a0.toNat : Int) == 1) = true then (some (4, 0)) else ((if ((a0.toNat : Int) == 19) = true then (some true) else (some ((a0.toNat : Int) == 20))).bind fun o0 => (if o0 = true then (some (2, 0)) else ((if ((a0.toNat : Int) == 24) = true then (some true) else (some ((a0.toNat : Int) == 25))).bind fun o1 => (if o1 = true then (some (1, 1)) else ((if ((a0.toNat : Int) == 2) = true then (some true) else (if ((a0.toNat : Int) == 4) = true then (some true) else (if ((a0.toNat : Int) == 5) = true then (some true) else (if ((a0.toNat : Int) == 21) = true then (some true) else (if ((a0.toNat : Int) == 23) = true then (some true) else (if ((a0.toNat : Int) == 30) = true then (some true) else (if ((a0.toNat : Int) == 31) = true then (some true) else (some ((a0.toNat : Int) == 32))))))))).bind fun o2 => (if o2 = true then (some (1, 0)) else (some (0, 0))))))))
noncomputable def AOs (a0 : UInt8) : Option Int :=
 if decide ((a0.toNat : Int) ≥ 34) = true then (some 0) else ((AQk a0).bind fun x26 => some (wr ((wr (1 + x26.1)) + x26.2)))
noncomputable def AP1 (a0 : List UInt8) (a1 : Int) (s0 : Int × Int) : Option ((Int × Int) ⊕ Int) :=
 if decide (s0.2 < a1) = true then ((idx a0 s0.2).bind fun x0 => some (.inl (wr ((wr (256 * s0.1)) + (x0.toNat : Int)), wr (s0.2 + 1)))) else (some (.inr s0.1))
noncomputable def ASs (a0 : List UInt8) (a1 : Int) : Option Int :=
 (Aot (AP1 a0 a1) (0, 0)).bind fun o0 => (if (a1 == 4) = true then (if decide (o0 > 2147483647) = true then (some (wr (o0 - 4294967296))) else (some o0)) else (some o0))
noncomputable def APc (a0 : List UInt8) (a1 : Int) : Option (Ads × Int) :=
 if decide (a1 < 0) = true then (some ((⟨0, 0, 0, 0⟩ : Ads), 1)) else (if decide (a1 > (a0.length : Int)) = true then (some ((⟨0, 0, 0, 0⟩ : Ads), 1)) else (if (a1 == (a0.length : Int)) = true then (some ((⟨0, 0, 0, 0⟩ : Ads), 2)) else ((idx a0 a1).bind fun x0 => (AOs x0).bind fun x1 => if (x1 == 0) = true then (some ((⟨0, 0, 0, 0⟩ : Ads), 40)) else (if decide ((wr ((a0.length : Int) - a1)) < x1) = true then (some ((⟨0, 0, 0, 0⟩ : Ads), 2)) else ((AQk x0).bind fun x2 => (AV4 a0 (wr (a1 + 1)) (a0.length : Int)).bind fun x3 => (ASs x3 x2.1).bind fun x4 => (AV4 a0 (wr ((wr (a1 + 1)) + x2.1)) (a0.length : Int)).bind fun x5 => (ASs x5 x2.2).bind fun x6 => if ((x0.toNat : Int) == 2) = true then (if decide (x4 > 1) = true then (some ((⟨0, 0, 0, 0⟩ : Ads), 5)) else (some ((⟨a1, x0, x4, x6⟩ : Ads), 0))) else (some ((⟨a1, x0, x4, x6⟩ : Ads), 0)))))))
noncomputable def ANj (a0 : Aiw) (a1 : Int) (a2 : Int) (s0 : Int) : Option (Int ⊕ (Bool ⊕ Unit)) :=
 if decide (s0 < (a0.Taken.length : Int)) = true then ((idx a0.Taken s0).bind fun x0 => if decide (x0 > 0) = true then (if (s0 != a1) = true then ((idx a0.Taken s0).bind fun x1 => if decide (a1 < (wr (s0 + x1))) = true then (if decide (s0 < (wr (a1 + a2))) = true then (some (.inr (.inl true))) else (some (.inl (wr (s0 + 1))))) else (some (.inl (wr (s0 + 1))))) else (some (.inl (wr (s0 + 1))))) else (some (.inl (wr (s0 + 1))))) else (some (.inr (.inr (()))))
noncomputable def APs (a0 : Aiw) (a1 : Int) (a2 : Int) : Option Bool :=
 ((Aot (ANj a0 a1 a2) 0 : Option (Bool ⊕ Unit))).bind fun o0 => (match o0 with | .inl p0 => (some p0) | .inr p1 => (some false))
noncomputable def ARu (a0 : List Abi) (a1 : UInt8) : Option Bool :=
 (ANw a0 a1).bind fun x22 => if x22 = true then (if ((a1.toNat : Int) != 0) = true then (some ((a1.toNat : Int) != 3)) else (some false)) else (some false)
noncomputable def AOm (a0 : Adb) (x0 : Am7) (s0 : Int) : Option (Int ⊕ (Bool ⊕ Unit)) :=
 if decide (s0 < (x0.Ars.length : Int)) = true then ((idx x0.Ars s0).bind fun x1 => (ARu a0.Classes x1).bind fun x2 => if (!x2) = true then (some (.inr (.inl false))) else (some (.inl (wr (s0 + 1))))) else (some (.inr (.inr (()))))
noncomputable def AOk (a0 : Adb) (s0 : Int) : Option (Int ⊕ (Bool ⊕ Unit)) :=
 if decide (s0 < (a0.Akq.length : Int)) = true then ((idx a0.Akq s0).bind fun x0 => ((if decide ((x0.Ars.length : Int) > 8) = true then (some (.inl false)) else (if ((x0.Result.toNat : Int) != 0) = true then ((ARu a0.Classes x0.Result).bind fun x1 => if (!x1) = true then (some (.inl false)) else (some (.inr ((true, (!x1)))))) else (some (.inr ((false, false))))) : Option (Bool ⊕ (Bool × Bool)))).bind fun o0 => (match o0 with | .inl p0 => (some (.inr (.inl p0))) | .inr p1 => (((Aot (AOm a0 x0) 0 : Option (Bool ⊕ Unit))).bind fun o1 => (match o1 with | .inl p2 => (some (.inr (.inl p2))) | .inr p3 => (some (.inl (wr (s0 + 1)))))))) else (some (.inr (.inr (()))))
noncomputable def AR7 (a0 : Adb) : Option Bool :=
 (ASc a0.Classes).bind fun x57 => if (x57.2 != 0) = true then (some false) else (if decide ((a0.Akq.length : Int) > 64) = true then (some false) else (if decide (a0.Fn < 0) = true then (some false) else (if decide (a0.Fn ≥ (a0.Akq.length : Int)) = true then (some false) else (((Aot (AOk a0) 0 : Option (Bool ⊕ Unit))).bind fun o0 => (match o0 with | .inl p0 => (some p0) | .inr p1 => (some true))))))
noncomputable def AQ4 (a0 : Aas) : Option Bool :=
 if decide (a0.Locals ≥ 0) = true then (if decide (a0.Locals ≤ 16) = true then (if decide (a0.Height ≥ 0) = true then (if decide (a0.Height ≤ 24) = true then (some (decide ((wr (a0.Locals + a0.Height)) ≤ 24))) else (some false)) else (some false)) else (some false)) else (some false)
noncomputable def APg (a1 : Aas) (s0 : Int) : Option (Int ⊕ (Int ⊕ Unit)) :=
 if decide (s0 < 24) = true then ((idx a1.Slots.toList s0).bind fun x0 => if ((x0.toNat : Int) != 0) = true then (some (.inr (.inl 32))) else (some (.inl (wr (s0 + 1))))) else (some (.inr (.inr (()))))
noncomputable def APk (a0 : List Abi) (a1 : Aas) (s0 : Int) : Option (Int ⊕ (Int ⊕ Unit)) :=
 if decide (s0 < (wr (a1.Locals + a1.Height))) = true then ((idx a1.Slots.toList s0).bind fun x0 => (ANw a0 x0).bind fun x1 => if (!x1) = true then (some (.inr (.inl 22))) else (some (.inl (wr (s0 + 1))))) else (some (.inr (.inr (()))))
noncomputable def APr (a0 : List Abi) (a1 : Aas) : Option Int :=
 (AQ4 (⟨a1.Locals, a1.Height, a1.Slots⟩ : Aas)).bind fun x52 => if (!x52) = true then (some 32) else (((Aot (APg a1) (wr (a1.Locals + a1.Height)) : Option (Int ⊕ Unit))).bind fun o0 => (match o0 with | .inl p0 => (some p0) | .inr p1 => (((Aot (APk a0 a1) 0 : Option (Int ⊕ Unit))).bind fun o1 => (match o1 with | .inl p2 => (some p2) | .inr p3 => (some 0)))))
noncomputable def AQw (a0 : Adb) (a1 : Ads) : Option Int :=
 ((if ((a1.Op.toNat : Int) == 21) = true then (if decide (a1.A < 0) = true then (some (.inl 71)) else (if decide (a1.A ≥ (a0.Akq.length : Int)) = true then (some (.inl 71)) else (some (.inr (()))))) else ((if ((a1.Op.toNat : Int) == 23) = true then (some true) else (if ((a1.Op.toNat : Int) == 30) = true then (some true) else (if ((a1.Op.toNat : Int) == 31) = true then (some true) else (if ((a1.Op.toNat : Int) == 24) = true then (some true) else (some ((a1.Op.toNat : Int) == 25)))))).bind fun o0 => (if o0 = true then (if decide (a1.A < 0) = true then (some (.inl 72)) else (if decide (a1.A ≥ (a0.Classes.length : Int)) = true then (some (.inl 72)) else (some (.inr (()))))) else (some (.inr (()))))) : Option (Int ⊕ Unit))).bind fun o1 => (match o1 with | .inl p0 => (some p0) | .inr p1 => (if ((a1.Op.toNat : Int) == 24) = true then (if decide (a1.B < 0) = true then (some 72) else ((AN5 a0.Classes a1.A).bind fun x0 => if decide (a1.B ≥ (x0.length : Int)) = true then (some 72) else (some 0))) else (if ((a1.Op.toNat : Int) == 25) = true then (if decide (a1.B < 0) = true then (some 72) else ((AN5 a0.Classes a1.A).bind fun x1 => if decide (a1.B ≥ (x1.length : Int)) = true then (some 72) else (some 0))) else (some 0))))
noncomputable def ARl (a0 : UInt8) : Option ((List UInt8)) :=
 if ((a0.toNat : Int) == 0) = true then (some ([] : List UInt8)) else (some ([a0] : List UInt8))
noncomputable def AO3 (a0 : Int) : Option UInt8 :=
 some (AQt (16 + ((AQt a0).toNat : Int)))
noncomputable def ATi (a0 : Adb) (a1 : Ads) : Option ((List UInt8)) :=
 if ((a1.Op.toNat : Int) == 5) = true then (some ([(254 : UInt8)] : List UInt8)) else ((if ((a1.Op.toNat : Int) == 6) = true then (some true) else (some ((a1.Op.toNat : Int) == 7))).bind fun o0 => (if o0 = true then (some ([(255 : UInt8)] : List UInt8)) else (if ((a1.Op.toNat : Int) == 8) = true then (some ([(255 : UInt8), (255 : UInt8)] : List UInt8)) else ((if ((a1.Op.toNat : Int) == 9) = true then (some true) else (if ((a1.Op.toNat : Int) == 10) = true then (some true) else (if ((a1.Op.toNat : Int) == 11) = true then (some true) else (if ((a1.Op.toNat : Int) == 12) = true then (some true) else (if ((a1.Op.toNat : Int) == 13) = true then (some true) else (some ((a1.Op.toNat : Int) == 15))))))).bind fun o1 => (if o1 = true then (some ([(1 : UInt8), (1 : UInt8)] : List UInt8)) else ((if ((a1.Op.toNat : Int) == 14) = true then (some true) else (if ((a1.Op.toNat : Int) == 26) = true then (some true) else (some ((a1.Op.toNat : Int) == 33)))).bind fun o2 => (if o2 = true then (some ([(1 : UInt8)] : List UInt8)) else (if ((a1.Op.toNat : Int) == 16) = true then (some ([(255 : UInt8), (255 : UInt8)] : List UInt8)) else ((if ((a1.Op.toNat : Int) == 17) = true then (some true) else (some ((a1.Op.toNat : Int) == 20))).bind fun o3 => (if o3 = true then (some ([(2 : UInt8)] : List UInt8)) else (if ((a1.Op.toNat : Int) == 18) = true then (some ([(253 : UInt8), (253 : UInt8)] : List UInt8)) else (if ((a1.Op.toNat : Int) == 21) = true then ((idx a0.Akq a1.A).bind fun x0 => some x0.Ars) else (if ((a1.Op.toNat : Int) == 22) = true then ((idx a0.Akq a0.Fn).bind fun x1 => (ARl x1.Result).bind fun x2 => some x2) else (if ((a1.Op.toNat : Int) == 24) = true then ((AO3 a1.A).bind fun x3 => some ([x3] : List UInt8)) else (if ((a1.Op.toNat : Int) == 25) = true then ((AO3 a1.A).bind fun x4 => (AN5 a0.Classes a1.A).bind fun x5 => (idx x5 a1.B).bind fun x6 => some ([x4, x6.ASg] : List UInt8)) else (if ((a1.Op.toNat : Int) == 27) = true then (some ([(4 : UInt8)] : List UInt8)) else (if ((a1.Op.toNat : Int) == 28) = true then (some ([(4 : UInt8), (1 : UInt8)] : List UInt8)) else (if ((a1.Op.toNat : Int) == 29) = true then (some ([(4 : UInt8), (1 : UInt8), (1 : UInt8)] : List UInt8)) else (if ((a1.Op.toNat : Int) == 30) = true then (some ([(253 : UInt8)] : List UInt8)) else (if ((a1.Op.toNat : Int) == 31) = true then (some ([(253 : UInt8)] : List UInt8)) else (some ([] : List UInt8))))))))))))))))))))))
noncomputable def APt (a0 : UInt8) : Option Bool :=
 if ((a0.toNat : Int) == 3) = true then (some true) else (if ((a0.toNat : Int) == 4) = true then (some true) else (if ((a0.toNat : Int) == 5) = true then (some true) else (some (decide ((a0.toNat : Int) ≥ 16)))))
noncomputable def AQn (a2 : UInt8) (x0 : (List Int)) (s0 : Int) : Option (Int ⊕ (Bool ⊕ Unit)) :=
 if decide (s0 < (x0.length : Int)) = true then ((idx x0 s0).bind fun x1 => if (x1 == ((AQt ((a2.toNat : Int) - 16)).toNat : Int)) = true then (some (.inr (.inl true))) else (some (.inl (wr (s0 + 1))))) else (some (.inr (.inr (()))))
noncomputable def AQ8 (a0 : List Abi) (a1 : UInt8) (a2 : UInt8) : Option Bool :=
 (ANw a0 a1).bind fun x34 => if (!x34) = true then (some false) else ((ANw a0 a2).bind fun x50 => if (!x50) = true then (some false) else (((if ((a1.toNat : Int) == (a2.toNat : Int)) = true then (some (.inl true)) else (if ((a2.toNat : Int) == 0) = true then (some (.inl true)) else (if ((a1.toNat : Int) == 3) = true then ((APt a2).bind fun x0 => if x0 = true then (some (.inl true)) else ((APt a1).bind fun x1 => if x1 = true then (if ((a2.toNat : Int) == 5) = true then (some (.inl true)) else (some (.inr (())))) else (some (.inr (()))))) else ((APt a1).bind fun x2 => if x2 = true then (if ((a2.toNat : Int) == 5) = true then (some (.inl true)) else (some (.inr (())))) else (some (.inr (())))))) : Option (Bool ⊕ Unit))).bind fun o0 => (match o0 with | .inl p0 => (some p0) | .inr p1 => (if decide ((a1.toNat : Int) < 16) = true then (some false) else (if decide ((a2.toNat : Int) < 16) = true then (some false) else ((ASu a0 ((AQt ((a1.toNat : Int) - 16)).toNat : Int)).bind fun x3 => ((Aot (AQn a2 x3) 0 : Option (Bool ⊕ Unit))).bind fun o1 => (match o1 with | .inl p2 => (some p2) | .inr p3 => (some false))))))))
noncomputable def AS2 (a0 : List Abi) (a1 : UInt8) (a2 : UInt8) : Option Bool :=
 if ((a2.toNat : Int) == 255) = true then (some true) else (if ((a2.toNat : Int) == 254) = true then (some ((a1.toNat : Int) != 0)) else (if ((a2.toNat : Int) == 253) = true then ((APt a1).bind fun x72 => some x72) else ((AQ8 a0 a1 a2).bind fun x94 => some x94)))
noncomputable def ATr (a0 : Adb) (a1 : Ads) : Option ((List UInt8)) :=
 (if ((a1.Op.toNat : Int) == 1) = true then (some true) else (if ((a1.Op.toNat : Int) == 9) = true then (some true) else (if ((a1.Op.toNat : Int) == 10) = true then (some true) else (if ((a1.Op.toNat : Int) == 11) = true then (some true) else (if ((a1.Op.toNat : Int) == 12) = true then (some true) else (if ((a1.Op.toNat : Int) == 13) = true then (some true) else (if ((a1.Op.toNat : Int) == 14) = true then (some true) else (if ((a1.Op.toNat : Int) == 27) = true then (some true) else (some ((a1.Op.toNat : Int) == 28)))))))))).bind fun o0 => (if o0 = true then (some ([(1 : UInt8)] : List UInt8)) else ((if ((a1.Op.toNat : Int) == 2) = true then (some true) else (if ((a1.Op.toNat : Int) == 15) = true then (some true) else (if ((a1.Op.toNat : Int) == 16) = true then (some true) else (if ((a1.Op.toNat : Int) == 17) = true then (some true) else (if ((a1.Op.toNat : Int) == 18) = true then (some true) else (some ((a1.Op.toNat : Int) == 31))))))).bind fun o1 => (if o1 = true then (some ([(2 : UInt8)] : List UInt8)) else (if ((a1.Op.toNat : Int) == 3) = true then (some ([(3 : UInt8)] : List UInt8)) else (if ((a1.Op.toNat : Int) == 4) = true then (some ([(255 : UInt8)] : List UInt8)) else ((if ((a1.Op.toNat : Int) == 7) = true then (some true) else (some ((a1.Op.toNat : Int) == 8))).bind fun o2 => (if o2 = true then (some ([(255 : UInt8), (255 : UInt8)] : List UInt8)) else (if ((a1.Op.toNat : Int) == 21) = true then ((idx a0.Akq a1.A).bind fun x0 => (ARl x0.Result).bind fun x1 => some x1) else ((if ((a1.Op.toNat : Int) == 23) = true then (some true) else (some ((a1.Op.toNat : Int) == 30))).bind fun o3 => (if o3 = true then ((AO3 a1.A).bind fun x2 => some ([x2] : List UInt8)) else (if ((a1.Op.toNat : Int) == 24) = true then ((AN5 a0.Classes a1.A).bind fun x3 => (idx x3 a1.B).bind fun x4 => (ARl x4.ASg).bind fun x5 => some x5) else (if ((a1.Op.toNat : Int) == 26) = true then (some ([(4 : UInt8)] : List UInt8)) else (some ([] : List UInt8))))))))))))))
noncomputable def AP5 (s0 : (Vector UInt8 24) × Int) : Option (((Vector UInt8 24) × Int) ⊕ (((Vector UInt8 24)))) :=
 if decide (s0.2 < 24) = true then ((idx s0.1.toList s0.2).bind fun x0 => some (.inl ((AT6 s0.1 s0.2 (0 : UInt8)), wr (s0.2 + 1)))) else (some (.inr s0.1))
noncomputable def ASt (a0 : Aas) : Option Aas :=
 (Aot (AP5) (a0.Slots, wr (a0.Locals + a0.Height))).bind fun o0 => (some (⟨a0.Locals, a0.Height, o0⟩ : Aas))
noncomputable def AUy (a0 : Aas) : Option (Aas × UInt8 × Int) :=
 (AQ4 (⟨a0.Locals, a0.Height, a0.Slots⟩ : Aas)).bind fun x76 => if (!x76) = true then (some ((⟨0, 0, (Vector.replicate 24 (0 : UInt8))⟩ : Aas), (0 : UInt8), 32)) else (if (a0.Height == 0) = true then (some ((⟨0, 0, (Vector.replicate 24 (0 : UInt8))⟩ : Aas), (0 : UInt8), 30)) else ((idx a0.Slots.toList (wr ((wr (a0.Locals + a0.Height)) - 1))).bind fun x0 => (ASt (⟨a0.Locals, wr (a0.Height - 1), a0.Slots⟩ : Aas)).bind fun x1 => some ((⟨x1.Locals, x1.Height, x1.Slots⟩ : Aas), x0, 0)))
noncomputable def AUd (a0 : Aas) (a1 : UInt8) : Option (Aas × Int) :=
 (AQ4 (⟨a0.Locals, a0.Height, a0.Slots⟩ : Aas)).bind fun x76 => if (!x76) = true then (some ((⟨0, 0, (Vector.replicate 24 (0 : UInt8))⟩ : Aas), 32)) else (if ((wr (a0.Locals + a0.Height)) == 24) = true then (some ((⟨0, 0, (Vector.replicate 24 (0 : UInt8))⟩ : Aas), 31)) else ((ASt (⟨a0.Locals, a0.Height, a0.Slots⟩ : Aas)).bind fun x0 => (idx x0.Slots.toList (wr (a0.Locals + a0.Height))).bind fun x1 => some ((⟨x0.Locals, wr (x0.Height + 1), (AT6 x0.Slots (wr (a0.Locals + a0.Height)) a1)⟩ : Aas), 0)))
noncomputable def ANn (a0 : Adb) (a1 : Aas) (x89 : (List UInt8)) (s0 : (List UInt8) × Int) : Option (((List UInt8) × Int) ⊕ ((Aas × Int) ⊕ ((List UInt8)))) :=
 if decide (s0.2 < (x89.length : Int)) = true then ((idx x89 s0.2).bind fun x0 => (idx a1.Slots.toList (wr ((wr ((wr (a1.Locals + a1.Height)) - (x89.length : Int))) + s0.2))).bind fun x1 => (AS2 a0.Classes x1 x0).bind fun x2 => if (!x2) = true then (some (.inr (.inl ((⟨0, 0, (Vector.replicate 24 (0 : UInt8))⟩ : Aas), 70)))) else ((app 140737488355328 s0.1 ([x1] : List UInt8)).bind fun x3 => some (.inl (x3, wr (s0.2 + 1))))) else (some (.inr (.inr (s0.1))))
noncomputable def AQu (x89 : (List UInt8)) (s0 : Int × Int × (Vector UInt8 24) × Int) : Option ((Int × Int × (Vector UInt8 24) × Int) ⊕ ((Int × Int × (Vector UInt8 24)))) :=
 if decide (s0.2.2.2 < (x89.length : Int)) = true then ((AUy (⟨s0.1, s0.2.1, s0.2.2.1⟩ : Aas)).bind fun x0 => some (.inl (x0.1.Locals, x0.1.Height, x0.1.Slots, wr (s0.2.2.2 + 1)))) else (some (.inr (s0.1, s0.2.1, s0.2.2.1)))
noncomputable def AOp (p0 : (List UInt8)) (s0 : Int × Int × (Vector UInt8 24) × Int) : Option ((Int × Int × (Vector UInt8 24) × Int) ⊕ ((Aas × Int) ⊕ (Int × Int × (Vector UInt8 24)))) :=
 if decide (s0.2.2.2 < (p0.length : Int)) = true then ((idx p0 s0.2.2.2).bind fun x0 => (AUd (⟨s0.1, s0.2.1, s0.2.2.1⟩ : Aas) x0).bind fun x1 => if (x1.2 != 0) = true then (some (.inr (.inl ((⟨0, 0, (Vector.replicate 24 (0 : UInt8))⟩ : Aas), x1.2)))) else (some (.inl (x1.1.Locals, x1.1.Height, x1.1.Slots, wr (s0.2.2.2 + 1))))) else (some (.inr (.inr ((s0.1, s0.2.1, s0.2.2.1)))))
noncomputable def ASd (a0 : Adb) (a1 : Aas) (a2 : Ads) : Option (Aas × Int) :=
 (ATi (⟨a0.Classes, a0.Akq, a0.Fn⟩ : Adb) (⟨a2.At, a2.Op, a2.A, a2.B⟩ : Ads)).bind fun x89 => if decide (a1.Height < (x89.length : Int)) = true then (some ((⟨0, 0, (Vector.replicate 24 (0 : UInt8))⟩ : Aas), 30)) else (((Aot (ANn a0 a1 x89) ([], 0) : Option ((Aas × Int) ⊕ ((List UInt8))))).bind fun o0 => (match o0 with | .inl p0 => (some p0) | .inr p1 => (((if ((a2.Op.toNat : Int) == 16) = true then ((idx p1 0).bind fun x0 => (idx p1 1).bind fun x1 => if ((x0.toNat : Int) != (x1.toNat : Int)) = true then (some (.inl ((⟨0, 0, (Vector.replicate 24 (0 : UInt8))⟩ : Aas), 70))) else ((idx p1 0).bind fun x2 => if ((x2.toNat : Int) != 1) = true then ((idx p1 0).bind fun x3 => if ((x3.toNat : Int) != 2) = true then (some (.inl ((⟨0, 0, (Vector.replicate 24 (0 : UInt8))⟩ : Aas), 70))) else (some (.inr (())))) else (some (.inr (()))))) else (some (.inr (()))) : Option ((Aas × Int) ⊕ Unit))).bind fun o1 => (match o1 with | .inl p2 => (some p2) | .inr p3 => ((ATr (⟨a0.Classes, a0.Akq, a0.Fn⟩ : Adb) (⟨a2.At, a2.Op, a2.A, a2.B⟩ : Ads)).bind fun x4 => ((if ((a2.Op.toNat : Int) == 4) = true then ((idx a1.Slots.toList a2.A).bind fun x5 => if ((x5.toNat : Int) == 0) = true then (some (.inl ((⟨0, 0, (Vector.replicate 24 (0 : UInt8))⟩ : Aas), 70))) else ((idx a1.Slots.toList a2.A).bind fun x6 => some (.inr (([x6] : List UInt8))))) else (if ((a2.Op.toNat : Int) == 7) = true then ((idx p1 0).bind fun x7 => (idx p1 0).bind fun x8 => some (.inr (([x7, x8] : List UInt8)))) else (if ((a2.Op.toNat : Int) == 8) = true then ((idx p1 1).bind fun x9 => (idx p1 0).bind fun x10 => some (.inr (([x9, x10] : List UInt8)))) else (some (.inr (x4))))) : Option ((Aas × Int) ⊕ ((List UInt8))))).bind fun o2 => (match o2 with | .inl p4 => (some p4) | .inr p5 => ((Aot (AQu x89) (a1.Locals, a1.Height, a1.Slots, 0)).bind fun o3 => (((if ((a2.Op.toNat : Int) == 22) = true then (if decide (o3.2.1 > 0) = true then (some (.inl ((⟨0, 0, (Vector.replicate 24 (0 : UInt8))⟩ : Aas), 73))) else (some (.inr (())))) else (some (.inr (()))) : Option ((Aas × Int) ⊕ Unit))).bind fun o4 => (match o4 with | .inl p6 => (some p6) | .inr p7 => ((if ((a2.Op.toNat : Int) == 5) = true then ((idx p1 0).bind fun x11 => (idx o3.2.2.toList a2.A).bind fun x12 => some (AT6 o3.2.2 a2.A x11)) else (some o3.2.2)).bind fun o5 => (((Aot (AOp p5) (o3.1, o3.2.1, o5, 0) : Option ((Aas × Int) ⊕ (Int × Int × (Vector UInt8 24))))).bind fun o6 => (match o6 with | .inl p8 => (some p8) | .inr p9 => (some ((⟨p9.1, p9.2.1, p9.2.2⟩ : Aas), 0))))))))))))))
noncomputable def ATj (a0 : Adb) (a1 : Aas) (a2 : Ads) : Option (Aas × Int) :=
 (AR7 (⟨a0.Classes, a0.Akq, a0.Fn⟩ : Adb)).bind fun x0 => if (!x0) = true then (some ((⟨0, 0, (Vector.replicate 24 (0 : UInt8))⟩ : Aas), 1)) else ((APr a0.Classes (⟨a1.Locals, a1.Height, a1.Slots⟩ : Aas)).bind fun x1 => if (x1 != 0) = true then (some ((⟨0, 0, (Vector.replicate 24 (0 : UInt8))⟩ : Aas), x1)) else ((AOs a2.Op).bind fun x2 => if (x2 == 0) = true then (some ((⟨0, 0, (Vector.replicate 24 (0 : UInt8))⟩ : Aas), 40)) else ((if ((a2.Op.toNat : Int) == 4) = true then (some true) else (some ((a2.Op.toNat : Int) == 5))).bind fun o0 => (if o0 = true then (if decide (a2.A < 0) = true then (some ((⟨0, 0, (Vector.replicate 24 (0 : UInt8))⟩ : Aas), 33)) else (if decide (a2.A ≥ a1.Locals) = true then (some ((⟨0, 0, (Vector.replicate 24 (0 : UInt8))⟩ : Aas), 33)) else ((AQw (⟨a0.Classes, a0.Akq, a0.Fn⟩ : Adb) (⟨a2.At, a2.Op, a2.A, a2.B⟩ : Ads)).bind fun x3 => if (x3 != 0) = true then (some ((⟨0, 0, (Vector.replicate 24 (0 : UInt8))⟩ : Aas), x3)) else ((ASd (⟨a0.Classes, a0.Akq, a0.Fn⟩ : Adb) (⟨a1.Locals, a1.Height, a1.Slots⟩ : Aas) (⟨a2.At, a2.Op, a2.A, a2.B⟩ : Ads)).bind fun x4 => some ((⟨x4.1.Locals, x4.1.Height, x4.1.Slots⟩ : Aas), x4.2))))) else ((AQw (⟨a0.Classes, a0.Akq, a0.Fn⟩ : Adb) (⟨a2.At, a2.Op, a2.A, a2.B⟩ : Ads)).bind fun x5 => if (x5 != 0) = true then (some ((⟨0, 0, (Vector.replicate 24 (0 : UInt8))⟩ : Aas), x5)) else ((ASd (⟨a0.Classes, a0.Akq, a0.Fn⟩ : Adb) (⟨a1.Locals, a1.Height, a1.Slots⟩ : Aas) (⟨a2.At, a2.Op, a2.A, a2.B⟩ : Ads)).bind fun x6 => some ((⟨x6.1.Locals, x6.1.Height, x6.1.Slots⟩ : Aas), x6.2)))))))
noncomputable def AVv (a0 : UInt8) : Option Bool :=
 if ((a0.toNat : Int) == 19) = true then (some true) else (some ((a0.toNat : Int) == 20))
noncomputable def AWb (a0 : UInt8) : Option Bool :=
 if ((a0.toNat : Int) == 19) = true then (some true) else (if ((a0.toNat : Int) == 22) = true then (some true) else (some ((a0.toNat : Int) == 32)))
noncomputable def AVn (a0 : Ads) (a1 : Int) : Option ((List Int) × Int) :=
 (AOs a0.Op).bind fun x21 => (AVv a0.Op).bind fun x39 => (AWb a0.Op).bind fun x63 => ((if x39 = true then (if decide (a0.A ≥ a1) = true then (some (.inl (([] : List Int), 50))) else (some (.inr (())))) else (some (.inr (()))) : Option (((List Int) × Int) ⊕ Unit))).bind fun o0 => (match o0 with | .inl p0 => (some p0) | .inr p1 => (((if (!x63) = true then (if ((wr (a0.At + x21)) == a1) = true then (some (.inl (([] : List Int), 51))) else (some (.inr (())))) else (some (.inr (()))) : Option (((List Int) × Int) ⊕ Unit))).bind fun o1 => (match o1 with | .inl p2 => (some p2) | .inr p3 => ((if x39 = true then (if (!(!x63)) = true then ((app 17592186044416 ([] : List Int) ([a0.A] : List Int)).bind fun x0 => some x0) else (if decide (a0.A < (wr (a0.At + x21))) = true then ((app 17592186044416 ([] : List Int) ([a0.A] : List Int)).bind fun x1 => some x1) else (some []))) else (some [])).bind fun o2 => (if (!x63) = true then ((app 17592186044416 o2 ([wr (a0.At + x21)] : List Int)).bind fun x2 => if x39 = true then (if decide (a0.A > (wr (a0.At + x21))) = true then ((app 17592186044416 x2 ([a0.A] : List Int)).bind fun x3 => some (x3, 0)) else (some (x2, 0))) else (some (x2, 0))) else (if x39 = true then (some (o2, 0)) else (some (o2, 0))))))))
noncomputable def AQr (a0 : List Abi) (s0 : (List UInt8) × Int) : Option (((List UInt8) × Int) ⊕ (((List UInt8)))) :=
 if decide (s0.2 < 256) = true then ((ANw a0 (AQt s0.2)).bind fun x0 => if x0 = true then ((app 140737488355328 s0.1 ([AQt s0.2] : List UInt8)).bind fun x1 => some (.inl (x1, wr (s0.2 + 1)))) else (some (.inl (s0.1, wr (s0.2 + 1))))) else (some (.inr s0.1))
noncomputable def AU4 (a0 : List Abi) : Option ((List UInt8)) :=
 (Aot (AQr a0) ([], 0)).bind fun o0 => (some o0)
noncomputable def APn (a0 : List Abi) (a1 : UInt8) (a2 : UInt8) (x18 : (List UInt8)) (s0 : UInt8 × Int) : Option ((UInt8 × Int) ⊕ UInt8) :=
 if decide (s0.2 < (x18.length : Int)) = true then ((idx x18 s0.2).bind fun x0 => (AQ8 a0 a1 x0).bind fun x1 => if x1 = true then ((AQ8 a0 a2 x0).bind fun x2 => if x2 = true then ((AQ8 a0 x0 s0.1).bind fun x3 => if x3 = true then (some (.inl (x0, wr (s0.2 + 1)))) else (some (.inl (s0.1, wr (s0.2 + 1))))) else (some (.inl (s0.1, wr (s0.2 + 1))))) else (some (.inl (s0.1, wr (s0.2 + 1))))) else (some (.inr s0.1))
noncomputable def ATp (a0 : List Abi) (a1 : UInt8) (a2 : UInt8) : Option UInt8 :=
 (AU4 a0).bind fun x18 => (Aot (APn a0 a1 a2 x18) (0, 0)).bind fun o0 => (some o0)
noncomputable def AQv (a0 : List Abi) (a1 : Aas) (a2 : Aas) (s0 : (Vector UInt8 24) × Int) : Option (((Vector UInt8 24) × Int) ⊕ (((Vector UInt8 24)))) :=
 if decide (s0.2 < (wr (a1.Locals + a1.Height))) = true then ((idx s0.1.toList s0.2).bind fun x0 => (idx a2.Slots.toList s0.2).bind fun x1 => (ATp a0 x0 x1).bind fun x2 => (idx s0.1.toList s0.2).bind fun x3 => some (.inl ((AT6 s0.1 s0.2 x2), wr (s0.2 + 1)))) else (some (.inr s0.1))
noncomputable def ATq (a0 : List Abi) (a1 : Aas) (a2 : Aas) : Option (Aas × Int) :=
 (APr a0 (⟨a1.Locals, a1.Height, a1.Slots⟩ : Aas)).bind fun x95 => if (x95 != 0) = true then (some ((⟨0, 0, (Vector.replicate 24 (0 : UInt8))⟩ : Aas), x95)) else ((APr a0 (⟨a2.Locals, a2.Height, a2.Slots⟩ : Aas)).bind fun x0 => if (x0 != 0) = true then (some ((⟨0, 0, (Vector.replicate 24 (0 : UInt8))⟩ : Aas), x0)) else (if (a1.Locals != a2.Locals) = true then (some ((⟨0, 0, (Vector.replicate 24 (0 : UInt8))⟩ : Aas), 32)) else (if (a1.Height != a2.Height) = true then (some ((⟨0, 0, (Vector.replicate 24 (0 : UInt8))⟩ : Aas), 32)) else ((Aot (AQv a0 a1 a2) (a1.Slots, 0)).bind fun o0 => (some ((⟨a1.Locals, a1.Height, o0⟩ : Aas), 0))))))
noncomputable def ARj (a0 : Aiw) (a1 : List Abi) (a2 : Int) (a3 : Aas) : Option (Int × Aiw) :=
 (idx a0.Has a2).bind fun x0 => if (!x0) = true then ((idx a0.Has a2).bind fun x1 => (idx a0.Frame a2).bind fun x2 => (idx a0.AJs a2).bind fun x3 => some (0, (⟨(a0.Has.set a2.toNat true), (a0.Frame.set a2.toNat (⟨a3.Locals, a3.Height, a3.Slots⟩ : Aas)), (a0.AJs.set a2.toNat true), a0.Taken⟩ : Aiw))) else ((idx a0.Frame a2).bind fun x4 => (ATq a1 x4 (⟨a3.Locals, a3.Height, a3.Slots⟩ : Aas)).bind fun x5 => if (x5.2 != 0) = true then (some (x5.2, (⟨a0.Has, a0.Frame, a0.AJs, a0.Taken⟩ : Aiw))) else ((idx a0.Frame a2).bind fun x6 => if (!((x5.1.Locals == x6.Locals) && ((x5.1.Height == x6.Height) && ((x5.1.Slots == x6.Slots) && true)))) = true then ((idx a0.Frame a2).bind fun x7 => (idx a0.AJs a2).bind fun x8 => some (0, (⟨a0.Has, (a0.Frame.set a2.toNat (⟨x5.1.Locals, x5.1.Height, x5.1.Slots⟩ : Aas)), (a0.AJs.set a2.toNat true), a0.Taken⟩ : Aiw))) else (some (0, (⟨a0.Has, a0.Frame, a0.AJs, a0.Taken⟩ : Aiw)))))
noncomputable def ANg (a1 : Adb) (x0 : Aas × Int) (x1 : (List Int) × Int) (s0 : (List Int) × (List Bool) × (List Bool) × (List Aas) × Int) : Option (((List Int) × (List Bool) × (List Bool) × (List Aas) × Int) ⊕ ((Int × Int × Aiw) ⊕ ((List Int) × (List Bool) × (List Bool) × (List Aas)))) :=
 if decide (s0.2.2.2.2 < (x1.1.length : Int)) = true then ((idx x1.1 s0.2.2.2.2).bind fun x2 => (ARj (⟨s0.2.2.1, s0.2.2.2.1, s0.2.1, s0.1⟩ : Aiw) a1.Classes x2 (⟨x0.1.Locals, x0.1.Height, x0.1.Slots⟩ : Aas)).bind fun x3 => if (x3.1 != 0) = true then ((idx x1.1 s0.2.2.2.2).bind fun x4 => some (.inr (.inl (x4, x3.1, (⟨x3.2.Has, x3.2.Frame, x3.2.AJs, x3.2.Taken⟩ : Aiw))))) else (some (.inl (x3.2.Taken, x3.2.AJs, x3.2.Has, x3.2.Frame, wr (s0.2.2.2.2 + 1))))) else (some (.inr (.inr ((s0.1, s0.2.1, s0.2.2.1, s0.2.2.2.1)))))
noncomputable def AQ2 (a0 : Aiw) (a1 : Adb) (a2 : List UInt8) (a3 : Int) : Option (Int × Int × Aiw) :=
 (idx a0.AJs a3).bind fun x40 => if (a3 == (a2.length : Int)) = true then (some (a3, 51, (⟨a0.Has, a0.Frame, (a0.AJs.set a3.toNat false), a0.Taken⟩ : Aiw))) else ((APc a2 a3).bind fun x96 => if (x96.2 != 0) = true then (some (a3, x96.2, (⟨a0.Has, a0.Frame, (a0.AJs.set a3.toNat false), a0.Taken⟩ : Aiw))) else ((AOs x96.1.Op).bind fun x0 => (APs (⟨a0.Has, a0.Frame, (a0.AJs.set a3.toNat false), a0.Taken⟩ : Aiw) a3 x0).bind fun x1 => if x1 = true then (some (a3, 80, (⟨a0.Has, a0.Frame, (a0.AJs.set a3.toNat false), a0.Taken⟩ : Aiw))) else ((idx a0.Taken a3).bind fun x2 => (idx a0.Frame a3).bind fun x3 => (ATj (⟨a1.Classes, a1.Akq, a1.Fn⟩ : Adb) x3 (⟨x96.1.At, x96.1.Op, x96.1.A, x96.1.B⟩ : Ads)).bind fun x4 => if (x4.2 != 0) = true then (some (a3, x4.2, (⟨a0.Has, a0.Frame, (a0.AJs.set a3.toNat false), (a0.Taken.set a3.toNat x0)⟩ : Aiw))) else ((AVn (⟨x96.1.At, x96.1.Op, x96.1.A, x96.1.B⟩ : Ads) (a2.length : Int)).bind fun x5 => if (x5.2 != 0) = true then (some (a3, x5.2, (⟨a0.Has, a0.Frame, (a0.AJs.set a3.toNat false), (a0.Taken.set a3.toNat x0)⟩ : Aiw))) else (((Aot (ANg a1 x4 x5) ((a0.Taken.set a3.toNat x0), (a0.AJs.set a3.toNat false), a0.Has, a0.Frame, 0) : Option ((Int × Int × Aiw) ⊕ ((List Int) × (List Bool) × (List Bool) × (List Aas))))).bind fun o0 => (match o0 with | .inl p0 => (some p0) | .inr p1 => (some (0, 0, (⟨p1.2.2.1, p1.2.2.2, p1.2.1, p1.1⟩ : Aiw)))))))))
noncomputable def ANv (a0 : Aiw) (s0 : Int) : Option (Int ⊕ (Int ⊕ Unit)) :=
 if decide (s0 < (a0.AJs.length : Int)) = true then ((idx a0.AJs s0).bind fun x0 => if x0 = true then (some (.inr (.inl s0))) else (some (.inl (wr (s0 + 1))))) else (some (.inr (.inr (()))))
noncomputable def AQz (a0 : Aiw) : Option Int :=
 ((Aot (ANv a0) 0 : Option (Int ⊕ Unit))).bind fun o0 => (match o0 with | .inl p0 => (some p0) | .inr p1 => (some (-1)))
noncomputable def AOn (a0 : Adb) (a2 : List UInt8) (s0 : (List Bool) × (List Aas) × (List Bool) × (List Int) × Int) : Option (((List Bool) × (List Aas) × (List Bool) × (List Int) × Int) ⊕ (((List A1g) × Int × Int) ⊕ ((List Bool) × (List Aas) × (List Bool) × (List Int)))) :=
 if decide (s0.2.2.2.2 ≥ 0) = true then ((AQ2 (⟨s0.1, s0.2.1, s0.2.2.1, s0.2.2.2.1⟩ : Aiw) (⟨a0.Classes, a0.Akq, a0.Fn⟩ : Adb) a2 s0.2.2.2.2).bind fun x0 => if (x0.2.1 != 0) = true then (some (.inr (.inl (([] : List A1g), x0.1, x0.2.1)))) else ((AQz (⟨x0.2.2.Has, x0.2.2.Frame, x0.2.2.AJs, x0.2.2.Taken⟩ : Aiw)).bind fun x1 => some (.inl (x0.2.2.Has, x0.2.2.Frame, x0.2.2.AJs, x0.2.2.Taken, x1)))) else (some (.inr (.inr ((s0.1, s0.2.1, s0.2.2.1, s0.2.2.2.1)))))
noncomputable def APl (a2 : List UInt8) (p0 : (List Bool) × (List Aas) × (List Bool) × (List Int)) (s0 : (List A1g) × Int) : Option (((List A1g) × Int) ⊕ (((List A1g)))) :=
 if decide (s0.2 < (a2.length : Int)) = true then ((idx p0.1 s0.2).bind fun x0 => if x0 = true then ((idx p0.2.1 s0.2).bind fun x1 => (app 2513169434916 s0.1 ([(⟨s0.2, false, (⟨x1.Locals, x1.Height, x1.Slots⟩ : Aas)⟩ : A1g)] : List A1g)).bind fun x2 => some (.inl (x2, wr (s0.2 + 1)))) else (some (.inl (s0.1, wr (s0.2 + 1))))) else (some (.inr s0.1))
noncomputable def ATl (a0 : Adb) (a1 : Int) (a2 : List UInt8) : Option ((List A1g) × Int × Int) :=
 (AP3 (⟨a0.Classes, a0.Akq, a0.Fn⟩ : Adb) a1).bind fun x27 => if (x27 != 0) = true then (some (([] : List A1g), 0, x27)) else (if decide ((a2.length : Int) > 4096) = true then (some (([] : List A1g), 0, 4)) else ((mkO 1 (wr ((a2.length : Int) + 1)) false).bind fun x0 => (mkO 40 (wr ((a2.length : Int) + 1)) (⟨(0 : Int), (0 : Int), (Vector.replicate 24 (0 : UInt8))⟩ : Aas)).bind fun x1 => (mkO 1 (wr ((a2.length : Int) + 1)) false).bind fun x2 => (mkO 8 (wr ((a2.length : Int) + 1)) (0 : Int)).bind fun x3 => (idx a0.Akq a0.Fn).bind fun x4 => (AO2 a0.Classes x4.Ars a1).bind fun x5 => (idx x0 0).bind fun x6 => (idx x1 0).bind fun x7 => (idx x2 0).bind fun x8 => ((Aot (AOn a0 a2) ((x0.set ((0 : Int).toNat) true), (x1.set ((0 : Int).toNat) (⟨x5.1.Locals, x5.1.Height, x5.1.Slots⟩ : Aas)), (x2.set ((0 : Int).toNat) true), x3, 0) : Option (((List A1g) × Int × Int) ⊕ ((List Bool) × (List Aas) × (List Bool) × (List Int))))).bind fun o0 => (match o0 with | .inl p0 => (some p0) | .inr p1 => ((Aot (APl a2 p1) ([], 0)).bind fun o1 => (some (o1, 0, 0))))))
noncomputable def AOw (x0 : A7z) (x1 : (List A1g) × Int × Int) (s0 : (List Ads) × Int × Int) : Option (((List Ads) × Int × Int) ⊕ (((List Ads) × Int))) :=
 if decide (s0.2.2 < (x1.1.length : Int)) = true then ((idx x1.1 s0.2.2).bind fun x2 => (APc x0.Code x2.At).bind fun x3 => (app 4398046511104 s0.1 ([(⟨x3.1.At, x3.1.Op, x3.1.A, x3.1.B⟩ : Ads)] : List Ads)).bind fun x4 => (idx x1.1 s0.2.2).bind fun x5 => if decide (x5.Frame.Height > s0.2.1) = true then ((idx x1.1 s0.2.2).bind fun x6 => some (.inl (x4, x6.Frame.Height, wr (s0.2.2 + 1)))) else (some (.inl (x4, s0.2.1, wr (s0.2.2 + 1))))) else (some (.inr (s0.1, s0.2.1)))
noncomputable def AP2 (a0 : Aha) (a1 : Int) : Option ((List Ads) × Int × Int × Int) :=
 (AVa (⟨a0.Name, a0.Classes, a0.Funcs, a0.AF4⟩ : Aha) a1).bind fun x44 => if (!x44.2) = true then (some (([] : List Ads), 0, 0, 1)) else ((idx a0.Funcs a1).bind fun x0 => (ATl (⟨x44.1.Classes, x44.1.Akq, x44.1.Fn⟩ : Adb) x0.Locals x0.Code).bind fun x1 => if (x1.2.2 != 0) = true then (some (([] : List Ads), 0, x1.2.1, x1.2.2)) else ((Aot (AOw x0 x1) ([], 0, 0)).bind fun o0 => (some (o0.1, o0.2, 0, 0))))
noncomputable def APf (x29 : (List Ads) × Int × Int × Int) (s0 : (List Int) × Int) (s1 : Bool × Int) : Option ((Bool × Int) ⊕ Bool) :=
 if decide (s1.2 < (x29.1.length : Int)) = true then (if s1.1 = true then (some (.inl (true, wr (s1.2 + 1)))) else ((idx x29.1 s1.2).bind fun x0 => if ((x0.Op.toNat : Int) == 21) = true then ((idx x29.1 s1.2).bind fun x1 => some (.inl ((x1.A == s0.2), wr (s1.2 + 1)))) else (some (.inl (false, wr (s1.2 + 1)))))) else (some (.inr s1.1))
noncomputable def APj (a0 : Aha) (x29 : (List Ads) × Int × Int × Int) (s0 : (List Int) × Int) : Option (((List Int) × Int) ⊕ (((List Int)))) :=
 if decide (s0.2 < (a0.Funcs.length : Int)) = true then ((Aot (APf x29 s0) (false, 0)).bind fun o0 => (if o0 = true then ((app 17592186044416 s0.1 ([s0.2] : List Int)).bind fun x0 => some (.inl (x0, wr (s0.2 + 1)))) else (some (.inl (s0.1, wr (s0.2 + 1)))))) else (some (.inr s0.1))
noncomputable def AQ0 (a0 : Aha) (a1 : Int) : Option ((List Int) × Int × Int) :=
 (AP2 (⟨a0.Name, a0.Classes, a0.Funcs, a0.AF4⟩ : Aha) a1).bind fun x29 => if (x29.2.2.2 != 0) = true then (some (([] : List Int), x29.2.2.1, x29.2.2.2)) else ((Aot (APj a0 x29) ([], 0)).bind fun o0 => (some (o0, 0, 0)))
noncomputable def ANh (a0 : List (List Int)) (s0 : (List Bool) × (List Int) × Int) : Option (((List Bool) × (List Int) × Int) ⊕ (((List Bool)))) :=
 if decide (s0.2.2 < (s0.2.1.length : Int)) = true then ((idx s0.2.1 s0.2.2).bind fun x0 => (idx s0.1 x0).bind fun x1 => if x1 = true then (some (.inl (s0.1, s0.2.1, wr (s0.2.2 + 1)))) else ((idx s0.2.1 s0.2.2).bind fun x2 => (idx s0.1 x2).bind fun x3 => (idx s0.2.1 s0.2.2).bind fun x4 => (idx a0 x4).bind fun x5 => (app 17592186044416 s0.2.1 x5).bind fun x6 => some (.inl ((s0.1.set x2.toNat true), x6, wr (s0.2.2 + 1))))) else (some (.inr s0.1))
noncomputable def ARw (a0 : List (List Int)) (a1 : Int) (a2 : Bool) : Option ((List Bool)) :=
 (mkO 1 (a0.length : Int) false).bind fun x14 => (idx a0 a1).bind fun x49 => (app 17592186044416 ([] : List Int) x49).bind fun x60 => (Aot (ANh a0) (x14, x60, 0)).bind fun o0 => (if a2 = true then ((idx o0 a1).bind fun x0 => some (o0.set a1.toNat true)) else (some o0))
noncomputable def AN1 (a0 : Aha) (s0 : (List (List Int)) × Int) : Option (((List (List Int)) × Int) ⊕ (((List Int) × Int × Int) ⊕ ((List (List Int))))) :=
 if decide (s0.2 < (a0.Funcs.length : Int)) = true then ((AQ0 (⟨a0.Name, a0.Classes, a0.Funcs, a0.AF4⟩ : Aha) s0.2).bind fun x0 => if (x0.2.2 != 0) = true then (some (.inr (.inl (([] : List Int), s0.2, x0.2.2)))) else ((app 5864062014805 s0.1 ([x0.1] : List (List Int))).bind fun x1 => some (.inl (x1, wr (s0.2 + 1))))) else (some (.inr (.inr (s0.1))))
noncomputable def AN3 (a0 : Aha) (p0 : (List (List Int))) (s0 : (List Int) × Int) : Option (((List Int) × Int) ⊕ (((List Int)))) :=
 if decide (s0.2 < (a0.Funcs.length : Int)) = true then ((ARw p0 s0.2 false).bind fun x0 => (idx x0 s0.2).bind fun x1 => if x1 = true then ((app 17592186044416 s0.1 ([s0.2] : List Int)).bind fun x2 => some (.inl (x2, wr (s0.2 + 1)))) else (some (.inl (s0.1, wr (s0.2 + 1))))) else (some (.inr s0.1))
noncomputable def AVq (a0 : Aha) : Option ((List Int) × Int × Int) :=
 ((Aot (AN1 a0) ([], 0) : Option (((List Int) × Int × Int) ⊕ ((List (List Int)))))).bind fun o0 => (match o0 with | .inl p0 => (some p0) | .inr p1 => ((Aot (AN3 a0 p1) ([], 0)).bind fun o1 => (some (o1, 0, 0))))
noncomputable def APz (a0 : List Int) (a1 : List Int) (s0 : Int) : Option (Int ⊕ (Bool ⊕ Unit)) :=
 if decide (s0 < (a0.length : Int)) = true then ((idx a0 s0).bind fun x0 => (idx a1 s0).bind fun x1 => if (x0 != x1) = true then (some (.inr (.inl false))) else (some (.inl (wr (s0 + 1))))) else (some (.inr (.inr (()))))
noncomputable def ASn (a0 : List Int) (a1 : List Int) : Option Bool :=
 if ((a0.length : Int) != (a1.length : Int)) = true then (some false) else (((Aot (APz a0 a1) 0 : Option (Bool ⊕ Unit))).bind fun o0 => (match o0 with | .inl p0 => (some p0) | .inr p1 => (some true)))
noncomputable def AM9 (a0 : List Ar2) (a1 : List Ar2) (s0 : Int) : Option (Int ⊕ (Bool ⊕ Unit)) :=
 if decide (s0 < (a0.length : Int)) = true then ((idx a0 s0).bind fun x0 => (idx a1 s0).bind fun x1 => if (!((x0.Name == x1.Name) && ((x0.ASg == x1.ASg) && true))) = true then (some (.inr (.inl false))) else (some (.inl (wr (s0 + 1))))) else (some (.inr (.inr (()))))
noncomputable def AOi (a0 : List Ar2) (a1 : List Ar2) : Option Bool :=
 if ((a0.length : Int) != (a1.length : Int)) = true then (some false) else (((Aot (AM9 a0 a1) 0 : Option (Bool ⊕ Unit))).bind fun o0 => (match o0 with | .inl p0 => (some p0) | .inr p1 => (some true)))
noncomputable def AOr (a0 : List Abi) (a1 : List Abi) (s0 : Int) : Option (Int ⊕ (Bool ⊕ Unit)) :=
 if decide (s0 < (a0.length : Int)) = true then ((idx a0 s0).bind fun x0 => (idx a1 s0).bind fun x1 => if (x0.Name != x1.Name) = true then (some (.inr (.inl false))) else ((idx a0 s0).bind fun x2 => (idx a1 s0).bind fun x3 => if (x2.Ar1 != x3.Ar1) = true then (some (.inr (.inl false))) else ((idx a0 s0).bind fun x4 => (idx a1 s0).bind fun x5 => (AOi x4.Fields x5.Fields).bind fun x6 => if (!x6) = true then (some (.inr (.inl false))) else (some (.inl (wr (s0 + 1))))))) else (some (.inr (.inr (()))))
noncomputable def AQ5 (a0 : List Abi) (a1 : List Abi) : Option Bool :=
 if ((a0.length : Int) != (a1.length : Int)) = true then (some false) else (((Aot (AOr a0 a1) 0 : Option (Bool ⊕ Unit))).bind fun o0 => (match o0 with | .inl p0 => (some p0) | .inr p1 => (some true)))
noncomputable def ANm (a0 : List UInt8) (a1 : List UInt8) (s0 : Int) : Option (Int ⊕ (Bool ⊕ Unit)) :=
 if decide (s0 < (a0.length : Int)) = true then ((idx a0 s0).bind fun x0 => (idx a1 s0).bind fun x1 => if ((x0.toNat : Int) != (x1.toNat : Int)) = true then (some (.inr (.inl false))) else (some (.inl (wr (s0 + 1))))) else (some (.inr (.inr (()))))
noncomputable def AO1 (a0 : List UInt8) (a1 : List UInt8) : Option Bool :=
 if ((a0.length : Int) != (a1.length : Int)) = true then (some false) else (((Aot (ANm a0 a1) 0 : Option (Bool ⊕ Unit))).bind fun o0 => (match o0 with | .inl p0 => (some p0) | .inr p1 => (some true)))
noncomputable def ASp (a0 : Am7) (a1 : Am7) : Option Bool :=
 if ((a0.Result.toNat : Int) == (a1.Result.toNat : Int)) = true then ((AO1 a0.Ars a1.Ars).bind fun x64 => some x64) else (some false)
noncomputable def AO7 (a0 : List UInt8) (a1 : List UInt8) (s0 : Int) : Option (Int ⊕ (Bool ⊕ Unit)) :=
 if decide (s0 < (a0.length : Int)) = true then ((idx a0 s0).bind fun x0 => (idx a1 s0).bind fun x1 => if ((x0.toNat : Int) != (x1.toNat : Int)) = true then (some (.inr (.inl false))) else (some (.inl (wr (s0 + 1))))) else (some (.inr (.inr (()))))
noncomputable def AQj (a0 : List UInt8) (a1 : List UInt8) : Option Bool :=
 if ((a0.length : Int) != (a1.length : Int)) = true then (some false) else (((Aot (AO7 a0 a1) 0 : Option (Bool ⊕ Unit))).bind fun o0 => (match o0 with | .inl p0 => (some p0) | .inr p1 => (some true)))
noncomputable def AR8 (a0 : A7z) (a1 : A7z) : Option Bool :=
 if (a0.Name == a1.Name) = true then ((ASp (⟨a0.Sig.Ars, a0.Sig.Result⟩ : Am7) (⟨a1.Sig.Ars, a1.Sig.Result⟩ : Am7)).bind fun x95 => if x95 = true then (if (a0.Locals == a1.Locals) = true then ((AQj a0.Code a1.Code).bind fun x0 => some x0) else (some false)) else (some false)) else (some false)
noncomputable def AOy (a0 : Aha) (a1 : Aha) (s0 : Int) : Option (Int ⊕ (Bool ⊕ Unit)) :=
 if decide (s0 < (a0.Funcs.length : Int)) = true then ((idx a0.Funcs s0).bind fun x0 => (idx a1.Funcs s0).bind fun x1 => (AR8 x0 x1).bind fun x2 => if (!x2) = true then (some (.inr (.inl false))) else (some (.inl (wr (s0 + 1))))) else (some (.inr (.inr (()))))
noncomputable def AOz (a0 : Aha) (a1 : Aha) (s0 : Int) : Option (Int ⊕ (Bool ⊕ Unit)) :=
 if decide (s0 < (a0.AF4.length : Int)) = true then ((idx a0.AF4 s0).bind fun x0 => (idx a1.AF4 s0).bind fun x1 => (AQj x0 x1).bind fun x2 => if (!x2) = true then (some (.inr (.inl false))) else (some (.inl (wr (s0 + 1))))) else (some (.inr (.inr (()))))
noncomputable def ARh (a0 : Aha) (a1 : Aha) : Option Bool :=
 if (a0.Name != a1.Name) = true then (some false) else ((AQ5 a0.Classes a1.Classes).bind fun x0 => if (!x0) = true then (some false) else (if ((a0.Funcs.length : Int) != (a1.Funcs.length : Int)) = true then (some false) else (if ((a0.AF4.length : Int) != (a1.AF4.length : Int)) = true then (some false) else (((Aot (AOy a0 a1) 0 : Option (Bool ⊕ Unit))).bind fun o0 => (match o0 with | .inl p0 => (some p0) | .inr p1 => (((Aot (AOz a0 a1) 0 : Option (Bool ⊕ Unit))).bind fun o1 => (match o1 with | .inl p2 => (some p2) | .inr p3 => (some true))))))))
noncomputable def APy (a0 : Aha) : Option Bool :=
 (AS5 (⟨a0.Name, a0.Classes, a0.Funcs, a0.AF4⟩ : Aha)).bind fun x42 => (Bbu (⟨x42.Name, x42.Classes, x42.Funcs, x42.AF4⟩ : Aha)).bind fun x82 => (AVq (⟨a0.Name, a0.Classes, a0.Funcs, a0.AF4⟩ : Aha)).bind fun x0 => (ASn x82.1 x0.1).bind fun x1 => if x1 = true then (if (x82.2.1 == x0.2.1) = true then (if (x82.2.2 == x0.2.2) = true then ((ARh (⟨x42.Name, x42.Classes, x42.Funcs, x42.AF4⟩ : Aha) (⟨a0.Name, a0.Classes, a0.Funcs, a0.AF4⟩ : Aha)).bind fun x2 => some x2) else (some false)) else (some false)) else (some false)
end Go.Proofs.YtfcpkcehecmcpaaGreat
namespace Go.Proofs.YtfcpkcehecmcpaaGreat
open Go Go.RowKit Go.Pv
def Bp7 (f : A7z) : Prop := f.Sig.Ars.length ≤ big ∧ f.Code.length ≤ big
theorem Bt9 (l : List UInt8) (h : l.length ≤ big) : AQf l = some l := by
 unfold AQf
 rw [AL0 (by simp only [big] at h; simp; omega)]; simp
theorem Buu (l : List UInt8) (h : l.length ≤ big) : ANz l = some l := by
 unfold ANz
 rw [AL0 (by simp only [big] at h; simp; omega)]; simp
theorem Bzc (s : Am7) (h : s.Ars.length ≤ big) : AU6 s = some s := by
 unfold AU6
 rw [Buu _ h]; rfl
theorem Bxq (f : A7z) (h : Bp7 f) : AUb f = some f := by
 unfold AUb
 rw [show (⟨f.Sig.Ars, f.Sig.Result⟩ : Am7) = f.Sig from rfl, Bzc _ h.1, B2r, Bt9 _ h.2, B2r]
theorem eqB (l : List UInt8) (h : l.length ≤ big) : AQj l l = some true := by
 simp only [big] at h
 unfold AQj
 rw [Hw (by simp), AVz l (r := .inr ()) (fun i hi => by
  unfold AO7
  rw [Mo (by simpa using hi), Ayt hi, B2r, B2r, Hw (by simp), wr1 (by omega)]) (by unfold AO7; simp)]
 rfl
theorem eqT (l : List UInt8) (h : l.length ≤ big) : AO1 l l = some true := by
 simp only [big] at h
 unfold AO1
 rw [Hw (by simp), AVz l (r := .inr ()) (fun i hi => by
  unfold ANm
  rw [Mo (by simpa using hi), Ayt hi, B2r, B2r, Hw (by simp), wr1 (by omega)]) (by unfold ANm; simp)]
 rfl
theorem Bzo (s : Am7) (h : s.Ars.length ≤ big) : ASp s s = some true := by
 unfold ASp
 rw [Mo (by simp), eqT _ h]; rfl
theorem Byg (f : A7z) (h : Bp7 f) : AR8 f f = some true := by
 unfold AR8
 rw [Mo (by simp), show (⟨f.Sig.Ars, f.Sig.Result⟩ : Am7) = f.Sig from rfl, Bzo _ h.1, B2r, Mo (by simp), Mo (by simp), eqB _ h.2]; rfl
theorem Bnu (op : UInt8) : AXj op = AQk op := by
 unfold AXj AQk
 simp only [Bdm, or_some, B2r]
 generalize (op.toNat : Int) = n
 cases h2 : (n == 2) <;> cases h4 : (n == 4) <;> cases h5 : (n == 5) <;> simp only [Bool.false_or, Bool.true_or, Bool.or_true, Bool.false_eq_true, if_false, if_true]
theorem size_eq (op : UInt8) : AVx op = AOs op := by
 unfold AVx AOs
 rw [Bnu]
def wid (op : UInt8) : Nat × Nat :=
 if op.toNat = 1 then (4, 0) else if op.toNat = 19 ∨ op.toNat = 20 then (2, 0) else if op.toNat = 24 ∨ op.toNat = 25 then (1, 1) else
 if op.toNat = 2 ∨ op.toNat = 4 ∨ op.toNat = 5 ∨ op.toNat = 21 ∨ op.toNat = 23 ∨ op.toNat = 30 ∨ op.toNat = 31 ∨ op.toNat = 32 then (1, 0) else (0, 0)
theorem ABn (a b : Nat) : ((a : Int) == (b : Int)) = decide (a = b) := by
 rw [B3a, Agq, decide_eq_true_iff, Int.natCast_inj]
theorem Bjz (op : UInt8) : AQk op = some (((wid op).1 : Int), ((wid op).2 : Int)) := by
 unfold AQk wid
 simp only [Bdm, or_some, B2r]
 generalize op.toNat = n
 have e1 : ((n : Int) == 1) = decide (n = 1) := ABn n 1
 have e2 : ((n : Int) == 2) = decide (n = 2) := ABn n 2
 have e4 : ((n : Int) == 4) = decide (n = 4) := ABn n 4
 have e5 : ((n : Int) == 5) = decide (n = 5) := ABn n 5
 have e19 : ((n : Int) == 19) = decide (n = 19) := ABn n 19
 have e20 : ((n : Int) == 20) = decide (n = 20) := ABn n 20
 have e21 : ((n : Int) == 21) = decide (n = 21) := ABn n 21
 have e23 : ((n : Int) == 23) = decide (n = 23) := ABn n 23
 have e24 : ((n : Int) == 24) = decide (n = 24) := ABn n 24
 have e25 : ((n : Int) == 25) = decide (n = 25) := ABn n 25
 have e30 : ((n : Int) == 30) = decide (n = 30) := ABn n 30
 have e31 : ((n : Int) == 31) = decide (n = 31) := ABn n 31
 have e32 : ((n : Int) == 32) = decide (n = 32) := ABn n 32
 rw [e1, e2, e4, e5, e19, e20, e21, e23, e24, e25, e30, e31, e32]
 simp only [← Bool.decide_or, LX]
 split
 ·rfl
 ·split
  ·rfl
  ·split
   ·rfl
   ·split <;> rfl
theorem Bhi (op : UInt8) : (wid op).1 ≤ 4 ∧ (wid op).2 ≤ 1 := by
 unfold wid
 repeat' split
 all_goals simp
def siz (op : UInt8) : Nat := if 34 ≤ op.toNat then 0 else 1 + (wid op).1 + (wid op).2
theorem AU1 (op : UInt8) : AOs op = some (siz op : Int) := by
 have := Bhi op
 unfold AOs siz
 rw [Bjz]
 by_cases h : 34 ≤ op.toNat
 ·rw [Mo (by simp; omega), Mo h]; rfl
 ·rw [Hw (by simp; omega), Hw h, B2r]
  dsimp only
  rw [ANa (n := 1 + ((wid op).1 : Int)) (by omega) (by omega), ANa (by omega) (by omega)]
  congr 1
def num (l : List UInt8) : Nat := l.foldl (fun n b => 256 * n + b.toNat) 0
theorem Blc : ∀ (l : List UInt8), num l < 256 ^ l.length := by
 have key : ∀ (l : List UInt8) (n k : Nat), n < 256 ^ k → l.foldl (fun n b => 256 * n + b.toNat) n < 256 ^ (k + l.length) := by
  intro l
  induction l with
  | nil => intro n k h; simpa using h
  | cons b l ih =>
   intro n k h
   have hb := b.toNat_lt
   have := ih (256 * n + b.toNat) (k + 1) (by rw [Nat.pow_succ]; omega)
   rw [List.foldl_cons, List.length_cons, show k + (l.length + 1) = k + 1 + l.length by omega]
   exact this
 intro l
 have := key l 0 0 (by simp)
 simpa [num] using this
theorem Bq2 (l : List UInt8) (b : UInt8) : num (l ++ [b]) = 256 * num l + b.toNat := by simp [num]
theorem Bzz {n : Nat} (b : UInt8) (h : n < 16777216) : bOr .i64 (Bq3 .i64 (n : Int) 8) (b.toNat : Int) = ((256 * n + b.toNat : Nat) : Int) := by
 have hb := b.toNat_lt
 have e0 : Bq3 .i64 (n : Int) 8 = ((256 * n : Nat) : Int) := by
  unfold Bq3
  rw [show min ((8 : Int)).toNat IntKind.i64.bits = 8 from rfl, IntKind.wrap_i64]
  omega
 rw [e0]
 unfold bOr
 have e1 : IntKind.i64.bits = 64 := rfl
 rw [e1]
 have ea : BitVec.ofInt 64 ((256 * n : Nat) : Int) = BitVec.ofNat 64 (256 * n) := by apply BitVec.eq_of_toNat_eq; simp <;> omega
 have eb : BitVec.ofInt 64 ((b.toNat : Nat) : Int) = BitVec.ofNat 64 b.toNat := by apply BitVec.eq_of_toNat_eq; simp <;> omega
 have e2 : 256 * n ||| b.toNat = 256 * n + b.toNat := by
  have h3 := Nat.two_pow_add_eq_or_of_lt (i := 8) (b := b.toNat) (by omega) n
  rw [show (2 : Nat) ^ 8 = 256 from rfl] at h3
  exact h3.symm
 rw [ea, eb, BitVec.toNat_or, BitVec.toNat_ofNat, BitVec.toNat_ofNat, Nat.mod_eq_of_lt (by omega), Nat.mod_eq_of_lt (by omega), e2, IntKind.wrap_i64]
 omega
def sgn (w : Nat) (n : Nat) : Int := if w = 4 ∧ 2147483647 < n then (n : Int) - 4294967296 else n
theorem Bnn (l : List UInt8) (w : Nat) (hw : w ≤ l.length) (h4 : w ≤ 4) (hl : l.length ≤ big) : ATu (w : Int) l = some (sgn w (num (l.take w)), l.drop w) := by
 simp only [big] at hl
 unfold ATu
 rw [Bal (by omega), B2r]
 simp only [B27, Int.toNat_zero, List.drop_zero]
 have hlen : (l.take w).length = w := by simp; omega
 generalize hM : l.take w = M at *
 rw [ATa w (body := AQ6 M) (fun i => ((num (M.take i) : Int), (i : Int))) (r := (num M : Int)) (fun i hi => by
  unfold AQ6
  dsimp only
  have hi' : i < M.length := by omega
  have hn := Blc (M.take i)
  have hp : (M.take i).length ≤ 3 := by simp; omega
  have hp2 : 256 ^ (M.take i).length ≤ 256 ^ 3 := Nat.pow_le_pow_right (by decide) hp
  rw [Mo (by simpa using hi'), Ayt hi', B2r, Bzz _ (by omega), wr1 (by omega), List.take_add_one, B2u hi', Option.toList_some, Bq2]) (by
  unfold AQ6
  dsimp only
  rw [Hw (by simp; omega), ← hlen, B26]) (s0 := (0, 0)) (by simp [num]), B2r, Bal (by omega), B2r]
 have e : ((l.take (l.length : Int).toNat).drop (w : Int).toNat) = l.drop w := by simp
 rw [e]
 unfold sgn
 have hn := Blc M
 by_cases hw4 : w = 4
 ·subst hw4
  rw [Mo (by simp)]
  rw [hlen] at hn
  congr 2
  have e32 : IntKind.i32.wrap (num M : Int) = if 2147483647 < num M then (num M : Int) - 4294967296 else num M := by
   rw [IntKind.wrap_i32]
   split <;> omega
  rw [e32]
  split
  ·rw [Mo (by omega), ANa] <;> omega
  ·rw [Hw (by omega), ANa] <;> omega
 ·rw [Hw (by simp; omega), Hw (by omega)]
theorem Bqu (l : List UInt8) (w : Nat) (hw : w ≤ l.length) (h4 : w ≤ 4) (hl : l.length ≤ big) : ASs l (w : Int) = some (sgn w (num (l.take w))) := by
 simp only [big] at hl
 unfold ASs
 have hlen : (l.take w).length = w := by simp; omega
 rw [ATa w (body := AP1 l (w : Int)) (fun i => ((num (l.take i) : Int), (i : Int))) (r := (num (l.take w) : Int)) (fun i hi => by
  unfold AP1
  dsimp only
  have hi' : i < l.length := by omega
  have hn := Blc (l.take i)
  have hp : (l.take i).length ≤ 3 := by simp; omega
  have hp2 : 256 ^ (l.take i).length ≤ 256 ^ 3 := Nat.pow_le_pow_right (by decide) hp
  have hb := l[i].toNat_lt
  rw [Mo (by simpa using hi), Ayt hi', B2r, wr1 (by omega), List.take_add_one, B2u hi', Option.toList_some, Bq2, ANa (n := 256 * (num (l.take i) : Int)) (by omega) (by omega), ANa (by omega) (by omega)]
  congr 4) (by
  unfold AP1
  dsimp only
  rw [Hw (by simp)]) (s0 := (0, 0)) (by simp [num]), B2r]
 unfold sgn
 have hn := Blc (l.take w)
 rw [hlen] at hn
 by_cases hw4 : w = 4
 ·subst hw4
  rw [Mo (by simp)]
  by_cases h : 2147483647 < num (l.take 4)
  ·rw [Mo (by simp; omega), Mo ⟨rfl, h⟩, ANa] <;> omega
  ·rw [Hw (by simp; omega), Hw (by omega)]
 ·rw [Hw (by simp; omega), Hw (by omega)]
def dec (b : List UInt8) (at_ : Nat) (op : UInt8) : Ads × Int :=
 if siz op = 0 then (⟨0, 0, 0, 0⟩, 40) else if b.length < at_ + siz op then (⟨0, 0, 0, 0⟩, 2) else
  let A := sgn (wid op).1 (num ((b.drop (at_ + 1)).take (wid op).1))
  let B := sgn (wid op).2 (num ((b.drop (at_ + 1 + (wid op).1)).take (wid op).2))
  if op.toNat = 2 ∧ 1 < A then (⟨0, 0, 0, 0⟩, 5) else (⟨at_, op, A, B⟩, 0)
theorem Bzk (b : List UInt8) (hl : b.length ≤ big) (i : Nat) (hi : i < b.length) : APc b (i : Int) = some (dec b i b[i]) := by
 simp only [big] at hl
 have hw := Bhi b[i]
 unfold APc dec
 rw [Hw (by simp), Hw (by simp; omega), Hw (by simp; omega), Ayt hi, B2r, AU1, B2r]
 generalize b[i] = op at hw
 by_cases h0 : siz op = 0
 ·rw [Mo (by simp [h0]), Mo h0]
 ·have hs : siz op = 1 + (wid op).1 + (wid op).2 := by
   unfold siz at h0 ⊢
   split
   ·rename_i h; rw [Mo h] at h0; exact absurd rfl h0
   ·rfl
  rw [Hw (by simp; omega), Hw h0, ANa (by omega) (by omega)]
  by_cases h1 : b.length < i + siz op
  ·rw [Mo (by simp; omega), Mo h1]
  ·rw [Hw (by simp; omega), Hw h1, Bjz, B2r]
   dsimp only
   rw [wr1 (by omega), Bal (by omega), B2r]
   have e1 : ((b.take (b.length : Int).toNat).drop ((i + 1 : Nat) : Int).toNat) = b.drop (i + 1) := by simp
   rw [e1, Bqu _ _ (by simp; omega) (by omega) (by simp only [big, List.length_drop]; omega), B2r, ANa (n := ((i + 1 : Nat) : Int) + ((wid op).1 : Int)) (by omega) (by omega), show ((i + 1 : Nat) : Int) + ((wid op).1 : Int) = ((i + 1 + (wid op).1 : Nat) : Int) by omega, Bal (by omega), B2r]
   have e2 : ((b.take (b.length : Int).toNat).drop ((i + 1 + (wid op).1 : Nat) : Int).toNat) = b.drop (i + 1 + (wid op).1) := by rw [B27, B27, B26]
   rw [e2, Bqu _ _ (by simp; omega) (by omega) (by simp only [big, List.length_drop]; omega), B2r]
   by_cases h2 : op.toNat = 2
   ·rw [Mo (by simp [h2])]
    by_cases h3 : 1 < sgn (wid op).1 (num ((b.drop (i + 1)).take (wid op).1))
    ·rw [Mo (by simp; omega), Mo ⟨h2, h3⟩]
    ·rw [Hw (by simp; omega), Hw (by omega)]
   ·rw [Hw (by simp; omega), Hw (by omega)]
theorem Bya (b : List UInt8) (hl : b.length ≤ big) (i : Nat) (hi : i < b.length) : AUn b (i : Int) = some (dec b i b[i]) := by
 simp only [big] at hl
 have hw := Bhi b[i]
 unfold AUn dec
 rw [Hw (by simp), Hw (by simp; omega), Hw (by simp; omega), Ayt hi, B2r, size_eq, AU1, B2r]
 generalize b[i] = op at hw
 by_cases h0 : siz op = 0
 ·rw [Mo (by simp [h0]), Mo h0]
 ·have hs : siz op = 1 + (wid op).1 + (wid op).2 := by
   unfold siz at h0 ⊢
   split
   ·rename_i h; rw [Mo h] at h0; exact absurd rfl h0
   ·rfl
  rw [Hw (by simp; omega), Hw h0, B2r, size_eq, AU1, B2r, ANa (by omega) (by omega)]
  by_cases h1 : b.length < i + siz op
  ·rw [Mo (by simp; omega), Mo h1]
  ·rw [Hw (by simp; omega), Hw h1, B2r, wr1 (by omega), Bal (by omega), B2r]
   have e1 : ((b.take (b.length : Int).toNat).drop ((i + 1 : Nat) : Int).toNat) = b.drop (i + 1) := by simp
   rw [e1, Bnu, Bjz, B2r]
   dsimp only
   rw [Bnn _ _ (by simp; omega) (by omega) (by simp only [big, List.length_drop]; omega), B2r]
   dsimp only
   rw [List.drop_drop, show i + 1 + (wid op).1 = i + 1 + (wid op).1 from rfl, Bnn _ _ (by simp; omega) (by omega) (by simp only [big, List.length_drop]; omega), B2r]
   dsimp only
   by_cases h2 : op.toNat = 2
   ·rw [Mo (by simp [h2])]
    by_cases h3 : 1 < sgn (wid op).1 (num ((b.drop (i + 1)).take (wid op).1))
    ·rw [Mo (by simp; omega), Mo ⟨h2, h3⟩]
    ·rw [Hw (by simp; omega), Hw (by omega)]
   ·rw [Hw (by simp; omega), Hw (by omega)]
end Go.Proofs.YtfcpkcehecmcpaaGreat
namespace Go.Proofs.YtfcpkcehecmcpaaGreat
open Go Go.RowKit Go.Pv
theorem ASv {R : Type} (n : Nat) {body : Int → Option (Int ⊕ R)} (P : Nat → Option R) {r0 : R} (hs : ∀ i, i < n → body (i : Int) = match P i with | some r => some (.inr r) | none => some (.inl ((i + 1 : Nat) : Int))) (he : body (n : Int) = some (.inr r0)) :
  Aot body 0 = some (((List.range n).findSome? P).getD r0) := by
 have key : ∀ k i, i + k = n → Aot body (i : Int) = some (((List.range' i k).findSome? P).getD r0) := by
  intro k
  induction k with
  | zero => intro i hi; have : i = n := by omega
            subst this; rw [Awv he]; rfl
  | succ k ih =>
   intro i hi
   have h1 := hs i (by omega)
   rw [List.range'_succ, List.findSome?_cons]
   rcases hp : P i with _ | r
   ·rw [hp] at h1; rw [AGm h1]; exact ih (i + 1) (by omega)
   ·rw [hp] at h1; rw [Awv h1]; rfl
 have := key n 0 (by omega)
 rw [List.range_eq_range']
 exact this
theorem Bi3 {n : Nat} (h : n < 256) : (AQt (n : Int)).toNat = n := by have := Bcx n; omega
theorem Bcu (t : UInt8) (h : 16 ≤ t.toNat) : (AQt ((t.toNat : Int) - 16)).toNat = t.toNat - 16 := by
 have := Bcx ((t.toNat : Int) - 16); have := t.toNat_lt; omega
def cls (l : List Abi) (t : UInt8) : Int := if 16 ≤ t.toNat ∧ t.toNat - 16 < l.length then ((t.toNat - 16 : Nat) : Int) else -1
def tv (l : List Abi) (t : UInt8) : Bool := decide (t.toNat ≤ 5) || (decide (16 ≤ t.toNat) && decide (t.toNat - 16 < l.length))
def st (l : List Abi) (t : UInt8) : Bool := tv l t && (t.toNat != 0 && t.toNat != 3)
theorem Bac (l : List Abi) (t : UInt8) : ASi l t = some (cls l t) := by
 unfold ASi cls
 by_cases h : 16 ≤ t.toNat
 ·rw [Hw (by simp; omega), Bcu t h]
  by_cases h2 : t.toNat - 16 < l.length
  ·rw [Hw (by simp; omega), Mo ⟨h, h2⟩]
  ·rw [Mo (by simp; omega), Hw (by omega)]
 ·rw [Mo (by simp; omega), Hw (by omega)]
theorem Bmb (l : List Abi) (t : UInt8) : decide (cls l t ≥ 0) = (decide (16 ≤ t.toNat) && decide (t.toNat - 16 < l.length)) := by
 unfold cls
 by_cases h : 16 ≤ t.toNat ∧ t.toNat - 16 < l.length
 ·rw [Mo h]; simp [h.1, h.2]
 ·rw [Hw h]
  simp only [ge_iff_le, show ¬ ((0 : Int) ≤ -1) by omega, decide_false]
  rcases Nat.lt_or_ge t.toNat 16 with h1 | h1
  ·simp; omega
  ·have : ¬ (t.toNat - 16 < l.length) := fun h2 => h ⟨h1, h2⟩
   simp [this]
theorem AWz (l : List Abi) (t : UInt8) : ARa l t = some (tv l t) := by
 unfold ARa tv
 rw [Bac, B2r, Bmb]
 by_cases h : t.toNat ≤ 5
 ·rw [Mo (by simp; omega)]; simp [h]
 ·rw [Hw (by simp; omega)]; simp [h]
theorem AX5 (l : List Abi) (t : UInt8) : ANw l t = some (tv l t) := by
 unfold ANw tv
 by_cases h : t.toNat ≤ 5
 ·rw [Mo (by simp; omega)]; simp [h]
 ·rw [Hw (by simp; omega)]
  by_cases h2 : 16 ≤ t.toNat
  ·rw [Mo (by simp; omega), Bcu t h2]
   simp only [h, h2, decide_false, decide_true, Bool.false_or, Bool.true_and, Option.some.injEq, Int.ofNat_lt]
  ·rw [Hw (by simp; omega)]; simp [h, h2]
theorem Bys (t : UInt8) (k : Nat) : ((t.toNat : Int) != (k : Int)) = (t.toNat != k) := by
 rw [B3a, Ale, Ale]; omega
theorem Bff (l : List Abi) (t : UInt8) : (if tv l t = true then (if ((t.toNat : Int) != 0) = true then some ((t.toNat : Int) != 3) else some false) else some false) = some (st l t) := by
 unfold st
 rw [show ((t.toNat : Int) != 0) = (t.toNat != 0) from Bys t 0, show ((t.toNat : Int) != 3) = (t.toNat != 3) from Bys t 3]
 cases tv l t <;> cases (t.toNat != 0) <;> rfl
theorem Br3 (l : List Abi) (t : UInt8) : AYk l t = some (st l t) := by
 unfold AYk
 rw [AWz, B2r, Bff]
theorem Bej (l : List Abi) (t : UInt8) : AQo l t = some (st l t) := by
 unfold AQo
 rw [AX5, B2r, Bff]
theorem Bjl (l : List Abi) (t : UInt8) : AS1 l t = some (st l t) := by
 unfold AS1
 rw [AX5, B2r, Bff]
theorem Bbv (l : List Abi) (t : UInt8) : ARu l t = some (st l t) := by
 unfold ARu
 rw [AX5, B2r, Bff]
theorem Bgs (e : Adb) (t : UInt8) : ARb t e = some (st e.Classes t) := by
 unfold ARb
 rw [AWz, B2r, Bff]
theorem Br6 (e : Adb) (t : UInt8) : AVk t e = some (!st e.Classes t) := by
 unfold AVk
 rw [Br3, B2r]
theorem Brx (l : List Abi) (t : UInt8) : AYs l t = some (st l t) := by
 unfold AYs
 rw [Bac, B2r, Bmb]
 have e1 : ((t.toNat : Int) == 1) = decide (t.toNat = 1) := ABn _ 1
 have e2 : ((t.toNat : Int) == 2) = decide (t.toNat = 2) := ABn _ 2
 have e4 : ((t.toNat : Int) == 4) = decide (t.toNat = 4) := ABn _ 4
 have e5 : ((t.toNat : Int) == 5) = decide (t.toNat = 5) := ABn _ 5
 rw [e1, e2, e4, e5]
 unfold st tv
 simp only [LX]
 have hb : ∀ k, (t.toNat != k) = !decide (t.toNat = k) := fun k => by rw [B3a]; simp
 rw [hb, hb]
 split
 ·rename_i h; simp [h]
 ·split
  ·rename_i h; simp [h]
  ·split
   ·rename_i h; simp [h]
   ·split
    ·rename_i h; simp [h]
    ·rename_i h1 h2 h3 h4
     congr 1
     by_cases h0 : t.toNat = 0
     ·simp [h0]
     ·by_cases h5 : t.toNat = 3
      ·simp [h5]
      ·have : ¬ (t.toNat ≤ 5) := by omega
       simp [h0, h5, this]
def rf (t : UInt8) : Bool := decide (t.toNat = 3) || (decide (t.toNat = 4) || (decide (t.toNat = 5) || decide (16 ≤ t.toNat)))
theorem Byw (t : UInt8) : (if ((t.toNat : Int) == 3) = true then some true else if ((t.toNat : Int) == 4) = true then some true else if ((t.toNat : Int) == 5) = true then some true else some (decide ((t.toNat : Int) ≥ 16))) = some (rf t) := by
 have e3 : ((t.toNat : Int) == 3) = decide (t.toNat = 3) := ABn _ 3
 have e4 : ((t.toNat : Int) == 4) = decide (t.toNat = 4) := ABn _ 4
 have e5 : ((t.toNat : Int) == 5) = decide (t.toNat = 5) := ABn _ 5
 rw [e3, e4, e5, Bdm, Bdm, Bdm]
 unfold rf
 congr 4
 rw [B3a]; simp; omega
theorem Bb4 (t : UInt8) : AR3 t = some (rf t) := by unfold AR3; exact Byw t
theorem Bhb (t : UInt8) : APt t = some (rf t) := by unfold APt; exact Byw t
def letter (x : UInt8) : Bool := (decide (97 ≤ x.toNat) && decide (x.toNat ≤ 122)) || (decide (65 ≤ x.toNat) && decide (x.toNat ≤ 90))
def inner (x : UInt8) : Bool := (decide (48 ≤ x.toNat) && decide (x.toNat ≤ 57)) || decide (x.toNat = 95)
def Bi9 (l : List UInt8) (i : Nat) : Option Bool := match l[i]? with
 | some x => if letter x = true then none else if (decide (0 < i) && inner x) = true then none else some false
 | none => none
def Bbz (l : List UInt8) : Bool := decide (1 ≤ l.length) && decide (l.length ≤ 24) && ((List.range l.length).findSome? (Bi9 l)).isNone
theorem Bob (x : UInt8) : (if decide ((x.toNat : Int) ≥ 97) = true then (if decide ((x.toNat : Int) ≤ 122) = true then (some true) else (if decide ((x.toNat : Int) ≥ 65) = true then (some (decide ((x.toNat : Int) ≤ 90))) else (some false))) else (if decide ((x.toNat : Int) ≥ 65) = true then (some (decide ((x.toNat : Int) ≤ 90))) else (some false))) = some (letter x) := by
 unfold letter
 by_cases h1 : 97 ≤ x.toNat
 ·rw [Mo (by simp; omega)]
  by_cases h2 : x.toNat ≤ 122
  ·rw [Mo (by simp; omega)]; simp [h1, h2]
  ·rw [Hw (by simp; omega), Mo (by simp; omega)]
   have : ¬ (x.toNat ≤ 90) := by omega
   simp [h1, h2, this]; omega
 ·rw [Hw (by simp; omega)]
  by_cases h2 : 65 ≤ x.toNat
  ·rw [Mo (by simp; omega)]; simp [h1, h2]; omega
  ·rw [Hw (by simp; omega)]; simp [h1, h2]
theorem Brr {l : List UInt8} (i : Nat) (b : Bool) (h : Bi9 l i = some b) : b = false := by
 unfold Bi9 at h
 split at h
 ·split at h
  ·cases h
  ·split at h
   ·cases h
   ·cases h; rfl
 ·cases h
theorem AV7 {R S : Type} (n : Nat) (P : Nat → Option R) (f : R → S) : (List.range n).findSome? (fun i => (P i).map f) = ((List.range n).findSome? P).map f := by
 induction (List.range n) with
 | nil => rfl
 | cons x l ih => simp only [List.findSome?_cons]; rcases P x with _ | r <;> simp [ih]
theorem Bue (x : UInt8) : inner x = true ↔ (48 ≤ (x.toNat : Int) ∧ (x.toNat : Int) ≤ 57) ∨ (x.toNat : Int) = 95 := by
 unfold inner
 simp only [B3b, B29, LX]
 omega
theorem Bga (l : List UInt8) : AV6 l = some (Bbz l) := by
 unfold AV6 Bbz
 by_cases h0 : l.length = 0
 ·rw [Mo (by simp [h0])]; simp [h0]
 ·have h0' : ¬ (((l.length : Int) == 0) = true) := by rw [Agq]; omega
  rw [Hw h0']
  by_cases h1 : l.length ≤ 24
  ·rw [Hw (by rw [LX]; omega)]
   have hl := ASv (R := Bool ⊕ Unit) l.length (body := ARd l) (fun i => (Bi9 l i).map .inl) (r0 := .inr ()) (fun i hi => by
    unfold ARd
    rw [Mo (by rw [LX]; omega), Ayt hi, B2r, Bob, B2r, wr1 (by omega)]
    have hx : l[i]? = some l[i] := B2u hi
    unfold Bi9
    rw [hx]
    dsimp only
    generalize l[i] = x
    have hin := Bue x
    rcases hl : letter x with _ | _
    ·simp only [Bool.false_eq_true, if_false]
     by_cases hc : (decide (0 < i) && inner x) = true
     ·rw [Mo hc]
      rw [B29, LX] at hc
      have h1 := hin.1 hc.2
      simp only [LX, Agq, Option.map_none]
      repeat' split
      all_goals first | rfl | (exfalso; omega)
     ·rw [Hw hc]
      rw [B29, LX] at hc
      have h1 : ¬ (0 < i ∧ ((48 ≤ (x.toNat : Int) ∧ (x.toNat : Int) ≤ 57) ∨ (x.toNat : Int) = 95)) := fun h => hc ⟨h.1, hin.2 h.2⟩
      simp only [LX, Agq, B2s]
      repeat' split
      all_goals first | rfl | (exfalso; omega)
    ·rfl) (by
    unfold ARd
    rw [Hw (by rw [LX]; omega)])
   rw [hl, B2r, AV7]
   have a1 : 1 ≤ l.length := by omega
   rcases hf : (List.range l.length).findSome? (Bi9 l) with _ | b
   ·simp [a1, h1]
   ·obtain ⟨i, _, hi⟩ := List.exists_of_findSome?_eq_some hf
    rw [Brr i b hi]; simp
  ·rw [Mo (by rw [LX]; omega)]; simp [h1]
theorem Blr (l : List UInt8) : ARs l = some (Bbz l) := by
 rw [← Bga]
 unfold ARs AV6
 by_cases h0 : l.length = 0
 ·rw [Mo (by rw [LX]; omega), Mo (by rw [Agq]; omega)]
 ·rw [Hw (c := decide ((l.length : Int) < 1) = true) (by rw [LX]; omega), Hw (c := ((l.length : Int) == 0) = true) (by rw [Agq]; omega)]
  have e : AQi l = ARd l := by
   funext s
   unfold AQi ARd
   by_cases hs : s < (l.length : Int)
   ·rw [Mo (by simpa using hs), Mo (by simpa using hs)]
    rcases hx : idx l s with _ | x
    ·rfl
    ·simp only [B2r, Bob]
     have hs0 := (AYj hx).1
     rcases letter x with _ | _
     ·simp only [Bool.false_eq_true, if_false, Bool.not_false, if_true, LX, Agq, Ale]
      repeat' split
      all_goals first | rfl | (exfalso; omega)
     ·rfl
   ·rw [Hw (by simpa using hs), Hw (by simpa using hs)]
  rw [e]
end Go.Proofs.YtfcpkcehecmcpaaGreat
namespace Go.Proofs.YtfcpkcehecmcpaaGreat
open Go Go.RowKit Go.Pv
def AXq {α : Type} (l : List α) (p : α → Bool) (i : Nat) : Option Int := match l[i]? with
 | some x => if p x = true then some (i : Int) else none
 | none => none
theorem Baf {α : Type} {l : List α} {p : α → Bool} {i : Nat} (h : i < l.length) : AXq l p i = if p l[i] = true then some (i : Int) else none := by
 unfold AXq
 rw [B2u h]
theorem Bdp {α : Type} (l : List α) (p : α → Bool) : (List.range l.length).findSome? (AXq l p) = none ↔ l.any p = false := by
 rw [B25, List.any_eq_false]
 constructor
 ·intro h x hx
  obtain ⟨i, hi, rfl⟩ := List.mem_iff_getElem.1 hx
  have := h i (List.mem_range.2 hi)
  rw [Baf hi] at this
  intro hp
  rw [Mo hp] at this
  cases this
 ·intro h i hi
  rw [Baf (List.mem_range.1 hi), Hw (h _ (B21 _))]
theorem Ba7 {α : Type} (l : List α) (p : α → Bool) {body : Int → Option (Int ⊕ (Int ⊕ Unit))} (hs : ∀ i (h : i < l.length), body (i : Int) = if p l[i] = true then some (.inr (.inl (i : Int))) else some (.inl ((i + 1 : Nat) : Int))) (he : body (l.length : Int) = some (.inr (.inr ()))) :
  ∃ r, ((Aot body 0).bind fun o => match o with | .inl p => some p | .inr _ => some (-1)) = some r ∧ decide (r ≥ 0) = l.any p ∧ (0 ≤ r → ∃ i : Nat, r = i ∧ i < l.length ∧ ∀ h : i < l.length, p l[i] = true) := by
 have hl := ASv l.length (body := body) (fun i => (AXq l p i).map .inl) (r0 := .inr ()) (fun i hi => by
  rw [hs i hi, Baf hi]
  split <;> rfl) he
 rw [hl, B2r, AV7]
 have hn := Bdp l p
 rcases hf : (List.range l.length).findSome? (AXq l p) with _ | r
 ·rw [hn.1 hf]; exact ⟨-1, rfl, rfl, fun h => by omega⟩
 ·refine ⟨r, rfl, ?_⟩
  obtain ⟨i, hi, hr⟩ := List.exists_of_findSome?_eq_some hf
  have hi' := List.mem_range.1 hi
  rw [Baf hi'] at hr
  split at hr
  ·rename_i hp
   cases hr
   have ha : l.any p = true := by rw [List.any_eq_true]; exact ⟨_, B21 hi', hp⟩
   rw [ha, LX]
   exact ⟨by omega, fun _ => ⟨i, rfl, hi', fun _ => hp⟩⟩
  ·cases hr
theorem Bpq {α : Type} (l : List α) (p : α → Bool) {body : Int → Option (Int ⊕ (Bool ⊕ Unit))} (hs : ∀ i (h : i < l.length), body (i : Int) = if p l[i] = true then some (.inr (.inl true)) else some (.inl ((i + 1 : Nat) : Int))) (he : body (l.length : Int) = some (.inr (.inr ()))) :
  ((Aot body 0).bind fun o => match o with | .inl p => some p | .inr _ => some false) = some (l.any p) := by
 have hl := ASv l.length (body := body) (fun i => (AXq l p i).map fun _ => .inl true) (r0 := .inr ()) (fun i hi => by
  rw [hs i hi, Baf hi]
  split <;> rfl) he
 rw [hl, B2r, AV7]
 have hn := Bdp l p
 rcases hf : (List.range l.length).findSome? (AXq l p) with _ | r
 ·rw [hn.1 hf]; rfl
 ·rcases hb : l.any p with _ | _
  ·rw [hn.2 hb] at hf; cases hf
  ·rfl
theorem Bpv (l : List (List UInt8)) (hl : l.length ≤ big) (x : List UInt8) : AJu l x = some (l.any fun y => x == y) := by
 unfold AJu
 have hb : l.length ≤ 1048576 := hl
 obtain ⟨r, h1, h2, _⟩ := Ba7 l (fun y => x == y) (body := ACk l x) (fun i hi => by
  unfold ACk
  rw [Mo (by rw [LX]; omega), Ayt hi, B2r, wr1 (by omega)]) (by
  unfold ACk
  rw [Hw (by rw [LX]; omega)])
 have h1' : AQa l x = some r := h1
 rw [h1', B2r, h2]
def wordsL : List (List UInt8) := [[116, 111, 112], [105, 110, 116], [98, 111, 111, 108], [110, 117, 108, 108], [105, 110, 116, 115], [97, 110, 121]]
theorem Bt5 : Bbw = some wordsL := rfl
theorem Bw0 (k : Nat) (h : k < 6) : AWd (UInt8.ofNat k) = some wordsL[k] := by
 match k, h with
 | 0, _ => rfl
 | 1, _ => rfl
 | 2, _ => rfl
 | 3, _ => rfl
 | 4, _ => rfl
 | 5, _ => rfl
theorem Btl (x : List UInt8) : AS3 x = some (wordsL.any fun y => x == y) := by
 unfold AS3
 have step : ∀ k (h : k < 6), AOb x (UInt8.ofNat k) = if (wordsL[k] == x) = true then some (.inr (.inl true)) else some (.inl (UInt8.ofNat (k + 1))) := by
  intro k h
  unfold AOb
  have hk : (UInt8.ofNat k).toNat = k := by rw [UInt8.toNat_ofNat']; omega
  rw [Mo (by rw [hk, LX]; omega), Bw0 k h, B2r, hk]
  congr 3
  apply UInt8.toNat_inj.1
  have := Bcx ((k : Int) + 1)
  rw [UInt8.toNat_ofNat']
  omega
 have key : ∀ n k, k + n = 6 → Aot (AOb x) (UInt8.ofNat k) = some (if (wordsL.drop k).any (fun y => x == y) = true then (.inl true) else .inr ()) := by
  intro n
  induction n with
  | zero =>
   intro k hk
   have : k = 6 := by omega
   subst this
   rw [Awv (r := .inr ())]
   ·rfl
   ·unfold AOb; rfl
  | succ n ih =>
   intro k hk
   have h6 : k < 6 := by omega
   have hd : wordsL.drop k = wordsL[k] :: wordsL.drop (k + 1) := List.drop_eq_getElem_cons (by exact h6)
   have hs := step k h6
   rw [hd, List.any_cons]
   have hc : (x == wordsL[k]) = (wordsL[k] == x) := by rw [B3a, Agq, Agq]; exact eq_comm
   rw [hc]
   by_cases he : (wordsL[k] == x) = true
   ·rw [Mo he] at hs
    rw [Awv hs, he]; rfl
   ·rw [Hw he] at hs
    rw [AGm hs, ih (k + 1) (by omega)]
    have : (wordsL[k] == x) = false := by simpa using he
    rw [this, Bool.false_or]
 have := key 6 0 rfl
 rw [show (0 : UInt8) = UInt8.ofNat 0 from rfl, this, B2r]
 rw [List.drop_zero]
 cases (wordsL.any fun y => x == y) <;> rfl
end Go.Proofs.YtfcpkcehecmcpaaGreat
namespace Go.Proofs.YtfcpkcehecmcpaaGreat
open Go Go.RowKit Go.Pv
def AQh (l : List Abi) (n : Nat) : Prop := ∀ i (h : i < l.length), i < n → -1 ≤ l[i].Ar1 ∧ l[i].Ar1 < i
def lin (l : List Abi) : Nat → Int → List Nat
 | 0, _ => []
 | f + 1, c => if h : 0 ≤ c ∧ c < l.length then c.toNat :: lin l f (l[c.toNat]'(by omega)).Ar1 else []
def AOu (l : List Abi) (c : Int) : List Nat := lin l (c.toNat + 1) c
theorem Bfd {l : List Abi} {f : Nat} {c : Int} (h : c < 0) : lin l f c = [] := by
 cases f with
 | zero => rfl
 | succ f => unfold lin; rw [dif_neg (by omega)]
theorem Bu8 {l : List Abi} {n : Nat} (R : AQh l n) : ∀ (f f' : Nat) (c : Int), c < n → c < f → c < f' → lin l f c = lin l f' c
 | 0, f', c, _, h1, _ => by rw [Bfd (by omega), Bfd (by omega)]
 | f + 1, 0, c, _, _, h2 => by rw [Bfd (by omega), Bfd (by omega)]
 | f + 1, f' + 1, c, hn, h1, h2 => by
  unfold lin
  by_cases h : 0 ≤ c ∧ c < l.length
  ·rw [dif_pos h, dif_pos h]
   congr 1
   have hr := R c.toNat (by omega) (by omega)
   exact Bu8 R f f' _ (by omega) (by omega) (by omega)
  ·rw [dif_neg h, dif_neg h]
theorem AT1 {l : List Abi} {c : Int} (h : c < 0) : AOu l c = [] := Bfd h
theorem AW2 {l : List Abi} {n : Nat} (R : AQh l n) (c : Nat) (h : c < l.length) (hn : c < n) : AOu l (c : Int) = c :: AOu l l[c].Ar1 := by
 have hr := R c h hn
 unfold AOu
 rw [lin, dif_pos ⟨by omega, by omega⟩]
 simp only [B27]
 congr 1
 exact Bu8 R _ _ _ (by omega) (by omega) (by omega)
theorem Bak {l : List Abi} {n : Nat} (R : AQh l n) : ∀ (k : Nat) (c : Int), c < k → c < n → c < l.length → ∀ x ∈ AOu l c, (x : Int) ≤ c ∧ x < l.length
 | 0, c, hk, hn, hl, x, hx => by rw [AT1 (by omega)] at hx; cases hx
 | k + 1, c, hk, hn, hl, x, hx => by
  by_cases h0 : 0 ≤ c
  ·obtain ⟨c, rfl⟩ := B28 h0
   rw [AW2 R c (by omega) (by omega)] at hx
   have hr := R c (by omega) (by omega)
   rcases List.mem_cons.1 hx with rfl | hx
   ·omega
   ·have := Bak R k l[c].Ar1 (by omega) (by omega) (by omega) x hx
    omega
  ·rw [AT1 (by omega)] at hx; cases hx
theorem Bds {l : List Abi} {n : Nat} (R : AQh l n) : ∀ (k : Nat) (c : Int), c < k → c < n → c < l.length → (AOu l c).length ≤ (c + 1).toNat
 | 0, c, hk, hn, hl => by rw [AT1 (by omega)]; simp
 | k + 1, c, hk, hn, hl => by
  by_cases h0 : 0 ≤ c
  ·obtain ⟨c, rfl⟩ := B28 h0
   rw [AW2 R c (by omega) (by omega)]
   have hr := R c (by omega) (by omega)
   have := Bds R k l[c].Ar1 (by omega) (by omega) (by omega)
   rw [List.length_cons]
   omega
  ·rw [AT1 (by omega)]; simp
def Bei {σ : Type} (g : σ → Nat → σ) (go : σ → Nat → Bool) : List Nat → σ → σ
 | [], s => s
 | c :: r, s => if go s c = true then Bei g go r (g s c) else g s c
theorem Bcc {σ : Type} {l : List Abi} {n : Nat} (R : AQh l n) {body : σ × Int → Option ((σ × Int) ⊕ (σ ⊕ σ))} (g : σ → Nat → σ) (go : σ → Nat → Bool) (I : σ → Int → Prop)
  (hb : ∀ s (c : Nat) (h : c < l.length), c < n → I s c → body (s, (c : Int)) = if go s c = true then some (.inl (g s c, l[c].Ar1)) else some (.inr (.inr (g s c))))
  (hI : ∀ s (c : Nat) (h : c < l.length), c < n → I s c → I (g s c) l[c].Ar1)
  (he : ∀ s (c : Int), c < 0 → body (s, c) = some (.inr (.inr s))) :
  ∀ (k : Nat) (c : Int) s, c < k → c < n → c < l.length → I s c → Aot body (s, c) = some (.inr (Bei g go (AOu l c) s))
 | 0, c, s, hk, hn, hl, hs => by rw [Awv (he s c (by omega)), AT1 (by omega)]; rfl
 | k + 1, c, s, hk, hn, hl, hs => by
  by_cases h0 : 0 ≤ c
  ·obtain ⟨c, rfl⟩ := B28 h0
   have hr := R c (by omega) (by omega)
   have h1 := hb s c (by omega) (by omega) hs
   have h2 := hI s c (by omega) (by omega) hs
   rw [AW2 R c (by omega) (by omega), Bei]
   by_cases hg : go s c = true
   ·rw [Mo hg] at h1
    rw [AGm h1, Mo hg]
    exact Bcc R g go I hb hI he k _ _ (by omega) (by omega) (by omega) h2
   ·rw [Hw hg] at h1
    rw [Awv h1, Hw hg]
  ·rw [Awv (he s c (by omega)), AT1 (by omega)]; rfl
theorem B1k {α β : Type} (f : α → β) (L : List α) : L.flatMap (fun c => [f c]) = L.map f := by induction L <;> simp_all
theorem Bg3 {α : Type} (f : Nat → List α) : ∀ (L : List Nat) (s : List α), Bei (fun s c => s ++ f c) (fun _ _ => true) L s = s ++ L.flatMap f
 | [], s => by simp [Bei]
 | c :: r, s => by rw [Bei, Mo rfl, Bg3 f r, List.flatMap_cons, B23]
def AS0 (l : List Abi) : Prop := l.length ≤ big ∧ ∀ x ∈ l, x.Fields.length ≤ big
def AZe (l : List Abi) (c : Nat) : List Ar2 := match l[c]? with
 | some x => x.Fields
 | none => []
theorem Bfc {l : List Abi} {c : Nat} (h : c < l.length) : AZe l c = l[c].Fields := by unfold AZe; rw [B2u h]
theorem Bkb {l : List Abi} (h : AS0 l) (c : Nat) : (AZe l c).length ≤ 1048576 := by
 unfold AZe
 split
 ·rename_i x hx; exact h.2 x (List.mem_of_getElem? hx)
 ·simp
theorem Btd (l : List Abi) (h : AS0 l) (c : Nat) (hc : c < l.length) (s : List (List UInt8)) (hs : s.length ≤ 1099511627776) :
  AUw (c : Int) l s = some (true, s ++ (AZe l c).map (·.Name)) := by
 unfold AUw
 rw [Ayt hc, B2r]
 have hf : (l[c]).Fields.length ≤ 1048576 := h.2 _ (B21 hc)
 have := ATa l[c].Fields.length (body := AQq l[c]) (fun i => (s ++ (l[c].Fields.take i).map (·.Name), (i : Int))) (r := s ++ l[c].Fields.map (·.Name)) (fun i hi => by
  unfold AQq
  dsimp only
  rw [Mo (by rw [LX]; omega), Ayt hi, B2r, AL0 (by simp; omega), B2r, wr1 (by omega), Bcn, B23]) (by
  unfold AQq
  dsimp only
  rw [Hw (by rw [LX]; omega), B26]) (s0 := (s, 0)) (by simp)
 rw [this, B2r, Bfc hc]
theorem Bri (l : List Abi) (h : AS0 l) {n : Nat} (R : AQh l n) (hn32 : n ≤ 64) (c : Int) (hn : c < n) (hl : c < l.length) :
  ARi l c l [] = some ((AOu l c).flatMap fun c => (AZe l c).map (·.Name)) := by
 have key := Bcc R (body := AN6 l l) (fun s c => s ++ (AZe l c).map (·.Name)) (fun _ _ => true) (fun s c => (s.length : Int) + (c + 1) * 1048576 ≤ 1099511627776) (fun s c hc hcn hI => by
  unfold AN6
  dsimp only
  have hr := R c hc hcn
  rw [Mo (by rw [LX]; omega), Mo (by rw [LX]; omega), Btd l h c hc s (by omega), B2r]
  dsimp only
  rw [Mo rfl, Ayt hc, B2r, Hw (by rw [LX]; omega), Mo rfl]) (fun s c hc hcn hI => by
  have hr := R c hc hcn
  have := Bkb h c
  rw [B2v, B2w]
  omega) (fun s c hc => by
  unfold AN6
  dsimp only
  rw [Hw (by rw [LX]; omega)]) (c.toNat + 1) c [] (by omega) hn hl (by simp; omega)
 unfold ARi
 rw [key, B2r, Bg3]
 rfl
theorem Bs1 (l : List Abi) {n : Nat} (R : AQh l n) (hnb : n ≤ 1048576) (c : Int) (hn : c < n) (hl : c < l.length) :
  APu l c [] = some ((AOu l c).map fun (c : Nat) => (c : Int)) := by
 have key := Bcc R (body := AJy l) (fun s c => s ++ [(c : Int)]) (fun _ _ => true) (fun s c => (s.length : Int) + (c + 1) ≤ 1099511627776) (fun s c hc hcn hI => by
  unfold AJy AW9
  dsimp only
  have hr := R c hc hcn
  rw [Mo (by rw [LX]; omega), Mo (by rw [LX]; omega), AL0 (by simp; omega), B2r, B2r]
  dsimp only
  rw [Mo rfl, Ayt hc, B2r, Hw (by rw [LX]; omega), Mo rfl]) (fun s c hc hcn hI => by
  have hr := R c hc hcn
  rw [B2v, B2x]
  omega) (fun s c hc => by
  unfold AJy
  dsimp only
  rw [Hw (by rw [LX]; omega)]) (c.toNat + 1) c [] (by omega) hn hl (by simp; omega)
 unfold APu
 rw [key, B2r, Bg3 (fun c => [(c : Int)])]
 rw [B22, B1k (fun c : Nat => (c : Int))]
theorem Bql (l : List Abi) {n : Nat} (R : AQh l n) (hnb : n ≤ 1048576) (c : Int) (hn : c < n) (hl : c < l.length) :
  ASu l c = some ((AOu l c).map fun (c : Nat) => (c : Int)) := by
 have key : ∀ (k : Nat) (c : Int) (out : List Int), c < k → c < n → c < l.length → (out.length : Int) + (c + 1) ≤ l.length ∧ (out.length : Int) + (c + 1) ≤ 1048577 → Aot (AO4 l) (c, out) = some (out ++ (AOu l c).map fun (c : Nat) => (c : Int)) := by
  intro k
  induction k with
  | zero =>
   intro c out hk hn hl ho
   rw [AT1 (by omega), Awv (r := out)]
   ·simp
   ·unfold AO4
    rw [Hw (by rw [LX]; dsimp only; omega)]
  | succ k ih =>
   intro c out hk hn hl ho
   by_cases h0 : 0 ≤ c
   ·obtain ⟨c, rfl⟩ := B28 h0
    have hr := R c (by omega) (by omega)
    rw [AW2 R c (by omega) (by omega), AGm (s' := (l[c].Ar1, out ++ [(c : Int)]))]
    ·rw [ih _ _ (by omega) (by omega) (by omega) (by rw [B2v, B2x]; omega)]
     simp
    ·unfold AO4
     dsimp only
     rw [Mo (by rw [LX]; omega), Mo (by rw [LX]; omega), Mo (by rw [LX]; omega), AL0 (by simp; omega), B2r, Ayt (by omega), B2r]
   ·rw [AT1 (by omega), Awv (r := out)]
    ·simp
    ·unfold AO4
     rw [Hw (by rw [LX]; dsimp only; omega)]
 unfold ASu
 rw [key (c.toNat + 1) c [] (by omega) hn hl (by simp; omega), B2r, B22]
def AJq (l : List Abi) (c : Int) : List Ar2 := (AOu l c).reverse.flatMap (AZe l)
theorem Bns (l : List Abi) (h : AS0 l) (L : List Nat) (hL : ∀ x ∈ L, x < l.length) (hb : L.length ≤ 1048576) {body : List Ar2 × Int → Option ((List Ar2 × Int) ⊕ List Ar2)}
  (he : body = APp l (L.map fun (c : Nat) => (c : Int))) : Aot body ([], wr (((L.map fun (c : Nat) => (c : Int)).length : Int) - 1)) = some (L.reverse.flatMap (AZe l)) := by
 subst he
 rw [B2w, ANa (by omega) (by omega)]
 have key : ∀ (k : Nat) (acc : List Ar2), k ≤ L.length → acc.length + k * 1048576 ≤ 1099511627776 → Aot (APp l (L.map fun (c : Nat) => (c : Int))) (acc, (k : Int) - 1) = some (acc ++ (L.take k).reverse.flatMap (AZe l)) := by
  intro k
  induction k with
  | zero =>
   intro acc _ _
   rw [Awv (r := acc)]
   ·simp
   ·unfold APp
    rw [Hw (by rw [LX]; dsimp only; omega)]
  | succ k ih =>
   intro acc hk ha
   have hx : L[k]'(by omega) < l.length := hL _ (B21 _)
   have hlen : (AZe l (L[k]'(by omega))).length ≤ 1048576 := Bkb h _
   rw [AGm (s' := (acc ++ AZe l (L[k]'(by omega)), (k : Int) - 1))]
   ·rw [ih _ (by omega) (by rw [B2v]; omega), show L.take (k + 1) = L.take k ++ [L[k]'(by omega)] by rw [List.take_add_one, B2u (by omega)]; rfl, List.reverse_append, List.reverse_singleton, List.singleton_append, List.flatMap_cons, B23]
   ·unfold APp
    dsimp only
    rw [show (((k + 1 : Nat) : Int) - 1) = (k : Int) by omega, Mo (by rw [LX]; omega), Ayt (by rw [B2w]; omega), B2r, List.getElem_map, Ayt hx, B2r,
     AL0 (by rw [Bfc hx] at hlen; omega), B2r, ANa (by omega) (by omega), Bfc hx]
 have := key L.length [] (Nat.le_refl _) (by simp; omega)
 rw [this, B26, B22]
theorem Bs5 (l : List Abi) (h : AS0 l) {n : Nat} (R : AQh l n) (hnb : n ≤ 1048576) (c : Int) (hn : c < n) (hl : c < l.length) : ATn l c = some (AJq l c) := by
 unfold ATn
 have hlen := Bds R (c.toNat + 1) c (by omega) hn hl
 rw [Bs1 l R hnb c hn hl, B2r, Bns l h (AOu l c) (fun x hx => (Bak R (c.toNat + 1) c (by omega) hn hl x hx).2) (by
  omega) rfl, B2r]
 rfl
theorem Bl0 (l : List Abi) (h : AS0 l) {n : Nat} (R : AQh l n) (hnb : n ≤ 1048576) (c : Int) (hn : c < n) (hl : c < l.length) : AN5 l c = some (AJq l c) := by
 unfold AN5
 have hlen := Bds R (c.toNat + 1) c (by omega) hn hl
 have hd := Bns l h (AOu l c) (fun x hx => (Bak R (c.toNat + 1) c (by omega) hn hl x hx).2) (by omega) (body := AR0 l ((AOu l c).map fun (c : Nat) => (c : Int))) rfl
 rw [Bql l R hnb c hn hl, B2r, hd, B2r]
 rfl
end Go.Proofs.YtfcpkcehecmcpaaGreat
namespace Go.Proofs.YtfcpkcehecmcpaaGreat
open Go Go.RowKit Go.Pv
theorem Bl6 {R : Type} (n : Nat) {body : Int → Option (Int ⊕ R)} (f : Nat → Option R) {r0 : R}
  (hs : ∀ i, i < n → (∀ j, j < i → f j = none) → body (i : Int) = match f i with | some r => some (.inr r) | none => some (.inl ((i + 1 : Nat) : Int))) (he : (∀ j, j < n → f j = none) → body (n : Int) = some (.inr r0)) :
  Aot body 0 = some (((List.range n).findSome? f).getD r0) := by
 have key : ∀ k i, i + k = n → (∀ j, j < i → f j = none) → Aot body (i : Int) = some (((List.range' i k).findSome? f).getD r0) := by
  intro k
  induction k with
  | zero =>
   intro i hi hj
   have : i = n := by omega
   subst this
   rw [Awv (he hj)]; rfl
  | succ k ih =>
   intro i hi hj
   have h1 := hs i (by omega) hj
   rw [List.range'_succ, List.findSome?_cons]
   rcases hf : f i with _ | r
   ·rw [hf] at h1
    rw [AGm h1]
    exact ih (i + 1) (by omega) (fun j hj' => by
     rcases Nat.lt_succ_iff_lt_or_eq.1 hj' with h | h
     ·exact hj j h
     ·rw [h]; exact hf)
   ·rw [hf] at h1
    rw [Awv h1]; rfl
 have := key n 0 (by omega) (fun j h => by omega)
 rw [List.range_eq_range']
 exact this
theorem Bov (l : List (List UInt8)) (hl : l.length ≤ 1099511627776) (x : List UInt8) : AJu l x = some (l.any fun y => x == y) := by
 unfold AJu
 obtain ⟨r, h1, h2, _⟩ := Ba7 l (fun y => x == y) (body := ACk l x) (fun i hi => by
  unfold ACk
  rw [Mo (by rw [LX]; omega), Ayt hi, B2r, wr1 (by omega)]) (by
  unfold ACk
  rw [Hw (by rw [LX]; omega)])
 have h1' : AQa l x = some r := h1
 rw [h1', B2r, h2]
theorem Bsb (l : List Ar2) (hl : l.length ≤ 1099511627776) (x : List UInt8) : AU3 l x = some (l.any fun y => y.Name == x) := by
 have := Bpq l (fun y => y.Name == x) (body := AQm l x) (fun i hi => by
  unfold AQm
  rw [Mo (by rw [LX]; omega), Ayt hi, B2r, wr1 (by omega)]) (by
  unfold AQm
  rw [Hw (by rw [LX]; omega)])
 exact this
theorem Bu4 {R S : Type} (L : List Nat) (P : Nat → Option R) (f : R → S) : L.findSome? (fun i => (P i).map f) = (L.findSome? P).map f := by
 induction L with
 | nil => rfl
 | cons x l ih => simp only [List.findSome?_cons]; rcases P x with _ | r <;> simp [ih]
def ffV (l : List Abi) (all own : List Ar2) (i : Nat) : Option Int := match own[i]? with
 | none => none
 | some f => if Bbz f.Name = false then some 6 else if (all.any fun y => y.Name == f.Name) = true ∨ ((own.take i).any fun y => y.Name == f.Name) = true then some 20 else if st l f.ASg = false then some 22 else none
def AZ9 (l : List Abi) (all own : List Ar2) : Int := ((List.range own.length).findSome? (ffV l all own)).getD (if 32 < all.length + own.length then 4 else 0)
def AVu (l : List Abi) (c : Nat) : Int := match l[c]? with
 | none => 0
 | some x => if 32 ≤ c then 4 else if Bbz x.Name = false then 6 else if (wordsL.any fun y => x.Name == y) = true then 6 else if ((l.take c).any fun y => y.Name == x.Name) = true then 20
  else if x.Ar1 < -1 ∨ (c : Int) ≤ x.Ar1 then 21 else AZ9 l (AJq l x.Ar1) x.Fields
theorem Bjw {α β : Type} (f : α → List β) (n : Nat) : ∀ (L : List α), (∀ x ∈ L, (f x).length ≤ n) → (L.flatMap f).length ≤ L.length * n
 | [], _ => by simp
 | x :: L, h => by
  rw [List.flatMap_cons, B2v, List.length_cons]
  have h1 := h x (by simp)
  have h2 := Bjw f n L (fun y hy => h y (by simp [hy]))
  rw [Nat.succ_mul]
  omega
theorem Bie {α β : Type} (f : α → List β) : ∀ (L : List α), (L.reverse.flatMap f).length = (L.flatMap f).length
 | [] => rfl
 | x :: L => by
  rw [List.reverse_cons, List.flatMap_append, B2v, Bie f L, List.flatMap_cons, B2v]
  simp
  omega
theorem Bv5 (l : List Abi) (p : Int) (x : List UInt8) : (((AOu l p).flatMap fun c => (AZe l c).map (·.Name)).any fun y => x == y) = ((AJq l p).any fun y => y.Name == x) := by
 rw [B3a, List.any_eq_true, List.any_eq_true]
 constructor
 ·rintro ⟨y, hy, he⟩
  obtain ⟨c, hc, hy⟩ := List.mem_flatMap.1 hy
  obtain ⟨f, hf, rfl⟩ := List.mem_map.1 hy
  refine ⟨f, List.mem_flatMap.2 ⟨c, by simpa using hc, hf⟩, ?_⟩
  rw [Agq] at he ⊢
  exact he.symm
 ·rintro ⟨f, hf, he⟩
  obtain ⟨c, hc, hf⟩ := List.mem_flatMap.1 hf
  refine ⟨f.Name, List.mem_flatMap.2 ⟨c, by simpa using hc, List.mem_map.2 ⟨f, hf, rfl⟩⟩, ?_⟩
  rw [Agq] at he ⊢
  exact he.symm
theorem Bub (l : List Abi) (p : Int) : ((AOu l p).flatMap fun c => (AZe l c).map (·.Name)).length = (AJq l p).length := by
 unfold AJq
 rw [Bie, List.length_flatMap, List.length_flatMap]
 simp
theorem Bjs (l : List Abi) (h : AS0 l) {n : Nat} (R : AQh l n) (hn32 : n ≤ 64) (c : Int) (hn : c < n) (hl : c < l.length) : (AJq l c).length ≤ 67108864 := by
 unfold AJq
 have h1 := Bjw (AZe l) 1048576 (AOu l c).reverse (fun x _ => Bkb h x)
 have h2 := Bds R (c.toNat + 1) c (by omega) hn hl
 rw [List.length_reverse] at h1
 have h3 : (AOu l c).length ≤ 64 := by omega
 omega
theorem Bmy (M : List (List UInt8)) (own : List Ar2) (i : Nat) (x : List UInt8) : ((M ++ (own.take i).map (·.Name)).any fun y => x == y) = ((M.any fun y => x == y) || ((own.take i).any fun y => y.Name == x)) := by
 rw [List.any_append, List.any_map]
 congr 2
 funext y
 show (x == y.Name) = (y.Name == x)
 rw [B3a, Agq, Agq]; exact eq_comm
theorem Bre (l : List Abi) (h : AS0 l) {n : Nat} (R : AQh l n) (hn32 : n ≤ 64) (c : Nat) (hc : c < l.length) (hp : l[c].Ar1 < n) (hpl : l[c].Ar1 < l.length) :
  AX2 l (c : Int) = some (AZ9 l (AJq l l[c].Ar1) l[c].Fields) := by
 unfold AX2
 rw [Ayt hc, B2r, Bri l h R hn32 _ hp hpl, B2r, B2r]
 have hN := Bub l l[c].Ar1
 have hA := Bv5 l l[c].Ar1
 have hL := Bjs l h R hn32 _ hp hpl
 have hf : l[c].Fields.length ≤ 1048576 := h.2 _ (B21 hc)
 generalize hM : ((AOu l l[c].Ar1).flatMap fun c => (AZe l c).map (·.Name)) = M at *
 generalize hall : AJq l l[c].Ar1 = all at *
 generalize hown : l[c] = x at *
 -- the loop
 have key : ∀ k i, i + k = x.Fields.length → Aot (ARq l x) (M ++ (x.Fields.take i).map (·.Name), (i : Int)) = some (((List.range' i k).findSome? fun i => (ffV l all x.Fields i).map Sum.inl).getD (.inr (M ++ x.Fields.map (·.Name)))) := by
  intro k
  induction k with
  | zero =>
   intro i hi
   have : i = x.Fields.length := by omega
   subst this
   rw [Awv (r := .inr (M ++ x.Fields.map (·.Name)))]
   ·rfl
   ·unfold ARq
    dsimp only
    rw [Hw (by rw [LX]; omega), B26]
  | succ k ih =>
   intro i hi
   have hi' : i < x.Fields.length := by omega
   have hb : ARq l x (M ++ (x.Fields.take i).map (·.Name), (i : Int)) = match ffV l all x.Fields i with
    | some e => some (.inr (.inl e))
    | none => some (.inl (M ++ (x.Fields.take (i + 1)).map (·.Name), ((i + 1 : Nat) : Int))) := by
    unfold ARq ffV
    dsimp only
    rw [Mo (by rw [LX]; omega), Ayt hi', B2r, Bga, B2r, B2u hi']
    dsimp only
    rcases hn : Bbz x.Fields[i].Name with _ | _
    ·rfl
    ·rw [Hw (c := (!true) = true) (by simp), Hw (c := true = false) (by simp), Bov _ (by simp; omega), B2r, Bmy, hA]
     by_cases h1 : (all.any fun y => y.Name == x.Fields[i].Name) = true ∨ ((x.Fields.take i).any fun y => y.Name == x.Fields[i].Name) = true
     ·rw [Mo (by rw [B3b]; exact h1), Mo h1]
     ·rw [Hw (by rw [B3b]; exact h1), Hw h1, Brx, B2r]
      rcases hs : st l x.Fields[i].ASg with _ | _
      ·rfl
      ·rw [Hw (c := (!true) = true) (by simp), Hw (c := true = false) (by simp), AL0 (by simp; omega), B2r, wr1 (by omega), Bcn (·.Name) _ i hi', B23]
   rw [List.range'_succ, List.findSome?_cons]
   rcases hff : ffV l all x.Fields i with _ | e
   ·rw [hff] at hb
    rw [AGm hb]
    exact ih (i + 1) (by omega)
   ·rw [hff] at hb
    rw [Awv hb]; rfl
 have := key x.Fields.length 0 (by omega)
 rw [List.take_zero, List.map_nil, List.append_nil] at this
 rw [show ((0 : Nat) : Int) = 0 from rfl] at this
 rw [this, B2r]
 unfold AZ9
 rw [List.range_eq_range']
 have hm := Bu4 (List.range' 0 x.Fields.length) (ffV l all x.Fields) (Sum.inl : Int → Int ⊕ List (List UInt8))
 rw [hm]
 rcases (List.range' 0 x.Fields.length).findSome? (ffV l all x.Fields) with _ | e
 ·simp only [Option.map_none, Option.getD_none]
  rw [B2v, B2w, hN]
  by_cases h32 : 32 < all.length + x.Fields.length
  ·rw [Mo (by rw [LX]; omega), Mo h32]
  ·rw [Hw (by rw [LX]; omega), Hw h32]
 ·rfl
end Go.Proofs.YtfcpkcehecmcpaaGreat
namespace Go.Proofs.YtfcpkcehecmcpaaGreat
open Go Go.RowKit Go.Pv
theorem Bey {α β : Type} {f g : α → Option β} : ∀ {l : List α}, (∀ x ∈ l, f x = g x) → l.findSome? f = l.findSome? g
 | [], _ => rfl
 | x :: l, h => by rw [List.findSome?_cons, List.findSome?_cons, h x (by simp), Bey fun y hy => h y (by simp [hy])]
theorem Bf2 {α β : Type} (o : Option α) (d : β) : ((o.map (Sum.inl : α → α ⊕ β)).getD (.inr d)) = match o with | some e => .inl e | none => .inr d := by cases o <;> rfl
theorem Brw (l : List Abi) (h : AS0 l) (x : Abi) (all : List Ar2) (hL : all.length ≤ 67108864) (hf : x.Fields.length ≤ 1048576) :
  ((Aot (AOq l x all) 0).bind fun o => match o with
   | .inl p => some p
   | .inr _ => if decide ((x.Fields.length : Int) > wr (32 - (all.length : Int))) = true then some 4 else some 0) = some (AZ9 l all x.Fields) := by
 have hl := ASv (R := Int ⊕ Unit) x.Fields.length (body := AOq l x all) (fun i => (ffV l all x.Fields i).map .inl) (r0 := .inr ()) (fun i hi => by
  unfold AOq ffV
  rw [Mo (by rw [LX]; omega), Ayt hi, B2r, Blr, B2r, B2u hi]
  dsimp only
  rcases hn : Bbz x.Fields[i].Name with _ | _
  ·rfl
  ·rw [Hw (c := (!true) = true) (by simp), Hw (c := true = false) (by simp), Bsb _ (by omega), B2r]
   rcases h1 : (all.any fun y => y.Name == x.Fields[i].Name) with _ | _
   ·rw [Hw (c := false = true) (by simp), Bal (by omega), B2r, B27, Int.toNat_zero, List.drop_zero, Bsb _ (by rw [List.length_take]; omega), B2r]
    rcases h2 : ((x.Fields.take i).any fun y => y.Name == x.Fields[i].Name) with _ | _
    ·rw [Hw (c := false = true) (by simp), Hw (c := false = true ∨ false = true) (by simp), Bej, B2r]
     rcases hs : st l x.Fields[i].ASg with _ | _
     ·rfl
     ·rw [Hw (c := (!true) = true) (by simp), Hw (c := true = false) (by simp), wr1 (by omega)]; rfl
    ·rw [Mo rfl, Mo (Or.inr rfl)]; rfl
   ·rw [Mo rfl, Mo (Or.inl rfl)]; rfl) (by
  unfold AOq
  rw [Hw (by rw [LX]; omega)])
 rw [hl, B2r, AV7, Bf2]
 unfold AZ9
 rcases (List.range x.Fields.length).findSome? (ffV l all x.Fields) with _ | e
 ·simp only [Option.getD_none]
  rw [ANa (by omega) (by omega)]
  by_cases h32 : 32 < all.length + x.Fields.length
  ·rw [Mo (by rw [LX]; omega), Mo h32]
  ·rw [Hw (by rw [LX]; omega), Hw h32]
 ·rfl
theorem Bvg (l : List Abi) (h : AS0 l) (c : Nat) (hc : c ≤ l.length) (x : Abi) : AFj (l.take c) x = some ((l.take c).any fun y => y.Name == x.Name) := by
 have hb : l.length ≤ 1048576 := h.1
 unfold AFj
 obtain ⟨r, h1, h2, _⟩ := Ba7 (l.take c) (fun y => y.Name == x.Name) (body := A25 (l.take c) x) (fun i hi => by
  unfold A25 AXt
  have hi' : i < c := by rw [List.length_take] at hi; omega
  rw [Mo (by rw [LX]; omega), Ayt hi, B2r, B2r, wr1 (by omega)]) (by
  unfold A25
  rw [Hw (by rw [LX]; omega)])
 have h1' : ANl (l.take c) x = some r := h1
 rw [show (⟨x.Name, x.Ar1, x.Fields⟩ : Abi) = x from rfl, h1', B2r, h2]
theorem Bve (l : List Abi) (h : AS0 l) (c : Nat) (hc : c < l.length) (R : AQh l c) : ATm l (c : Int) = some (AVu l c) := by
 have hb : l.length ≤ 1048576 := h.1
 unfold ATm AVu
 rw [Ayt hc, B2r, B2u hc]
 dsimp only
 by_cases h32 : 32 ≤ c
 ·rw [Mo (by rw [LX]; omega), Mo h32]
 rw [Hw (by rw [LX]; omega), Hw h32, Blr, B2r]
 rcases Bbz l[c].Name with _ | _
 ·rfl
 rw [Hw (c := (!true) = true) (by simp), Hw (c := true = false) (by simp), Btl, B2r]
 rcases (wordsL.any fun y => l[c].Name == y) with _ | _
 rotate_left
 ·rfl
 rw [Hw (c := false = true) (by simp), Hw (c := false = true) (by simp)]
 have hl := ASv (R := Int ⊕ Unit) c (body := APi l (c : Int) l[c]) (fun i => (AXq l (fun y => y.Name == l[c].Name) i).map fun _ => .inl 20) (r0 := .inr ()) (fun i hi => by
  unfold APi
  rw [Mo (by rw [LX]; omega), Ayt (by omega), B2r, wr1 (by omega), Baf (by omega)]
  split <;> rfl) (by
  unfold APi
  rw [Hw (by rw [LX]; omega)])
 rw [hl, B2r, AV7]
 have hany : ((List.range c).findSome? (AXq l fun y => y.Name == l[c].Name)).isSome = ((l.take c).any fun y => y.Name == l[c].Name) := by
  have hn := Bdp (l.take c) fun y => y.Name == l[c].Name
  have e : (List.range (l.take c).length).findSome? (AXq (l.take c) fun y => y.Name == l[c].Name) = (List.range c).findSome? (AXq l fun y => y.Name == l[c].Name) := by
   rw [List.length_take, Nat.min_eq_left (by omega)]
   apply Bey
   intro i hi
   have hi' := List.mem_range.1 hi
   unfold AXq
   rw [List.getElem?_take_of_lt hi']
  rw [e] at hn
  rcases hf : (List.range c).findSome? (AXq l fun y => y.Name == l[c].Name) with _ | r
  ·rw [hn.1 hf]; rfl
  ·rcases hb : (l.take c).any fun y => y.Name == l[c].Name with _ | _
   ·rw [hn.2 hb] at hf; cases hf
   ·rfl
 rw [← hany]
 rcases (List.range c).findSome? (AXq l fun y => y.Name == l[c].Name) with _ | r
 rotate_left
 ·rfl
 simp only [Option.map_none, Option.getD_none, Option.isSome_none, Bool.false_eq_true, if_false]
 by_cases hp1 : l[c].Ar1 < -1
 ·rw [Mo (by rw [LX]; omega), Mo (Or.inl hp1)]
 rw [Hw (by rw [LX]; omega)]
 by_cases hp2 : (c : Int) ≤ l[c].Ar1
 ·rw [Mo (by rw [LX]; omega), Mo (Or.inr hp2)]
 rw [Hw (by rw [LX]; omega), Hw (by omega), Bl0 l h R (by omega) _ (by omega) (by omega), B2r]
 exact Brw l h l[c] _ (Bjs l h R (by omega) _ (by omega) (by omega)) (h.2 _ (B21 hc))
end Go.Proofs.YtfcpkcehecmcpaaGreat
namespace Go.Proofs.YtfcpkcehecmcpaaGreat
open Go Go.RowKit Go.Pv
structure Good (l : List Abi) : Prop where
 tab : AS0 l
 few : l.length ≤ 32
 right : AQh l l.length
 fields : ∀ c, c < l.length → (AJq l (c : Int)).length ≤ 32
 stored : ∀ (c : Nat) (h : c < l.length), ∀ f ∈ l[c].Fields, st l f.ASg = true
theorem Bqg {l : List Abi} {all own : List Ar2} (h : AZ9 l all own = 0) : all.length + own.length ≤ 32 ∧ ∀ f ∈ own, st l f.ASg = true := by
 unfold AZ9 at h
 rcases hf : (List.range own.length).findSome? (ffV l all own) with _ | e
 ·rw [hf, Option.getD_none] at h
  constructor
  ·by_cases h32 : 32 < all.length + own.length
   ·rw [Mo h32] at h; cases h
   ·omega
  ·intro f hfm
   obtain ⟨i, hi, rfl⟩ := List.mem_iff_getElem.1 hfm
   have := (List.findSome?_eq_none_iff.1 hf) i (List.mem_range.2 hi)
   unfold ffV at this
   rw [B2u hi] at this
   dsimp only at this
   split at this
   ·cases this
   ·split at this
    ·cases this
    ·split at this
     ·cases this
     ·rename_i hs; simpa using hs
 ·rw [hf, Option.getD_some] at h
  subst h
  obtain ⟨i, hi, hr⟩ := List.exists_of_findSome?_eq_some hf
  unfold ffV at hr
  split at hr
  ·cases hr
  ·repeat' split at hr
   all_goals cases hr
theorem AZi {l : List Abi} {c : Nat} (hc : c < l.length) (h : AVu l c = 0) : c < 32 ∧ -1 ≤ l[c].Ar1 ∧ l[c].Ar1 < c ∧ (AJq l l[c].Ar1).length + l[c].Fields.length ≤ 32 ∧ ∀ f ∈ l[c].Fields, st l f.ASg = true := by
 unfold AVu at h
 rw [B2u hc] at h
 dsimp only at h
 split at h
 ·cases h
 ·split at h
  ·cases h
  ·split at h
   ·cases h
   ·split at h
    ·cases h
    ·split at h
     ·cases h
     ·have := Bqg h
      exact ⟨by omega, by omega, by omega, this.1, this.2⟩
theorem Bpf {l : List Abi} {n : Nat} (R : AQh l n) (c : Nat) (h : c < l.length) (hn : c < n) : AJq l (c : Int) = AJq l l[c].Ar1 ++ l[c].Fields := by
 unfold AJq
 rw [AW2 R c h hn, List.reverse_cons, List.flatMap_append]
 simp [Bfc h]
theorem Bka {l : List Abi} (n : Nat) (h : ∀ j, j < n → j < l.length → AVu l j = 0) : AQh l n := fun i hi hn => ⟨(AZi hi (h i hn hi)).2.1, (AZi hi (h i hn hi)).2.2.1⟩
def Bap (l : List Abi) (c : Nat) : Option (Int × Int) := if AVu l c = 0 then none else some ((c : Int), AVu l c)
def AZs (l : List Abi) : Int × Int := ((List.range l.length).findSome? (Bap l)).getD (0, 0)
theorem Bh7 {l : List Abi} {c : Nat} (h : Bap l c = none) : AVu l c = 0 := by
 unfold Bap at h
 split at h
 ·assumption
 ·cases h
theorem Bzg {l : List Abi} (h : AS0 l) (hv : (AZs l).2 = 0) : Good l := by
 have h0 : ∀ j, j < l.length → AVu l j = 0 := by
  unfold AZs at hv
  rcases hf : (List.range l.length).findSome? (Bap l) with _ | e
  ·intro j hj
   exact Bh7 ((List.findSome?_eq_none_iff.1 hf) j (List.mem_range.2 hj))
  ·rw [hf, Option.getD_some] at hv
   obtain ⟨i, hi, hr⟩ := List.exists_of_findSome?_eq_some hf
   unfold Bap at hr
   split at hr
   ·cases hr
   ·rename_i hne; cases hr; exact absurd hv hne
 have R : AQh l l.length := Bka _ fun j hj _ => h0 j hj
 refine ⟨h, ?_, R, ?_, ?_⟩
 ·rcases hl : l.length with _ | k
  ·omega
  ·have := (AZi (c := k) (by omega) (h0 k (by omega))).1; omega
 ·intro c hc
  rw [Bpf R c hc hc, B2v]
  exact (AZi hc (h0 c hc)).2.2.2.1
 ·intro c hc
  exact (AZi hc (h0 c hc)).2.2.2.2
theorem Bce (l : List Abi) (h : AS0 l) : ASc l = some (AZs l) := by
 have hb : l.length ≤ 1048576 := h.1
 have hl := Bl6 (R := (Int × Int) ⊕ Unit) l.length (body := APm l) (fun c => (Bap l c).map .inl) (r0 := .inr ()) (fun c hc hj => by
  unfold APm
  have R : AQh l c := Bka c fun j hj' _ => Bh7 (by have := hj j hj'; simpa using this)
  rw [Mo (by rw [LX]; omega), Bve l h c hc R, B2r, wr1 (by omega)]
  unfold Bap
  by_cases h0 : AVu l c = 0
  ·rw [Hw (by rw [Ale]; exact fun hn => hn h0), Mo h0]; rfl
  ·rw [Mo (by rw [Ale]; exact h0), Hw h0]; rfl) (fun _ => by
  unfold APm
  rw [Hw (by rw [LX]; omega)])
 unfold ASc
 rw [hl, B2r, AV7, Bf2]
 unfold AZs
 rcases (List.range l.length).findSome? (Bap l) with _ | e <;> rfl
theorem Bte (l : List Abi) (h : AS0 l) (c : Nat) (hc : c < l.length) (R : AQh l c) : ASe l (c : Int) = match (Bap l c).map Sum.inl with | some r => some (.inr r) | none => some (.inl ((c + 1 : Nat) : Int)) := by
 have hb : l.length ≤ 1048576 := h.1
 have key : ∀ e : Int, e = AVu l c → ((some e).bind fun o => if (o != 0) = true then some (.inr (.inl ((c : Int), o))) else some (.inl (wr ((c : Int) + 1)))) = (match (Bap l c).map (Sum.inl : Int × Int → (Int × Int) ⊕ Unit) with | some r => some (Sum.inr r) | none => some (Sum.inl ((c + 1 : Nat) : Int)) : Option (Int ⊕ ((Int × Int) ⊕ Unit))) := by
  intro e he
  subst he
  rw [B2r, wr1 (by omega)]
  unfold Bap
  by_cases h0 : AVu l c = 0
  ·rw [Hw (by rw [Ale]; exact fun hn => hn h0), Mo h0]; rfl
  ·rw [Mo (by rw [Ale]; exact h0), Hw h0]; rfl
 unfold ASe
 rw [Mo (by rw [LX]; omega), Ayt hc, B2r]
 have hv : AVu l c = if 32 ≤ c then 4 else if Bbz l[c].Name = false then 6 else if (wordsL.any fun y => l[c].Name == y) = true then 6 else if ((l.take c).any fun y => y.Name == l[c].Name) = true then 20
  else if l[c].Ar1 < -1 ∨ (c : Int) ≤ l[c].Ar1 then 21 else AZ9 l (AJq l l[c].Ar1) l[c].Fields := by
  unfold AVu
  rw [B2u hc]
 by_cases h32 : 32 ≤ c
 ·rw [Mo (by rw [LX]; omega)]
  exact key 4 (by rw [hv, Mo h32])
 rw [Hw (by rw [LX]; omega), Bga, B2r]
 rw [Hw h32] at hv
 rcases hn : Bbz l[c].Name with _ | _
 ·rw [hn, Mo rfl] at hv
  exact key 6 hv.symm
 rw [hn, Hw (c := true = false) (by simp)] at hv
 rw [Hw (c := (!true) = true) (by simp), Bt5, B2r, Bpv wordsL (by decide), B2r]
 rcases hw : (wordsL.any fun y => l[c].Name == y) with _ | _
 rotate_left
 ·rw [hw, Mo rfl] at hv
  exact key 6 hv.symm
 rw [hw, Hw (c := false = true) (by simp)] at hv
 rw [Hw (c := false = true) (by simp), Bal (by omega), B2r, B27, Int.toNat_zero, List.drop_zero, show (⟨l[c].Name, l[c].Ar1, l[c].Fields⟩ : Abi) = l[c] from rfl, Bvg l h c (by omega), B2r]
 rcases ht : ((l.take c).any fun y => y.Name == l[c].Name) with _ | _
 rotate_left
 ·rw [ht, Mo rfl] at hv
  exact key 20 hv.symm
 rw [ht, Hw (c := false = true) (by simp)] at hv
 rw [Hw (c := false = true) (by simp)]
 by_cases hp1 : l[c].Ar1 < -1
 ·rw [Mo (by rw [LX]; omega)]
  exact key 21 (by rw [hv, Mo (Or.inl hp1)])
 rw [Hw (by rw [LX]; omega)]
 by_cases hp2 : (c : Int) ≤ l[c].Ar1
 ·rw [Mo (by rw [LX]; omega)]
  exact key 21 (by rw [hv, Mo (Or.inr hp2)])
 rw [Hw (by rw [LX]; omega), Bre l h R (by omega) c hc (by omega) (by omega), B2r]
 exact key _ (by rw [hv, Hw (by omega)])
theorem Bn6 (l : List Abi) (h : AS0 l) : AXn l = some (AZs l) := by
 have hb : l.length ≤ 1048576 := h.1
 have hl := Bl6 (R := (Int × Int) ⊕ Unit) l.length (body := ASe l) (fun c => (Bap l c).map .inl) (r0 := .inr ()) (fun c hc hj => by
  rw [Bte l h c hc (Bka c fun j hj' _ => Bh7 (by have := hj j hj'; simpa using this))]
  rcases Bap l c with _ | _ <;> rfl) (fun _ => by
  unfold ASe
  rw [Hw (by rw [LX]; omega)])
 unfold AXn
 rw [hl, B2r, AV7, Bf2]
 unfold AZs
 rcases (List.range l.length).findSome? (Bap l) with _ | e <;> rfl
end Go.Proofs.YtfcpkcehecmcpaaGreat
namespace Go.Proofs.YtfcpkcehecmcpaaGreat
open Go Go.RowKit Go.Pv
def Le (l : List Abi) (a b : UInt8) : Prop := tv l a = true ∧ tv l b = true ∧ (a = b ∨ b.toNat = 0 ∨ (a.toNat = 3 ∧ rf b = true) ∨ (rf a = true ∧ b.toNat = 5) ∨ (16 ≤ a.toNat ∧ 16 ≤ b.toNat ∧ (b.toNat - 16) ∈ AOu l ((a.toNat - 16 : Nat) : Int)))
instance (l : List Abi) (a b : UInt8) : Decidable (Le l a b) := by unfold Le; infer_instance
theorem AZh {l : List Abi} {t : UInt8} (h : tv l t = true) (h16 : 16 ≤ t.toNat) : cls l t = ((t.toNat - 16 : Nat) : Int) ∧ t.toNat - 16 < l.length := by
 unfold tv at h
 simp only [B3b, B29, LX] at h
 have h2 : t.toNat - 16 < l.length := by omega
 unfold cls
 rw [Mo ⟨h16, h2⟩]
 exact ⟨rfl, h2⟩
theorem Blx {l : List Abi} {t : UInt8} (h16 : ¬ 16 ≤ t.toNat) : cls l t = -1 := by
 unfold cls
 rw [Hw (by omega)]
theorem Boh {l : List Abi} (G : Good l) (y : Int) : ∀ (L : List Nat) (s : Bool), Bei (fun s c => (c : Int) == y) (fun s c => !((c : Int) == y)) L s = if L = [] then s else L.any fun c => (c : Int) == y
 | [], s => rfl
 | c :: r, s => by
  rw [Bei, Boh G y r]
  rcases hc : ((c : Int) == y) with _ | _
  ·rw [Mo (c := (!false) = true) (by simp), Hw (c := c :: r = []) (by simp), List.any_cons, hc, Bool.false_or]
   split
   ·rename_i h; rw [h]; rfl
   ·rfl
  ·rw [Hw (c := (!true) = true) (by simp), Hw (c := c :: r = []) (by simp), List.any_cons, hc, Bool.true_or]
theorem Bok (l : List Abi) (G : Good l) (c : Int) (hc : c < l.length) (y : Int) : AXm l c y = some ((AOu l c).any fun x => (x : Int) == y) := by
 have hb : l.length ≤ 1048576 := G.tab.1
 have key := Bcc G.right (body := AOa l y) (fun s c => (c : Int) == y) (fun s c => !((c : Int) == y)) (fun _ _ => True) (fun s c hc hcn hI => by
  unfold AOa AXw
  dsimp only
  have hr := G.right c hc hcn
  rw [Mo (by rw [LX]; omega), Mo (by rw [LX]; omega), B2r]
  dsimp only
  rcases h : ((c : Int) == y) with _ | _
  ·rw [Mo (by simp), Ayt hc, B2r, Hw (by rw [LX]; omega), Mo (by simp)]
  ·rw [Hw (by simp), Hw (by simp)]) (fun _ _ _ _ _ => trivial) (fun s c hc => by
  unfold AOa
  dsimp only
  rw [Hw (by rw [LX]; omega)]) (c.toNat + 1) c false (by omega) hc hc trivial
 unfold AXm ATf
 rw [key, B2r]
 simp only [B2r]
 rw [Boh G]
 split
 ·rename_i h; rw [h]; rfl
 ·rfl
theorem Bkh (l : List Abi) (c : Int) (y : Nat) : ((AOu l c).any fun x => (x : Int) == (y : Int)) = decide (y ∈ AOu l c) := by
 rw [B3a, List.any_eq_true, LX]
 constructor
 ·rintro ⟨x, hx, h⟩
  rw [Agq] at h
  rw [← Int.ofNat_inj.1 h]; exact hx
 ·intro h; exact ⟨y, h, by simp⟩
theorem Bs6 {a b : UInt8} : ((a.toNat : Int) == (b.toNat : Int)) = decide (a = b) := by
 rw [B3a, Agq, LX]
 constructor
 ·intro h; exact UInt8.toNat_inj.1 (by omega)
 ·rintro rfl; rfl
theorem le_iff {l : List Abi} {a b : UInt8} (ha : tv l a = true) (hb : tv l b = true) : Le l a b ↔ (a = b ∨ b.toNat = 0 ∨ (a.toNat = 3 ∧ rf b = true) ∨ (rf a = true ∧ b.toNat = 5) ∨ (16 ≤ a.toNat ∧ 16 ≤ b.toNat ∧ (b.toNat - 16) ∈ AOu l ((a.toNat - 16 : Nat) : Int))) := by
 unfold Le
 rw [ha, hb]; simp
theorem AXz (t : UInt8) : rf t = true ↔ (t.toNat = 3 ∨ t.toNat = 4 ∨ t.toNat = 5 ∨ 16 ≤ t.toNat) := by unfold rf; simp
theorem Bmo (l : List Abi) (G : Good l) (a b : UInt8) : AYm l a b = some (decide (Le l a b)) := by
 unfold AYm
 rw [AWz, B2r]
 rcases ha : tv l a with _ | _
 ·rw [Mo (by simp), decide_eq_false (by unfold Le; rw [ha]; simp)]
 rw [Hw (by simp), AWz, B2r]
 rcases hb : tv l b with _ | _
 ·rw [Mo (by simp), decide_eq_false (by unfold Le; rw [hb]; simp)]
 rw [Hw (by simp), Bs6, Bb4, Bb4, Bac, Bac]
 have hle := le_iff ha hb
 have hra := AXz a
 have hrb := AXz b
 simp only [B2r]
 by_cases h1 : a = b
 ·rw [Mo (by simpa using h1), decide_eq_true (hle.2 (Or.inl h1))]
 rw [Hw (by simpa using h1)]
 by_cases h2 : b.toNat = 0
 ·rw [Mo (by rw [Agq]; omega), decide_eq_true (hle.2 (Or.inr (Or.inl h2)))]
 rw [Hw (by rw [Agq]; omega)]
 by_cases h3 : a.toNat = 3
 ·have hra' : rf a = true := hra.2 (Or.inl h3)
  rw [Mo (by rw [Agq]; omega), Mo hra']
  congr 1
  rcases hr : rf b with _ | _
  ·symm; apply decide_eq_false
   intro hl
   have hn : ¬ (b.toNat = 3 ∨ b.toNat = 4 ∨ b.toNat = 5 ∨ 16 ≤ b.toNat) := fun h => by rw [hrb.2 h] at hr; cases hr
   rcases hle.1 hl with h | h | h | h | h
   ·exact h1 h
   ·exact h2 h
   ·rw [hr] at h; exact absurd h.2 (by simp)
   ·omega
   ·omega
  ·rw [decide_eq_true (hle.2 (Or.inr (Or.inr (Or.inl ⟨h3, hr⟩))))]
 rw [Hw (by rw [Agq]; omega)]
 by_cases h5 : b.toNat = 5
 ·have hrb' : rf b = true := hrb.2 (Or.inr (Or.inr (Or.inl h5)))
  rw [Mo (by rw [Agq]; omega)]
  rcases hr : rf a with _ | _
  ·rw [Hw (by simp)]
   congr 1; symm; apply decide_eq_false
   intro hl
   rcases hle.1 hl with h | h | h | h | h
   ·exact h1 h
   ·exact h2 h
   ·exact h3 h.1
   ·rw [hr] at h; exact absurd h.1 (by simp)
   ·omega
  ·rw [Mo rfl, hrb', decide_eq_true (hle.2 (Or.inr (Or.inr (Or.inr (Or.inl ⟨hr, h5⟩)))))]
 rw [Hw (by rw [Agq]; omega)]
 by_cases ha16 : 16 ≤ a.toNat
 ·obtain ⟨e1, e2⟩ := AZh ha ha16
  rw [e1, Mo (by rw [LX]; omega)]
  by_cases hb16 : 16 ≤ b.toNat
  ·obtain ⟨e3, e4⟩ := AZh hb hb16
   rw [e3, Mo (by rw [LX]; omega), Bok l G _ (by omega), Bkh, B2r]
   congr 1
   rw [decide_eq_decide]
   constructor
   ·intro h; exact hle.2 (Or.inr (Or.inr (Or.inr (Or.inr ⟨ha16, hb16, h⟩))))
   ·intro hl
    rcases hle.1 hl with h | h | h | h | h
    ·exact absurd h h1
    ·exact absurd h h2
    ·exact absurd h.1 h3
    ·exact absurd h.2 h5
    ·exact h.2.2
  ·rw [Blx hb16, Hw (by rw [LX]; omega)]
   congr 1; symm; apply decide_eq_false
   intro hl
   rcases hle.1 hl with h | h | h | h | h
   ·exact h1 h
   ·exact h2 h
   ·exact h3 h.1
   ·exact h5 h.2
   ·exact hb16 h.2.1
 ·rw [Blx ha16, Hw (by rw [LX]; omega)]
  congr 1; symm; apply decide_eq_false
  intro hl
  rcases hle.1 hl with h | h | h | h | h
  ·exact h1 h
  ·exact h2 h
  ·exact h3 h.1
  ·exact h5 h.2
  ·exact ha16 h.1
end Go.Proofs.YtfcpkcehecmcpaaGreat
namespace Go.Proofs.YtfcpkcehecmcpaaGreat
open Go Go.RowKit Go.Pv
theorem Bi5 (l : List Abi) (G : Good l) (a b : UInt8) : AQ8 l a b = some (decide (Le l a b)) := by
 have hbig : l.length ≤ 1048576 := G.tab.1
 unfold AQ8
 rw [AX5, B2r]
 rcases ha : tv l a with _ | _
 ·rw [Mo (by simp), decide_eq_false (by unfold Le; rw [ha]; simp)]
 rw [Hw (by simp), AX5, B2r]
 rcases hb : tv l b with _ | _
 ·rw [Mo (by simp), decide_eq_false (by unfold Le; rw [hb]; simp)]
 rw [Hw (by simp), Bs6, Bhb, Bhb]
 have hle := le_iff ha hb
 have hra := AXz a
 have hrb := AXz b
 simp only [B2r]
 by_cases h1 : a = b
 ·rw [Mo (by simpa using h1), decide_eq_true (hle.2 (Or.inl h1)), B2r]
 rw [Hw (by simpa using h1)]
 by_cases h2 : b.toNat = 0
 ·rw [Mo (by rw [Agq]; omega), decide_eq_true (hle.2 (Or.inr (Or.inl h2))), B2r]
 rw [Hw (by rw [Agq]; omega)]
 -- a null, or any
 by_cases h3 : a.toNat = 3 ∧ rf b = true
 ·rw [Mo (by rw [Agq]; omega), Mo h3.2, decide_eq_true (hle.2 (Or.inr (Or.inr (Or.inl h3)))), B2r]
 by_cases h5 : rf a = true ∧ b.toNat = 5
 ·have hrb' : rf b = true := hrb.2 (Or.inr (Or.inr (Or.inl h5.2)))
  rw [decide_eq_true (hle.2 (Or.inr (Or.inr (Or.inr (Or.inl h5))))), hrb', h5.1]
  rw [show ((b.toNat : Int) == 5) = true by rw [Agq]; omega]
  rcases ((a.toNat : Int) == 3) with _ | _ <;> rfl
 have e : (if ((a.toNat : Int) == 3) = true then (if rf b = true then some (.inl true) else if rf a = true then (if ((b.toNat : Int) == 5) = true then some (.inl true) else some (.inr ())) else some (.inr ())) else
   if rf a = true then (if ((b.toNat : Int) == 5) = true then some (.inl true) else some (.inr ())) else some (.inr ()) : Option (Bool ⊕ Unit)) = some (.inr ()) := by
  have e5 : ((b.toNat : Int) == 5) = decide (b.toNat = 5) := ABn _ 5
  have e3 : ((a.toNat : Int) == 3) = decide (a.toNat = 3) := ABn _ 3
  rw [e5, e3]
  by_cases q3 : a.toNat = 3
  ·have hnb : rf b ≠ true := fun h => h3 ⟨q3, h⟩
   rw [Mo (by simpa using q3), Hw hnb]
   by_cases q5 : rf a = true
   ·rw [Mo q5, Hw (by simpa using fun h => h5 ⟨q5, h⟩)]
   ·rw [Hw q5]
  ·rw [Hw (by simpa using q3)]
   by_cases q5 : rf a = true
   ·rw [Mo q5, Hw (by simpa using fun h => h5 ⟨q5, h⟩)]
   ·rw [Hw q5]
 rw [e, B2r]
 dsimp only
 have hfin : Le l a b ↔ (16 ≤ a.toNat ∧ 16 ≤ b.toNat ∧ (b.toNat - 16) ∈ AOu l ((a.toNat - 16 : Nat) : Int)) := by
  rw [hle]
  constructor
  ·rintro (h | h | h | h | h)
   ·exact absurd h h1
   ·exact absurd h h2
   ·exact absurd h h3
   ·exact absurd h h5
   ·exact h
  ·exact fun h => Or.inr (Or.inr (Or.inr (Or.inr h)))
 by_cases ha16 : 16 ≤ a.toNat
 ·rw [Hw (by rw [LX]; omega)]
  by_cases hb16 : 16 ≤ b.toNat
  ·have hal := (AZh ha ha16).2
   rw [Hw (by rw [LX]; omega), Bcu a ha16, Bql l G.right (by omega) _ (by omega) (by omega), B2r]
   have hlen := Bds G.right ((a.toNat - 16 : Nat) + 1) ((a.toNat - 16 : Nat) : Int) (by omega) (by omega) (by omega)
   have hl := Bpq ((AOu l ((a.toNat - 16 : Nat) : Int)).map fun (c : Nat) => (c : Int)) (fun x => x == ((b.toNat - 16 : Nat) : Int)) (body := AQn b ((AOu l ((a.toNat - 16 : Nat) : Int)).map fun (c : Nat) => (c : Int))) (fun i hi => by
    unfold AQn
    have hi' := hi
    rw [B2w] at hi'
    rw [Mo (by rw [LX]; omega), Ayt hi, B2r, Bcu b hb16, wr1 (by omega)]) (by
    unfold AQn
    rw [Hw (by rw [LX]; omega)])
   refine Eq.trans hl ?_
   congr 1
   rw [List.any_map]
   refine Eq.trans (Bkh l _ _) ?_
   rw [decide_eq_decide, hfin]
   exact ⟨fun h => ⟨ha16, hb16, h⟩, fun h => h.2.2⟩
  ·rw [Mo (by rw [LX]; omega), decide_eq_false (fun h => hb16 (hfin.1 h).2.1)]
 ·rw [Mo (by rw [LX]; omega), decide_eq_false (fun h => ha16 (hfin.1 h).1)]
end Go.Proofs.YtfcpkcehecmcpaaGreat
namespace Go.Proofs.YtfcpkcehecmcpaaGreat
open Go Go.RowKit Go.Pv
theorem Bpz {l : List Abi} {n : Nat} (R : AQh l n) : ∀ (k : Nat) (c : Int), c < k → c < n → c < l.length → ∀ x ∈ AOu l c, ∀ y ∈ AOu l (x : Int), y ∈ AOu l c
 | 0, c, hk, hn, hl, x, hx, y, hy => by rw [AT1 (by omega)] at hx; cases hx
 | k + 1, c, hk, hn, hl, x, hx, y, hy => by
  by_cases h0 : 0 ≤ c
  ·obtain ⟨c, rfl⟩ := B28 h0
   rw [AW2 R c (by omega) (by omega)] at hx ⊢
   have hr := R c (by omega) (by omega)
   rcases List.mem_cons.1 hx with rfl | hx
   ·rw [← AW2 R x (by omega) (by omega)]; exact hy
   ·exact List.mem_cons_of_mem _ (Bpz R k l[c].Ar1 (by omega) (by omega) (by omega) x hx y hy)
  ·rw [AT1 (by omega)] at hx; cases hx
theorem Le.refl {l : List Abi} {a : UInt8} (h : tv l a = true) : Le l a a := ⟨h, h, Or.inl rfl⟩
theorem Le.top {l : List Abi} {a b : UInt8} (h : tv l a = true) (hb : b.toNat = 0) : Le l a b := ⟨h, by unfold tv; simp [hb], Or.inr (Or.inl hb)⟩
theorem Le.antisymm {l : List Abi} (G : Good l) {a b : UInt8} (h : Le l a b) (h' : Le l b a) : a = b := by
 have hra := AXz a
 have hrb := AXz b
 obtain ⟨ha, hb, h⟩ := h
 obtain ⟨_, _, h'⟩ := h'
 have key : a.toNat = b.toNat → a = b := fun e => UInt8.toNat_inj.1 e
 rcases h with h | h | h | h | h
 ·exact h
 ·rcases h' with q | q | q | q | q
  ·exact q.symm
  ·exact key (by omega)
  ·omega
  ·have := hrb.1 q.1; omega
  ·omega
 ·have h2 := hrb.1 h.2
  rcases h' with q | q | q | q | q
  ·exact q.symm
  ·omega
  ·exact key (by omega)
  ·omega
  ·omega
 ·have h2 := hra.1 h.1
  rcases h' with q | q | q | q | q
  ·exact q.symm
  ·omega
  ·omega
  ·exact key (by omega)
  ·omega
 ·rcases h' with q | q | q | q | q
  ·exact q.symm
  ·omega
  ·omega
  ·omega
  ·have e1 := (AZh ha h.1).2
   have e2 := (AZh hb h.2.1).2
   have h1 := (Bak G.right (a.toNat + 1) ((a.toNat - 16 : Nat) : Int) (by omega) (by omega) (by omega) _ h.2.2).1
   have h2 := (Bak G.right (b.toNat + 1) ((b.toNat - 16 : Nat) : Int) (by omega) (by omega) (by omega) _ q.2.2).1
   exact key (by omega)
structure Lub (l : List Abi) (a b m : UInt8) : Prop where
 left : Le l a m
 right : Le l b m
 least : ∀ t, Le l a t → Le l b t → Le l m t
def Bch (l : List Abi) (a b : UInt8) : List UInt8 → UInt8 → UInt8
 | [], s => s
 | t :: r, s => Bch l a b r (if Le l a t ∧ Le l b t ∧ Le l t s then t else s)
theorem Bj1 {l : List Abi} (G : Good l) {a b m : UInt8} (h : Lub l a b m) : ∀ (L : List UInt8) (s : UInt8), Le l a s → Le l b s → (s = m ∨ m ∈ L) → Bch l a b L s = m
 | [], s, _, _, hm => by
  rcases hm with h | h
  ·exact h
  ·cases h
 | t :: r, s, ha, hb, hm => by
  unfold Bch
  by_cases hc : Le l a t ∧ Le l b t ∧ Le l t s
  ·rw [Mo hc]
   refine Bj1 G h r t hc.1 hc.2.1 ?_
   rcases hm with rfl | hm
   ·exact Or.inl (Le.antisymm G hc.2.2 (h.least _ hc.1 hc.2.1))
   ·rcases List.mem_cons.1 hm with rfl | hm
    ·exact Or.inl rfl
    ·exact Or.inr hm
  ·rw [Hw hc]
   refine Bj1 G h r s ha hb ?_
   rcases hm with hm | hm
   ·exact Or.inl hm
   ·rcases List.mem_cons.1 hm with rfl | hm
    ·exact absurd ⟨h.left, h.right, h.least _ ha hb⟩ hc
    ·exact Or.inr hm
theorem Bnx {l : List Abi} {a b : UInt8} (h : tv l a = false ∨ tv l b = false) : ∀ (L : List UInt8) (s : UInt8), Bch l a b L s = s
 | [], s => rfl
 | t :: r, s => by
  unfold Bch
  rw [Hw, Bnx h r s]
  rintro ⟨h1, h2, _⟩
  rcases h with h | h
  ·rw [h1.1] at h; cases h
  ·rw [h2.1] at h; cases h
end Go.Proofs.YtfcpkcehecmcpaaGreat
namespace Go.Proofs.YtfcpkcehecmcpaaGreat
open Go Go.RowKit Go.Pv
def cty (c : Nat) : UInt8 := AQt (16 + (c : Int))
theorem Bg0 {c : Nat} (h : c ≤ 32) : (cty c).toNat = 16 + c := by
 unfold cty
 have := Bi3 (n := 16 + c) (by omega)
 rw [← this]; congr 2
def meet (L M : List Nat) : UInt8 := match L.find? (fun c => decide (c ∈ M)) with
 | some c => cty c
 | none => 5
theorem Boq (M : List Nat) : ∀ (L : List Nat), (∀ c ∈ L, c < 32) → Bei (fun s c => if c ∈ M then cty c else s) (fun s c => !decide (c ∈ M)) L (5 : UInt8) = meet L M
 | [], _ => rfl
 | c :: r, h => by
  rw [Bei]
  unfold meet
  rw [List.find?_cons]
  by_cases hc : c ∈ M
  ·rw [Hw (by simp [hc]), Mo hc, decide_eq_true hc]
  ·rw [Mo (by simp [hc]), Hw hc, decide_eq_false hc]
   exact Boq M r fun x hx => h x (by simp [hx])
theorem Bsz (l : List Abi) (G : Good l) (x y : Int) (hx : x < l.length) (hy : y < l.length) : ARy l x l y 5 = some (meet (AOu l x) (AOu l y)) := by
 have hfew := G.few
 have key := Bcc G.right (body := AN9 l l y) (fun s c => if c ∈ AOu l y then cty c else s) (fun s c => !decide (c ∈ AOu l y)) (fun _ _ => True) (fun s c hc hcn hI => by
  unfold AN9 AXx
  dsimp only
  have hr := G.right c hc hcn
  rw [Mo (by rw [LX]; omega), Mo (by rw [LX]; omega), Bok l G y hy, B2r, Bkh]
  by_cases hm : c ∈ AOu l y
  ·rw [decide_eq_true hm, Mo rfl, B2r, Hw (by simp), Hw (by simp), Mo hm, show (AQt (c : Int)).toNat = c from Bi3 (by omega)]
   rfl
  ·rw [decide_eq_false hm, Hw (by simp), B2r, Mo rfl, Ayt hc, B2r, Hw (by rw [LX]; omega), Mo (by simp), Hw hm]) (fun _ _ _ _ _ => trivial) (fun s c hc => by
  unfold AN9
  dsimp only
  rw [Hw (by rw [LX]; omega)]) (x.toNat + 1) x 5 (by omega) hx hx trivial
 unfold ARy
 rw [key, B2r]
 simp only
 rw [Boq _ _ fun c hc => by have := (Bak G.right (x.toNat + 1) x (by omega) hx hx c hc).2; omega]
def AZp (l : List Abi) (a b : UInt8) : UInt8 :=
 if tv l a = false ∨ tv l b = false then 0 else if Le l a b then b else if Le l b a then a else if rf a = false ∨ rf b = false then 0 else
 if 16 ≤ a.toNat ∧ 16 ≤ b.toNat then meet (AOu l ((a.toNat - 16 : Nat) : Int)) (AOu l ((b.toNat - 16 : Nat) : Int)) else 5
theorem Buq (l : List Abi) (G : Good l) (a b : UInt8) : AZm l a b = some (AZp l a b) := by
 have hfew := G.few
 unfold AZm AZp
 rw [AWz, B2r]
 rcases ha : tv l a with _ | _
 ·rw [Mo (by simp), Mo (Or.inl rfl)]
 rw [Hw (by simp), AWz, B2r]
 rcases hb : tv l b with _ | _
 ·rw [Mo (by simp), Mo (Or.inr rfl)]
 rw [Hw (c := (!true) = true) (by simp), Hw (c := true = false ∨ true = false) (by simp), Bmo l G, B2r]
 by_cases h1 : Le l a b
 ·rw [Mo (by simpa using h1), Mo h1]
 rw [Hw (by simpa using h1), Hw h1, Bmo l G, B2r]
 by_cases h2 : Le l b a
 ·rw [Mo (by simpa using h2), Mo h2]
 rw [Hw (by simpa using h2), Hw h2, Bb4, B2r]
 rcases ra : rf a with _ | _
 ·rw [Mo (by simp), Mo (Or.inl rfl)]
 rw [Hw (c := (!true) = true) (by simp), Bb4, B2r]
 rcases rb : rf b with _ | _
 ·rw [Mo (by simp), Mo (Or.inr rfl)]
 rw [Hw (c := (!true) = true) (by simp), Hw (c := true = false ∨ true = false) (by simp), Bac, B2r, Bac, B2r]
 by_cases h3 : 16 ≤ a.toNat
 ·obtain ⟨e1, e2⟩ := AZh ha h3
  rw [e1, Mo (by rw [LX]; omega)]
  by_cases h4 : 16 ≤ b.toNat
  ·obtain ⟨e3, e4⟩ := AZh hb h4
   rw [e3, Mo (by rw [LX]; omega), Mo ⟨h3, h4⟩, Bsz l G _ _ (by omega) (by omega), B2r]
  ·rw [Blx h4, Hw (by rw [LX]; omega), Hw (by omega)]
 ·rw [Blx h3, Hw (by rw [LX]; omega), Hw (by omega)]
end Go.Proofs.YtfcpkcehecmcpaaGreat
namespace Go.Proofs.YtfcpkcehecmcpaaGreat
open Go Go.RowKit Go.Pv
theorem Bjj {l : List Abi} {n : Nat} (R : AQh l n) : ∀ (k : Nat) (c : Int) (us bs : List Nat) (x : Nat), c < k → c < n → c < l.length → AOu l c = us ++ x :: bs → AOu l (x : Int) = x :: bs
 | 0, c, us, bs, x, hk, hn, hl, h => by rw [AT1 (by omega)] at h; simp at h
 | k + 1, c, us, bs, x, hk, hn, hl, h => by
  by_cases h0 : 0 ≤ c
  ·obtain ⟨c, rfl⟩ := B28 h0
   have hr := R c (by omega) (by omega)
   have hc := AW2 R c (by omega) (by omega)
   cases us with
   | nil =>
    rw [B22] at h
    have : c = x := by rw [hc] at h; injection h
    rw [← this] at h ⊢
    exact h
   | cons a us =>
    rw [hc, List.cons_append] at h
    injection h with _ h
    exact Bjj R k l[c].Ar1 us bs x (by omega) (by omega) (by omega) h
  ·rw [AT1 (by omega)] at h; simp at h
theorem Bv0 {l : List Abi} {c : Nat} (h : c < l.length) (h32 : c ≤ 32) : tv l (cty c) = true := by
 unfold tv
 rw [Bg0 h32]
 simp
 omega
theorem tv5 (l : List Abi) : tv l 5 = true := by unfold tv; rfl
theorem le5 {l : List Abi} {a : UInt8} (h : tv l a = true) (hr : rf a = true) : Le l a 5 := ⟨h, tv5 l, Or.inr (Or.inr (Or.inr (Or.inl ⟨hr, rfl⟩)))⟩
theorem Bno (l : List Abi) (G : Good l) {a b : UInt8} (ha : tv l a = true) (hb : tv l b = true) : Lub l a b (AZp l a b) := by
 have hfew := G.few
 have hra := AXz a
 have hrb := AXz b
 unfold AZp
 rw [Hw (by rw [ha, hb]; simp)]
 by_cases h1 : Le l a b
 ·rw [Mo h1]; exact ⟨h1, Le.refl hb, fun t _ h => h⟩
 rw [Hw h1]
 by_cases h2 : Le l b a
 ·rw [Mo h2]; exact ⟨Le.refl ha, h2, fun t h _ => h⟩
 rw [Hw h2]
 have t0 : tv l 0 = true := by unfold tv; rfl
 by_cases h3 : rf a = false ∨ rf b = false
 ·rw [Mo h3]
  refine ⟨Le.top ha rfl, Le.top hb rfl, fun t hat hbt => Le.top t0 ?_⟩
  rcases h3 with h3 | h3
  ·have hn : ¬ (a.toNat = 3 ∨ a.toNat = 4 ∨ a.toNat = 5 ∨ 16 ≤ a.toNat) := fun h => by rw [hra.2 h] at h3; cases h3
   rcases hat.2.2 with q | q | q | q | q
   ·rw [← q] at hbt; exact absurd hbt h2
   ·exact q
   ·omega
   ·rw [h3] at q; cases q.1
   ·omega
  ·have hn : ¬ (b.toNat = 3 ∨ b.toNat = 4 ∨ b.toNat = 5 ∨ 16 ≤ b.toNat) := fun h => by rw [hrb.2 h] at h3; cases h3
   rcases hbt.2.2 with q | q | q | q | q
   ·rw [← q] at hat; exact absurd hat h1
   ·exact q
   ·omega
   ·rw [h3] at q; cases q.1
   ·omega
 rw [Hw h3]
 have ra : rf a = true := by rcases h : rf a with _ | _; exact absurd (Or.inl h) h3; rfl
 have rb : rf b = true := by rcases h : rf b with _ | _; exact absurd (Or.inr h) h3; rfl
 have na3 : a.toNat ≠ 3 := fun h => h1 ⟨ha, hb, Or.inr (Or.inr (Or.inl ⟨h, rb⟩))⟩
 have nb3 : b.toNat ≠ 3 := fun h => h2 ⟨hb, ha, Or.inr (Or.inr (Or.inl ⟨h, ra⟩))⟩
 have na5 : a.toNat ≠ 5 := fun h => h2 ⟨hb, ha, Or.inr (Or.inr (Or.inr (Or.inl ⟨rb, h⟩)))⟩
 have nb5 : b.toNat ≠ 5 := fun h => h1 ⟨ha, hb, Or.inr (Or.inr (Or.inr (Or.inl ⟨ra, h⟩)))⟩
 have hra' := hra.1 ra
 have hrb' := hrb.1 rb
 -- what both are of
 have ub : ∀ t, Le l a t → Le l b t → t.toNat = 0 ∨ t.toNat = 5 ∨ (16 ≤ a.toNat ∧ 16 ≤ b.toNat ∧ 16 ≤ t.toNat ∧ (t.toNat - 16) ∈ AOu l ((a.toNat - 16 : Nat) : Int) ∧ (t.toNat - 16) ∈ AOu l ((b.toNat - 16 : Nat) : Int)) := by
  intro t hat hbt
  rcases hat.2.2 with q | q | q | q | q
  ·rw [← q] at hbt; exact absurd hbt h2
  ·exact Or.inl q
  ·exact absurd q.1 na3
  ·exact Or.inr (Or.inl q.2)
  ·rcases hbt.2.2 with p | p | p | p | p
   ·rw [← p] at hat; exact absurd hat h1
   ·exact Or.inl p
   ·exact absurd p.1 nb3
   ·exact Or.inr (Or.inl p.2)
   ·exact Or.inr (Or.inr ⟨q.1, p.1, q.2.1, q.2.2, p.2.2⟩)
 have l5 : ∀ t : UInt8, t.toNat = 5 → t = 5 := fun t h => UInt8.toNat_inj.1 h
 by_cases h16 : 16 ≤ a.toNat ∧ 16 ≤ b.toNat
 ·rw [Mo h16]
  have e2 := (AZh ha h16.1).2
  have e4 := (AZh hb h16.2).2
  unfold meet
  rcases hf : (AOu l ((a.toNat - 16 : Nat) : Int)).find? (fun c => decide (c ∈ AOu l ((b.toNat - 16 : Nat) : Int))) with _ | c
  ·refine ⟨le5 ha ra, le5 hb rb, fun t hat hbt => ?_⟩
   rcases ub t hat hbt with q | q | q
   ·exact Le.top (tv5 l) q
   ·rw [l5 t q]; exact Le.refl (tv5 l)
   ·have := (List.find?_eq_none.1 hf) _ q.2.2.2.1
    exact absurd (decide_eq_true q.2.2.2.2) this
  ·obtain ⟨hc, us, bs, hl, hn⟩ := List.find?_eq_some_iff_append.1 hf
   have hcM := of_decide_eq_true hc
   have hcL : c ∈ AOu l ((a.toNat - 16 : Nat) : Int) := by rw [hl]; simp
   have hcl := (Bak G.right (a.toNat + 1) _ (by omega) (by omega) (by omega) c hcL).2
   have htv := Bv0 hcl (by omega)
   have hn16 := Bg0 (c := c) (by omega)
   show Lub l a b (cty c)
   have hsuf := Bjj G.right (a.toNat + 1) _ us bs c (by omega) (by omega) (by omega) hl
   refine ⟨⟨ha, htv, Or.inr (Or.inr (Or.inr (Or.inr ⟨h16.1, by omega, by rw [hn16, Nat.add_sub_cancel_left]; exact hcL⟩)))⟩, ⟨hb, htv, Or.inr (Or.inr (Or.inr (Or.inr ⟨h16.2, by omega, by rw [hn16, Nat.add_sub_cancel_left]; exact hcM⟩)))⟩, fun t hat hbt => ?_⟩
   rcases ub t hat hbt with q | q | q
   ·exact Le.top htv q
   ·rw [l5 t q]; exact le5 htv ((AXz _).2 (by omega))
   ·refine ⟨htv, hat.2.1, Or.inr (Or.inr (Or.inr (Or.inr ⟨by omega, q.2.2.1, ?_⟩)))⟩
    rw [hn16, Nat.add_sub_cancel_left, hsuf]
    have hm := q.2.2.2.1
    rw [hl] at hm
    rcases List.mem_append.1 hm with hm | hm
    ·have := hn _ hm
     rw [decide_eq_true q.2.2.2.2] at this
     cases this
    ·exact hm
 ·rw [Hw h16]
  refine ⟨le5 ha ra, le5 hb rb, fun t hat hbt => ?_⟩
  rcases ub t hat hbt with q | q | q
  ·exact Le.top (tv5 l) q
  ·rw [l5 t q]; exact Le.refl (tv5 l)
  ·exact absurd ⟨q.1, q.2.1⟩ h16
end Go.Proofs.YtfcpkcehecmcpaaGreat
namespace Go.Proofs.YtfcpkcehecmcpaaGreat
open Go Go.RowKit Go.Pv
def AYh (l : List Abi) : List UInt8 := ((List.range 256).filter fun (i : Nat) => tv l (AQt (i : Int))).map fun (i : Nat) => AQt (i : Int)
theorem By5 (l : List Abi) : AU4 l = some (AYh l) := by
 have := ATa 256 (body := AQr l) (fun n => (((List.range n).filter fun (i : Nat) => tv l (AQt (i : Int))).map fun (i : Nat) => AQt (i : Int), (n : Int))) (r := AYh l) (fun i hi => by
  unfold AQr
  have hlen : ((List.range i).filter fun (i : Nat) => tv l (AQt (i : Int))).length ≤ i := by
   have := B24 (fun (i : Nat) => tv l (AQt (i : Int))) (List.range i)
   rw [List.length_range] at this
   exact this
  dsimp only
  rw [Mo (by rw [LX]; omega), AX5, B2r, List.range_succ, List.filter_append, List.map_append, wr1 (by omega)]
  rcases ht : tv l (AQt (i : Int)) with _ | _
  ·rw [Hw (by simp), List.filter_cons, ht]
   simp
  ·rw [Mo rfl, AL0 (by simp only [B2w, B2x]; omega), B2r, List.filter_cons, ht]
   simp) (by
  unfold AQr
  dsimp only
  rw [Hw (by rw [LX]; omega)]
  rfl) (s0 := ([], 0)) rfl
 unfold AU4
 rw [this, B2r]
theorem Boe (l : List Abi) (a b : UInt8) (t : UInt8) : ∀ (L : List UInt8) (s : UInt8), Bch l a b (L ++ [t]) s = if Le l a t ∧ Le l b t ∧ Le l t (Bch l a b L s) then t else Bch l a b L s
 | [], s => rfl
 | x :: L, s => by
  rw [List.cons_append, Bch, Boe l a b t L]
  rfl
theorem Bxb {l : List Abi} {t : UInt8} (h : tv l t = true) : t ∈ AYh l := by
 unfold AYh
 have e : AQt (t.toNat : Int) = t := UInt8.toNat_inj.1 (Bi3 t.toNat_lt)
 refine List.mem_map.2 ⟨t.toNat, List.mem_filter.2 ⟨List.mem_range.2 t.toNat_lt, ?_⟩, e⟩
 rw [e]; exact h
theorem Bua (l : List Abi) (G : Good l) (a b : UInt8) : ATp l a b = some (AZp l a b) := by
 have hlen : (AYh l).length ≤ 256 := by
  unfold AYh
  rw [B2w]
  have := B24 (fun (i : Nat) => tv l (AQt (i : Int))) (List.range 256)
  rw [List.length_range] at this
  exact this
 have hl := ATa (AYh l).length (body := APn l a b (AYh l)) (fun i => (Bch l a b ((AYh l).take i) 0, (i : Int))) (r := Bch l a b (AYh l) 0) (fun i hi => by
  unfold APn
  dsimp only
  rw [Mo (by rw [LX]; omega), Ayt hi, B2r, Bi5 l G, B2r, Bi5 l G, Bi5 l G, wr1 (by omega),
   show (AYh l).take (i + 1) = (AYh l).take i ++ [(AYh l)[i]] by rw [List.take_add_one, B2u hi]; rfl, Boe]
  by_cases h1 : Le l a (AYh l)[i]
  ·rw [Mo (by simpa using h1), B2r]
   by_cases h2 : Le l b (AYh l)[i]
   ·rw [Mo (by simpa using h2), B2r]
    by_cases h3 : Le l (AYh l)[i] (Bch l a b ((AYh l).take i) 0)
    ·rw [Mo (by simpa using h3), Mo ⟨h1, h2, h3⟩]
    ·rw [Hw (by simpa using h3), Hw (fun h => h3 h.2.2)]
   ·rw [Hw (by simpa using h2), Hw (fun h => h2 h.2.1)]
  ·rw [Hw (by simpa using h1), Hw (fun h => h1 h.1)]) (by
  unfold APn
  dsimp only
  rw [Hw (by rw [LX]; omega), B26]) (s0 := (0, 0)) rfl
 unfold ATp
 rw [By5, B2r, hl, B2r]
 congr 1
 by_cases h : tv l a = false ∨ tv l b = false
 ·rw [Bnx h]
  unfold AZp
  rw [Mo h]
 ·have ha : tv l a = true := by rcases q : tv l a with _ | _; exact absurd (Or.inl q) h; rfl
  have hb : tv l b = true := by rcases q : tv l b with _ | _; exact absurd (Or.inr q) h; rfl
  have hm := Bno l G ha hb
  exact Bj1 G hm _ _ (Le.top ha rfl) (Le.top hb rfl) (Or.inr (Bxb hm.left.2.1))
end Go.Proofs.YtfcpkcehecmcpaaGreat
namespace Go.Proofs.YtfcpkcehecmcpaaGreat
open Go Go.RowKit Go.Pv
theorem Byi (e : Adb) (x : Am7) : ARr e x = AOm e x := by
 funext s
 unfold ARr AOm
 simp only [Bgs, Bbv, B2r]
theorem Bxd (e : Adb) : ARv e = AOk e := by
 funext s
 unfold ARv AOk
 simp only [Bgs, Bbv, B2r, Byi]
theorem B09 (e : Adb) (h : AS0 e.Classes) : AVb e = AR7 e := by
 unfold AVb AR7
 rw [Bn6 _ h, Bce _ h, Bxd]
theorem Bv7 (l : List Abi) (ps : List UInt8) : ATy l ps = AN0 l ps := by
 funext s
 unfold ATy AN0
 by_cases h : decide (s.2 < (ps.length : Int)) = true
 ·rw [Mo h, Mo h]
  rcases idx ps s.2 with _ | t
  ·rfl
  ·simp only [B2r, AWz, Bjl]
   have e0 : ((t.toNat : Int) == 0) = decide (t.toNat = 0) := ABn _ 0
   have e3 : ((t.toNat : Int) == 3) = decide (t.toNat = 3) := ABn _ 3
   rw [e0, e3]
   unfold st
   rcases tv l t with _ | _
   ·simp
   ·by_cases h0 : t.toNat = 0
    ·simp [h0]
    ·by_cases h3 : t.toNat = 3
     ·simp [h3]
     ·simp [h0, h3]
 ·rw [Hw h, Hw h]
theorem start_eq (l : List Abi) (ps : List UInt8) (n : Int) : AWr l ps n = AO2 l ps n := by
 unfold AWr AO2 Bay ATk
 rw [Bv7]
def Bgd (l : List Abi) (s : Am7) : Bool := s.Ars.all (st l) && (decide (s.Result.toNat = 0) || st l s.Result)
theorem Bfv (l : List Abi) (s : Am7) (h : s.Ars.length ≤ 8) : AS4 l s = some (Bgd l s) := by
 unfold AS4 Bgd
 have hl := ASv (R := Bool ⊕ Unit) s.Ars.length (body := AO5 l s) (fun i => (AXq s.Ars (fun t => !st l t) i).map fun _ => .inl false) (r0 := .inr ()) (fun i hi => by
  unfold AO5
  rw [Mo (by rw [LX]; omega), Ayt hi, B2r, Bej, B2r, wr1 (by omega), Baf hi]
  split <;> rfl) (by
  unfold AO5
  rw [Hw (by rw [LX]; omega)])
 rw [hl, B2r, AV7]
 have hn := Bdp s.Ars fun t => !st l t
 have e0 : ((s.Result.toNat : Int) == 0) = decide (s.Result.toNat = 0) := ABn _ 0
 rw [Bej, B2r, Mo (by rw [LX]; omega), e0]
 rcases hf : (List.range s.Ars.length).findSome? (AXq s.Ars fun t => !st l t) with _ | r
 ·have ha : s.Ars.all (st l) = true := by
   have := hn.1 hf
   rw [List.all_eq_true]
   intro t ht
   rw [List.any_eq_false] at this
   simpa using this t ht
  rw [ha]
  by_cases h0 : s.Result.toNat = 0
  ·simp [h0]
  ·simp [h0]
 ·have ha : s.Ars.all (st l) = false := by
   rcases hb : s.Ars.all (st l) with _ | _
   ·rfl
   ·rw [List.all_eq_true] at hb
    have : (s.Ars.any fun t => !st l t) = false := by
     rw [List.any_eq_false]
     intro t ht; simp [hb t ht]
    rw [hn.2 this] at hf; cases hf
  rw [ha]; rfl
theorem Bxa (e : Adb) (ps : List UInt8) (h : ps.length ≤ 8) : AGx ps e = some (ps.any fun t => !st e.Classes t) := by
 unfold AGx
 obtain ⟨r, h1, h2, _⟩ := Ba7 ps (fun t => !st e.Classes t) (body := A7p ps e) (fun i hi => by
  unfold A7p
  rw [Mo (by rw [LX]; omega), Ayt hi, B2r, Br6, B2r, wr1 (by omega)]) (by
  unfold A7p
  rw [Hw (by rw [LX]; omega)])
 have h1' : ANy ps e = some r := h1
 rw [show (⟨e.Classes, e.Akq, e.Fn⟩ : Adb) = e from rfl, h1', B2r, h2]
theorem Bz2 (e : Adb) (hs : e.Akq.length ≤ 64) : AWp e = AM7 e := by
 funext s
 unfold AWp AM7
 by_cases h : decide (s < (e.Akq.length : Int)) = true
 ·rw [Mo h, Mo h]
  rcases hx : idx e.Akq s with _ | x
  ·rfl
  ·simp only [B2r]
   by_cases h8 : decide ((x.Ars.length : Int) > 8) = true
   ·rw [Mo h8, Mo h8]
   ·rw [Hw h8, Hw h8]
    have h8' : x.Ars.length ≤ 8 := by rw [LX] at h8; omega
    rw [Bxa _ _ h8', Bfv _ _ h8', B2r, B2r, Br6, B2r]
    have e0 : ((x.Result.toNat : Int) != 0) = !decide (x.Result.toNat = 0) := by
     rw [show ((x.Result.toNat : Int) != 0) = !((x.Result.toNat : Int) == 0) from rfl]
     have : ((x.Result.toNat : Int) == 0) = decide (x.Result.toNat = 0) := ABn _ 0
     rw [this]
    rw [e0]
    unfold Bgd
    dsimp only
    have ha : (x.Ars.any fun t => !st e.Classes t) = !(x.Ars.all (st e.Classes)) := by
     rw [B3a, List.any_eq_true, Bool.not_eq_true', List.all_eq_false]
     simp
    rw [ha]
    rcases x.Ars.all (st e.Classes) with _ | _
    ·simp
    ·rcases st e.Classes x.Result with _ | _ <;> by_cases h0 : x.Result.toNat = 0 <;> simp [h0]
 ·rw [Hw h, Hw h]
theorem B05 (e : Adb) (n : Int) (h : AS0 e.Classes) : Baa e n = AP3 e n := by
 unfold Baa AP3
 rw [Bn6 _ h, Bce _ h, B2r, B2r]
 by_cases h1 : ((AZs e.Classes).2 != 0) = true
 ·rw [Mo h1, Mo h1]
 rw [Hw h1, Hw h1]
 by_cases h2 : decide ((e.Akq.length : Int) > 64) = true
 ·rw [Mo h2, Mo h2]
 rw [Hw h2, Hw h2, Bz2 e (by rw [LX] at h2; omega)]
 simp only [start_eq]
end Go.Proofs.YtfcpkcehecmcpaaGreat
namespace Go.Proofs.YtfcpkcehecmcpaaGreat
open Go Go.RowKit Go.Pv
structure AOl (e : Adb) : Prop where
 ok : (AZs e.Classes).2 = 0
 good : Good e.Classes
 few : e.Akq.length ≤ 64
 sigs : ∀ s ∈ e.Akq, s.Ars.length ≤ 8 ∧ Bgd e.Classes s = true
 fn : 0 ≤ e.Fn ∧ e.Fn < e.Akq.length
def Bhl (e : Adb) (i : Nat) : Option Int := match e.Akq[i]? with
 | none => none
 | some s => if 8 < s.Ars.length then some 4 else if Bgd e.Classes s = false then some 22 else none
theorem B0p (e : Adb) (n : Int) (h : AS0 e.Classes) (hm : AP3 e n = some 0) : AOl e ∧ ∃ s f, idx e.Akq e.Fn = some s ∧ AO2 e.Classes s.Ars n = some (f, 0) := by
 unfold AP3 at hm
 rw [Bce _ h, B2r] at hm
 by_cases h1 : ((AZs e.Classes).2 != 0) = true
 ·rw [Mo h1] at hm
  rw [Ale] at h1
  exact absurd (Option.some.inj hm) h1
 rw [Hw h1] at hm
 have hg := Bzg h (by simpa using h1)
 by_cases h2 : decide ((e.Akq.length : Int) > 64) = true
 ·rw [Mo h2] at hm; cases hm
 rw [Hw h2] at hm
 have h64 : e.Akq.length ≤ 64 := by rw [LX] at h2; omega
 have hl := ASv (R := Int ⊕ Unit) e.Akq.length (body := AM7 e) (fun i => (Bhl e i).map .inl) (r0 := .inr ()) (fun i hi => by
  unfold AM7 Bhl
  rw [Mo (by rw [LX]; omega), Ayt hi, B2r, B2u hi, B2r]
  dsimp only
  by_cases h8 : 8 < e.Akq[i].Ars.length
  ·rw [Mo (by rw [LX]; omega), Mo h8]; rfl
  ·rw [Hw (by rw [LX]; omega), Hw h8, Bfv _ _ (by omega), B2r, wr1 (by omega)]
   rcases Bgd e.Classes e.Akq[i] with _ | _ <;> rfl) (by
  unfold AM7
  rw [Hw (by rw [LX]; omega)])
 rw [hl, B2r, AV7, Bf2] at hm
 rcases hf : (List.range e.Akq.length).findSome? (Bhl e) with _ | r
 ·rw [hf] at hm
  dsimp only at hm
  by_cases h3 : decide (e.Fn < 0) = true
  ·rw [Mo h3] at hm; cases hm
  rw [Hw h3] at hm
  by_cases h4 : decide (e.Fn ≥ (e.Akq.length : Int)) = true
  ·rw [Mo h4] at hm; cases hm
  rw [Hw h4] at hm
  rw [LX] at h3 h4
  obtain ⟨s, hs, hm⟩ := bind_ok hm
  obtain ⟨f, hst, hm⟩ := bind_ok hm
  refine ⟨⟨by simpa using h1, hg, h64, fun s hs => ?_, by omega⟩, s, f.1, hs, ?_⟩
  ·obtain ⟨i, hi, rfl⟩ := List.mem_iff_getElem.1 hs
   have := (List.findSome?_eq_none_iff.1 hf) i (List.mem_range.2 hi)
   unfold Bhl at this
   rw [B2u hi] at this
   dsimp only at this
   split at this
   ·cases this
   ·split at this
    ·cases this
    ·rename_i q1 q2
     exact ⟨by omega, by simpa using q2⟩
  ·rw [hst]
   have := Option.some.inj hm
   rw [← this]
 ·rw [hf] at hm
  dsimp only at hm
  obtain ⟨i, hi, hr⟩ := List.exists_of_findSome?_eq_some hf
  unfold Bhl at hr
  have := Option.some.inj hm
  subst this
  split at hr
  ·cases hr
  ·repeat' split at hr
   all_goals cases hr
end Go.Proofs.YtfcpkcehecmcpaaGreat
namespace Go.Proofs.YtfcpkcehecmcpaaGreat
open Go Go.RowKit Go.Pv
theorem Bnq (e : Adb) (s : Am7) (h8 : s.Ars.length ≤ 8) (h : s.Ars.all (st e.Classes) = true) : Aot (AOm e s) 0 = some (.inr ()) := by
 refine AVz s.Ars (fun i hi => ?_) ?_
 ·unfold AOm
  have ht := (List.all_eq_true.1 h) _ (B21 hi)
  rw [Mo (by rw [LX]; omega), Ayt hi, B2r, Bbv, B2r, ht, Hw (by simp), wr1 (by omega)]
 ·unfold AOm
  rw [Hw (by rw [LX]; omega)]
theorem Bsv (e : Adb) (h : AOl e) : AR7 e = some true := by
 unfold AR7
 have hf := h.fn
 have hc := h.ok
 have h64 := h.few
 rw [Bce _ h.good.tab, B2r, hc, Hw (by simp), Hw (by rw [LX]; omega), Hw (by rw [LX]; omega), Hw (by rw [LX]; omega)]
 have hl : Aot (AOk e) 0 = some (.inr ()) := by
  refine AVz e.Akq (fun i hi => ?_) ?_
  ·obtain ⟨h8, hs⟩ := h.sigs _ (B21 hi)
   unfold Bgd at hs
   rw [B29, B3b, LX] at hs
   unfold AOk
   rw [Mo (by rw [LX]; omega), Ayt hi, B2r, Hw (by rw [LX]; omega), Bbv, B2r]
   by_cases h0 : e.Akq[i].Result.toNat = 0
   ·rw [Hw (by rw [Ale]; omega), B2r]
    dsimp only
    rw [Bnq e _ h8 hs.1, B2r, wr1 (by omega)]
   ·have hr : st e.Classes e.Akq[i].Result = true := by rcases hs.2 with q | q; exact absurd q h0; exact q
    rw [Mo (by rw [Ale]; omega), hr, Hw (by simp), B2r]
    dsimp only
    rw [Bnq e _ h8 hs.1, B2r, wr1 (by omega)]
  ·unfold AOk
   rw [Hw (by rw [LX]; omega)]
 rw [hl]
 rfl
end Go.Proofs.YtfcpkcehecmcpaaGreat
