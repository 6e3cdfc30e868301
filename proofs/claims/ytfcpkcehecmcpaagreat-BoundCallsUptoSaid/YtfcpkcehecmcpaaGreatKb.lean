/- Lemmas, walks and laws that the row of this claim rests on, merged into few texts: part 2. -/
import Derived.Shelf.Sort.Plain
import Derived.Shelf.Slices.In.SortNone
import Derived.Shelf.Slices.CompactI
import Derived.Shelf.SlIterI.Nil
import Derived.Test.YtfcpkcehecmcpaaGreatKa
set_option linter.unusedVariables false
set_option linter.unusedSimpArgs false
open Option renaming bind_some → AM9, map_some → ANa, bind_eq_some_iff → ANb
open List renaming getElem?_eq_getElem → ANc, length_append → ANd, length_map → ANe, length_singleton → ANf, mem_append → ANg, mem_cons → ANh, mem_range → ANi, getElem_mem → ANj, nil_append → ANk, append_assoc → ANl, length_filter_le → ANm, findSome?_eq_none_iff → ANn, take_length → ANo
open Int renaming toNat_natCast → ANp, eq_ofNat_of_zero_le → ANq
open Bool renaming and_eq_true → ANr, eq_iff_iff → ANs, or_eq_true → ANt
namespace Go.Pv
open Go Go.RowKit
section
variable {α : Type} {a b c d e f g h i j x : α} {l : List α}
theorem m0 : x ∈ x :: l := .head _
theorem m1 : x ∈ a :: x :: l := .tail _ m0
theorem m2 : x ∈ a :: b :: x :: l := .tail _ m1
theorem m3 : x ∈ a :: b :: c :: x :: l := .tail _ m2
theorem m4 : x ∈ a :: b :: c :: d :: x :: l := .tail _ m3
theorem m5 : x ∈ a :: b :: c :: d :: e :: x :: l := .tail _ m4
theorem m6 : x ∈ a :: b :: c :: d :: e :: f :: x :: l := .tail _ m5
theorem m7 : x ∈ a :: b :: c :: d :: e :: f :: g :: x :: l := .tail _ m6
theorem m8 : x ∈ a :: b :: c :: d :: e :: f :: g :: h :: x :: l := .tail _ m7
end
theorem Fr.sb {a : Act} {n : Nat} {m m' : Km} (h : Fr a n m) (hs : Zb m' m := by (repeat refine ⟨rfl, ?_⟩); exact trivial) : Fr a n m' := h.sub hs
def X5 (T : JD) (m : Km) (cs : List Value) (n : Nat) (o : Oper) : Option (Nat × Nat × Value) :=
 match o.op with
 | .load t x => match ev m x with
  | some (.pointer (some ⟨g, off, none⟩)) => match Nx o n with
   | some d => bif Sc T.ng t then (match cs[off]? with
     | some v => some (g, d, v)
     | none => none) else (match off with
     | 0 => (match YU T.ag t with
      | some k => bif Nat.beq cs.length k then some (g, d, .agg ⟨cs⟩) else none
      | none => none)
     | _ => none)
   | none => none
  | _ => none
 | _ => none
def ldA (T : JD) (m : Km) (n : Nat) (o : Oper) : Option (Nat × Nat × Nat) :=
 match o.op with
 | .load t x => match ev m x with
  | some (.pointer (some ⟨g, 0, none⟩)) => match Nx o n with
   | some d => (match YU T.ag t with
    | some k => some (g, d, k)
    | none => none)
   | none => none
  | _ => none
 | _ => none
def ixV (m : Km) (n : Nat) (o : Oper) : Option (TypeId × Value × Int × Nat) :=
 match o.op with
 | .indexAddr t x y => match ev m x with
  | some v => match ev m y with
   | some (.int _ j) => match Nx o n with
    | some d => some (t, v, j, d)
    | none => none
   | _ => none
  | none => none
 | _ => none
section
variable {P : Program} {w w' : World} {m m' : Km} {ops : Array Oper} {Q Q0 : Exit → Act → World → Prop} {a : Act} {n : Nat} {l l' : List Oper} {v : Value} {K : List Kf} {X X' : Act → World → Prop}
variable {w0 : World} {F0 : List Nat} {ps : List Ck} {o : Oper} {d g t : Nat} {cs : List Value}
theorem Y1 {T : JD} (h2 : X5 T m cs n o = some (g, d, v)) : Nx o n = some d := by
 unfold X5 at h2
 split at h2
 ·split at h2
  ·split at h2
   ·rename_i d' hd
    have : d' = d := by
     revert h2
     rcases Sc T.ng _ with _ | _
     ·simp only [cond_false]
      intro h2
      split at h2
      ·split at h2
       ·rename_i k _
        rcases hb : Nat.beq cs.length k with _ | _
        ·rw [hb] at h2; cases h2
        ·rw [hb] at h2; cases h2; rfl
       ·cases h2
      ·cases h2
     ·simp only [cond_true]
      intro h2
      split at h2
      ·cases h2; rfl
      ·cases h2
    rw [hd, this]
   ·cases h2
  ·cases h2
 ·cases h2
theorem X6 {T : JD} (hT : T.okB P = true) (hs : SL w0 F0 w ps) (hm : A8 g t cs ∈ ps) (h : X5 T m cs n o = some (g, d, v)) : EX P w m o v w ∧ Nx o n = some d := by
 obtain ⟨dd, op, ty, pos, aft, gd⟩ := o
 unfold X5 at h
 split at h
 ·rename_i t' x hop
  simp only at hop
  subst hop
  split at h
  ·rename_i g' off hx
   split at h
   ·rename_i d' hd
    rcases hn : Sc T.ng t' with _ | _
    ·rw [hn] at h
     simp only [cond_false] at h
     split at h
     ·split at h
      ·rename_i k hk
       rcases hb : Nat.beq cs.length k with _ | _
       ·rw [hb] at h; cases h
       ·rw [hb] at h
        cases h
        exact ⟨Nw (agT hT hk) hx (hs.Dk hm (o := 0) (ds := cs) (fun j u hu => by rw [Nat.zero_add]; exact hu)) (Nat.eq_of_beq_eq_true hb), hd⟩
      ·cases h
     ·cases h
    ·rw [hn] at h
     simp only [cond_true] at h
     split at h
     ·rename_i u hu
      cases h
      exact ⟨Va (ngT hT hn) hx (hs.FN hm hu), hd⟩
     ·cases h
   ·cases h
  ·cases h
 ·cases h
theorem AF8 {T : JD} {k : Nat} (hT : T.okB P = true) (hs : SL w0 F0 w ps) (hm : A8 g t cs ∈ ps) (h : ldA T m n o = some (g, d, k)) (hk : cs.length = k) : EX P w m o (.agg ⟨cs⟩) w ∧ Nx o n = some d := by
 obtain ⟨dd, op, ty, pos, aft, gd⟩ := o
 unfold ldA at h
 split at h
 ·rename_i t' x hop
  simp only at hop
  subst hop
  split at h
  ·rename_i g' hx
   split at h
   ·rename_i d' hd
    split at h
    ·rename_i k' hk'
     cases h
     exact ⟨Nw (agT hT hk') hx (hs.Dk hm (o := 0) (ds := cs) (fun j u hu => by rw [Nat.zero_add]; exact hu)) hk, hd⟩
    ·cases h
   ·cases h
  ·cases h
 ·cases h
theorem RU {t : TypeId} {i : Int} {ad : Addr} (hi : Tv P t v i ad) (h : ixV m n o = some (t, v, i, d)) : (∀ w, EX P w m o (.pointer (some ad)) w) ∧ Nx o n = some d := by
 obtain ⟨dd, op, ty, pos, aft, gd⟩ := o
 unfold ixV at h
 split at h
 ·rename_i t' x y hop
  simp only at hop
  subst hop
  split at h
  ·rename_i v' hv
   split at h
   ·rename_i k j hj
    split at h
    ·rename_i d' hd
     cases h
     exact ⟨fun w => hi _ _ _ _ _ _ _ _ _ _ hv hj, hd⟩
    ·cases h
   ·cases h
  ·cases h
 ·cases h
section
variable [h0 : JP P]
theorem AG (hF : Fr a n m) (hs : SL w0 F0 w ps) (hm : A8 g t cs ∈ ps) (i : Nat) (h : ((X5 h0.T m cs n o).bind fun r => (run P Q0 h0.T n i (.li ops l) K ((r.2.1, r.2.2) :: m)).map fun x => (r.1, x)) = some (g, m', X)) (k : ∀ a, Fr a n m' → X a w) : wpList P ops (D8 P Q0 K) (o :: l) a w := by
 obtain ⟨⟨g', d, v⟩, h1, h2⟩ := Option.bind_eq_some_iff.1 h
 obtain ⟨x, h3, h4⟩ := Option.map_eq_some_iff.1 h2
 cases h4
 obtain ⟨he, hd⟩ := X6 h0.ok hs hm h1
 exact gx hF he i hd h3 k
theorem D3 {c : Nat} (hF : Fr a n m) (hs : SL w0 F0 w ps) (hm : A8 g t cs ∈ ps) (i : Nat) (h : ((ldA h0.T m n o).bind fun r => (run P Q0 h0.T n i (.li ops l) K ((r.2.1, .agg ⟨cs⟩) :: m)).map fun x => (r.1, r.2.2, x)) = some (g, c, m', X)) (k : ∀ a, Fr a n m' → X a w) (hc : cs.length = c := by simp) : wpList P ops (D8 P Q0 K) (o :: l) a w := by
 obtain ⟨⟨g', d, v⟩, h1, h2⟩ := Option.bind_eq_some_iff.1 h
 obtain ⟨x, h3, h4⟩ := Option.map_eq_some_iff.1 h2
 cases h4
 obtain ⟨he, hd⟩ := AF8 h0.ok hs hm h1 hc
 exact gx hF he i hd h3 k
theorem gi {t : TypeId} {j : Int} {ad : Addr} (hF : Fr a n m) (hi : Tv P t v j ad) (i : Nat) (h : ((ixV m n o).bind fun r => (run P Q0 h0.T n i (.li ops l) K ((r.2.2.2, .pointer (some ad)) :: m)).map fun x => (r.1, r.2.1, r.2.2.1, x)) = some (t, v, j, m', X)) (k : ∀ a, Fr a n m' → X a w) : wpList P ops (D8 P Q0 K) (o :: l) a w := by
 obtain ⟨⟨t', v', j', d⟩, h1, h2⟩ := Option.bind_eq_some_iff.1 h
 obtain ⟨x, h3, h4⟩ := Option.map_eq_some_iff.1 h2
 cases h4
 obtain ⟨he, hd⟩ := RU hi h1
 exact gx hF (he w) i hd h3 k
theorem QI.ld {is : List Nat} {i : Nat} (hm : A8 g t cs ∈ ps) (h : ((ops[i]?).bind (X5 h0.T m cs n)) = some (g, d, v)) (k : QI P ops n (fun w_ => SL w0 F0 w_ ps) ((d, v) :: m) is m') : QI P ops n (fun w_ => SL w0 F0 w_ ps) m (i :: is) m' := by
 obtain ⟨o, h1, h2⟩ := Option.bind_eq_some_iff.1 h
 exact QI.op h1 (fun w hw => (X6 h0.ok hw hm h2).1) (Y1 h2) k
omit h0 in
theorem QI.ix {is : List Nat} {i : Nat} {S : World → Prop} {t : TypeId} {j : Int} {ad : Addr} (hi : Tv P t v j ad) (h : ((ops[i]?).bind (ixV m n)) = some (t, v, j, d)) (k : QI P ops n S ((d, .pointer (some ad)) :: m) is m') : QI P ops n S m (i :: is) m' := by
 obtain ⟨o, h1, h2⟩ := Option.bind_eq_some_iff.1 h
 exact QI.op h1 (fun w hw => (RU hi h2).1 w) (RU hi h2).2 k
omit h0 in
theorem Cq {id : Nat} {l : List Oper} (hm : P.follows .mixedOrders = true) (hs : SL w0 F0 w ps) (h : HD P l.toArray Q (fun w_ => SL w0 F0 w_ ps) [] a w.drew) : (Code.region id l.toArray true).wp P Q a w := AL9 hm _ h
theorem QR.ld {rest rest' : List Oper} (hm : A8 g t cs ∈ ps) (h : X5 h0.T m cs n o = some (g, d, v)) (k : QR P n ops (fun w_ => SL w0 F0 w_ ps) ((d, v) :: m) rest m' rest') : QR P n ops (fun w_ => SL w0 F0 w_ ps) m (o :: rest) m' rest' :=
 have hd := PV (Y1 h)
 QR.op (fun w hw => (X6 h0.ok hw hm h).1) k hd.1 hd.2.1 hd.2.2
omit h0 in
theorem QR.ix {rest rest' : List Oper} {S : World → Prop} {t : TypeId} {j : Int} {ad : Addr} (hi : Tv P t v j ad) (h : ixV m n o = some (t, v, j, d)) (k : QR P n ops S ((d, .pointer (some ad)) :: m) rest m' rest') : QR P n ops S m (o :: rest) m' rest' :=
 have hd := PV (RU hi h).2
 QR.op (fun w hw => (RU hi h).1 w) k hd.1 hd.2.1 hd.2.2
omit h0 in
theorem QR.qo {rest rest' : List Oper} {S : World → Prop} (he : ∀ w, S w → EX P w m o v w) (hd : Nx o n = some d) (k : QR P n ops S ((d, v) :: m) rest m' rest') : QR P n ops S m (o :: rest) m' rest' :=
 have h := PV hd
 QR.op he k h.1 h.2.1 h.2.2
omit h0 in
theorem QR.qg {rest rest' : List Oper} {S : World → Prop} {j dj : Nat} {b : Bool} (he : ∀ w, S w → EX P w m o v w) (hg : o.guard = some (j, b)) (hj : (ops[j]?).bind (·.dst) = some dj) (hb : look m dj = some (.bool b)) (hd : o.dst = some d) (hlt : Nat.blt d n = true) (k : QR P n ops S ((d, v) :: m) rest m' rest') : QR P n ops S m (o :: rest) m' rest' := QR.gop he hg hj hb k hd hlt
omit h0 in
theorem QR.qs {rest rest' : List Oper} {S : World → Prop} {j dj : Nat} {b c : Bool} (hg : o.guard = some (j, c)) (hj : (ops[j]?).bind (·.dst) = some dj) (hb : look m dj = some (.bool b)) (hne : b ≠ c) (hd : o.dst = some d) (hlt : Nat.blt d n = true) (k : QR P n ops S ((d, undef) :: m) rest m' rest') : QR P n ops S m (o :: rest) m' rest' := QR.ZE hg hj hb hne k hd hlt
omit h0 in
theorem QR.qt {rest rest' : List Oper} {S : World → Prop} {j dj : Nat} {c : Bool} (hg : o.guard = some (j, c)) (hj : (ops[j]?).bind (·.dst) = some dj) (hb : look m dj = some undef) (hd : o.dst = some d) (hlt : Nat.blt d n = true) (k : QR P n ops S ((d, undef) :: m) rest m' rest') : QR P n ops S m (o :: rest) m' rest' := QR.Acm hg hj hb k hd hlt
omit h0 in
theorem AC5 {S : World → Prop} {T : JD} {m1 : Km} {rest rest' : List Oper} (hT : T.okB P = true) (h : UK T ops n m o = some m1) (t : QR P n ops S m1 rest m' rest') : QR P n ops S m (o :: rest) m' rest' := by
 unfold UK at h
 split at h
 ·cases h
 ·rename_i d hd
  rcases hlt : Nat.blt d n with _ | _
  ·rw [hlt] at h; cases h
  ·rw [hlt] at h
   simp only [cond_true] at h
   split at h
   ·rename_i hg
    split at h
    ·rename_i v hv
     cases h
     exact QR.op (fun w _ => MM hT hv) t hg hd hlt
    ·cases h
   ·rename_i j b hg
    split at h
    ·cases h
    ·rename_i dj hj
     split at h
     ·rename_i c hb
      split at h
      ·split at h
       ·rename_i v hv
        cases h
        exact QR.gop (fun w _ => MM hT hv) hg hj hb t hd hlt
       ·cases h
      ·split at h
       ·rename_i v hv
        cases h
        exact QR.gop (fun w _ => MM hT hv) hg hj hb t hd hlt
       ·cases h
      ·cases h
       exact QR.ZE hg hj hb Bool.noConfusion t hd hlt
      ·cases h
       exact QR.ZE hg hj hb Bool.noConfusion t hd hlt
     ·rename_i hb
      cases h
      exact QR.Acm hg hj hb t hd hlt
     ·cases h
omit h0 in
theorem QR.ev_ {S : World → Prop} {T : JD} (hT : T.okB P = true) {m1 : Km} {rest rest' : List Oper} : ∀ (k : Nat) {m : Km} {l : List Oper}, Xe T ops n k m l = some (m1, rest) → QR P n ops S m1 rest m' rest' → QR P n ops S m l m' rest'
 | 0, m, l, h, t => by cases h; exact t
 | k + 1, m, [], h, t => by cases h
 | k + 1, m, o :: l, h, t => by
  simp only [Xe] at h
  split at h
  ·rename_i m2 h2
   exact AC5 hT h2 (QR.ev_ hT k h t)
  ·cases h
theorem QR.ev {S : World → Prop} {m1 : Km} {rest rest' : List Oper} (k : Nat) (h : Xe h0.T ops n k m l = some (m1, rest)) (t : QR P n ops S m1 rest m' rest') : QR P n ops S m l m' rest' := QR.ev_ h0.ok k h t
omit h0 in
theorem HA {id : Nat} {l : List Oper} (hm : P.follows .mixedOrders = true) (hs : SL w0 F0 w ps) (hF : Fr a n m) (h : QR P n l.toArray (fun w_ => SL w0 F0 w_ ps) m l m' []) (k : ∀ w a, SL w0 F0 w ps → Fr a n m' → Q .normal a w) (hB : Region.lexB .any l.toArray = true := by kernel_rfl) : (Code.region id l.toArray true).wp P Q a w := A76 _ hm hB hs.drew hF h k
omit h0 in
theorem FK {α : Type} {T : Ty α} {enc : α → List Value} (hFl : Flat T enc) {v : Value} {l : List α} {t e sz bytes : Nat} {z : Value → Bool} {i : Int} {x : α} (h : ∀ w, SL w0 F0 w ps → ∃ G, FR T w G v l) (hw : SL w0 F0 w ps)
  (hb : HE P t e sz bytes z = true) (hz : T.sz = sz) (hx : idx l i = some x) : ∃ ad, Tv P t v i ad ∧ ∀ w, SL w0 F0 w ps → Bn w ad (enc x) := AMe (C := fun w_ => SL w0 F0 w_ ps) hFl h hw hb hz hx
end
theorem fR {α : Type} {T : Ty α} {v : Value} {l : List α} (h : Rd T w0 F0 v l) (hs : SL w0 F0 w ps) : ∃ A c, v = .slice A l.length c := JI (Eb h hs)
theorem fO {α : Type} {T : Ty α} {v : Value} {l : List α} (hs : SL w0 F0 w ps) (hm : Sl T v l ∈ ps) : ∃ A c, v = .slice A l.length c := JI (hs.BK hm)
end
abbrev jI (n : Int) : Value := .int .i64 n
abbrev jU (n : Int) : Value := .int .u8 n
abbrev jP (g : Nat) : Value := .pointer (some ⟨g, 0, none⟩)
abbrev jZ : List Value := .int .i64 0 :: .int .i64 0 :: AU (Vector.replicate 24 (0 : UInt8))
end Go.Pv
namespace Go.Pv
open Go Go.RowKit
section
variable {P : Program} {w0 w w' : World} {F0 : List Nat} {ps qs q1 rest : List Ck} {W : Type} {n : V0} {K : Nat} {T : Ty W} {vs : List Value} {ts : List (D6 W)} {L : List (List Ck)} {v : Value} {t : D6 W}
def I0 (n : V0) (T : Ty W) (K : Nat) (vs : List Value) (ts : List (D6 W)) (L : List (List Ck)) : Ck :=
 ⟨fun w F => (∀ k ∈ F, k < w.heap.size) ∧ (vs.length = K ∧ ∀ v ∈ vs, v.oneCell' = true) ∧ (∀ (k : Nat) t, ts[k]? = some t → ∃ v G, vs[k]? = some v ∧ B1 [Qq n T v t] w G ∧ ∀ j ∈ G, j ∈ F) ∧ ∀ qs ∈ L, ∃ G, B1 qs w G ∧ ∀ j ∈ G, j ∈ F,
  fun ⟨h0, h1, h2, h3⟩ hk => ⟨fun k hk' => by
   have h4 := hk k hk'
   rw [Array.getElem?_eq_getElem (h0 k hk')] at h4
   exact (Array.getElem?_eq_some_iff.1 h4).1, h1, fun k t ht => by
   obtain ⟨v, G, a, b, c⟩ := h2 k t ht
   exact ⟨v, G, a, b.loc fun j hj => hk j (c j hj), c⟩, fun qs hq => by
   obtain ⟨G, b, c⟩ := h3 qs hq
   exact ⟨G, b.loc fun j hj => hk j (c j hj), c⟩⟩,
  fun h => h.1⟩
theorem SL.Ar4 {g ty : Nat} (hs : SL w0 F0 w (A8 g ty (List.replicate K .nilFunc) :: ps)) : ∃ vs, SL w0 F0 w (A8 g ty vs :: I0 n T K vs (List.replicate K (.nil : D6 W)) [] :: ps) := by
 refine ⟨_, hs.re fun F ⟨F1, F2, e, h1, h2, hd⟩ => ⟨F, ⟨F1, F2, e, h1, ⟨[], F2, rfl, ⟨by simp, ⟨List.length_replicate, ?_⟩, ?_, by simp⟩, h2, by simp⟩, hd⟩, fun _ => Iff.rfl⟩⟩
 ·intro v hv
  rw [List.eq_of_mem_replicate hv]
  rfl
 ·intro j t ht
  have hj := (List.getElem?_eq_some_iff.1 ht).1
  rw [List.length_replicate] at hj
  rw [List.getElem?_replicate, A3 hj] at ht
  cases ht
  exact ⟨.nilFunc, [], by rw [List.getElem?_replicate, A3 hj], B1.one (p := Qq n T .nilFunc .nil) ⟨[], ⟨rfl, rfl⟩, rfl⟩, by simp⟩
theorem SL.XX (hs : SL w0 F0 w (qs ++ I0 n T K vs ts L :: ps)) : SL w0 F0 w (I0 n T K vs ts (qs :: L) :: ps) := hs.re fun F hst => by
 obtain ⟨F1, F2, e, h1, ⟨F3, F4, e2, ⟨a0, a1, a2, a3⟩, h4, hd2⟩, hd⟩ := B1.append.1 hst
 refine ⟨F, ⟨F1 ++ F3, F4, by rw [e, e2, ANl], ⟨?_, a1, ?_, ?_⟩, h4, ?_⟩, fun _ => Iff.rfl⟩
 ·intro k hk
  rcases List.mem_append.1 hk with h | h
  ·exact h1.lt k h
  ·exact a0 k h
 ·intro k t ht
  obtain ⟨v, G, b, c, d⟩ := a2 k t ht
  exact ⟨v, G, b, c, fun j hj => List.mem_append_right _ (d j hj)⟩
 ·intro q hq
  rcases List.mem_cons.1 hq with rfl | hq
  ·exact ⟨F1, h1, fun j hj => List.mem_append_left _ hj⟩
  ·obtain ⟨G, c, d⟩ := a3 q hq
   exact ⟨G, c, fun j hj => List.mem_append_right _ (d j hj)⟩
 ·intro k hk hk'
  rcases List.mem_append.1 hk with h | h
  ·exact hd k h (by rw [e2]; exact List.mem_append_right _ hk')
  ·exact hd2 k h hk'
theorem SL.A9v (hm : q1 ∈ L) (hs : SL w0 F0 w (qs ++ I0 n T K vs ts L :: ps)) : SL w0 F0 w (I0 n T K vs ts ((qs ++ q1) :: L) :: ps) := hs.re fun F hst => by
 obtain ⟨F1, F2, e, h1, ⟨F3, F4, e2, ⟨a0, a1, a2, a3⟩, h4, hd2⟩, hd⟩ := B1.append.1 hst
 refine ⟨F, ⟨F1 ++ F3, F4, by rw [e, e2, ANl], ⟨?_, a1, ?_, ?_⟩, h4, ?_⟩, fun _ => Iff.rfl⟩
 ·intro k hk
  rcases List.mem_append.1 hk with h | h
  ·exact h1.lt k h
  ·exact a0 k h
 ·intro k t ht
  obtain ⟨v, G, b, c, d⟩ := a2 k t ht
  exact ⟨v, G, b, c, fun j hj => List.mem_append_right _ (d j hj)⟩
 ·intro q hq
  rcases List.mem_cons.1 hq with rfl | hq
  ·obtain ⟨G, c, d⟩ := a3 q1 hm
   exact ⟨F1 ++ G, B1.append.2 ⟨F1, G, rfl, h1, c, fun j hj hj' => hd j hj (by rw [e2]; exact List.mem_append_left _ (d j hj'))⟩, fun j hj => by
    rcases List.mem_append.1 hj with h | h
    ·exact List.mem_append_left _ h
    ·exact List.mem_append_right _ (d j h)⟩
  ·obtain ⟨G, c, d⟩ := a3 q hq
   exact ⟨G, c, fun j hj => List.mem_append_right _ (d j hj)⟩
 ·intro k hk hk'
  rcases List.mem_append.1 hk with h | h
  ·exact hd k h (by rw [e2]; exact List.mem_append_right _ hk')
  ·exact hd2 k h hk'
theorem SL.Yb (hs : SL w0 F0 w ps) (hm : I0 n T K vs ts L ∈ ps) (hq : qs ∈ L) {g t o : Nat} {cs : List Value} {u : Value} (hb : A8 g t cs ∈ qs) (hu : cs[o]? = some u) : w.cell? ⟨g, o, none⟩ = some u := by
 obtain ⟨F, hst, hF⟩ := hs.st
 obtain ⟨G, ⟨_, _, _, a3⟩, hG⟩ := IQ hm hst
 obtain ⟨G', c, _⟩ := a3 qs hq
 exact (SL.init w G' c).FN hb hu
theorem SL.A9k {k : Nat} (hs : SL w0 F0 w (qs ++ I0 n T K vs ts L :: ps)) (hk : Nat.blt k K = true) (h1v : v.oneCell' = true) (hm : q1 = [] ∨ q1 ∈ L) (hq : ∀ w G, SL w G w (qs ++ q1) → SL w G w [Qq n T v t]) :
  SL w0 F0 w (I0 n T K (vs.set k v) (ts.set k t) L :: ps) := hs.re fun F hst => by
 obtain ⟨F1, F2, e, h1, ⟨F3, F4, e2, ⟨a0, a1, a2, a3⟩, h4, hd2⟩, hd⟩ := B1.append.1 hst
 refine ⟨F, ⟨F1 ++ F3, F4, by rw [e, e2, ANl], ⟨?_, ⟨by rw [List.length_set]; exact a1.1, ?_⟩, ?_, ?_⟩, h4, ?_⟩, fun _ => Iff.rfl⟩
 ·intro k hk
  rcases List.mem_append.1 hk with h | h
  ·exact h1.lt k h
  ·exact a0 k h
 ·intro u hu
  rcases List.mem_or_eq_of_mem_set hu with h | rfl
  ·exact a1.2 u h
  ·exact h1v
 ·intro j t' ht
  have hk : k < vs.length := by rw [a1.1]; simpa [Nat.blt_eq] using hk
  by_cases hj : k = j
  ·subst hj
   have ht' : t = t' := by
    rw [List.getElem?_set] at ht
    split at ht
    ·split at ht
     ·exact Option.some.inj ht
     ·cases ht
    ·rename_i hn; exact absurd rfl hn
   subst ht'
   have hG : ∃ G1, B1 q1 w G1 ∧ ∀ j ∈ G1, j ∈ F3 := by
    rcases hm with rfl | hm
    ·exact ⟨[], rfl, by simp⟩
    ·exact a3 q1 hm
   obtain ⟨G1, c, d⟩ := hG
   have h5 : B1 (qs ++ q1) w (F1 ++ G1) := B1.append.2 ⟨F1, G1, rfl, h1, c, fun j hj hj' => hd j hj (by rw [e2]; exact List.mem_append_left _ (d j hj'))⟩
   obtain ⟨G2, h6, h7⟩ := (hq w _ (SL.init w _ h5)).st
   refine ⟨v, G2, by rw [List.getElem?_set_self hk], h6, fun j hj => ?_⟩
   rcases h7 j hj with h8 | h8
   ·rcases List.mem_append.1 h8 with h9 | h9
    ·exact List.mem_append_left _ h9
    ·exact List.mem_append_right _ (d j h9)
   ·exact absurd (h6.lt j hj) (by omega)
  ·rw [List.getElem?_set_ne hj] at ht
   obtain ⟨v', G, b, c, d⟩ := a2 j t' ht
   exact ⟨v', G, by rw [List.getElem?_set_ne hj]; exact b, c, fun i hi => List.mem_append_right _ (d i hi)⟩
 ·intro q hq
  obtain ⟨G, c, d⟩ := a3 q hq
  exact ⟨G, c, fun j hj => List.mem_append_right _ (d j hj)⟩
 ·intro k hk hk'
  rcases List.mem_append.1 hk with h | h
  ·exact hd k h (by rw [e2]; exact List.mem_append_right _ hk')
  ·exact hd2 k h hk'
theorem SL.Qr (hs : SL w0 F0 w ps) (hm : I0 n T K vs ts L ∈ ps) : (vs.length = K ∧ ∀ v ∈ vs, v.oneCell' = true) ∧ ∀ (k : Nat) t, ts[k]? = some t → ∃ v, vs[k]? = some v ∧ SL w0 F0 w [Qq n T v t] := by
 obtain ⟨F, hst, hF⟩ := hs.st
 obtain ⟨G, ⟨_, a1, a2, _⟩, hG⟩ := IQ hm hst
 refine ⟨a1, fun k t ht => ?_⟩
 obtain ⟨v, G', b, c, d⟩ := a2 k t ht
 exact ⟨v, b, hs.fm, G', c, fun j hj => hF j (hG j (d j hj))⟩
end
section
variable {P : Program} {w0 w : World} {F0 : List Nat} {ps qs q1 : List Ck} {m : List (Nat × Value)} {n d : Nat} {ty : TypeId} {pos : String} {aft : Array Edge} {x y : Operand} {ops : Array Oper} {Q : Exit → Act → World → Prop} {a : Act} {l' : List Oper} {W : Type} {nn : V0} {K : Nat} {T : Ty W} {vs : List Value} {ts : List (D6 W)} {L : List (List Ck)} {v : Value} {t : D6 W}
theorem VK {b : Ck} (hs : SL w0 F0 w (qs ++ b :: ps)) : SL w0 F0 w (b :: (qs ++ ps)) := hs.re fun F hst => by
 obtain ⟨F1, F2, e, h1, ⟨F3, F4, e2, h2, h3, hd2⟩, hd⟩ := B1.append.1 hst
 refine ⟨F3 ++ (F1 ++ F4), ⟨F3, F1 ++ F4, rfl, h2, B1.append.2 ⟨F1, F4, rfl, h1, h3, fun k hk hk' => hd k hk (by rw [e2]; exact List.mem_append_right _ hk')⟩, fun k hk hk' => ?_⟩, fun k => ?_⟩
 ·rcases List.mem_append.1 hk' with h | h
  ·exact hd k h (by rw [e2]; exact List.mem_append_left _ hk)
  ·exact hd2 k hk h
 ·rw [e, e2]
  simp only [ANg]
  constructor
  ·rintro (h | h | h)
   ·exact .inr (.inl h)
   ·exact .inl h
   ·exact .inr (.inr h)
  ·rintro (h | h | h)
   ·exact .inr (.inl h)
   ·exact .inl h
   ·exact .inr (.inr h)
theorem Cm {g tb t' k : Nat} (hF : Fr a n m) (hs : SL w0 F0 w (qs ++ A8 g tb vs :: I0 nn T K vs ts L :: ps)) (hx : ev m x = some (.pointer (some ⟨g, k, none⟩))) (hy : ev m y = some v)
  (hi : (P.info? t').map (·.size) = some 1) (hv : v.cells = #[v]) (h1 : v.oneCell' = true) (hk : Nat.blt k K = true) (hm : q1 = [] ∨ q1 ∈ L) (hq : ∀ w G, SL w G w (qs ++ q1) → SL w G w [Qq nn T v t])
  (kk : ∀ vs' w a, Fr a n m → SL w0 F0 w (A8 g tb vs' :: I0 nn T K vs' (ts.set k t) L :: ps) → wpList P ops Q l' a w) : wpList P ops Q (⟨none, .store t' x y, ty, pos, aft, none⟩ :: l') a w := by
 have hk' : k < vs.length := by
  obtain ⟨F, hst, _⟩ := hs.st
  obtain ⟨G, ⟨_, a1, _⟩, _⟩ := IQ (p := I0 nn T K vs ts L) (by simp) hst
  rw [a1.1]
  simpa [Nat.blt_eq] using hk
 refine Pe hF (VK hs) hx hy hi hv h1 (ANc hk') fun w a hF hs => ?_
 refine kk (vs.set k v) w a hF ?_
 have h3 := hs.rot
 simp only [ANl] at h3
 have h4 : SL w0 F0 w (qs ++ I0 nn T K vs ts L :: (ps ++ [A8 g tb (vs.set k v)])) := by simpa using h3
 have h5 := SL.A9k h4 hk h1 hm hq
 have h6 : SL w0 F0 w ((I0 nn T K (vs.set k v) (ts.set k t) L :: ps) ++ A8 g tb (vs.set k v) :: []) := by simpa using h5
 simpa using VK h6
end
end Go.Pv
namespace Go.Pv
open Go Go.RowKit Go.Sort Go.Shelf Go.Proofs
theorem SB (off : Nat) (d : Array Int) (c : Array Value) (j : Nat) : (putCells (Value.int .i64) off d c)[j]? = if j < c.size then (if off ≤ j ∧ j < off + d.size then some (Value.int .i64 d[j - off]!) else c[j]?) else none := by
 unfold putCells
 rw [Array.getElem?_mapIdx]
 by_cases hj : j < c.size
 ·rw [A3 hj, Array.getElem?_eq_getElem hj, ANa]
  split <;> rfl
 ·rw [A1 hj, Array.getElem?_eq_none (by omega)]
  rfl
theorem Mq (off : Nat) (d : Array Int) (c : Array Value) : (putCells (Value.int .i64) off d c).size = c.size := by simp [putCells]
theorem M6 : ∀ (l : List Int), l.flatMap (fun x => [Value.int .i64 x]) = l.map (Value.int .i64)
 | [] => rfl
 | x :: l => by rw [List.flatMap_cons, M6 l]; rfl
theorem TM {P : Program} {ρ : Ren} (L : Lays.n189 P ρ) {w : World} {FF : List Nat} {v : Value} {l r : List Int} (hst : B1 [Sl (Ty.int .i64) v l] w FF) (hr : OC l = some r) :
  Calls P (ρ.f 189) #[v] w (B9 fun u w' => u = .tuple #[] ∧ SL w FF w' [Sl (Ty.int .i64) v r]) := by
 unfold OC at hr
 split at hr
 ·rename_i hlen
  cases hr
  have hown : slOwn (Ty.int .i64) w FF v l := B1.K4 hst
  have hrow := (Flat.int .i64).slOwn.1 hown
  have hperm : (Ep l).length = l.length := by simp [Ep]
  rcases hrow.2 with ⟨rfl, h0, rfl⟩ | ⟨g, o, cap, cur, e, fz, rfl, rfl, hg, hnc, hoc, hfz, hcells⟩
  ·have hl : l = [] := List.eq_nil_of_length_eq_zero h0
   subst hl
   refine (Any.slices_Sort_int_none L none 0 w).mono fun _ w' ⟨he, hw⟩ => ⟨_, he, rfl, ?_⟩
   subst hw
   have : Ep [] = [] := by simp [Ep]
   rw [this]
   exact SL.init w' [] hst
  ·have hsz : (Ty.int .i64).sz = 1 := rfl
   rw [M6 l] at hcells
   rw [hsz, Nat.mul_one] at hoc
   have hcur : ∀ j, j < l.length → cur[o + j]? = some (Value.int .i64 (l.toArray[j]!)) := fun j hj => by
    have h1 := hcells j (Value.int .i64 l[j]) (by rw [List.getElem?_map, ANc hj]; rfl)
    rw [h1]
    congr 2
    simp [hj]
   have hH : Holds (Value.int .i64) w g o l.toArray := fun j hj => by
    have hj' : j < l.length := by simpa using hj
    refine ⟨?_, ?_⟩
    ·simp [World.cell?, hg, hcur j hj']
    ·have := hfz (o + j) (by omega)
     simp [World.frozen?, hg]
     omega
   refine (Any.slices_Sort_int L g o cap l w hH (ID hg) hlen).mono fun _ w' ⟨he, n, os, hw⟩ => ⟨_, he, rfl, ?_⟩
   have hheap : w'.heap = (w.heap.modify g fun | .cells c e fr => .cells (putCells (Value.int .i64) o (Ep l).toArray c) e fr | ob => ob) ++ os := by
    rw [hw]
    rfl
   have hgl := ID hg
   have hother : ∀ k, k < w.heap.size → k ≠ g → w'.heap[k]? = w.heap[k]? := fun k hk hne => by
    rw [hheap, Array.getElem?_append_left (by simpa using hk), Array.getElem?_modify, A1 (fun h => hne h.symm)]
   have hself : w'.heap[g]? = some (.cells (putCells (Value.int .i64) o (Ep l).toArray cur) e fz) := by
    rw [hheap, Array.getElem?_append_left (by simpa using hgl), Array.getElem?_modify, A3 rfl, hg]
    rfl
   refine ⟨⟨by rw [hw]; rfl, by rw [hw]; rfl, by rw [hw]; rfl, by rw [hheap]; simp, fun k hk hn => hother k hk (by simpa using hn)⟩, [g], B1.one (p := Sl (Ty.int .i64) _ (Ep l)) ((Flat.int .i64).slOwn.2 ⟨?_, .inr ⟨g, o, cap, _, e, fz, by rw [hperm], rfl, hself, by omega, ?_, ?_, ?_⟩⟩), fun k hk => .inl hk⟩
   ·rw [Lq (Flat.int .i64)]
   ·rw [hsz, Nat.mul_one, Mq]; exact hoc
   ·intro j hj
    rw [Mq] at hj
    exact hfz j hj
   ·intro j u hu
    rw [M6 (Ep l), List.getElem?_map] at hu
    rcases hx : (Ep l)[j]? with _ | x
    ·rw [hx] at hu; cases hu
    ·rw [hx] at hu
     have hjl := (List.getElem?_eq_some_iff.1 hx).1
     rw [SB, A3 (by omega), A3 ⟨by omega, by simp; omega⟩, Nat.add_sub_cancel_left]
     simp only [ANa, Option.some.injEq] at hu
     rw [← hu]
     congr 2
     have : (Ep l)[j] = x := by
      rw [ANc hjl] at hx
      exact Option.some.inj hx
     simp [hjl, this]
 ·cases hr
end Go.Pv
namespace Go.Pv
open Go Go.RowKit Go.Sort Go.Shelf Go.Proofs Go.Maps
theorem A3u {w w' : World} {d r : List Int} {g o cap : Nat} {cur : Array Value} {e : TypeId} {fz : Nat × Nat} {os : Array Obj}
  (hg : w.heap[g]? = some (.cells cur e fz)) (hoc : o + cap ≤ cur.size) (hnc : d.length ≤ cap) (hfz : ∀ j, j < cur.size → ¬ (fz.1 ≤ j ∧ j < fz.2))
  (hr : r.length ≤ d.length) (hp : ∀ j, j < r.length → r[j]? = d[j]?)
  (ho : w'.os = w.os) (ht : w'.tape = w.tape) (hu : w'.output = w.output)
  (hheap : w'.heap = (w.heap.modify g fun | .cells c e fr => .cells (putCells (Value.int .i64) o d.toArray c) e fr | ob => ob) ++ os) :
  SL w [g] w' [Sl (Ty.int .i64) (.slice (some ⟨g, o, none⟩) r.length cap) r] := by
 have hgl := ID hg
 have hother : ∀ k, k < w.heap.size → k ≠ g → w'.heap[k]? = w.heap[k]? := fun k hk hne => by
  rw [hheap, Array.getElem?_append_left (by simpa using hk), Array.getElem?_modify, A1 (fun h => hne h.symm)]
 have hself : w'.heap[g]? = some (.cells (putCells (Value.int .i64) o d.toArray cur) e fz) := by
  rw [hheap, Array.getElem?_append_left (by simpa using hgl), Array.getElem?_modify, A3 rfl, hg]
  rfl
 have hsz : (Ty.int .i64).sz = 1 := rfl
 refine ⟨⟨ho, ht, hu, by rw [hheap]; simp, fun k hk hn => hother k hk (by simpa using hn)⟩, [g], B1.one (p := Sl (Ty.int .i64) _ r) ((Flat.int .i64).slOwn.2 ⟨?_, .inr ⟨g, o, cap, _, e, fz, rfl, rfl, hself, by omega, ?_, ?_, ?_⟩⟩), fun k hk => .inl hk⟩
 ·rw [Lq (Flat.int .i64)]
 ·rw [hsz, Nat.mul_one, Mq]; exact hoc
 ·intro j hj
  rw [Mq] at hj
  exact hfz j hj
 ·intro j u hu'
  rw [M6 r, List.getElem?_map] at hu'
  rcases hx : r[j]? with _ | x
  ·rw [hx] at hu'; cases hu'
  ·have hjl := (List.getElem?_eq_some_iff.1 hx).1
   rw [hx] at hu'
   have hd := hp j hjl
   rw [hx] at hd
   have hdl := (List.getElem?_eq_some_iff.1 hd.symm).1
   rw [SB, A3 (by omega), A3 ⟨by omega, by simp; omega⟩, Nat.add_sub_cancel_left]
   simp only [ANa, Option.some.injEq] at hu'
   rw [← hu']
   congr 2
   have : d[j] = x := by
    rw [ANc hdl] at hd
    exact (Option.some.inj hd).symm
   simp [hdl, this]
def Mv (l : List Int) : Option (List Int) := if l.length < 4611686018427387904 then some (Lib.compact l) else none
theorem Yt (l : List Int) : (Lib.compact l).length ≤ l.length := by
 unfold Lib.compact Lib.compactUpTo
 rw [ANe]
 refine Nat.le_trans (ANm _ _) ?_
 rw [List.length_range]
 exact Nat.le_refl _
theorem Tq {P : Program} {ρ : Ren} (L : Lays2.n20 P ρ) {w : World} {FF : List Nat} {v : Value} {l r : List Int} (hst : B1 [Sl (Ty.int .i64) v l] w FF) (hr : Mv l = some r) :
  Calls P (ρ.f 20) #[v] w (B9 fun u w' => SL w FF w' [Sl (Ty.int .i64) u r]) := by
 unfold Mv at hr
 split at hr
 ·rename_i hlen
  cases hr
  have hown : slOwn (Ty.int .i64) w FF v l := B1.K4 hst
  have hrow := (Flat.int .i64).slOwn.1 hown
  rcases hrow.2 with ⟨rfl, h0, rfl⟩ | ⟨g, o, cap, cur, e, fz, rfl, rfl, hg, hnc, hoc, hfz, hcells⟩
  ·have hl : l = [] := List.eq_nil_of_length_eq_zero h0
   subst hl
   refine (Any.slices_Compact_int_empty L none 0 w).mono fun _ w' ⟨he, hw⟩ => ⟨_, he, ?_⟩
   subst hw
   have : Lib.compact ([] : List Int) = [] := rfl
   rw [this]
   exact SL.init w' [] hst
  ·have hsz : (Ty.int .i64).sz = 1 := rfl
   rw [M6 l] at hcells
   rw [hsz, Nat.mul_one] at hoc
   have hcur : ∀ j, j < l.length → cur[o + j]? = some (Value.int .i64 (l.toArray[j]!)) := fun j hj => by
    have h1 := hcells j (Value.int .i64 l[j]) (by rw [List.getElem?_map, ANc hj]; rfl)
    rw [h1]
    congr 2
    simp [hj]
   have hH : Holds (Value.int .i64) w g o l.toArray := fun j hj => by
    have hj' : j < l.length := by simpa using hj
    refine ⟨?_, ?_⟩
    ·simp [World.cell?, hg, hcur j hj']
    ·have := hfz (o + j) (by omega)
     simp [World.frozen?, hg]
     omega
   have hcl := Yt l
   refine (Any.slices_Compact_int L g o cap l w hH (by omega) hnc).mono fun _ w' ⟨he, q, hw⟩ => ⟨_, he, ?_⟩
   refine A3u (d := Lib.compact l ++ List.replicate (l.length - (Lib.compact l).length) 0) (os := #[]) hg hoc ?_ hfz ?_ ?_ (by rw [hw]; rfl) (by rw [hw]; rfl) (by rw [hw]; rfl) ?_
   ·simp; omega
   ·simp
   ·intro j hj
    rw [List.getElem?_append_left hj]
   ·rw [hw, Array.append_empty]
    rfl
 ·cases hr
def U6 {ν : Type} (l : List (Int × ν)) : Option (List Int) :=
 if decide (l.length ≤ 1000000000) && l.all (fun p => decide (-9223372036854775808 ≤ p.1) && decide (p.1 ≤ 9223372036854775807)) then some (Ep (l.map Prod.fst)) else none
theorem Ag4 {P : Program} {ρ : Ren} (L : SlLaysZI.n7 P ρ) {w : World} {g : Nat} :
  Calls P (ρ.f 7) #[.map (some g)] w (B9 fun u w' => ∃ k, u = clo (ρ.f 10) [.pointer (some ⟨k, 0, none⟩)] ∧ SL w [] w' [A8 k (ρ.t 23) [.map (some g)]]) :=
 (callsIn_wide (n := 6)).1 ((AnyZI.keys_in L Fence.wide 6 trivial rfl (some g) w).mono fun e w' ⟨he, hw⟩ => ⟨_, he, w.heap.size, rfl, by
  subst hw
  exact ⟨Fm.alloc w [] _, [w.heap.size], B1.one (p := A8 _ _ _) ⟨rfl, heap_alloc_new w _⟩, fun k hk => .inr (by simp only [List.mem_singleton] at hk; omega)⟩⟩)
theorem Zw {P : Program} {k : TypeId} (hk : P.underlying k = some (.int .i64)) {x : Int} (h1 : -9223372036854775808 ≤ x) (h2 : x ≤ 9223372036854775807) : keyOf P k (.int .i64 x) = some (.int .i64 x) := by
 simp only [keyOf, hk, mapKey, true_and, ite_eq_left_iff]
 intro h
 refine absurd ?_ h
 simp only [Lit.wf, IntKind.min, IntKind.max, A2, ANr]
 first | exact ⟨h1, h2⟩ | (constructor <;> simp [IntKind.signed, IntKind.bits] <;> omega)
theorem Zt {P : Program} {ρ6 ρ7 ρs : Ren} (L6 : SlLaysZI.n6 P ρ6) (L7 : SlLaysZI.n7 P ρ7) (Ls : Lays.n189 P ρs) (e9 : ρ6.f 9 = ρs.f 189) {ν : Type} {ev_ : ν → Value} {w : World} {FF : List Nat} {g kb : Nat} {l : List (Int × ν)} {r : List Int}
  (h8 : EM P (ρ6.f 8) = true) (h9 : EM P (ρ6.f 9) = true) (h10 : EM P (ρ7.f 10) = true)
  (hst : B1 [Mp (Value.int .i64) ev_ g l, A8 kb (ρ7.t 23) [.map (some g)]] w FF) (hr : U6 l = some r) :
  Calls P (ρ6.f 6) #[clo (ρ7.f 10) [.pointer (some ⟨kb, 0, none⟩)]] w (B9 fun u w' => SL w FF w' [Mp (Value.int .i64) ev_ g l, Sl (Ty.int .i64) u r]) := by
 unfold U6 at hr
 split at hr
 ·rename_i hok
  cases hr
  simp only [ANr, A2, List.all_eq_true] at hok
  obtain ⟨hlen, hrange⟩ := hok
  obtain ⟨F1, F2, eF, ⟨e1, es, clock, hm⟩, ⟨F3, F4, eF2, ⟨e3, hkb⟩, e4, _⟩, hd⟩ := hst
  have hgl := ID hm.heap
  have hkl := ID hkb
  have hesz : es.size = l.length := hm.size
  have hent : ∀ x ∈ es.toList, ∃ p ∈ l, x.key = Value.int .i64 p.1 := fun x hx => by
   obtain ⟨j, hj, hjx⟩ := List.mem_iff_getElem.1 hx
   have hj' : es[j]? = some x := by rw [← Array.getElem?_toList, ANc hj, hjx]
   obtain ⟨p, hp, hk, _⟩ := hm.entry hj'
   exact ⟨p, List.mem_of_getElem? hp, hk⟩
  let R : Value → Option (DataW Unit × List MemPlace) := fun _ => some (.lit (.bool true), [])
  have hkeys : ∀ k : TypeId, P.underlying k = some (.int .i64) → ∀ x ∈ es.toList, ∃ p ∈ l, x.key = Value.int .i64 p.1 ∧ WideElems.rd P k R x = some (.int .i64 p.1, .lit (.bool true)) := fun k hk x hx => by
   obtain ⟨p, hp, hxk⟩ := hent x hx
   refine ⟨p, hp, hxk, ?_⟩
   have h1 := hrange p hp
   simp only [WideElems.rd, hxk, Zw hk h1.1 h1.2, AM9, R, ANa]
  have hown : w.ownsMap P (ρ7.t 26) R g l.length (.map ((es.toList.map (WideElems.rg P (ρ7.t 26) R)).foldr DataW.insert [])) := by
   refine ⟨es, clock, hm.heap, ⟨?_, ⟨hm.lt, hm.born.imp (fun h => by omega), ?_⟩, ?_⟩, by omega, rfl⟩
   ·unfold maxLen; omega
   ·have h1 : es.toList.map (·.key) = (l.map Prod.fst).map (Value.int .i64) := by
     have h2 := congrArg (List.map Prod.fst) hm.map
     simpa [List.map_map, Function.comp_def] using h2
    rw [h1]
    exact List.pairwise_map.2 (hm.nodup.imp fun hne e => hne (by cases e; rfl))
   ·intro x hx
    obtain ⟨p, _, _, h⟩ := hkeys _ L7.t26 x hx
    exact ⟨_, h⟩
  have hperm : (intKeys (DataW.map ((es.toList.map (WideElems.rg P (ρ7.t 26) R)).foldr DataW.insert []) : DataW Unit)).Perm (l.map Prod.fst) := by
   refine ((WideShapes.sorted_perm _).map _).trans ?_
   rw [List.map_map]
   have h1 : es.toList.map ((fun p => intOf p.1) ∘ WideElems.rg P (ρ7.t 26) R) = l.map Prod.fst := by
    have h2 := congrArg (List.map fun p : Value × Value => match p.1 with | .int _ a => a | _ => 0) hm.map
    rw [List.map_map, List.map_map] at h2
    refine Eq.trans (List.map_congr_left fun x hx => ?_) (h2.trans (List.map_congr_left fun x hx => ?_))
    ·obtain ⟨p, _, hk, h⟩ := hkeys _ L7.t26 x hx
     simp only [Function.comp, WideElems.rg, h, Option.getD_some, intOf, hk]
    ·simp only [Function.comp]
   rw [h1]
  have hsizeD : Maps.size (DataW.map ((es.toList.map (WideElems.rg P (ρ7.t 26) R)).foldr DataW.insert []) : DataW Unit) = l.length := by
   show (((es.toList.map (WideElems.rg P (ρ7.t 26) R)).foldr DataW.insert [])).length = l.length
   rw [length_sorted, ANe, Array.length_toList, hesz]
  have hcell : w.cell? ⟨kb, 0, none⟩ = some (.map (some g)) := by simp [World.cell?, hkb]
  have hseq := AnyZI.keys_gives (ρ := ρ7) { L7 with } Fence.wide 2 trivial rfl (by omega) kb g l.length _ w hkl hcell hown
  have hsorts : AnyZI.SortsIn P ρ6 Fence.wide 4 := ⟨fun blk off cap ss W hH hblk hsz => callsIn_wide.2 (by rw [e9]; exact Any.slices_Sort_int Ls blk off cap ss W hH hblk hsz),
   fun p cap W => callsIn_wide.2 (by rw [e9]; exact Any.slices_Sort_int_none Ls p cap W)⟩
  have cS := AnyZI.sorted_in L6 Fence.wide 5 trivial trivial trivial trivial rfl (by omega) hsorts (fun args w => JZ h9 args) (ρ7.f 10) #[.pointer (some ⟨kb, 0, none⟩)] trivial (fun args w => JZ h10 args) _ _ (by rw [hsizeD]; unfold maxLen; omega) (by rw [hsizeD]; omega) w hseq
  refine ((callsIn_wide (n := 5)).1 cS).mono fun _ w' ⟨v, ss, he, hss, hrow, hnil, hb⟩ => ⟨v, he, ?_⟩
  have hfm : Fm w FF w' := ⟨hb.os, hb.tape, hb.output, hb.size, fun k hk _ => hb.block k hk⟩
  have hsort : ss.mergeSort (fun x y => decide (x ≤ y)) = Ep (l.map Prod.fst) := mergeSort_of_perm_i (hss.trans hperm)
  rw [hsort] at hrow
  have hslen : (Ep (l.map Prod.fst)).length = ss.length := by rw [← hsort]; simp
  refine SL.mk hfm ?_
  have hmp : (Mp (Value.int .i64) ev_ g l).P w' [g] := ⟨rfl, es, clock, ⟨by rw [hb.block g hgl]; exact hm.heap, hm.map, hm.born, hm.lt, hm.nodup⟩⟩
  rcases hrow.2 with ⟨rfl, h0⟩ | ⟨gb, cap, cur, rfl, hbase, hgb, r1, r2, r3, r4⟩
  ·have hz : Ep (l.map Prod.fst) = [] := List.eq_nil_of_length_eq_zero (by rw [hslen]; exact h0)
   rw [hz]
   refine ⟨[g], ⟨[g], [], rfl, hmp, ⟨[], [], rfl, slOwn.nil w', rfl, by simp⟩, by simp⟩, fun k hk => .inl ?_⟩
   rw [eF, e1]
   simp only [List.mem_singleton] at hk
   simp [hk]
  ·have hne : gb ≠ g := by omega
   have hcl : cur.toList.take (ss.length * 1) = (Ep (l.map Prod.fst)).map (Value.int .i64) := r4
   refine ⟨[g, gb], ⟨[g], [gb], rfl, hmp, ⟨[gb], [], rfl, (Flat.int .i64).slOwn.2 ⟨by rw [Lq (Flat.int .i64)], .inr ⟨gb, 0, cap, cur, _, (0, 0), by rw [hslen], rfl, hgb, by omega, ?_, fun j hj => by simp, ?_⟩⟩, rfl, by simp⟩, by simp; exact fun e => hne e.symm⟩, fun k hk => ?_⟩
   ·show 0 + cap * 1 ≤ cur.size
    rw [r3]
    omega
   ·intro j u hu
    rw [M6, ← hcl, List.getElem?_take] at hu
    split at hu
    ·rw [Nat.zero_add, ← Array.getElem?_toList]; exact hu
    ·cases hu
   ·simp only [ANh, List.not_mem_nil, or_false] at hk
    rcases hk with rfl | rfl
    ·left
     rw [eF, e1]
     simp
    ·exact .inr hbase
 ·cases hr
end Go.Pv
namespace Go.Proofs.YtfcpkcehecmcpaaGreat
open Go Go.RowKit Go.Pv
structure B6 where
 Name : List UInt8
 GQ : UInt8
def KA (x : B6) := (x.Name, x.GQ)
def Ct : Ty B6 := Ty.iso (Ty.pair Ty.str Ty.u8) KA
theorem DO : Flat Ct (fun x => [.string ⟨⟨x.Name⟩⟩, .int .u8 (x.GQ.toNat : Int)]) := Flat.iso (Flat.pair Flat.str Flat.u8) _
structure A6 where
 Name : List UInt8
 B2 : Int
 Fields : List B6
def JB (x : A6) := (x.Name, x.B2, x.Fields)
def AB : Ty A6 := Ty.iso (Ty.pair Ty.str (Ty.pair (Ty.int .i64) (Ty.slice Ct))) JB
theorem C7 {w : World} {F0 : List Nat} {G : List Nat} {x : A6} {cs : List Value} (h : (AB).rd w G x cs) (hG : ∀ k ∈ G, k < w.heap.size ∧ k ∉ F0) :
  ∃ v2 : Value, cs = [.string ⟨⟨x.Name⟩⟩, .int .i64 x.B2, v2] ∧ Rd Ct w F0 v2 x.Fields := by
 obtain ⟨_, _, rfl, rfl, ⟨_, _, rfl, rfl, ⟨v2, rfl, h0⟩⟩⟩ := h
 exact ⟨v2, rfl, ⟨G, h0, hG⟩⟩
structure Bl where
 Bv : List UInt8
 Result : UInt8
def Ge (x : Bl) := (x.Bv, x.Result)
def B8 : Ty Bl := Ty.iso (Ty.pair (Ty.slice Ty.u8) Ty.u8) Ge
theorem Ga {w : World} {F0 : List Nat} {G : List Nat} {x : Bl} {cs : List Value} (h : (B8).rd w G x cs) (hG : ∀ k ∈ G, k < w.heap.size ∧ k ∉ F0) :
  ∃ v0 : Value, cs = [v0, .int .u8 (x.Result.toNat : Int)] ∧ Rd Ty.u8 w F0 v0 x.Bv := by
 obtain ⟨_, _, rfl, ⟨v0, rfl, h0⟩, rfl⟩ := h
 exact ⟨v0, rfl, ⟨G, h0, hG⟩⟩
structure BX where
 Name : List UInt8
 Sig : Bl
 Locals : Int
 Code : List UInt8
def Kv (x : BX) := (x.Name, x.Sig, x.Locals, x.Code)
def Cc : Ty BX := Ty.iso (Ty.pair Ty.str (Ty.pair B8 (Ty.pair (Ty.int .i64) (Ty.slice Ty.u8)))) Kv
theorem Jv {w : World} {F0 : List Nat} {G : List Nat} {x : BX} {cs : List Value} (h : (Cc).rd w G x cs) (hG : ∀ k ∈ G, k < w.heap.size ∧ k ∉ F0) :
  ∃ v1 v4 : Value, cs = [.string ⟨⟨x.Name⟩⟩, v1, .int .u8 (x.Sig.Result.toNat : Int), .int .i64 x.Locals, v4] ∧ Rd Ty.u8 w F0 v1 x.Sig.Bv ∧ Rd Ty.u8 w F0 v4 x.Code := by
 obtain ⟨_, _, rfl, rfl, ⟨_, _, rfl, ⟨_, _, rfl, ⟨v1, rfl, h0⟩, rfl⟩, ⟨_, _, rfl, rfl, ⟨v4, rfl, h1⟩⟩⟩⟩ := h
 exact ⟨v1, v4, rfl, ⟨G, h0, hG⟩, ⟨G, h1, hG⟩⟩
structure AL where
 Name : List UInt8
 Classes : List A6
 Funcs : List BX
 Ca : List (List UInt8)
def Nc (x : AL) := (x.Name, x.Classes, x.Funcs, x.Ca)
def Sy : Ty AL := Ty.iso (Ty.pair Ty.str (Ty.pair (Ty.slice AB) (Ty.pair (Ty.slice Cc) (Ty.slice (Ty.slice Ty.u8))))) Nc
theorem XL {w : World} {F0 : List Nat} {G : List Nat} {x : AL} {cs : List Value} (h : (Sy).rd w G x cs) (hG : ∀ k ∈ G, k < w.heap.size ∧ k ∉ F0) :
  ∃ v1 v2 v3 : Value, cs = [.string ⟨⟨x.Name⟩⟩, v1, v2, v3] ∧ Rd AB w F0 v1 x.Classes ∧ Rd Cc w F0 v2 x.Funcs ∧ Rd (Ty.slice Ty.u8) w F0 v3 x.Ca := by
 obtain ⟨_, _, rfl, rfl, ⟨_, _, rfl, ⟨v1, rfl, h0⟩, ⟨_, _, rfl, ⟨v2, rfl, h1⟩, ⟨v3, rfl, h2⟩⟩⟩⟩ := h
 exact ⟨v1, v2, v3, rfl, ⟨G, h0, hG⟩, ⟨G, h1, hG⟩, ⟨G, h2, hG⟩⟩
structure A9 where
 At : Int
 Op : UInt8
 A : Int
 B : Int
def Yo (x : A9) := (x.At, x.Op, x.A, x.B)
def Bs : Ty A9 := Ty.iso (Ty.pair (Ty.int .i64) (Ty.pair Ty.u8 (Ty.pair (Ty.int .i64) (Ty.int .i64)))) Yo
theorem Dq : Flat Bs (fun x => [.int .i64 x.At, .int .u8 (x.Op.toNat : Int), .int .i64 x.A, .int .i64 x.B]) := Flat.iso (Flat.pair (Flat.int .i64) (Flat.pair Flat.u8 (Flat.pair (Flat.int .i64) (Flat.int .i64)))) _
structure Cf where
 l : List A9
 CW : Int
structure AA where
 Classes : List A6
 AQ : List Bl
 Fn : Int
structure A4 where
 Locals : Int
 Height : Int
 Slots : Vector UInt8 24
def Yz (x : A4) := (x.Locals, x.Height, x.Slots)
def BM : Ty A4 := Ty.iso (Ty.pair (Ty.int .i64) (Ty.pair (Ty.int .i64) (Ty.ZD 24))) Yz
theorem Cj : Flat BM (fun x => (.int .i64 x.Locals :: .int .i64 x.Height :: AU x.Slots)) := Flat.iso (Flat.pair (Flat.int .i64) (Flat.pair (Flat.int .i64) (Flat.ZD 24))) _
structure BO where
 At : Int
 Dead : Bool
 Frame : A4
def Yh (x : BO) := (x.At, x.Dead, x.Frame)
def Dy : Ty BO := Ty.iso (Ty.pair (Ty.int .i64) (Ty.pair Ty.bool BM)) Yh
theorem Gs : Flat Dy (fun x => (.int .i64 x.At :: .bool x.Dead :: .int .i64 x.Frame.Locals :: .int .i64 x.Frame.Height :: AU x.Frame.Slots)) := Flat.iso (Flat.pair (Flat.int .i64) (Flat.pair Flat.bool Cj)) _
structure AV where
 e : AA
 code : List UInt8
 frames : List (Int × A4)
 fresh : List (Int × Unit)
 taken : List (Int × Int)
 BU : Int
structure A5 where
 kind : Int
 t : UInt8
def Yj (x : A5) := (x.kind, x.t)
def AD : Ty A5 := Ty.iso (Ty.pair (Ty.int .i64) Ty.u8) Yj
theorem BZ : Flat AD (fun x => [.int .i64 x.kind, .int .u8 (x.t.toNat : Int)]) := Flat.iso (Flat.pair (Flat.int .i64) Flat.u8) _
structure BL where
 takes : List A5
 gives : Gv
structure AM where
 Has : List Bool
 Frame : List A4
 C2 : List Bool
 Taken : List Int
def Er (wb : World) (Fb : List Nat) : Ty Bl := Ty.iso (Ty.pair (Ty.XV wb Fb Ty.u8) Ty.u8) Ge
end Go.Proofs.YtfcpkcehecmcpaaGreat
namespace Go.Proofs.YtfcpkcehecmcpaaGreat
open Go Go.RowKit Go.Pv
noncomputable def Gd (a0 : List (Int × Int)) : Option (List Int) := if a0.length ≤ 1000000000 then some (Ep (a0.map Prod.fst)) else none
noncomputable def Dd (a0 : List B6) : Option ((List B6)) :=
 (app 5864062014805 ([] : List B6) a0).bind fun x55 => some x55
noncomputable def EE (a0 : List A6) (s0 : (List A6) × Int) : Option (((List A6) × Int) ⊕ (((List A6)))) :=
 if decide (s0.2 < (a0.length : Int)) = true then ((idx a0 s0.2).bind fun x0 => (Dd x0.Fields).bind fun x1 => (app 2932031007402 s0.1 ([(⟨x0.Name, x0.B2, x1⟩ : A6)] : List A6)).bind fun x2 => some (.inl (x2, wr (s0.2 + 1)))) else (some (.inr s0.1))
noncomputable def Ha (a0 : List A6) : Option ((List A6)) :=
 (AY (EE a0) ([], 0)).bind fun o0 => (some o0)
noncomputable def Dm (a0 : List UInt8) : Option ((List UInt8)) :=
 (app 140737488355328 ([] : List UInt8) a0).bind fun x55 => some x55
noncomputable def IM (a0 : Bl) : Option Bl :=
 (Dm a0.Bv).bind fun x44 => some (⟨x44, a0.Result⟩ : Bl)
noncomputable def ES (a0 : List UInt8) : Option ((List UInt8)) :=
 (app 140737488355328 ([] : List UInt8) a0).bind fun x55 => some x55
noncomputable def Iz (a0 : BX) : Option BX :=
 (IM (⟨a0.Sig.Bv, a0.Sig.Result⟩ : Bl)).bind fun x44 => (ES a0.Code).bind fun x82 => some (⟨a0.Name, (⟨x44.Bv, x44.Result⟩ : Bl), a0.Locals, x82⟩ : BX)
noncomputable def EU (a0 : AL) (s0 : (List BX) × Int) : Option (((List BX) × Int) ⊕ (((List BX)))) :=
 if decide (s0.2 < (a0.Funcs.length : Int)) = true then ((idx a0.Funcs s0.2).bind fun x0 => (Iz (⟨x0.Name, (⟨x0.Sig.Bv, x0.Sig.Result⟩ : Bl), x0.Locals, x0.Code⟩ : BX)).bind fun x1 => (app 1759218604441 s0.1 ([(⟨x1.Name, (⟨x1.Sig.Bv, x1.Sig.Result⟩ : Bl), x1.Locals, x1.Code⟩ : BX)] : List BX)).bind fun x2 => some (.inl (x2, wr (s0.2 + 1)))) else (some (.inr s0.1))
noncomputable def ER (a0 : AL) (s0 : (List (List UInt8)) × Int) : Option (((List (List UInt8)) × Int) ⊕ (((List (List UInt8))))) :=
 if decide (s0.2 < (a0.Ca.length : Int)) = true then ((idx a0.Ca s0.2).bind fun x0 => (ES x0).bind fun x1 => (app 5864062014805 s0.1 ([x1] : List (List UInt8))).bind fun x2 => some (.inl (x2, wr (s0.2 + 1)))) else (some (.inr s0.1))
noncomputable def Hv (a0 : AL) : Option AL :=
 (Ha a0.Classes).bind fun x53 => (AY (EU a0) ([], 0)).bind fun o0 => ((AY (ER a0) ([], 0)).bind fun o1 => (some (⟨a0.Name, x53, o0, o1⟩ : AL)))
noncomputable def Ka (a0 : AL) (s0 : (List A6) × Int) : Option (((List A6) × Int) ⊕ (((List A6)))) :=
 if decide (s0.2 < (a0.Classes.length : Int)) = true then ((idx a0.Classes s0.2).bind fun x0 => (Dd x0.Fields).bind fun x1 => (app 2932031007402 s0.1 ([(⟨x0.Name, x0.B2, x1⟩ : A6)] : List A6)).bind fun x2 => some (.inl (x2, wr (s0.2 + 1)))) else (some (.inr s0.1))
noncomputable def Kj (a0 : AL) (s0 : (List Bl) × Int) : Option (((List Bl) × Int) ⊕ (((List Bl)))) :=
 if decide (s0.2 < (a0.Funcs.length : Int)) = true then ((idx a0.Funcs s0.2).bind fun x0 => (Dm x0.Sig.Bv).bind fun x1 => (app 4398046511104 s0.1 ([(⟨x1, x0.Sig.Result⟩ : Bl)] : List Bl)).bind fun x2 => some (.inl (x2, wr (s0.2 + 1)))) else (some (.inr s0.1))
noncomputable def NM (a0 : AL) (a1 : Int) : Option (AA × Bool) :=
 if decide (a1 < 0) = true then (some ((⟨[], [], 0⟩ : AA), false)) else (if decide (a1 ≥ (a0.Funcs.length : Int)) = true then (some ((⟨[], [], 0⟩ : AA), false)) else ((AY (Ka a0) ([], 0)).bind fun o0 => ((AY (Kj a0) ([], 0)).bind fun o1 => (some ((⟨o0, o1, a1⟩ : AA), true)))))
noncomputable def FP (a0 : List UInt8) (s0 : Int) : Option (Int ⊕ (Bool ⊕ Unit)) :=
 if decide (s0 < (a0.length : Int)) = true then ((idx a0 s0).bind fun x0 => (if decide ((x0.toNat : Int) ≥ 97) = true then (if decide ((x0.toNat : Int) ≤ 122) = true then (some true) else (if decide ((x0.toNat : Int) ≥ 65) = true then (some (decide ((x0.toNat : Int) ≤ 90))) else (some false))) else (if decide ((x0.toNat : Int) ≥ 65) = true then (some (decide ((x0.toNat : Int) ≤ 90))) else (some false))).bind fun o0 => (if o0 = true then (some (.inl (wr (s0 + 1)))) else (if decide (s0 > 0) = true then (if decide ((x0.toNat : Int) ≥ 48) = true then (if decide ((x0.toNat : Int) ≤ 57) = true then (some (.inl (wr (s0 + 1)))) else (if ((x0.toNat : Int) == 95) = true then (some (.inl (wr (s0 + 1)))) else (some (.inr (.inl false))))) else (if ((x0.toNat : Int) == 95) = true then (some (.inl (wr (s0 + 1)))) else (some (.inr (.inl false))))) else (some (.inr (.inl false)))))) else (some (.inr (.inr (()))))
noncomputable def J2 (a0 : List UInt8) : Option Bool :=
 if ((a0.length : Int) == 0) = true then (some false) else (if decide ((a0.length : Int) > 24) = true then (some false) else (((AY (FP a0) 0 : Option (Bool ⊕ Unit))).bind fun o0 => (match o0 with | .inl p0 => (some p0) | .inr p1 => (some true))))
noncomputable def NB  : Option ((List (List UInt8))) :=
 some ([[116, 111, 112], [105, 110, 116], [98, 111, 111, 108], [110, 117, 108, 108], [105, 110, 116, 115], [97, 110, 121]] : List (List UInt8))
noncomputable def Cl (a0 : List (List UInt8)) (a1 : List UInt8) (s0 : Int) : Option (Int ⊕ (Int ⊕ Unit)) :=
 if decide (s0 < (a0.length : Int)) = true then ((idx a0 s0).bind fun x0 => if (a1 == x0) = true then (some (.inr (.inl s0))) else (some (.inl (wr (s0 + 1))))) else (some (.inr (.inr (()))))
noncomputable def EN (a0 : List (List UInt8)) (a1 : List UInt8) : Option Int :=
 ((AY (Cl a0 a1) 0 : Option (Int ⊕ Unit))).bind fun o0 => (match o0 with | .inl p0 => (some p0) | .inr p1 => (some (-1)))
noncomputable def C4 (a0 : List (List UInt8)) (a1 : List UInt8) : Option Bool :=
 (EN a0 a1).bind fun x14 => some (decide (x14 ≥ 0))
noncomputable def KL (a0 : A6) (a1 : A6) : Option Bool :=
 some (a0.Name == a1.Name)
noncomputable def BR (a0 : List A6) (a1 : A6) (s0 : Int) : Option (Int ⊕ (Int ⊕ Unit)) :=
 if decide (s0 < (a0.length : Int)) = true then ((idx a0 s0).bind fun x0 => (KL x0 (⟨a1.Name, a1.B2, a1.Fields⟩ : A6)).bind fun x1 => if x1 = true then (some (.inr (.inl s0))) else (some (.inl (wr (s0 + 1))))) else (some (.inr (.inr (()))))
noncomputable def CU (a0 : List A6) (a1 : A6) : Option Int :=
 ((AY (BR a0 a1) 0 : Option (Int ⊕ Unit))).bind fun o0 => (match o0 with | .inl p0 => (some p0) | .inr p1 => (some (-1)))
noncomputable def Cn (a0 : List A6) (a1 : A6) : Option Bool :=
 (CU a0 (⟨a1.Name, a1.B2, a1.Fields⟩ : A6)).bind fun x20 => some (decide (x20 ≥ 0))
noncomputable def Fa (x0 : A6) (s0 : (List (List UInt8)) × Int) : Option (((List (List UInt8)) × Int) ⊕ (((List (List UInt8))))) :=
 if decide (s0.2 < (x0.Fields.length : Int)) = true then ((idx x0.Fields s0.2).bind fun x1 => (app 8796093022208 s0.1 ([x1.Name] : List (List UInt8))).bind fun x2 => some (.inl (x2, wr (s0.2 + 1)))) else (some (.inr s0.1))
noncomputable def Je (a0 : Int) (a1 : List A6) (a2 : List (List UInt8)) : Option (Bool × (List (List UInt8))) :=
 (idx a1 a0).bind fun x0 => (AY (Fa x0) (a2, 0)).bind fun o0 => (some (true, o0))
noncomputable def Ds (a0 : List A6) (a1 : List A6) (s0 : (List (List UInt8)) × Int) : Option (((List (List UInt8)) × Int) ⊕ (((List (List UInt8))) ⊕ ((List (List UInt8))))) :=
 if decide (s0.2 ≥ 0) = true then (if decide (s0.2 < (a0.length : Int)) = true then ((Je s0.2 a1 s0.1).bind fun x0 => if x0.1 = true then ((idx a0 s0.2).bind fun x1 => if decide (x1.B2 ≥ s0.2) = true then (some (.inr (.inl x0.2))) else (some (.inl (x0.2, x1.B2)))) else (some (.inr (.inr (x0.2))))) else (some (.inr (.inr (s0.1))))) else (some (.inr (.inr (s0.1))))
noncomputable def FW (a0 : List A6) (a1 : Int) (a2 : List A6) (a3 : List (List UInt8)) : Option ((List (List UInt8))) :=
 ((AY (Ds a0 a2) (a3, a1) : Option (((List (List UInt8))) ⊕ ((List (List UInt8)))))).bind fun o0 => (match o0 with | .inl p0 => (some p0) | .inr p1 => (some p1))
noncomputable def GT (a0 : List A6) (a1 : UInt8) : Option Int :=
 if decide ((a1.toNat : Int) < 16) = true then (some (-1)) else (if decide (((Fo ((a1.toNat : Int) - 16)).toNat : Int) ≥ (a0.length : Int)) = true then (some (-1)) else (some ((Fo ((a1.toNat : Int) - 16)).toNat : Int)))
noncomputable def Lk (a0 : List A6) (a1 : UInt8) : Option Bool :=
 if ((a1.toNat : Int) == 1) = true then (some true) else (if ((a1.toNat : Int) == 2) = true then (some true) else (if ((a1.toNat : Int) == 4) = true then (some true) else (if ((a1.toNat : Int) == 5) = true then (some true) else ((GT a0 a1).bind fun x46 => some (decide (x46 ≥ 0))))))
noncomputable def Gf (a0 : List A6) (x0 : A6) (s0 : (List (List UInt8)) × Int) : Option (((List (List UInt8)) × Int) ⊕ (Int ⊕ ((List (List UInt8))))) :=
 if decide (s0.2 < (x0.Fields.length : Int)) = true then ((idx x0.Fields s0.2).bind fun x1 => (J2 x1.Name).bind fun x2 => if (!x2) = true then (some (.inr (.inl 6))) else ((C4 s0.1 x1.Name).bind fun x3 => if x3 = true then (some (.inr (.inl 20))) else ((Lk a0 x1.GQ).bind fun x4 => if (!x4) = true then (some (.inr (.inl 22))) else ((app 8796093022208 s0.1 ([x1.Name] : List (List UInt8))).bind fun x5 => some (.inl (x5, wr (s0.2 + 1))))))) else (some (.inr (.inr (s0.1))))
noncomputable def KO (a0 : List A6) (a1 : Int) : Option Int :=
 (idx a0 a1).bind fun x0 => (FW a0 x0.B2 a0 []).bind fun x1 => (idx a0 a1).bind fun x2 => ((AY (Gf a0 x2) (x1, 0) : Option (Int ⊕ ((List (List UInt8)))))).bind fun o0 => (match o0 with | .inl p0 => (some p0) | .inr p1 => (if decide ((p1.length : Int) > 32) = true then (some 4) else (some 0)))
noncomputable def GN (a0 : List A6) (s0 : Int) : Option (Int ⊕ ((Int × Int) ⊕ Unit)) :=
 if decide (s0 < (a0.length : Int)) = true then ((idx a0 s0).bind fun x0 => (if decide (s0 ≥ 32) = true then (some 4) else ((J2 x0.Name).bind fun x1 => if (!x1) = true then (some 6) else ((NB).bind fun x2 => (C4 x2 x0.Name).bind fun x3 => if x3 = true then (some 6) else ((J5 a0 0 s0).bind fun x4 => (Cn x4 (⟨x0.Name, x0.B2, x0.Fields⟩ : A6)).bind fun x5 => if x5 = true then (some 20) else (if decide (x0.B2 < (-1)) = true then (some 21) else (if decide (x0.B2 ≥ s0) = true then (some 21) else ((KO a0 s0).bind fun x6 => some x6))))))).bind fun o0 => (if (o0 != 0) = true then (some (.inr (.inl (s0, o0)))) else (some (.inl (wr (s0 + 1)))))) else (some (.inr (.inr (()))))
noncomputable def K6 (a0 : List A6) : Option (Int × Int) :=
 ((AY (GN a0) 0 : Option ((Int × Int) ⊕ Unit))).bind fun o0 => (match o0 with | .inl p0 => (some p0) | .inr p1 => (some (0, 0)))
noncomputable def FO (a0 : List A6) (a1 : UInt8) : Option Bool :=
 if decide ((a1.toNat : Int) ≤ 5) = true then (some true) else ((GT a0 a1).bind fun x22 => some (decide (x22 ≥ 0)))
noncomputable def Lj (a0 : List A6) (a1 : UInt8) : Option Bool :=
 (FO a0 a1).bind fun x22 => if x22 = true then (if ((a1.toNat : Int) != 0) = true then (some ((a1.toNat : Int) != 3)) else (some false)) else (some false)
noncomputable def Jn (a0 : UInt8) (a1 : AA) : Option Bool :=
 (Lj a1.Classes a0).bind fun x16 => some (!x16)
noncomputable def Cb (a0 : List UInt8) (a1 : AA) (s0 : Int) : Option (Int ⊕ (Int ⊕ Unit)) :=
 if decide (s0 < (a0.length : Int)) = true then ((idx a0 s0).bind fun x0 => (Jn x0 (⟨a1.Classes, a1.AQ, a1.Fn⟩ : AA)).bind fun x1 => if x1 = true then (some (.inr (.inl s0))) else (some (.inl (wr (s0 + 1))))) else (some (.inr (.inr (()))))
noncomputable def Dl (a0 : List UInt8) (a1 : AA) : Option Int :=
 ((AY (Cb a0 a1) 0 : Option (Int ⊕ Unit))).bind fun o0 => (match o0 with | .inl p0 => (some p0) | .inr p1 => (some (-1)))
noncomputable def Cs (a0 : List UInt8) (a1 : AA) : Option Bool :=
 (Dl a0 (⟨a1.Classes, a1.AQ, a1.Fn⟩ : AA)).bind fun x20 => some (decide (x20 ≥ 0))
noncomputable def MV (a0 : Int) : Option (A4 × Int) :=
 if decide (a0 < 0) = true then (some ((⟨0, 0, (Vector.replicate 24 (0 : UInt8))⟩ : A4), 1)) else (if decide (a0 > 16) = true then (some ((⟨0, 0, (Vector.replicate 24 (0 : UInt8))⟩ : A4), 1)) else (some ((⟨a0, 0, (Vector.replicate 24 (0 : UInt8))⟩ : A4), 0)))
noncomputable def Ig (a0 : List A6) (a1 : List UInt8) (s0 : (Vector UInt8 24) × Int) : Option (((Vector UInt8 24) × Int) ⊕ ((A4 × Int) ⊕ ((Vector UInt8 24)))) :=
 if decide (s0.2 < (a1.length : Int)) = true then ((idx a1 s0.2).bind fun x0 => (FO a0 x0).bind fun x1 => if (!x1) = true then (some (.inr (.inl ((⟨0, 0, (Vector.replicate 24 (0 : UInt8))⟩ : A4), 1)))) else (if ((x0.toNat : Int) == 0) = true then (some (.inr (.inl ((⟨0, 0, (Vector.replicate 24 (0 : UInt8))⟩ : A4), 1)))) else (if ((x0.toNat : Int) == 3) = true then (some (.inr (.inl ((⟨0, 0, (Vector.replicate 24 (0 : UInt8))⟩ : A4), 1)))) else ((idx s0.1.toList s0.2).bind fun x2 => some (.inl ((Ir s0.1 s0.2 x0), wr (s0.2 + 1))))))) else (some (.inr (.inr (s0.1))))
noncomputable def Kh (a0 : List A6) (a1 : List UInt8) (a2 : Int) : Option (A4 × Int) :=
 (MV a2).bind fun x38 => if (x38.2 != 0) = true then (some ((⟨0, 0, (Vector.replicate 24 (0 : UInt8))⟩ : A4), 1)) else (if decide ((a1.length : Int) > 8) = true then (some ((⟨0, 0, (Vector.replicate 24 (0 : UInt8))⟩ : A4), 1)) else (if decide ((a1.length : Int) > a2) = true then (some ((⟨0, 0, (Vector.replicate 24 (0 : UInt8))⟩ : A4), 1)) else (((AY (Ig a0 a1) (x38.1.Slots, 0) : Option ((A4 × Int) ⊕ ((Vector UInt8 24))))).bind fun o0 => (match o0 with | .inl p0 => (some p0) | .inr p1 => (some ((⟨x38.1.Locals, x38.1.Height, p1⟩ : A4), 0))))))
noncomputable def JV (a0 : AA) (s0 : Int) : Option (Int ⊕ (Int ⊕ Unit)) :=
 if decide (s0 < (a0.AQ.length : Int)) = true then ((idx a0.AQ s0).bind fun x0 => if decide ((x0.Bv.length : Int) > 8) = true then (some (.inr (.inl 4))) else ((Cs x0.Bv (⟨a0.Classes, a0.AQ, a0.Fn⟩ : AA)).bind fun x1 => if x1 = true then (some (.inr (.inl 22))) else (if ((x0.Result.toNat : Int) != 0) = true then ((Jn x0.Result (⟨a0.Classes, a0.AQ, a0.Fn⟩ : AA)).bind fun x2 => if x2 = true then (some (.inr (.inl 22))) else (some (.inl (wr (s0 + 1))))) else (some (.inl (wr (s0 + 1))))))) else (some (.inr (.inr (()))))
noncomputable def M4 (a0 : AA) (a1 : Int) : Option Int :=
 (K6 a0.Classes).bind fun x57 => if (x57.2 != 0) = true then (some x57.2) else (if decide ((a0.AQ.length : Int) > 64) = true then (some 4) else (((AY (JV a0) 0 : Option (Int ⊕ Unit))).bind fun o0 => (match o0 with | .inl p0 => (some p0) | .inr p1 => (if decide (a0.Fn < 0) = true then (some 71) else (if decide (a0.Fn ≥ (a0.AQ.length : Int)) = true then (some 71) else ((idx a0.AQ a0.Fn).bind fun x0 => (Kh a0.Classes x0.Bv a1).bind fun x1 => some x1.2))))))
noncomputable def K8 (a0 : UInt8) : Option (Int × Int) :=
 if ((a0.toNat : Int) == 1) = true then (some (4, 0)) else ((if ((a0.toNat : Int) == 19) = true then (some true) else (some ((a0.toNat : Int) == 20))).bind fun o0 => (if o0 = true then (some (2, 0)) else ((if ((a0.toNat : Int) == 24) = true then (some true) else (some ((a0.toNat : Int) == 25))).bind fun o1 => (if o1 = true then (some (1, 1)) else ((if ((a0.toNat : Int) == 2) = true then (some true) else (if ((a0.toNat : Int) == 4) = true then (some true) else (some ((a0.toNat : Int) == 5)))).bind fun o2 => (if o2 = true then (some (1, 0)) else ((if ((a0.toNat : Int) == 21) = true then (some true) else (if ((a0.toNat : Int) == 23) = true then (some true) else (if ((a0.toNat : Int) == 30) = true then (some true) else (if ((a0.toNat : Int) == 31) = true then (some true) else (some ((a0.toNat : Int) == 32)))))).bind fun o3 => (if o3 = true then (some (1, 0)) else (some (0, 0))))))))))
noncomputable def HS (a0 : UInt8) : Option Int :=
 if decide ((a0.toNat : Int) ≥ 34) = true then (some 0) else ((K8 a0).bind fun x26 => some (wr ((wr (1 + x26.1)) + x26.2)))
noncomputable def FD (x0 : List UInt8) (s0 : Int × Int) : Option ((Int × Int) ⊕ Int) :=
 if decide (s0.2 < (x0.length : Int)) = true then ((idx x0 s0.2).bind fun x1 => some (.inl (bOr .i64 (XB .i64 s0.1 8) (x1.toNat : Int), wr (s0.2 + 1)))) else (some (.inr s0.1))
noncomputable def Ii (a0 : Int) (a1 : List UInt8) : Option (Int × (List UInt8)) :=
 (J5 a1 0 a0).bind fun x0 => (AY (FD x0) (0, 0)).bind fun o0 => ((J5 a1 a0 (a1.length : Int)).bind fun x1 => if (a0 == 4) = true then (some (wr (IntKind.i32.wrap o0), x1)) else (some (o0, x1)))
noncomputable def I7 (a0 : List UInt8) (a1 : Int) : Option (A9 × Int) :=
 if decide (a1 < 0) = true then (some ((⟨0, 0, 0, 0⟩ : A9), 1)) else (if decide (a1 > (a0.length : Int)) = true then (some ((⟨0, 0, 0, 0⟩ : A9), 1)) else (if (a1 == (a0.length : Int)) = true then (some ((⟨0, 0, 0, 0⟩ : A9), 2)) else ((idx a0 a1).bind fun x0 => (HS x0).bind fun x1 => if (x1 == 0) = true then (some ((⟨0, 0, 0, 0⟩ : A9), 40)) else ((idx a0 a1).bind fun x2 => (HS x2).bind fun x3 => if decide ((wr ((a0.length : Int) - a1)) < x3) = true then (some ((⟨0, 0, 0, 0⟩ : A9), 2)) else ((idx a0 a1).bind fun x4 => (J5 a0 (wr (a1 + 1)) (a0.length : Int)).bind fun x5 => (K8 x4).bind fun x6 => (Ii x6.1 x5).bind fun x7 => (Ii x6.2 x7.2).bind fun x8 => if ((x4.toNat : Int) == 2) = true then (if decide (x7.1 > 1) = true then (some ((⟨0, 0, 0, 0⟩ : A9), 5)) else (some ((⟨a1, x4, x7.1, x8.1⟩ : A9), 0))) else (some ((⟨a1, x4, x7.1, x8.1⟩ : A9), 0)))))))
noncomputable def CM (a0 : AV) (a1 : A9) (s0 : (List (Int × Int)) × Int) : Option (((List (Int × Int)) × Int) ⊕ ((Bool × AV) ⊕ ((List (Int × Int))))) :=
 (HS a1.Op).bind fun x0 => if decide (s0.2 < (wr (a1.At + x0))) = true then (if (Cd s0.1 s0.2).isSome = true then (if (((Cd s0.1 s0.2).getD (0 : Int)) != a1.At) = true then (some (.inr (.inl (false, (⟨(⟨a0.e.Classes, a0.e.AQ, a0.e.Fn⟩ : AA), a0.code, a0.frames, a0.fresh, s0.1, a0.BU⟩ : AV))))) else (some (.inl ((Da s0.1 s0.2 a1.At), wr (s0.2 + 1))))) else (some (.inl ((Da s0.1 s0.2 a1.At), wr (s0.2 + 1))))) else (some (.inr (.inr (s0.1))))
noncomputable def Hy (a0 : AV) (a1 : A9) : Option (Bool × AV) :=
 ((AY (CM a0 a1) (a0.taken, a1.At) : Option ((Bool × AV) ⊕ ((List (Int × Int)))))).bind fun o0 => (match o0 with | .inl p0 => (some p0) | .inr p1 => (some (true, (⟨(⟨a0.e.Classes, a0.e.AQ, a0.e.Fn⟩ : AA), a0.code, a0.frames, a0.fresh, p1, a0.BU⟩ : AV))))
noncomputable def FT (a0 : UInt8) (a1 : AA) : Option Bool :=
 (FO a1.Classes a0).bind fun x24 => if x24 = true then (if ((a0.toNat : Int) != 0) = true then (some ((a0.toNat : Int) != 3)) else (some false)) else (some false)
noncomputable def Gg (a0 : AA) (x0 : Bl) (s0 : Int) : Option (Int ⊕ (Bool ⊕ Unit)) :=
 if decide (s0 < (x0.Bv.length : Int)) = true then ((idx x0.Bv s0).bind fun x1 => (FT x1 (⟨a0.Classes, a0.AQ, a0.Fn⟩ : AA)).bind fun x2 => if (!x2) = true then (some (.inr (.inl false))) else (some (.inl (wr (s0 + 1))))) else (some (.inr (.inr (()))))
noncomputable def Gi (a0 : AA) (s0 : Int) : Option (Int ⊕ (Bool ⊕ Unit)) :=
 if decide (s0 < (a0.AQ.length : Int)) = true then ((idx a0.AQ s0).bind fun x0 => ((if decide ((x0.Bv.length : Int) > 8) = true then (some (.inl false)) else (if ((x0.Result.toNat : Int) != 0) = true then ((FT x0.Result (⟨a0.Classes, a0.AQ, a0.Fn⟩ : AA)).bind fun x1 => if (!x1) = true then (some (.inl false)) else (some (.inr ((true, (!x1)))))) else (some (.inr ((false, false))))) : Option (Bool ⊕ (Bool × Bool)))).bind fun o0 => (match o0 with | .inl p0 => (some (.inr (.inl p0))) | .inr p1 => (((AY (Gg a0 x0) 0 : Option (Bool ⊕ Unit))).bind fun o1 => (match o1 with | .inl p2 => (some (.inr (.inl p2))) | .inr p3 => (some (.inl (wr (s0 + 1)))))))) else (some (.inr (.inr (()))))
noncomputable def IH (a0 : AA) : Option Bool :=
 (K6 a0.Classes).bind fun x27 => if (x27.2 != 0) = true then (some false) else (if decide ((a0.AQ.length : Int) > 64) = true then (some false) else (if decide (a0.Fn < 0) = true then (some false) else (if decide (a0.Fn ≥ (a0.AQ.length : Int)) = true then (some false) else (((AY (Gi a0) 0 : Option (Bool ⊕ Unit))).bind fun o0 => (match o0 with | .inl p0 => (some p0) | .inr p1 => (some true))))))
noncomputable def Hp (a0 : A4) : Option Bool :=
 if decide (a0.Locals ≥ 0) = true then (if decide (a0.Locals ≤ 16) = true then (if decide (a0.Height ≥ 0) = true then (some (decide (a0.Height ≤ (wr (24 - a0.Locals))))) else (some false)) else (some false)) else (some false)
noncomputable def IA (a0 : A4) : Option A4 :=
 (J5 (Vector.replicate 24 (0 : UInt8)).toList 0 (wr (a0.Locals + a0.Height))).bind fun x82 => some (⟨a0.Locals, a0.Height, (P5 (Vector.replicate 24 (0 : UInt8)) a0.Slots ((wr (a0.Locals + a0.Height)).toNat))⟩ : A4)
noncomputable def GZ (a0 : List A6) (a1 : A4) (s0 : Int) : Option (Int ⊕ (Int ⊕ Unit)) :=
 if decide (s0 < 24) = true then ((idx a1.Slots.toList s0).bind fun x0 => (FO a0 x0).bind fun x1 => if (!x1) = true then (some (.inr (.inl 22))) else (some (.inl (wr (s0 + 1))))) else (some (.inr (.inr (()))))
noncomputable def HQ (a0 : List A6) (a1 : A4) : Option Int :=
 (Hp (⟨a1.Locals, a1.Height, a1.Slots⟩ : A4)).bind fun x34 => if (!x34) = true then (some 32) else ((IA (⟨a1.Locals, a1.Height, a1.Slots⟩ : A4)).bind fun x43 => if (!((x43.Locals == a1.Locals) && ((x43.Height == a1.Height) && ((x43.Slots == a1.Slots) && true)))) = true then (some 32) else (((AY (GZ a0 a1) 0 : Option (Int ⊕ Unit))).bind fun o0 => (match o0 with | .inl p0 => (some p0) | .inr p1 => (some 0))))
noncomputable def IB (a0 : UInt8) : Option A5 :=
 some (⟨4, a0⟩ : A5)
abbrev Bm : V0 := ⟨214, 203, 204, 215, 205, 206, 216, 218, 47, 224, 142, 4⟩
noncomputable def TV (x78 : A5) (x87 : A5) (x96 : A5) : List (D6 A5) := List.replicate 34 .nil
noncomputable def TY (x78 : A5) (x87 : A5) (x96 : A5) : List (D6 A5) := (TV x78 x87 x96).set 0 (.fixed [] (.const []))
noncomputable def Ur (x78 : A5) (x87 : A5) (x96 : A5) : List (D6 A5) := (TY x78 x87 x96).set 19 (.fixed [] (.const []))
noncomputable def Ul (x78 : A5) (x87 : A5) (x96 : A5) : List (D6 A5) := (Ur x78 x87 x96).set 32 (.fixed [] (.const []))
noncomputable def TF (x78 : A5) (x87 : A5) (x96 : A5) : List (D6 A5) := (Ul x78 x87 x96).set 1 (.fixed [] (.const ([(1 : UInt8)] : List UInt8)))
noncomputable def Uc (x78 : A5) (x87 : A5) (x96 : A5) : List (D6 A5) := (TF x78 x87 x96).set 2 (.fixed [] (.const ([(2 : UInt8)] : List UInt8)))
noncomputable def TJ (x78 : A5) (x87 : A5) (x96 : A5) : List (D6 A5) := (Uc x78 x87 x96).set 3 (.fixed [] (.const ([(3 : UInt8)] : List UInt8)))
noncomputable def TU (x78 : A5) (x87 : A5) (x96 : A5) : List (D6 A5) := (TJ x78 x87 x96).set 4 (.fixed [] (.const ([(0 : UInt8)] : List UInt8)))
noncomputable def Ux (x78 : A5) (x87 : A5) (x96 : A5) : List (D6 A5) := (TU x78 x87 x96).set 5 (.fixed ([(⟨1, 0⟩ : A5)] : List A5) (.const []))
noncomputable def Uw (x78 : A5) (x87 : A5) (x96 : A5) : List (D6 A5) := (Ux x78 x87 x96).set 6 (.fixed ([(⟨0, 0⟩ : A5)] : List A5) (.const []))
noncomputable def SC (x78 : A5) (x87 : A5) (x96 : A5) : List (D6 A5) := (Uw x78 x87 x96).set 7 (.fixed ([(⟨0, 0⟩ : A5)] : List A5) (.dup))
noncomputable def Sp (x78 : A5) (x87 : A5) (x96 : A5) : List (D6 A5) := (SC x78 x87 x96).set 8 (.fixed ([(⟨0, 0⟩ : A5), (⟨0, 0⟩ : A5)] : List A5) (.swap))
noncomputable def Sg (x78 : A5) (x87 : A5) (x96 : A5) : List (D6 A5) := (Sp x78 x87 x96).set 9 (.fixed ([(⟨x78.kind, x78.t⟩ : A5), (⟨x78.kind, x78.t⟩ : A5)] : List A5) (.const ([(1 : UInt8)] : List UInt8)))
noncomputable def Sv (x78 : A5) (x87 : A5) (x96 : A5) : List (D6 A5) := (Sg x78 x87 x96).set 10 (.fixed ([(⟨x78.kind, x78.t⟩ : A5), (⟨x78.kind, x78.t⟩ : A5)] : List A5) (.const ([(1 : UInt8)] : List UInt8)))
noncomputable def RD (x78 : A5) (x87 : A5) (x96 : A5) : List (D6 A5) := (Sv x78 x87 x96).set 11 (.fixed ([(⟨x78.kind, x78.t⟩ : A5), (⟨x78.kind, x78.t⟩ : A5)] : List A5) (.const ([(1 : UInt8)] : List UInt8)))
noncomputable def So (x78 : A5) (x87 : A5) (x96 : A5) : List (D6 A5) := (RD x78 x87 x96).set 12 (.fixed ([(⟨x78.kind, x78.t⟩ : A5), (⟨x78.kind, x78.t⟩ : A5)] : List A5) (.const ([(1 : UInt8)] : List UInt8)))
noncomputable def NH (x78 : A5) (x87 : A5) (x96 : A5) : List (D6 A5) := (So x78 x87 x96).set 13 (.fixed ([(⟨x78.kind, x78.t⟩ : A5), (⟨x78.kind, x78.t⟩ : A5)] : List A5) (.const ([(1 : UInt8)] : List UInt8)))
noncomputable def RS (x78 : A5) (x87 : A5) (x96 : A5) : List (D6 A5) := (NH x78 x87 x96).set 14 (.fixed ([(⟨x78.kind, x78.t⟩ : A5)] : List A5) (.const ([(1 : UInt8)] : List UInt8)))
noncomputable def S3 (x78 : A5) (x87 : A5) (x96 : A5) : List (D6 A5) := (RS x78 x87 x96).set 15 (.fixed ([(⟨x78.kind, x78.t⟩ : A5), (⟨x78.kind, x78.t⟩ : A5)] : List A5) (.const ([(2 : UInt8)] : List UInt8)))
noncomputable def NQ (x78 : A5) (x87 : A5) (x96 : A5) : List (D6 A5) := (S3 x78 x87 x96).set 16 (.fixed ([(⟨3, 0⟩ : A5), (⟨3, 0⟩ : A5)] : List A5) (.const ([(2 : UInt8)] : List UInt8)))
noncomputable def RG (x78 : A5) (x87 : A5) (x96 : A5) : List (D6 A5) := (NQ x78 x87 x96).set 17 (.fixed ([(⟨x87.kind, x87.t⟩ : A5)] : List A5) (.const ([(2 : UInt8)] : List UInt8)))
noncomputable def SA (x78 : A5) (x87 : A5) (x96 : A5) : List (D6 A5) := (RG x78 x87 x96).set 18 (.fixed ([(⟨2, 0⟩ : A5), (⟨2, 0⟩ : A5)] : List A5) (.const ([(2 : UInt8)] : List UInt8)))
noncomputable def Rx (x78 : A5) (x87 : A5) (x96 : A5) : List (D6 A5) := (SA x78 x87 x96).set 20 (.fixed ([(⟨x87.kind, x87.t⟩ : A5)] : List A5) (.const []))
noncomputable def S4 (x78 : A5) (x87 : A5) (x96 : A5) : List (D6 A5) := (Rx x78 x87 x96).set 21 (.call)
noncomputable def RN (x78 : A5) (x87 : A5) (x96 : A5) : List (D6 A5) := (S4 x78 x87 x96).set 22 (.ret (.const []))
noncomputable def Sa (x78 : A5) (x87 : A5) (x96 : A5) : List (D6 A5) := (RN x78 x87 x96).set 23 (.classed [] true)
noncomputable def Sm (x78 : A5) (x87 : A5) (x96 : A5) : List (D6 A5) := (Sa x78 x87 x96).set 24 (.field false)
noncomputable def NL (x78 : A5) (x87 : A5) (x96 : A5) : List (D6 A5) := (Sm x78 x87 x96).set 25 (.field true)
noncomputable def NS (x78 : A5) (x87 : A5) (x96 : A5) : List (D6 A5) := (NL x78 x87 x96).set 26 (.fixed ([(⟨x78.kind, x78.t⟩ : A5)] : List A5) (.const ([(4 : UInt8)] : List UInt8)))
noncomputable def Oc (x78 : A5) (x87 : A5) (x96 : A5) : List (D6 A5) := (NS x78 x87 x96).set 27 (.fixed ([(⟨x96.kind, x96.t⟩ : A5)] : List A5) (.const ([(1 : UInt8)] : List UInt8)))
noncomputable def RA (x78 : A5) (x87 : A5) (x96 : A5) : List (D6 A5) := (Oc x78 x87 x96).set 28 (.fixed ([(⟨x96.kind, x96.t⟩ : A5), (⟨x78.kind, x78.t⟩ : A5)] : List A5) (.const ([(1 : UInt8)] : List UInt8)))
noncomputable def RL (x78 : A5) (x87 : A5) (x96 : A5) : List (D6 A5) := (RA x78 x87 x96).set 29 (.fixed ([(⟨x96.kind, x96.t⟩ : A5), (⟨x78.kind, x78.t⟩ : A5), (⟨x78.kind, x78.t⟩ : A5)] : List A5) (.const []))
noncomputable def Sk (x78 : A5) (x87 : A5) (x96 : A5) : List (D6 A5) := (RL x78 x87 x96).set 30 (.classed ([(⟨2, 0⟩ : A5)] : List A5) true)
noncomputable def R7 (x78 : A5) (x87 : A5) (x96 : A5) : List (D6 A5) := (Sk x78 x87 x96).set 31 (.classed ([(⟨2, 0⟩ : A5)] : List A5) false)
noncomputable def MG (x78 : A5) (x87 : A5) (x96 : A5) : List (D6 A5) := (R7 x78 x87 x96).set 33 (.fixed ([(⟨x78.kind, x78.t⟩ : A5)] : List A5) (.const []))
noncomputable def step_table  : Option ((List (D6 A5))) :=
 (IB (1 : UInt8)).bind fun x78 => (IB (2 : UInt8)).bind fun x87 => (IB (4 : UInt8)).bind fun x96 => some (MG x78 x87 x96)
noncomputable def LN (a0 : AA) (a1 : A9) (a2 : List A5) (a3 : Gv) : Option (BL × Int) :=
 some ((⟨a2, a3⟩ : BL), 0)
noncomputable def IX (x0 : Bl) (s0 : (List A5) × Int) : Option (((List A5) × Int) ⊕ (((List A5)))) :=
 if decide (s0.2 < (x0.Bv.length : Int)) = true then ((idx x0.Bv s0.2).bind fun x1 => (IB x1).bind fun x2 => (app 8796093022208 s0.1 ([x2] : List A5)).bind fun x3 => some (.inl (x3, wr (s0.2 + 1)))) else (some (.inr s0.1))
noncomputable def P7 (a0 : AA) (a1 : A9) : Option (BL × Int) :=
 if decide (a1.A < 0) = true then (some ((⟨[], Gv.nil⟩ : BL), 71)) else (if decide (a1.A ≥ (a0.AQ.length : Int)) = true then (some ((⟨[], Gv.nil⟩ : BL), 71)) else ((idx a0.AQ a1.A).bind fun x0 => (AY (IX x0) ([], 0)).bind fun o0 => (if ((x0.Result.toNat : Int) == 0) = true then (some ((⟨o0, (Gv.const ([] : List UInt8))⟩ : BL), 0)) else (some ((⟨o0, (Gv.const ([x0.Result] : List UInt8))⟩ : BL), 0)))))
noncomputable def Nl (a0 : UInt8) : Option ((List A5)) :=
 if ((a0.toNat : Int) == 0) = true then (some ([] : List A5)) else ((IB a0).bind fun x32 => some ([x32] : List A5))
noncomputable def LH (a0 : AA) (a1 : A9) (a2 : Gv) : Option (BL × Int) :=
 (idx a0.AQ a0.Fn).bind fun x0 => (Nl x0.Result).bind fun x1 => some ((⟨x1, a2⟩ : BL), 0)
noncomputable def MN (a0 : Int) : Option UInt8 :=
 some (Fo (16 + ((Fo a0).toNat : Int)))
noncomputable def II (a0 : AA) (a1 : A9) (a2 : Bool) (a3 : List A5) : Option (BL × Int) :=
 if decide (a1.A < 0) = true then (some ((⟨[], Gv.nil⟩ : BL), 72)) else (if decide (a1.A ≥ (a0.Classes.length : Int)) = true then (some ((⟨[], Gv.nil⟩ : BL), 72)) else (if (!a2) = true then (some ((⟨a3, (Gv.const ([(2 : UInt8)] : List UInt8))⟩ : BL), 0)) else ((MN a1.A).bind fun x0 => some ((⟨a3, (Gv.const ([x0] : List UInt8))⟩ : BL), 0))))
noncomputable def Kz (a0 : Int) (a1 : List Int) : Option (Bool × (List Int)) :=
 (app 17592186044416 a1 ([a0] : List Int)).bind fun x32 => some (true, x32)
noncomputable def C6 (a0 : List A6) (s0 : (List Int) × Int) : Option (((List Int) × Int) ⊕ (((List Int)) ⊕ ((List Int)))) :=
 if decide (s0.2 ≥ 0) = true then (if decide (s0.2 < (a0.length : Int)) = true then ((Kz s0.2 s0.1).bind fun x0 => if x0.1 = true then ((idx a0 s0.2).bind fun x1 => if decide (x1.B2 ≥ s0.2) = true then (some (.inr (.inl x0.2))) else (some (.inl (x0.2, x1.B2)))) else (some (.inr (.inr (x0.2))))) else (some (.inr (.inr (s0.1))))) else (some (.inr (.inr (s0.1))))
noncomputable def EF (a0 : List A6) (a1 : Int) (a2 : List Int) : Option ((List Int)) :=
 ((AY (C6 a0) (a2, a1) : Option (((List Int)) ⊕ ((List Int))))).bind fun o0 => (match o0 with | .inl p0 => (some p0) | .inr p1 => (some p1))
noncomputable def E6 (a0 : List A6) (x34 : (List Int)) (s0 : (List B6) × Int) : Option (((List B6) × Int) ⊕ (((List B6)))) :=
 if decide (s0.2 ≥ 0) = true then ((idx x34 s0.2).bind fun x0 => (idx a0 x0).bind fun x1 => (app 5864062014805 s0.1 x1.Fields).bind fun x2 => some (.inl (x2, wr (s0.2 - 1)))) else (some (.inr s0.1))
noncomputable def HI (a0 : List A6) (a1 : Int) : Option ((List B6)) :=
 (EF a0 a1 []).bind fun x34 => (AY (E6 a0 x34) ([], wr ((x34.length : Int) - 1))).bind fun o0 => (some o0)
noncomputable def LM (a0 : AA) (a1 : A9) (a2 : Bool) : Option (BL × Int) :=
 (HI a0.Classes a1.A).bind fun x55 => if decide (a1.A < 0) = true then (some ((⟨[], Gv.nil⟩ : BL), 72)) else (if decide (a1.A ≥ (a0.Classes.length : Int)) = true then (some ((⟨[], Gv.nil⟩ : BL), 72)) else (if decide (a1.B < 0) = true then (some ((⟨[], Gv.nil⟩ : BL), 72)) else (if decide (a1.B ≥ (x55.length : Int)) = true then (some ((⟨[], Gv.nil⟩ : BL), 72)) else ((idx x55 a1.B).bind fun x0 => if a2 = true then ((MN a1.A).bind fun x1 => (IB x1).bind fun x2 => (IB x0.GQ).bind fun x3 => some ((⟨([x2, x3] : List A5), (Gv.const ([] : List UInt8))⟩ : BL), 0)) else ((MN a1.A).bind fun x4 => (IB x4).bind fun x5 => some ((⟨([x5] : List A5), (Gv.const ([x0.GQ] : List UInt8))⟩ : BL), 0))))))
noncomputable def Hn (t : D6 A5) (e : AA) (i : A9) : Option (BL × Int) :=
 match t with
 | .fixed l x => LN e i l x
 | .call => P7 e i
 | .ret x => LH e i x
 | .classed l b => II e i b l
 | .field b => LM e i b
 | .nil => none
noncomputable def Lv (a0 : AA) (a1 : A9) : Option (BL × Int) :=
 (HS a1.Op).bind fun x91 => if (x91 == 0) = true then (some ((⟨[], Gv.nil⟩ : BL), 40)) else (step_table.bind fun x0 => (x0[a1.Op.toNat]?).bind fun t0 => (Hn t0 (⟨a0.Classes, a0.AQ, a0.Fn⟩ : AA) (⟨a1.At, a1.Op, a1.A, a1.B⟩ : A9)).bind fun x1 => some ((⟨x1.1.takes, x1.1.gives⟩ : BL), x1.2))
noncomputable def LL (a0 : A4) (a1 : Int) : Option (UInt8 × Int) :=
 (Hp (⟨a0.Locals, a0.Height, a0.Slots⟩ : A4)).bind fun x68 => if (!x68) = true then (some ((0 : UInt8), 32)) else (if decide (a1 < 0) = true then (some ((0 : UInt8), 1)) else (if decide (a1 ≥ a0.Height) = true then (some ((0 : UInt8), 30)) else ((idx a0.Slots.toList (wr ((wr ((wr (a0.Locals + a0.Height)) - 1)) - a1))).bind fun x0 => some (x0, 0))))
noncomputable def Gp (a0 : UInt8) : Option Bool :=
 if ((a0.toNat : Int) == 3) = true then (some true) else (if ((a0.toNat : Int) == 4) = true then (some true) else (if ((a0.toNat : Int) == 5) = true then (some true) else (some (decide ((a0.toNat : Int) ≥ 16)))))
noncomputable def KJ (a0 : Int) (a1 : Int) (a2 : Bool) : Option (Bool × Bool) :=
 some ((!(a0 == a1)), (a0 == a1))
noncomputable def Dv (a0 : List A6) (a1 : Int) (s0 : Bool × Int) : Option ((Bool × Int) ⊕ (Bool ⊕ Bool)) :=
 if decide (s0.2 ≥ 0) = true then (if decide (s0.2 < (a0.length : Int)) = true then ((KJ s0.2 a1 s0.1).bind fun x0 => if x0.1 = true then ((idx a0 s0.2).bind fun x1 => if decide (x1.B2 ≥ s0.2) = true then (some (.inr (.inl x0.2))) else (some (.inl (x0.2, x1.B2)))) else (some (.inr (.inr (x0.2))))) else (some (.inr (.inr (s0.1))))) else (some (.inr (.inr (s0.1))))
noncomputable def HH (a0 : List A6) (a1 : Int) (a2 : Int) (a3 : Bool) : Option Bool :=
 ((AY (Dv a0 a2) (a3, a1) : Option (Bool ⊕ Bool))).bind fun o0 => (match o0 with | .inl p0 => (some p0) | .inr p1 => (some p1))
noncomputable def K5 (a0 : List A6) (a1 : Int) (a2 : Int) : Option Bool :=
 (HH a0 a1 a2 false).bind fun x54 => some x54
noncomputable def KW (a0 : List A6) (a1 : UInt8) (a2 : UInt8) : Option Bool :=
 (FO a0 a1).bind fun x34 => if (!x34) = true then (some false) else ((FO a0 a2).bind fun x50 => if (!x50) = true then (some false) else (if ((a1.toNat : Int) == (a2.toNat : Int)) = true then (some true) else (if ((a2.toNat : Int) == 0) = true then (some true) else (if ((a1.toNat : Int) == 3) = true then ((Gp a1).bind fun x0 => if x0 = true then ((Gp a2).bind fun x1 => some x1) else (some false)) else (if ((a2.toNat : Int) == 5) = true then ((Gp a1).bind fun x2 => if x2 = true then ((Gp a2).bind fun x3 => some x3) else (some false)) else ((GT a0 a1).bind fun x4 => (GT a0 a2).bind fun x5 => if decide (x4 ≥ 0) = true then (if decide (x5 ≥ 0) = true then ((K5 a0 x4 x5).bind fun x6 => some x6) else (some false)) else (some false)))))))
noncomputable def NJ (a0 : List A6) (a1 : A5) (a2 : UInt8) (a3 : UInt8) : Option Bool :=
 if (a1.kind == 1) = true then (some ((a2.toNat : Int) != 0)) else (if (a1.kind == 2) = true then ((Gp a2).bind fun x0 => some x0) else (if (a1.kind == 3) = true then (if ((a2.toNat : Int) == (a3.toNat : Int)) = true then (if ((a2.toNat : Int) == 1) = true then (some true) else (some ((a2.toNat : Int) == 2))) else (some false)) else (if (a1.kind == 4) = true then ((KW a0 a2 a1.t).bind fun x1 => some x1) else (some true))))
noncomputable def Im (a1 : A4) (a2 : List A5) (s0 : (List UInt8) × Int) : Option (((List UInt8) × Int) ⊕ (((List UInt8)))) :=
 if decide (s0.2 < (a2.length : Int)) = true then ((LL (⟨a1.Locals, a1.Height, a1.Slots⟩ : A4) (wr ((wr ((a2.length : Int) - 1)) - s0.2))).bind fun x0 => (app 140737488355328 s0.1 ([x0.1] : List UInt8)).bind fun x1 => some (.inl (x1, wr (s0.2 + 1)))) else (some (.inr s0.1))
noncomputable def Iq (a0 : List A6) (a2 : List A5) (o0 : ((List UInt8))) (s0 : Int) : Option (Int ⊕ (((List UInt8) × Int) ⊕ Unit)) :=
 if decide (s0 < (o0.length : Int)) = true then ((idx o0 s0).bind fun x0 => (idx a2 s0).bind fun x1 => (idx o0 0).bind fun x2 => (NJ a0 x1 x0 x2).bind fun x3 => if (!x3) = true then (some (.inr (.inl (([] : List UInt8), 70)))) else (some (.inl (wr (s0 + 1))))) else (some (.inr (.inr (()))))
noncomputable def LD (a0 : List A6) (a1 : A4) (a2 : List A5) : Option ((List UInt8) × Int) :=
 if decide (a1.Height < (a2.length : Int)) = true then (some (([] : List UInt8), 30)) else ((AY (Im a1 a2) ([], 0)).bind fun o0 => (((AY (Iq a0 a2 o0) 0 : Option (((List UInt8) × Int) ⊕ Unit))).bind fun o1 => (match o1 with | .inl p0 => (some p0) | .inr p1 => (some (o0, 0)))))
noncomputable def Se (a0 : List UInt8) : Option ((List UInt8)) :=
 (idx a0 0).bind fun x40 => (idx a0 0).bind fun x45 => some ([x40, x45] : List UInt8)
noncomputable def SE (a0 : List UInt8) : Option ((List UInt8)) :=
 (idx a0 1).bind fun x40 => (idx a0 0).bind fun x45 => some ([x40, x45] : List UInt8)
noncomputable def J6 (a0 : A4) (a1 : Int) : Option (UInt8 × Int) :=
 (Hp (⟨a0.Locals, a0.Height, a0.Slots⟩ : A4)).bind fun x66 => if (!x66) = true then (some ((0 : UInt8), 32)) else (if decide (a1 < 0) = true then (some ((0 : UInt8), 33)) else (if decide (a1 ≥ a0.Locals) = true then (some ((0 : UInt8), 33)) else ((idx a0.Slots.toList a1).bind fun x0 => some (x0, 0))))
noncomputable def MQ (a0 : A4) : Option (A4 × UInt8 × Int) :=
 (LL (⟨a0.Locals, a0.Height, a0.Slots⟩ : A4) 0).bind fun x38 => if (x38.2 != 0) = true then (some ((⟨0, 0, (Vector.replicate 24 (0 : UInt8))⟩ : A4), (0 : UInt8), x38.2)) else ((IA (⟨a0.Locals, wr (a0.Height - 1), a0.Slots⟩ : A4)).bind fun x0 => some ((⟨x0.Locals, x0.Height, x0.Slots⟩ : A4), x38.1, 0))
noncomputable def KP (a0 : A4) (a1 : Int) (a2 : UInt8) : Option (A4 × Int) :=
 (J6 (⟨a0.Locals, a0.Height, a0.Slots⟩ : A4) a1).bind fun x39 => if (x39.2 != 0) = true then (some ((⟨0, 0, (Vector.replicate 24 (0 : UInt8))⟩ : A4), x39.2)) else ((IA (⟨a0.Locals, a0.Height, a0.Slots⟩ : A4)).bind fun x0 => (idx x0.Slots.toList a1).bind fun x1 => some ((⟨x0.Locals, x0.Height, (Ir x0.Slots a1 a2)⟩ : A4), 0))
noncomputable def Mb (a0 : A4) (a1 : UInt8) : Option (A4 × Int) :=
 (Hp (⟨a0.Locals, a0.Height, a0.Slots⟩ : A4)).bind fun x0 => if (!x0) = true then (some ((⟨0, 0, (Vector.replicate 24 (0 : UInt8))⟩ : A4), 32)) else (if ((wr (a0.Locals + a0.Height)) == 24) = true then (some ((⟨0, 0, (Vector.replicate 24 (0 : UInt8))⟩ : A4), 31)) else ((IA (⟨a0.Locals, a0.Height, a0.Slots⟩ : A4)).bind fun x1 => (idx x1.Slots.toList (wr (x1.Locals + x1.Height))).bind fun x2 => some ((⟨x1.Locals, wr (x1.Height + 1), (Ir x1.Slots (wr (x1.Locals + x1.Height)) a1)⟩ : A4), 0)))
noncomputable def IE (a2 : List UInt8) (s0 : Int × Int × (Vector UInt8 24) × Int) : Option ((Int × Int × (Vector UInt8 24) × Int) ⊕ ((Int × Int × (Vector UInt8 24)))) :=
 if decide (s0.2.2.2 < (a2.length : Int)) = true then ((MQ (⟨s0.1, s0.2.1, s0.2.2.1⟩ : A4)).bind fun x0 => some (.inl (x0.1.Locals, x0.1.Height, x0.1.Slots, wr (s0.2.2.2 + 1)))) else (some (.inr (s0.1, s0.2.1, s0.2.2.1)))
noncomputable def GF (a3 : List UInt8) (s0 : Int × Int × (Vector UInt8 24) × Int) : Option ((Int × Int × (Vector UInt8 24) × Int) ⊕ ((A4 × Int) ⊕ (Int × Int × (Vector UInt8 24)))) :=
 if decide (s0.2.2.2 < (a3.length : Int)) = true then ((idx a3 s0.2.2.2).bind fun x0 => (Mb (⟨s0.1, s0.2.1, s0.2.2.1⟩ : A4) x0).bind fun x1 => if (x1.2 != 0) = true then (some (.inr (.inl ((⟨0, 0, (Vector.replicate 24 (0 : UInt8))⟩ : A4), x1.2)))) else (some (.inl (x1.1.Locals, x1.1.Height, x1.1.Slots, wr (s0.2.2.2 + 1))))) else (some (.inr (.inr ((s0.1, s0.2.1, s0.2.2.1)))))
noncomputable def I6 (a0 : A4) (a1 : A9) (a2 : List UInt8) (a3 : List UInt8) : Option (A4 × Int) :=
 (AY (IE a2) (a0.Locals, a0.Height, a0.Slots, 0)).bind fun o0 => (((if ((a1.Op.toNat : Int) == 22) = true then (if decide (o0.2.1 > 0) = true then (some (.inl ((⟨0, 0, (Vector.replicate 24 (0 : UInt8))⟩ : A4), 73))) else (some (.inr (())))) else (some (.inr (()))) : Option ((A4 × Int) ⊕ Unit))).bind fun o1 => (match o1 with | .inl p0 => (some p0) | .inr p1 => ((if ((a1.Op.toNat : Int) == 5) = true then ((idx a2 0).bind fun x0 => (KP (⟨o0.1, o0.2.1, o0.2.2⟩ : A4) a1.A x0).bind fun x1 => some (x1.1.Locals, x1.1.Height, x1.1.Slots)) else (some (o0.1, o0.2.1, o0.2.2))).bind fun o2 => (((AY (GF a3) (o2.1, o2.2.1, o2.2.2, 0) : Option ((A4 × Int) ⊕ (Int × Int × (Vector UInt8 24))))).bind fun o3 => (match o3 with | .inl p2 => (some p2) | .inr p3 => (some ((⟨p3.1, p3.2.1, p3.2.2⟩ : A4), 0)))))))
noncomputable def MW (a0 : AA) (a1 : A4) (a2 : A9) : Option (A4 × Int) :=
 (IH (⟨a0.Classes, a0.AQ, a0.Fn⟩ : AA)).bind fun x0 => if (!x0) = true then (some ((⟨0, 0, (Vector.replicate 24 (0 : UInt8))⟩ : A4), 1)) else ((HQ a0.Classes (⟨a1.Locals, a1.Height, a1.Slots⟩ : A4)).bind fun x1 => if (x1 != 0) = true then (some ((⟨0, 0, (Vector.replicate 24 (0 : UInt8))⟩ : A4), x1)) else ((Lv (⟨a0.Classes, a0.AQ, a0.Fn⟩ : AA) (⟨a2.At, a2.Op, a2.A, a2.B⟩ : A9)).bind fun x2 => (if ((a2.Op.toNat : Int) == 4) = true then (some true) else (some ((a2.Op.toNat : Int) == 5))).bind fun o0 => ((if (x2.2 == 0) = true then (if o0 = true then (if decide (a2.A < 0) = true then (some 33) else (if decide (a2.A ≥ a1.Locals) = true then (some 33) else (some x2.2))) else (some x2.2)) else (some x2.2)).bind fun o1 => (if (o1 != 0) = true then (some ((⟨0, 0, (Vector.replicate 24 (0 : UInt8))⟩ : A4), o1)) else ((LD a0.Classes (⟨a1.Locals, a1.Height, a1.Slots⟩ : A4) x2.1.takes).bind fun x3 => if (x3.2 != 0) = true then (some ((⟨0, 0, (Vector.replicate 24 (0 : UInt8))⟩ : A4), x3.2)) else ((Gv.run x2.1.gives x3.1).bind fun x4 => if ((a2.Op.toNat : Int) == 4) = true then ((J6 (⟨a1.Locals, a1.Height, a1.Slots⟩ : A4) a2.A).bind fun x5 => if ((x5.1.toNat : Int) == 0) = true then (some ((⟨0, 0, (Vector.replicate 24 (0 : UInt8))⟩ : A4), 70)) else ((I6 (⟨a1.Locals, a1.Height, a1.Slots⟩ : A4) (⟨a2.At, a2.Op, a2.A, a2.B⟩ : A9) x3.1 ([x5.1] : List UInt8)).bind fun x6 => some ((⟨x6.1.Locals, x6.1.Height, x6.1.Slots⟩ : A4), x6.2))) else ((I6 (⟨a1.Locals, a1.Height, a1.Slots⟩ : A4) (⟨a2.At, a2.Op, a2.A, a2.B⟩ : A9) x3.1 x4).bind fun x7 => some ((⟨x7.1.Locals, x7.1.Height, x7.1.Slots⟩ : A4), x7.2))))))))
noncomputable def Ks (a0 : UInt8) : Option Bool :=
 if ((a0.toNat : Int) == 19) = true then (some true) else (some ((a0.toNat : Int) == 20))
noncomputable def MA (a0 : UInt8) : Option Bool :=
 if ((a0.toNat : Int) == 19) = true then (some true) else (if ((a0.toNat : Int) == 22) = true then (some true) else (some ((a0.toNat : Int) == 32)))
noncomputable def MJ (a0 : List A6) (a1 : A4) (a2 : A4) : Option Int :=
 (HQ a0 (⟨a1.Locals, a1.Height, a1.Slots⟩ : A4)).bind fun x39 => if (x39 == 0) = true then ((HQ a0 (⟨a2.Locals, a2.Height, a2.Slots⟩ : A4)).bind fun x71 => if (x71 == 0) = true then (if (a1.Locals != a2.Locals) = true then (some 32) else (if (a1.Height != a2.Height) = true then (some 32) else (some x71))) else (some x71)) else (some x39)
noncomputable def KF (a0 : Int) (a1 : List A6) (a2 : Int) (a3 : UInt8) : Option (Bool × UInt8) :=
 (K5 a1 a2 a0).bind fun x59 => if x59 = true then (some (false, Fo (16 + ((Fo a0).toNat : Int)))) else (some (true, a3))
noncomputable def Dx (a0 : List A6) (a1 : List A6) (a2 : Int) (s0 : UInt8 × Int) : Option ((UInt8 × Int) ⊕ (UInt8 ⊕ UInt8)) :=
 if decide (s0.2 ≥ 0) = true then (if decide (s0.2 < (a0.length : Int)) = true then ((KF s0.2 a1 a2 s0.1).bind fun x0 => if x0.1 = true then ((idx a0 s0.2).bind fun x1 => if decide (x1.B2 ≥ s0.2) = true then (some (.inr (.inl x0.2))) else (some (.inl (x0.2, x1.B2)))) else (some (.inr (.inr (x0.2))))) else (some (.inr (.inr (s0.1))))) else (some (.inr (.inr (s0.1))))
noncomputable def Gu (a0 : List A6) (a1 : Int) (a2 : List A6) (a3 : Int) (a4 : UInt8) : Option UInt8 :=
 ((AY (Dx a0 a2 a3) (a4, a1) : Option (UInt8 ⊕ UInt8))).bind fun o0 => (match o0 with | .inl p0 => (some p0) | .inr p1 => (some p1))
noncomputable def Mi (a0 : List A6) (a1 : UInt8) (a2 : UInt8) : Option UInt8 :=
 (FO a0 a1).bind fun x0 => if (!x0) = true then (some (0 : UInt8)) else ((FO a0 a2).bind fun x1 => if (!x1) = true then (some (0 : UInt8)) else ((KW a0 a1 a2).bind fun x2 => if x2 = true then (some a2) else ((KW a0 a2 a1).bind fun x3 => if x3 = true then (some a1) else ((Gp a1).bind fun x4 => if (!x4) = true then (some (0 : UInt8)) else ((Gp a2).bind fun x5 => if (!x5) = true then (some (0 : UInt8)) else ((GT a0 a1).bind fun x6 => (GT a0 a2).bind fun x7 => if decide (x6 ≥ 0) = true then (if decide (x7 ≥ 0) = true then ((Gu a0 x6 a0 x7 5).bind fun x8 => some x8) else (some (5 : UInt8))) else (some (5 : UInt8))))))))
noncomputable def Ie (a0 : List A6) (a1 : A4) (a2 : A4) (s0 : (Vector UInt8 24) × Int) : Option (((Vector UInt8 24) × Int) ⊕ (((Vector UInt8 24)))) :=
 if decide (s0.2 < (wr (a1.Locals + a1.Height))) = true then ((idx s0.1.toList s0.2).bind fun x0 => (idx a2.Slots.toList s0.2).bind fun x1 => (Mi a0 x0 x1).bind fun x2 => (idx s0.1.toList s0.2).bind fun x3 => some (.inl ((Ir s0.1 s0.2 x2), wr (s0.2 + 1)))) else (some (.inr s0.1))
noncomputable def Lu (a0 : List A6) (a1 : A4) (a2 : A4) : Option (A4 × Int) :=
 (MJ a0 (⟨a1.Locals, a1.Height, a1.Slots⟩ : A4) (⟨a2.Locals, a2.Height, a2.Slots⟩ : A4)).bind fun x52 => if (x52 != 0) = true then (some ((⟨0, 0, (Vector.replicate 24 (0 : UInt8))⟩ : A4), x52)) else ((AY (Ie a0 a1 a2) (a1.Slots, 0)).bind fun o0 => (some ((⟨a1.Locals, a1.Height, o0⟩ : A4), 0)))
noncomputable def GX (a0 : AV) (a1 : Int) (a2 : A4) : Option (Int × AV) :=
 ((if (Cd a0.frames a1).isSome = true then ((Lu a0.e.Classes (⟨((Cd a0.frames a1).getD (⟨(0 : Int), (0 : Int), (Vector.replicate 24 (0 : UInt8))⟩ : A4)).Locals, ((Cd a0.frames a1).getD (⟨(0 : Int), (0 : Int), (Vector.replicate 24 (0 : UInt8))⟩ : A4)).Height, ((Cd a0.frames a1).getD (⟨(0 : Int), (0 : Int), (Vector.replicate 24 (0 : UInt8))⟩ : A4)).Slots⟩ : A4) (⟨a2.Locals, a2.Height, a2.Slots⟩ : A4)).bind fun x0 => if (x0.2 != 0) = true then (some (.inl (x0.2, (⟨(⟨a0.e.Classes, a0.e.AQ, a0.e.Fn⟩ : AA), a0.code, a0.frames, a0.fresh, a0.taken, a1⟩ : AV)))) else (some (.inr ((x0.1.Locals, x0.1.Height, x0.1.Slots))))) else (some (.inr ((a2.Locals, a2.Height, a2.Slots)))) : Option ((Int × AV) ⊕ (Int × Int × (Vector UInt8 24))))).bind fun o0 => (match o0 with | .inl p0 => (some p0) | .inr p1 => (if (!((Cd a0.frames a1).isSome)) = true then (some (0, (⟨(⟨a0.e.Classes, a0.e.AQ, a0.e.Fn⟩ : AA), a0.code, (Da a0.frames a1 (⟨p1.1, p1.2.1, p1.2.2⟩ : A4)), (Da a0.fresh a1 ()), a0.taken, a0.BU⟩ : AV))) else (if (!((p1.1 == (((Cd a0.frames a1).getD (⟨(0 : Int), (0 : Int), (Vector.replicate 24 (0 : UInt8))⟩ : A4)).Locals)) && ((p1.2.1 == (((Cd a0.frames a1).getD (⟨(0 : Int), (0 : Int), (Vector.replicate 24 (0 : UInt8))⟩ : A4)).Height)) && ((p1.2.2 == (((Cd a0.frames a1).getD (⟨(0 : Int), (0 : Int), (Vector.replicate 24 (0 : UInt8))⟩ : A4)).Slots)) && true)))) = true then (some (0, (⟨(⟨a0.e.Classes, a0.e.AQ, a0.e.Fn⟩ : AA), a0.code, (Da a0.frames a1 (⟨p1.1, p1.2.1, p1.2.2⟩ : A4)), (Da a0.fresh a1 ()), a0.taken, a0.BU⟩ : AV))) else (some (0, (⟨(⟨a0.e.Classes, a0.e.AQ, a0.e.Fn⟩ : AA), a0.code, a0.frames, a0.fresh, a0.taken, a0.BU⟩ : AV))))))
noncomputable def Du (x0 : A4 × Int) (x1 : List Int) (s0 : (List A6) × (List Bl) × Int × (List UInt8) × Int × (List (Int × A4)) × (List (Int × Unit)) × (List (Int × Int)) × Int) : Option (((List A6) × (List Bl) × Int × (List UInt8) × Int × (List (Int × A4)) × (List (Int × Unit)) × (List (Int × Int)) × Int) ⊕ ((Int × AV) ⊕ ((List A6) × (List Bl) × Int × (List UInt8) × Int × (List (Int × A4)) × (List (Int × Unit)) × (List (Int × Int))))) :=
 if decide (s0.2.2.2.2.2.2.2.2 < (x1.length : Int)) = true then ((idx x1 s0.2.2.2.2.2.2.2.2).bind fun x2 => (GX (⟨(⟨s0.1, s0.2.1, s0.2.2.1⟩ : AA), s0.2.2.2.1, s0.2.2.2.2.2.1, s0.2.2.2.2.2.2.1, s0.2.2.2.2.2.2.2.1, s0.2.2.2.2.1⟩ : AV) x2 (⟨x0.1.Locals, x0.1.Height, x0.1.Slots⟩ : A4)).bind fun x3 => if (x3.1 != 0) = true then (some (.inr (.inl (x3.1, (⟨(⟨x3.2.e.Classes, x3.2.e.AQ, x3.2.e.Fn⟩ : AA), x3.2.code, x3.2.frames, x3.2.fresh, x3.2.taken, x3.2.BU⟩ : AV))))) else (some (.inl (x3.2.e.Classes, x3.2.e.AQ, x3.2.e.Fn, x3.2.code, x3.2.BU, x3.2.frames, x3.2.fresh, x3.2.taken, wr (s0.2.2.2.2.2.2.2.2 + 1))))) else (some (.inr (.inr ((s0.1, s0.2.1, s0.2.2.1, s0.2.2.2.1, s0.2.2.2.2.1, s0.2.2.2.2.2.1, s0.2.2.2.2.2.2.1, s0.2.2.2.2.2.2.2.1)))))
noncomputable def He (a0 : AV) (a1 : Int) : Option (Int × AV) :=
 if (a1 == (a0.code.length : Int)) = true then (some (51, (⟨(⟨a0.e.Classes, a0.e.AQ, a0.e.Fn⟩ : AA), a0.code, a0.frames, a0.fresh, a0.taken, a1⟩ : AV))) else ((I7 a0.code a1).bind fun x64 => if (x64.2 != 0) = true then (some (x64.2, (⟨(⟨a0.e.Classes, a0.e.AQ, a0.e.Fn⟩ : AA), a0.code, a0.frames, a0.fresh, a0.taken, a1⟩ : AV))) else ((Hy (⟨(⟨a0.e.Classes, a0.e.AQ, a0.e.Fn⟩ : AA), a0.code, a0.frames, a0.fresh, a0.taken, a1⟩ : AV) (⟨x64.1.At, x64.1.Op, x64.1.A, x64.1.B⟩ : A9)).bind fun x0 => if (!x0.1) = true then (some (80, (⟨(⟨x0.2.e.Classes, x0.2.e.AQ, x0.2.e.Fn⟩ : AA), x0.2.code, x0.2.frames, x0.2.fresh, x0.2.taken, x0.2.BU⟩ : AV))) else ((MW (⟨x0.2.e.Classes, x0.2.e.AQ, x0.2.e.Fn⟩ : AA) ((Cd x0.2.frames a1).getD (⟨(0 : Int), (0 : Int), (Vector.replicate 24 (0 : UInt8))⟩ : A4)) (⟨x64.1.At, x64.1.Op, x64.1.A, x64.1.B⟩ : A9)).bind fun x1 => if (x1.2 != 0) = true then (some (x1.2, (⟨(⟨x0.2.e.Classes, x0.2.e.AQ, x0.2.e.Fn⟩ : AA), x0.2.code, x0.2.frames, x0.2.fresh, x0.2.taken, x0.2.BU⟩ : AV))) else ((HS x64.1.Op).bind fun x2 => (((Ks x64.1.Op).bind fun x3 => if x3 = true then (if decide (x64.1.A ≥ (x0.2.code.length : Int)) = true then (some (.inl (50, (⟨(⟨x0.2.e.Classes, x0.2.e.AQ, x0.2.e.Fn⟩ : AA), x0.2.code, x0.2.frames, x0.2.fresh, x0.2.taken, x0.2.BU⟩ : AV)))) else ((app 17592186044416 ([] : List Int) ([x64.1.A] : List Int)).bind fun x4 => some (.inr (x4)))) else (some (.inr ([]))) : Option ((Int × AV) ⊕ ((List Int))))).bind fun o0 => (match o0 with | .inl p0 => (some p0) | .inr p1 => ((((MA x64.1.Op).bind fun x5 => if (!x5) = true then (if ((wr (a1 + x2)) == (x0.2.code.length : Int)) = true then (some (.inl (51, (⟨(⟨x0.2.e.Classes, x0.2.e.AQ, x0.2.e.Fn⟩ : AA), x0.2.code, x0.2.frames, x0.2.fresh, x0.2.taken, x0.2.BU⟩ : AV)))) else ((app 17592186044416 p1 ([wr (a1 + x2)] : List Int)).bind fun x6 => some (.inr (x6)))) else (some (.inr (p1))) : Option ((Int × AV) ⊕ ((List Int))))).bind fun o1 => (match o1 with | .inl p2 => (some p2) | .inr p3 => ((OC p3).bind fun x7 => (Mv x7).bind fun x8 => ((AY (Du x1 x8) (x0.2.e.Classes, x0.2.e.AQ, x0.2.e.Fn, x0.2.code, x0.2.BU, x0.2.frames, x0.2.fresh, x0.2.taken, 0) : Option ((Int × AV) ⊕ ((List A6) × (List Bl) × Int × (List UInt8) × Int × (List (Int × A4)) × (List (Int × Unit)) × (List (Int × Int)))))).bind fun o2 => (match o2 with | .inl p4 => (some p4) | .inr p5 => (some (0, (⟨(⟨p5.1, p5.2.1, p5.2.2.1⟩ : AA), p5.2.2.2.1, p5.2.2.2.2.2.1, p5.2.2.2.2.2.2.1, p5.2.2.2.2.2.2.2, p5.2.2.2.2.1⟩ : AV))))))))))))
noncomputable def FX (p0 : Int × Unit) (s0 : Int) : Option (Int ⊕ Int) :=
 some (.inl (if p0.1 < s0 then p0.1 else s0))
noncomputable def Gb (a2 : List UInt8) (s0 : (List A6) × (List Bl) × Int × (List UInt8) × Int × (List (Int × Int)) × (List (Int × Unit)) × (List (Int × A4)) × Int) : Option (((List A6) × (List Bl) × Int × (List UInt8) × Int × (List (Int × Int)) × (List (Int × Unit)) × (List (Int × A4)) × Int) ⊕ (((List A6) × (List Bl) × Int × (List UInt8) × Int × (List (Int × A4)) × (List (Int × Unit)) × (List (Int × Int)) × Int))) :=
 if decide ((s0.2.2.2.2.2.2.1.length : Int) > 0) = true then (((NT (FX) s0.2.2.2.2.2.2.1 (a2.length : Int)).bind (Zo fun s1 => (some s1))).bind fun o0 => ((He (⟨(⟨s0.1, s0.2.1, s0.2.2.1⟩ : AA), s0.2.2.2.1, s0.2.2.2.2.2.2.2.1, (I5 s0.2.2.2.2.2.2.1 o0), s0.2.2.2.2.2.1, s0.2.2.2.2.1⟩ : AV) o0).bind fun x0 => if (x0.1 != 0) = true then (some (.inr (x0.2.e.Classes, x0.2.e.AQ, x0.2.e.Fn, x0.2.code, x0.2.BU, x0.2.frames, x0.2.fresh, x0.2.taken, x0.1))) else (some (.inl (x0.2.e.Classes, x0.2.e.AQ, x0.2.e.Fn, x0.2.code, x0.2.BU, x0.2.taken, x0.2.fresh, x0.2.frames, x0.1))))) else (some (.inr (s0.1, s0.2.1, s0.2.2.1, s0.2.2.2.1, s0.2.2.2.2.1, s0.2.2.2.2.2.2.2.1, s0.2.2.2.2.2.2.1, s0.2.2.2.2.2.1, s0.2.2.2.2.2.2.2.2)))
noncomputable def Nm (a0 : AA) (a1 : Int) (a2 : List UInt8) : Option ((Option AV) × Int × Int) :=
 (M4 (⟨a0.Classes, a0.AQ, a0.Fn⟩ : AA) a1).bind fun x57 => if (x57 != 0) = true then (some ((none : Option AV), 0, x57)) else (if decide ((a2.length : Int) > 4096) = true then (some ((none : Option AV), 0, 4)) else ((idx a0.AQ a0.Fn).bind fun x0 => (Kh a0.Classes x0.Bv a1).bind fun x1 => (AY (Gb a2) (a0.Classes, a0.AQ, a0.Fn, a2, 0, ([] : List (Int × Int)), (Da ([] : List (Int × Unit)) 0 ()), (Da ([] : List (Int × A4)) 0 (⟨x1.1.Locals, x1.1.Height, x1.1.Slots⟩ : A4)), 0)).bind fun o0 => (if (o0.2.2.2.2.2.2.2.2 != 0) = true then (some ((none : Option AV), o0.2.2.2.2.1, o0.2.2.2.2.2.2.2.2)) else (some (some (⟨(⟨o0.1, o0.2.1, o0.2.2.1⟩ : AA), o0.2.2.2.1, o0.2.2.2.2.2.1, o0.2.2.2.2.2.2.1, o0.2.2.2.2.2.2.2.1, o0.2.2.2.2.1⟩ : AV), 0, 0)))))
noncomputable def G8 (x0 : AV) (x1 : List Int) (s0 : (List BO) × Int) : Option (((List BO) × Int) ⊕ (((List BO)))) :=
 if decide (s0.2 < (x1.length : Int)) = true then ((idx x1 s0.2).bind fun x2 => (app 2513169434916 s0.1 ([(⟨x2, false, (⟨((Cd x0.frames x2).getD (⟨(0 : Int), (0 : Int), (Vector.replicate 24 (0 : UInt8))⟩ : A4)).Locals, ((Cd x0.frames x2).getD (⟨(0 : Int), (0 : Int), (Vector.replicate 24 (0 : UInt8))⟩ : A4)).Height, ((Cd x0.frames x2).getD (⟨(0 : Int), (0 : Int), (Vector.replicate 24 (0 : UInt8))⟩ : A4)).Slots⟩ : A4)⟩ : BO)] : List BO)).bind fun x3 => some (.inl (x3, wr (s0.2 + 1)))) else (some (.inr s0.1))
noncomputable def Mh (a0 : AA) (a1 : Int) (a2 : List UInt8) : Option ((List BO) × Int × Int) :=
 (Nm (⟨a0.Classes, a0.AQ, a0.Fn⟩ : AA) a1 a2).bind fun x29 => if (x29.2.2 != 0) = true then (some (([] : List BO), x29.2.1, x29.2.2)) else ((x29.1).bind fun x0 => ((U6 x0.frames).bind fun x1 => (AY (G8 x0 x1) ([], 0)).bind fun o0 => (some (o0, 0, 0))))
noncomputable def Il (x0 : BX) (x1 : (List BO) × Int × Int) (s0 : (List A9) × Int × Int) : Option (((List A9) × Int × Int) ⊕ (((List A9) × Int))) :=
 if decide (s0.2.2 < (x1.1.length : Int)) = true then ((idx x1.1 s0.2.2).bind fun x2 => (I7 x0.Code x2.At).bind fun x3 => (app 4398046511104 s0.1 ([(⟨x3.1.At, x3.1.Op, x3.1.A, x3.1.B⟩ : A9)] : List A9)).bind fun x4 => some (.inl (x4, (if s0.2.1 < x2.Frame.Height then x2.Frame.Height else s0.2.1), wr (s0.2.2 + 1)))) else (some (.inr (s0.1, s0.2.1)))
noncomputable def Kx (a0 : AL) (a1 : Int) : Option ((Option Cf) × Int × Int) :=
 (NM (⟨a0.Name, a0.Classes, a0.Funcs, a0.Ca⟩ : AL) a1).bind fun x43 => if (!x43.2) = true then (some ((none : Option Cf), 0, 1)) else ((idx a0.Funcs a1).bind fun x0 => (Mh (⟨x43.1.Classes, x43.1.AQ, x43.1.Fn⟩ : AA) x0.Locals x0.Code).bind fun x1 => if (x1.2.2 != 0) = true then (some ((none : Option Cf), x1.2.1, x1.2.2)) else ((AY (Il x0 x1) ([], 0, 0)).bind fun o0 => (some (some (⟨o0.1, o0.2⟩ : Cf), 0, 0))))
noncomputable def Fj (a0 : Cf) (s0 : (List Int) × Int) : Option (((List Int) × Int) ⊕ (((List Int)))) :=
 if decide (s0.2 < (a0.l.length : Int)) = true then ((idx a0.l s0.2).bind fun x0 => if ((x0.Op.toNat : Int) == 21) = true then ((app 17592186044416 s0.1 ([x0.A] : List Int)).bind fun x1 => some (.inl (x1, wr (s0.2 + 1)))) else (some (.inl (s0.1, wr (s0.2 + 1))))) else (some (.inr s0.1))
noncomputable def IZ (a0 : Cf) : Option ((List Int)) :=
 (AY (Fj a0) ([], 0)).bind fun o0 => ((OC o0).bind fun x0 => (Mv x0).bind fun x1 => some x1)
noncomputable def Gk (a0 : AL) (s0 : (List Bl) × Int) : Option (((List Bl) × Int) ⊕ (((List Bl)))) :=
 if decide (s0.2 < (a0.Funcs.length : Int)) = true then ((idx a0.Funcs s0.2).bind fun x0 => (app 4398046511104 s0.1 ([(⟨x0.Sig.Bv, x0.Sig.Result⟩ : Bl)] : List Bl)).bind fun x1 => some (.inl (x1, wr (s0.2 + 1)))) else (some (.inr s0.1))
noncomputable def IL (a0 : AL) (a1 : Int) : Option (AA × Bool) :=
 if decide (a1 < 0) = true then (some ((⟨[], [], 0⟩ : AA), false)) else (if decide (a1 ≥ (a0.Funcs.length : Int)) = true then (some ((⟨[], [], 0⟩ : AA), false)) else ((AY (Gk a0) ([], 0)).bind fun o0 => (some ((⟨a0.Classes, o0, a1⟩ : AA), true))))
noncomputable def ET (a0 : List UInt8) (s0 : Int) : Option (Int ⊕ (Bool ⊕ Unit)) :=
 if decide (s0 < (a0.length : Int)) = true then ((idx a0 s0).bind fun x0 => (if decide ((x0.toNat : Int) ≥ 97) = true then (if decide ((x0.toNat : Int) ≤ 122) = true then (some true) else (if decide ((x0.toNat : Int) ≥ 65) = true then (some (decide ((x0.toNat : Int) ≤ 90))) else (some false))) else (if decide ((x0.toNat : Int) ≥ 65) = true then (some (decide ((x0.toNat : Int) ≤ 90))) else (some false))).bind fun o0 => (if (!o0) = true then (if (s0 == 0) = true then (some (.inr (.inl false))) else (if ((x0.toNat : Int) != 95) = true then (if decide ((x0.toNat : Int) < 48) = true then (some (.inr (.inl false))) else (if decide ((x0.toNat : Int) > 57) = true then (some (.inr (.inl false))) else (some (.inl (wr (s0 + 1)))))) else (some (.inl (wr (s0 + 1)))))) else (some (.inl (wr (s0 + 1)))))) else (some (.inr (.inr (()))))
noncomputable def Gj (a0 : List UInt8) : Option Bool :=
 if decide ((a0.length : Int) < 1) = true then (some false) else (if decide ((a0.length : Int) > 24) = true then (some false) else (((AY (ET a0) 0 : Option (Bool ⊕ Unit))).bind fun o0 => (match o0 with | .inl p0 => (some p0) | .inr p1 => (some true))))
noncomputable def JH (a0 : UInt8) : Option ((List UInt8)) :=
 if ((a0.toNat : Int) == 0) = true then (some [116, 111, 112]) else (if ((a0.toNat : Int) == 1) = true then (some [105, 110, 116]) else (if ((a0.toNat : Int) == 2) = true then (some [98, 111, 111, 108]) else (if ((a0.toNat : Int) == 3) = true then (some [110, 117, 108, 108]) else (if ((a0.toNat : Int) == 4) = true then (some [105, 110, 116, 115]) else (if ((a0.toNat : Int) == 5) = true then (some [97, 110, 121]) else (some []))))))
noncomputable def Dz (a0 : List UInt8) (s0 : UInt8) : Option (UInt8 ⊕ (Bool ⊕ Unit)) :=
 if decide ((s0.toNat : Int) ≤ 5) = true then ((JH s0).bind fun x0 => if (x0 == a0) = true then (some (.inr (.inl true))) else (some (.inl (Fo ((s0.toNat : Int) + 1))))) else (some (.inr (.inr (()))))
noncomputable def H7 (a0 : List UInt8) : Option Bool :=
 ((AY (Dz a0) 0 : Option (Bool ⊕ Unit))).bind fun o0 => (match o0 with | .inl p0 => (some p0) | .inr p1 => (some false))
noncomputable def DY (a0 : List A6) (s0 : Int × (List Int)) : Option ((Int × (List Int)) ⊕ (((List Int)))) :=
 if decide (s0.1 ≥ 0) = true then (if decide (s0.1 < (a0.length : Int)) = true then (if decide ((s0.2.length : Int) ≤ (a0.length : Int)) = true then ((app 17592186044416 s0.2 ([s0.1] : List Int)).bind fun x0 => (idx a0 s0.1).bind fun x1 => some (.inl (x1.B2, x0))) else (some (.inr s0.2))) else (some (.inr s0.2))) else (some (.inr s0.2))
noncomputable def Hg (a0 : List A6) (a1 : Int) : Option ((List Int)) :=
 (AY (DY a0) (a1, [])).bind fun o0 => (some o0)
noncomputable def Gr (a0 : List A6) (x16 : (List Int)) (s0 : (List B6) × Int) : Option (((List B6) × Int) ⊕ (((List B6)))) :=
 if decide (s0.2 ≥ 0) = true then ((idx x16 s0.2).bind fun x0 => (idx a0 x0).bind fun x1 => (app 5864062014805 s0.1 x1.Fields).bind fun x2 => some (.inl (x2, wr (s0.2 - 1)))) else (some (.inr s0.1))
noncomputable def Dp (a0 : List A6) (a1 : Int) : Option ((List B6)) :=
 (Hg a0 a1).bind fun x16 => (AY (Gr a0 x16) ([], wr ((x16.length : Int) - 1))).bind fun o0 => (some o0)
noncomputable def EZ (a0 : List B6) (a1 : List UInt8) (s0 : Int) : Option (Int ⊕ (Bool ⊕ Unit)) :=
 if decide (s0 < (a0.length : Int)) = true then ((idx a0 s0).bind fun x0 => if (x0.Name == a1) = true then (some (.inr (.inl true))) else (some (.inl (wr (s0 + 1))))) else (some (.inr (.inr (()))))
noncomputable def Jc (a0 : List B6) (a1 : List UInt8) : Option Bool :=
 ((AY (EZ a0 a1) 0 : Option (Bool ⊕ Unit))).bind fun o0 => (match o0 with | .inl p0 => (some p0) | .inr p1 => (some false))
noncomputable def Di (a0 : List A6) (a1 : UInt8) : Option Bool :=
 if decide ((a1.toNat : Int) ≤ 5) = true then (some true) else (if decide ((a1.toNat : Int) ≥ 16) = true then (some (decide (((Fo ((a1.toNat : Int) - 16)).toNat : Int) < (a0.length : Int)))) else (some false))
noncomputable def Fi (a0 : List A6) (a1 : UInt8) : Option Bool :=
 (Di a0 a1).bind fun x22 => if x22 = true then (if ((a1.toNat : Int) != 0) = true then (some ((a1.toNat : Int) != 3)) else (some false)) else (some false)
noncomputable def E4 (a0 : List A6) (a1 : Int) (x28 : A6) (s0 : Int) : Option (Int ⊕ (Int ⊕ Unit)) :=
 if decide (s0 < a1) = true then ((idx a0 s0).bind fun x0 => if (x0.Name == x28.Name) = true then (some (.inr (.inl 20))) else (some (.inl (wr (s0 + 1))))) else (some (.inr (.inr (()))))
noncomputable def DJ (a0 : List A6) (x28 : A6) (x0 : (List B6)) (s0 : Int) : Option (Int ⊕ (Int ⊕ Unit)) :=
 if decide (s0 < (x28.Fields.length : Int)) = true then ((idx x28.Fields s0).bind fun x1 => (Gj x1.Name).bind fun x2 => if (!x2) = true then (some (.inr (.inl 6))) else ((Jc x0 x1.Name).bind fun x3 => if x3 = true then (some (.inr (.inl 20))) else ((J5 x28.Fields 0 s0).bind fun x4 => (Jc x4 x1.Name).bind fun x5 => if x5 = true then (some (.inr (.inl 20))) else ((Fi a0 x1.GQ).bind fun x6 => if (!x6) = true then (some (.inr (.inl 22))) else (some (.inl (wr (s0 + 1)))))))) else (some (.inr (.inr (()))))
noncomputable def HN (a0 : List A6) (a1 : Int) : Option Int :=
 (idx a0 a1).bind fun x28 => if decide (a1 ≥ 32) = true then (some 4) else ((Gj x28.Name).bind fun x99 => if (!x99) = true then (some 6) else ((H7 x28.Name).bind fun x0 => if x0 = true then (some 6) else (((AY (E4 a0 a1 x28) 0 : Option (Int ⊕ Unit))).bind fun o0 => (match o0 with | .inl p0 => (some p0) | .inr p1 => (if decide (x28.B2 < (-1)) = true then (some 21) else (if decide (x28.B2 ≥ a1) = true then (some 21) else ((Dp a0 x28.B2).bind fun x1 => ((AY (DJ a0 x28 x1) 0 : Option (Int ⊕ Unit))).bind fun o1 => (match o1 with | .inl p2 => (some p2) | .inr p3 => (if decide ((x28.Fields.length : Int) > (wr (32 - (x1.length : Int)))) = true then (some 4) else (some 0))))))))))
noncomputable def Eu (a0 : List A6) (s0 : Int) : Option (Int ⊕ ((Int × Int) ⊕ Unit)) :=
 if decide (s0 < (a0.length : Int)) = true then ((HN a0 s0).bind fun x0 => if (x0 != 0) = true then (some (.inr (.inl (s0, x0)))) else (some (.inl (wr (s0 + 1))))) else (some (.inr (.inr (()))))
noncomputable def G9 (a0 : List A6) : Option (Int × Int) :=
 ((AY (Eu a0) 0 : Option ((Int × Int) ⊕ Unit))).bind fun o0 => (match o0 with | .inl p0 => (some p0) | .inr p1 => (some (0, 0)))
noncomputable def Ee (a0 : List A6) (a1 : Bl) (s0 : Int) : Option (Int ⊕ (Bool ⊕ Unit)) :=
 if decide (s0 < (a1.Bv.length : Int)) = true then ((idx a1.Bv s0).bind fun x0 => (Fi a0 x0).bind fun x1 => if (!x1) = true then (some (.inr (.inl false))) else (some (.inl (wr (s0 + 1))))) else (some (.inr (.inr (()))))
noncomputable def H9 (a0 : List A6) (a1 : Bl) : Option Bool :=
 ((AY (Ee a0 a1) 0 : Option (Bool ⊕ Unit))).bind fun o0 => (match o0 with | .inl p0 => (some p0) | .inr p1 => (if decide ((a1.Bv.length : Int) ≤ 8) = true then (if ((a1.Result.toNat : Int) == 0) = true then (some true) else ((Fi a0 a1.Result).bind fun x0 => some x0)) else (some false)))
noncomputable def HY (a0 : Int) : Option (A4 × Int) :=
 if decide (a0 < 0) = true then (some ((⟨0, 0, (Vector.replicate 24 (0 : UInt8))⟩ : A4), 1)) else (if decide (a0 > 16) = true then (some ((⟨0, 0, (Vector.replicate 24 (0 : UInt8))⟩ : A4), 1)) else (some ((⟨a0, 0, (Vector.replicate 24 (0 : UInt8))⟩ : A4), 0)))
noncomputable def H8 (a0 : List A6) (a1 : UInt8) : Option Bool :=
 (Di a0 a1).bind fun x22 => if x22 = true then (if ((a1.toNat : Int) != 0) = true then (some ((a1.toNat : Int) != 3)) else (some false)) else (some false)
noncomputable def Dn (a0 : List A6) (a1 : List UInt8) (s0 : (Vector UInt8 24) × Int) : Option (((Vector UInt8 24) × Int) ⊕ ((A4 × Int) ⊕ ((Vector UInt8 24)))) :=
 if decide (s0.2 < (a1.length : Int)) = true then ((idx a1 s0.2).bind fun x0 => (H8 a0 x0).bind fun x1 => if (!x1) = true then (some (.inr (.inl ((⟨0, 0, (Vector.replicate 24 (0 : UInt8))⟩ : A4), 1)))) else ((idx s0.1.toList s0.2).bind fun x2 => some (.inl ((Ir s0.1 s0.2 x0), wr (s0.2 + 1))))) else (some (.inr (.inr (s0.1))))
noncomputable def Ec (a0 : List A6) (a1 : List UInt8) (a2 : Int) : Option (A4 × Int) :=
 (HY a2).bind fun x38 => if (x38.2 != 0) = true then (some ((⟨0, 0, (Vector.replicate 24 (0 : UInt8))⟩ : A4), 1)) else (if decide ((a1.length : Int) > 8) = true then (some ((⟨0, 0, (Vector.replicate 24 (0 : UInt8))⟩ : A4), 1)) else (if decide ((a1.length : Int) > a2) = true then (some ((⟨0, 0, (Vector.replicate 24 (0 : UInt8))⟩ : A4), 1)) else (((AY (Dn a0 a1) (x38.1.Slots, 0) : Option ((A4 × Int) ⊕ ((Vector UInt8 24))))).bind fun o0 => (match o0 with | .inl p0 => (some p0) | .inr p1 => (some ((⟨x38.1.Locals, x38.1.Height, p1⟩ : A4), 0))))))
noncomputable def CE (a0 : AA) (s0 : Int) : Option (Int ⊕ (Int ⊕ Unit)) :=
 if decide (s0 < (a0.AQ.length : Int)) = true then ((idx a0.AQ s0).bind fun x0 => if decide ((x0.Bv.length : Int) > 8) = true then (some (.inr (.inl 4))) else ((idx a0.AQ s0).bind fun x1 => (H9 a0.Classes x1).bind fun x2 => if (!x2) = true then (some (.inr (.inl 22))) else (some (.inl (wr (s0 + 1)))))) else (some (.inr (.inr (()))))
noncomputable def EI (a0 : AA) (a1 : Int) : Option Int :=
 (G9 a0.Classes).bind fun x27 => if (x27.2 != 0) = true then (some x27.2) else (if decide ((a0.AQ.length : Int) > 64) = true then (some 4) else (((AY (CE a0) 0 : Option (Int ⊕ Unit))).bind fun o0 => (match o0 with | .inl p0 => (some p0) | .inr p1 => (if decide (a0.Fn < 0) = true then (some 71) else (if decide (a0.Fn ≥ (a0.AQ.length : Int)) = true then (some 71) else ((idx a0.AQ a0.Fn).bind fun x0 => (Ec a0.Classes x0.Bv a1).bind fun x1 => some x1.2))))))
noncomputable def EY (a0 : UInt8) : Option (Int × Int) :=
 if ((a0.toNat : Int) == 1) = true then (some (4, 0)) else ((if ((a0.toNat : Int) == 19) = true then (some true) else (some ((a0.toNat : Int) == 20))).bind fun o0 => (if o0 = true then (some (2, 0)) else ((if ((a0.toNat : Int) == 24) = true then (some true) else (some ((a0.toNat : Int) == 25))).bind fun o1 => (if o1 = true then (some (1, 1)) else ((if ((a0.toNat : Int) == 2) = true then (some true) else (if ((a0.toNat : Int) == 4) = true then (some true) else (if ((a0.toNat : Int) == 5) = true then (some true) else (if ((a0.toNat : Int) == 21) = true then (some true) else (if ((a0.toNat : Int) == 23) = true then (some true) else (if ((a0.toNat : Int) == 30) = true then (some true) else (if ((a0.toNat : Int) == 31) = true then (some true) else (some ((a0.toNat : Int) == 32))))))))).bind fun o2 => (if o2 = true then (some (1, 0)) else (some (0, 0))))))))
noncomputable def DR (a0 : UInt8) : Option Int :=
 if decide ((a0.toNat : Int) ≥ 34) = true then (some 0) else ((EY a0).bind fun x26 => some (wr ((wr (1 + x26.1)) + x26.2)))
noncomputable def EK (a0 : List UInt8) (a1 : Int) (s0 : Int × Int) : Option ((Int × Int) ⊕ Int) :=
 if decide (s0.2 < a1) = true then ((idx a0 s0.2).bind fun x0 => some (.inl (wr ((wr (256 * s0.1)) + (x0.toNat : Int)), wr (s0.2 + 1)))) else (some (.inr s0.1))
noncomputable def Hh (a0 : List UInt8) (a1 : Int) : Option Int :=
 (AY (EK a0 a1) (0, 0)).bind fun o0 => (if (a1 == 4) = true then (if decide (o0 > 2147483647) = true then (some (wr (o0 - 4294967296))) else (some o0)) else (some o0))
noncomputable def En (a0 : List UInt8) (a1 : Int) : Option (A9 × Int) :=
 if decide (a1 < 0) = true then (some ((⟨0, 0, 0, 0⟩ : A9), 1)) else (if decide (a1 > (a0.length : Int)) = true then (some ((⟨0, 0, 0, 0⟩ : A9), 1)) else (if (a1 == (a0.length : Int)) = true then (some ((⟨0, 0, 0, 0⟩ : A9), 2)) else ((idx a0 a1).bind fun x0 => (DR x0).bind fun x1 => if (x1 == 0) = true then (some ((⟨0, 0, 0, 0⟩ : A9), 40)) else (if decide ((wr ((a0.length : Int) - a1)) < x1) = true then (some ((⟨0, 0, 0, 0⟩ : A9), 2)) else ((EY x0).bind fun x2 => (J5 a0 (wr (a1 + 1)) (a0.length : Int)).bind fun x3 => (Hh x3 x2.1).bind fun x4 => (J5 a0 (wr ((wr (a1 + 1)) + x2.1)) (a0.length : Int)).bind fun x5 => (Hh x5 x2.2).bind fun x6 => if ((x0.toNat : Int) == 2) = true then (if decide (x4 > 1) = true then (some ((⟨0, 0, 0, 0⟩ : A9), 5)) else (some ((⟨a1, x0, x4, x6⟩ : A9), 0))) else (some ((⟨a1, x0, x4, x6⟩ : A9), 0)))))))
noncomputable def CN (a0 : AM) (a1 : Int) (a2 : Int) (s0 : Int) : Option (Int ⊕ (Bool ⊕ Unit)) :=
 if decide (s0 < (a0.Taken.length : Int)) = true then ((idx a0.Taken s0).bind fun x0 => if decide (x0 > 0) = true then (if (s0 != a1) = true then ((idx a0.Taken s0).bind fun x1 => if decide (a1 < (wr (s0 + x1))) = true then (if decide (s0 < (wr (a1 + a2))) = true then (some (.inr (.inl true))) else (some (.inl (wr (s0 + 1))))) else (some (.inl (wr (s0 + 1))))) else (some (.inl (wr (s0 + 1))))) else (some (.inl (wr (s0 + 1))))) else (some (.inr (.inr (()))))
noncomputable def E9 (a0 : AM) (a1 : Int) (a2 : Int) : Option Bool :=
 ((AY (CN a0 a1 a2) 0 : Option (Bool ⊕ Unit))).bind fun o0 => (match o0 with | .inl p0 => (some p0) | .inr p1 => (some false))
noncomputable def Gl (a0 : List A6) (a1 : UInt8) : Option Bool :=
 (Di a0 a1).bind fun x22 => if x22 = true then (if ((a1.toNat : Int) != 0) = true then (some ((a1.toNat : Int) != 3)) else (some false)) else (some false)
noncomputable def DD (a0 : AA) (x0 : Bl) (s0 : Int) : Option (Int ⊕ (Bool ⊕ Unit)) :=
 if decide (s0 < (x0.Bv.length : Int)) = true then ((idx x0.Bv s0).bind fun x1 => (Gl a0.Classes x1).bind fun x2 => if (!x2) = true then (some (.inr (.inl false))) else (some (.inl (wr (s0 + 1))))) else (some (.inr (.inr (()))))
noncomputable def DF (a0 : AA) (s0 : Int) : Option (Int ⊕ (Bool ⊕ Unit)) :=
 if decide (s0 < (a0.AQ.length : Int)) = true then ((idx a0.AQ s0).bind fun x0 => ((if decide ((x0.Bv.length : Int) > 8) = true then (some (.inl false)) else (if ((x0.Result.toNat : Int) != 0) = true then ((Gl a0.Classes x0.Result).bind fun x1 => if (!x1) = true then (some (.inl false)) else (some (.inr ((true, (!x1)))))) else (some (.inr ((false, false))))) : Option (Bool ⊕ (Bool × Bool)))).bind fun o0 => (match o0 with | .inl p0 => (some (.inr (.inl p0))) | .inr p1 => (((AY (DD a0 x0) 0 : Option (Bool ⊕ Unit))).bind fun o1 => (match o1 with | .inl p2 => (some (.inr (.inl p2))) | .inr p3 => (some (.inl (wr (s0 + 1)))))))) else (some (.inr (.inr (()))))
noncomputable def G6 (a0 : AA) : Option Bool :=
 (G9 a0.Classes).bind fun x57 => if (x57.2 != 0) = true then (some false) else (if decide ((a0.AQ.length : Int) > 64) = true then (some false) else (if decide (a0.Fn < 0) = true then (some false) else (if decide (a0.Fn ≥ (a0.AQ.length : Int)) = true then (some false) else (((AY (DF a0) 0 : Option (Bool ⊕ Unit))).bind fun o0 => (match o0 with | .inl p0 => (some p0) | .inr p1 => (some true))))))
noncomputable def FC (a0 : A4) : Option Bool :=
 if decide (a0.Locals ≥ 0) = true then (if decide (a0.Locals ≤ 16) = true then (if decide (a0.Height ≥ 0) = true then (if decide (a0.Height ≤ 24) = true then (some (decide ((wr (a0.Locals + a0.Height)) ≤ 24))) else (some false)) else (some false)) else (some false)) else (some false)
noncomputable def E1 (a1 : A4) (s0 : Int) : Option (Int ⊕ (Int ⊕ Unit)) :=
 if decide (s0 < 24) = true then ((idx a1.Slots.toList s0).bind fun x0 => if ((x0.toNat : Int) != 0) = true then (some (.inr (.inl 32))) else (some (.inl (wr (s0 + 1))))) else (some (.inr (.inr (()))))
noncomputable def Ex (a0 : List A6) (a1 : A4) (s0 : Int) : Option (Int ⊕ (Int ⊕ Unit)) :=
 if decide (s0 < (wr (a1.Locals + a1.Height))) = true then ((idx a1.Slots.toList s0).bind fun x0 => (Di a0 x0).bind fun x1 => if (!x1) = true then (some (.inr (.inl 22))) else (some (.inl (wr (s0 + 1))))) else (some (.inr (.inr (()))))
noncomputable def EA (a0 : List A6) (a1 : A4) : Option Int :=
 (FC (⟨a1.Locals, a1.Height, a1.Slots⟩ : A4)).bind fun x52 => if (!x52) = true then (some 32) else (((AY (E1 a1) (wr (a1.Locals + a1.Height)) : Option (Int ⊕ Unit))).bind fun o0 => (match o0 with | .inl p0 => (some p0) | .inr p1 => (((AY (Ex a0 a1) 0 : Option (Int ⊕ Unit))).bind fun o1 => (match o1 with | .inl p2 => (some p2) | .inr p3 => (some 0)))))
noncomputable def Fq (a0 : AA) (a1 : A9) : Option Int :=
 ((if ((a1.Op.toNat : Int) == 21) = true then (if decide (a1.A < 0) = true then (some (.inl 71)) else (if decide (a1.A ≥ (a0.AQ.length : Int)) = true then (some (.inl 71)) else (some (.inr (()))))) else ((if ((a1.Op.toNat : Int) == 23) = true then (some true) else (if ((a1.Op.toNat : Int) == 30) = true then (some true) else (if ((a1.Op.toNat : Int) == 31) = true then (some true) else (if ((a1.Op.toNat : Int) == 24) = true then (some true) else (some ((a1.Op.toNat : Int) == 25)))))).bind fun o0 => (if o0 = true then (if decide (a1.A < 0) = true then (some (.inl 72)) else (if decide (a1.A ≥ (a0.Classes.length : Int)) = true then (some (.inl 72)) else (some (.inr (()))))) else (some (.inr (()))))) : Option (Int ⊕ Unit))).bind fun o1 => (match o1 with | .inl p0 => (some p0) | .inr p1 => (if ((a1.Op.toNat : Int) == 24) = true then (if decide (a1.B < 0) = true then (some 72) else ((Dp a0.Classes a1.A).bind fun x0 => if decide (a1.B ≥ (x0.length : Int)) = true then (some 72) else (some 0))) else (if ((a1.Op.toNat : Int) == 25) = true then (if decide (a1.B < 0) = true then (some 72) else ((Dp a0.Classes a1.A).bind fun x1 => if decide (a1.B ≥ (x1.length : Int)) = true then (some 72) else (some 0))) else (some 0))))
noncomputable def FY (a0 : UInt8) : Option ((List UInt8)) :=
 if ((a0.toNat : Int) == 0) = true then (some ([] : List UInt8)) else (some ([a0] : List UInt8))
noncomputable def Ea (a0 : Int) : Option UInt8 :=
 some (Fo (16 + ((Fo a0).toNat : Int)))
noncomputable def HJ (a0 : AA) (a1 : A9) : Option ((List UInt8)) :=
 if ((a1.Op.toNat : Int) == 5) = true then (some ([(254 : UInt8)] : List UInt8)) else ((if ((a1.Op.toNat : Int) == 6) = true then (some true) else (some ((a1.Op.toNat : Int) == 7))).bind fun o0 => (if o0 = true then (some ([(255 : UInt8)] : List UInt8)) else (if ((a1.Op.toNat : Int) == 8) = true then (some ([(255 : UInt8), (255 : UInt8)] : List UInt8)) else ((if ((a1.Op.toNat : Int) == 9) = true then (some true) else (if ((a1.Op.toNat : Int) == 10) = true then (some true) else (if ((a1.Op.toNat : Int) == 11) = true then (some true) else (if ((a1.Op.toNat : Int) == 12) = true then (some true) else (if ((a1.Op.toNat : Int) == 13) = true then (some true) else (some ((a1.Op.toNat : Int) == 15))))))).bind fun o1 => (if o1 = true then (some ([(1 : UInt8), (1 : UInt8)] : List UInt8)) else ((if ((a1.Op.toNat : Int) == 14) = true then (some true) else (if ((a1.Op.toNat : Int) == 26) = true then (some true) else (some ((a1.Op.toNat : Int) == 33)))).bind fun o2 => (if o2 = true then (some ([(1 : UInt8)] : List UInt8)) else (if ((a1.Op.toNat : Int) == 16) = true then (some ([(255 : UInt8), (255 : UInt8)] : List UInt8)) else ((if ((a1.Op.toNat : Int) == 17) = true then (some true) else (some ((a1.Op.toNat : Int) == 20))).bind fun o3 => (if o3 = true then (some ([(2 : UInt8)] : List UInt8)) else (if ((a1.Op.toNat : Int) == 18) = true then (some ([(253 : UInt8), (253 : UInt8)] : List UInt8)) else (if ((a1.Op.toNat : Int) == 21) = true then ((idx a0.AQ a1.A).bind fun x0 => some x0.Bv) else (if ((a1.Op.toNat : Int) == 22) = true then ((idx a0.AQ a0.Fn).bind fun x1 => (FY x1.Result).bind fun x2 => some x2) else (if ((a1.Op.toNat : Int) == 24) = true then ((Ea a1.A).bind fun x3 => some ([x3] : List UInt8)) else (if ((a1.Op.toNat : Int) == 25) = true then ((Ea a1.A).bind fun x4 => (Dp a0.Classes a1.A).bind fun x5 => (idx x5 a1.B).bind fun x6 => some ([x4, x6.GQ] : List UInt8)) else (if ((a1.Op.toNat : Int) == 27) = true then (some ([(4 : UInt8)] : List UInt8)) else (if ((a1.Op.toNat : Int) == 28) = true then (some ([(4 : UInt8), (1 : UInt8)] : List UInt8)) else (if ((a1.Op.toNat : Int) == 29) = true then (some ([(4 : UInt8), (1 : UInt8), (1 : UInt8)] : List UInt8)) else (if ((a1.Op.toNat : Int) == 30) = true then (some ([(253 : UInt8)] : List UInt8)) else (if ((a1.Op.toNat : Int) == 31) = true then (some ([(253 : UInt8)] : List UInt8)) else (some ([] : List UInt8))))))))))))))))))))))
noncomputable def E8 (a0 : UInt8) : Option Bool :=
 if ((a0.toNat : Int) == 3) = true then (some true) else (if ((a0.toNat : Int) == 4) = true then (some true) else (if ((a0.toNat : Int) == 5) = true then (some true) else (some (decide ((a0.toNat : Int) ≥ 16)))))
noncomputable def Ff (a2 : UInt8) (x0 : (List Int)) (s0 : Int) : Option (Int ⊕ (Bool ⊕ Unit)) :=
 if decide (s0 < (x0.length : Int)) = true then ((idx x0 s0).bind fun x1 => if (x1 == ((Fo ((a2.toNat : Int) - 16)).toNat : Int)) = true then (some (.inr (.inl true))) else (some (.inl (wr (s0 + 1))))) else (some (.inr (.inr (()))))
noncomputable def FM (a0 : List A6) (a1 : UInt8) (a2 : UInt8) : Option Bool :=
 (Di a0 a1).bind fun x34 => if (!x34) = true then (some false) else ((Di a0 a2).bind fun x50 => if (!x50) = true then (some false) else (((if ((a1.toNat : Int) == (a2.toNat : Int)) = true then (some (.inl true)) else (if ((a2.toNat : Int) == 0) = true then (some (.inl true)) else (if ((a1.toNat : Int) == 3) = true then ((E8 a2).bind fun x0 => if x0 = true then (some (.inl true)) else ((E8 a1).bind fun x1 => if x1 = true then (if ((a2.toNat : Int) == 5) = true then (some (.inl true)) else (some (.inr (())))) else (some (.inr (()))))) else ((E8 a1).bind fun x2 => if x2 = true then (if ((a2.toNat : Int) == 5) = true then (some (.inl true)) else (some (.inr (())))) else (some (.inr (())))))) : Option (Bool ⊕ Unit))).bind fun o0 => (match o0 with | .inl p0 => (some p0) | .inr p1 => (if decide ((a1.toNat : Int) < 16) = true then (some false) else (if decide ((a2.toNat : Int) < 16) = true then (some false) else ((Hg a0 ((Fo ((a1.toNat : Int) - 16)).toNat : Int)).bind fun x3 => ((AY (Ff a2 x3) 0 : Option (Bool ⊕ Unit))).bind fun o1 => (match o1 with | .inl p2 => (some p2) | .inr p3 => (some false))))))))
noncomputable def Hz (a0 : List A6) (a1 : UInt8) (a2 : UInt8) : Option Bool :=
 if ((a2.toNat : Int) == 255) = true then (some true) else (if ((a2.toNat : Int) == 254) = true then (some ((a1.toNat : Int) != 0)) else (if ((a2.toNat : Int) == 253) = true then ((E8 a1).bind fun x72 => some x72) else ((FM a0 a1 a2).bind fun x94 => some x94)))
noncomputable def HT (a0 : AA) (a1 : A9) : Option ((List UInt8)) :=
 (if ((a1.Op.toNat : Int) == 1) = true then (some true) else (if ((a1.Op.toNat : Int) == 9) = true then (some true) else (if ((a1.Op.toNat : Int) == 10) = true then (some true) else (if ((a1.Op.toNat : Int) == 11) = true then (some true) else (if ((a1.Op.toNat : Int) == 12) = true then (some true) else (if ((a1.Op.toNat : Int) == 13) = true then (some true) else (if ((a1.Op.toNat : Int) == 14) = true then (some true) else (if ((a1.Op.toNat : Int) == 27) = true then (some true) else (some ((a1.Op.toNat : Int) == 28)))))))))).bind fun o0 => (if o0 = true then (some ([(1 : UInt8)] : List UInt8)) else ((if ((a1.Op.toNat : Int) == 2) = true then (some true) else (if ((a1.Op.toNat : Int) == 15) = true then (some true) else (if ((a1.Op.toNat : Int) == 16) = true then (some true) else (if ((a1.Op.toNat : Int) == 17) = true then (some true) else (if ((a1.Op.toNat : Int) == 18) = true then (some true) else (some ((a1.Op.toNat : Int) == 31))))))).bind fun o1 => (if o1 = true then (some ([(2 : UInt8)] : List UInt8)) else (if ((a1.Op.toNat : Int) == 3) = true then (some ([(3 : UInt8)] : List UInt8)) else (if ((a1.Op.toNat : Int) == 4) = true then (some ([(255 : UInt8)] : List UInt8)) else ((if ((a1.Op.toNat : Int) == 7) = true then (some true) else (some ((a1.Op.toNat : Int) == 8))).bind fun o2 => (if o2 = true then (some ([(255 : UInt8), (255 : UInt8)] : List UInt8)) else (if ((a1.Op.toNat : Int) == 21) = true then ((idx a0.AQ a1.A).bind fun x0 => (FY x0.Result).bind fun x1 => some x1) else ((if ((a1.Op.toNat : Int) == 23) = true then (some true) else (some ((a1.Op.toNat : Int) == 30))).bind fun o3 => (if o3 = true then ((Ea a1.A).bind fun x2 => some ([x2] : List UInt8)) else (if ((a1.Op.toNat : Int) == 24) = true then ((Dp a0.Classes a1.A).bind fun x3 => (idx x3 a1.B).bind fun x4 => (FY x4.GQ).bind fun x5 => some x5) else (if ((a1.Op.toNat : Int) == 26) = true then (some ([(4 : UInt8)] : List UInt8)) else (some ([] : List UInt8))))))))))))))
noncomputable def EJ (s0 : (Vector UInt8 24) × Int) : Option (((Vector UInt8 24) × Int) ⊕ (((Vector UInt8 24)))) :=
 if decide (s0.2 < 24) = true then ((idx s0.1.toList s0.2).bind fun x0 => some (.inl ((Ir s0.1 s0.2 (0 : UInt8)), wr (s0.2 + 1)))) else (some (.inr s0.1))
noncomputable def Hj (a0 : A4) : Option A4 :=
 (AY (EJ) (a0.Slots, wr (a0.Locals + a0.Height))).bind fun o0 => (some (⟨a0.Locals, a0.Height, o0⟩ : A4))
noncomputable def IK (a0 : A4) : Option (A4 × UInt8 × Int) :=
 (FC (⟨a0.Locals, a0.Height, a0.Slots⟩ : A4)).bind fun x76 => if (!x76) = true then (some ((⟨0, 0, (Vector.replicate 24 (0 : UInt8))⟩ : A4), (0 : UInt8), 32)) else (if (a0.Height == 0) = true then (some ((⟨0, 0, (Vector.replicate 24 (0 : UInt8))⟩ : A4), (0 : UInt8), 30)) else ((idx a0.Slots.toList (wr ((wr (a0.Locals + a0.Height)) - 1))).bind fun x0 => (Hj (⟨a0.Locals, wr (a0.Height - 1), a0.Slots⟩ : A4)).bind fun x1 => some ((⟨x1.Locals, x1.Height, x1.Slots⟩ : A4), x0, 0)))
noncomputable def Iw (a0 : A4) (a1 : UInt8) : Option (A4 × Int) :=
 (FC (⟨a0.Locals, a0.Height, a0.Slots⟩ : A4)).bind fun x76 => if (!x76) = true then (some ((⟨0, 0, (Vector.replicate 24 (0 : UInt8))⟩ : A4), 32)) else (if ((wr (a0.Locals + a0.Height)) == 24) = true then (some ((⟨0, 0, (Vector.replicate 24 (0 : UInt8))⟩ : A4), 31)) else ((Hj (⟨a0.Locals, a0.Height, a0.Slots⟩ : A4)).bind fun x0 => (idx x0.Slots.toList (wr (a0.Locals + a0.Height))).bind fun x1 => some ((⟨x0.Locals, wr (x0.Height + 1), (Ir x0.Slots (wr (a0.Locals + a0.Height)) a1)⟩ : A4), 0)))
noncomputable def CY (a0 : AA) (a1 : A4) (x89 : (List UInt8)) (s0 : (List UInt8) × Int) : Option (((List UInt8) × Int) ⊕ ((A4 × Int) ⊕ ((List UInt8)))) :=
 if decide (s0.2 < (x89.length : Int)) = true then ((idx x89 s0.2).bind fun x0 => (idx a1.Slots.toList (wr ((wr ((wr (a1.Locals + a1.Height)) - (x89.length : Int))) + s0.2))).bind fun x1 => (Hz a0.Classes x1 x0).bind fun x2 => if (!x2) = true then (some (.inr (.inl ((⟨0, 0, (Vector.replicate 24 (0 : UInt8))⟩ : A4), 70)))) else ((app 140737488355328 s0.1 ([x1] : List UInt8)).bind fun x3 => some (.inl (x3, wr (s0.2 + 1))))) else (some (.inr (.inr (s0.1))))
noncomputable def Fp (x89 : (List UInt8)) (s0 : Int × Int × (Vector UInt8 24) × Int) : Option ((Int × Int × (Vector UInt8 24) × Int) ⊕ ((Int × Int × (Vector UInt8 24)))) :=
 if decide (s0.2.2.2 < (x89.length : Int)) = true then ((IK (⟨s0.1, s0.2.1, s0.2.2.1⟩ : A4)).bind fun x0 => some (.inl (x0.1.Locals, x0.1.Height, x0.1.Slots, wr (s0.2.2.2 + 1)))) else (some (.inr (s0.1, s0.2.1, s0.2.2.1)))
noncomputable def DL (p0 : (List UInt8)) (s0 : Int × Int × (Vector UInt8 24) × Int) : Option ((Int × Int × (Vector UInt8 24) × Int) ⊕ ((A4 × Int) ⊕ (Int × Int × (Vector UInt8 24)))) :=
 if decide (s0.2.2.2 < (p0.length : Int)) = true then ((idx p0 s0.2.2.2).bind fun x0 => (Iw (⟨s0.1, s0.2.1, s0.2.2.1⟩ : A4) x0).bind fun x1 => if (x1.2 != 0) = true then (some (.inr (.inl ((⟨0, 0, (Vector.replicate 24 (0 : UInt8))⟩ : A4), x1.2)))) else (some (.inl (x1.1.Locals, x1.1.Height, x1.1.Slots, wr (s0.2.2.2 + 1))))) else (some (.inr (.inr ((s0.1, s0.2.1, s0.2.2.1)))))
noncomputable def GH (a0 : AA) (a1 : A4) (a2 : A9) : Option (A4 × Int) :=
 (HJ (⟨a0.Classes, a0.AQ, a0.Fn⟩ : AA) (⟨a2.At, a2.Op, a2.A, a2.B⟩ : A9)).bind fun x89 => if decide (a1.Height < (x89.length : Int)) = true then (some ((⟨0, 0, (Vector.replicate 24 (0 : UInt8))⟩ : A4), 30)) else (((AY (CY a0 a1 x89) ([], 0) : Option ((A4 × Int) ⊕ ((List UInt8))))).bind fun o0 => (match o0 with | .inl p0 => (some p0) | .inr p1 => (((if ((a2.Op.toNat : Int) == 16) = true then ((idx p1 0).bind fun x0 => (idx p1 1).bind fun x1 => if ((x0.toNat : Int) != (x1.toNat : Int)) = true then (some (.inl ((⟨0, 0, (Vector.replicate 24 (0 : UInt8))⟩ : A4), 70))) else ((idx p1 0).bind fun x2 => if ((x2.toNat : Int) != 1) = true then ((idx p1 0).bind fun x3 => if ((x3.toNat : Int) != 2) = true then (some (.inl ((⟨0, 0, (Vector.replicate 24 (0 : UInt8))⟩ : A4), 70))) else (some (.inr (())))) else (some (.inr (()))))) else (some (.inr (()))) : Option ((A4 × Int) ⊕ Unit))).bind fun o1 => (match o1 with | .inl p2 => (some p2) | .inr p3 => ((HT (⟨a0.Classes, a0.AQ, a0.Fn⟩ : AA) (⟨a2.At, a2.Op, a2.A, a2.B⟩ : A9)).bind fun x4 => ((if ((a2.Op.toNat : Int) == 4) = true then ((idx a1.Slots.toList a2.A).bind fun x5 => if ((x5.toNat : Int) == 0) = true then (some (.inl ((⟨0, 0, (Vector.replicate 24 (0 : UInt8))⟩ : A4), 70))) else ((idx a1.Slots.toList a2.A).bind fun x6 => some (.inr (([x6] : List UInt8))))) else (if ((a2.Op.toNat : Int) == 7) = true then ((idx p1 0).bind fun x7 => (idx p1 0).bind fun x8 => some (.inr (([x7, x8] : List UInt8)))) else (if ((a2.Op.toNat : Int) == 8) = true then ((idx p1 1).bind fun x9 => (idx p1 0).bind fun x10 => some (.inr (([x9, x10] : List UInt8)))) else (some (.inr (x4))))) : Option ((A4 × Int) ⊕ ((List UInt8))))).bind fun o2 => (match o2 with | .inl p4 => (some p4) | .inr p5 => ((AY (Fp x89) (a1.Locals, a1.Height, a1.Slots, 0)).bind fun o3 => (((if ((a2.Op.toNat : Int) == 22) = true then (if decide (o3.2.1 > 0) = true then (some (.inl ((⟨0, 0, (Vector.replicate 24 (0 : UInt8))⟩ : A4), 73))) else (some (.inr (())))) else (some (.inr (()))) : Option ((A4 × Int) ⊕ Unit))).bind fun o4 => (match o4 with | .inl p6 => (some p6) | .inr p7 => ((if ((a2.Op.toNat : Int) == 5) = true then ((idx p1 0).bind fun x11 => (idx o3.2.2.toList a2.A).bind fun x12 => some (Ir o3.2.2 a2.A x11)) else (some o3.2.2)).bind fun o5 => (((AY (DL p5) (o3.1, o3.2.1, o5, 0) : Option ((A4 × Int) ⊕ (Int × Int × (Vector UInt8 24))))).bind fun o6 => (match o6 with | .inl p8 => (some p8) | .inr p9 => (some ((⟨p9.1, p9.2.1, p9.2.2⟩ : A4), 0))))))))))))))
noncomputable def HU (a0 : AA) (a1 : A4) (a2 : A9) : Option (A4 × Int) :=
 (G6 (⟨a0.Classes, a0.AQ, a0.Fn⟩ : AA)).bind fun x0 => if (!x0) = true then (some ((⟨0, 0, (Vector.replicate 24 (0 : UInt8))⟩ : A4), 1)) else ((EA a0.Classes (⟨a1.Locals, a1.Height, a1.Slots⟩ : A4)).bind fun x1 => if (x1 != 0) = true then (some ((⟨0, 0, (Vector.replicate 24 (0 : UInt8))⟩ : A4), x1)) else ((DR a2.Op).bind fun x2 => if (x2 == 0) = true then (some ((⟨0, 0, (Vector.replicate 24 (0 : UInt8))⟩ : A4), 40)) else ((if ((a2.Op.toNat : Int) == 4) = true then (some true) else (some ((a2.Op.toNat : Int) == 5))).bind fun o0 => (if o0 = true then (if decide (a2.A < 0) = true then (some ((⟨0, 0, (Vector.replicate 24 (0 : UInt8))⟩ : A4), 33)) else (if decide (a2.A ≥ a1.Locals) = true then (some ((⟨0, 0, (Vector.replicate 24 (0 : UInt8))⟩ : A4), 33)) else ((Fq (⟨a0.Classes, a0.AQ, a0.Fn⟩ : AA) (⟨a2.At, a2.Op, a2.A, a2.B⟩ : A9)).bind fun x3 => if (x3 != 0) = true then (some ((⟨0, 0, (Vector.replicate 24 (0 : UInt8))⟩ : A4), x3)) else ((GH (⟨a0.Classes, a0.AQ, a0.Fn⟩ : AA) (⟨a1.Locals, a1.Height, a1.Slots⟩ : A4) (⟨a2.At, a2.Op, a2.A, a2.B⟩ : A9)).bind fun x4 => some ((⟨x4.1.Locals, x4.1.Height, x4.1.Slots⟩ : A4), x4.2))))) else ((Fq (⟨a0.Classes, a0.AQ, a0.Fn⟩ : AA) (⟨a2.At, a2.Op, a2.A, a2.B⟩ : A9)).bind fun x5 => if (x5 != 0) = true then (some ((⟨0, 0, (Vector.replicate 24 (0 : UInt8))⟩ : A4), x5)) else ((GH (⟨a0.Classes, a0.AQ, a0.Fn⟩ : AA) (⟨a1.Locals, a1.Height, a1.Slots⟩ : A4) (⟨a2.At, a2.Op, a2.A, a2.B⟩ : A9)).bind fun x6 => some ((⟨x6.1.Locals, x6.1.Height, x6.1.Slots⟩ : A4), x6.2)))))))
noncomputable def Jx (a0 : UInt8) : Option Bool :=
 if ((a0.toNat : Int) == 19) = true then (some true) else (some ((a0.toNat : Int) == 20))
noncomputable def JE (a0 : UInt8) : Option Bool :=
 if ((a0.toNat : Int) == 19) = true then (some true) else (if ((a0.toNat : Int) == 22) = true then (some true) else (some ((a0.toNat : Int) == 32)))
noncomputable def Ij (a0 : A9) (a1 : Int) : Option ((List Int) × Int) :=
 (DR a0.Op).bind fun x21 => (Jx a0.Op).bind fun x39 => (JE a0.Op).bind fun x63 => ((if x39 = true then (if decide (a0.A ≥ a1) = true then (some (.inl (([] : List Int), 50))) else (some (.inr (())))) else (some (.inr (()))) : Option (((List Int) × Int) ⊕ Unit))).bind fun o0 => (match o0 with | .inl p0 => (some p0) | .inr p1 => (((if (!x63) = true then (if ((wr (a0.At + x21)) == a1) = true then (some (.inl (([] : List Int), 51))) else (some (.inr (())))) else (some (.inr (()))) : Option (((List Int) × Int) ⊕ Unit))).bind fun o1 => (match o1 with | .inl p2 => (some p2) | .inr p3 => ((if x39 = true then (if (!(!x63)) = true then ((app 17592186044416 ([] : List Int) ([a0.A] : List Int)).bind fun x0 => some x0) else (if decide (a0.A < (wr (a0.At + x21))) = true then ((app 17592186044416 ([] : List Int) ([a0.A] : List Int)).bind fun x1 => some x1) else (some []))) else (some [])).bind fun o2 => (if (!x63) = true then ((app 17592186044416 o2 ([wr (a0.At + x21)] : List Int)).bind fun x2 => if x39 = true then (if decide (a0.A > (wr (a0.At + x21))) = true then ((app 17592186044416 x2 ([a0.A] : List Int)).bind fun x3 => some (x3, 0)) else (some (x2, 0))) else (some (x2, 0))) else (if x39 = true then (some (o2, 0)) else (some (o2, 0))))))))
noncomputable def Fh (a0 : List A6) (s0 : (List UInt8) × Int) : Option (((List UInt8) × Int) ⊕ (((List UInt8)))) :=
 if decide (s0.2 < 256) = true then ((Di a0 (Fo s0.2)).bind fun x0 => if x0 = true then ((app 140737488355328 s0.1 ([Fo s0.2] : List UInt8)).bind fun x1 => some (.inl (x1, wr (s0.2 + 1)))) else (some (.inl (s0.1, wr (s0.2 + 1))))) else (some (.inr s0.1))
noncomputable def IP (a0 : List A6) : Option ((List UInt8)) :=
 (AY (Fh a0) ([], 0)).bind fun o0 => (some o0)
noncomputable def Ev (a0 : List A6) (a1 : UInt8) (a2 : UInt8) (x18 : (List UInt8)) (s0 : UInt8 × Int) : Option ((UInt8 × Int) ⊕ UInt8) :=
 if decide (s0.2 < (x18.length : Int)) = true then ((idx x18 s0.2).bind fun x0 => (FM a0 a1 x0).bind fun x1 => if x1 = true then ((FM a0 a2 x0).bind fun x2 => if x2 = true then ((FM a0 x0 s0.1).bind fun x3 => if x3 = true then (some (.inl (x0, wr (s0.2 + 1)))) else (some (.inl (s0.1, wr (s0.2 + 1))))) else (some (.inl (s0.1, wr (s0.2 + 1))))) else (some (.inl (s0.1, wr (s0.2 + 1))))) else (some (.inr s0.1))
noncomputable def HW (a0 : List A6) (a1 : UInt8) (a2 : UInt8) : Option UInt8 :=
 (IP a0).bind fun x18 => (AY (Ev a0 a1 a2 x18) (0, 0)).bind fun o0 => (some o0)
noncomputable def Fu (a0 : List A6) (a1 : A4) (a2 : A4) (s0 : (Vector UInt8 24) × Int) : Option (((Vector UInt8 24) × Int) ⊕ (((Vector UInt8 24)))) :=
 if decide (s0.2 < (wr (a1.Locals + a1.Height))) = true then ((idx s0.1.toList s0.2).bind fun x0 => (idx a2.Slots.toList s0.2).bind fun x1 => (HW a0 x0 x1).bind fun x2 => (idx s0.1.toList s0.2).bind fun x3 => some (.inl ((Ir s0.1 s0.2 x2), wr (s0.2 + 1)))) else (some (.inr s0.1))
noncomputable def HL (a0 : List A6) (a1 : A4) (a2 : A4) : Option (A4 × Int) :=
 (EA a0 (⟨a1.Locals, a1.Height, a1.Slots⟩ : A4)).bind fun x95 => if (x95 != 0) = true then (some ((⟨0, 0, (Vector.replicate 24 (0 : UInt8))⟩ : A4), x95)) else ((EA a0 (⟨a2.Locals, a2.Height, a2.Slots⟩ : A4)).bind fun x0 => if (x0 != 0) = true then (some ((⟨0, 0, (Vector.replicate 24 (0 : UInt8))⟩ : A4), x0)) else (if (a1.Locals != a2.Locals) = true then (some ((⟨0, 0, (Vector.replicate 24 (0 : UInt8))⟩ : A4), 32)) else (if (a1.Height != a2.Height) = true then (some ((⟨0, 0, (Vector.replicate 24 (0 : UInt8))⟩ : A4), 32)) else ((AY (Fu a0 a1 a2) (a1.Slots, 0)).bind fun o0 => (some ((⟨a1.Locals, a1.Height, o0⟩ : A4), 0))))))
noncomputable def FV (a0 : AM) (a1 : List A6) (a2 : Int) (a3 : A4) : Option (Int × AM) :=
 (idx a0.Has a2).bind fun x0 => if (!x0) = true then ((idx a0.Has a2).bind fun x1 => (idx a0.Frame a2).bind fun x2 => (idx a0.C2 a2).bind fun x3 => some (0, (⟨(a0.Has.set a2.toNat true), (a0.Frame.set a2.toNat (⟨a3.Locals, a3.Height, a3.Slots⟩ : A4)), (a0.C2.set a2.toNat true), a0.Taken⟩ : AM))) else ((idx a0.Frame a2).bind fun x4 => (HL a1 x4 (⟨a3.Locals, a3.Height, a3.Slots⟩ : A4)).bind fun x5 => if (x5.2 != 0) = true then (some (x5.2, (⟨a0.Has, a0.Frame, a0.C2, a0.Taken⟩ : AM))) else ((idx a0.Frame a2).bind fun x6 => if (!((x5.1.Locals == x6.Locals) && ((x5.1.Height == x6.Height) && ((x5.1.Slots == x6.Slots) && true)))) = true then ((idx a0.Frame a2).bind fun x7 => (idx a0.C2 a2).bind fun x8 => some (0, (⟨a0.Has, (a0.Frame.set a2.toNat (⟨x5.1.Locals, x5.1.Height, x5.1.Slots⟩ : A4)), (a0.C2.set a2.toNat true), a0.Taken⟩ : AM))) else (some (0, (⟨a0.Has, a0.Frame, a0.C2, a0.Taken⟩ : AM)))))
noncomputable def CL (a1 : AA) (x0 : A4 × Int) (x1 : (List Int) × Int) (s0 : (List Int) × (List Bool) × (List Bool) × (List A4) × Int) : Option (((List Int) × (List Bool) × (List Bool) × (List A4) × Int) ⊕ ((Int × Int × AM) ⊕ ((List Int) × (List Bool) × (List Bool) × (List A4)))) :=
 if decide (s0.2.2.2.2 < (x1.1.length : Int)) = true then ((idx x1.1 s0.2.2.2.2).bind fun x2 => (FV (⟨s0.2.2.1, s0.2.2.2.1, s0.2.1, s0.1⟩ : AM) a1.Classes x2 (⟨x0.1.Locals, x0.1.Height, x0.1.Slots⟩ : A4)).bind fun x3 => if (x3.1 != 0) = true then ((idx x1.1 s0.2.2.2.2).bind fun x4 => some (.inr (.inl (x4, x3.1, (⟨x3.2.Has, x3.2.Frame, x3.2.C2, x3.2.Taken⟩ : AM))))) else (some (.inl (x3.2.Taken, x3.2.C2, x3.2.Has, x3.2.Frame, wr (s0.2.2.2.2 + 1))))) else (some (.inr (.inr ((s0.1, s0.2.1, s0.2.2.1, s0.2.2.2.1)))))
noncomputable def Fz (a0 : AM) (a1 : AA) (a2 : List UInt8) (a3 : Int) : Option (Int × Int × AM) :=
 (idx a0.C2 a3).bind fun x40 => if (a3 == (a2.length : Int)) = true then (some (a3, 51, (⟨a0.Has, a0.Frame, (a0.C2.set a3.toNat false), a0.Taken⟩ : AM))) else ((En a2 a3).bind fun x96 => if (x96.2 != 0) = true then (some (a3, x96.2, (⟨a0.Has, a0.Frame, (a0.C2.set a3.toNat false), a0.Taken⟩ : AM))) else ((DR x96.1.Op).bind fun x0 => (E9 (⟨a0.Has, a0.Frame, (a0.C2.set a3.toNat false), a0.Taken⟩ : AM) a3 x0).bind fun x1 => if x1 = true then (some (a3, 80, (⟨a0.Has, a0.Frame, (a0.C2.set a3.toNat false), a0.Taken⟩ : AM))) else ((idx a0.Taken a3).bind fun x2 => (idx a0.Frame a3).bind fun x3 => (HU (⟨a1.Classes, a1.AQ, a1.Fn⟩ : AA) x3 (⟨x96.1.At, x96.1.Op, x96.1.A, x96.1.B⟩ : A9)).bind fun x4 => if (x4.2 != 0) = true then (some (a3, x4.2, (⟨a0.Has, a0.Frame, (a0.C2.set a3.toNat false), (a0.Taken.set a3.toNat x0)⟩ : AM))) else ((Ij (⟨x96.1.At, x96.1.Op, x96.1.A, x96.1.B⟩ : A9) (a2.length : Int)).bind fun x5 => if (x5.2 != 0) = true then (some (a3, x5.2, (⟨a0.Has, a0.Frame, (a0.C2.set a3.toNat false), (a0.Taken.set a3.toNat x0)⟩ : AM))) else (((AY (CL a1 x4 x5) ((a0.Taken.set a3.toNat x0), (a0.C2.set a3.toNat false), a0.Has, a0.Frame, 0) : Option ((Int × Int × AM) ⊕ ((List Int) × (List Bool) × (List Bool) × (List A4))))).bind fun o0 => (match o0 with | .inl p0 => (some p0) | .inr p1 => (some (0, 0, (⟨p1.2.2.1, p1.2.2.2, p1.2.1, p1.1⟩ : AM)))))))))
noncomputable def Dj (a0 : AM) (s0 : Int) : Option (Int ⊕ (Int ⊕ Unit)) :=
 if decide (s0 < (a0.C2.length : Int)) = true then ((idx a0.C2 s0).bind fun x0 => if x0 = true then (some (.inr (.inl s0))) else (some (.inl (wr (s0 + 1))))) else (some (.inr (.inr (()))))
noncomputable def FH (a0 : AM) : Option Int :=
 ((AY (Dj a0) 0 : Option (Int ⊕ Unit))).bind fun o0 => (match o0 with | .inl p0 => (some p0) | .inr p1 => (some (-1)))
noncomputable def DK (a0 : AA) (a2 : List UInt8) (s0 : (List Bool) × (List A4) × (List Bool) × (List Int) × Int) : Option (((List Bool) × (List A4) × (List Bool) × (List Int) × Int) ⊕ (((List BO) × Int × Int) ⊕ ((List Bool) × (List A4) × (List Bool) × (List Int)))) :=
 if decide (s0.2.2.2.2 ≥ 0) = true then ((Fz (⟨s0.1, s0.2.1, s0.2.2.1, s0.2.2.2.1⟩ : AM) (⟨a0.Classes, a0.AQ, a0.Fn⟩ : AA) a2 s0.2.2.2.2).bind fun x0 => if (x0.2.1 != 0) = true then (some (.inr (.inl (([] : List BO), x0.1, x0.2.1)))) else ((FH (⟨x0.2.2.Has, x0.2.2.Frame, x0.2.2.C2, x0.2.2.Taken⟩ : AM)).bind fun x1 => some (.inl (x0.2.2.Has, x0.2.2.Frame, x0.2.2.C2, x0.2.2.Taken, x1)))) else (some (.inr (.inr ((s0.1, s0.2.1, s0.2.2.1, s0.2.2.2.1)))))
noncomputable def Es (a2 : List UInt8) (p0 : (List Bool) × (List A4) × (List Bool) × (List Int)) (s0 : (List BO) × Int) : Option (((List BO) × Int) ⊕ (((List BO)))) :=
 if decide (s0.2 < (a2.length : Int)) = true then ((idx p0.1 s0.2).bind fun x0 => if x0 = true then ((idx p0.2.1 s0.2).bind fun x1 => (app 2513169434916 s0.1 ([(⟨s0.2, false, (⟨x1.Locals, x1.Height, x1.Slots⟩ : A4)⟩ : BO)] : List BO)).bind fun x2 => some (.inl (x2, wr (s0.2 + 1)))) else (some (.inl (s0.1, wr (s0.2 + 1))))) else (some (.inr s0.1))
noncomputable def HK (a0 : AA) (a1 : Int) (a2 : List UInt8) : Option ((List BO) × Int × Int) :=
 (EI (⟨a0.Classes, a0.AQ, a0.Fn⟩ : AA) a1).bind fun x27 => if (x27 != 0) = true then (some (([] : List BO), 0, x27)) else (if decide ((a2.length : Int) > 4096) = true then (some (([] : List BO), 0, 4)) else ((S0 1 (wr ((a2.length : Int) + 1)) false).bind fun x0 => (S0 40 (wr ((a2.length : Int) + 1)) (⟨(0 : Int), (0 : Int), (Vector.replicate 24 (0 : UInt8))⟩ : A4)).bind fun x1 => (S0 1 (wr ((a2.length : Int) + 1)) false).bind fun x2 => (S0 8 (wr ((a2.length : Int) + 1)) (0 : Int)).bind fun x3 => (idx a0.AQ a0.Fn).bind fun x4 => (Ec a0.Classes x4.Bv a1).bind fun x5 => (idx x0 0).bind fun x6 => (idx x1 0).bind fun x7 => (idx x2 0).bind fun x8 => ((AY (DK a0 a2) ((x0.set ((0 : Int).toNat) true), (x1.set ((0 : Int).toNat) (⟨x5.1.Locals, x5.1.Height, x5.1.Slots⟩ : A4)), (x2.set ((0 : Int).toNat) true), x3, 0) : Option (((List BO) × Int × Int) ⊕ ((List Bool) × (List A4) × (List Bool) × (List Int))))).bind fun o0 => (match o0 with | .inl p0 => (some p0) | .inr p1 => ((AY (Es a2 p1) ([], 0)).bind fun o1 => (some (o1, 0, 0))))))
noncomputable def DU (x0 : BX) (x1 : (List BO) × Int × Int) (s0 : (List A9) × Int × Int) : Option (((List A9) × Int × Int) ⊕ (((List A9) × Int))) :=
 if decide (s0.2.2 < (x1.1.length : Int)) = true then ((idx x1.1 s0.2.2).bind fun x2 => (En x0.Code x2.At).bind fun x3 => (app 4398046511104 s0.1 ([(⟨x3.1.At, x3.1.Op, x3.1.A, x3.1.B⟩ : A9)] : List A9)).bind fun x4 => (idx x1.1 s0.2.2).bind fun x5 => if decide (x5.Frame.Height > s0.2.1) = true then ((idx x1.1 s0.2.2).bind fun x6 => some (.inl (x4, x6.Frame.Height, wr (s0.2.2 + 1)))) else (some (.inl (x4, s0.2.1, wr (s0.2.2 + 1))))) else (some (.inr (s0.1, s0.2.1)))
noncomputable def Dg (a0 : AL) (a1 : Int) : Option ((List A9) × Int × Int × Int) :=
 (IL (⟨a0.Name, a0.Classes, a0.Funcs, a0.Ca⟩ : AL) a1).bind fun x44 => if (!x44.2) = true then (some (([] : List A9), 0, 0, 1)) else ((idx a0.Funcs a1).bind fun x0 => (HK (⟨x44.1.Classes, x44.1.AQ, x44.1.Fn⟩ : AA) x0.Locals x0.Code).bind fun x1 => if (x1.2.2 != 0) = true then (some (([] : List A9), 0, x1.2.1, x1.2.2)) else ((AY (DU x0 x1) ([], 0, 0)).bind fun o0 => (some (o0.1, o0.2, 0, 0))))
noncomputable def E0 (x29 : (List A9) × Int × Int × Int) (s0 : (List Int) × Int) (s1 : Bool × Int) : Option ((Bool × Int) ⊕ Bool) :=
 if decide (s1.2 < (x29.1.length : Int)) = true then (if s1.1 = true then (some (.inl (true, wr (s1.2 + 1)))) else ((idx x29.1 s1.2).bind fun x0 => if ((x0.Op.toNat : Int) == 21) = true then ((idx x29.1 s1.2).bind fun x1 => some (.inl ((x1.A == s0.2), wr (s1.2 + 1)))) else (some (.inl (false, wr (s1.2 + 1)))))) else (some (.inr s1.1))
noncomputable def Ey (a0 : AL) (x29 : (List A9) × Int × Int × Int) (s0 : (List Int) × Int) : Option (((List Int) × Int) ⊕ (((List Int)))) :=
 if decide (s0.2 < (a0.Funcs.length : Int)) = true then ((AY (E0 x29 s0) (false, 0)).bind fun o0 => (if o0 = true then ((app 17592186044416 s0.1 ([s0.2] : List Int)).bind fun x0 => some (.inl (x0, wr (s0.2 + 1)))) else (some (.inl (s0.1, wr (s0.2 + 1)))))) else (some (.inr s0.1))
noncomputable def FI (a0 : AL) (a1 : Int) : Option ((List Int) × Int × Int) :=
 (Dg (⟨a0.Name, a0.Classes, a0.Funcs, a0.Ca⟩ : AL) a1).bind fun x29 => if (x29.2.2.2 != 0) = true then (some (([] : List Int), x29.2.2.1, x29.2.2.2)) else ((AY (Ey a0 x29) ([], 0)).bind fun o0 => (some (o0, 0, 0)))
noncomputable def EG (a0 : List Int) (a1 : List Int) (s0 : Int) : Option (Int ⊕ (Bool ⊕ Unit)) :=
 if decide (s0 < (a0.length : Int)) = true then ((idx a0 s0).bind fun x0 => (idx a1 s0).bind fun x1 => if (x0 != x1) = true then (some (.inr (.inl false))) else (some (.inl (wr (s0 + 1))))) else (some (.inr (.inr (()))))
noncomputable def GY (a0 : List Int) (a1 : List Int) : Option Bool :=
 if ((a0.length : Int) != (a1.length : Int)) = true then (some false) else (((AY (EG a0 a1) 0 : Option (Bool ⊕ Unit))).bind fun o0 => (match o0 with | .inl p0 => (some p0) | .inr p1 => (some true)))
noncomputable def CH (a0 : List B6) (a1 : List B6) (s0 : Int) : Option (Int ⊕ (Bool ⊕ Unit)) :=
 if decide (s0 < (a0.length : Int)) = true then ((idx a0 s0).bind fun x0 => (idx a1 s0).bind fun x1 => if (!((x0.Name == x1.Name) && ((x0.GQ == x1.GQ) && true))) = true then (some (.inr (.inl false))) else (some (.inl (wr (s0 + 1))))) else (some (.inr (.inr (()))))
noncomputable def DC (a0 : List B6) (a1 : List B6) : Option Bool :=
 if ((a0.length : Int) != (a1.length : Int)) = true then (some false) else (((AY (CH a0 a1) 0 : Option (Bool ⊕ Unit))).bind fun o0 => (match o0 with | .inl p0 => (some p0) | .inr p1 => (some true)))
noncomputable def DN (a0 : List A6) (a1 : List A6) (s0 : Int) : Option (Int ⊕ (Bool ⊕ Unit)) :=
 if decide (s0 < (a0.length : Int)) = true then ((idx a0 s0).bind fun x0 => (idx a1 s0).bind fun x1 => if (x0.Name != x1.Name) = true then (some (.inr (.inl false))) else ((idx a0 s0).bind fun x2 => (idx a1 s0).bind fun x3 => if (x2.B2 != x3.B2) = true then (some (.inr (.inl false))) else ((idx a0 s0).bind fun x4 => (idx a1 s0).bind fun x5 => (DC x4.Fields x5.Fields).bind fun x6 => if (!x6) = true then (some (.inr (.inl false))) else (some (.inl (wr (s0 + 1))))))) else (some (.inr (.inr (()))))
noncomputable def FB (a0 : List A6) (a1 : List A6) : Option Bool :=
 if ((a0.length : Int) != (a1.length : Int)) = true then (some false) else (((AY (DN a0 a1) 0 : Option (Bool ⊕ Unit))).bind fun o0 => (match o0 with | .inl p0 => (some p0) | .inr p1 => (some true)))
noncomputable def CX (a0 : List UInt8) (a1 : List UInt8) (s0 : Int) : Option (Int ⊕ (Bool ⊕ Unit)) :=
 if decide (s0 < (a0.length : Int)) = true then ((idx a0 s0).bind fun x0 => (idx a1 s0).bind fun x1 => if ((x0.toNat : Int) != (x1.toNat : Int)) = true then (some (.inr (.inl false))) else (some (.inl (wr (s0 + 1))))) else (some (.inr (.inr (()))))
noncomputable def Ed (a0 : List UInt8) (a1 : List UInt8) : Option Bool :=
 if ((a0.length : Int) != (a1.length : Int)) = true then (some false) else (((AY (CX a0 a1) 0 : Option (Bool ⊕ Unit))).bind fun o0 => (match o0 with | .inl p0 => (some p0) | .inr p1 => (some true)))
noncomputable def Hf (a0 : Bl) (a1 : Bl) : Option Bool :=
 if ((a0.Result.toNat : Int) == (a1.Result.toNat : Int)) = true then ((Ed a0.Bv a1.Bv).bind fun x64 => some x64) else (some false)
noncomputable def Ei (a0 : List UInt8) (a1 : List UInt8) (s0 : Int) : Option (Int ⊕ (Bool ⊕ Unit)) :=
 if decide (s0 < (a0.length : Int)) = true then ((idx a0 s0).bind fun x0 => (idx a1 s0).bind fun x1 => if ((x0.toNat : Int) != (x1.toNat : Int)) = true then (some (.inr (.inl false))) else (some (.inl (wr (s0 + 1))))) else (some (.inr (.inr (()))))
noncomputable def EV (a0 : List UInt8) (a1 : List UInt8) : Option Bool :=
 if ((a0.length : Int) != (a1.length : Int)) = true then (some false) else (((AY (Ei a0 a1) 0 : Option (Bool ⊕ Unit))).bind fun o0 => (match o0 with | .inl p0 => (some p0) | .inr p1 => (some true)))
noncomputable def GE (a0 : BX) (a1 : BX) : Option Bool :=
 if (a0.Name == a1.Name) = true then ((Hf (⟨a0.Sig.Bv, a0.Sig.Result⟩ : Bl) (⟨a1.Sig.Bv, a1.Sig.Result⟩ : Bl)).bind fun x95 => if x95 = true then (if (a0.Locals == a1.Locals) = true then ((EV a0.Code a1.Code).bind fun x0 => some x0) else (some false)) else (some false)) else (some false)
noncomputable def DV (a0 : AL) (a1 : AL) (s0 : Int) : Option (Int ⊕ (Bool ⊕ Unit)) :=
 if decide (s0 < (a0.Funcs.length : Int)) = true then ((idx a0.Funcs s0).bind fun x0 => (idx a1.Funcs s0).bind fun x1 => (GE x0 x1).bind fun x2 => if (!x2) = true then (some (.inr (.inl false))) else (some (.inl (wr (s0 + 1))))) else (some (.inr (.inr (()))))
noncomputable def DW (a0 : AL) (a1 : AL) (s0 : Int) : Option (Int ⊕ (Bool ⊕ Unit)) :=
 if decide (s0 < (a0.Ca.length : Int)) = true then ((idx a0.Ca s0).bind fun x0 => (idx a1.Ca s0).bind fun x1 => (EV x0 x1).bind fun x2 => if (!x2) = true then (some (.inr (.inl false))) else (some (.inl (wr (s0 + 1))))) else (some (.inr (.inr (()))))
noncomputable def FU (a0 : AL) (a1 : AL) : Option Bool :=
 if (a0.Name != a1.Name) = true then (some false) else ((FB a0.Classes a1.Classes).bind fun x0 => if (!x0) = true then (some false) else (if ((a0.Funcs.length : Int) != (a1.Funcs.length : Int)) = true then (some false) else (if ((a0.Ca.length : Int) != (a1.Ca.length : Int)) = true then (some false) else (((AY (DV a0 a1) 0 : Option (Bool ⊕ Unit))).bind fun o0 => (match o0 with | .inl p0 => (some p0) | .inr p1 => (((AY (DW a0 a1) 0 : Option (Bool ⊕ Unit))).bind fun o1 => (match o1 with | .inl p2 => (some p2) | .inr p3 => (some true))))))))
noncomputable def NE (a0 : AL) (a1 : Int) : Option ((List Int) × Int × Int) :=
 (Kx (⟨a0.Name, a0.Classes, a0.Funcs, a0.Ca⟩ : AL) a1).bind fun x29 => if (x29.2.2 != 0) = true then (some (([] : List Int), x29.2.1, x29.2.2)) else ((x29.1).bind fun x82 => ((IZ (⟨x82.l, x82.CW⟩ : Cf)).bind fun x90 => some (x90, 0, 0)))
noncomputable def Ni (a0 : AL) (a1 : Int) : Option (Int × Int × Int) :=
 (Kx (⟨a0.Name, a0.Classes, a0.Funcs, a0.Ca⟩ : AL) a1).bind fun x29 => if (x29.2.2 != 0) = true then (some (0, x29.2.1, x29.2.2)) else ((x29.1).bind fun x66 => (some (x66.CW, 0, 0)))
noncomputable def Jf (a0 : AL) (a1 : Int) : Option (Int × Int × Int) :=
 (Dg (⟨a0.Name, a0.Classes, a0.Funcs, a0.Ca⟩ : AL) a1).bind fun x29 => some (x29.2.1, x29.2.2.1, x29.2.2.2)
noncomputable def Me (a0 : A9) : Option Bool :=
 if decide (a0.At ≥ 0) = true then (some (decide (a0.At < 4096))) else (some false)
noncomputable def Ld (a0 : A9) : Option ((List Int)) :=
 (HS a0.Op).bind fun x48 => if (x48 == 0) = true then (some ([] : List Int)) else ((Me (⟨a0.At, a0.Op, a0.A, a0.B⟩ : A9)).bind fun x67 => if (!x67) = true then (some ([] : List Int)) else ((MA a0.Op).bind fun x0 => if (!x0) = true then ((HS a0.Op).bind fun x1 => (Ks a0.Op).bind fun x2 => if x2 = true then ((Gd (Da (Da ([] : List (Int × Int)) (wr (a0.At + x1)) 1) a0.A 1)).bind fun x3 => some x3) else ((Gd (Da ([] : List (Int × Int)) (wr (a0.At + x1)) 1)).bind fun x4 => some x4)) else ((Ks a0.Op).bind fun x5 => if x5 = true then ((Gd (Da ([] : List (Int × Int)) a0.A 1)).bind fun x6 => some x6) else ((Gd ([] : List (Int × Int))).bind fun x7 => some x7))))
noncomputable def I3 (a0 : A9) (a1 : Int) : Option Bool :=
 some (a0.At == a1)
noncomputable def BH (a0 : List A9) (a1 : Int) (s0 : Int) : Option (Int ⊕ (Int ⊕ Unit)) :=
 if decide (s0 < (a0.length : Int)) = true then ((idx a0 s0).bind fun x0 => (I3 x0 a1).bind fun x1 => if x1 = true then (some (.inr (.inl s0))) else (some (.inl (wr (s0 + 1))))) else (some (.inr (.inr (()))))
noncomputable def C5 (a0 : List A9) (a1 : Int) : Option Int :=
 ((AY (BH a0 a1) 0 : Option (Int ⊕ Unit))).bind fun o0 => (match o0 with | .inl p0 => (some p0) | .inr p1 => (some (-1)))
noncomputable def G7 (a0 : Cf) (a1 : Int) : Option Int :=
 (C5 a0.l a1).bind fun x34 => some x34
noncomputable def Fc (a0 : Cf) (x0 : (List Int)) (s0 : (List Int) × Int) : Option (((List Int) × Int) ⊕ (((List Int)))) :=
 if decide (s0.2 < (x0.length : Int)) = true then ((idx x0 s0.2).bind fun x1 => (G7 (⟨a0.l, a0.CW⟩ : Cf) x1).bind fun x2 => (idx s0.1 x2).bind fun x3 => (idx s0.1 x2).bind fun x4 => some (.inl ((s0.1.set x2.toNat (wr (x3 + 1))), wr (s0.2 + 1)))) else (some (.inr s0.1))
noncomputable def Fe (a0 : Cf) (s0 : (List Int) × Int) : Option (((List Int) × Int) ⊕ (((List Int)))) :=
 if decide (s0.2 < (a0.l.length : Int)) = true then ((idx a0.l s0.2).bind fun x0 => (Ld (⟨x0.At, x0.Op, x0.A, x0.B⟩ : A9)).bind fun x1 => (AY (Fc a0 x1) (s0.1, 0)).bind fun o0 => (some (.inl (o0, wr (s0.2 + 1))))) else (some (.inr s0.1))
noncomputable def Gh (o0 : ((List Int))) (s0 : (List Int) × Int) : Option (((List Int) × Int) ⊕ (((List Int)))) :=
 if decide (s0.2 < (o0.length : Int)) = true then ((idx o0 s0.2).bind fun x0 => if (x0 == 0) = true then ((app 17592186044416 s0.1 ([s0.2] : List Int)).bind fun x1 => some (.inl (x1, wr (s0.2 + 1)))) else (some (.inl (s0.1, wr (s0.2 + 1))))) else (some (.inr s0.1))
noncomputable def Fg (a0 : Cf) (x0 : (List Int)) (s0 : (List Int) × (List Int) × Int) : Option (((List Int) × (List Int) × Int) ⊕ (((List Int) × (List Int)))) :=
 if decide (s0.2.2 < (x0.length : Int)) = true then ((idx x0 s0.2.2).bind fun x1 => (G7 (⟨a0.l, a0.CW⟩ : Cf) x1).bind fun x2 => (idx s0.1 x2).bind fun x3 => (idx s0.1 x2).bind fun x4 => (idx (s0.1.set x2.toNat (wr (x3 - 1))) x2).bind fun x5 => if (x5 == 0) = true then ((app 17592186044416 s0.2.1 ([x2] : List Int)).bind fun x6 => some (.inl ((s0.1.set x2.toNat (wr (x3 - 1))), x6, wr (s0.2.2 + 1)))) else (some (.inl ((s0.1.set x2.toNat (wr (x3 - 1))), s0.2.1, wr (s0.2.2 + 1))))) else (some (.inr (s0.1, s0.2.1)))
noncomputable def El (a0 : Cf) (s0 : (List Int) × Int × (List Int)) : Option (((List Int) × Int × (List Int)) ⊕ Int) :=
 if decide ((s0.2.2.length : Int) > 0) = true then ((idx s0.2.2 (wr ((s0.2.2.length : Int) - 1))).bind fun x0 => (J5 s0.2.2 0 (wr ((s0.2.2.length : Int) - 1))).bind fun x1 => (idx a0.l x0).bind fun x2 => (Ld x2).bind fun x3 => (AY (Fg a0 x3) (s0.1, x1, 0)).bind fun o0 => (some (.inl (o0.1, wr (s0.2.1 + 1), o0.2)))) else (some (.inr s0.2.1))
noncomputable def IR (a0 : Cf) : Option Bool :=
 (S0 8 (a0.l.length : Int) (0 : Int)).bind fun x15 => (AY (Fe a0) (x15, 0)).bind fun o0 => ((AY (Gh o0) ([], 0)).bind fun o1 => ((AY (El a0) (o0, 0, o1)).bind fun o2 => (some (decide (o2 < (a0.l.length : Int))))))
noncomputable def N9 (a0 : AL) (a1 : Int) : Option (Bool × Int × Int) :=
 (Kx (⟨a0.Name, a0.Classes, a0.Funcs, a0.Ca⟩ : AL) a1).bind fun x29 => if (x29.2.2 != 0) = true then (some (false, x29.2.1, x29.2.2)) else ((x29.1).bind fun x80 => ((IR (⟨x80.l, x80.CW⟩ : Cf)).bind fun x88 => some (x88, 0, 0)))
noncomputable def EB (a0 : List A9) (x29 : (List Int) × Int) (s0 : (List Int) × Int) (s1 : (List Int) × Int) : Option (((List Int) × Int) ⊕ (((List Int)))) :=
 if decide (s1.2 < (a0.length : Int)) = true then ((idx a0 s1.2).bind fun x0 => (idx x29.1 s0.2).bind fun x1 => if (x0.At == x1) = true then ((app 17592186044416 s1.1 ([s1.2] : List Int)).bind fun x2 => some (.inl (x2, wr (s1.2 + 1)))) else (some (.inl (s1.1, wr (s1.2 + 1))))) else (some (.inr s1.1))
noncomputable def Fy (a0 : List A9) (x29 : (List Int) × Int) (s0 : (List Int) × Int) : Option (((List Int) × Int) ⊕ (((List Int)))) :=
 if decide (s0.2 < (x29.1.length : Int)) = true then ((AY (EB a0 x29 s0) (s0.1, 0)).bind fun o0 => (some (.inl (o0, wr (s0.2 + 1))))) else (some (.inr s0.1))
noncomputable def Ih (a0 : List A9) (a1 : Int) (a2 : Int) : Option ((List Int)) :=
 (idx a0 a1).bind fun x24 => (Ij x24 a2).bind fun x29 => (AY (Fy a0 x29) ([], 0)).bind fun o0 => (some o0)
noncomputable def Ew (x0 : (List Int)) (s0 : (List Int) × Int) : Option (((List Int) × Int) ⊕ (((List Int)))) :=
 if decide (s0.2 < (x0.length : Int)) = true then ((idx x0 s0.2).bind fun x1 => (idx x0 s0.2).bind fun x2 => (idx s0.1 x2).bind fun x3 => (idx s0.1 x1).bind fun x4 => some (.inl ((s0.1.set x1.toNat (wr (x3 + 1))), wr (s0.2 + 1)))) else (some (.inr s0.1))
noncomputable def E3 (x29 : (List A9) × Int × Int × Int) (x76 : BX) (s0 : (List Int) × Int) : Option (((List Int) × Int) ⊕ (((List Int)))) :=
 if decide (s0.2 < (x29.1.length : Int)) = true then ((Ih x29.1 s0.2 (x76.Code.length : Int)).bind fun x0 => (AY (Ew x0) (s0.1, 0)).bind fun o0 => (some (.inl (o0, wr (s0.2 + 1))))) else (some (.inr s0.1))
noncomputable def Ft (x29 : (List A9) × Int × Int × Int) (o0 : ((List Int))) (s0 : (List Int) × Int) : Option (((List Int) × Int) ⊕ (((List Int)))) :=
 if decide (s0.2 < (x29.1.length : Int)) = true then ((idx o0 s0.2).bind fun x0 => if (x0 == 0) = true then ((app 17592186044416 s0.1 ([s0.2] : List Int)).bind fun x1 => some (.inl (x1, wr (s0.2 + 1)))) else (some (.inl (s0.1, wr (s0.2 + 1))))) else (some (.inr s0.1))
noncomputable def Ez (x0 : (List Int)) (s0 : (List Int) × (List Int) × Int) : Option (((List Int) × (List Int) × Int) ⊕ (((List Int) × (List Int)))) :=
 if decide (s0.2.2 < (x0.length : Int)) = true then ((idx x0 s0.2.2).bind fun x1 => (idx x0 s0.2.2).bind fun x2 => (idx s0.1 x2).bind fun x3 => (idx s0.1 x1).bind fun x4 => (idx x0 s0.2.2).bind fun x5 => (idx (s0.1.set x1.toNat (wr (x3 - 1))) x5).bind fun x6 => if (x6 == 0) = true then ((idx x0 s0.2.2).bind fun x7 => (app 17592186044416 s0.2.1 ([x7] : List Int)).bind fun x8 => some (.inl ((s0.1.set x1.toNat (wr (x3 - 1))), x8, wr (s0.2.2 + 1)))) else (some (.inl ((s0.1.set x1.toNat (wr (x3 - 1))), s0.2.1, wr (s0.2.2 + 1))))) else (some (.inr (s0.1, s0.2.1)))
noncomputable def DI (x29 : (List A9) × Int × Int × Int) (x76 : BX) (s0 : (List Int) × (List Int) × Int) : Option (((List Int) × (List Int) × Int) ⊕ (((List Int)))) :=
 if decide (s0.2.2 < (s0.2.1.length : Int)) = true then ((idx s0.2.1 s0.2.2).bind fun x0 => (Ih x29.1 x0 (x76.Code.length : Int)).bind fun x1 => (AY (Ez x1) (s0.1, s0.2.1, 0)).bind fun o0 => (some (.inl (o0.1, o0.2, wr (s0.2.2 + 1))))) else (some (.inr s0.2.1))
noncomputable def FG (a0 : AL) (a1 : Int) : Option (Bool × Int × Int) :=
 (Dg (⟨a0.Name, a0.Classes, a0.Funcs, a0.Ca⟩ : AL) a1).bind fun x29 => if (x29.2.2.2 != 0) = true then (some (false, x29.2.2.1, x29.2.2.2)) else ((idx a0.Funcs a1).bind fun x76 => (S0 8 (x29.1.length : Int) (0 : Int)).bind fun x0 => (AY (E3 x29 x76) (x0, 0)).bind fun o0 => ((AY (Ft x29 o0) ([], 0)).bind fun o1 => ((AY (DI x29 x76) (o0, o1, 0)).bind fun o2 => (some (decide ((o2.length : Int) < (x29.1.length : Int)), 0, 0)))))
noncomputable def EC (a0 : AL) (a1 : Int) : Option Bool :=
 (Hv (⟨a0.Name, a0.Classes, a0.Funcs, a0.Ca⟩ : AL)).bind fun x42 => (NE (⟨x42.Name, x42.Classes, x42.Funcs, x42.Ca⟩ : AL) a1).bind fun x83 => (FI (⟨a0.Name, a0.Classes, a0.Funcs, a0.Ca⟩ : AL) a1).bind fun x0 => (GY x83.1 x0.1).bind fun x1 => if (!x1) = true then (some false) else (if (x83.2.1 != x0.2.1) = true then (some false) else (if (x83.2.2 != x0.2.2) = true then (some false) else ((Ni (⟨x42.Name, x42.Classes, x42.Funcs, x42.Ca⟩ : AL) a1).bind fun x2 => (Jf (⟨a0.Name, a0.Classes, a0.Funcs, a0.Ca⟩ : AL) a1).bind fun x3 => if (x2.1 != x3.1) = true then (some false) else (if (x2.2.1 != x3.2.1) = true then (some false) else (if (x2.2.2 != x3.2.2) = true then (some false) else ((N9 (⟨x42.Name, x42.Classes, x42.Funcs, x42.Ca⟩ : AL) a1).bind fun x4 => (FG (⟨a0.Name, a0.Classes, a0.Funcs, a0.Ca⟩ : AL) a1).bind fun x5 => if (x4.1 == x5.1) = true then (if (x4.2.1 == x5.2.1) = true then (if (x4.2.2 == x5.2.2) = true then ((FU (⟨x42.Name, x42.Classes, x42.Funcs, x42.Ca⟩ : AL) (⟨a0.Name, a0.Classes, a0.Funcs, a0.Ca⟩ : AL)).bind fun x6 => some x6) else (some false)) else (some false)) else (some false)))))))
end Go.Proofs.YtfcpkcehecmcpaaGreat
namespace Go.Proofs.YtfcpkcehecmcpaaGreat
open Go Go.RowKit Go.Pv
def Xf (f : BX) : Prop := f.Sig.Bv.length ≤ Et ∧ f.Code.length ≤ Et
theorem ZZ (l : List UInt8) (h : l.length ≤ Et) : ES l = some l := by
 unfold ES
 rw [CZ (by simp only [Et] at h; simp; omega)]; simp
theorem Aca (l : List UInt8) (h : l.length ≤ Et) : Dm l = some l := by
 unfold Dm
 rw [CZ (by simp only [Et] at h; simp; omega)]; simp
theorem Auc (s : Bl) (h : s.Bv.length ≤ Et) : IM s = some s := by
 unfold IM
 rw [Aca _ h]; rfl
theorem Ao0 (f : BX) (h : Xf f) : Iz f = some f := by
 unfold Iz
 rw [show (⟨f.Sig.Bv, f.Sig.Result⟩ : Bl) = f.Sig from rfl, Auc _ h.1, AM9, ZZ _ h.2, AM9]
theorem eqB (l : List UInt8) (h : l.length ≤ Et) : EV l l = some true := by
 simp only [Et] at h
 unfold EV
 rw [A1 (by simp), Jp l (r := .inr ()) (fun i hi => by
  unfold Ei
  rw [A3 (by simpa using hi), BN hi, AM9, AM9, A1 (by simp), CS (by omega)]) (by unfold Ei; simp)]
 rfl
theorem eqT (l : List UInt8) (h : l.length ≤ Et) : Ed l l = some true := by
 simp only [Et] at h
 unfold Ed
 rw [A1 (by simp), Jp l (r := .inr ()) (fun i hi => by
  unfold CX
  rw [A3 (by simpa using hi), BN hi, AM9, AM9, A1 (by simp), CS (by omega)]) (by unfold CX; simp)]
 rfl
theorem A7h (s : Bl) (h : s.Bv.length ≤ Et) : Hf s s = some true := by
 unfold Hf
 rw [A3 (by simp), eqT _ h]; rfl
theorem Ajw (f : BX) (h : Xf f) : GE f f = some true := by
 unfold GE
 rw [A3 (by simp), show (⟨f.Sig.Bv, f.Sig.Result⟩ : Bl) = f.Sig from rfl, A7h _ h.1, AM9, A3 (by simp), A3 (by simp), eqB _ h.2]; rfl
theorem VN (op : UInt8) : K8 op = EY op := by
 unfold K8 EY
 simp only [OU, or_some, AM9]
 generalize (op.toNat : Int) = n
 cases h2 : (n == 2) <;> cases h4 : (n == 4) <;> cases h5 : (n == 5) <;> simp only [Bool.false_or, Bool.true_or, Bool.or_true, Bool.false_eq_true, if_false, if_true]
theorem size_eq (op : UInt8) : HS op = DR op := by
 unfold HS DR
 rw [VN]
def IY (op : UInt8) : Nat × Nat :=
 if op.toNat = 1 then (4, 0) else if op.toNat = 19 ∨ op.toNat = 20 then (2, 0) else if op.toNat = 24 ∨ op.toNat = 25 then (1, 1) else
 if op.toNat = 2 ∨ op.toNat = 4 ∨ op.toNat = 5 ∨ op.toNat = 21 ∨ op.toNat = 23 ∨ op.toNat = 30 ∨ op.toNat = 31 ∨ op.toNat = 32 then (1, 0) else (0, 0)
theorem Cg (a b : Nat) : ((a : Int) == (b : Int)) = decide (a = b) := by
 rw [ANs, AE, decide_eq_true_iff, Int.natCast_inj]
theorem Um (op : UInt8) : EY op = some (((IY op).1 : Int), ((IY op).2 : Int)) := by
 unfold EY IY
 simp only [OU, or_some, AM9]
 generalize op.toNat = n
 have e1 : ((n : Int) == 1) = decide (n = 1) := Cg n 1
 have e2 : ((n : Int) == 2) = decide (n = 2) := Cg n 2
 have e4 : ((n : Int) == 4) = decide (n = 4) := Cg n 4
 have e5 : ((n : Int) == 5) = decide (n = 5) := Cg n 5
 have e19 : ((n : Int) == 19) = decide (n = 19) := Cg n 19
 have e20 : ((n : Int) == 20) = decide (n = 20) := Cg n 20
 have e21 : ((n : Int) == 21) = decide (n = 21) := Cg n 21
 have e23 : ((n : Int) == 23) = decide (n = 23) := Cg n 23
 have e24 : ((n : Int) == 24) = decide (n = 24) := Cg n 24
 have e25 : ((n : Int) == 25) = decide (n = 25) := Cg n 25
 have e30 : ((n : Int) == 30) = decide (n = 30) := Cg n 30
 have e31 : ((n : Int) == 31) = decide (n = 31) := Cg n 31
 have e32 : ((n : Int) == 32) = decide (n = 32) := Cg n 32
 rw [e1, e2, e4, e5, e19, e20, e21, e23, e24, e25, e30, e31, e32]
 simp only [← Bool.decide_or, A2]
 split
 ·rfl
 ·split
  ·rfl
  ·split
   ·rfl
   ·split <;> rfl
theorem RE (op : UInt8) : (IY op).1 ≤ 4 ∧ (IY op).2 ≤ 1 := by
 unfold IY
 repeat' split
 all_goals simp
def CV (op : UInt8) : Nat := if 34 ≤ op.toNat then 0 else 1 + (IY op).1 + (IY op).2
theorem Ik (op : UInt8) : DR op = some (CV op : Int) := by
 have := RE op
 unfold DR CV
 rw [Um]
 by_cases h : 34 ≤ op.toNat
 ·rw [A3 (by simp; omega), A3 h]; rfl
 ·rw [A1 (by simp; omega), A1 h, AM9]
  dsimp only
  rw [Cx (n := 1 + ((IY op).1 : Int)) (by omega) (by omega), Cx (by omega) (by omega)]
  congr 1
def num (l : List UInt8) : Nat := l.foldl (fun n b => 256 * n + b.toNat) 0
theorem Vf : ∀ (l : List UInt8), num l < 256 ^ l.length := by
 have key : ∀ (l : List UInt8) (n k : Nat), n < 256 ^ k → l.foldl (fun n b => 256 * n + b.toNat) n < 256 ^ (k + l.length) := by
  intro l
  induction l with
  | nil => intro n k h; simpa using h
  | cons b l ih =>
   intro n k h
   have hb := b.toNat_lt
   have := ih (256 * n + b.toNat) (k + 1) (by rw [Nat.pow_succ]; omega)
   rw [List.foldl_cons, List.length_cons, show k + (l.length + 1) = k + 1 + l.length by omega]
   exact this
 intro l
 have := key l 0 0 (by simp)
 simpa [num] using this
theorem Xp (l : List UInt8) (b : UInt8) : num (l ++ [b]) = 256 * num l + b.toNat := by simp [num]
theorem Aw3 {n : Nat} (b : UInt8) (h : n < 16777216) : bOr .i64 (XB .i64 (n : Int) 8) (b.toNat : Int) = ((256 * n + b.toNat : Nat) : Int) := by
 have hb := b.toNat_lt
 have e0 : XB .i64 (n : Int) 8 = ((256 * n : Nat) : Int) := by
  unfold XB
  rw [show min ((8 : Int)).toNat IntKind.i64.bits = 8 from rfl, IntKind.wrap_i64]
  omega
 rw [e0]
 unfold bOr
 have e1 : IntKind.i64.bits = 64 := rfl
 rw [e1]
 have ea : BitVec.ofInt 64 ((256 * n : Nat) : Int) = BitVec.ofNat 64 (256 * n) := by apply BitVec.eq_of_toNat_eq; simp <;> omega
 have eb : BitVec.ofInt 64 ((b.toNat : Nat) : Int) = BitVec.ofNat 64 b.toNat := by apply BitVec.eq_of_toNat_eq; simp <;> omega
 have e2 : 256 * n ||| b.toNat = 256 * n + b.toNat := by
  have h3 := Nat.two_pow_add_eq_or_of_lt (i := 8) (b := b.toNat) (by omega) n
  rw [show (2 : Nat) ^ 8 = 256 from rfl] at h3
  exact h3.symm
 rw [ea, eb, BitVec.toNat_or, BitVec.toNat_ofNat, BitVec.toNat_ofNat, Nat.mod_eq_of_lt (by omega), Nat.mod_eq_of_lt (by omega), e2, IntKind.wrap_i64]
 omega
def UI (w : Nat) (n : Nat) : Int := if w = 4 ∧ 2147483647 < n then (n : Int) - 4294967296 else n
theorem Wp (l : List UInt8) (w : Nat) (hw : w ≤ l.length) (h4 : w ≤ 4) (hl : l.length ≤ Et) : Ii (w : Int) l = some (UI w (num (l.take w)), l.drop w) := by
 simp only [Et] at hl
 unfold Ii
 rw [Nf (by omega), AM9]
 simp only [ANp, Int.toNat_zero, List.drop_zero]
 have hlen : (l.take w).length = w := by simp; omega
 generalize hM : l.take w = M at *
 rw [GM w (body := FD M) (fun i => ((num (M.take i) : Int), (i : Int))) (r := (num M : Int)) (fun i hi => by
  unfold FD
  dsimp only
  have hi' : i < M.length := by omega
  have hn := Vf (M.take i)
  have hp : (M.take i).length ≤ 3 := by simp; omega
  have hp2 : 256 ^ (M.take i).length ≤ 256 ^ 3 := Nat.pow_le_pow_right (by decide) hp
  rw [A3 (by simpa using hi'), BN hi', AM9, Aw3 _ (by omega), CS (by omega), List.take_add_one, ANc hi', Option.toList_some, Xp]) (by
  unfold FD
  dsimp only
  rw [A1 (by simp; omega), ← hlen, ANo]) (s0 := (0, 0)) (by simp [num]), AM9, Nf (by omega), AM9]
 have e : ((l.take (l.length : Int).toNat).drop (w : Int).toNat) = l.drop w := by simp
 rw [e]
 unfold UI
 have hn := Vf M
 by_cases hw4 : w = 4
 ·subst hw4
  rw [A3 (by simp)]
  rw [hlen] at hn
  congr 2
  have e32 : IntKind.i32.wrap (num M : Int) = if 2147483647 < num M then (num M : Int) - 4294967296 else num M := by
   rw [IntKind.wrap_i32]
   split <;> omega
  rw [e32]
  split
  ·rw [A3 (by omega), Cx] <;> omega
  ·rw [A1 (by omega), Cx] <;> omega
 ·rw [A1 (by simp; omega), A1 (by omega)]
theorem XQ (l : List UInt8) (w : Nat) (hw : w ≤ l.length) (h4 : w ≤ 4) (hl : l.length ≤ Et) : Hh l (w : Int) = some (UI w (num (l.take w))) := by
 simp only [Et] at hl
 unfold Hh
 have hlen : (l.take w).length = w := by simp; omega
 rw [GM w (body := EK l (w : Int)) (fun i => ((num (l.take i) : Int), (i : Int))) (r := (num (l.take w) : Int)) (fun i hi => by
  unfold EK
  dsimp only
  have hi' : i < l.length := by omega
  have hn := Vf (l.take i)
  have hp : (l.take i).length ≤ 3 := by simp; omega
  have hp2 : 256 ^ (l.take i).length ≤ 256 ^ 3 := Nat.pow_le_pow_right (by decide) hp
  have hb := l[i].toNat_lt
  rw [A3 (by simpa using hi), BN hi', AM9, CS (by omega), List.take_add_one, ANc hi', Option.toList_some, Xp, Cx (n := 256 * (num (l.take i) : Int)) (by omega) (by omega), Cx (by omega) (by omega)]
  congr 4) (by
  unfold EK
  dsimp only
  rw [A1 (by simp)]) (s0 := (0, 0)) (by simp [num]), AM9]
 unfold UI
 have hn := Vf (l.take w)
 rw [hlen] at hn
 by_cases hw4 : w = 4
 ·subst hw4
  rw [A3 (by simp)]
  by_cases h : 2147483647 < num (l.take 4)
  ·rw [A3 (by simp; omega), A3 ⟨rfl, h⟩, Cx] <;> omega
  ·rw [A1 (by simp; omega), A1 (by omega)]
 ·rw [A1 (by simp; omega), A1 (by omega)]
def dec (b : List UInt8) (at_ : Nat) (op : UInt8) : A9 × Int :=
 if CV op = 0 then (⟨0, 0, 0, 0⟩, 40) else if b.length < at_ + CV op then (⟨0, 0, 0, 0⟩, 2) else
  let A := UI (IY op).1 (num ((b.drop (at_ + 1)).take (IY op).1))
  let B := UI (IY op).2 (num ((b.drop (at_ + 1 + (IY op).1)).take (IY op).2))
  if op.toNat = 2 ∧ 1 < A then (⟨0, 0, 0, 0⟩, 5) else (⟨at_, op, A, B⟩, 0)
theorem A2i (b : List UInt8) (hl : b.length ≤ Et) (i : Nat) (hi : i < b.length) : En b (i : Int) = some (dec b i b[i]) := by
 simp only [Et] at hl
 have hw := RE b[i]
 unfold En dec
 rw [A1 (by simp), A1 (by simp; omega), A1 (by simp; omega), BN hi, AM9, Ik, AM9]
 generalize b[i] = op at hw
 by_cases h0 : CV op = 0
 ·rw [A3 (by simp [h0]), A3 h0]
 ·have hs : CV op = 1 + (IY op).1 + (IY op).2 := by
   unfold CV at h0 ⊢
   split
   ·rename_i h; rw [A3 h] at h0; exact absurd rfl h0
   ·rfl
  rw [A1 (by simp; omega), A1 h0, Cx (by omega) (by omega)]
  by_cases h1 : b.length < i + CV op
  ·rw [A3 (by simp; omega), A3 h1]
  ·rw [A1 (by simp; omega), A1 h1, Um, AM9]
   dsimp only
   rw [CS (by omega), Nf (by omega), AM9]
   have e1 : ((b.take (b.length : Int).toNat).drop ((i + 1 : Nat) : Int).toNat) = b.drop (i + 1) := by simp
   rw [e1, XQ _ _ (by simp; omega) (by omega) (by simp only [Et, List.length_drop]; omega), AM9, Cx (n := ((i + 1 : Nat) : Int) + ((IY op).1 : Int)) (by omega) (by omega), show ((i + 1 : Nat) : Int) + ((IY op).1 : Int) = ((i + 1 + (IY op).1 : Nat) : Int) by omega, Nf (by omega), AM9]
   have e2 : ((b.take (b.length : Int).toNat).drop ((i + 1 + (IY op).1 : Nat) : Int).toNat) = b.drop (i + 1 + (IY op).1) := by rw [ANp, ANp, ANo]
   rw [e2, XQ _ _ (by simp; omega) (by omega) (by simp only [Et, List.length_drop]; omega), AM9]
   by_cases h2 : op.toNat = 2
   ·rw [A3 (by simp [h2])]
    by_cases h3 : 1 < UI (IY op).1 (num ((b.drop (i + 1)).take (IY op).1))
    ·rw [A3 (by simp; omega), A3 ⟨h2, h3⟩]
    ·rw [A1 (by simp; omega), A1 (by omega)]
   ·rw [A1 (by simp; omega), A1 (by omega)]
theorem Anr (b : List UInt8) (hl : b.length ≤ Et) (i : Nat) (hi : i < b.length) : I7 b (i : Int) = some (dec b i b[i]) := by
 simp only [Et] at hl
 have hw := RE b[i]
 unfold I7 dec
 rw [A1 (by simp), A1 (by simp; omega), A1 (by simp; omega), BN hi, AM9, size_eq, Ik, AM9]
 generalize b[i] = op at hw
 by_cases h0 : CV op = 0
 ·rw [A3 (by simp [h0]), A3 h0]
 ·have hs : CV op = 1 + (IY op).1 + (IY op).2 := by
   unfold CV at h0 ⊢
   split
   ·rename_i h; rw [A3 h] at h0; exact absurd rfl h0
   ·rfl
  rw [A1 (by simp; omega), A1 h0, AM9, size_eq, Ik, AM9, Cx (by omega) (by omega)]
  by_cases h1 : b.length < i + CV op
  ·rw [A3 (by simp; omega), A3 h1]
  ·rw [A1 (by simp; omega), A1 h1, AM9, CS (by omega), Nf (by omega), AM9]
   have e1 : ((b.take (b.length : Int).toNat).drop ((i + 1 : Nat) : Int).toNat) = b.drop (i + 1) := by simp
   rw [e1, VN, Um, AM9]
   dsimp only
   rw [Wp _ _ (by simp; omega) (by omega) (by simp only [Et, List.length_drop]; omega), AM9]
   dsimp only
   rw [List.drop_drop, show i + 1 + (IY op).1 = i + 1 + (IY op).1 from rfl, Wp _ _ (by simp; omega) (by omega) (by simp only [Et, List.length_drop]; omega), AM9]
   dsimp only
   by_cases h2 : op.toNat = 2
   ·rw [A3 (by simp [h2])]
    by_cases h3 : 1 < UI (IY op).1 (num ((b.drop (i + 1)).take (IY op).1))
    ·rw [A3 (by simp; omega), A3 ⟨h2, h3⟩]
    ·rw [A1 (by simp; omega), A1 (by omega)]
   ·rw [A1 (by simp; omega), A1 (by omega)]
end Go.Proofs.YtfcpkcehecmcpaaGreat
namespace Go.Proofs.YtfcpkcehecmcpaaGreat
open Go Go.RowKit Go.Pv
theorem Hm {R : Type} (n : Nat) {body : Int → Option (Int ⊕ R)} (P : Nat → Option R) {r0 : R} (hs : ∀ i, i < n → body (i : Int) = match P i with | some r => some (.inr r) | none => some (.inl ((i + 1 : Nat) : Int))) (he : body (n : Int) = some (.inr r0)) :
  AY body 0 = some (((List.range n).findSome? P).getD r0) := by
 have key : ∀ k i, i + k = n → AY body (i : Int) = some (((List.range' i k).findSome? P).getD r0) := by
  intro k
  induction k with
  | zero => intro i hi; have : i = n := by omega
            subst this; rw [BP he]; rfl
  | succ k ih =>
   intro i hi
   have h1 := hs i (by omega)
   rw [List.range'_succ, List.findSome?_cons]
   rcases hp : P i with _ | r
   ·rw [hp] at h1; rw [Dh h1]; exact ih (i + 1) (by omega)
   ·rw [hp] at h1; rw [BP h1]; rfl
 have := key n 0 (by omega)
 rw [List.range_eq_range']
 exact this
theorem SQ {n : Nat} (h : n < 256) : (Fo (n : Int)).toNat = n := by have := Oz n; omega
theorem Ox (t : UInt8) (h : 16 ≤ t.toNat) : (Fo ((t.toNat : Int) - 16)).toNat = t.toNat - 16 := by
 have := Oz ((t.toNat : Int) - 16); have := t.toNat_lt; omega
def VP (l : List A6) (t : UInt8) : Int := if 16 ≤ t.toNat ∧ t.toNat - 16 < l.length then ((t.toNat - 16 : Nat) : Int) else -1
def tv (l : List A6) (t : UInt8) : Bool := decide (t.toNat ≤ 5) || (decide (16 ≤ t.toNat) && decide (t.toNat - 16 < l.length))
def st (l : List A6) (t : UInt8) : Bool := tv l t && (t.toNat != 0 && t.toNat != 3)
theorem MI (l : List A6) (t : UInt8) : GT l t = some (VP l t) := by
 unfold GT VP
 by_cases h : 16 ≤ t.toNat
 ·rw [A1 (by simp; omega), Ox t h]
  by_cases h2 : t.toNat - 16 < l.length
  ·rw [A1 (by simp; omega), A3 ⟨h, h2⟩]
  ·rw [A3 (by simp; omega), A1 (by omega)]
 ·rw [A3 (by simp; omega), A1 (by omega)]
theorem UC (l : List A6) (t : UInt8) : decide (VP l t ≥ 0) = (decide (16 ≤ t.toNat) && decide (t.toNat - 16 < l.length)) := by
 unfold VP
 by_cases h : 16 ≤ t.toNat ∧ t.toNat - 16 < l.length
 ·rw [A3 h]; simp [h.1, h.2]
 ·rw [A1 h]
  simp only [ge_iff_le, show ¬ ((0 : Int) ≤ -1) by omega, decide_false]
  rcases Nat.lt_or_ge t.toNat 16 with h1 | h1
  ·simp; omega
  ·have : ¬ (t.toNat - 16 < l.length) := fun h2 => h ⟨h1, h2⟩
   simp [this]
theorem Kl (l : List A6) (t : UInt8) : FO l t = some (tv l t) := by
 unfold FO tv
 rw [MI, AM9, UC]
 by_cases h : t.toNat ≤ 5
 ·rw [A3 (by simp; omega)]; simp [h]
 ·rw [A1 (by simp; omega)]; simp [h]
theorem La (l : List A6) (t : UInt8) : Di l t = some (tv l t) := by
 unfold Di tv
 by_cases h : t.toNat ≤ 5
 ·rw [A3 (by simp; omega)]; simp [h]
 ·rw [A1 (by simp; omega)]
  by_cases h2 : 16 ≤ t.toNat
  ·rw [A3 (by simp; omega), Ox t h2]
   simp only [h, h2, decide_false, decide_true, Bool.false_or, Bool.true_and, Option.some.injEq, Int.ofNat_lt]
  ·rw [A1 (by simp; omega)]; simp [h, h2]
theorem Atg (t : UInt8) (k : Nat) : ((t.toNat : Int) != (k : Int)) = (t.toNat != k) := by
 rw [ANs, AW, AW]; omega
theorem Qn (l : List A6) (t : UInt8) : (if tv l t = true then (if ((t.toNat : Int) != 0) = true then some ((t.toNat : Int) != 3) else some false) else some false) = some (st l t) := by
 unfold st
 rw [show ((t.toNat : Int) != 0) = (t.toNat != 0) from Atg t 0, show ((t.toNat : Int) != 3) = (t.toNat != 3) from Atg t 3]
 cases tv l t <;> cases (t.toNat != 0) <;> rfl
theorem Yv (l : List A6) (t : UInt8) : Lj l t = some (st l t) := by
 unfold Lj
 rw [Kl, AM9, Qn]
theorem PH (l : List A6) (t : UInt8) : Fi l t = some (st l t) := by
 unfold Fi
 rw [La, AM9, Qn]
theorem TD (l : List A6) (t : UInt8) : H8 l t = some (st l t) := by
 unfold H8
 rw [La, AM9, Qn]
theorem NF (l : List A6) (t : UInt8) : Gl l t = some (st l t) := by
 unfold Gl
 rw [La, AM9, Qn]
theorem Ri (e : AA) (t : UInt8) : FT t e = some (st e.Classes t) := by
 unfold FT
 rw [Kl, AM9, Qn]
theorem YL (e : AA) (t : UInt8) : Jn t e = some (!st e.Classes t) := by
 unfold Jn
 rw [Yv, AM9]
theorem Yq (l : List A6) (t : UInt8) : Lk l t = some (st l t) := by
 unfold Lk
 rw [MI, AM9, UC]
 have e1 : ((t.toNat : Int) == 1) = decide (t.toNat = 1) := Cg _ 1
 have e2 : ((t.toNat : Int) == 2) = decide (t.toNat = 2) := Cg _ 2
 have e4 : ((t.toNat : Int) == 4) = decide (t.toNat = 4) := Cg _ 4
 have e5 : ((t.toNat : Int) == 5) = decide (t.toNat = 5) := Cg _ 5
 rw [e1, e2, e4, e5]
 unfold st tv
 simp only [A2]
 have hb : ∀ k, (t.toNat != k) = !decide (t.toNat = k) := fun k => by rw [ANs]; simp
 rw [hb, hb]
 split
 ·rename_i h; simp [h]
 ·split
  ·rename_i h; simp [h]
  ·split
   ·rename_i h; simp [h]
   ·split
    ·rename_i h; simp [h]
    ·rename_i h1 h2 h3 h4
     congr 1
     by_cases h0 : t.toNat = 0
     ·simp [h0]
     ·by_cases h5 : t.toNat = 3
      ·simp [h5]
      ·have : ¬ (t.toNat ≤ 5) := by omega
       simp [h0, h5, this]
def rf (t : UInt8) : Bool := decide (t.toNat = 3) || (decide (t.toNat = 4) || (decide (t.toNat = 5) || decide (16 ≤ t.toNat)))
theorem Ass (t : UInt8) : (if ((t.toNat : Int) == 3) = true then some true else if ((t.toNat : Int) == 4) = true then some true else if ((t.toNat : Int) == 5) = true then some true else some (decide ((t.toNat : Int) ≥ 16))) = some (rf t) := by
 have e3 : ((t.toNat : Int) == 3) = decide (t.toNat = 3) := Cg _ 3
 have e4 : ((t.toNat : Int) == 4) = decide (t.toNat = 4) := Cg _ 4
 have e5 : ((t.toNat : Int) == 5) = decide (t.toNat = 5) := Cg _ 5
 rw [e3, e4, e5, OU, OU, OU]
 unfold rf
 congr 4
 rw [ANs]; simp; omega
theorem NV (t : UInt8) : Gp t = some (rf t) := by unfold Gp; exact Ass t
theorem Ru (t : UInt8) : E8 t = some (rf t) := by unfold E8; exact Ass t
def letter (x : UInt8) : Bool := (decide (97 ≤ x.toNat) && decide (x.toNat ≤ 122)) || (decide (65 ≤ x.toNat) && decide (x.toNat ≤ 90))
def inner (x : UInt8) : Bool := (decide (48 ≤ x.toNat) && decide (x.toNat ≤ 57)) || decide (x.toNat = 95)
def Ta (l : List UInt8) (i : Nat) : Option Bool := match l[i]? with
 | some x => if letter x = true then none else if (decide (0 < i) && inner x) = true then none else some false
 | none => none
def ND (l : List UInt8) : Bool := decide (1 ≤ l.length) && decide (l.length ≤ 24) && ((List.range l.length).findSome? (Ta l)).isNone
theorem VY (x : UInt8) : (if decide ((x.toNat : Int) ≥ 97) = true then (if decide ((x.toNat : Int) ≤ 122) = true then (some true) else (if decide ((x.toNat : Int) ≥ 65) = true then (some (decide ((x.toNat : Int) ≤ 90))) else (some false))) else (if decide ((x.toNat : Int) ≥ 65) = true then (some (decide ((x.toNat : Int) ≤ 90))) else (some false))) = some (letter x) := by
 unfold letter
 by_cases h1 : 97 ≤ x.toNat
 ·rw [A3 (by simp; omega)]
  by_cases h2 : x.toNat ≤ 122
  ·rw [A3 (by simp; omega)]; simp [h1, h2]
  ·rw [A1 (by simp; omega), A3 (by simp; omega)]
   have : ¬ (x.toNat ≤ 90) := by omega
   simp [h1, h2, this]; omega
 ·rw [A1 (by simp; omega)]
  by_cases h2 : 65 ≤ x.toNat
  ·rw [A3 (by simp; omega)]; simp [h1, h2]; omega
  ·rw [A1 (by simp; omega)]; simp [h1, h2]
theorem Yk {l : List UInt8} (i : Nat) (b : Bool) (h : Ta l i = some b) : b = false := by
 unfold Ta at h
 split at h
 ·split at h
  ·cases h
  ·split at h
   ·cases h
   ·cases h; rfl
 ·cases h
theorem JA {R S : Type} (n : Nat) (P : Nat → Option R) (f : R → S) : (List.range n).findSome? (fun i => (P i).map f) = ((List.range n).findSome? P).map f := by
 induction (List.range n) with
 | nil => rfl
 | cons x l ih => simp only [List.findSome?_cons]; rcases P x with _ | r <;> simp [ih]
theorem Aa1 (x : UInt8) : inner x = true ↔ (48 ≤ (x.toNat : Int) ∧ (x.toNat : Int) ≤ 57) ∨ (x.toNat : Int) = 95 := by
 unfold inner
 simp only [ANt, ANr, A2]
 omega
theorem QT (l : List UInt8) : J2 l = some (ND l) := by
 unfold J2 ND
 by_cases h0 : l.length = 0
 ·rw [A3 (by simp [h0])]; simp [h0]
 ·have h0' : ¬ (((l.length : Int) == 0) = true) := by rw [AE]; omega
  rw [A1 h0']
  by_cases h1 : l.length ≤ 24
  ·rw [A1 (by rw [A2]; omega)]
   have hl := Hm (R := Bool ⊕ Unit) l.length (body := FP l) (fun i => (Ta l i).map .inl) (r0 := .inr ()) (fun i hi => by
    unfold FP
    rw [A3 (by rw [A2]; omega), BN hi, AM9, VY, AM9, CS (by omega)]
    have hx : l[i]? = some l[i] := ANc hi
    unfold Ta
    rw [hx]
    dsimp only
    generalize l[i] = x
    have hin := Aa1 x
    rcases hl : letter x with _ | _
    ·simp only [Bool.false_eq_true, if_false]
     by_cases hc : (decide (0 < i) && inner x) = true
     ·rw [A3 hc]
      rw [ANr, A2] at hc
      have h1 := hin.1 hc.2
      simp only [A2, AE, Option.map_none]
      repeat' split
      all_goals first | rfl | (exfalso; omega)
     ·rw [A1 hc]
      rw [ANr, A2] at hc
      have h1 : ¬ (0 < i ∧ ((48 ≤ (x.toNat : Int) ∧ (x.toNat : Int) ≤ 57) ∨ (x.toNat : Int) = 95)) := fun h => hc ⟨h.1, hin.2 h.2⟩
      simp only [A2, AE, ANa]
      repeat' split
      all_goals first | rfl | (exfalso; omega)
    ·rfl) (by
    unfold FP
    rw [A1 (by rw [A2]; omega)])
   rw [hl, AM9, JA]
   have a1 : 1 ≤ l.length := by omega
   rcases hf : (List.range l.length).findSome? (Ta l) with _ | b
   ·simp [a1, h1]
   ·obtain ⟨i, _, hi⟩ := List.exists_of_findSome?_eq_some hf
    rw [Yk i b hi]; simp
  ·rw [A3 (by rw [A2]; omega)]; simp [h1]
theorem Vb (l : List UInt8) : Gj l = some (ND l) := by
 rw [← QT]
 unfold Gj J2
 by_cases h0 : l.length = 0
 ·rw [A3 (by rw [A2]; omega), A3 (by rw [AE]; omega)]
 ·rw [A1 (c := decide ((l.length : Int) < 1) = true) (by rw [A2]; omega), A1 (c := ((l.length : Int) == 0) = true) (by rw [AE]; omega)]
  have e : ET l = FP l := by
   funext s
   unfold ET FP
   by_cases hs : s < (l.length : Int)
   ·rw [A3 (by simpa using hs), A3 (by simpa using hs)]
    rcases hx : idx l s with _ | x
    ·rfl
    ·simp only [AM9, VY]
     have hs0 := (KZ hx).1
     rcases letter x with _ | _
     ·simp only [Bool.false_eq_true, if_false, Bool.not_false, if_true, A2, AE, AW]
      repeat' split
      all_goals first | rfl | (exfalso; omega)
     ·rfl
   ·rw [A1 (by simpa using hs), A1 (by simpa using hs)]
  rw [e]
end Go.Proofs.YtfcpkcehecmcpaaGreat
namespace Go.Proofs.YtfcpkcehecmcpaaGreat
open Go Go.RowKit Go.Pv
def KB {α : Type} (l : List α) (p : α → Bool) (i : Nat) : Option Int := match l[i]? with
 | some x => if p x = true then some (i : Int) else none
 | none => none
theorem M9 {α : Type} {l : List α} {p : α → Bool} {i : Nat} (h : i < l.length) : KB l p i = if p l[i] = true then some (i : Int) else none := by
 unfold KB
 rw [ANc h]
theorem OT {α : Type} (l : List α) (p : α → Bool) : (List.range l.length).findSome? (KB l p) = none ↔ l.any p = false := by
 rw [ANn, List.any_eq_false]
 constructor
 ·intro h x hx
  obtain ⟨i, hi, rfl⟩ := List.mem_iff_getElem.1 hx
  have := h i (List.mem_range.2 hi)
  rw [M9 hi] at this
  intro hp
  rw [A3 hp] at this
  cases this
 ·intro h i hi
  rw [M9 (List.mem_range.1 hi), A1 (h _ (ANj _))]
theorem Ow {α : Type} (l : List α) (p : α → Bool) {body : Int → Option (Int ⊕ (Int ⊕ Unit))} (hs : ∀ i (h : i < l.length), body (i : Int) = if p l[i] = true then some (.inr (.inl (i : Int))) else some (.inl ((i + 1 : Nat) : Int))) (he : body (l.length : Int) = some (.inr (.inr ()))) :
  ∃ r, ((AY body 0).bind fun o => match o with | .inl p => some p | .inr _ => some (-1)) = some r ∧ decide (r ≥ 0) = l.any p ∧ (0 ≤ r → ∃ i : Nat, r = i ∧ i < l.length ∧ ∀ h : i < l.length, p l[i] = true) := by
 have hl := Hm l.length (body := body) (fun i => (KB l p i).map .inl) (r0 := .inr ()) (fun i hi => by
  rw [hs i hi, M9 hi]
  split <;> rfl) he
 rw [hl, AM9, JA]
 have hn := OT l p
 rcases hf : (List.range l.length).findSome? (KB l p) with _ | r
 ·rw [hn.1 hf]; exact ⟨-1, rfl, rfl, fun h => by omega⟩
 ·refine ⟨r, rfl, ?_⟩
  obtain ⟨i, hi, hr⟩ := List.exists_of_findSome?_eq_some hf
  have hi' := List.mem_range.1 hi
  rw [M9 hi'] at hr
  split at hr
  ·rename_i hp
   cases hr
   have ha : l.any p = true := by rw [List.any_eq_true]; exact ⟨_, ANj hi', hp⟩
   rw [ha, A2]
   exact ⟨by omega, fun _ => ⟨i, rfl, hi', fun _ => hp⟩⟩
  ·cases hr
theorem Xa {α : Type} (l : List α) (p : α → Bool) {body : Int → Option (Int ⊕ (Bool ⊕ Unit))} (hs : ∀ i (h : i < l.length), body (i : Int) = if p l[i] = true then some (.inr (.inl true)) else some (.inl ((i + 1 : Nat) : Int))) (he : body (l.length : Int) = some (.inr (.inr ()))) :
  ((AY body 0).bind fun o => match o with | .inl p => some p | .inr _ => some false) = some (l.any p) := by
 have hl := Hm l.length (body := body) (fun i => (KB l p i).map fun _ => .inl true) (r0 := .inr ()) (fun i hi => by
  rw [hs i hi, M9 hi]
  split <;> rfl) he
 rw [hl, AM9, JA]
 have hn := OT l p
 rcases hf : (List.range l.length).findSome? (KB l p) with _ | r
 ·rw [hn.1 hf]; rfl
 ·rcases hb : l.any p with _ | _
  ·rw [hn.2 hb] at hf; cases hf
  ·rfl
theorem Xl (l : List (List UInt8)) (hl : l.length ≤ Et) (x : List UInt8) : C4 l x = some (l.any fun y => x == y) := by
 unfold C4
 have hb : l.length ≤ 1048576 := hl
 obtain ⟨r, h1, h2, _⟩ := Ow l (fun y => x == y) (body := Cl l x) (fun i hi => by
  unfold Cl
  rw [A3 (by rw [A2]; omega), BN hi, AM9, CS (by omega)]) (by
  unfold Cl
  rw [A1 (by rw [A2]; omega)])
 have h1' : EN l x = some r := h1
 rw [h1', AM9, h2]
def wordsL : List (List UInt8) := [[116, 111, 112], [105, 110, 116], [98, 111, 111, 108], [110, 117, 108, 108], [105, 110, 116, 115], [97, 110, 121]]
theorem Aao : NB = some wordsL := rfl
theorem Aku (k : Nat) (h : k < 6) : JH (UInt8.ofNat k) = some wordsL[k] := by
 match k, h with
 | 0, _ => rfl
 | 1, _ => rfl
 | 2, _ => rfl
 | 3, _ => rfl
 | 4, _ => rfl
 | 5, _ => rfl
theorem Z2 (x : List UInt8) : H7 x = some (wordsL.any fun y => x == y) := by
 unfold H7
 have step : ∀ k (h : k < 6), Dz x (UInt8.ofNat k) = if (wordsL[k] == x) = true then some (.inr (.inl true)) else some (.inl (UInt8.ofNat (k + 1))) := by
  intro k h
  unfold Dz
  have hk : (UInt8.ofNat k).toNat = k := by rw [UInt8.toNat_ofNat']; omega
  rw [A3 (by rw [hk, A2]; omega), Aku k h, AM9, hk]
  congr 3
  apply UInt8.toNat_inj.1
  have := Oz ((k : Int) + 1)
  rw [UInt8.toNat_ofNat']
  omega
 have key : ∀ n k, k + n = 6 → AY (Dz x) (UInt8.ofNat k) = some (if (wordsL.drop k).any (fun y => x == y) = true then (.inl true) else .inr ()) := by
  intro n
  induction n with
  | zero =>
   intro k hk
   have : k = 6 := by omega
   subst this
   rw [BP (r := .inr ())]
   ·rfl
   ·unfold Dz; rfl
  | succ n ih =>
   intro k hk
   have h6 : k < 6 := by omega
   have hd : wordsL.drop k = wordsL[k] :: wordsL.drop (k + 1) := List.drop_eq_getElem_cons (by exact h6)
   have hs := step k h6
   rw [hd, List.any_cons]
   have hc : (x == wordsL[k]) = (wordsL[k] == x) := by rw [ANs, AE, AE]; exact eq_comm
   rw [hc]
   by_cases he : (wordsL[k] == x) = true
   ·rw [A3 he] at hs
    rw [BP hs, he]; rfl
   ·rw [A1 he] at hs
    rw [Dh hs, ih (k + 1) (by omega)]
    have : (wordsL[k] == x) = false := by simpa using he
    rw [this, Bool.false_or]
 have := key 6 0 rfl
 rw [show (0 : UInt8) = UInt8.ofNat 0 from rfl, this, AM9]
 rw [List.drop_zero]
 cases (wordsL.any fun y => x == y) <;> rfl
end Go.Proofs.YtfcpkcehecmcpaaGreat
namespace Go.Proofs.YtfcpkcehecmcpaaGreat
open Go Go.RowKit Go.Pv
def EW (l : List A6) (n : Nat) : Prop := ∀ i (h : i < l.length), i < n → -1 ≤ l[i].B2 ∧ l[i].B2 < i
def VJ (l : List A6) : Nat → Int → List Nat
 | 0, _ => []
 | f + 1, c => if h : 0 ≤ c ∧ c < l.length then c.toNat :: VJ l f (l[c.toNat]'(by omega)).B2 else []
def DT (l : List A6) (c : Int) : List Nat := VJ l (c.toNat + 1) c
theorem Qm {l : List A6} {f : Nat} {c : Int} (h : c < 0) : VJ l f c = [] := by
 cases f with
 | zero => rfl
 | succ f => unfold VJ; rw [dif_neg (by omega)]
theorem ZT {l : List A6} {n : Nat} (R : EW l n) : ∀ (f f' : Nat) (c : Int), c < n → c < f → c < f' → VJ l f c = VJ l f' c
 | 0, f', c, _, h1, _ => by rw [Qm (by omega), Qm (by omega)]
 | f + 1, 0, c, _, _, h2 => by rw [Qm (by omega), Qm (by omega)]
 | f + 1, f' + 1, c, hn, h1, h2 => by
  unfold VJ
  by_cases h : 0 ≤ c ∧ c < l.length
  ·rw [dif_pos h, dif_pos h]
   congr 1
   have hr := R c.toNat (by omega) (by omega)
   exact ZT R f f' _ (by omega) (by omega) (by omega)
  ·rw [dif_neg h, dif_neg h]
theorem Is {l : List A6} {c : Int} (h : c < 0) : DT l c = [] := Qm h
theorem Kp {l : List A6} {n : Nat} (R : EW l n) (c : Nat) (h : c < l.length) (hn : c < n) : DT l (c : Int) = c :: DT l l[c].B2 := by
 have hr := R c h hn
 unfold DT
 rw [VJ, dif_pos ⟨by omega, by omega⟩]
 simp only [ANp]
 congr 1
 exact ZT R _ _ _ (by omega) (by omega) (by omega)
theorem MH {l : List A6} {n : Nat} (R : EW l n) : ∀ (k : Nat) (c : Int), c < k → c < n → c < l.length → ∀ x ∈ DT l c, (x : Int) ≤ c ∧ x < l.length
 | 0, c, hk, hn, hl, x, hx => by rw [Is (by omega)] at hx; cases hx
 | k + 1, c, hk, hn, hl, x, hx => by
  by_cases h0 : 0 ≤ c
  ·obtain ⟨c, rfl⟩ := ANq h0
   rw [Kp R c (by omega) (by omega)] at hx
   have hr := R c (by omega) (by omega)
   rcases List.mem_cons.1 hx with rfl | hx
   ·omega
   ·have := MH R k l[c].B2 (by omega) (by omega) (by omega) x hx
    omega
  ·rw [Is (by omega)] at hx; cases hx
theorem OP {l : List A6} {n : Nat} (R : EW l n) : ∀ (k : Nat) (c : Int), c < k → c < n → c < l.length → (DT l c).length ≤ (c + 1).toNat
 | 0, c, hk, hn, hl => by rw [Is (by omega)]; simp
 | k + 1, c, hk, hn, hl => by
  by_cases h0 : 0 ≤ c
  ·obtain ⟨c, rfl⟩ := ANq h0
   rw [Kp R c (by omega) (by omega)]
   have hr := R c (by omega) (by omega)
   have := OP R k l[c].B2 (by omega) (by omega) (by omega)
   rw [List.length_cons]
   omega
  ·rw [Is (by omega)]; simp
def PI {σ : Type} (g : σ → Nat → σ) (go : σ → Nat → Bool) : List Nat → σ → σ
 | [], s => s
 | c :: r, s => if go s c = true then PI g go r (g s c) else g s c
theorem NN {σ : Type} {l : List A6} {n : Nat} (R : EW l n) {body : σ × Int → Option ((σ × Int) ⊕ (σ ⊕ σ))} (g : σ → Nat → σ) (go : σ → Nat → Bool) (I : σ → Int → Prop)
  (hb : ∀ s (c : Nat) (h : c < l.length), c < n → I s c → body (s, (c : Int)) = if go s c = true then some (.inl (g s c, l[c].B2)) else some (.inr (.inr (g s c))))
  (hI : ∀ s (c : Nat) (h : c < l.length), c < n → I s c → I (g s c) l[c].B2)
  (he : ∀ s (c : Int), c < 0 → body (s, c) = some (.inr (.inr s))) :
  ∀ (k : Nat) (c : Int) s, c < k → c < n → c < l.length → I s c → AY body (s, c) = some (.inr (PI g go (DT l c) s))
 | 0, c, s, hk, hn, hl, hs => by rw [BP (he s c (by omega)), Is (by omega)]; rfl
 | k + 1, c, s, hk, hn, hl, hs => by
  by_cases h0 : 0 ≤ c
  ·obtain ⟨c, rfl⟩ := ANq h0
   have hr := R c (by omega) (by omega)
   have h1 := hb s c (by omega) (by omega) hs
   have h2 := hI s c (by omega) (by omega) hs
   rw [Kp R c (by omega) (by omega), PI]
   by_cases hg : go s c = true
   ·rw [A3 hg] at h1
    rw [Dh h1, A3 hg]
    exact NN R g go I hb hI he k _ _ (by omega) (by omega) (by omega) h2
   ·rw [A1 hg] at h1
    rw [BP h1, A1 hg]
  ·rw [BP (he s c (by omega)), Is (by omega)]; rfl
theorem AI3 {α β : Type} (f : α → β) (L : List α) : L.flatMap (fun c => [f c]) = L.map f := by induction L <;> simp_all
theorem S6 {α : Type} (f : Nat → List α) : ∀ (L : List Nat) (s : List α), PI (fun s c => s ++ f c) (fun _ _ => true) L s = s ++ L.flatMap f
 | [], s => by simp [PI]
 | c :: r, s => by rw [PI, A3 rfl, S6 f r, List.flatMap_cons, ANl]
def Hu (l : List A6) : Prop := l.length ≤ Et ∧ ∀ x ∈ l, x.Fields.length ≤ Et
def LV (l : List A6) (c : Nat) : List B6 := match l[c]? with
 | some x => x.Fields
 | none => []
theorem Qi {l : List A6} {c : Nat} (h : c < l.length) : LV l c = l[c].Fields := by unfold LV; rw [ANc h]
theorem TG {l : List A6} (h : Hu l) (c : Nat) : (LV l c).length ≤ 1048576 := by
 unfold LV
 split
 ·rename_i x hx; exact h.2 x (List.mem_of_getElem? hx)
 ·simp
theorem ZA (l : List A6) (h : Hu l) (c : Nat) (hc : c < l.length) (s : List (List UInt8)) (hs : s.length ≤ 1099511627776) :
  Je (c : Int) l s = some (true, s ++ (LV l c).map (·.Name)) := by
 unfold Je
 rw [BN hc, AM9]
 have hf : (l[c]).Fields.length ≤ 1048576 := h.2 _ (ANj hc)
 have := GM l[c].Fields.length (body := Fa l[c]) (fun i => (s ++ (l[c].Fields.take i).map (·.Name), (i : Int))) (r := s ++ l[c].Fields.map (·.Name)) (fun i hi => by
  unfold Fa
  dsimp only
  rw [A3 (by rw [A2]; omega), BN hi, AM9, CZ (by simp; omega), AM9, CS (by omega), Oj, ANl]) (by
  unfold Fa
  dsimp only
  rw [A1 (by rw [A2]; omega), ANo]) (s0 := (s, 0)) (by simp)
 rw [this, AM9, Qi hc]
theorem Ye (l : List A6) (h : Hu l) {n : Nat} (R : EW l n) (hn32 : n ≤ 64) (c : Int) (hn : c < n) (hl : c < l.length) :
  FW l c l [] = some ((DT l c).flatMap fun c => (LV l c).map (·.Name)) := by
 have key := NN R (body := Ds l l) (fun s c => s ++ (LV l c).map (·.Name)) (fun _ _ => true) (fun s c => (s.length : Int) + (c + 1) * 1048576 ≤ 1099511627776) (fun s c hc hcn hI => by
  unfold Ds
  dsimp only
  have hr := R c hc hcn
  rw [A3 (by rw [A2]; omega), A3 (by rw [A2]; omega), ZA l h c hc s (by omega), AM9]
  dsimp only
  rw [A3 rfl, BN hc, AM9, A1 (by rw [A2]; omega), A3 rfl]) (fun s c hc hcn hI => by
  have hr := R c hc hcn
  have := TG h c
  rw [ANd, ANe]
  omega) (fun s c hc => by
  unfold Ds
  dsimp only
  rw [A1 (by rw [A2]; omega)]) (c.toNat + 1) c [] (by omega) hn hl (by simp; omega)
 unfold FW
 rw [key, AM9, S6]
 rfl
theorem Zr (l : List A6) {n : Nat} (R : EW l n) (hnb : n ≤ 1048576) (c : Int) (hn : c < n) (hl : c < l.length) :
  EF l c [] = some ((DT l c).map fun (c : Nat) => (c : Int)) := by
 have key := NN R (body := C6 l) (fun s c => s ++ [(c : Int)]) (fun _ _ => true) (fun s c => (s.length : Int) + (c + 1) ≤ 1099511627776) (fun s c hc hcn hI => by
  unfold C6 Kz
  dsimp only
  have hr := R c hc hcn
  rw [A3 (by rw [A2]; omega), A3 (by rw [A2]; omega), CZ (by simp; omega), AM9, AM9]
  dsimp only
  rw [A3 rfl, BN hc, AM9, A1 (by rw [A2]; omega), A3 rfl]) (fun s c hc hcn hI => by
  have hr := R c hc hcn
  rw [ANd, ANf]
  omega) (fun s c hc => by
  unfold C6
  dsimp only
  rw [A1 (by rw [A2]; omega)]) (c.toNat + 1) c [] (by omega) hn hl (by simp; omega)
 unfold EF
 rw [key, AM9, S6 (fun c => [(c : Int)])]
 rw [ANk, AI3 (fun c : Nat => (c : Int))]
theorem Xn (l : List A6) {n : Nat} (R : EW l n) (hnb : n ≤ 1048576) (c : Int) (hn : c < n) (hl : c < l.length) :
  Hg l c = some ((DT l c).map fun (c : Nat) => (c : Int)) := by
 have key : ∀ (k : Nat) (c : Int) (out : List Int), c < k → c < n → c < l.length → (out.length : Int) + (c + 1) ≤ l.length ∧ (out.length : Int) + (c + 1) ≤ 1048577 → AY (DY l) (c, out) = some (out ++ (DT l c).map fun (c : Nat) => (c : Int)) := by
  intro k
  induction k with
  | zero =>
   intro c out hk hn hl ho
   rw [Is (by omega), BP (r := out)]
   ·simp
   ·unfold DY
    rw [A1 (by rw [A2]; dsimp only; omega)]
  | succ k ih =>
   intro c out hk hn hl ho
   by_cases h0 : 0 ≤ c
   ·obtain ⟨c, rfl⟩ := ANq h0
    have hr := R c (by omega) (by omega)
    rw [Kp R c (by omega) (by omega), Dh (s' := (l[c].B2, out ++ [(c : Int)]))]
    ·rw [ih _ _ (by omega) (by omega) (by omega) (by rw [ANd, ANf]; omega)]
     simp
    ·unfold DY
     dsimp only
     rw [A3 (by rw [A2]; omega), A3 (by rw [A2]; omega), A3 (by rw [A2]; omega), CZ (by simp; omega), AM9, BN (by omega), AM9]
   ·rw [Is (by omega), BP (r := out)]
    ·simp
    ·unfold DY
     rw [A1 (by rw [A2]; dsimp only; omega)]
 unfold Hg
 rw [key (c.toNat + 1) c [] (by omega) hn hl (by simp; omega), AM9, ANk]
def Cz (l : List A6) (c : Int) : List B6 := (DT l c).reverse.flatMap (LV l)
theorem Wg (l : List A6) (h : Hu l) (L : List Nat) (hL : ∀ x ∈ L, x < l.length) (hb : L.length ≤ 1048576) {body : List B6 × Int → Option ((List B6 × Int) ⊕ List B6)}
  (he : body = E6 l (L.map fun (c : Nat) => (c : Int))) : AY body ([], wr (((L.map fun (c : Nat) => (c : Int)).length : Int) - 1)) = some (L.reverse.flatMap (LV l)) := by
 subst he
 rw [ANe, Cx (by omega) (by omega)]
 have key : ∀ (k : Nat) (acc : List B6), k ≤ L.length → acc.length + k * 1048576 ≤ 1099511627776 → AY (E6 l (L.map fun (c : Nat) => (c : Int))) (acc, (k : Int) - 1) = some (acc ++ (L.take k).reverse.flatMap (LV l)) := by
  intro k
  induction k with
  | zero =>
   intro acc _ _
   rw [BP (r := acc)]
   ·simp
   ·unfold E6
    rw [A1 (by rw [A2]; dsimp only; omega)]
  | succ k ih =>
   intro acc hk ha
   have hx : L[k]'(by omega) < l.length := hL _ (ANj _)
   have hlen : (LV l (L[k]'(by omega))).length ≤ 1048576 := TG h _
   rw [Dh (s' := (acc ++ LV l (L[k]'(by omega)), (k : Int) - 1))]
   ·rw [ih _ (by omega) (by rw [ANd]; omega), show L.take (k + 1) = L.take k ++ [L[k]'(by omega)] by rw [List.take_add_one, ANc (by omega)]; rfl, List.reverse_append, List.reverse_singleton, List.singleton_append, List.flatMap_cons, ANl]
   ·unfold E6
    dsimp only
    rw [show (((k + 1 : Nat) : Int) - 1) = (k : Int) by omega, A3 (by rw [A2]; omega), BN (by rw [ANe]; omega), AM9, List.getElem_map, BN hx, AM9,
     CZ (by rw [Qi hx] at hlen; omega), AM9, Cx (by omega) (by omega), Qi hx]
 have := key L.length [] (Nat.le_refl _) (by simp; omega)
 rw [this, ANo, ANk]
theorem Zs (l : List A6) (h : Hu l) {n : Nat} (R : EW l n) (hnb : n ≤ 1048576) (c : Int) (hn : c < n) (hl : c < l.length) : HI l c = some (Cz l c) := by
 unfold HI
 have hlen := OP R (c.toNat + 1) c (by omega) hn hl
 rw [Zr l R hnb c hn hl, AM9, Wg l h (DT l c) (fun x hx => (MH R (c.toNat + 1) c (by omega) hn hl x hx).2) (by
  omega) rfl, AM9]
 rfl
theorem U7 (l : List A6) (h : Hu l) {n : Nat} (R : EW l n) (hnb : n ≤ 1048576) (c : Int) (hn : c < n) (hl : c < l.length) : Dp l c = some (Cz l c) := by
 unfold Dp
 have hlen := OP R (c.toNat + 1) c (by omega) hn hl
 have hd := Wg l h (DT l c) (fun x hx => (MH R (c.toNat + 1) c (by omega) hn hl x hx).2) (by omega) (body := Gr l ((DT l c).map fun (c : Nat) => (c : Int))) rfl
 rw [Xn l R hnb c hn hl, AM9, hd, AM9]
 rfl
end Go.Proofs.YtfcpkcehecmcpaaGreat
namespace Go.Proofs.YtfcpkcehecmcpaaGreat
open Go Go.RowKit Go.Pv
theorem UV {R : Type} (n : Nat) {body : Int → Option (Int ⊕ R)} (f : Nat → Option R) {r0 : R}
  (hs : ∀ i, i < n → (∀ j, j < i → f j = none) → body (i : Int) = match f i with | some r => some (.inr r) | none => some (.inl ((i + 1 : Nat) : Int))) (he : (∀ j, j < n → f j = none) → body (n : Int) = some (.inr r0)) :
  AY body 0 = some (((List.range n).findSome? f).getD r0) := by
 have key : ∀ k i, i + k = n → (∀ j, j < i → f j = none) → AY body (i : Int) = some (((List.range' i k).findSome? f).getD r0) := by
  intro k
  induction k with
  | zero =>
   intro i hi hj
   have : i = n := by omega
   subst this
   rw [BP (he hj)]; rfl
  | succ k ih =>
   intro i hi hj
   have h1 := hs i (by omega) hj
   rw [List.range'_succ, List.findSome?_cons]
   rcases hf : f i with _ | r
   ·rw [hf] at h1
    rw [Dh h1]
    exact ih (i + 1) (by omega) (fun j hj' => by
     rcases Nat.lt_succ_iff_lt_or_eq.1 hj' with h | h
     ·exact hj j h
     ·rw [h]; exact hf)
   ·rw [hf] at h1
    rw [BP h1]; rfl
 have := key n 0 (by omega) (fun j h => by omega)
 rw [List.range_eq_range']
 exact this
theorem W7 (l : List (List UInt8)) (hl : l.length ≤ 1099511627776) (x : List UInt8) : C4 l x = some (l.any fun y => x == y) := by
 unfold C4
 obtain ⟨r, h1, h2, _⟩ := Ow l (fun y => x == y) (body := Cl l x) (fun i hi => by
  unfold Cl
  rw [A3 (by rw [A2]; omega), BN hi, AM9, CS (by omega)]) (by
  unfold Cl
  rw [A1 (by rw [A2]; omega)])
 have h1' : EN l x = some r := h1
 rw [h1', AM9, h2]
theorem Y4 (l : List B6) (hl : l.length ≤ 1099511627776) (x : List UInt8) : Jc l x = some (l.any fun y => y.Name == x) := by
 have := Xa l (fun y => y.Name == x) (body := EZ l x) (fun i hi => by
  unfold EZ
  rw [A3 (by rw [A2]; omega), BN hi, AM9, CS (by omega)]) (by
  unfold EZ
  rw [A1 (by rw [A2]; omega)])
 exact this
theorem Abu {R S : Type} (L : List Nat) (P : Nat → Option R) (f : R → S) : L.findSome? (fun i => (P i).map f) = (L.findSome? P).map f := by
 induction L with
 | nil => rfl
 | cons x l ih => simp only [List.findSome?_cons]; rcases P x with _ | r <;> simp [ih]
def PS (l : List A6) (all own : List B6) (i : Nat) : Option Int := match own[i]? with
 | none => none
 | some f => if ND f.Name = false then some 6 else if (all.any fun y => y.Name == f.Name) = true ∨ ((own.take i).any fun y => y.Name == f.Name) = true then some 20 else if st l f.GQ = false then some 22 else none
def MD (l : List A6) (all own : List B6) : Int := ((List.range own.length).findSome? (PS l all own)).getD (if 32 < all.length + own.length then 4 else 0)
def Jw (l : List A6) (c : Nat) : Int := match l[c]? with
 | none => 0
 | some x => if 32 ≤ c then 4 else if ND x.Name = false then 6 else if (wordsL.any fun y => x.Name == y) = true then 6 else if ((l.take c).any fun y => y.Name == x.Name) = true then 20
  else if x.B2 < -1 ∨ (c : Int) ≤ x.B2 then 21 else MD l (Cz l x.B2) x.Fields
theorem Tu {α β : Type} (f : α → List β) (n : Nat) : ∀ (L : List α), (∀ x ∈ L, (f x).length ≤ n) → (L.flatMap f).length ≤ L.length * n
 | [], _ => by simp
 | x :: L, h => by
  rw [List.flatMap_cons, ANd, List.length_cons]
  have h1 := h x (by simp)
  have h2 := Tu f n L (fun y hy => h y (by simp [hy]))
  rw [Nat.succ_mul]
  omega
theorem S5 {α β : Type} (f : α → List β) : ∀ (L : List α), (L.reverse.flatMap f).length = (L.flatMap f).length
 | [] => rfl
 | x :: L => by
  rw [List.reverse_cons, List.flatMap_append, ANd, S5 f L, List.flatMap_cons, ANd]
  simp
  omega
theorem Acf (l : List A6) (p : Int) (x : List UInt8) : (((DT l p).flatMap fun c => (LV l c).map (·.Name)).any fun y => x == y) = ((Cz l p).any fun y => y.Name == x) := by
 rw [ANs, List.any_eq_true, List.any_eq_true]
 constructor
 ·rintro ⟨y, hy, he⟩
  obtain ⟨c, hc, hy⟩ := List.mem_flatMap.1 hy
  obtain ⟨f, hf, rfl⟩ := List.mem_map.1 hy
  refine ⟨f, List.mem_flatMap.2 ⟨c, by simpa using hc, hf⟩, ?_⟩
  rw [AE] at he ⊢
  exact he.symm
 ·rintro ⟨f, hf, he⟩
  obtain ⟨c, hc, hf⟩ := List.mem_flatMap.1 hf
  refine ⟨f.Name, List.mem_flatMap.2 ⟨c, by simpa using hc, List.mem_map.2 ⟨f, hf, rfl⟩⟩, ?_⟩
  rw [AE] at he ⊢
  exact he.symm
theorem Abk (l : List A6) (p : Int) : ((DT l p).flatMap fun c => (LV l c).map (·.Name)).length = (Cz l p).length := by
 unfold Cz
 rw [S5, List.length_flatMap, List.length_flatMap]
 simp
theorem Tp (l : List A6) (h : Hu l) {n : Nat} (R : EW l n) (hn32 : n ≤ 64) (c : Int) (hn : c < n) (hl : c < l.length) : (Cz l c).length ≤ 67108864 := by
 unfold Cz
 have h1 := Tu (LV l) 1048576 (DT l c).reverse (fun x _ => TG h x)
 have h2 := OP R (c.toNat + 1) c (by omega) hn hl
 rw [List.length_reverse] at h1
 have h3 : (DT l c).length ≤ 64 := by omega
 omega
theorem Vz (M : List (List UInt8)) (own : List B6) (i : Nat) (x : List UInt8) : ((M ++ (own.take i).map (·.Name)).any fun y => x == y) = ((M.any fun y => x == y) || ((own.take i).any fun y => y.Name == x)) := by
 rw [List.any_append, List.any_map]
 congr 2
 funext y
 show (x == y.Name) = (y.Name == x)
 rw [ANs, AE, AE]; exact eq_comm
theorem Yr (l : List A6) (h : Hu l) {n : Nat} (R : EW l n) (hn32 : n ≤ 64) (c : Nat) (hc : c < l.length) (hp : l[c].B2 < n) (hpl : l[c].B2 < l.length) :
  KO l (c : Int) = some (MD l (Cz l l[c].B2) l[c].Fields) := by
 unfold KO
 rw [BN hc, AM9, Ye l h R hn32 _ hp hpl, AM9, AM9]
 have hN := Abk l l[c].B2
 have hA := Acf l l[c].B2
 have hL := Tp l h R hn32 _ hp hpl
 have hf : l[c].Fields.length ≤ 1048576 := h.2 _ (ANj hc)
 generalize hM : ((DT l l[c].B2).flatMap fun c => (LV l c).map (·.Name)) = M at *
 generalize hall : Cz l l[c].B2 = all at *
 generalize hown : l[c] = x at *
 -- the loop
 have key : ∀ k i, i + k = x.Fields.length → AY (Gf l x) (M ++ (x.Fields.take i).map (·.Name), (i : Int)) = some (((List.range' i k).findSome? fun i => (PS l all x.Fields i).map Sum.inl).getD (.inr (M ++ x.Fields.map (·.Name)))) := by
  intro k
  induction k with
  | zero =>
   intro i hi
   have : i = x.Fields.length := by omega
   subst this
   rw [BP (r := .inr (M ++ x.Fields.map (·.Name)))]
   ·rfl
   ·unfold Gf
    dsimp only
    rw [A1 (by rw [A2]; omega), ANo]
  | succ k ih =>
   intro i hi
   have hi' : i < x.Fields.length := by omega
   have hb : Gf l x (M ++ (x.Fields.take i).map (·.Name), (i : Int)) = match PS l all x.Fields i with
    | some e => some (.inr (.inl e))
    | none => some (.inl (M ++ (x.Fields.take (i + 1)).map (·.Name), ((i + 1 : Nat) : Int))) := by
    unfold Gf PS
    dsimp only
    rw [A3 (by rw [A2]; omega), BN hi', AM9, QT, AM9, ANc hi']
    dsimp only
    rcases hn : ND x.Fields[i].Name with _ | _
    ·rfl
    ·rw [A1 (c := (!true) = true) (by simp), A1 (c := true = false) (by simp), W7 _ (by simp; omega), AM9, Vz, hA]
     by_cases h1 : (all.any fun y => y.Name == x.Fields[i].Name) = true ∨ ((x.Fields.take i).any fun y => y.Name == x.Fields[i].Name) = true
     ·rw [A3 (by rw [ANt]; exact h1), A3 h1]
     ·rw [A1 (by rw [ANt]; exact h1), A1 h1, Yq, AM9]
      rcases hs : st l x.Fields[i].GQ with _ | _
      ·rfl
      ·rw [A1 (c := (!true) = true) (by simp), A1 (c := true = false) (by simp), CZ (by simp; omega), AM9, CS (by omega), Oj (·.Name) _ i hi', ANl]
   rw [List.range'_succ, List.findSome?_cons]
   rcases hff : PS l all x.Fields i with _ | e
   ·rw [hff] at hb
    rw [Dh hb]
    exact ih (i + 1) (by omega)
   ·rw [hff] at hb
    rw [BP hb]; rfl
 have := key x.Fields.length 0 (by omega)
 rw [List.take_zero, List.map_nil, List.append_nil] at this
 rw [show ((0 : Nat) : Int) = 0 from rfl] at this
 rw [this, AM9]
 unfold MD
 rw [List.range_eq_range']
 have hm := Abu (List.range' 0 x.Fields.length) (PS l all x.Fields) (Sum.inl : Int → Int ⊕ List (List UInt8))
 rw [hm]
 rcases (List.range' 0 x.Fields.length).findSome? (PS l all x.Fields) with _ | e
 ·simp only [Option.map_none, Option.getD_none]
  rw [ANd, ANe, hN]
  by_cases h32 : 32 < all.length + x.Fields.length
  ·rw [A3 (by rw [A2]; omega), A3 h32]
  ·rw [A1 (by rw [A2]; omega), A1 h32]
 ·rfl
end Go.Proofs.YtfcpkcehecmcpaaGreat
namespace Go.Proofs.YtfcpkcehecmcpaaGreat
open Go Go.RowKit Go.Pv
theorem Qb {α β : Type} {f g : α → Option β} : ∀ {l : List α}, (∀ x ∈ l, f x = g x) → l.findSome? f = l.findSome? g
 | [], _ => rfl
 | x :: l, h => by rw [List.findSome?_cons, List.findSome?_cons, h x (by simp), Qb fun y hy => h y (by simp [hy])]
theorem QM {α β : Type} (o : Option α) (d : β) : ((o.map (Sum.inl : α → α ⊕ β)).getD (.inr d)) = match o with | some e => .inl e | none => .inr d := by cases o <;> rfl
theorem Ys (l : List A6) (h : Hu l) (x : A6) (all : List B6) (hL : all.length ≤ 67108864) (hf : x.Fields.length ≤ 1048576) :
  ((AY (DJ l x all) 0).bind fun o => match o with
   | .inl p => some p
   | .inr _ => if decide ((x.Fields.length : Int) > wr (32 - (all.length : Int))) = true then some 4 else some 0) = some (MD l all x.Fields) := by
 have hl := Hm (R := Int ⊕ Unit) x.Fields.length (body := DJ l x all) (fun i => (PS l all x.Fields i).map .inl) (r0 := .inr ()) (fun i hi => by
  unfold DJ PS
  rw [A3 (by rw [A2]; omega), BN hi, AM9, Vb, AM9, ANc hi]
  dsimp only
  rcases hn : ND x.Fields[i].Name with _ | _
  ·rfl
  ·rw [A1 (c := (!true) = true) (by simp), A1 (c := true = false) (by simp), Y4 _ (by omega), AM9]
   rcases h1 : (all.any fun y => y.Name == x.Fields[i].Name) with _ | _
   ·rw [A1 (c := false = true) (by simp), Nf (by omega), AM9, ANp, Int.toNat_zero, List.drop_zero, Y4 _ (by rw [List.length_take]; omega), AM9]
    rcases h2 : ((x.Fields.take i).any fun y => y.Name == x.Fields[i].Name) with _ | _
    ·rw [A1 (c := false = true) (by simp), A1 (c := false = true ∨ false = true) (by simp), PH, AM9]
     rcases hs : st l x.Fields[i].GQ with _ | _
     ·rfl
     ·rw [A1 (c := (!true) = true) (by simp), A1 (c := true = false) (by simp), CS (by omega)]; rfl
    ·rw [A3 rfl, A3 (Or.inr rfl)]; rfl
   ·rw [A3 rfl, A3 (Or.inl rfl)]; rfl) (by
  unfold DJ
  rw [A1 (by rw [A2]; omega)])
 rw [hl, AM9, JA, QM]
 unfold MD
 rcases (List.range x.Fields.length).findSome? (PS l all x.Fields) with _ | e
 ·simp only [Option.getD_none]
  rw [Cx (by omega) (by omega)]
  by_cases h32 : 32 < all.length + x.Fields.length
  ·rw [A3 (by rw [A2]; omega), A3 h32]
  ·rw [A1 (by rw [A2]; omega), A1 h32]
 ·rfl
theorem Aba (l : List A6) (h : Hu l) (c : Nat) (hc : c ≤ l.length) (x : A6) : Cn (l.take c) x = some ((l.take c).any fun y => y.Name == x.Name) := by
 have hb : l.length ≤ 1048576 := h.1
 unfold Cn
 obtain ⟨r, h1, h2, _⟩ := Ow (l.take c) (fun y => y.Name == x.Name) (body := BR (l.take c) x) (fun i hi => by
  unfold BR KL
  have hi' : i < c := by rw [List.length_take] at hi; omega
  rw [A3 (by rw [A2]; omega), BN hi, AM9, AM9, CS (by omega)]) (by
  unfold BR
  rw [A1 (by rw [A2]; omega)])
 have h1' : CU (l.take c) x = some r := h1
 rw [show (⟨x.Name, x.B2, x.Fields⟩ : A6) = x from rfl, h1', AM9, h2]
theorem ZG (l : List A6) (h : Hu l) (c : Nat) (hc : c < l.length) (R : EW l c) : HN l (c : Int) = some (Jw l c) := by
 have hb : l.length ≤ 1048576 := h.1
 unfold HN Jw
 rw [BN hc, AM9, ANc hc]
 dsimp only
 by_cases h32 : 32 ≤ c
 ·rw [A3 (by rw [A2]; omega), A3 h32]
 rw [A1 (by rw [A2]; omega), A1 h32, Vb, AM9]
 rcases ND l[c].Name with _ | _
 ·rfl
 rw [A1 (c := (!true) = true) (by simp), A1 (c := true = false) (by simp), Z2, AM9]
 rcases (wordsL.any fun y => l[c].Name == y) with _ | _
 rotate_left
 ·rfl
 rw [A1 (c := false = true) (by simp), A1 (c := false = true) (by simp)]
 have hl := Hm (R := Int ⊕ Unit) c (body := E4 l (c : Int) l[c]) (fun i => (KB l (fun y => y.Name == l[c].Name) i).map fun _ => .inl 20) (r0 := .inr ()) (fun i hi => by
  unfold E4
  rw [A3 (by rw [A2]; omega), BN (by omega), AM9, CS (by omega), M9 (by omega)]
  split <;> rfl) (by
  unfold E4
  rw [A1 (by rw [A2]; omega)])
 rw [hl, AM9, JA]
 have hany : ((List.range c).findSome? (KB l fun y => y.Name == l[c].Name)).isSome = ((l.take c).any fun y => y.Name == l[c].Name) := by
  have hn := OT (l.take c) fun y => y.Name == l[c].Name
  have e : (List.range (l.take c).length).findSome? (KB (l.take c) fun y => y.Name == l[c].Name) = (List.range c).findSome? (KB l fun y => y.Name == l[c].Name) := by
   rw [List.length_take, Nat.min_eq_left (by omega)]
   apply Qb
   intro i hi
   have hi' := List.mem_range.1 hi
   unfold KB
   rw [List.getElem?_take_of_lt hi']
  rw [e] at hn
  rcases hf : (List.range c).findSome? (KB l fun y => y.Name == l[c].Name) with _ | r
  ·rw [hn.1 hf]; rfl
  ·rcases hb : (l.take c).any fun y => y.Name == l[c].Name with _ | _
   ·rw [hn.2 hb] at hf; cases hf
   ·rfl
 rw [← hany]
 rcases (List.range c).findSome? (KB l fun y => y.Name == l[c].Name) with _ | r
 rotate_left
 ·rfl
 simp only [Option.map_none, Option.getD_none, Option.isSome_none, Bool.false_eq_true, if_false]
 by_cases hp1 : l[c].B2 < -1
 ·rw [A3 (by rw [A2]; omega), A3 (Or.inl hp1)]
 rw [A1 (by rw [A2]; omega)]
 by_cases hp2 : (c : Int) ≤ l[c].B2
 ·rw [A3 (by rw [A2]; omega), A3 (Or.inr hp2)]
 rw [A1 (by rw [A2]; omega), A1 (by omega), U7 l h R (by omega) _ (by omega) (by omega), AM9]
 exact Ys l h l[c] _ (Tp l h R (by omega) _ (by omega) (by omega)) (h.2 _ (ANj hc))
end Go.Proofs.YtfcpkcehecmcpaaGreat
namespace Go.Proofs.YtfcpkcehecmcpaaGreat
open Go Go.RowKit Go.Pv
structure Good (l : List A6) : Prop where
 tab : Hu l
 few : l.length ≤ 32
 right : EW l l.length
 fields : ∀ c, c < l.length → (Cz l (c : Int)).length ≤ 32
 stored : ∀ (c : Nat) (h : c < l.length), ∀ f ∈ l[c].Fields, st l f.GQ = true
theorem XA {l : List A6} {all own : List B6} (h : MD l all own = 0) : all.length + own.length ≤ 32 ∧ ∀ f ∈ own, st l f.GQ = true := by
 unfold MD at h
 rcases hf : (List.range own.length).findSome? (PS l all own) with _ | e
 ·rw [hf, Option.getD_none] at h
  constructor
  ·by_cases h32 : 32 < all.length + own.length
   ·rw [A3 h32] at h; cases h
   ·omega
  ·intro f hfm
   obtain ⟨i, hi, rfl⟩ := List.mem_iff_getElem.1 hfm
   have := (List.findSome?_eq_none_iff.1 hf) i (List.mem_range.2 hi)
   unfold PS at this
   rw [ANc hi] at this
   dsimp only at this
   split at this
   ·cases this
   ·split at this
    ·cases this
    ·split at this
     ·cases this
     ·rename_i hs; simpa using hs
 ·rw [hf, Option.getD_some] at h
  subst h
  obtain ⟨i, hi, hr⟩ := List.exists_of_findSome?_eq_some hf
  unfold PS at hr
  split at hr
  ·cases hr
  ·repeat' split at hr
   all_goals cases hr
theorem Mf {l : List A6} {c : Nat} (hc : c < l.length) (h : Jw l c = 0) : c < 32 ∧ -1 ≤ l[c].B2 ∧ l[c].B2 < c ∧ (Cz l l[c].B2).length + l[c].Fields.length ≤ 32 ∧ ∀ f ∈ l[c].Fields, st l f.GQ = true := by
 unfold Jw at h
 rw [ANc hc] at h
 dsimp only at h
 split at h
 ·cases h
 ·split at h
  ·cases h
  ·split at h
   ·cases h
   ·split at h
    ·cases h
    ·split at h
     ·cases h
     ·have := XA h
      exact ⟨by omega, by omega, by omega, this.1, this.2⟩
theorem WV {l : List A6} {n : Nat} (R : EW l n) (c : Nat) (h : c < l.length) (hn : c < n) : Cz l (c : Int) = Cz l l[c].B2 ++ l[c].Fields := by
 unfold Cz
 rw [Kp R c h hn, List.reverse_cons, List.flatMap_append]
 simp [Qi h]
theorem TR {l : List A6} (n : Nat) (h : ∀ j, j < n → j < l.length → Jw l j = 0) : EW l n := fun i hi hn => ⟨(Mf hi (h i hn hi)).2.1, (Mf hi (h i hn hi)).2.2.1⟩
def Ng (l : List A6) (c : Nat) : Option (Int × Int) := if Jw l c = 0 then none else some ((c : Int), Jw l c)
def Mc (l : List A6) : Int × Int := ((List.range l.length).findSome? (Ng l)).getD (0, 0)
theorem Sw {l : List A6} {c : Nat} (h : Ng l c = none) : Jw l c = 0 := by
 unfold Ng at h
 split at h
 ·assumption
 ·cases h
theorem Ax3 {l : List A6} (h : Hu l) (hv : (Mc l).2 = 0) : Good l := by
 have h0 : ∀ j, j < l.length → Jw l j = 0 := by
  unfold Mc at hv
  rcases hf : (List.range l.length).findSome? (Ng l) with _ | e
  ·intro j hj
   exact Sw ((List.findSome?_eq_none_iff.1 hf) j (List.mem_range.2 hj))
  ·rw [hf, Option.getD_some] at hv
   obtain ⟨i, hi, hr⟩ := List.exists_of_findSome?_eq_some hf
   unfold Ng at hr
   split at hr
   ·cases hr
   ·rename_i hne; cases hr; exact absurd hv hne
 have R : EW l l.length := TR _ fun j hj _ => h0 j hj
 refine ⟨h, ?_, R, ?_, ?_⟩
 ·rcases hl : l.length with _ | k
  ·omega
  ·have := (Mf (c := k) (by omega) (h0 k (by omega))).1; omega
 ·intro c hc
  rw [WV R c hc hc, ANd]
  exact (Mf hc (h0 c hc)).2.2.2.1
 ·intro c hc
  exact (Mf hc (h0 c hc)).2.2.2.2
theorem NW (l : List A6) (h : Hu l) : G9 l = some (Mc l) := by
 have hb : l.length ≤ 1048576 := h.1
 have hl := UV (R := (Int × Int) ⊕ Unit) l.length (body := Eu l) (fun c => (Ng l c).map .inl) (r0 := .inr ()) (fun c hc hj => by
  unfold Eu
  have R : EW l c := TR c fun j hj' _ => Sw (by have := hj j hj'; simpa using this)
  rw [A3 (by rw [A2]; omega), ZG l h c hc R, AM9, CS (by omega)]
  unfold Ng
  by_cases h0 : Jw l c = 0
  ·rw [A1 (by rw [AW]; exact fun hn => hn h0), A3 h0]; rfl
  ·rw [A3 (by rw [AW]; exact h0), A1 h0]; rfl) (fun _ => by
  unfold Eu
  rw [A1 (by rw [A2]; omega)])
 unfold G9
 rw [hl, AM9, JA, QM]
 unfold Mc
 rcases (List.range l.length).findSome? (Ng l) with _ | e <;> rfl
theorem Zi (l : List A6) (h : Hu l) (c : Nat) (hc : c < l.length) (R : EW l c) : GN l (c : Int) = match (Ng l c).map Sum.inl with | some r => some (.inr r) | none => some (.inl ((c + 1 : Nat) : Int)) := by
 have hb : l.length ≤ 1048576 := h.1
 have key : ∀ e : Int, e = Jw l c → ((some e).bind fun o => if (o != 0) = true then some (.inr (.inl ((c : Int), o))) else some (.inl (wr ((c : Int) + 1)))) = (match (Ng l c).map (Sum.inl : Int × Int → (Int × Int) ⊕ Unit) with | some r => some (Sum.inr r) | none => some (Sum.inl ((c + 1 : Nat) : Int)) : Option (Int ⊕ ((Int × Int) ⊕ Unit))) := by
  intro e he
  subst he
  rw [AM9, CS (by omega)]
  unfold Ng
  by_cases h0 : Jw l c = 0
  ·rw [A1 (by rw [AW]; exact fun hn => hn h0), A3 h0]; rfl
  ·rw [A3 (by rw [AW]; exact h0), A1 h0]; rfl
 unfold GN
 rw [A3 (by rw [A2]; omega), BN hc, AM9]
 have hv : Jw l c = if 32 ≤ c then 4 else if ND l[c].Name = false then 6 else if (wordsL.any fun y => l[c].Name == y) = true then 6 else if ((l.take c).any fun y => y.Name == l[c].Name) = true then 20
  else if l[c].B2 < -1 ∨ (c : Int) ≤ l[c].B2 then 21 else MD l (Cz l l[c].B2) l[c].Fields := by
  unfold Jw
  rw [ANc hc]
 by_cases h32 : 32 ≤ c
 ·rw [A3 (by rw [A2]; omega)]
  exact key 4 (by rw [hv, A3 h32])
 rw [A1 (by rw [A2]; omega), QT, AM9]
 rw [A1 h32] at hv
 rcases hn : ND l[c].Name with _ | _
 ·rw [hn, A3 rfl] at hv
  exact key 6 hv.symm
 rw [hn, A1 (c := true = false) (by simp)] at hv
 rw [A1 (c := (!true) = true) (by simp), Aao, AM9, Xl wordsL (by decide), AM9]
 rcases hw : (wordsL.any fun y => l[c].Name == y) with _ | _
 rotate_left
 ·rw [hw, A3 rfl] at hv
  exact key 6 hv.symm
 rw [hw, A1 (c := false = true) (by simp)] at hv
 rw [A1 (c := false = true) (by simp), Nf (by omega), AM9, ANp, Int.toNat_zero, List.drop_zero, show (⟨l[c].Name, l[c].B2, l[c].Fields⟩ : A6) = l[c] from rfl, Aba l h c (by omega), AM9]
 rcases ht : ((l.take c).any fun y => y.Name == l[c].Name) with _ | _
 rotate_left
 ·rw [ht, A3 rfl] at hv
  exact key 20 hv.symm
 rw [ht, A1 (c := false = true) (by simp)] at hv
 rw [A1 (c := false = true) (by simp)]
 by_cases hp1 : l[c].B2 < -1
 ·rw [A3 (by rw [A2]; omega)]
  exact key 21 (by rw [hv, A3 (Or.inl hp1)])
 rw [A1 (by rw [A2]; omega)]
 by_cases hp2 : (c : Int) ≤ l[c].B2
 ·rw [A3 (by rw [A2]; omega)]
  exact key 21 (by rw [hv, A3 (Or.inr hp2)])
 rw [A1 (by rw [A2]; omega), Yr l h R (by omega) c hc (by omega) (by omega), AM9]
 exact key _ (by rw [hv, A1 (by omega)])
theorem VX (l : List A6) (h : Hu l) : K6 l = some (Mc l) := by
 have hb : l.length ≤ 1048576 := h.1
 have hl := UV (R := (Int × Int) ⊕ Unit) l.length (body := GN l) (fun c => (Ng l c).map .inl) (r0 := .inr ()) (fun c hc hj => by
  rw [Zi l h c hc (TR c fun j hj' _ => Sw (by have := hj j hj'; simpa using this))]
  rcases Ng l c with _ | _ <;> rfl) (fun _ => by
  unfold GN
  rw [A1 (by rw [A2]; omega)])
 unfold K6
 rw [hl, AM9, JA, QM]
 unfold Mc
 rcases (List.range l.length).findSome? (Ng l) with _ | e <;> rfl
end Go.Proofs.YtfcpkcehecmcpaaGreat
namespace Go.Proofs.YtfcpkcehecmcpaaGreat
open Go Go.RowKit Go.Pv
def Le (l : List A6) (a b : UInt8) : Prop := tv l a = true ∧ tv l b = true ∧ (a = b ∨ b.toNat = 0 ∨ (a.toNat = 3 ∧ rf b = true) ∨ (rf a = true ∧ b.toNat = 5) ∨ (16 ≤ a.toNat ∧ 16 ≤ b.toNat ∧ (b.toNat - 16) ∈ DT l ((a.toNat - 16 : Nat) : Int)))
instance (l : List A6) (a b : UInt8) : Decidable (Le l a b) := by unfold Le; infer_instance
theorem LY {l : List A6} {t : UInt8} (h : tv l t = true) (h16 : 16 ≤ t.toNat) : VP l t = ((t.toNat - 16 : Nat) : Int) ∧ t.toNat - 16 < l.length := by
 unfold tv at h
 simp only [ANt, ANr, A2] at h
 have h2 : t.toNat - 16 < l.length := by omega
 unfold VP
 rw [A3 ⟨h16, h2⟩]
 exact ⟨rfl, h2⟩
theorem UZ {l : List A6} {t : UInt8} (h16 : ¬ 16 ≤ t.toNat) : VP l t = -1 := by
 unfold VP
 rw [A1 (by omega)]
theorem Wl {l : List A6} (G : Good l) (y : Int) : ∀ (L : List Nat) (s : Bool), PI (fun s c => (c : Int) == y) (fun s c => !((c : Int) == y)) L s = if L = [] then s else L.any fun c => (c : Int) == y
 | [], s => rfl
 | c :: r, s => by
  rw [PI, Wl G y r]
  rcases hc : ((c : Int) == y) with _ | _
  ·rw [A3 (c := (!false) = true) (by simp), A1 (c := c :: r = []) (by simp), List.any_cons, hc, Bool.false_or]
   split
   ·rename_i h; rw [h]; rfl
   ·rfl
  ·rw [A1 (c := (!true) = true) (by simp), A1 (c := c :: r = []) (by simp), List.any_cons, hc, Bool.true_or]
theorem Wb (l : List A6) (G : Good l) (c : Int) (hc : c < l.length) (y : Int) : K5 l c y = some ((DT l c).any fun x => (x : Int) == y) := by
 have hb : l.length ≤ 1048576 := G.tab.1
 have key := NN G.right (body := Dv l y) (fun s c => (c : Int) == y) (fun s c => !((c : Int) == y)) (fun _ _ => True) (fun s c hc hcn hI => by
  unfold Dv KJ
  dsimp only
  have hr := G.right c hc hcn
  rw [A3 (by rw [A2]; omega), A3 (by rw [A2]; omega), AM9]
  dsimp only
  rcases h : ((c : Int) == y) with _ | _
  ·rw [A3 (by simp), BN hc, AM9, A1 (by rw [A2]; omega), A3 (by simp)]
  ·rw [A1 (by simp), A1 (by simp)]) (fun _ _ _ _ _ => trivial) (fun s c hc => by
  unfold Dv
  dsimp only
  rw [A1 (by rw [A2]; omega)]) (c.toNat + 1) c false (by omega) hc hc trivial
 unfold K5 HH
 rw [key, AM9]
 simp only [AM9]
 rw [Wl G]
 split
 ·rename_i h; rw [h]; rfl
 ·rfl
theorem Ui (l : List A6) (c : Int) (y : Nat) : ((DT l c).any fun x => (x : Int) == (y : Int)) = decide (y ∈ DT l c) := by
 rw [ANs, List.any_eq_true, A2]
 constructor
 ·rintro ⟨x, hx, h⟩
  rw [AE] at h
  rw [← Int.ofNat_inj.1 h]; exact hx
 ·intro h; exact ⟨y, h, by simp⟩
theorem Zy {a b : UInt8} : ((a.toNat : Int) == (b.toNat : Int)) = decide (a = b) := by
 rw [ANs, AE, A2]
 constructor
 ·intro h; exact UInt8.toNat_inj.1 (by omega)
 ·rintro rfl; rfl
theorem le_iff {l : List A6} {a b : UInt8} (ha : tv l a = true) (hb : tv l b = true) : Le l a b ↔ (a = b ∨ b.toNat = 0 ∨ (a.toNat = 3 ∧ rf b = true) ∨ (rf a = true ∧ b.toNat = 5) ∨ (16 ≤ a.toNat ∧ 16 ≤ b.toNat ∧ (b.toNat - 16) ∈ DT l ((a.toNat - 16 : Nat) : Int))) := by
 unfold Le
 rw [ha, hb]; simp
theorem Lx (t : UInt8) : rf t = true ↔ (t.toNat = 3 ∨ t.toNat = 4 ∨ t.toNat = 5 ∨ 16 ≤ t.toNat) := by unfold rf; simp
theorem V9 (l : List A6) (G : Good l) (a b : UInt8) : KW l a b = some (decide (Le l a b)) := by
 unfold KW
 rw [Kl, AM9]
 rcases ha : tv l a with _ | _
 ·rw [A3 (by simp), decide_eq_false (by unfold Le; rw [ha]; simp)]
 rw [A1 (by simp), Kl, AM9]
 rcases hb : tv l b with _ | _
 ·rw [A3 (by simp), decide_eq_false (by unfold Le; rw [hb]; simp)]
 rw [A1 (by simp), Zy, NV, NV, MI, MI]
 have hle := le_iff ha hb
 have hra := Lx a
 have hrb := Lx b
 simp only [AM9]
 by_cases h1 : a = b
 ·rw [A3 (by simpa using h1), decide_eq_true (hle.2 (Or.inl h1))]
 rw [A1 (by simpa using h1)]
 by_cases h2 : b.toNat = 0
 ·rw [A3 (by rw [AE]; omega), decide_eq_true (hle.2 (Or.inr (Or.inl h2)))]
 rw [A1 (by rw [AE]; omega)]
 by_cases h3 : a.toNat = 3
 ·have hra' : rf a = true := hra.2 (Or.inl h3)
  rw [A3 (by rw [AE]; omega), A3 hra']
  congr 1
  rcases hr : rf b with _ | _
  ·symm; apply decide_eq_false
   intro hl
   have hn : ¬ (b.toNat = 3 ∨ b.toNat = 4 ∨ b.toNat = 5 ∨ 16 ≤ b.toNat) := fun h => by rw [hrb.2 h] at hr; cases hr
   rcases hle.1 hl with h | h | h | h | h
   ·exact h1 h
   ·exact h2 h
   ·rw [hr] at h; exact absurd h.2 (by simp)
   ·omega
   ·omega
  ·rw [decide_eq_true (hle.2 (Or.inr (Or.inr (Or.inl ⟨h3, hr⟩))))]
 rw [A1 (by rw [AE]; omega)]
 by_cases h5 : b.toNat = 5
 ·have hrb' : rf b = true := hrb.2 (Or.inr (Or.inr (Or.inl h5)))
  rw [A3 (by rw [AE]; omega)]
  rcases hr : rf a with _ | _
  ·rw [A1 (by simp)]
   congr 1; symm; apply decide_eq_false
   intro hl
   rcases hle.1 hl with h | h | h | h | h
   ·exact h1 h
   ·exact h2 h
   ·exact h3 h.1
   ·rw [hr] at h; exact absurd h.1 (by simp)
   ·omega
  ·rw [A3 rfl, hrb', decide_eq_true (hle.2 (Or.inr (Or.inr (Or.inr (Or.inl ⟨hr, h5⟩)))))]
 rw [A1 (by rw [AE]; omega)]
 by_cases ha16 : 16 ≤ a.toNat
 ·obtain ⟨e1, e2⟩ := LY ha ha16
  rw [e1, A3 (by rw [A2]; omega)]
  by_cases hb16 : 16 ≤ b.toNat
  ·obtain ⟨e3, e4⟩ := LY hb hb16
   rw [e3, A3 (by rw [A2]; omega), Wb l G _ (by omega), Ui, AM9]
   congr 1
   rw [decide_eq_decide]
   constructor
   ·intro h; exact hle.2 (Or.inr (Or.inr (Or.inr (Or.inr ⟨ha16, hb16, h⟩))))
   ·intro hl
    rcases hle.1 hl with h | h | h | h | h
    ·exact absurd h h1
    ·exact absurd h h2
    ·exact absurd h.1 h3
    ·exact absurd h.2 h5
    ·exact h.2.2
  ·rw [UZ hb16, A1 (by rw [A2]; omega)]
   congr 1; symm; apply decide_eq_false
   intro hl
   rcases hle.1 hl with h | h | h | h | h
   ·exact h1 h
   ·exact h2 h
   ·exact h3 h.1
   ·exact h5 h.2
   ·exact hb16 h.2.1
 ·rw [UZ ha16, A1 (by rw [A2]; omega)]
  congr 1; symm; apply decide_eq_false
  intro hl
  rcases hle.1 hl with h | h | h | h | h
  ·exact h1 h
  ·exact h2 h
  ·exact h3 h.1
  ·exact h5 h.2
  ·exact ha16 h.1
end Go.Proofs.YtfcpkcehecmcpaaGreat
namespace Go.Proofs.YtfcpkcehecmcpaaGreat
open Go Go.RowKit Go.Pv
theorem SS (l : List A6) (G : Good l) (a b : UInt8) : FM l a b = some (decide (Le l a b)) := by
 have hbig : l.length ≤ 1048576 := G.tab.1
 unfold FM
 rw [La, AM9]
 rcases ha : tv l a with _ | _
 ·rw [A3 (by simp), decide_eq_false (by unfold Le; rw [ha]; simp)]
 rw [A1 (by simp), La, AM9]
 rcases hb : tv l b with _ | _
 ·rw [A3 (by simp), decide_eq_false (by unfold Le; rw [hb]; simp)]
 rw [A1 (by simp), Zy, Ru, Ru]
 have hle := le_iff ha hb
 have hra := Lx a
 have hrb := Lx b
 simp only [AM9]
 by_cases h1 : a = b
 ·rw [A3 (by simpa using h1), decide_eq_true (hle.2 (Or.inl h1)), AM9]
 rw [A1 (by simpa using h1)]
 by_cases h2 : b.toNat = 0
 ·rw [A3 (by rw [AE]; omega), decide_eq_true (hle.2 (Or.inr (Or.inl h2))), AM9]
 rw [A1 (by rw [AE]; omega)]
 -- a null, or any
 by_cases h3 : a.toNat = 3 ∧ rf b = true
 ·rw [A3 (by rw [AE]; omega), A3 h3.2, decide_eq_true (hle.2 (Or.inr (Or.inr (Or.inl h3)))), AM9]
 by_cases h5 : rf a = true ∧ b.toNat = 5
 ·have hrb' : rf b = true := hrb.2 (Or.inr (Or.inr (Or.inl h5.2)))
  rw [decide_eq_true (hle.2 (Or.inr (Or.inr (Or.inr (Or.inl h5))))), hrb', h5.1]
  rw [show ((b.toNat : Int) == 5) = true by rw [AE]; omega]
  rcases ((a.toNat : Int) == 3) with _ | _ <;> rfl
 have e : (if ((a.toNat : Int) == 3) = true then (if rf b = true then some (.inl true) else if rf a = true then (if ((b.toNat : Int) == 5) = true then some (.inl true) else some (.inr ())) else some (.inr ())) else
   if rf a = true then (if ((b.toNat : Int) == 5) = true then some (.inl true) else some (.inr ())) else some (.inr ()) : Option (Bool ⊕ Unit)) = some (.inr ()) := by
  have e5 : ((b.toNat : Int) == 5) = decide (b.toNat = 5) := Cg _ 5
  have e3 : ((a.toNat : Int) == 3) = decide (a.toNat = 3) := Cg _ 3
  rw [e5, e3]
  by_cases q3 : a.toNat = 3
  ·have hnb : rf b ≠ true := fun h => h3 ⟨q3, h⟩
   rw [A3 (by simpa using q3), A1 hnb]
   by_cases q5 : rf a = true
   ·rw [A3 q5, A1 (by simpa using fun h => h5 ⟨q5, h⟩)]
   ·rw [A1 q5]
  ·rw [A1 (by simpa using q3)]
   by_cases q5 : rf a = true
   ·rw [A3 q5, A1 (by simpa using fun h => h5 ⟨q5, h⟩)]
   ·rw [A1 q5]
 rw [e, AM9]
 dsimp only
 have hfin : Le l a b ↔ (16 ≤ a.toNat ∧ 16 ≤ b.toNat ∧ (b.toNat - 16) ∈ DT l ((a.toNat - 16 : Nat) : Int)) := by
  rw [hle]
  constructor
  ·rintro (h | h | h | h | h)
   ·exact absurd h h1
   ·exact absurd h h2
   ·exact absurd h h3
   ·exact absurd h h5
   ·exact h
  ·exact fun h => Or.inr (Or.inr (Or.inr (Or.inr h)))
 by_cases ha16 : 16 ≤ a.toNat
 ·rw [A1 (by rw [A2]; omega)]
  by_cases hb16 : 16 ≤ b.toNat
  ·have hal := (LY ha ha16).2
   rw [A1 (by rw [A2]; omega), Ox a ha16, Xn l G.right (by omega) _ (by omega) (by omega), AM9]
   have hlen := OP G.right ((a.toNat - 16 : Nat) + 1) ((a.toNat - 16 : Nat) : Int) (by omega) (by omega) (by omega)
   have hl := Xa ((DT l ((a.toNat - 16 : Nat) : Int)).map fun (c : Nat) => (c : Int)) (fun x => x == ((b.toNat - 16 : Nat) : Int)) (body := Ff b ((DT l ((a.toNat - 16 : Nat) : Int)).map fun (c : Nat) => (c : Int))) (fun i hi => by
    unfold Ff
    have hi' := hi
    rw [ANe] at hi'
    rw [A3 (by rw [A2]; omega), BN hi, AM9, Ox b hb16, CS (by omega)]) (by
    unfold Ff
    rw [A1 (by rw [A2]; omega)])
   refine Eq.trans hl ?_
   congr 1
   rw [List.any_map]
   refine Eq.trans (Ui l _ _) ?_
   rw [decide_eq_decide, hfin]
   exact ⟨fun h => ⟨ha16, hb16, h⟩, fun h => h.2.2⟩
  ·rw [A3 (by rw [A2]; omega), decide_eq_false (fun h => hb16 (hfin.1 h).2.1)]
 ·rw [A3 (by rw [A2]; omega), decide_eq_false (fun h => ha16 (hfin.1 h).1)]
end Go.Proofs.YtfcpkcehecmcpaaGreat
namespace Go.Proofs.YtfcpkcehecmcpaaGreat
open Go Go.RowKit Go.Pv
theorem X1 {l : List A6} {n : Nat} (R : EW l n) : ∀ (k : Nat) (c : Int), c < k → c < n → c < l.length → ∀ x ∈ DT l c, ∀ y ∈ DT l (x : Int), y ∈ DT l c
 | 0, c, hk, hn, hl, x, hx, y, hy => by rw [Is (by omega)] at hx; cases hx
 | k + 1, c, hk, hn, hl, x, hx, y, hy => by
  by_cases h0 : 0 ≤ c
  ·obtain ⟨c, rfl⟩ := ANq h0
   rw [Kp R c (by omega) (by omega)] at hx ⊢
   have hr := R c (by omega) (by omega)
   rcases List.mem_cons.1 hx with rfl | hx
   ·rw [← Kp R x (by omega) (by omega)]; exact hy
   ·exact List.mem_cons_of_mem _ (X1 R k l[c].B2 (by omega) (by omega) (by omega) x hx y hy)
  ·rw [Is (by omega)] at hx; cases hx
theorem Le.refl {l : List A6} {a : UInt8} (h : tv l a = true) : Le l a a := ⟨h, h, Or.inl rfl⟩
theorem Le.top {l : List A6} {a b : UInt8} (h : tv l a = true) (hb : b.toNat = 0) : Le l a b := ⟨h, by unfold tv; simp [hb], Or.inr (Or.inl hb)⟩
theorem Le.antisymm {l : List A6} (G : Good l) {a b : UInt8} (h : Le l a b) (h' : Le l b a) : a = b := by
 have hra := Lx a
 have hrb := Lx b
 obtain ⟨ha, hb, h⟩ := h
 obtain ⟨_, _, h'⟩ := h'
 have key : a.toNat = b.toNat → a = b := fun e => UInt8.toNat_inj.1 e
 rcases h with h | h | h | h | h
 ·exact h
 ·rcases h' with q | q | q | q | q
  ·exact q.symm
  ·exact key (by omega)
  ·omega
  ·have := hrb.1 q.1; omega
  ·omega
 ·have h2 := hrb.1 h.2
  rcases h' with q | q | q | q | q
  ·exact q.symm
  ·omega
  ·exact key (by omega)
  ·omega
  ·omega
 ·have h2 := hra.1 h.1
  rcases h' with q | q | q | q | q
  ·exact q.symm
  ·omega
  ·omega
  ·exact key (by omega)
  ·omega
 ·rcases h' with q | q | q | q | q
  ·exact q.symm
  ·omega
  ·omega
  ·omega
  ·have e1 := (LY ha h.1).2
   have e2 := (LY hb h.2.1).2
   have h1 := (MH G.right (a.toNat + 1) ((a.toNat - 16 : Nat) : Int) (by omega) (by omega) (by omega) _ h.2.2).1
   have h2 := (MH G.right (b.toNat + 1) ((b.toNat - 16 : Nat) : Int) (by omega) (by omega) (by omega) _ q.2.2).1
   exact key (by omega)
structure Lub (l : List A6) (a b m : UInt8) : Prop where
 left : Le l a m
 right : Le l b m
 least : ∀ t, Le l a t → Le l b t → Le l m t
def Og (l : List A6) (a b : UInt8) : List UInt8 → UInt8 → UInt8
 | [], s => s
 | t :: r, s => Og l a b r (if Le l a t ∧ Le l b t ∧ Le l t s then t else s)
theorem Uq {l : List A6} (G : Good l) {a b m : UInt8} (h : Lub l a b m) : ∀ (L : List UInt8) (s : UInt8), Le l a s → Le l b s → (s = m ∨ m ∈ L) → Og l a b L s = m
 | [], s, _, _, hm => by
  rcases hm with h | h
  ·exact h
  ·cases h
 | t :: r, s, ha, hb, hm => by
  unfold Og
  by_cases hc : Le l a t ∧ Le l b t ∧ Le l t s
  ·rw [A3 hc]
   refine Uq G h r t hc.1 hc.2.1 ?_
   rcases hm with rfl | hm
   ·exact Or.inl (Le.antisymm G hc.2.2 (h.least _ hc.1 hc.2.1))
   ·rcases List.mem_cons.1 hm with rfl | hm
    ·exact Or.inl rfl
    ·exact Or.inr hm
  ·rw [A1 hc]
   refine Uq G h r s ha hb ?_
   rcases hm with hm | hm
   ·exact Or.inl hm
   ·rcases List.mem_cons.1 hm with rfl | hm
    ·exact absurd ⟨h.left, h.right, h.least _ ha hb⟩ hc
    ·exact Or.inr hm
theorem Wr {l : List A6} {a b : UInt8} (h : tv l a = false ∨ tv l b = false) : ∀ (L : List UInt8) (s : UInt8), Og l a b L s = s
 | [], s => rfl
 | t :: r, s => by
  unfold Og
  rw [A1, Wr h r s]
  rintro ⟨h1, h2, _⟩
  rcases h with h | h
  ·rw [h1.1] at h; cases h
  ·rw [h2.1] at h; cases h
end Go.Proofs.YtfcpkcehecmcpaaGreat
namespace Go.Proofs.YtfcpkcehecmcpaaGreat
open Go Go.RowKit Go.Pv
def Tw (c : Nat) : UInt8 := Fo (16 + (c : Int))
theorem RR {c : Nat} (h : c ≤ 32) : (Tw c).toNat = 16 + c := by
 unfold Tw
 have := SQ (n := 16 + c) (by omega)
 rw [← this]; congr 2
def meet (L M : List Nat) : UInt8 := match L.find? (fun c => decide (c ∈ M)) with
 | some c => Tw c
 | none => 5
theorem Wu (M : List Nat) : ∀ (L : List Nat), (∀ c ∈ L, c < 32) → PI (fun s c => if c ∈ M then Tw c else s) (fun s c => !decide (c ∈ M)) L (5 : UInt8) = meet L M
 | [], _ => rfl
 | c :: r, h => by
  rw [PI]
  unfold meet
  rw [List.find?_cons]
  by_cases hc : c ∈ M
  ·rw [A1 (by simp [hc]), A3 hc, decide_eq_true hc]
  ·rw [A3 (by simp [hc]), A1 hc, decide_eq_false hc]
   exact Wu M r fun x hx => h x (by simp [hx])
theorem Z6 (l : List A6) (G : Good l) (x y : Int) (hx : x < l.length) (hy : y < l.length) : Gu l x l y 5 = some (meet (DT l x) (DT l y)) := by
 have hfew := G.few
 have key := NN G.right (body := Dx l l y) (fun s c => if c ∈ DT l y then Tw c else s) (fun s c => !decide (c ∈ DT l y)) (fun _ _ => True) (fun s c hc hcn hI => by
  unfold Dx KF
  dsimp only
  have hr := G.right c hc hcn
  rw [A3 (by rw [A2]; omega), A3 (by rw [A2]; omega), Wb l G y hy, AM9, Ui]
  by_cases hm : c ∈ DT l y
  ·rw [decide_eq_true hm, A3 rfl, AM9, A1 (by simp), A1 (by simp), A3 hm, show (Fo (c : Int)).toNat = c from SQ (by omega)]
   rfl
  ·rw [decide_eq_false hm, A1 (by simp), AM9, A3 rfl, BN hc, AM9, A1 (by rw [A2]; omega), A3 (by simp), A1 hm]) (fun _ _ _ _ _ => trivial) (fun s c hc => by
  unfold Dx
  dsimp only
  rw [A1 (by rw [A2]; omega)]) (x.toNat + 1) x 5 (by omega) hx hx trivial
 unfold Gu
 rw [key, AM9]
 simp only
 rw [Wu _ _ fun c hc => by have := (MH G.right (x.toNat + 1) x (by omega) hx hx c hc).2; omega]
def Ml (l : List A6) (a b : UInt8) : UInt8 :=
 if tv l a = false ∨ tv l b = false then 0 else if Le l a b then b else if Le l b a then a else if rf a = false ∨ rf b = false then 0 else
 if 16 ≤ a.toNat ∧ 16 ≤ b.toNat then meet (DT l ((a.toNat - 16 : Nat) : Int)) (DT l ((b.toNat - 16 : Nat) : Int)) else 5
theorem Aaq (l : List A6) (G : Good l) (a b : UInt8) : Mi l a b = some (Ml l a b) := by
 have hfew := G.few
 unfold Mi Ml
 rw [Kl, AM9]
 rcases ha : tv l a with _ | _
 ·rw [A3 (by simp), A3 (Or.inl rfl)]
 rw [A1 (by simp), Kl, AM9]
 rcases hb : tv l b with _ | _
 ·rw [A3 (by simp), A3 (Or.inr rfl)]
 rw [A1 (c := (!true) = true) (by simp), A1 (c := true = false ∨ true = false) (by simp), V9 l G, AM9]
 by_cases h1 : Le l a b
 ·rw [A3 (by simpa using h1), A3 h1]
 rw [A1 (by simpa using h1), A1 h1, V9 l G, AM9]
 by_cases h2 : Le l b a
 ·rw [A3 (by simpa using h2), A3 h2]
 rw [A1 (by simpa using h2), A1 h2, NV, AM9]
 rcases ra : rf a with _ | _
 ·rw [A3 (by simp), A3 (Or.inl rfl)]
 rw [A1 (c := (!true) = true) (by simp), NV, AM9]
 rcases rb : rf b with _ | _
 ·rw [A3 (by simp), A3 (Or.inr rfl)]
 rw [A1 (c := (!true) = true) (by simp), A1 (c := true = false ∨ true = false) (by simp), MI, AM9, MI, AM9]
 by_cases h3 : 16 ≤ a.toNat
 ·obtain ⟨e1, e2⟩ := LY ha h3
  rw [e1, A3 (by rw [A2]; omega)]
  by_cases h4 : 16 ≤ b.toNat
  ·obtain ⟨e3, e4⟩ := LY hb h4
   rw [e3, A3 (by rw [A2]; omega), A3 ⟨h3, h4⟩, Z6 l G _ _ (by omega) (by omega), AM9]
  ·rw [UZ h4, A1 (by rw [A2]; omega), A1 (by omega)]
 ·rw [UZ h3, A1 (by rw [A2]; omega), A1 (by omega)]
end Go.Proofs.YtfcpkcehecmcpaaGreat
namespace Go.Proofs.YtfcpkcehecmcpaaGreat
open Go Go.RowKit Go.Pv
theorem TB {l : List A6} {n : Nat} (R : EW l n) : ∀ (k : Nat) (c : Int) (us bs : List Nat) (x : Nat), c < k → c < n → c < l.length → DT l c = us ++ x :: bs → DT l (x : Int) = x :: bs
 | 0, c, us, bs, x, hk, hn, hl, h => by rw [Is (by omega)] at h; simp at h
 | k + 1, c, us, bs, x, hk, hn, hl, h => by
  by_cases h0 : 0 ≤ c
  ·obtain ⟨c, rfl⟩ := ANq h0
   have hr := R c (by omega) (by omega)
   have hc := Kp R c (by omega) (by omega)
   cases us with
   | nil =>
    rw [ANk] at h
    have : c = x := by rw [hc] at h; injection h
    rw [← this] at h ⊢
    exact h
   | cons a us =>
    rw [hc, List.cons_append] at h
    injection h with _ h
    exact TB R k l[c].B2 us bs x (by omega) (by omega) (by omega) h
  ·rw [Is (by omega)] at h; simp at h
theorem Aad {l : List A6} {c : Nat} (h : c < l.length) (h32 : c ≤ 32) : tv l (Tw c) = true := by
 unfold tv
 rw [RR h32]
 simp
 omega
theorem tv5 (l : List A6) : tv l 5 = true := by unfold tv; rfl
theorem le5 {l : List A6} {a : UInt8} (h : tv l a = true) (hr : rf a = true) : Le l a 5 := ⟨h, tv5 l, Or.inr (Or.inr (Or.inr (Or.inl ⟨hr, rfl⟩)))⟩
theorem VZ (l : List A6) (G : Good l) {a b : UInt8} (ha : tv l a = true) (hb : tv l b = true) : Lub l a b (Ml l a b) := by
 have hfew := G.few
 have hra := Lx a
 have hrb := Lx b
 unfold Ml
 rw [A1 (by rw [ha, hb]; simp)]
 by_cases h1 : Le l a b
 ·rw [A3 h1]; exact ⟨h1, Le.refl hb, fun t _ h => h⟩
 rw [A1 h1]
 by_cases h2 : Le l b a
 ·rw [A3 h2]; exact ⟨Le.refl ha, h2, fun t h _ => h⟩
 rw [A1 h2]
 have t0 : tv l 0 = true := by unfold tv; rfl
 by_cases h3 : rf a = false ∨ rf b = false
 ·rw [A3 h3]
  refine ⟨Le.top ha rfl, Le.top hb rfl, fun t hat hbt => Le.top t0 ?_⟩
  rcases h3 with h3 | h3
  ·have hn : ¬ (a.toNat = 3 ∨ a.toNat = 4 ∨ a.toNat = 5 ∨ 16 ≤ a.toNat) := fun h => by rw [hra.2 h] at h3; cases h3
   rcases hat.2.2 with q | q | q | q | q
   ·rw [← q] at hbt; exact absurd hbt h2
   ·exact q
   ·omega
   ·rw [h3] at q; cases q.1
   ·omega
  ·have hn : ¬ (b.toNat = 3 ∨ b.toNat = 4 ∨ b.toNat = 5 ∨ 16 ≤ b.toNat) := fun h => by rw [hrb.2 h] at h3; cases h3
   rcases hbt.2.2 with q | q | q | q | q
   ·rw [← q] at hat; exact absurd hat h1
   ·exact q
   ·omega
   ·rw [h3] at q; cases q.1
   ·omega
 rw [A1 h3]
 have ra : rf a = true := by rcases h : rf a with _ | _; exact absurd (Or.inl h) h3; rfl
 have rb : rf b = true := by rcases h : rf b with _ | _; exact absurd (Or.inr h) h3; rfl
 have na3 : a.toNat ≠ 3 := fun h => h1 ⟨ha, hb, Or.inr (Or.inr (Or.inl ⟨h, rb⟩))⟩
 have nb3 : b.toNat ≠ 3 := fun h => h2 ⟨hb, ha, Or.inr (Or.inr (Or.inl ⟨h, ra⟩))⟩
 have na5 : a.toNat ≠ 5 := fun h => h2 ⟨hb, ha, Or.inr (Or.inr (Or.inr (Or.inl ⟨rb, h⟩)))⟩
 have nb5 : b.toNat ≠ 5 := fun h => h1 ⟨ha, hb, Or.inr (Or.inr (Or.inr (Or.inl ⟨ra, h⟩)))⟩
 have hra' := hra.1 ra
 have hrb' := hrb.1 rb
 -- what both are of
 have ub : ∀ t, Le l a t → Le l b t → t.toNat = 0 ∨ t.toNat = 5 ∨ (16 ≤ a.toNat ∧ 16 ≤ b.toNat ∧ 16 ≤ t.toNat ∧ (t.toNat - 16) ∈ DT l ((a.toNat - 16 : Nat) : Int) ∧ (t.toNat - 16) ∈ DT l ((b.toNat - 16 : Nat) : Int)) := by
  intro t hat hbt
  rcases hat.2.2 with q | q | q | q | q
  ·rw [← q] at hbt; exact absurd hbt h2
  ·exact Or.inl q
  ·exact absurd q.1 na3
  ·exact Or.inr (Or.inl q.2)
  ·rcases hbt.2.2 with p | p | p | p | p
   ·rw [← p] at hat; exact absurd hat h1
   ·exact Or.inl p
   ·exact absurd p.1 nb3
   ·exact Or.inr (Or.inl p.2)
   ·exact Or.inr (Or.inr ⟨q.1, p.1, q.2.1, q.2.2, p.2.2⟩)
 have l5 : ∀ t : UInt8, t.toNat = 5 → t = 5 := fun t h => UInt8.toNat_inj.1 h
 by_cases h16 : 16 ≤ a.toNat ∧ 16 ≤ b.toNat
 ·rw [A3 h16]
  have e2 := (LY ha h16.1).2
  have e4 := (LY hb h16.2).2
  unfold meet
  rcases hf : (DT l ((a.toNat - 16 : Nat) : Int)).find? (fun c => decide (c ∈ DT l ((b.toNat - 16 : Nat) : Int))) with _ | c
  ·refine ⟨le5 ha ra, le5 hb rb, fun t hat hbt => ?_⟩
   rcases ub t hat hbt with q | q | q
   ·exact Le.top (tv5 l) q
   ·rw [l5 t q]; exact Le.refl (tv5 l)
   ·have := (List.find?_eq_none.1 hf) _ q.2.2.2.1
    exact absurd (decide_eq_true q.2.2.2.2) this
  ·obtain ⟨hc, us, bs, hl, hn⟩ := List.find?_eq_some_iff_append.1 hf
   have hcM := of_decide_eq_true hc
   have hcL : c ∈ DT l ((a.toNat - 16 : Nat) : Int) := by rw [hl]; simp
   have hcl := (MH G.right (a.toNat + 1) _ (by omega) (by omega) (by omega) c hcL).2
   have htv := Aad hcl (by omega)
   have hn16 := RR (c := c) (by omega)
   show Lub l a b (Tw c)
   have hsuf := TB G.right (a.toNat + 1) _ us bs c (by omega) (by omega) (by omega) hl
   refine ⟨⟨ha, htv, Or.inr (Or.inr (Or.inr (Or.inr ⟨h16.1, by omega, by rw [hn16, Nat.add_sub_cancel_left]; exact hcL⟩)))⟩, ⟨hb, htv, Or.inr (Or.inr (Or.inr (Or.inr ⟨h16.2, by omega, by rw [hn16, Nat.add_sub_cancel_left]; exact hcM⟩)))⟩, fun t hat hbt => ?_⟩
   rcases ub t hat hbt with q | q | q
   ·exact Le.top htv q
   ·rw [l5 t q]; exact le5 htv ((Lx _).2 (by omega))
   ·refine ⟨htv, hat.2.1, Or.inr (Or.inr (Or.inr (Or.inr ⟨by omega, q.2.2.1, ?_⟩)))⟩
    rw [hn16, Nat.add_sub_cancel_left, hsuf]
    have hm := q.2.2.2.1
    rw [hl] at hm
    rcases List.mem_append.1 hm with hm | hm
    ·have := hn _ hm
     rw [decide_eq_true q.2.2.2.2] at this
     cases this
    ·exact hm
 ·rw [A1 h16]
  refine ⟨le5 ha ra, le5 hb rb, fun t hat hbt => ?_⟩
  rcases ub t hat hbt with q | q | q
  ·exact Le.top (tv5 l) q
  ·rw [l5 t q]; exact Le.refl (tv5 l)
  ·exact absurd ⟨q.1, q.2.1⟩ h16
end Go.Proofs.YtfcpkcehecmcpaaGreat
namespace Go.Proofs.YtfcpkcehecmcpaaGreat
open Go Go.RowKit Go.Pv
def KU (l : List A6) : List UInt8 := ((List.range 256).filter fun (i : Nat) => tv l (Fo (i : Int))).map fun (i : Nat) => Fo (i : Int)
theorem A30 (l : List A6) : IP l = some (KU l) := by
 have := GM 256 (body := Fh l) (fun n => (((List.range n).filter fun (i : Nat) => tv l (Fo (i : Int))).map fun (i : Nat) => Fo (i : Int), (n : Int))) (r := KU l) (fun i hi => by
  unfold Fh
  have hlen : ((List.range i).filter fun (i : Nat) => tv l (Fo (i : Int))).length ≤ i := by
   have := ANm (fun (i : Nat) => tv l (Fo (i : Int))) (List.range i)
   rw [List.length_range] at this
   exact this
  dsimp only
  rw [A3 (by rw [A2]; omega), La, AM9, List.range_succ, List.filter_append, List.map_append, CS (by omega)]
  rcases ht : tv l (Fo (i : Int)) with _ | _
  ·rw [A1 (by simp), List.filter_cons, ht]
   simp
  ·rw [A3 rfl, CZ (by simp only [ANe, ANf]; omega), AM9, List.filter_cons, ht]
   simp) (by
  unfold Fh
  dsimp only
  rw [A1 (by rw [A2]; omega)]
  rfl) (s0 := ([], 0)) rfl
 unfold IP
 rw [this, AM9]
theorem VL (l : List A6) (a b : UInt8) (t : UInt8) : ∀ (L : List UInt8) (s : UInt8), Og l a b (L ++ [t]) s = if Le l a t ∧ Le l b t ∧ Le l t (Og l a b L s) then t else Og l a b L s
 | [], s => rfl
 | x :: L, s => by
  rw [List.cons_append, Og, VL l a b t L]
  rfl
theorem Aq3 {l : List A6} {t : UInt8} (h : tv l t = true) : t ∈ KU l := by
 unfold KU
 have e : Fo (t.toNat : Int) = t := UInt8.toNat_inj.1 (SQ t.toNat_lt)
 refine List.mem_map.2 ⟨t.toNat, List.mem_filter.2 ⟨List.mem_range.2 t.toNat_lt, ?_⟩, e⟩
 rw [e]; exact h
theorem Ab9 (l : List A6) (G : Good l) (a b : UInt8) : HW l a b = some (Ml l a b) := by
 have hlen : (KU l).length ≤ 256 := by
  unfold KU
  rw [ANe]
  have := ANm (fun (i : Nat) => tv l (Fo (i : Int))) (List.range 256)
  rw [List.length_range] at this
  exact this
 have hl := GM (KU l).length (body := Ev l a b (KU l)) (fun i => (Og l a b ((KU l).take i) 0, (i : Int))) (r := Og l a b (KU l) 0) (fun i hi => by
  unfold Ev
  dsimp only
  rw [A3 (by rw [A2]; omega), BN hi, AM9, SS l G, AM9, SS l G, SS l G, CS (by omega),
   show (KU l).take (i + 1) = (KU l).take i ++ [(KU l)[i]] by rw [List.take_add_one, ANc hi]; rfl, VL]
  by_cases h1 : Le l a (KU l)[i]
  ·rw [A3 (by simpa using h1), AM9]
   by_cases h2 : Le l b (KU l)[i]
   ·rw [A3 (by simpa using h2), AM9]
    by_cases h3 : Le l (KU l)[i] (Og l a b ((KU l).take i) 0)
    ·rw [A3 (by simpa using h3), A3 ⟨h1, h2, h3⟩]
    ·rw [A1 (by simpa using h3), A1 (fun h => h3 h.2.2)]
   ·rw [A1 (by simpa using h2), A1 (fun h => h2 h.2.1)]
  ·rw [A1 (by simpa using h1), A1 (fun h => h1 h.1)]) (by
  unfold Ev
  dsimp only
  rw [A1 (by rw [A2]; omega), ANo]) (s0 := (0, 0)) rfl
 unfold HW
 rw [A30, AM9, hl, AM9]
 congr 1
 by_cases h : tv l a = false ∨ tv l b = false
 ·rw [Wr h]
  unfold Ml
  rw [A3 h]
 ·have ha : tv l a = true := by rcases q : tv l a with _ | _; exact absurd (Or.inl q) h; rfl
  have hb : tv l b = true := by rcases q : tv l b with _ | _; exact absurd (Or.inr q) h; rfl
  have hm := VZ l G ha hb
  exact Uq G hm _ _ (Le.top ha rfl) (Le.top hb rfl) (Or.inr (Aq3 hm.left.2.1))
end Go.Proofs.YtfcpkcehecmcpaaGreat
namespace Go.Proofs.YtfcpkcehecmcpaaGreat
open Go Go.RowKit Go.Pv
theorem Ahz (e : AA) (x : Bl) : Gg e x = DD e x := by
 funext s
 unfold Gg DD
 simp only [Ri, NF, AM9]
theorem Ae0 (e : AA) : Gi e = DF e := by
 funext s
 unfold Gi DF
 simp only [Ri, NF, AM9, Ahz]
theorem ACs (e : AA) (h : Hu e.Classes) : IH e = G6 e := by
 unfold IH G6
 rw [VX _ h, NW _ h, Ae0]
theorem Aa8 (l : List A6) (ps : List UInt8) : Ig l ps = Dn l ps := by
 funext s
 unfold Ig Dn
 by_cases h : decide (s.2 < (ps.length : Int)) = true
 ·rw [A3 h, A3 h]
  rcases idx ps s.2 with _ | t
  ·rfl
  ·simp only [AM9, Kl, TD]
   have e0 : ((t.toNat : Int) == 0) = decide (t.toNat = 0) := Cg _ 0
   have e3 : ((t.toNat : Int) == 3) = decide (t.toNat = 3) := Cg _ 3
   rw [e0, e3]
   unfold st
   rcases tv l t with _ | _
   ·simp
   ·by_cases h0 : t.toNat = 0
    ·simp [h0]
    ·by_cases h3 : t.toNat = 3
     ·simp [h3]
     ·simp [h0, h3]
 ·rw [A1 h, A1 h]
theorem start_eq (l : List A6) (ps : List UInt8) (n : Int) : Kh l ps n = Ec l ps n := by
 unfold Kh Ec MV HY
 rw [Aa8]
def Q2 (l : List A6) (s : Bl) : Bool := s.Bv.all (st l) && (decide (s.Result.toNat = 0) || st l s.Result)
theorem QK (l : List A6) (s : Bl) (h : s.Bv.length ≤ 8) : H9 l s = some (Q2 l s) := by
 unfold H9 Q2
 have hl := Hm (R := Bool ⊕ Unit) s.Bv.length (body := Ee l s) (fun i => (KB s.Bv (fun t => !st l t) i).map fun _ => .inl false) (r0 := .inr ()) (fun i hi => by
  unfold Ee
  rw [A3 (by rw [A2]; omega), BN hi, AM9, PH, AM9, CS (by omega), M9 hi]
  split <;> rfl) (by
  unfold Ee
  rw [A1 (by rw [A2]; omega)])
 rw [hl, AM9, JA]
 have hn := OT s.Bv fun t => !st l t
 have e0 : ((s.Result.toNat : Int) == 0) = decide (s.Result.toNat = 0) := Cg _ 0
 rw [PH, AM9, A3 (by rw [A2]; omega), e0]
 rcases hf : (List.range s.Bv.length).findSome? (KB s.Bv fun t => !st l t) with _ | r
 ·have ha : s.Bv.all (st l) = true := by
   have := hn.1 hf
   rw [List.all_eq_true]
   intro t ht
   rw [List.any_eq_false] at this
   simpa using this t ht
  rw [ha]
  by_cases h0 : s.Result.toNat = 0
  ·simp [h0]
  ·simp [h0]
 ·have ha : s.Bv.all (st l) = false := by
   rcases hb : s.Bv.all (st l) with _ | _
   ·rfl
   ·rw [List.all_eq_true] at hb
    have : (s.Bv.any fun t => !st l t) = false := by
     rw [List.any_eq_false]
     intro t ht; simp [hb t ht]
    rw [hn.2 this] at hf; cases hf
  rw [ha]; rfl
theorem Afc (e : AA) (ps : List UInt8) (h : ps.length ≤ 8) : Cs ps e = some (ps.any fun t => !st e.Classes t) := by
 unfold Cs
 obtain ⟨r, h1, h2, _⟩ := Ow ps (fun t => !st e.Classes t) (body := Cb ps e) (fun i hi => by
  unfold Cb
  rw [A3 (by rw [A2]; omega), BN hi, AM9, YL, AM9, CS (by omega)]) (by
  unfold Cb
  rw [A1 (by rw [A2]; omega)])
 have h1' : Dl ps e = some r := h1
 rw [show (⟨e.Classes, e.AQ, e.Fn⟩ : AA) = e from rfl, h1', AM9, h2]
theorem A5o (e : AA) (hs : e.AQ.length ≤ 64) : JV e = CE e := by
 funext s
 unfold JV CE
 by_cases h : decide (s < (e.AQ.length : Int)) = true
 ·rw [A3 h, A3 h]
  rcases hx : idx e.AQ s with _ | x
  ·rfl
  ·simp only [AM9]
   by_cases h8 : decide ((x.Bv.length : Int) > 8) = true
   ·rw [A3 h8, A3 h8]
   ·rw [A1 h8, A1 h8]
    have h8' : x.Bv.length ≤ 8 := by rw [A2] at h8; omega
    rw [Afc _ _ h8', QK _ _ h8', AM9, AM9, YL, AM9]
    have e0 : ((x.Result.toNat : Int) != 0) = !decide (x.Result.toNat = 0) := by
     rw [show ((x.Result.toNat : Int) != 0) = !((x.Result.toNat : Int) == 0) from rfl]
     have : ((x.Result.toNat : Int) == 0) = decide (x.Result.toNat = 0) := Cg _ 0
     rw [this]
    rw [e0]
    unfold Q2
    dsimp only
    have ha : (x.Bv.any fun t => !st e.Classes t) = !(x.Bv.all (st e.Classes)) := by
     rw [ANs, List.any_eq_true, Bool.not_eq_true', List.all_eq_false]
     simp
    rw [ha]
    rcases x.Bv.all (st e.Classes) with _ | _
    ·simp
    ·rcases st e.Classes x.Result with _ | _ <;> by_cases h0 : x.Result.toNat = 0 <;> simp [h0]
 ·rw [A1 h, A1 h]
theorem ABr (e : AA) (n : Int) (h : Hu e.Classes) : M4 e n = EI e n := by
 unfold M4 EI
 rw [VX _ h, NW _ h, AM9, AM9]
 by_cases h1 : ((Mc e.Classes).2 != 0) = true
 ·rw [A3 h1, A3 h1]
 rw [A1 h1, A1 h1]
 by_cases h2 : decide ((e.AQ.length : Int) > 64) = true
 ·rw [A3 h2, A3 h2]
 rw [A1 h2, A1 h2, A5o e (by rw [A2] at h2; omega)]
 simp only [start_eq]
end Go.Proofs.YtfcpkcehecmcpaaGreat
namespace Go.Proofs.YtfcpkcehecmcpaaGreat
open Go Go.RowKit Go.Pv
structure DG (e : AA) : Prop where
 ok : (Mc e.Classes).2 = 0
 good : Good e.Classes
 few : e.AQ.length ≤ 64
 sigs : ∀ s ∈ e.AQ, s.Bv.length ≤ 8 ∧ Q2 e.Classes s = true
 fn : 0 ≤ e.Fn ∧ e.Fn < e.AQ.length
def SH (e : AA) (i : Nat) : Option Int := match e.AQ[i]? with
 | none => none
 | some s => if 8 < s.Bv.length then some 4 else if Q2 e.Classes s = false then some 22 else none
theorem AC0 (e : AA) (n : Int) (h : Hu e.Classes) (hm : EI e n = some 0) : DG e ∧ ∃ s f, idx e.AQ e.Fn = some s ∧ Ec e.Classes s.Bv n = some (f, 0) := by
 unfold EI at hm
 rw [NW _ h, AM9] at hm
 by_cases h1 : ((Mc e.Classes).2 != 0) = true
 ·rw [A3 h1] at hm
  rw [AW] at h1
  exact absurd (Option.some.inj hm) h1
 rw [A1 h1] at hm
 have hg := Ax3 h (by simpa using h1)
 by_cases h2 : decide ((e.AQ.length : Int) > 64) = true
 ·rw [A3 h2] at hm; cases hm
 rw [A1 h2] at hm
 have h64 : e.AQ.length ≤ 64 := by rw [A2] at h2; omega
 have hl := Hm (R := Int ⊕ Unit) e.AQ.length (body := CE e) (fun i => (SH e i).map .inl) (r0 := .inr ()) (fun i hi => by
  unfold CE SH
  rw [A3 (by rw [A2]; omega), BN hi, AM9, ANc hi, AM9]
  dsimp only
  by_cases h8 : 8 < e.AQ[i].Bv.length
  ·rw [A3 (by rw [A2]; omega), A3 h8]; rfl
  ·rw [A1 (by rw [A2]; omega), A1 h8, QK _ _ (by omega), AM9, CS (by omega)]
   rcases Q2 e.Classes e.AQ[i] with _ | _ <;> rfl) (by
  unfold CE
  rw [A1 (by rw [A2]; omega)])
 rw [hl, AM9, JA, QM] at hm
 rcases hf : (List.range e.AQ.length).findSome? (SH e) with _ | r
 ·rw [hf] at hm
  dsimp only at hm
  by_cases h3 : decide (e.Fn < 0) = true
  ·rw [A3 h3] at hm; cases hm
  rw [A1 h3] at hm
  by_cases h4 : decide (e.Fn ≥ (e.AQ.length : Int)) = true
  ·rw [A3 h4] at hm; cases hm
  rw [A1 h4] at hm
  rw [A2] at h3 h4
  obtain ⟨s, hs, hm⟩ := bind_ok hm
  obtain ⟨f, hst, hm⟩ := bind_ok hm
  refine ⟨⟨by simpa using h1, hg, h64, fun s hs => ?_, by omega⟩, s, f.1, hs, ?_⟩
  ·obtain ⟨i, hi, rfl⟩ := List.mem_iff_getElem.1 hs
   have := (List.findSome?_eq_none_iff.1 hf) i (List.mem_range.2 hi)
   unfold SH at this
   rw [ANc hi] at this
   dsimp only at this
   split at this
   ·cases this
   ·split at this
    ·cases this
    ·rename_i q1 q2
     exact ⟨by omega, by simpa using q2⟩
  ·rw [hst]
   have := Option.some.inj hm
   rw [← this]
 ·rw [hf] at hm
  dsimp only at hm
  obtain ⟨i, hi, hr⟩ := List.exists_of_findSome?_eq_some hf
  unfold SH at hr
  have := Option.some.inj hm
  subst this
  split at hr
  ·cases hr
  ·repeat' split at hr
   all_goals cases hr
end Go.Proofs.YtfcpkcehecmcpaaGreat
